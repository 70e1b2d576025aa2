import PyProof.Rows.All
import Wide.All
import OpenK.AllK
import Wide.FinOn
import HandS.Text
import HandS.Codes
import PyProof.Rows.ReprOcc
import PyProof.EqAt
import PyProof.EqKinds
import PyProof.TupleCall
import HandS.ForMost
import HandS.More
import HandS.Exc
import HandS.ExcOwn
import HandS.TryOnly
import HandS.ExcInit
import HandS.ExcField
import HandS.ExcIs
import HandS.TryMany
import HandS.ExcCtx
import HandS.Hot
import HandS.HotCalls
import HandS.Star
import HandS.Slots
import HandS.SlotsVar
import HandS.SlotsOwn
import HandS.ClsMeth
import HandS.Property
import HandS.MakeKwOnly
import HandS.Lambda
import HandS.IsInst
import HandS.Deep
import HandS.TupAny
import HandS.Wide
import HandS.WideBits
import HandS.Steps
import HandS.Style
import HandS.NoneIn
import HandS.FStr
import HandS.Small
import HandS.RaiseMore
import HandS.Evl
import HandS.WordsExc
import HandS.Walk
import HandS.HeadHook1
import HandS.HeadHook2
import HandS.HeadHook3
import HandS.HeadHook4
import HandS.HeadNt
import HandS.EndTab
import HandS.HeadWalk
import KE.GoesMore
import KE.KCallOwn
import HandS.Conv
import KE.KDictPairs
import HandS.OwnEq
import HandS.DeepEq
import KE.KStateDown
import HandS.Head0
import HandS.Head1
import HandS.Head2
import PySem.Challenge.RW_lamprounds_k19_whole_lines_of_lots_chang
set_option Elab.async false
set_option linter.all false
set_option maxRecDepth 100000
set_option maxHeartbeats 4000000
set_option exponentiation.threshold 3000
namespace Lm
open PySem TL
/-! ### numbers as texts -/
def numS (i : Int) : Str := Str.ofString (toString i)
theorem tl_numS_nat (n : Nat) : tl (numS (n : Int)) = numL n := tl_num n
theorem tl_numS_neg (m : Nat) : tl (numS (Int.negSucc m)) = 45 :: numL (m + 1) := by
  have e : toString (Int.negSucc m) = "-" ++ Nat.repr (m + 1) := rfl
  have e2 : tl (Str.ofString (Nat.repr (m + 1))) = numL (m + 1) := tl_num (m + 1)
  unfold numS
  rw [e, tl_ofString, String.toList_append, List.map_append]
  rw [tl_ofString] at e2
  rw [e2]
  rfl
theorem num_free {k : Nat} (h1 : k ≠ 45) (h2 : k < 48 ∨ 57 < k) (i : Int) : k ∉ tl (numS i) := by
  cases i with
  | ofNat n => rw [show Int.ofNat n = (n : Int) from rfl, tl_numS_nat]; exact numL_free h2
  | negSucc m =>
    rw [tl_numS_neg]
    intro h
    rcases List.mem_cons.mp h with h | h
    · exact h1 h
    · exact numL_free h2 h
theorem num_len {i : Int} {k : Nat} (hk : 0 < k) (h : i.natAbs < 10 ^ k) : (numS i).length ≤ k + 1 := by
  rw [len_tl]
  cases i with
  | ofNat n => rw [show Int.ofNat n = (n : Int) from rfl, tl_numS_nat]; exact Nat.le_succ_of_le (numL_len hk h)
  | negSucc m => rw [tl_numS_neg, List.length_cons]; exact Nat.succ_le_succ (numL_len hk h)
theorem num_ne (i : Int) : tl (numS i) ≠ [] := by
  cases i with
  | ofNat n => rw [show Int.ofNat n = (n : Int) from rfl, tl_numS_nat]; exact numL_ne n
  | negSucc m => rw [tl_numS_neg]; simp
/-! ### a word of an integer -/
def isDg (c : Nat) : Bool := decide (48 ≤ c) && decide (c ≤ 57)
def bodyW (l : List Nat) : List Nat := if l.take 1 = [45] then l.drop 1 else l
def valW (l : List Nat) : Int := match l with
  | 45 :: r => -(NumText.digitsVal r : Nat)
  | r => (NumText.digitsVal r : Nat)
def wInt (s : Str) : Option Int :=
  if bodyW (tl s) = [] ∨ (bodyW (tl s)).all isDg = false then none else if numS (valW (tl s)) = s then some (valW (tl s)) else none
theorem allDg {l : List Nat} (h : l.all isDg = true) : NumText.AllDigits l := fun c hc => by
  have := List.all_eq_true.mp h c hc
  simpa [isDg] using this
theorem bodyW_cases (l : List Nat) : (∃ r, l = 45 :: r ∧ bodyW l = r ∧ valW l = -(NumText.digitsVal r : Nat)) ∨ (bodyW l = l ∧ (bodyW l).all isDg = true → valW l = (NumText.digitsVal l : Nat)) := by
  cases l with
  | nil => exact .inr fun _ => rfl
  | cons c r =>
    by_cases h : c = 45
    · subst h; exact .inl ⟨r, rfl, rfl, rfl⟩
    · refine .inr fun _ => ?_
      unfold valW
      split
      · rename_i r' e
        injection e with e1 e2
        exact absurd e1 h
      · rfl
theorem bodyW_ne {l : List Nat} (h : ∀ r, l ≠ 45 :: r) : bodyW l = l := by
  cases l with
  | nil => rfl
  | cons c r =>
    have hc : c ≠ 45 := fun e => h r (by rw [e])
    unfold bodyW
    rw [if_neg (by simpa using hc)]
theorem intW {s : Str} (h1 : bodyW (tl s) ≠ []) (h2 : (bodyW (tl s)).all isDg = true) (hl : s.length ≤ 4300) : intText? s = some (valW (tl s)) := by
  by_cases h : ∃ r, tl s = 45 :: r
  · obtain ⟨r, e⟩ := h
    rw [e] at h1 h2 ⊢
    exact PySem.intText_neg e (allDg h2) h1 hl
  · have e := bodyW_ne fun r z => h ⟨r, z⟩
    rw [e] at h1 h2
    rw [PySem.intText_digits (allDg h2) h1 hl]
    congr 1
    show _ = valW (tl s)
    unfold valW
    split
    · rename_i r' e'
      exact absurd ⟨r', e'⟩ h
    · rfl
theorem dval_lt : ∀ (l : List Nat) (a : Nat), NumText.AllDigits l → l.foldl (fun acc c => acc * 10 + (c - 48)) a < (a + 1) * 10 ^ l.length
  | [], a, _ => by simp
  | c :: r, a, h => by
    have hc := h.head
    have ih := dval_lt r (a * 10 + (c - 48)) h.tail
    have e : (a * 10 + (c - 48) + 1) * 10 ^ r.length ≤ (a + 1) * 10 ^ (r.length + 1) := by
      rw [Nat.pow_succ, Nat.mul_comm (10 ^ r.length) 10, ← Nat.mul_assoc]
      exact Nat.mul_le_mul_right _ (by omega)
    rw [List.foldl_cons, List.length_cons]
    exact Nat.lt_of_lt_of_le ih e
theorem valW_lt {l : List Nat} (h : (bodyW l).all isDg = true) : (valW l).natAbs < 10 ^ l.length := by
  by_cases hh : ∃ r, l = 45 :: r
  · obtain ⟨r, e⟩ := hh
    subst e
    have k := dval_lt r 0 (allDg h)
    have e2 : (valW (45 :: r)).natAbs = NumText.digitsVal r := by
      show (-(NumText.digitsVal r : Nat) : Int).natAbs = _
      omega
    rw [e2, List.length_cons, Nat.pow_succ]
    simp only [Nat.zero_add, Nat.one_mul] at k
    have : NumText.digitsVal r < 10 ^ r.length := k
    omega
  · have e := bodyW_ne fun r z => hh ⟨r, z⟩
    rw [e] at h
    have k := dval_lt l 0 (allDg h)
    simp only [Nat.zero_add, Nat.one_mul] at k
    have e2 : valW l = (NumText.digitsVal l : Nat) := by
      unfold valW
      split
      · exact absurd ⟨_, rfl⟩ hh
      · rfl
    rw [e2]
    exact k
theorem big_pow : 10 ^ 500 ≤ 2 ^ 1700 := by decide +kernel
theorem log_lt {n : Nat} (h : n < 10 ^ 500) : n.log2 < 1920 := by
  by_cases h0 : n = 0
  · subst h0; decide
  · have := (Nat.log2_lt h0).mpr (Nat.lt_of_lt_of_le h big_pow)
    omega
theorem valW_log {l : List Nat} (h : (bodyW l).all isDg = true) (hl : l.length ≤ 500) : (valW l).natAbs.log2 < 1920 :=
  log_lt (Nat.lt_of_lt_of_le (valW_lt h) (Nat.pow_le_pow_right (by decide) hl))
theorem numL_dg (n : Nat) : (numL n).all isDg = true := List.all_eq_true.mpr fun c hc => by
  have := numL_digits n c hc
  simpa [isDg] using this
theorem numL_no45 {n : Nat} {r : List Nat} : numL n ≠ 45 :: r := fun e => by
  have := numL_digits n 45 (by rw [e]; exact List.mem_cons_self)
  omega
/-- str(i) is read back -/
theorem wInt_num (i : Int) : wInt (numS i) = some i := by
  unfold wInt
  cases i with
  | ofNat n =>
    rw [show Int.ofNat n = (n : Int) from rfl, tl_numS_nat]
    have b : bodyW (numL n) = numL n := bodyW_ne fun r => numL_no45
    have v : valW (numL n) = (n : Int) := by
      unfold valW
      split
      · rename_i r e
        exact absurd e numL_no45
      · rw [numL_val]
    rw [b, v, if_neg (by simp [numL_ne, numL_dg]), if_pos rfl]
  | negSucc m =>
    rw [tl_numS_neg]
    have b : bodyW (45 :: numL (m + 1)) = numL (m + 1) := rfl
    have v : valW (45 :: numL (m + 1)) = Int.negSucc m := by
      show -(NumText.digitsVal (numL (m + 1)) : Int) = _
      rw [numL_val]
      omega
    rw [b, v, if_neg (by simp [numL_ne, numL_dg]), if_pos rfl]
/-! ### split: the parts are short -/
theorem spl_len {S : List Nat} : ∀ (l : List Nat) (k : Nat) (acc : List Nat), ∀ p ∈ spl S k acc l, p.length ≤ acc.length + l.length
  | [], k, acc, p, hp => by
    rw [spl_nil] at hp
    rw [List.mem_singleton.mp hp]
    simp
  | c :: r, k, acc, p, hp => by
    cases k with
    | zero =>
      cases h : pre S (c :: r) with
      | true =>
        rw [spl_hit h] at hp
        rcases List.mem_cons.mp hp with e | hp
        · subst e; simp
        · have := spl_len r _ _ p hp
          simp only [List.length_nil, List.length_cons] at this ⊢
          omega
      | false =>
        rw [spl_miss h] at hp
        have := spl_len r _ _ p hp
        simp only [List.length_append, List.length_cons, List.length_nil] at this ⊢
        omega
    | succ k =>
      have hp' : p ∈ spl S k acc r := hp
      have := spl_len r _ _ p hp'
      simp only [List.length_cons]
      omega
theorem spl_cnt {S : List Nat} : ∀ (l : List Nat) (k : Nat) (acc : List Nat), (spl S k acc l).length ≤ l.length + 1
  | [], k, acc => by rw [spl_nil]; simp
  | c :: r, k, acc => by
    cases k with
    | zero =>
      cases h : pre S (c :: r) with
      | true =>
        rw [spl_hit h]
        have := spl_cnt (S := S) r (S.length - 1) []
        simp only [List.length_cons]
        omega
      | false =>
        rw [spl_miss h]
        have := spl_cnt (S := S) r 0 (acc ++ [c])
        simp only [List.length_cons]
        omega
    | succ k =>
      show (spl S k acc r).length ≤ _
      have := spl_cnt (S := S) r k acc
      simp only [List.length_cons]
      omega
theorem spl_pos {S : List Nat} : ∀ (l : List Nat) (k : Nat) (acc : List Nat), spl S k acc l ≠ []
  | [], k, acc => by rw [spl_nil]; simp
  | c :: r, k, acc => by
    cases k with
    | zero =>
      cases h : pre S (c :: r) with
      | true => rw [spl_hit h]; simp
      | false => rw [spl_miss h]; exact spl_pos r _ _
    | succ k => exact spl_pos r k acc
/-- a separator of one sign below 128 -/
def sep (c : Nat) : Str := ⟨#[c]⟩
theorem tl_sep (c : Nat) : tl (sep c) = [c] := rfl
theorem split_sep {c : Nat} (hc : c < 256) (x : Str) : (Txt.split x (sep c)).map tl = spl [c] 0 [] (tl x) := split_spl x (sep c) (by simp [tl_sep]) (kind_ok (by simp [sep, hc]))
theorem split_len {c : Nat} (hc : c < 256) {x p : Str} (h : p ∈ Txt.split x (sep c)) : p.length ≤ x.length := by
  have h2 : tl p ∈ spl [c] 0 [] (tl x) := by rw [← split_sep hc]; exact List.mem_map_of_mem h
  have := spl_len _ _ _ _ h2
  rw [len_tl, len_tl]
  simpa using this
theorem split_cnt {c : Nat} (hc : c < 256) (x : Str) : (Txt.split x (sep c)).length ≤ x.length + 1 := by
  have := spl_cnt (S := [c]) (tl x) 0 []
  rw [← split_sep hc, List.length_map] at this
  rw [len_tl]
  exact this
theorem split_ne {c : Nat} (hc : c < 256) (x : Str) : Txt.split x (sep c) ≠ [] := fun e => by
  have := spl_pos (S := [c]) (tl x) 0 []
  rw [← split_sep hc, e] at this
  exact this rfl
theorem split_joined {c : Nat} (hc : c < 256) {parts : List Str} (hne : parts ≠ []) (hp : ∀ p ∈ parts, c ∉ tl p) : Txt.split (Txt.join (sep c) parts) (sep c) = parts :=
  split_join (s := c) (S := []) rfl (by simp [sep, hc]) hne hp
end Lm
namespace Lm
open PySem TL
/-! ### rounds -/
structure RD where
  p : Int
  ls : List (Int × Int)
  e : Int
deriving DecidableEq
theorem sp_sep : (" " : Str) = sep 32 := by decide +kernel
theorem co_sep : (":" : Str) = sep 58 := by decide +kernel
theorem nl_sep : ("\n" : Str) = sep 10 := by decide +kernel
def lampS (a : Int × Int) : Str := numS a.1 ++ (":" : Str) ++ numS a.2
def wordsR (r : RD) : List Str := ("levels" : Str) :: numS r.p :: ("end" : Str) :: numS r.e :: (if r.ls = [] then [("dark" : Str)] else ("lamps" : Str) :: r.ls.map lampS)
def sheetS (r : RD) : Str := Txt.join (" " : Str) (wordsR r)
def lampR (w : Str) : Option (Int × Int) := match (Txt.split w (":" : Str)).map wInt with
  | [some a, some b] => some (a, b)
  | _ => none
/-- the i-th lamp is right -/
def goodAt (p : Int) (ls : List (Option (Int × Int))) (i : Nat) : Bool := match ls[i]? with
  | some (some (a, l)) => decide (0 < l) && decide (l < p) && (decide (i = 0) || match ls[i - 1]? with
    | some (some (q, _)) => decide (q < a)
    | _ => false)
  | _ => false
def okL (p : Int) (ls : List (Option (Int × Int))) : Bool := (List.range ls.length).all (goodAt p ls)
def isLev (p : Int) : Bool := decide (p = 2) || decide (p = 3) || decide (p = 5) || decide (p = 7)
def readW : List Str → Option RD
  | w0 :: w1 :: w2 :: w3 :: w4 :: rest =>
    if w0 = ("levels" : Str) ∧ w2 = ("end" : Str) then
      match wInt w1, wInt w3 with
      | some p, some e =>
        if isLev p = true then
          if w4 = ("dark" : Str) ∧ rest = [] then some ⟨p, [], e⟩
          else if w4 = ("lamps" : Str) ∧ rest ≠ [] ∧ rest.length ≤ 400 ∧ okL p (rest.map lampR) = true then some ⟨p, (rest.map lampR).filterMap id, e⟩
          else none
        else none
      | _, _ => none
    else none
  | _ => none
def readR (s : Str) : Option RD := readW (Txt.split s (" " : Str))
structure Valid (r : RD) : Prop where
  lev : isLev r.p = true
  ok : okL r.p (r.ls.map some) = true
  few : r.ls.length ≤ 400
theorem lamp_free {k : Nat} (h1 : k ≠ 45) (h2 : k < 48 ∨ 57 < k) (h3 : k ≠ 58) (a : Int × Int) : k ∉ tl (lampS a) := by
  unfold lampS
  rw [tl_append, tl_append]
  intro h
  rcases List.mem_append.mp h with h | h
  · rcases List.mem_append.mp h with h | h
    · exact num_free h1 h2 _ h
    · rw [co_sep, tl_sep] at h
      exact h3 (List.mem_singleton.mp h)
  · exact num_free h1 h2 _ h
theorem words_free {k : Nat} (h1 : k < 45) (r : RD) : ∀ w ∈ wordsR r, k ∉ tl w := by
  have cst : ∀ s : Str, (tl s).all (fun c => decide (k ≠ c)) = true → k ∉ tl s := fun s h hk => by
    have := List.all_eq_true.mp h k hk
    simp at this
  have c1 : tl ("levels" : Str) = [108, 101, 118, 101, 108, 115] := by decide +kernel
  have c2 : tl ("end" : Str) = [101, 110, 100] := by decide +kernel
  have c3 : tl ("dark" : Str) = [100, 97, 114, 107] := by decide +kernel
  have c4 : tl ("lamps" : Str) = [108, 97, 109, 112, 115] := by decide +kernel
  have nf : ∀ i, k ∉ tl (numS i) := num_free (by omega) (.inl (by omega))
  have lf : ∀ a, k ∉ tl (lampS a) := lamp_free (by omega) (.inl (by omega)) (by omega)
  intro w hw
  unfold wordsR at hw
  simp only [List.mem_cons] at hw
  rcases hw with rfl | rfl | rfl | rfl | hw
  · rw [c1]; simp; omega
  · exact nf _
  · rw [c2]; simp; omega
  · exact nf _
  · split at hw
    · rw [List.mem_singleton.mp hw, c3]; simp; omega
    · rcases List.mem_cons.mp hw with rfl | hw
      · rw [c4]; simp; omega
      · obtain ⟨a, _, rfl⟩ := List.mem_map.mp hw
        exact lf a
theorem lampR_lampS (a : Int × Int) : lampR (lampS a) = some a := by
  have e : lampS a = Txt.join (sep 58) [numS a.1, numS a.2] := by
    refine ext_tl ?_
    unfold lampS
    rw [join_eq, tl_join, tl_append, tl_append, co_sep, tl_sep]
    show _ = tl (numS a.1) ++ ([58] ++ tl (numS a.2))
    rw [List.append_assoc]
  unfold lampR
  rw [e, co_sep, split_joined (by decide) (by simp)]
  · simp only [List.map_cons, List.map_nil, wInt_num]
  · intro p hp
    simp only [List.mem_cons, List.not_mem_nil, or_false] at hp
    rcases hp with rfl | rfl
    · exact num_free (by decide) (.inr (by decide)) _
    · exact num_free (by decide) (.inr (by decide)) _
theorem words_ne (r : RD) : wordsR r ≠ [] := by unfold wordsR; simp
theorem split_sheet (r : RD) : Txt.split (sheetS r) (" " : Str) = wordsR r := by
  unfold sheetS
  rw [sp_sep]
  exact split_joined (by decide) (words_ne r) (words_free (by decide) r)
theorem map_lampR (ls : List (Int × Int)) : (ls.map lampS).map lampR = ls.map some := by
  rw [List.map_map]
  exact List.map_congr_left fun a _ => lampR_lampS a
theorem filterMap_some (ls : List (Int × Int)) : (ls.map some).filterMap id = ls := by
  induction ls with
  | nil => rfl
  | cons a l ih => simp
theorem readR_sheet {r : RD} (h : Valid r) : readR (sheetS r) = some r := by
  unfold readR
  rw [split_sheet]
  unfold wordsR
  by_cases hl : r.ls = []
  · rw [if_pos hl]
    unfold readW
    dsimp only
    rw [if_pos (And.intro rfl rfl), wInt_num, wInt_num]
    dsimp only
    rw [if_pos h.lev, if_pos (And.intro rfl rfl), ← hl]
  · rw [if_neg hl]
    unfold readW
    dsimp only
    rw [if_pos (And.intro rfl rfl), wInt_num, wInt_num]
    dsimp only
    rw [if_pos h.lev, if_neg (fun z => absurd z.1 (by decide +kernel)), map_lampR, filterMap_some, if_pos ⟨rfl, by simpa using hl, by simpa using h.few, h.ok⟩]
/-! ### the law's own writing -/
def tailS (r : RD) : Str := if r.ls = [] then ("dark" : Str) else ("lamps " : Str) ++ Txt.join (" " : Str) (r.ls.map lampS)
def sheetS' (r : RD) : Str := ("levels " : Str) ++ numS r.p ++ (" end " : Str) ++ numS r.e ++ (" " : Str) ++ tailS r
theorem joinL_cons (S p : List Nat) {l : List (List Nat)} (h : l ≠ []) : joinL S (p :: l) = p ++ (S ++ joinL S l) := by
  cases l with
  | nil => exact absurd rfl h
  | cons q r => rfl
theorem sheetS'_eq (r : RD) : sheetS' r = sheetS r := by
  refine ext_tl ?_
  unfold sheetS' sheetS
  rw [sp_sep, join_eq, tl_join, tl_sep]
  unfold wordsR tailS
  have c1 : tl ("levels " : Str) = tl ("levels" : Str) ++ [32] := by decide +kernel
  have c2 : tl (" end " : Str) = [32] ++ (tl ("end" : Str) ++ [32]) := by decide +kernel
  have c4 : tl ("lamps " : Str) = tl ("lamps" : Str) ++ [32] := by decide +kernel
  simp only [tl_append, c1, c2, tl_sep, List.map_cons]
  rw [joinL_cons _ _ (by simp), joinL_cons _ _ (by simp), joinL_cons _ _ (by simp), joinL_cons _ _ (by split <;> simp)]
  by_cases hl : r.ls = []
  · rw [if_pos hl, if_pos hl]
    simp only [List.map_cons, List.map_nil, joinL, List.append_assoc]
  · rw [if_neg hl, if_neg hl, tl_append, c4, join_eq, sp_sep, tl_join, tl_sep, List.map_cons, joinL_cons _ _ (by simpa using hl)]
    simp only [List.append_assoc]
/-! ### lots -/
def fitsR (r : RD) : Bool := decide (r.e.natAbs ≤ 8) && r.ls.all fun a => decide (a.1.natAbs ≤ 24)
def okLot (ls : List (Option RD)) : Bool := decide (ls.length ≤ 4) && ls.all fun x => match x, ls[0]? with
  | some r, some (some r0) => fitsR r && decide (r.p = r0.p)
  | _, _ => false
def readLot (s : Str) : Option (List RD) := if okLot ((Txt.split s ("\n" : Str)).map readR) = true then some (((Txt.split s ("\n" : Str)).map readR).filterMap id) else none
def sheetL (rs : List RD) : Str := Txt.join ("\n" : Str) (rs.map sheetS)
structure ValidL (rs : List RD) : Prop where
  ne : rs ≠ []
  few : rs.length ≤ 4
  val : ∀ r ∈ rs, Valid r
  fit : ∀ r ∈ rs, fitsR r = true
  same : ∀ r ∈ rs, ∀ r0, rs[0]? = some r0 → r.p = r0.p
theorem sheet_free {k : Nat} (h1 : k < 32) (r : RD) : k ∉ tl (sheetS r) := by
  have key : ∀ ws : List (List Nat), (∀ w ∈ ws, k ∉ w) → k ∉ joinL [32] ws := by
    intro ws
    induction ws with
    | nil => intro _ h; cases h
    | cons w ws ih =>
      intro hw h
      cases ws with
      | nil => exact hw w List.mem_cons_self h
      | cons w2 ws =>
        rw [joinL_cons _ _ (by simp)] at h
        rcases List.mem_append.mp h with h | h
        · exact hw w List.mem_cons_self h
        · rcases List.mem_append.mp h with h | h
          · have := List.mem_singleton.mp h; omega
          · exact ih (fun z hz => hw z (List.mem_cons_of_mem _ hz)) h
  unfold sheetS
  rw [join_eq, tl_join, sp_sep, tl_sep]
  refine key _ fun w hw => ?_
  obtain ⟨z, hz, rfl⟩ := List.mem_map.mp hw
  exact words_free (by omega) r z hz
theorem split_sheetL {rs : List RD} (h : rs ≠ []) : Txt.split (sheetL rs) ("\n" : Str) = rs.map sheetS := by
  unfold sheetL
  rw [nl_sep]
  refine split_joined (by decide) (by simpa using h) fun p hp => ?_
  obtain ⟨r, _, rfl⟩ := List.mem_map.mp hp
  exact sheet_free (by decide) r
theorem map_readR {rs : List RD} (h : ∀ r ∈ rs, Valid r) : (rs.map sheetS).map readR = rs.map some := by
  rw [List.map_map]
  exact List.map_congr_left fun r hr => readR_sheet (h r hr)
theorem filterMap_someR (rs : List RD) : (rs.map some).filterMap id = rs := by
  induction rs with
  | nil => rfl
  | cons a l ih => simp
theorem readLot_sheet {rs : List RD} (h : ValidL rs) : readLot (sheetL rs) = some rs := by
  unfold readLot
  rw [split_sheetL h.ne, map_readR h.val, filterMap_someR, if_pos ?_]
  unfold okLot
  obtain ⟨r0, hr0⟩ : ∃ r0, rs[0]? = some r0 := by
    cases hrs : rs with
    | nil => exact absurd hrs h.ne
    | cons a l => exact ⟨a, rfl⟩
  rw [List.length_map, decide_eq_true h.few, Bool.true_and, List.all_eq_true]
  intro x hx
  obtain ⟨r, hr, rfl⟩ := List.mem_map.mp hx
  rw [List.getElem?_map, hr0]
  show (fitsR r && decide (r.p = r0.p)) = true
  rw [h.fit r hr, h.same r hr r0 hr0]
  simp
/-! ### sizes -/
theorem joinL_len (S : List Nat) : ∀ l : List (List Nat), (joinL S l).length ≤ (l.map List.length).sum + l.length * S.length
  | [] => by simp [joinL]
  | [p] => by simp [joinL]
  | p :: q :: r => by
    have := joinL_len S (q :: r)
    rw [joinL_cons _ _ (by simp)]
    simp only [List.length_append, List.map_cons, List.sum_cons, List.length_cons] at this ⊢
    rw [Nat.add_mul (r.length + 1) 1, Nat.one_mul]
    omega
theorem join_len (y : Str) (l : List Str) : (Txt.join y l).length ≤ (l.map (·.length)).sum + l.length * y.length := by
  rw [join_eq, len_tl, tl_join]
  have := joinL_len (tl y) (l.map tl)
  have e : (l.map tl).map List.length = l.map (·.length) := by
    rw [List.map_map]
    exact List.map_congr_left fun x _ => (len_tl x).symm
  rw [e, List.length_map, ← len_tl] at this
  exact this
theorem sum_le {l : List Str} {n : Nat} (h : ∀ x ∈ l, x.length ≤ n) : (l.map (·.length)).sum ≤ l.length * n := by
  induction l with
  | nil => simp
  | cons a l ih =>
    have h1 := h a List.mem_cons_self
    have h2 := ih fun x hx => h x (List.mem_cons_of_mem _ hx)
    simp only [List.map_cons, List.sum_cons, List.length_cons, Nat.add_mul, Nat.one_mul]
    omega
theorem len_add (x y : Str) : (x ++ y).length = x.length + y.length := by rw [len_tl, tl_append, List.length_append, ← len_tl, ← len_tl]
structure Small (r : RD) : Prop where
  p : r.p.natAbs < 10
  e : r.e.natAbs < 10 ^ 40
  few : r.ls.length ≤ 5
  ls : ∀ a ∈ r.ls, a.1.natAbs < 10 ^ 40 ∧ a.2.natAbs < 10
theorem lampS_len {a : Int × Int} (h1 : a.1.natAbs < 10 ^ 40) (h2 : a.2.natAbs < 10) : (lampS a).length ≤ 44 := by
  have l1 := num_len (by decide) h1
  have l2 := num_len (k := 1) (by decide) h2
  unfold lampS
  rw [len_add, len_add, co_sep]
  have : (sep 58).length = 1 := rfl
  omega
theorem words_len {r : RD} (h : Small r) : (∀ w ∈ wordsR r, w.length ≤ 44) ∧ (wordsR r).length ≤ 10 := by
  have l1 := num_len (k := 1) (by decide) h.p
  have l2 := num_len (by decide) h.e
  have c1 : ("levels" : Str).length = 6 := by decide +kernel
  have c2 : ("end" : Str).length = 3 := by decide +kernel
  have c3 : ("dark" : Str).length = 4 := by decide +kernel
  have c4 : ("lamps" : Str).length = 5 := by decide +kernel
  refine ⟨fun w hw => ?_, ?_⟩
  · unfold wordsR at hw
    simp only [List.mem_cons] at hw
    rcases hw with rfl | rfl | rfl | rfl | hw
    · omega
    · omega
    · omega
    · omega
    · split at hw
      · rw [List.mem_singleton.mp hw]; omega
      · rcases List.mem_cons.mp hw with rfl | hw
        · omega
        · obtain ⟨a, ha, rfl⟩ := List.mem_map.mp hw
          obtain ⟨h1, h2⟩ := h.ls a ha
          exact lampS_len h1 h2
  · unfold wordsR
    have := h.few
    split <;> simp <;> omega
theorem sheetS_len {r : RD} (h : Small r) : (sheetS r).length ≤ 450 := by
  obtain ⟨h1, h2⟩ := words_len h
  have k := join_len (" " : Str) (wordsR r)
  have s := sum_le h1
  have : (" " : Str).length = 1 := by decide +kernel
  unfold sheetS
  rw [this] at k
  have : (wordsR r).length * 44 ≤ 440 := by omega
  omega
end Lm
namespace Lk
open PySem PySem.Spec PyProof.Rows L2 Evl
/-! ### the text by places -/
def top (i : Nat) : Stmt := PySem.Challenge.pw_lamprounds_k19_whole_lines_of_lots_chang.main.body.getD i (.Pass ⟨0, 0, 0, 0⟩)
/-- a def of the text stands at f -/
def IsDef (K : PySem.W.Frag) (x qual : Str) (st : Stmt) (f : Addr) : Prop := ∃ fd, L2.Fun K x qual st f fd
/-- .. under its own name in the module -/
structure Dfn (K : PySem.W.Frag) (mg : Str → Option Value) (x : Str) (st : Stmt) : Prop where
  at_ : mg x = some (.ref (He.ga K x))
  df : IsDef K x x st (He.ga K x)
theorem Dfn.kp {K : PySem.W.Frag} {mg : Str → Option Value} {x : Str} {st : Stmt} (d : Dfn K mg x st) : PySem.W.keepIn K (.ref (He.ga K x)) = true := by
  obtain ⟨fd, F⟩ := d.df
  exact F.kp
section
variable {P : Program} {w : World} {K : PySem.W.Frag} {mg : Str → Option Value} {base : Heap}
/-- a def that lets no exception out -/
theorem mkD {x qual : Str} {st : Stmt} {f : Addr} {N ps : List Str} {k : Nat} {sp : Sp} (F : IsDef K x qual st f) (S : FnScope N ps (defScope st)) (len : ∀ vs H Q E, sp vs H Q E → vs.length = ps.length)
    (hb : ∀ (kV doc pm : Value) (an : Option Addr) (cdv ct : Value) (us : List Value), us.length = ps.length → bindArgs (PySem.W.fnOf x qual (defArgs st) (defBody st) (defScope st) .none kV doc pm an cdv ct) ⟨us, []⟩ = pure (ps.zip us))
    (hbody : ∀ (cdv : Value) (A : Around) (outer : List Env) (s : Shared) (H : Hp) (vs : List V) (Q : VK) (E : XK), Room k (A.deeper (envOfC qual (defScope st) s.heap.objs.size f cdv)) → sp vs H Q E →
      ∃ t, PSs (cxOf CX0 P w K mg base N qual (defScope st) f cdv A outer s H E).nox (defBody st) t ∧ t { nx := fun _ H' => Q .non H', rt := Q } (start N vs) H) : FnR P w K mg base CX0 (k + 1) f sp := by
  obtain ⟨fd, F⟩ := F
  have G := F.ok (P := P) (w := w) (mg := mg) (base := base) S len hbody
  exact (G.raw (F.binds hb) .nil).imp fun vs H Q E h => by
    rw [List.append_nil]
    exact h
/-- a def that may let one out -/
theorem mkX {CX : CXT} {x qual : Str} {st : Stmt} {f : Addr} {N ps : List Str} {k : Nat} {sp : Sp} (F : IsDef K x qual st f) (S : FnScope N ps (defScope st)) (len : ∀ vs H Q E, sp vs H Q E → vs.length = ps.length)
    (hb : ∀ (kV doc pm : Value) (an : Option Addr) (cdv ct : Value) (us : List Value), us.length = ps.length → bindArgs (PySem.W.fnOf x qual (defArgs st) (defBody st) (defScope st) .none kV doc pm an cdv ct) ⟨us, []⟩ = pure (ps.zip us))
    (hbody : ∀ (cdv : Value) (A : Around) (outer : List Env) (s : Shared) (H : Hp) (vs : List V) (Q : VK) (E : XK), Room k (A.deeper (envOfC qual (defScope st) s.heap.objs.size f cdv)) → sp vs H Q E →
      ∃ t, PSs (cxOf CX P w K mg base N qual (defScope st) f cdv A outer s H E) (defBody st) t ∧ t { nx := fun _ H' => Q .non H', rt := Q } (start N vs) H) : FnR P w K mg base CX (k + 1) f sp := by
  obtain ⟨fd, F⟩ := F
  have F2 := F
  obtain ⟨oc, od, kV, doc, pm, an, cdv, ct, osl, rfl, lk, hcd⟩ := F.ex
  have G : FnOk P w K mg base CX (k + 1) f _ ps sp := fn_of lk hcd S len fun A outer s H vs Q E hr hsp => hbody cdv A outer s H vs Q E hr hsp
  exact (G.raw (F2.binds hb) .nil).imp fun vs H Q E h => by
    rw [List.append_nil]
    exact h
end
/-- x(e, ..), x a def of the module that lets nothing out -/
def tC1 (sp : Sp) (t : TA) : TE := fun σ H Q => t σ H fun vs H1 => sp vs H1 Q E0
section
variable {X : Cx} {k j : Nat} {f : Addr} {sp : Sp} {x : Str} {st : Stmt} {e : Expr} {es : List Expr} {t : TA} {p pos : Pos}
theorem pe_d (D : Dfn X.K X.mg x st) (F : FnR X.prog X.w X.K X.mg X.base CX0 k (He.ga X.K x) sp) (hr : Room j X.A) (ha : PA X (e :: es) t) (hk : k ≤ j := by decide) (hg : Gl X x := by rfl) (hd : (x == ("__debug__" : Str)) = false := by decide)
    (he : starEach (e :: es) X.env = (false, eval e X.env) :: starEach es X.env := by rfl) (hpl : (backTo pos (starEach es X.env)).any (·.1) = false := by rfl) :
    PE X (.Call (.Name x p) (e :: es) [] pos) (tC1 sp t) := by
  refine ⟨fun pins s σ H Q I h => ?_⟩
  refine wpAny_Call_Name_kw (ld_glob I hg D.at_ ?_ hd)
  refine PySem.W.callWith_K (h₀ := X.base) I.ok.mod.kin D.kp (thn (ha.run pos pins s σ H _ I h) fun us s1 ⟨vs, H1, I1, r, q⟩ => ⟨I1.kIn, ?_⟩) he hpl
  exact wpAny_call (run_fnR F (hr.mono hk) pass0 I1 r q)
end
/-! ### data -/
mutual
inductive Rp (K : PySem.W.Frag) (H : Hp) : V → PyData → Prop
  | non : Rp K H .non .none
  | bl (b : Bool) : Rp K H (.bl b) (.bool b)
  | int (i : Int) : Rp K H (.int i) (.int i)
  | str (x : Str) : Rp K H (.str x) (.str x)
  | lst {a : Addr} {xs : List V} {ds : List PyData} : SqL K H a xs → RpA K H xs ds → Rp K H (.ref a) (.list ds)
  | tup {a : Addr} {xs : List V} {ds : List PyData} : SqT K H a xs → RpA K H xs ds → Rp K H (.ref a) (.tuple ds)
  | dic {a : Addr} {kvs : List (Key × V)} {ds : List (PyData × PyData)} : H a = some (.dK kvs) → Rp K H (.ref a) (.dict ds)
inductive RpA (K : PySem.W.Frag) (H : Hp) : List V → List PyData → Prop
  | nil : RpA K H [] []
  | cons {v : V} {vs : List V} {d : PyData} {ds : List PyData} : Rp K H v d → RpA K H vs ds → RpA K H (v :: vs) (d :: ds)
end

section
variable {K : PySem.W.Frag} {H H' : Hp}
/-- what stands stays, but for the tables of code objects -/
abbrev ExN := LamX.ExtN
theorem exN {H H' : Hp} (e : Ex H H') : ExN H H' := LamX.ExtN.of e
theorem sqL_n {a : Addr} {xs : List V} (e : ExN H H') (h : SqL K H a xs) : SqL K H' a xs := by
  rcases h with (h | ⟨o, h⟩) | h
  · exact .inl (.inl (e _ _ h fun _ z => nomatch z))
  · exact .inl (.inr ⟨o, e _ _ h fun _ z => nomatch z⟩)
  · exact .inr h
theorem sqT_n {a : Addr} {xs : List V} (e : ExN H H') (h : SqT K H a xs) : SqT K H' a xs := by
  rcases h with (h | ⟨o, h⟩) | h
  · exact .inl (.inl (e _ _ h fun _ z => nomatch z))
  · exact .inl (.inr ⟨o, e _ _ h fun _ z => nomatch z⟩)
  · exact .inr h
mutual
theorem Rp.n (e : ExN H H') : ∀ (d : PyData) (v : V), Rp K H v d → Rp K H' v d
  | .none, _, h => by cases h; exact .non
  | .bool b, _, h => by cases h; exact .bl b
  | .int i, _, h => by cases h; exact .int i
  | .str x, _, h => by cases h; exact .str x
  | .list ds, _, h => by
    cases h with
    | lst hs ha => exact .lst (sqL_n e hs) (RpA.n e ds _ ha)
  | .tuple ds, _, h => by
    cases h with
    | tup hs ha => exact .tup (sqT_n e hs) (RpA.n e ds _ ha)
  | .dict _, _, h => by
    cases h with
    | dic hs => exact .dic (e _ _ hs fun _ z => nomatch z)
theorem RpA.n (e : ExN H H') : ∀ (ds : List PyData) (vs : List V), RpA K H vs ds → RpA K H' vs ds
  | [], _, h => by cases h; exact .nil
  | d :: ds, _, h => by
    cases h with
    | cons h1 h2 => exact .cons (Rp.n e d _ h1) (RpA.n e ds _ h2)
end
theorem Rp.x {d : PyData} {v : V} (h : Rp K H v d) (e : Ex H H') : Rp K H' v d := Rp.n (exN e) d v h
theorem RpA.x {ds : List PyData} {vs : List V} (h : RpA K H vs ds) (e : Ex H H') : RpA K H' vs ds := RpA.n (exN e) ds vs h
theorem RpA.len : ∀ {ds : List PyData} {vs : List V}, RpA K H vs ds → vs.length = ds.length
  | _, _, .nil => rfl
  | _, _, .cons _ t => congrArg Nat.succ (RpA.len t)
theorem RpA.get : ∀ {ds : List PyData} {vs : List V} {i : Nat} {v : V}, RpA K H vs ds → vs[i]? = some v → ∃ d, ds[i]? = some d ∧ Rp K H v d
  | _, _, _, _, .nil, e => by simp at e
  | _, _, 0, _, .cons r _, e => by simp at e; subst e; exact ⟨_, rfl, r⟩
  | _, _, i + 1, v, .cons _ t, e => by
    obtain ⟨d, h1, h2⟩ := RpA.get (i := i) (v := v) t (by simpa using e)
    exact ⟨d, by simpa using h1, h2⟩
theorem RpA.get' : ∀ {ds : List PyData} {vs : List V} {i : Nat} {d : PyData}, RpA K H vs ds → ds[i]? = some d → ∃ v, vs[i]? = some v ∧ Rp K H v d
  | _, _, _, _, .nil, e => by simp at e
  | _, _, 0, _, .cons r _, e => by simp at e; subst e; exact ⟨_, rfl, r⟩
  | _, _, i + 1, d, .cons _ t, e => by
    obtain ⟨v, h1, h2⟩ := RpA.get' (i := i) (d := d) t (by simpa using e)
    exact ⟨v, by simpa using h1, h2⟩
theorem RpA.app : ∀ {ds es : List PyData} {vs ws : List V}, RpA K H vs ds → RpA K H ws es → RpA K H (vs ++ ws) (ds ++ es)
  | _, _, _, _, .nil, h => h
  | _, _, _, _, .cons r t, h => .cons r (RpA.app t h)
theorem RpA.take : ∀ {ds : List PyData} {vs : List V} (n : Nat), RpA K H vs ds → RpA K H (vs.take n) (ds.take n)
  | _, _, 0, _ => by simp; exact .nil
  | _, _, _ + 1, .nil => .nil
  | _, _, n + 1, .cons r t => .cons r (RpA.take n t)
theorem RpA.drop : ∀ {ds : List PyData} {vs : List V} (n : Nat), RpA K H vs ds → RpA K H (vs.drop n) (ds.drop n)
  | _, _, 0, h => h
  | _, _, _ + 1, .nil => .nil
  | _, _, n + 1, .cons _ t => RpA.drop n t
theorem RpA.rev {ds : List PyData} {vs : List V} (h : RpA K H vs ds) : RpA K H vs.reverse ds.reverse := by
  induction vs generalizing ds with
  | nil => cases h; exact .nil
  | cons v vs ih =>
    cases h with
    | cons r t => rw [List.reverse_cons, List.reverse_cons]; exact (ih t).app (.cons r .nil)
theorem RpA.snoc {ds : List PyData} {vs : List V} {d : PyData} {v : V} (h : RpA K H vs ds) (r : Rp K H v d) : RpA K H (vs ++ [v]) (ds ++ [d]) := h.app (.cons r .nil)
theorem RpA.ints : ∀ ns : List Int, RpA K H (ns.map V.int) (ns.map PyData.int)
  | [] => .nil
  | n :: ns => .cons (.int n) (RpA.ints ns)
theorem RpA.strs : ∀ ns : List Str, RpA K H (ns.map V.str) (ns.map PyData.str)
  | [] => .nil
  | n :: ns => .cons (.str n) (RpA.strs ns)
theorem rpA_ints : ∀ {ns : List Int} {vs : List V}, RpA K H vs (ns.map PyData.int) → vs = ns.map V.int
  | [], _, h => by cases h; rfl
  | n :: ns, _, h => by
    cases h with
    | cons r t => cases r; rw [rpA_ints t]; rfl
theorem rpA_strs : ∀ {ns : List Str} {vs : List V}, RpA K H vs (ns.map PyData.str) → vs = ns.map V.str
  | [], _, h => by cases h; rfl
  | n :: ns, _, h => by
    cases h with
    | cons r t => cases r; rw [rpA_strs t]; rfl
mutual
/-- without dicts: the layer's own relation -/
theorem Rp.dp : ∀ (d : PyData) (v : V), Rp K H v d → d.hasDict = false → Dp K H v d
  | .none, _, h, _ => by cases h; exact .non
  | .bool b, _, h, _ => by cases h; exact .bl b
  | .int i, _, h, _ => by cases h; exact .int i
  | .str x, _, h, _ => by cases h; exact .str x
  | .list ds, _, h, n => by
    cases h with
    | lst hs ha => exact .lst hs (RpA.dp ds _ ha (by simpa [PyData.hasDict] using n))
  | .tuple ds, _, h, n => by
    cases h with
    | tup hs ha => exact .tup hs (RpA.dp ds _ ha (by simpa [PyData.hasDict] using n))
  | .dict _, _, _, n => by simp [PyData.hasDict] at n
theorem RpA.dp : ∀ (ds : List PyData) (vs : List V), RpA K H vs ds → PyData.hasDictAll ds = false → DpAll K H vs ds
  | [], _, h, _ => by cases h; exact .nil
  | d :: ds, _, h, n => by
    have n' : d.hasDict = false ∧ PyData.hasDictAll ds = false := by simpa [PyData.hasDictAll] using n
    cases h with
    | cons h1 h2 => exact .cons (Rp.dp d _ h1 n'.1) (RpA.dp ds _ h2 n'.2)
end
end
/-- a promise's usual ends: a value, data -/
def RetD (K : PySem.W.Frag) (d : PyData) (H : Hp) (Q : VK) : Prop := ∀ v H', Ex H H' → Rp K H' v d → Q v H'
/-! ### the pail is written, all else stays -/
def hide (pl : Addr) (H : Hp) : Hp := fun b => if b = pl then none else H b
theorem hide_ne {pl b : Addr} {H : Hp} (h : b ≠ pl) : hide pl H b = H b := if_neg h
theorem hide_same {pl : Addr} {H : Hp} : hide pl H pl = none := if_pos rfl
theorem hide_ex {pl : Addr} {H : Hp} : Ex (hide pl H) H := fun b o e => by
  by_cases h : b = pl
  · rw [h, hide_same] at e; cases e
  · rwa [hide_ne h] at e
theorem ex_hide {pl : Addr} {H H' : Hp} (e : Ex H H') : Ex (hide pl H) (hide pl H') := fun b o q => by
  by_cases h : b = pl
  · rw [h, hide_same] at q; cases q
  · rw [hide_ne h] at q ⊢; exact e b o q
def PailAt (pl : Addr) (H : Hp) : Prop := ∃ a b c : Int, H pl = some (.lst [.int a, .int b, .int c]) ∧ -(2 ^ 64) < b ∧ b < 2 ^ 64
/-- .. the pail drawn from -/
structure ExP (pl : Addr) (H H' : Hp) : Prop where
  ex : Ex (hide pl H) (hide pl H')
  pail : PailAt pl H'
theorem ExP.trans {pl : Addr} {H H1 H2 : Hp} (a : ExP pl H H1) (b : ExP pl H1 H2) : ExP pl H H2 := ⟨a.ex.trans b.ex, b.pail⟩
theorem PailAt.x {pl : Addr} {H H' : Hp} (h : PailAt pl H) (e : Ex H H') : PailAt pl H' := by
  obtain ⟨a, b, c, h1, h2⟩ := h
  exact ⟨a, b, c, e _ _ h1, h2⟩
theorem ExP.of {pl : Addr} {H H' : Hp} (h : PailAt pl H) (e : Ex H H') : ExP pl H H' := ⟨ex_hide e, h.x e⟩
theorem ExP.on {pl : Addr} {H H1 H2 : Hp} (a : ExP pl H H1) (e : Ex H1 H2) : ExP pl H H2 := a.trans (.of a.pail e)
end Lk
namespace Lk
open PySem PySem.Spec PyProof.Rows L2 Evl
/-- a def of a class's body -/
def mth (c i : Nat) : Stmt := match top c with
  | .ClassDef _ _ _ body _ _ _ _ _ _ _ => body.getD i (.Pass ⟨0, 0, 0, 0⟩)
  | _ => .Pass ⟨0, 0, 0, 0⟩
abbrev cR (K : PySem.W.Frag) : Addr := He.ga K "Round"
abbrev cL (K : PySem.W.Frag) : Addr := He.ga K "Lot"
/-- a property f of C, its getter -/
structure PropF (K : PySem.W.Frag) (C : Addr) (f qual : Str) (st : Stmt) : Prop where
  at_ : PySem.W.findIn K (.ref C) f = some (some (.ref (He.ma K C f)))
  get : PySem.W.specialIn K (.ref (He.ma K C f)) "__get__" = some (some (.builtin "property.__get__"))
  tk : PySem.W.takesIn K (.ref (He.ma K C f)) = some true
  rc : ∃ rest, PySem.W.recIn K (He.ma K C f) "property" = some (.ref (He5.wf K C "property" f) :: rest)
  df : IsDef K f qual st (He5.wf K C "property" f)
/-- a def m of C -/
structure MethF (K : PySem.W.Frag) (C : Addr) (m qual : Str) (st : Stmt) : Prop where
  me : Meth K C m (He.ma K C m)
  df : IsDef K m qual st (He.ma K C m)
/-- a class with slots -/
structure SlF (K : PySem.W.Frag) (C : Addr) : Prop where
  sc : SlX.SCls K C
  si : SlX.SIsi K C
  mkr : Mk K C (He.ma K C "__init__")
/-- an own exception of one field f, its __init__ at .. -/
structure XcF (K : PySem.W.Frag) (mg : Str → Option Value) (x f qual : Str) (st : Stmt) : Prop where
  gC : mg x = some (.ref (He.ga K x))
  ox : L2.OexC K (He.ga K x)
  iC : PySem.W.findIn K (.ref (He.ga K x)) "__init__" = some (some (.ref (He.ma K (He.ga K x) "__init__")))
  tI : PySem.W.typeIn K (.ref (He.ma K (He.ga K x) "__init__")) = some (.type "function")
  no : PySem.W.findIn K (.ref (He.ga K x)) f = some none
  xf : L2.XfC K (He.ga K x)
  df : IsDef K "__init__" qual st (He.ma K (He.ga K x) "__init__")
/-! ### what the top has written -/
structure Txt (K : PySem.W.Frag) (mg : Str → Option Value) : Prop where
  f_isinstance : mg "isinstance" = none
  f_int : mg "int" = none
  f_bool : mg "bool" = none
  f_str : mg "str" = none
  f_tuple : mg "tuple" = none
  f_list : mg "list" = none
  f_dict : mg "dict" = none
  f_len : mg "len" = none
  f_all : mg "all" = none
  f_abs : mg "abs" = none
  f_max : mg "max" = none
  f_min : mg "min" = none
  f_sorted : mg "sorted" = none
  f_repr : mg "repr" = none
  f_divmod : mg "divmod" = none
  f_range : mg "range" = none
  f_enumerate : mg "enumerate" = none
  c_MOST_LAMPS : ∃ u, mg "MOST_LAMPS" = some u ∧ RelV (.int 400) u
  c_MOST_ROUNDS : ∃ u, mg "MOST_ROUNDS" = some u ∧ RelV (.int 4) u
  c_MOST_PLACE : ∃ u, mg "MOST_PLACE" = some u ∧ RelV (.int 24) u
  c_MOST_END : ∃ u, mg "MOST_END" = some u ∧ RelV (.int 8) u
  c_DIGITS : ∃ u, mg "DIGITS" = some u ∧ RelV (.str "0123456789") u
  c_LEVELS : ∃ u, mg "LEVELS" = some u ∧ RelV (.ref (He.ga K "LEVELS")) u
  levels : ∀ H, SqT K H (He.ga K "LEVELS") [.int 2, .int 3, .int 5, .int 7]
  d_is_integer : Dfn K mg "is_integer" (top 17)
  d_written_integer : Dfn K mg "written_integer" (top 18)
  d_bent_lamp : Dfn K mg "bent_lamp" (top 20)
  d_wrong_lamp : Dfn K mg "wrong_lamp" (top 21)
  d_are_levels : Dfn K mg "are_levels" (top 22)
  d_text_lamp : Dfn K mg "text_lamp" (top 25)
  d_text_round : Dfn K mg "text_round" (top 26)
  d_check_levels : Dfn K mg "check_levels" (top 27)
  d_check_number : Dfn K mg "check_number" (top 28)
  d_is_member : Dfn K mg "is_member" (top 30)
  d_wrong_member : Dfn K mg "wrong_member" (top 31)
  d_lot_lines : Dfn K mg "lot_lines" (top 33)
  d_is_change : Dfn K mg "is_change" (top 34)
  d_changed_text : Dfn K mg "changed_text" (top 35)
  d_text_lot : Dfn K mg "text_lot" (top 36)
  g_Round : mg "Round" = some (.ref (cR K))
  g_Lot : mg "Lot" = some (.ref (cL K))
  r_f : SlF K (cR K)
  r_s0 : SlX.Slot1 K (cR K) "own_end" (He.ma K (cR K) "own_end") 0
  r_s1 : SlX.Slot1 K (cR K) "own_lamps" (He.ma K (cR K) "own_lamps") 1
  r_s2 : SlX.Slot1 K (cR K) "own_levels" (He.ma K (cR K) "own_levels") 2
  r_init : MethF K (cR K) "__init__" "Round.__init__" (mth 24 1)
  r_levels : PropF K (cR K) "levels" "Round.levels" (mth 24 3)
  r_lamps : PropF K (cR K) "lamps" "Round.lamps" (mth 24 4)
  r_end : PropF K (cR K) "end" "Round.end" (mth 24 5)
  r_eq : MethF K (cR K) "__eq__" "Round.__eq__" (mth 24 9)
  r_str : MethF K (cR K) "__str__" "Round.__str__" (mth 24 10)
  r_nf : PySem.W.notFirst K (cR K) (.ref (cR K)) = true
  r_kr : PySem.W.kitOne K (.ref (cR K)) (.ref (cR K)) = some true
  r_kn : PySem.W.kitOne K (.type "NoneType") (.ref (cR K)) = some false
  l_f : SlF K (cL K)
  l_s0 : SlX.Slot1 K (cL K) "own_rounds" (He.ma K (cL K) "own_rounds") 0
  l_init : MethF K (cL K) "__init__" "Lot.__init__" (mth 32 1)
  l_rounds : PropF K (cL K) "rounds" "Lot.rounds" (mth 32 3)
  l_text : PropF K (cL K) "text" "Lot.text" (mth 32 5)
  l_changed : MethF K (cL K) "changed" "Lot.changed" (mth 32 6)
  l_eq : MethF K (cL K) "__eq__" "Lot.__eq__" (mth 32 8)
  l_str : MethF K (cL K) "__str__" "Lot.__str__" (mth 32 9)
  l_nf : PySem.W.notFirst K (cL K) (.ref (cL K)) = true
  l_kl : PySem.W.kitOne K (.ref (cL K)) (.ref (cL K)) = some true
  l_cread : ClX.CRead K (cL K) (.type "type")
  l_read : ClX.CMet K (cL K) (.type "type") "read" (He.ma K (cL K) "read") (He5.wf K (cL K) "classmethod" "read")
  l_readd : IsDef K "read" "Lot.read" (mth 32 2) (He5.wf K (cL K) "classmethod" "read")
  x_ch : XcF K mg "InvalidChanges" "index" "InvalidChanges.__init__" (mth 7 0)
  x_tx : XcF K mg "InvalidText" "given" "InvalidText.__init__" (mth 2 0)
  d__law_begun : Dfn K mg "_law_begun" (top 38)
  d__law_cast : Dfn K mg "_law_cast" (top 39)
  d__law_any_of : Dfn K mg "_law_any_of" (top 40)
  d__law_vast : Dfn K mg "_law_vast" (top 41)
  d__law_answer : Dfn K mg "_law_answer" (top 42)
  d__law_is_whole : Dfn K mg "_law_is_whole" (top 43)
  d__law_figure : Dfn K mg "_law_figure" (top 44)
  d__law_place : Dfn K mg "_law_place" (top 45)
  d__law_picture : Dfn K mg "_law_picture" (top 46)
  d__law_parts : Dfn K mg "_law_parts" (top 47)
  d__law_sheet : Dfn K mg "_law_sheet" (top 48)
  d__law_of : Dfn K mg "_law_of" (top 49)
  d__law_thing : Dfn K mg "_law_thing" (top 50)
  d__law_bent : Dfn K mg "_law_bent" (top 51)
  d__law_is_levels : Dfn K mg "_law_is_levels" (top 52)
  d__law_wrong_lamps : Dfn K mg "_law_wrong_lamps" (top 53)
  d__law_read : Dfn K mg "_law_read" (top 54)
  d__law_tidy : Dfn K mg "_law_tidy" (top 55)
  d__law_small : Dfn K mg "_law_small" (top 56)
  d__law_crowd : Dfn K mg "_law_crowd" (top 57)
  d__law_lot_sheet : Dfn K mg "_law_lot_sheet" (top 58)
  d__law_lot_of : Dfn K mg "_law_lot_of" (top 59)
  d__law_lot_built : Dfn K mg "_law_lot_built" (top 60)
  d__law_fits : Dfn K mg "_law_fits" (top 61)
  d__law_lot_read : Dfn K mg "_law_lot_read" (top 62)
  d__law_lot_told : Dfn K mg "_law_lot_told" (top 63)
  d__law_sort : Dfn K mg "_law_sort" (top 64)
  d__law_wrong_change : Dfn K mg "_law_wrong_change" (top 65)
  d__law_some : Dfn K mg "_law_some" (top 66)
  d__law_right : Dfn K mg "_law_right" (top 67)
  d_law : Dfn K mg "law" (top 68)
/-! ### kinds -/
def tyN : PyData → String
  | .none => "NoneType" | .bool _ => "bool" | .int _ => "int" | .str _ => "str" | .list _ => "list" | .tuple _ => "tuple" | .dict _ => "dict"
theorem Rp.ty {K : PySem.W.Frag} {H : Hp} {v : V} {d : PyData} (h : Rp K H v d) : TyX K H v (.type (tyN d)) := by
  cases h with
  | non => exact .base .non
  | bl b => exact .base (.bl b)
  | int i => exact .base (.int i)
  | str x => exact .base (.str x)
  | lst hs _ =>
    rcases hs with (h | ⟨o, h⟩) | ⟨o, its, n, hk, hc, _⟩
    · exact .base (.lst h)
    · exact .base (.frz h)
    · exact .kList hk hc
  | tup hs _ =>
    rcases hs with (h | ⟨o, h⟩) | ⟨o, its, n, hk, hc, _⟩
    · exact .base (.tup h)
    · exact .fTuple h
    · exact .kTuple hk hc
  | dic h => exact .base (.dK h)
def isIB : PyData → Bool | .int _ => true | .bool _ => true | _ => false
def isB : PyData → Bool | .bool _ => true | _ => false
def isI : PyData → Bool | .int _ => true | _ => false
def isS : PyData → Bool | .str _ => true | _ => false
def isT : PyData → Bool | .tuple _ => true | _ => false
section
variable {K : PySem.W.Frag}
theorem kit_int (d : PyData) : PySem.W.kitOne K (.type (tyN d)) (.type "int") = some (isIB d) := by cases d <;> (dsimp only [tyN, isIB]; exact kit_ty (by decide +kernel))
theorem kit_bool (d : PyData) : PySem.W.kitOne K (.type (tyN d)) (.type "bool") = some (isB d) := by cases d <;> (dsimp only [tyN, isB]; exact kit_ty (by decide +kernel))
theorem kit_str (d : PyData) : PySem.W.kitOne K (.type (tyN d)) (.type "str") = some (isS d) := by cases d <;> (dsimp only [tyN, isS]; exact kit_ty (by decide +kernel))
theorem kit_tuple (d : PyData) : PySem.W.kitOne K (.type (tyN d)) (.type "tuple") = some (isT d) := by cases d <;> (dsimp only [tyN, isT]; exact kit_ty (by decide +kernel))
end
section
variable {X : Cx} {e a b : Expr} {te ta tb : TE} {p pos : Pos} {es : List Expr} {t : TA}
theorem pn_int (T : Txt X.K X.mg) (hg : Gl X "int" := by rfl) : PE X (.Name "int" p) (tC (.ty "int")) := pe_bltn hg T.f_int boot_int rfl
theorem pn_bool (T : Txt X.K X.mg) (hg : Gl X "bool" := by rfl) : PE X (.Name "bool" p) (tC (.ty "bool")) := pe_bltn hg T.f_bool boot_bool rfl
theorem pn_str (T : Txt X.K X.mg) (hg : Gl X "str" := by rfl) : PE X (.Name "str" p) (tC (.ty "str")) := pe_bltn hg T.f_str boot_str rfl
theorem pn_tuple (T : Txt X.K X.mg) (hg : Gl X "tuple" := by rfl) : PE X (.Name "tuple" p) (tC (.ty "tuple")) := pe_bltn hg T.f_tuple boot_tuple rfl
theorem b_isi (T : Txt X.K X.mg) (ha : PA X (e :: es) t) (hg : Gl X "isinstance" := by rfl) (he : starEach (e :: es) X.env = (false, eval e X.env) :: starEach es X.env := by rfl) (hpl : (backTo pos (starEach es X.env)).any (·.1) = false := by rfl) :
    PE X (.Call (.Name "isinstance" p) (e :: es) [] pos) (tCB (rIsi X.K) t) := pe_callB call_isi hg T.f_isinstance boot_isinstance ha (he := he) (hpl := hpl)
end
section
variable {P : Program} {w : World} {K : PySem.W.Frag} {mg : Str → Option Value} {base : Heap}
/-! ### is_integer -/
def spIsInt (K : PySem.W.Frag) : Sp := fun vs H Q _ => ∃ v d, vs = [v] ∧ Rp K H v d ∧ Q (.bl (isI d)) H
theorem sc17 : FnScope ["value"] ["value"] (defScope (top 17)) := ⟨rfl, rfl, rfl, by decide +kernel, rfl, by decide +kernel, by decide +kernel⟩
theorem ite_b {c : Bool} {A B : Prop} (h1 : c = true → A) (h2 : c = false → B) : if c = true then A else B := by
  cases c with
  | true => exact h1 rfl
  | false => exact h2 rfl
theorem ok_is_integer (T : Txt K mg) : FnR P w K mg base CX0 1 (He.ga K "is_integer") (spIsInt K) := by
  refine mkD T.d_is_integer.df sc17 (fun vs H Q E h => ?_) (fun _ _ _ _ _ _ us hl => match us, hl with | [_], _ => rfl) (fun cdv A outer s H vs Q E hr h => ?_)
  · obtain ⟨v, d, rfl, _⟩ := h
    rfl
  · obtain ⟨v, d, rfl, hv, k⟩ := h
    refine ⟨_, pss_one (ps_ret (pe_and (b_isi T (pa_cons (pv 0) (pa_cons (pn_int T) pa_nil))) (pe_one (pe_not (b_isi T (pa_cons (pv 0) (pa_cons (pn_bool T) pa_nil))))))), ?_⟩
    refine ⟨v, rfl, v, _, _, _, _, rfl, .ty _, hv.ty, kit_int d, _, rfl, ite_b (fun hb => ⟨v, rfl, v, _, _, _, _, rfl, .ty _, hv.ty, kit_bool d, _, rfl, ?_⟩) (fun hb => ?_)⟩
    · have e : isI d = !isB d := by cases d <;> first | rfl | cases hb
      rw [e] at k
      exact k
    · have e : isI d = false := by cases d <;> first | rfl | cases hb
      rw [e] at k
      exact k
end
end Lk
namespace Lk
open PySem PySem.Spec PyProof.Rows L2 Evl
/-! ### comprehensions whose turns leave what is known: the result by the items' specs -/
theorem hide_upd {D : Addr} {H : Hp} {o : HO} : hide D (upd H D o) = hide D H := by
  funext b
  by_cases h : b = D
  · rw [h, hide_same, hide_same]
  · rw [hide_ne h, hide_ne h, upd_ne h]
theorem fresh_ne {H H' : Hp} {a b : Addr} {o : HO} (e : Ex H H') (h : H a = some o) (n : H' b = none) : b ≠ a := fun z => by
  rw [z, e _ _ h] at n; cases n
theorem paired_snoc {α β : Type} {G : α → β → Prop} : ∀ {l : List α} {m : List β} {a : α} {b : β}, Paired G l m → G a b → Paired G (l ++ [a]) (m ++ [b])
  | _, _, _, _, .nil, h => .cons h .nil
  | _, _, _, _, .cons r t, h => .cons r (paired_snoc t h)
theorem take_snoc {α : Type} {l : List α} {i : Nat} {x : α} (h : l[i]? = some x) : l.take (i + 1) = l.take i ++ [x] := by
  rw [List.take_add_one, h]; rfl
section
variable {α : Type} {g : TG} {tt : TT} {te : TE} {vs : List Nat} {σ : L2.St} {H1 : Hp} {D : Addr} {Qd : Hp → Prop} {K : PySem.W.Frag}
/-- the word between the turns -/
def LcW (H1 : Hp) (D : Addr) (L : List α) (p : α → Bool) (F : α → V → Hp → Prop) (i : Nat) (H : Hp) : Prop :=
  Ex H1 H ∧ ∃ ys, H D = some (.lst ys) ∧ ys.length ≤ i ∧ Paired (fun a y => F a y (hide D H)) ((L.take i).filter p) ys
theorem lcW_turn {L : List α} {p : α → Bool} {F : α → V → Hp → Prop} (Fm : ∀ a y H H', Ex H H' → F a y H → F a y H') (hD : H1 D = none) {i : Nat} {a : α} {x : V} {H : Hp} (ha : L[i]? = some a) (hi : i < 16000000) (w : LcW H1 D L p F i H)
    (hs : ∀ (R1 : V → Hp → Prop) (R0 : Hp → Prop), (p a = true → ∀ y H4, Ex H H4 → F a y (hide D H4) → R1 y H4) → (p a = false → ∀ H3, Ex H H3 → R0 H3) →
      g x (wipe σ vs) H fun σ2 H2 => wipe σ2 vs = wipe σ vs ∧ tt σ2 H2 fun b H3 => if b = true then te σ2 H3 R1 else R0 H3) :
    g x (wipe σ vs) H fun σ2 H2 => wipe σ2 vs = wipe σ vs ∧ tt σ2 H2 fun b H3 =>
      if b = true then te σ2 H3 fun y H4 => ∃ acc, H4 D = some (.lst acc) ∧ acc.length < sizeLine ∧ LcW H1 D L p F (i + 1) (upd H4 D (.lst (acc ++ [y]))) else LcW H1 D L p F (i + 1) H3 := by
  obtain ⟨e, ys, hy, hl, hp⟩ := w
  refine hs _ _ (fun hpa y H4 e4 f4 => ⟨ys, e4 _ _ hy, by rw [sizeLine_eq]; omega, Ex.mut (e.trans e4) hD, ys ++ [y], upd_same, by simp; omega, ?_⟩) (fun hpa H3 e3 => ⟨e.trans e3, ys, e3 _ _ hy, by omega, ?_⟩)
  · rw [take_snoc ha, List.filter_append, List.filter_cons, if_pos hpa, hide_upd]
    exact paired_snoc (Paired.mapP hp fun a y h => Fm _ _ _ _ (ex_hide e4) h) f4
  · rw [take_snoc ha, List.filter_append, List.filter_cons, if_neg (by rw [hpa]; exact Bool.false_ne_true), List.filter_nil, List.append_nil]
    exact Paired.mapP hp fun a y h => Fm _ _ _ _ (ex_hide e3) h
theorem lcW_0 {L : List α} {p : α → Bool} {F : α → V → Hp → Prop} (hD : H1 D = none) : LcW H1 D L p F 0 (upd H1 D (.lst [])) := ⟨Ex.new hD, [], upd_same, Nat.le_refl _, by simpa using Paired.nil⟩
/-- over a list -/
theorem lcL {a : Addr} {xs : List V} (L : List α) (p : α → Bool) (F : α → V → Hp → Prop) (Fm : ∀ a y H H', Ex H H' → F a y H → F a y H') (hx : SqL K H1 a xs) (hl : L.length = xs.length) (hz : xs.length ≤ 16000000) (hD : H1 D = none)
    (hs : ∀ (i : Nat) (b : α) (x : V) (H : Hp) (R1 : V → Hp → Prop) (R0 : Hp → Prop), L[i]? = some b → xs[i]? = some x → Ex H1 H → (∃ acc, H D = some (.lst acc)) → (p b = true → ∀ y H4, Ex H H4 → F b y (hide D H4) → R1 y H4) → (p b = false → ∀ H3, Ex H H3 → R0 H3) →
      g x (wipe σ vs) H fun σ2 H2 => wipe σ2 vs = wipe σ vs ∧ tt σ2 H2 fun b H3 => if b = true then te σ2 H3 R1 else R0 H3)
    (hd : ∀ H ys, Ex H1 H → H D = some (.lst ys) → ys.length ≤ L.length → Paired (fun a y => F a y (hide D H)) (L.filter p) ys → Qd H) :
    ∃ W : Nat → Nat → Hp → Prop, (∃ m, W 0 m (upd H1 D (.lst []))) ∧ ∀ i m H, W i m H →
      ((Itl K a).stop i H ∧ Qd H) ∨ ((Itl K a).go i H ∧ ∃ Nx : Hp → Prop, (∀ H', Nx H' → ∃ m', m' < m ∧ W (i + 1) m' H') ∧ ∀ x H', (Itl K a).yld i H x H' → g x (wipe σ vs) H' fun σ2 H2 => wipe σ2 vs = wipe σ vs ∧ tt σ2 H2 fun b H3 =>
        if b = true then te σ2 H3 fun y H4 => ∃ acc, H4 D = some (.lst acc) ∧ acc.length < sizeLine ∧ Nx (upd H4 D (.lst (acc ++ [y]))) else Nx H3) :=
  lc_list (xs := xs) (LcW H1 D L p F) (lcW_0 hD) (fun i H _ w => ex_l w.1 hx) (fun i x H hi w => by
    have h1 := (List.getElem?_eq_some_iff.mp hi).1
    have hb : L[i]? = some (L[i]'(by omega)) := List.getElem?_eq_getElem (by omega)
    exact lcW_turn Fm hD hb (by omega) w fun R1 R0 r1 r0 => hs i _ x H R1 R0 hb hi w.1 ⟨_, w.2.choose_spec.1⟩ r1 r0) (fun H w => by
    obtain ⟨e, ys, hy, hly, hp⟩ := w
    rw [List.take_of_length_le (by omega)] at hp
    exact hd H ys e hy (by omega) hp)
/-- over a tuple -/
theorem lcT {a : Addr} {xs : List V} (L : List α) (p : α → Bool) (F : α → V → Hp → Prop) (Fm : ∀ a y H H', Ex H H' → F a y H → F a y H') (hx : SqT K H1 a xs) (hl : L.length = xs.length) (hz : xs.length ≤ 16000000) (hD : H1 D = none)
    (hs : ∀ (i : Nat) (b : α) (x : V) (H : Hp) (R1 : V → Hp → Prop) (R0 : Hp → Prop), L[i]? = some b → xs[i]? = some x → Ex H1 H → (∃ acc, H D = some (.lst acc)) → (p b = true → ∀ y H4, Ex H H4 → F b y (hide D H4) → R1 y H4) → (p b = false → ∀ H3, Ex H H3 → R0 H3) →
      g x (wipe σ vs) H fun σ2 H2 => wipe σ2 vs = wipe σ vs ∧ tt σ2 H2 fun b H3 => if b = true then te σ2 H3 R1 else R0 H3)
    (hd : ∀ H ys, Ex H1 H → H D = some (.lst ys) → ys.length ≤ L.length → Paired (fun a y => F a y (hide D H)) (L.filter p) ys → Qd H) :
    ∃ W : Nat → Nat → Hp → Prop, (∃ m, W 0 m (upd H1 D (.lst []))) ∧ ∀ i m H, W i m H →
      ((Itt K a).stop i H ∧ Qd H) ∨ ((Itt K a).go i H ∧ ∃ Nx : Hp → Prop, (∀ H', Nx H' → ∃ m', m' < m ∧ W (i + 1) m' H') ∧ ∀ x H', (Itt K a).yld i H x H' → g x (wipe σ vs) H' fun σ2 H2 => wipe σ2 vs = wipe σ vs ∧ tt σ2 H2 fun b H3 =>
        if b = true then te σ2 H3 fun y H4 => ∃ acc, H4 D = some (.lst acc) ∧ acc.length < sizeLine ∧ Nx (upd H4 D (.lst (acc ++ [y]))) else Nx H3) :=
  lc_tup (xs := xs) (LcW H1 D L p F) (lcW_0 hD) (fun i H _ w => ex_t w.1 hx) (fun i x H hi w => by
    have h1 := (List.getElem?_eq_some_iff.mp hi).1
    have hb : L[i]? = some (L[i]'(by omega)) := List.getElem?_eq_getElem (by omega)
    exact lcW_turn Fm hD hb (by omega) w fun R1 R0 r1 r0 => hs i _ x H R1 R0 hb hi w.1 ⟨_, w.2.choose_spec.1⟩ r1 r0) (fun H w => by
    obtain ⟨e, ys, hy, hly, hp⟩ := w
    rw [List.take_of_length_le (by omega)] at hp
    exact hd H ys e hy (by omega) hp)
/-- over a range from 0 -/
theorem lcR {n : Nat} {lo : Int} (L : List α) (p : α → Bool) (F : α → V → Hp → Prop) (Fm : ∀ a y H H', Ex H H' → F a y H → F a y H') (hl : L.length = n) (hz : n ≤ 16000000) (hD : H1 D = none)
    (hs : ∀ (i : Nat) (b : α) (H : Hp) (R1 : V → Hp → Prop) (R0 : Hp → Prop), L[i]? = some b → i < n → Ex H1 H → (∃ acc, H D = some (.lst acc)) → (p b = true → ∀ y H4, Ex H H4 → F b y (hide D H4) → R1 y H4) → (p b = false → ∀ H3, Ex H H3 → R0 H3) →
      g (.int (lo + i)) (wipe σ vs) H fun σ2 H2 => wipe σ2 vs = wipe σ vs ∧ tt σ2 H2 fun b H3 => if b = true then te σ2 H3 R1 else R0 H3)
    (hd : ∀ H ys, Ex H1 H → H D = some (.lst ys) → ys.length ≤ L.length → Paired (fun a y => F a y (hide D H)) (L.filter p) ys → Qd H) :
    ∃ W : Nat → Nat → Hp → Prop, (∃ m, W 0 m (upd H1 D (.lst []))) ∧ ∀ i m H, W i m H →
      ((Itr lo n).stop i H ∧ Qd H) ∨ ((Itr lo n).go i H ∧ ∃ Nx : Hp → Prop, (∀ H', Nx H' → ∃ m', m' < m ∧ W (i + 1) m' H') ∧ ∀ x H', (Itr lo n).yld i H x H' → g x (wipe σ vs) H' fun σ2 H2 => wipe σ2 vs = wipe σ vs ∧ tt σ2 H2 fun b H3 =>
        if b = true then te σ2 H3 fun y H4 => ∃ acc, H4 D = some (.lst acc) ∧ acc.length < sizeLine ∧ Nx (upd H4 D (.lst (acc ++ [y]))) else Nx H3) :=
  lc_range (LcW H1 D L p F) (lcW_0 hD) (fun i H hi w => by
    have hb : L[i]? = some (L[i]'(by omega)) := List.getElem?_eq_getElem (by omega)
    exact lcW_turn Fm hD hb (by omega) w fun R1 R0 r1 r0 => hs i _ H R1 R0 hb hi w.1 ⟨_, w.2.choose_spec.1⟩ r1 r0) (fun H w => by
    obtain ⟨e, ys, hy, hly, hp⟩ := w
    rw [List.take_of_length_le (by omega)] at hp
    exact hd H ys e hy (by omega) hp)
/-- over a text, sign by sign -/
theorem lcS {z : Str} (p : Nat → Bool) (F : Nat → V → Hp → Prop) (Fm : ∀ a y H H', Ex H H' → F a y H → F a y H') (hz : z.length ≤ 16000000) (hD : H1 D = none)
    (hs : ∀ (i : Nat) (c : Nat) (H : Hp) (R1 : V → Hp → Prop) (R0 : Hp → Prop), z.cps.toList[i]? = some c → Ex H1 H → (∃ acc, H D = some (.lst acc)) → (p c = true → ∀ y H4, Ex H H4 → F c y (hide D H4) → R1 y H4) → (p c = false → ∀ H3, Ex H H3 → R0 H3) →
      g (.str ⟨#[c]⟩) (wipe σ vs) H fun σ2 H2 => wipe σ2 vs = wipe σ vs ∧ tt σ2 H2 fun b H3 => if b = true then te σ2 H3 R1 else R0 H3)
    (hd : ∀ H ys, Ex H1 H → H D = some (.lst ys) → ys.length ≤ z.length → Paired (fun a y => F a y (hide D H)) (z.cps.toList.filter p) ys → Qd H) :
    ∃ W : Nat → Nat → Hp → Prop, (∃ m, W 0 m (upd H1 D (.lst []))) ∧ ∀ i m H, W i m H →
      ((Its z).stop i H ∧ Qd H) ∨ ((Its z).go i H ∧ ∃ Nx : Hp → Prop, (∀ H', Nx H' → ∃ m', m' < m ∧ W (i + 1) m' H') ∧ ∀ x H', (Its z).yld i H x H' → g x (wipe σ vs) H' fun σ2 H2 => wipe σ2 vs = wipe σ vs ∧ tt σ2 H2 fun b H3 =>
        if b = true then te σ2 H3 fun y H4 => ∃ acc, H4 D = some (.lst acc) ∧ acc.length < sizeLine ∧ Nx (upd H4 D (.lst (acc ++ [y]))) else Nx H3) := by
  have ln : z.cps.toList.length = z.cps.size := by simp
  have lz : z.length = z.cps.size := rfl
  refine ⟨fun i m H => m = z.cps.size - i ∧ i ≤ z.cps.size ∧ LcW H1 D z.cps.toList p F i H, ⟨_, rfl, Nat.zero_le _, lcW_0 hD⟩, ?_⟩
  rintro i m H ⟨rfl, hi, w⟩
  by_cases hlt : i < z.cps.size
  · refine .inr ⟨hlt, fun H' => LcW H1 D z.cps.toList p F (i + 1) H', fun H' w' => ⟨z.cps.size - (i + 1), by omega, rfl, hlt, w'⟩, fun x H' y => ?_⟩
    obtain ⟨rfl, c, hc, rfl⟩ := y
    have hc' : z.cps.toList[i]? = some c := by simpa using hc
    exact lcW_turn Fm hD hc' (by omega) w fun R1 R0 r1 r0 => hs i c _ R1 R0 hc' w.1 ⟨_, w.2.choose_spec.1⟩ r1 r0
  · have e : i = z.cps.size := by omega
    subst e
    obtain ⟨e, ys, hy, hly, hp⟩ := w
    rw [List.take_of_length_le (by omega)] at hp
    exact .inl ⟨Nat.le_refl _, hd H ys e hy (by omega) hp⟩
end
end Lk
namespace Lk
open PySem PySem.Spec PyProof.Rows L2 Evl
/-! ### enumerate(tuple) -/
theorem meets_enum1 {v : Value} {o : Obj} {H : Heap → Prop} (B : Begins v o H) :
    Meets (Builtin.«enumerate.__new__» ⟨[.type "enumerate", v], []⟩) (fun _ R s => H s.heap ∧
      R (.ok (.ret (.ref (s.heap.push o).objs.size))) { s with heap := (s.heap.push o).push { cls := .type "enumerate", data := .fields #[.none, .bool false, .ref s.heap.objs.size, rawInt 0, .none, .none] } }) :=
  .of_wp fun prog w A R s h => by
    obtain ⟨hp, g, d, tk, os⟩ := s; obtain ⟨h1, h⟩ := h
    have hsub := sub_enumerate
    have q1 : ∀ {A' : Around} {E : Value → Shared → Prop} {Q : Value → Shared → Prop}, Q (.ref hp.objs.size) ⟨hp.push o, g, d, tk, os⟩ → wpAny (model prog w) A' (pyIter v) Q E ⟨hp, g, d, tk, os⟩ :=
      fun q => B.iter prog w _ _ ⟨hp, g, d, tk, os⟩ _ h1 q
    wp_walk using q1
    refine wpAny_stack_any fun st => wpAny_pure ?_
    split
    · rename_i c _ _ _ _ _
      cases (c == Value.type "enumerate")
      · wp_walk using q1
        exact ⟨_, rfl, h⟩
      · wp_walk using q1
        exact ⟨_, rfl, h⟩
    · wp_walk using q1
      exact ⟨_, rfl, h⟩
theorem enum_begins1 {prog : Program} {w : World} {A : Around} {E : Value → Shared → Prop} {s : Shared} {v : Value} {o : Obj} {H : Heap → Prop} {Q : Value → Shared → Prop} (B : Begins v o H) (h1 : H s.heap)
    (h : ∀ h', IsEnum h' (s.heap.objs.size + 1) s.heap.objs.size 0 .none → h'.get? s.heap.objs.size = some o → h'.objs.size = s.heap.objs.size + 2 →
      (∀ b o, s.heap.get? b = some o → h'.get? b = some o) → Q (.ref (s.heap.objs.size + 1)) { s with heap := h' }) :
    wpAny (model prog w) A (call (.type "enumerate") [v]) Q E s := by
  refine callType_new F.called_enumerate (by decide) (F.typeCall_enumerate_1 _) (F.newCall_enumerate_1 _) (fun obj => F.args_object_init_2 obj _) F.entry_enumerate_new
    (meets_enum1 B) ⟨h1, ?_⟩
  have hz : (s.heap.push o).objs.size = s.heap.objs.size + 1 := Heap.size_push ..
  show _ ∧ _
  rw [hz]
  have he : IsEnum ((s.heap.push o).push { cls := .type "enumerate", data := .fields #[.none, .bool false, .ref s.heap.objs.size, rawInt 0, .none, .none] }) (s.heap.objs.size + 1) s.heap.objs.size 0 .none := by
    have := Heap.get?_push_size (s.heap.push o) (o := { cls := .type "enumerate", data := .fields #[.none, .bool false, .ref s.heap.objs.size, rawInt 0, .none, .none] }) rfl
    rw [hz] at this; exact this
  refine ⟨⟨_, he, rfl⟩, h _ he (Heap.get?_push_of_some _ (Heap.get?_push_size _ B.free)) (by rw [Heap.size_push, hz]) fun b o x => Heap.get?_push_of_some _ (Heap.get?_push_of_some _ x)⟩
/-- the tuple at a, each item in a new pair -/
def ItE (K : PySem.W.Frag) (a : Addr) : It :=
  ⟨fun i H => ∃ (xs : List V) (x : V), SqT K H a xs ∧ xs[i]? = some x, fun i H v H' => ∃ T x, v = .ref T ∧ H T = none ∧ H' = upd H T (.tup [.int (i : Nat), x]) ∧ ∀ xs, SqT K H a xs → xs[i]? = some x, fun i H => ∃ xs : List V, SqT K H a xs ∧ xs.length ≤ i⟩
theorem turn_enumT {P : Program} {w : World} {K : PySem.W.Frag} {elts : List Expr} {kk : Nat} {tpos : Pos} (a e it : Addr) :
    Turn P w K (.Tuple elts kk tpos) (ItE K a) [e, it] e (fun i h => (∃ old, IsEnum h e it ((i : Nat) : Int) old) ∧ h.IsTupleIter it a i ∧ e ≠ it) where
  mem := by simp
  obj := fun i h st b hb => by
    obtain ⟨⟨old, he⟩, ⟨o, ho, hc, hd⟩, _⟩ := st
    have e' : b = e ∨ b = it := by simpa using hb
    rcases e' with z | z
    · rw [z]; exact ⟨_, he, fun v q => nomatch q⟩
    · rw [z]; exact ⟨o, ho, fun v q => by rw [hd] at q; cases q⟩
  keep := fun i h h' st k => let ⟨⟨old, he⟩, hi, hne⟩ := st; ⟨⟨old, k e (by simp) _ he⟩, hi.at fun o q => k it (by simp) o q, hne⟩
  item := by
    intro X hP hw hK hc i pins s σ H E I hf st hg
    subst hP hw hK
    obtain ⟨⟨old, he⟩, hit, hne⟩ := st
    obtain ⟨xs, x, hq, hx⟩ := hg
    obtain ⟨its, rv, p, hz⟩ := I.tuple hq
    obtain ⟨u, hu, ru⟩ := rv.get hx
    have hel : e < s.heap.objs.size := Heap.lt_size he
    have hil : it < s.heap.objs.size := by obtain ⟨_, q, _⟩ := hit; exact Heap.lt_size q
    have pt : s.heap.IsTuple a its.toArray := p
    have ea : e ≠ a := fun z => by
      obtain ⟨o, ho, hc, _⟩ := pt
      rw [← z] at ho
      rw [show s.heap.get? e = _ from he] at ho
      cases ho
      exact absurd hc (by simp)
    have ia : a ≠ it := fun z => by
      obtain ⟨o, ho, hc, _⟩ := pt
      obtain ⟨o2, ho2, hc2, _⟩ := hit
      rw [z, ho2] at ho
      cases ho
      rw [hc2] at hc
      exact absurd hc (by simp)
    have hlt : i < its.toArray.size := by
      have := (List.getElem?_eq_some_iff.mp hu).1
      simpa using this
    have hu' : its.toArray[i]? = some u := by simpa using hu
    refine wpAny_pyNext_enum_itemD (Draws.tuple (A := X.A.in1) (show X.A.in1.handled = none from I.ok.hd hc) it a ia its.toArray) he ⟨hit, pt⟩ hlt hne (by simp [hne, ea]) fun x' h' tk hx' ho hst' hT hsz hk => ?_
    have hxu : x' = u := by rw [hu'] at hx'; exact (Option.some.inj hx').symm
    subst hxu
    refine ⟨_, rfl, wpAny_letOwnedTupleGo_enum (s := { s with heap := h', toks := tk + 1 }) ho fun h'' he' sb => ?_⟩
    have hT2 : h''.get? s.heap.objs.size = some { cls := .type "tuple", data := .seq #[.int i tk, x'] } := (sb.2 _ (Nat.ne_of_gt hel)).trans hT
    have new : ObjOk X.prog X.w (upd H s.heap.objs.size (.tup [.int (i : Nat), x])) h'' s.heap.objs.size (.tup [.int (i : Nat), x]) :=
      ⟨by show 2 ≤ sizeLine; decide, [.int i tk, x'], .cons ⟨_, rfl⟩ (.cons ru .nil), ⟨_, hT2, rfl, _, rfl⟩⟩
    have I1 : Inv X pins σ (upd H s.heap.objs.size (.tup [.int (i : Nat), x])) { s with heap := h'', toks := tk + 1 } :=
      I.turnedNew (ch := [e, it]) (fun b ob hb q => (sb.2 b (fun z => hb (by simp [z]))).trans (hk b ob (fun z => hb (by simp [z])) (fun z => hb (by simp [z])) q)) hf (Nat.le_refl _) new
    refine ⟨.ref s.heap.objs.size, _, I1, rfl, ⟨_, x, rfl, I.hok.fresh (Nat.le_refl _), rfl, fun ys hy => by rw [I.tuple_inj hy hq]; exact hx⟩, ⟨⟨x', ?_⟩, hst'.1.at fun o q => (sb.2 it (Ne.symm hne)).trans q, hne⟩, fun b hb => ?_⟩
    · have e1 : ((i + 1 : Nat) : Int) = (i : Int) + 1 := by omega
      rw [e1]; exact he'
    · have hb' : b < s.heap.objs.size := by
        have e' : b = e ∨ b = it := by simpa using hb
        rcases e' with z | z
        · rw [z]; exact hel
        · rw [z]; exact hil
      rw [upd_ne (Nat.ne_of_lt hb')]
      exact (hf b hb).1
  done := by
    intro X hP hw hK hc i pins s σ H E I hf st hg
    subst hP hw hK
    obtain ⟨⟨old, he⟩, hit, hne⟩ := st
    obtain ⟨xs, hq, hx⟩ := hg
    obtain ⟨its, rv, p, hz⟩ := I.tuple hq
    obtain ⟨f0, f1, f2, f3, f4, f5⟩ := hf it (by simp)
    have hl := rv.length
    have pt : s.heap.IsTuple a its.toArray := p
    have hT : s.TypeIs (.ref e) "enumerate" := ⟨_, he, rfl⟩
    unfold pyNext
    refine wpAny_bind (wpAny_attempt (wpAny_callSpecial?_slot (name := Str.ofString "__next__") hT F.slot_enumerate_next
      (wpAny_call_entry F.slot_enumerate_next hT F.entry_enumerate_next ?_ (F.args_enumerate_next_1 _))))
    show wpAny _ _ (field (.ref e) 2 >>= _) _ _ _
    refine wpAny_bind (wpAny_field he rfl (x := .ref it) rfl ?_)
    refine wpAny_bind (wpAny_nextOf_tuple_end (show X.A.in1.handled = none from I.ok.hd hc) hit pt (by simp; omega) fun h' x eb hx' => ?_)
    obtain ⟨o, ho, hc⟩ := hx'
    refine wpAny_bind (wpAny_isInstance (T := "StopIteration") (b := true) ⟨o, ho, hc⟩ isSubtype_stop ?_)
    exact wpAny_pure ⟨rfl, I.turned (t' := s.toks) (fun b o hb q => eb b o hb q) f0 f1 f3 f4 f5⟩
  self := fun A i s Q E st h => let ⟨⟨_, he⟩, _⟩ := st; wpAny_pyIter_enum he h
def iEnumT (K : PySem.W.Frag) (ta : TA) : TI := fun σ H R => ta σ H fun vs H1 => ∃ a xs, vs = [.ref a] ∧ SqT K H1 a xs ∧ R (ItE K a) H1
theorem pi_enumT {X : Cx} {e : Expr} {ta : TA} {p pos tpos : Pos} {elts : List Expr} {kk : Nat} (hg : Gl X "enumerate") (hm : X.mg "enumerate" = none) (ha : PA X [e] ta) (hs : starEach [e] X.env = [(false, eval e X.env)] := by rfl) :
    PI X (.Tuple elts kk tpos) (.Call (.Name "enumerate" p) [e] [] pos) (iEnumT X.K ta) := by
  refine ⟨fun pins s σ H R I h => ?_⟩
  refine Call_ (ld_blt I hg hm boot_enumerate (PyProof.Rows.callWith_type1 (thn (ha.run pos pins s σ H _ I h) fun us s1 ⟨vs, H1, I1, r1, q1⟩ => ?_) hs rfl))
  obtain ⟨a, xs, ex, hq, q⟩ := q1
  subst ex
  cases r1 with
  | cons r rr =>
    cases rr
    cases r
    obtain ⟨its, rv, p', hz⟩ := I1.tuple hq
    refine enum_begins1 (begins_tuple a its.toArray) p' fun h' he hit hsz hk => wpAny_pyIter_enum he ?_
    have I2 : Inv X pins σ H1 { s1 with heap := h' } := I1.kept (t' := s1.toks) hk
    refine ⟨s1.heap.objs.size + 1, [s1.heap.objs.size + 1, s1.heap.objs.size], _, _, H1, rfl, I2, turn_enumT a (s1.heap.objs.size + 1) s1.heap.objs.size, ⟨⟨.none, he⟩, ⟨_, hit, rfl, rfl⟩, Nat.succ_ne_self _⟩, fun b hb => ?_, q⟩
    have e' : b = s1.heap.objs.size + 1 ∨ b = s1.heap.objs.size := by simpa using hb
    have hle : s1.heap.objs.size ≤ b := by
      rcases e' with z | z
      · rw [z]; exact Nat.le_add_right _ _
      · rw [z]; exact Nat.le_refl _
    exact I1.fpOk hle (I1.hok.fresh hle)
/-- the loop over enumerate(t) -/
theorem for_enumT {K : PySem.W.Frag} {a : Addr} {xs : List V} {g : TG} {tb : TS} {D : Ends} {σ : L2.St} {H : Hp} (Pv : Nat → L2.St → Hp → Prop) (h0 : Pv 0 σ H) (hl : ∀ i σ H, i ≤ xs.length → Pv i σ H → SqT K H a xs)
    (hs : ∀ i x σ H T, xs[i]? = some x → Pv i σ H → H T = none → g (.ref T) σ (upd H T (.tup [.int (i : Nat), x])) fun σ2 H2 => tb { D with nx := Pv (i + 1), ct := Pv (i + 1), bk := D.nx } σ2 H2) (hd : ∀ σ H, Pv xs.length σ H → D.nx σ H) :
    ∃ W : Nat → Nat → L2.St → Hp → Prop, (∃ m, W 0 m σ H) ∧ ∀ i m σ H, W i m σ H →
      ((ItE K a).stop i H ∧ D.nx σ H) ∨ ((ItE K a).go i H ∧ ∃ N : L2.St → Hp → Prop, (∀ σ' H', N σ' H' → ∃ m', m' < m ∧ W (i + 1) m' σ' H') ∧ ∀ x H', (ItE K a).yld i H x H' → g x σ H' fun σ2 H2 => tb { D with nx := N, ct := N, bk := D.nx } σ2 H2) := by
  refine ⟨fun i m σ H => m = xs.length - i ∧ i ≤ xs.length ∧ Pv i σ H, ⟨xs.length, by simp, Nat.zero_le _, h0⟩, ?_⟩
  rintro i m σ H ⟨rfl, hi, p⟩
  have q := hl i σ H hi p
  by_cases hlt : i < xs.length
  · refine .inr ⟨⟨xs, xs[i], q, by simp [hlt]⟩, Pv (i + 1), fun σ' H' p' => ⟨xs.length - (i + 1), by omega, rfl, hlt, p'⟩, fun v H' y => ?_⟩
    obtain ⟨T, x, e1, hT, e2, y⟩ := y
    subst e1 e2
    exact hs i x σ H T (y xs q) p hT
  · have e : i = xs.length := by omega
    subst e
    exact .inl ⟨⟨xs, q, Nat.le_refl _⟩, hd σ H p⟩
end Lk
namespace Lk
open PySem PySem.Spec PyProof.Rows L2 Evl Lm TL
theorem itT {A B : Prop} (h : A) : if true = true then A else B := h
theorem itF {A B : Prop} (h : B) : if false = true then A else B := h
section
variable {X : Cx} {e a b : Expr} {te ta tb : TE} {p pos : Pos} {es : List Expr} {t : TA}
theorem b_len (T : Txt X.K X.mg) (ha : PA X (e :: es) t) (hg : Gl X "len" := by rfl) (he : starEach (e :: es) X.env = (false, eval e X.env) :: starEach es X.env := by rfl) (hpl : (backTo pos (starEach es X.env)).any (·.1) = false := by rfl) :
    PE X (.Call (.Name "len" p) (e :: es) [] pos) (tCB (fun xs H Q => ∃ x n, xs = [x] ∧ LenV X.K x H n ∧ Q (.int n) H) t) := pe_callB call_len hg T.f_len boot_len ha (he := he) (hpl := hpl)
theorem b_all (T : Txt X.K X.mg) (ha : PA X (e :: es) t) (hc : X.calm = true := by rfl) (hg : Gl X "all" := by rfl) (he : starEach (e :: es) X.env = (false, eval e X.env) :: starEach es X.env := by rfl) (hpl : (backTo pos (starEach es X.env)).any (·.1) = false := by rfl) :
    PE X (.Call (.Name "all" p) (e :: es) [] pos) (tCB (rAll X.K) t) := pe_callB (cr_all hc) hg T.f_all boot_all ha (he := he) (hpl := hpl)
theorem b_abs (T : Txt X.K X.mg) (ha : PA X (e :: es) t) (hg : Gl X "abs" := by rfl) (he : starEach (e :: es) X.env = (false, eval e X.env) :: starEach es X.env := by rfl) (hpl : (backTo pos (starEach es X.env)).any (·.1) = false := by rfl) :
    PE X (.Call (.Name "abs" p) (e :: es) [] pos) (tCB (fun xs H Q => ∃ i, xs = [.int i] ∧ Q (.int (if i < 0 then -i else i)) H) t) := pe_callB call_abs hg T.f_abs boot_abs ha (he := he) (hpl := hpl)
theorem b_strI (T : Txt X.K X.mg) (ha : PA X (e :: es) t) (hg : Gl X "str" := by rfl) (he : starEach (e :: es) X.env = (false, eval e X.env) :: starEach es X.env := by rfl) (hpl : (backTo pos (starEach es X.env)).any (·.1) = false := by rfl) :
    PE X (.Call (.Name "str" p) (e :: es) [] pos) (tCB (fun xs H Q => ∃ i, xs = [.int i] ∧ i.natAbs.log2 < 1920 ∧ Q (.str (numS i)) H) t) := pe_callTy call_str_int hg T.f_str boot_str ha (he := he) (hpl := hpl)
theorem b_intS (T : Txt X.K X.mg) (ha : PA X (e :: es) t) (hg : Gl X "int" := by rfl) (he : starEach (e :: es) X.env = (false, eval e X.env) :: starEach es X.env := by rfl) (hpl : (backTo pos (starEach es X.env)).any (·.1) = false := by rfl) :
    PE X (.Call (.Name "int" p) (e :: es) [] pos) (tCB (fun xs H Q => ∃ a n, xs = [.str a] ∧ PySem.intText? a = some n ∧ a.length ≤ 640 ∧ Q (.int n) H) t) := pe_callTy call_int_str hg T.f_int boot_int ha (he := he) (hpl := hpl)
theorem b_intI (T : Txt X.K X.mg) (ha : PA X (e :: es) t) (hg : Gl X "int" := by rfl) (he : starEach (e :: es) X.env = (false, eval e X.env) :: starEach es X.env := by rfl) (hpl : (backTo pos (starEach es X.env)).any (·.1) = false := by rfl) :
    PE X (.Call (.Name "int" p) (e :: es) [] pos) (tCB (fun xs H Q => ∃ i, xs = [.int i] ∧ Q (.int i) H) t) := pe_callTy (r := fun xs H Q => ∃ i, xs = [.int i] ∧ Q (.int i) H) (fun pins s σ H xs us Q I rs h => call_int1 pins s σ H xs us Q I rs (.inl h)) hg T.f_int boot_int ha (he := he) (hpl := hpl)
theorem b_tupL (T : Txt X.K X.mg) (ha : PA X (e :: es) t) (hg : Gl X "tuple" := by rfl) (he : starEach (e :: es) X.env = (false, eval e X.env) :: starEach es X.env := by rfl) (hpl : (backTo pos (starEach es X.env)).any (·.1) = false := by rfl) :
    PE X (.Call (.Name "tuple" p) (e :: es) [] pos) (tCB (fun xs H Q => ∃ p ys, xs = [.ref p] ∧ SqL X.K H p ys ∧ ∀ l, H l = none → Q (.ref l) (upd H l (.tup ys))) t) :=
  pe_callTy (r := fun xs H Q => ∃ p ys, xs = [.ref p] ∧ SqL X.K H p ys ∧ ∀ l, H l = none → Q (.ref l) (upd H l (.tup ys))) (fun pins s σ H xs us Q I rs ⟨p, ys, e, h1, h2⟩ => call_tuple_of pins s σ H xs us Q I rs ⟨p, ys, e, .inl ⟨h1, h2⟩⟩) hg T.f_tuple boot_tuple ha (he := he) (hpl := hpl)
end
/-! ### texts -/
theorem tl_cut0 (z : Str) : tl (cutS z none (some 1)) = (tl z).take 1 := by
  show ((z.cps.toList.drop (HT.sIx z.length 0 none)).take (HT.sIx z.length z.length (some ((1 : Nat) : Int)) - HT.sIx z.length 0 none)).toArray.toList = _
  rw [HT.sIx_none, HT.sIx_nat]
  show (z.cps.toList.drop 0).take (min 1 z.length - 0) = z.cps.toList.take 1
  have hz : z.length = z.cps.toList.length := by show z.cps.size = _; simp
  rw [List.drop_zero, Nat.sub_zero, hz]
  by_cases h : 1 ≤ z.cps.toList.length
  · rw [Nat.min_eq_left h]
  · have h0 : z.cps.toList.length = 0 := by omega
    rw [List.length_eq_zero_iff.mp h0]
    simp
theorem tl_cut1 (z : Str) : tl (cutS z (some 1) none) = (tl z).drop 1 := by
  show ((z.cps.toList.drop (HT.sIx z.length 0 (some ((1 : Nat) : Int)))).take (HT.sIx z.length z.length none - HT.sIx z.length 0 (some ((1 : Nat) : Int)))).toArray.toList = _
  rw [HT.sIx_none, HT.sIx_nat]
  show (z.cps.toList.drop (min 1 z.length)).take (z.length - min 1 z.length) = z.cps.toList.drop 1
  have hz : z.length = z.cps.toList.length := by show z.cps.size = _; simp
  rw [hz]
  by_cases h : 1 ≤ z.cps.toList.length
  · rw [Nat.min_eq_left h, List.take_of_length_le (by rw [List.length_drop]; exact Nat.le_refl _)]
  · have h0 : z.cps.toList.length = 0 := by omega
    rw [List.length_eq_zero_iff.mp h0]
    simp
theorem isMinus (w : Str) : (decide (V.str (cutS w none (some 1)) = V.str "-")) = decide ((tl w).take 1 = [45]) := by
  rw [Bool.eq_iff_iff, decide_eq_true_iff, decide_eq_true_iff]
  constructor
  · intro h
    rw [← tl_cut0]
    injection h with h
    rw [h]
    decide +kernel
  · intro h
    congr 1
    refine ext_tl ?_
    rw [tl_cut0, h]
    decide +kernel
theorem eps_iff (z : Str) : decide (V.str z = V.str "") = decide (tl z = []) := by
  rw [Bool.eq_iff_iff, decide_eq_true_iff, decide_eq_true_iff]
  constructor
  · intro h
    injection h with h
    rw [h]
    decide +kernel
  · intro h
    congr 1
    exact ext_tl (by rw [h]; decide +kernel)
theorem isDg_mem (c : Nat) : decide (c ∈ ("0123456789" : Str).cps.toList) = isDg c := by
  have e : ("0123456789" : Str).cps.toList = [48, 49, 50, 51, 52, 53, 54, 55, 56, 57] := by decide +kernel
  rw [e, Bool.eq_iff_iff, decide_eq_true_iff]
  unfold isDg
  simp only [List.mem_cons, List.not_mem_nil, or_false, Bool.and_eq_true, decide_eq_true_eq]
  omega
def oI : Option Int → V
  | some i => .int i
  | none => .non
theorem paired_bls {f : Nat → Bool} {ys : List V} : ∀ {l : List Nat}, Paired (fun a y => y = V.bl (f a)) l ys → ys = (l.map f).map V.bl := by
  induction ys with
  | nil => intro l h; cases h; rfl
  | cons y ys ih =>
    intro l h
    cases h with
    | cons r t => rw [r, ih t]; rfl
theorem filter_T {α : Type} (l : List α) : l.filter (fun _ => true) = l := List.filter_eq_self.mpr fun _ _ => rfl
section
variable {P : Program} {w : World} {K : PySem.W.Frag} {mg : Str → Option Value} {base : Heap}
/-! ### written_integer -/
def spFig : Sp := fun vs H Q _ => ∃ z, vs = [.str z] ∧ z.length ≤ 500 ∧ ∀ H', Ex H H' → Q (oI (wInt z)) H'
theorem sc18 : FnScope ["word", "digits", "sign"] ["word"] (defScope (top 18)) := ⟨rfl, rfl, rfl, by decide +kernel, rfl, by decide +kernel, by decide +kernel⟩
theorem ok_written_integer (T : Txt K mg) : FnR P w K mg base CX0 1 (He.ga K "written_integer") spFig := by
  refine mkD T.d_written_integer.df sc18 (fun vs H Q E h => ?_) (fun _ _ _ _ _ _ us hl => match us, hl with | [_], _ => rfl) (fun cdv A outer s H vs Q E hr h => ?_)
  · obtain ⟨z, rfl, _⟩ := h
    rfl
  · obtain ⟨z, rfl, hl, k⟩ := h
    have hz : z.length ≤ sizeLine := by rw [sizeLine_eq]; omega
    refine ⟨_, (pss_cut (ps_set (i := 1) sc18.nd rfl (.inl rfl) (pe_ifExp (pt_cmpR op_eq (pe_slice sl_str (pv 0) po_none (po_some pe_int)) pe_str (nomark _)) (pe_slice sl_str (pv 0) (po_some pe_int) po_none) (pv 0)))
      (pss_cons (ps_if (PW.pt (pw_or (pt_cmpR op_eq (pv 1) pe_str (nomark _)) (pw_or (pt_cmpR op_gt (b_len T (pa_cons (pv 1) pa_nil)) pe_int (nomark _)) (pw_or1 (pt_not (pt_val (b_all T (pa_cons (pe_lc (own := [("sign", 2)]) rfl sc18.nd (pi_str (pv 1)) (blkOk_by (N := ["word", "digits", "sign"]) (sc := defScope (top 18)) (by decide +kernel)) (fun _ _ _ _ _ => (pg_name (i := 2) sc18.nd rfl (.inl rfl))) (fun _ _ _ _ _ => pts_nil) (fun _ _ _ _ _ => (pe_cmpR op_inS (pv 2) (C8.pe_gc rfl T.c_DIGITS) (by rfl)))) pa_nil))))))))
        (pss_one (ps_ret pe_non))
        pss_nil)
      (pss_one (ps_ret (pe_ifExp (pt_cmpR op_eq (b_strI T (pa_cons (b_intS T (pa_cons (pv 0) pa_nil)) pa_nil)) (pv 0) (nomark _)) (b_intS T (pa_cons (pv 0) pa_nil)) pe_non))))), ?_⟩
    refine ⟨fun σ' H' => H' = H ∧ ∃ dg, σ' = [some (.str z), some (.str dg), none] ∧ tl dg = bodyW (tl z) ∧ dg.length ≤ 500, ?_, ?_⟩
    · refine ⟨.str z, rfl, 1, rfl, z, rfl, hz, rfl, _, rfl, ite_b (fun h => ⟨.str z, rfl, 1, rfl, z, rfl, hz, rfl, _, rfl, ?_, ?_⟩) (fun h => ⟨.str z, rfl, rfl, _, rfl, ?_, hl⟩)⟩
      · rw [isMinus, decide_eq_true_iff] at h
        rw [tl_cut1]
        unfold bodyW
        rw [if_pos h]
      · exact Nat.le_trans (cutS_length z _ _) hl
      · rw [isMinus, decide_eq_false_iff_not] at h
        unfold bodyW
        rw [if_neg h]
    · rintro σ' H' ⟨rfl, dg, rfl, hd, hdl⟩
      have hdz : dg.length ≤ sizeLine := by rw [sizeLine_eq]; omega
      refine ⟨.str dg, rfl, rfl, _, rfl, ite_b (fun h => itT ?_) (fun h1 => ?_)⟩
      · rw [eps_iff, decide_eq_true_iff, hd] at h
        have e : wInt z = none := by unfold wInt; rw [if_pos (.inl h)]
        rw [e] at k
        exact k _ (.refl _)
      · rw [eps_iff, decide_eq_false_iff_not, hd] at h1
        refine ⟨.str dg, rfl, .str dg, dg.length, rfl, ⟨hdz, rfl⟩, _, _, rfl, rfl, _, rfl, ite_b (fun h => ?_) (fun _ => ?_)⟩
        · rw [decide_eq_true_iff] at h
          omega
        · refine ⟨.str dg, rfl, dg, rfl, fun D hD => lcS (fun _ => true) (fun c y _ => y = .bl (isDg c)) (fun _ _ _ _ _ h => h) (by omega) hD (fun i c H2 R1 R0 hc e2 hac r1 r0 => ?_) (fun H2 ys e2 hD2 hly hp => ?_)⟩
          · exact ⟨rfl, .str ⟨#[c]⟩, rfl, c, "0123456789", rfl, rfl, r1 rfl _ _ (.refl _) (by rw [isDg_mem])⟩
          · rw [filter_T] at hp
            have hy := paired_bls hp
            subst hy
            refine ⟨D, _, rfl, .of hD2, _, rfl, ?_⟩
            have ea : ((dg.cps.toList.map isDg).all id) = (bodyW (tl z)).all isDg := by
              rw [List.all_map, ← hd]
              rfl
            rw [ea]
            refine ite_b (fun h => ?_) (fun h => ?_)
            · have e : wInt z = none := by unfold wInt; rw [if_pos (.inr (by simpa using h))]
              rw [e] at k
              exact k _ e2
            · have hall : (bodyW (tl z)).all isDg = true := by simpa using h
              have hi := intW h1 hall (by omega)
              refine ⟨.str z, rfl, z, valW (tl z), rfl, hi, by omega, _, rfl, valW_log hall (by rw [← len_tl]; exact hl), .str z, rfl, rfl, _, rfl, ite_b (fun h2 => ⟨.str z, rfl, z, valW (tl z), rfl, hi, by omega, ?_⟩) (fun h2 => ?_)⟩
              · have e : wInt z = some (valW (tl z)) := by
                  unfold wInt
                  rw [if_neg (by rw [hall]; simp [h1]), if_pos (by simpa using h2)]
                rw [e] at k
                exact k _ e2
              · have e : wInt z = none := by
                  unfold wInt
                  rw [if_neg (by rw [hall]; simp [h1]), if_neg (by simpa using h2)]
                rw [e] at k
                exact k _ e2
end
end Lk
namespace Lk
open PySem PySem.Spec PyProof.Rows L2 Evl Lm TL
def lampD : Option (Int × Int) → PyData
  | some (a, b) => .tuple [.int a, .int b]
  | none => .tuple []
/-- what Rp says of a lamp -/
theorem Rp.lamp {K : PySem.W.Frag} {H : Hp} {v : V} {a b : Int} (h : Rp K H v (.tuple [.int a, .int b])) : ∃ p, v = .ref p ∧ SqT K H p [.int a, .int b] := by
  cases h with
  | tup hs ha =>
    cases ha with
    | cons h1 t =>
      cases h1
      cases t with
      | cons h2 t =>
        cases h2
        cases t
        exact ⟨_, rfl, hs⟩
theorem Rp.empt {K : PySem.W.Frag} {H : Hp} {v : V} (h : Rp K H v (.tuple [])) : ∃ p, v = .ref p ∧ SqT K H p [] := by
  cases h with
  | tup hs ha =>
    cases ha
    exact ⟨_, rfl, hs⟩
theorem Rp.tupE {K : PySem.W.Frag} {H : Hp} {v : V} {ds : List PyData} (h : Rp K H v (.tuple ds)) : ∃ p vs, v = .ref p ∧ SqT K H p vs ∧ RpA K H vs ds := by
  cases h with
  | tup hs ha => exact ⟨_, _, rfl, hs, ha⟩
theorem Rp.lstE {K : PySem.W.Frag} {H : Hp} {v : V} {ds : List PyData} (h : Rp K H v (.list ds)) : ∃ p vs, v = .ref p ∧ SqL K H p vs ∧ RpA K H vs ds := by
  cases h with
  | lst hs ha => exact ⟨_, _, rfl, hs, ha⟩
theorem RpA.getM {α : Type} {K : PySem.W.Frag} {H : Hp} {f : α → PyData} {xs : List α} {vs : List V} {i : Nat} {v : V} (h : RpA K H vs (xs.map f)) (e : vs[i]? = some v) : ∃ y, xs[i]? = some y ∧ Rp K H v (f y) := by
  obtain ⟨d, h1, h2⟩ := h.get e
  rw [List.getElem?_map] at h1
  cases hx : xs[i]? with
  | none => rw [hx] at h1; cases h1
  | some y =>
    rw [hx] at h1
    cases h1
    exact ⟨y, rfl, h2⟩
theorem RpA.getM' {α : Type} {K : PySem.W.Frag} {H : Hp} {f : α → PyData} {xs : List α} {vs : List V} {i : Nat} {y : α} (h : RpA K H vs (xs.map f)) (e : xs[i]? = some y) : ∃ v, vs[i]? = some v ∧ Rp K H v (f y) :=
  h.get' (by rw [List.getElem?_map, e]; rfl)
/-- the first fault -/
def Bent (p : Int) (xs : List (Option (Int × Int))) (v : V) : Prop := (v = .non ∧ okL p xs = true) ∨ ∃ i : Nat, v = .int i ∧ i < xs.length ∧ goodAt p xs i = false
theorem okL_false {p : Int} {xs : List (Option (Int × Int))} {i : Nat} (h : i < xs.length) (g : goodAt p xs i = false) : okL p xs = false := by
  unfold okL
  rw [List.all_eq_false]
  exact ⟨i, List.mem_range.mpr h, by rw [g]; decide⟩
section
variable {P : Program} {w : World} {K : PySem.W.Frag} {mg : Str → Option Value} {base : Heap}
/-! ### are_levels -/
def spLev (K : PySem.W.Frag) : Sp := fun vs H Q _ => ∃ o, vs = [oI o] ∧ Q (.bl (match o with | some p => isLev p | none => false)) H
theorem sc22 : FnScope ["value"] ["value"] (defScope (top 22)) := ⟨rfl, rfl, rfl, by decide +kernel, rfl, by decide +kernel, by decide +kernel⟩
theorem ok_are_levels (T : Txt K mg) : FnR P w K mg base CX0 2 (He.ga K "are_levels") (spLev K) := by
  refine mkD T.d_are_levels.df sc22 (fun vs H Q E h => ?_) (fun _ _ _ _ _ _ us hl => match us, hl with | [_], _ => rfl) (fun cdv A outer s H vs Q E hr h => ?_)
  · obtain ⟨o, rfl, _⟩ := h
    rfl
  · obtain ⟨o, rfl, k⟩ := h
    refine ⟨_, (pss_one (ps_ret (pe_and (pe_d T.d_is_integer (ok_is_integer T) hr (pa_cons (pv 0) pa_nil)) (pe_one (pe_cmpR op_in_seq (pv 0) (C8.pe_gc rfl T.c_LEVELS) (by rfl)))))), ?_⟩
    cases o with
    | none => exact ⟨.non, rfl, .non, .none, rfl, .non, _, rfl, k⟩
    | some p =>
      refine ⟨.int p, rfl, .int p, .int p, rfl, .int p, _, rfl, .int p, rfl, _, _, rfl, .inr (T.levels _), rfl, rfl, ?_⟩
      have e : inV (.int p) [.int 2, .int 3, .int 5, .int 7] = isLev p := by
        unfold inV isLev
        simp only [List.any_cons, List.any_nil, eqV, Bool.or_false]
        rw [Bool.eq_iff_iff]
        simp only [Bool.or_eq_true, beq_iff_eq, decide_eq_true_eq]
        omega
      show Q (.bl (inV (.int p) [.int 2, .int 3, .int 5, .int 7])) H
      rw [e]
      exact k
/-! ### bent_lamp -/
def spBent (K : PySem.W.Frag) : Sp := fun vs H Q _ => ∃ p t xs, vs = [.int p, t] ∧ Rp K H t (.tuple (xs.map lampD)) ∧ xs.length ≤ 1000 ∧ ∀ v H', Ex H H' → Bent p xs v → Q v H'
theorem sc20 : FnScope ["levels", "value", "at", "lamp"] ["levels", "value"] (defScope (top 20)) := ⟨rfl, rfl, rfl, by decide +kernel, rfl, by decide +kernel, by decide +kernel⟩
theorem ok_bent_lamp (T : Txt K mg) : FnR P w K mg base CX0 2 (He.ga K "bent_lamp") (spBent K) := by
  refine mkD T.d_bent_lamp.df sc20 (fun vs H Q E h => ?_) (fun _ _ _ _ _ _ us hl => match us, hl with | [_, _], _ => rfl) (fun cdv A outer s H vs Q E hr h => ?_)
  · obtain ⟨p, t, xs, rfl, _⟩ := h
    rfl
  · obtain ⟨p, t, xs, rfl, ht, hn, k⟩ := h
    refine ⟨_, (pss_cons (ps_if (pt_not (pt_val (b_isi T (pa_cons (pv 1) (pa_cons (pn_tuple T) pa_nil)))))
      (pss_one (ps_ret (pe_un un_neg pe_int)))
      pss_nil)
      (pss_cons (ps_for PassesOwn.never rfl (pi_enumT rfl T.f_enumerate (pa_cons (pv 1) pa_nil)) (pg_tup rfl (pgs_cons (pg_name (i := 2) sc20.nd rfl (.inl rfl)) (pgs_cons (pg_name (i := 3) sc20.nd rfl (.inl rfl)) pgs_nil)))
      (pss_cons (ps_if (PW.pt (pw_or (pt_not (pt_val (b_isi T (pa_cons (pv 3) (pa_cons (pn_tuple T) pa_nil))))) (pw_or (pt_cmpR op_ne (b_len T (pa_cons (pv 3) pa_nil)) pe_int (nomark _)) (pw_or (pt_not (pt_val (pe_d T.d_is_integer (ok_is_integer T) hr (pa_cons (pe_ix ix_tup (pv 3) pe_int (fun _ _ => rfl)) pa_nil)))) (pw_or1 (pt_not (pt_val (pe_d T.d_is_integer (ok_is_integer T) hr (pa_cons (pe_ix ix_tup (pv 3) pe_int (fun _ _ => rfl)) pa_nil)))))))))
        (pss_one (ps_ret (pv 2)))
        pss_nil)
        (pss_one (ps_if (PW.pt (pw_or (pt_not (pt_chain op_lt op_lt pe_int (pe_ix ix_tup (pv 3) pe_int (fun _ _ => rfl)) (pv 0))) (pw_or1 (PW.pt (pw_and (pt_cmpR op_gt (pv 2) pe_int (nomark _)) (pw_and1 (pt_cmpR op_ge (pe_ix ix_tup (pe_ix ix_tup (pv 1) (pe_op op_sub (pv 2) pe_int) (fun _ _ => rfl)) pe_int (fun _ _ => rfl)) (pe_ix ix_tup (pv 3) pe_int (fun _ _ => rfl)) (nomark _))))))))
        (pss_one (ps_ret (pv 2)))
        pss_nil))))
      (pss_one (ps_ret pe_non)))), ?_⟩
    refine ⟨t, rfl, t, _, _, _, _, rfl, .ty _, ht.ty, kit_tuple _, _, rfl, itF ?_⟩
    obtain ⟨a, us, rfl, hs, ha⟩ := ht.tupE
    have hlen : us.length = xs.length := by rw [ha.len, List.length_map]
    refine ⟨.ref a, rfl, a, us, rfl, hs, for_enumT (xs := us) (fun i σ' H' => (∃ u v, σ' = [some (.int p), some (.ref a), u, v]) ∧ Ex H H' ∧ ∀ j, j < i → goodAt p xs j = true) ⟨⟨_, _, rfl⟩, .refl _, fun j hj => absurd hj (Nat.not_lt_zero _)⟩ (fun i σ' H' _ hw => ex_t hw.2.1 hs) ?_ ?_⟩
    · rintro i x σ' H' T' hx ⟨⟨u, v, rfl⟩, e1, hg⟩ hT
      have e2 : Ex H' (upd H' T' (.tup [.int (i : Nat), x])) := Ex.new hT
      have e3 := e1.trans e2
      generalize hH : upd H' T' (.tup [.int (i : Nat), x]) = H2 at e2 e3
      have hT2 : H2 T' = some (.tup [.int (i : Nat), x]) := by rw [← hH, upd_same]
      obtain ⟨y, hy, hv⟩ := (ha.x e3).getM hx
      have hilt : i < xs.length := (List.getElem?_eq_some_iff.mp hy).1
      refine ⟨T', _, rfl, .of hT2, rfl, .int (i : Nat), [x], rfl, x, [], rfl, rfl, ?_⟩
      have bad : goodAt p xs i = false → Q (.int (i : Nat)) H2 := fun h => k _ _ e3 (.inr ⟨i, rfl, hilt, h⟩)
      cases y with
      | none =>
        obtain ⟨q, rfl, hq⟩ := hv.empt
        refine ⟨.ref q, rfl, .ref q, _, _, _, _, rfl, .ty _, hv.ty, kit_tuple _, _, rfl, itF ?_⟩
        refine ⟨.ref q, rfl, .ref q, 0, rfl, .inr ⟨[], hq, rfl⟩, rfl, _, rfl, itT ⟨.int (i : Nat), rfl, bad ?_⟩⟩
        unfold goodAt
        rw [hy]
      | some ab =>
        obtain ⟨la, lb⟩ := ab
        obtain ⟨q, rfl, hq⟩ := hv.lamp
        refine ⟨.ref q, rfl, .ref q, _, _, _, _, rfl, .ty _, hv.ty, kit_tuple _, _, rfl, itF ?_⟩
        refine ⟨.ref q, rfl, .ref q, 2, rfl, .inr ⟨_, hq, rfl⟩, rfl, _, rfl, itF ?_⟩
        refine ⟨.ref q, rfl, q, _, 0, .int la, rfl, rfl, hq, rfl, .int la, .int la, rfl, .int la, _, rfl, itF ?_⟩
        refine ⟨.ref q, rfl, q, _, 1, .int lb, rfl, rfl, hq, rfl, .int lb, .int lb, rfl, .int lb, _, rfl, itF ?_⟩
        have eg : goodAt p xs i = (decide (0 < lb) && decide (lb < p) && (decide (i = 0) || match xs[i - 1]? with
          | some (some (q, _)) => decide (q < la)
          | _ => false)) := by
          unfold goodAt
          rw [hy] <;> rfl
        refine ⟨.ref q, rfl, q, _, 1, .int lb, rfl, rfl, hq, rfl, 0, lb, rfl, rfl, _, rfl, ite_b (fun h1 => ⟨.int p, rfl, lb, p, rfl, rfl, _, rfl, ite_b (fun h2 => ?_) (fun h2 => ?_)⟩) (fun h1 => ?_)⟩
        · refine itT ⟨.int (i : Nat), rfl, bad ?_⟩
          rw [eg]
          simp at h2
          simp [h1]
          omega
        · have h2' : lb < p := by simpa using h2
          have h1' : 0 < lb := by simpa using h1
          have fine : goodAt p xs i = true → (∃ u' v', ([some (V.int p), some (V.ref a), some (V.int (i : Nat)), some (V.ref q)] : L2.St) = [some (.int p), some (.ref a), u', v']) ∧ Ex H H2 ∧ ∀ j, j < i + 1 → goodAt p xs j = true :=
            fun h => ⟨⟨_, _, rfl⟩, e3, fun j hj => by
              rcases Nat.lt_succ_iff_lt_or_eq.mp hj with hj | hj
              · exact hg j hj
              · rw [hj]; exact h⟩
          refine ⟨.int (i : Nat), rfl, _, _, rfl, rfl, _, rfl, ite_b (fun h3 => ?_) (fun h3 => itF (fine ?_))⟩
          · have h3' : (0 : Int) < (i : Nat) := by simpa using h3
            have hi0 : 0 < i := by omega
            have hgp := hg (i - 1) (by omega)
            unfold goodAt at hgp
            cases hp : xs[i - 1]? with
            | none => rw [hp] at hgp; exact absurd hgp Bool.false_ne_true
            | some y =>
              cases y with
              | none => rw [hp] at hgp; exact absurd hgp Bool.false_ne_true
              | some qr =>
                obtain ⟨qa, qb⟩ := qr
                obtain ⟨z, hz, hzv⟩ := (ha.x e3).getM' hp
                obtain ⟨zq, rfl, hzq⟩ := hzv.lamp
                have hat : atI us ((i : Int) - 1) = some (.ref zq) := by
                  have e9 : (i : Int) - 1 = ((i - 1 : Nat) : Int) := by omega
                  rw [e9, atI_nat]
                  exact hz
                refine ⟨.ref a, rfl, .int (i : Nat), rfl, _, _, rfl, rfl, a, us, _, .ref zq, rfl, rfl, ex_t e3 hs, hat, zq, _, 0, .int qa, rfl, rfl, hzq, rfl, .ref q, rfl, q, _, 0, .int la, rfl, rfl, hq, rfl, qa, la, rfl, rfl, _, rfl, ite_b (fun h4 => ⟨.int (i : Nat), rfl, bad ?_⟩) (fun h4 => fine ?_)⟩
                · rw [eg, hp]
                  have : ¬ qa < la := by have := of_decide_eq_true h4; omega
                  simp [h1', h2', this, Nat.pos_iff_ne_zero.mp hi0]
                · rw [eg, hp]
                  have : qa < la := by have := of_decide_eq_false h4; omega
                  simp [h1', h2', this]
          · rw [eg]
            have : i = 0 := by have := of_decide_eq_false h3; omega
            simp [h1', h2', this]
        · refine ⟨_, rfl, itT (itT ⟨.int (i : Nat), rfl, bad ?_⟩)⟩
          rw [eg, h1]
          rfl
    · rintro σ' H' ⟨⟨u, v, rfl⟩, e1, hg⟩
      refine k _ _ e1 (.inl ⟨rfl, ?_⟩)
      unfold okL
      rw [List.all_eq_true]
      intro j hj
      exact hg j (by rw [hlen]; exact List.mem_range.mp hj)
end
end Lk
namespace Lk
open PySem PySem.Spec PyProof.Rows L2 Evl Lm TL
/-! ### rounds as objects -/
theorem slt_n {H H' : Hp} {a C dx : Addr} {vs : List (Option V)} (e : ExN H H') (h : SlX.Slt H a C dx vs) : SlX.Slt H' a C dx vs := by
  rcases h with ⟨h1, h2⟩ | ⟨h1, h2⟩
  · exact .inl ⟨e _ _ h1 fun _ z => (nomatch z), h2⟩
  · exact .inr ⟨e _ _ h1 (fun _ z => by unfold SlX.SlO at z; cases z), e _ _ h2 fun _ z => nomatch z⟩
def lampsD (ls : List (Int × Int)) : PyData := .tuple (ls.map fun a => lampD (some a))
structure RdAt (K : PySem.W.Frag) (H : Hp) (v : V) (r : RD) : Prop where
  ex : ∃ a dx vs L, v = .ref a ∧ SlX.Slt H a (cR K) dx vs ∧ vs[0]? = some (some (.int r.e)) ∧ vs[1]? = some (some L) ∧ vs[2]? = some (some (.int r.p)) ∧ Rp K H L (lampsD r.ls)
theorem RdAt.n {K : PySem.W.Frag} {H H' : Hp} {v : V} {r : RD} (e : ExN H H') (h : RdAt K H v r) : RdAt K H' v r := by
  obtain ⟨a, dx, vs, L, h1, h2, h3, h4, h5, h6⟩ := h.ex
  exact ⟨a, dx, vs, L, h1, slt_n e h2, h3, h4, h5, h6.n e⟩
theorem RdAt.x {K : PySem.W.Frag} {H H' : Hp} {v : V} {r : RD} (h : RdAt K H v r) (e : Ex H H') : RdAt K H' v r := h.n (exN e)
theorem ex_made {H0 : Hp} {x dx C : Addr} (h1 : H0 x = none) (h2 : H0 dx = none) (h3 : dx ≠ x) : Ex H0 (upd (upd H0 dx (.own x)) x (.ins C dx [])) := fun b o e => by
  rw [upd_ne (fun z => by rw [z, h1] at e; cases e), upd_ne (fun z => by rw [z, h2] at e; cases e)]
  exact e
theorem ex_slH {H0 H : Hp} {x dx C : Addr} {vs : List (Option V)} (h1 : H0 x = none) (h2 : H0 dx = none) (e : Ex H0 H) : Ex H0 (SlX.slH H x C dx vs) := fun b o q => by
  rw [SlX.slH_ne (fun z => by rw [z, h1] at q; cases q) (fun z => by rw [z, h2] at q; cases q)]
  exact e _ _ q
section
variable {P : Program} {w : World} {K : PySem.W.Frag} {mg : Str → Option Value} {base : Heap}
/-! ### wrong_lamp -/
def Wrong (p : Int) (xs : List (Option (Int × Int))) (v : V) : Prop := (v = .non ∧ okL p xs = true ∧ xs.length ≤ 400) ∨ ∃ i : Nat, v = .int i ∧ (okL p xs = false ∨ 400 < xs.length)
def spWrong (K : PySem.W.Frag) : Sp := fun vs H Q _ => ∃ p t xs, vs = [.int p, t] ∧ Rp K H t (.tuple (xs.map lampD)) ∧ xs.length ≤ 1000 ∧ ∀ v H', Ex H H' → Wrong p xs v → Q v H'
theorem sc21 : FnScope ["levels", "value", "at"] ["levels", "value"] (defScope (top 21)) := ⟨rfl, rfl, rfl, by decide +kernel, rfl, by decide +kernel, by decide +kernel⟩
theorem ok_wrong_lamp (T : Txt K mg) : FnR P w K mg base CX0 3 (He.ga K "wrong_lamp") (spWrong K) := by
  refine mkD T.d_wrong_lamp.df sc21 (fun vs H Q E h => ?_) (fun _ _ _ _ _ _ us hl => match us, hl with | [_, _], _ => rfl) (fun cdv A outer s H vs Q E hr h => ?_)
  · obtain ⟨p, t, xs, rfl, _⟩ := h
    rfl
  · obtain ⟨p, t, xs, rfl, ht, hn, k⟩ := h
    refine ⟨_, (pss_cons (ps_set (i := 2) sc21.nd rfl (.inl rfl) (pe_d T.d_bent_lamp (ok_bent_lamp T) hr (pa_cons (pv 0) (pa_cons (pv 1) pa_nil))))
      (pss_cons (ps_if (PW.pt (pw_and (pt_val (b_isi T (pa_cons (pv 1) (pa_cons (pn_tuple T) pa_nil)))) (pw_and (pt_cmpR op_gt (b_len T (pa_cons (pv 1) pa_nil)) (C8.pe_gc rfl T.c_MOST_LAMPS) (nomark _)) (pw_and1 (PW.pt (pw_or (pt_cmpR op_isN (pv 2) pe_non (nomark _)) (pw_or1 (pt_cmpR op_gt (pv 2) (C8.pe_gc rfl T.c_MOST_LAMPS) (nomark _)))))))))
      (pss_one (ps_ret (C8.pe_gc rfl T.c_MOST_LAMPS)))
      pss_nil)
      (pss_one (ps_ret (pv 2))))), ?_⟩
    refine ⟨.int p, rfl, t, rfl, p, t, xs, rfl, ht, hn, fun v H' e hb => ?_⟩
    have ht' := ht.x e
    refine ⟨t, rfl, t, _, _, _, _, rfl, .ty _, ht'.ty, kit_tuple _, _, rfl, itT ?_⟩
    obtain ⟨a, us, rfl, hs, ha⟩ := ht'.tupE
    have hlen : us.length = xs.length := by rw [ha.len, List.length_map]
    refine ⟨.ref a, rfl, .ref a, us.length, rfl, .inr ⟨us, hs, rfl⟩, _, _, rfl, rfl, _, rfl, ite_b (fun h1 => ?_) (fun h1 => ?_)⟩
    · have h1' : 400 < xs.length := by rw [← hlen]; have := of_decide_eq_true h1; omega
      have q400 : Q (.int 400) H' := k _ _ e (.inr ⟨400, rfl, .inr h1'⟩)
      rcases hb with ⟨rfl, hb⟩ | ⟨i, rfl, hi, hb⟩
      · exact ⟨.non, rfl, rfl, _, rfl, itT q400⟩
      · refine ⟨.int i, rfl, rfl, _, rfl, itF ⟨.int i, rfl, _, _, rfl, rfl, _, rfl, ite_b (fun _ => q400) (fun _ => ⟨.int i, rfl, k _ _ e (.inr ⟨i, rfl, .inr h1'⟩)⟩)⟩⟩
    · have h1' : ¬ 400 < xs.length := by rw [← hlen]; have := of_decide_eq_false h1; omega
      rcases hb with ⟨rfl, hb⟩ | ⟨i, rfl, hi, hb⟩
      · exact ⟨.non, rfl, k _ _ e (.inl ⟨rfl, hb, by omega⟩)⟩
      · exact ⟨.int i, rfl, k _ _ e (.inr ⟨i, rfl, .inl (okL_false hi hb)⟩)⟩
/-! ### check_levels, check_number -/
def spCkL : Sp := fun vs H Q _ => ∃ p, vs = [.int p] ∧ isLev p = true ∧ Q .non H
theorem sc27 : FnScope ["value"] ["value"] (defScope (top 27)) := ⟨rfl, rfl, rfl, by decide +kernel, rfl, by decide +kernel, by decide +kernel⟩
theorem ok_check_levels (T : Txt K mg) : FnR P w K mg base CX0 3 (He.ga K "check_levels") spCkL := by
  refine mkD T.d_check_levels.df sc27 (fun vs H Q E h => ?_) (fun _ _ _ _ _ _ us hl => match us, hl with | [_], _ => rfl) (fun cdv A outer s H vs Q E hr h => ?_)
  · obtain ⟨p, rfl, _⟩ := h
    rfl
  · obtain ⟨p, rfl, hp, k⟩ := h
    refine ⟨_, (pss_one (ps_if (pt_not (pt_val (pe_d T.d_are_levels (ok_are_levels T) hr (pa_cons (pv 0) pa_nil))))
      pss_never
      pss_nil)), ?_⟩
    refine ⟨.int p, rfl, some p, rfl, _, rfl, ?_⟩
    show if (!isLev p) = true then False else Q .non H
    rw [hp]
    exact k
def spCkN : Sp := fun vs H Q _ => ∃ p, vs = [.int p] ∧ Q .non H
theorem sc28 : FnScope ["value"] ["value"] (defScope (top 28)) := ⟨rfl, rfl, rfl, by decide +kernel, rfl, by decide +kernel, by decide +kernel⟩
theorem ok_check_number (T : Txt K mg) : FnR P w K mg base CX0 2 (He.ga K "check_number") spCkN := by
  refine mkD T.d_check_number.df sc28 (fun vs H Q E h => ?_) (fun _ _ _ _ _ _ us hl => match us, hl with | [_], _ => rfl) (fun cdv A outer s H vs Q E hr h => ?_)
  · obtain ⟨p, rfl, _⟩ := h
    rfl
  · obtain ⟨p, rfl, k⟩ := h
    refine ⟨_, (pss_one (ps_if (pt_not (pt_val (pe_d T.d_is_integer (ok_is_integer T) hr (pa_cons (pv 0) pa_nil))))
      pss_never
      pss_nil)), ?_⟩
    exact ⟨.int p, rfl, .int p, .int p, rfl, .int p, _, rfl, itF k⟩
/-! ### Round.__init__ -/
def spRInit (K : PySem.W.Frag) : Sp := fun vs H Q _ => ∃ H0 x dx L p ls e, vs = [.ref x, .int p, L, .int e] ∧ H0 x = none ∧ H0 dx = none ∧ dx ≠ x ∧ H = upd (upd H0 dx (.own x)) x (.ins (cR K) dx []) ∧ Rp K H0 L (lampsD ls) ∧ Valid ⟨p, ls, e⟩ ∧
  ∀ H', Ex H0 H' → RdAt K H' (.ref x) ⟨p, ls, e⟩ → Q .non H'
theorem sc24_1 : FnScope ["self", "levels", "lamps", "end", "at"] ["self", "levels", "lamps", "end"] (defScope (mth 24 1)) := ⟨rfl, rfl, rfl, by decide +kernel, rfl, by decide +kernel, by decide +kernel⟩
theorem map_lampD (ls : List (Int × Int)) : lampsD ls = .tuple ((ls.map some).map lampD) := by
  unfold lampsD
  rw [List.map_map]
  rfl
theorem ok_rinit (T : Txt K mg) : FnR P w K mg base CX0 4 (He.ma K (cR K) "__init__") (spRInit K) := by
  refine mkD T.r_init.df sc24_1 (fun vs H Q E h => ?_) (fun _ _ _ _ _ _ us hl => match us, hl with | [_, _, _, _], _ => rfl) (fun cdv A outer s H vs Q E hr h => ?_)
  · obtain ⟨H0, x, dx, L, p, ls, e, rfl, _⟩ := h
    rfl
  · obtain ⟨H0, x, dx, L, p, ls, e, rfl, hx, hdx, hne, rfl, hL, hv, k⟩ := h
    refine ⟨_, (pss_cons (ps_expr (pe_d T.d_check_levels (ok_check_levels T) hr (pa_cons (pv 1) pa_nil)))
      (pss_cons (ps_set (i := 4) sc24_1.nd rfl (.inl rfl) (pe_d T.d_wrong_lamp (ok_wrong_lamp T) hr (pa_cons (pv 1) (pa_cons (pv 2) pa_nil))))
      (pss_cons (ps_if (pt_cmpR op_notN (pv 4) pe_non (nomark _))
      pss_never
      pss_nil)
      (pss_cons (ps_expr (pe_d T.d_check_number (ok_check_number T) hr (pa_cons (pv 3) pa_nil)))
      (pss_cons (SlX.ps_sl (pv 0) (pv 1))
      (pss_cons (SlX.ps_sl (pv 0) (pv 2))
      (pss_one (SlX.ps_sl (pv 0) (pv 3))))))))), ?_⟩
    have e0 := ex_made (C := cR K) hx hdx hne
    refine ⟨.int p, rfl, p, rfl, hv.lev, .int p, rfl, L, rfl, p, L, ls.map some, rfl, by rw [← map_lampD]; exact hL.x e0, by rw [List.length_map]; exact Nat.le_trans hv.few (by decide), fun v H1 e1 hb => ?_⟩
    have hvn : v = .non := by
      rcases hb with ⟨h, _⟩ | ⟨i, _, h | h⟩
      · exact h
      · rw [hv.ok] at h; cases h
      · rw [List.length_map] at h
        have := hv.few
        exact absurd this (by show ¬ ls.length ≤ 400; omega)
    subst hvn
    refine ⟨.non, rfl, rfl, _, rfl, itF ⟨.int e, rfl, e, rfl, ?_⟩⟩
    have hi : H1 x = some (.ins (cR K) dx []) := e1 _ _ upd_same
    refine ⟨.int p, rfl, .ref x, rfl, x, _, dx, _, [], 2, rfl, .inl ⟨hi, rfl⟩, T.r_f.sc, T.r_s2, ?_⟩
    refine ⟨L, rfl, .ref x, rfl, x, _, dx, _, _, 1, rfl, SlX.slH_slt hne, T.r_f.sc, T.r_s1, ?_⟩
    rw [SlX.slH_twice hne]
    refine ⟨.int e, rfl, .ref x, rfl, x, _, dx, _, _, 0, rfl, SlX.slH_slt hne, T.r_f.sc, T.r_s0, ?_⟩
    rw [SlX.slH_twice hne]
    have e2 : Ex H0 (SlX.slH H1 x (cR K) dx (SlX.putS 0 (.int e) (SlX.putS 1 L (SlX.putS 2 (.int p) [])))) := ex_slH hx hdx (e0.trans e1)
    exact k _ e2 ⟨x, dx, _, L, rfl, SlX.slH_slt hne, rfl, rfl, rfl, hL.x e2⟩
/-- Round(p, L, e) -/
theorem mkR {H1 : Hp} {L : V} {p e : Int} {ls : List (Int × Int)} {Q : VK} (hL : Rp K H1 L (lampsD ls)) (hv : Valid ⟨p, ls, e⟩) (q : ∀ y H2, Ex H1 H2 → RdAt K H2 y ⟨p, ls, e⟩ → Q y H2) :
    ∀ x dx, H1 x = none → H1 dx = none → dx ≠ x → spRInit K (.ref x :: [.int p, L, .int e]) (upd (upd H1 dx (.own x)) x (.ins (cR K) dx [])) (fun v H2 => v = .non ∧ Q (.ref x) H2) E0 :=
  fun x dx hx hdx hne => ⟨H1, x, dx, L, p, ls, e, rfl, hx, hdx, hne, rfl, hL, hv, fun H' e1 h => ⟨rfl, q _ _ e1 h⟩⟩
end
end Lk
namespace Lk
open PySem PySem.Spec PyProof.Rows L2 Evl Lm TL
theorem paired_map {α : Type} {f : α → V} {ys : List V} : ∀ {l : List α}, Paired (fun a y => y = f a) l ys → ys = l.map f := by
  induction ys with
  | nil => intro l h; cases h; rfl
  | cons y ys ih =>
    intro l h
    cases h with
    | cons r t => rw [r, ih t]; rfl
theorem paired_rpa {α : Type} {K : PySem.W.Frag} {H0 H : Hp} {f : α → PyData} (e : Ex H0 H) {ys : List V} : ∀ {l : List α}, Paired (fun a y => Rp K H0 y (f a)) l ys → RpA K H ys (l.map f) := by
  induction ys with
  | nil => intro l h; cases h; exact .nil
  | cons y ys ih =>
    intro l h
    cases h with
    | cons r t => exact .cons (r.x e) (ih t)
def pairI : List (Option Int) → Option (Int × Int)
  | [some a, some b] => some (a, b)
  | _ => none
theorem pairI_none {os : List (Option Int)} (h : os.length ≠ 2 ∨ none ∈ os) : pairI os = none := by
  unfold pairI
  split
  · rcases h with h | h <;> simp at h
  · rfl
theorem getM_str {l : List Str} {i : Nat} {x : V} {b : Str} (h1 : l[i]? = some b) (h2 : (l.map V.str)[i]? = some x) : x = .str b := by
  rw [List.getElem?_map, h1] at h2
  exact (Option.some.inj h2).symm
theorem flat_oI (os : List (Option Int)) : (os.map oI).all flatV = true := by
  rw [List.all_map, List.all_eq_true]
  intro o _
  cases o <;> rfl
theorem okL_some {p : Int} {xs : List (Option (Int × Int))} (h : okL p xs = true) : xs = (xs.filterMap id).map some := by
  have k : ∀ x ∈ xs, ∃ y, x = some y := by
    intro x hx
    obtain ⟨i, hi, e⟩ := List.mem_iff_getElem.mp hx
    unfold okL at h
    have g := List.all_eq_true.mp h i (List.mem_range.mpr hi)
    unfold goodAt at g
    rw [List.getElem?_eq_getElem hi, e] at g
    cases x with
    | none => exact absurd g Bool.false_ne_true
    | some y => exact ⟨y, rfl⟩
  clear h
  induction xs with
  | nil => rfl
  | cons x xs ih =>
    obtain ⟨y, e⟩ := k x List.mem_cons_self
    have h2 := ih fun z hz => k z (List.mem_cons_of_mem _ hz)
    rw [e]
    simp only [List.filterMap_cons, id, List.map_cons]
    rw [← h2]
theorem cutV_5 (a b c d e : V) (r : List V) : cutV (a :: b :: c :: d :: e :: r) (some 5) none = r := by
  unfold cutV
  rw [show (some (5 : Int)) = some ((5 : Nat) : Int) from rfl, HT.sIx_nat, HT.sIx_none]
  simp only [List.length_cons]
  rw [Nat.min_eq_left (by omega)]
  simp only [List.drop_succ_cons, List.drop_zero]
  rw [List.take_of_length_le (by omega)]
/-! ### what does not lean on the new list -/
mutual
def noL : PyData → Bool
  | .list _ => false
  | .dict _ => false
  | .tuple ds => noLs ds
  | _ => true
def noLs : List PyData → Bool
  | [] => true
  | d :: ds => noL d && noLs ds
end
theorem sqT_hide {K : PySem.W.Frag} {H : Hp} {D a : Addr} {acc xs : List V} (hD : H D = some (.lst acc)) (h : SqT K H a xs) : SqT K (hide D H) a xs := by
  rcases h with (h | ⟨o, h⟩) | h
  · exact .inl (.inl (by rw [hide_ne (fun z => by rw [z, hD] at h; cases h)]; exact h))
  · exact .inl (.inr ⟨o, by rw [hide_ne (fun z => by rw [z, hD] at h; cases h)]; exact h⟩)
  · exact .inr h
mutual
theorem Rp.hideT {K : PySem.W.Frag} {H : Hp} {D : Addr} {acc : List V} (hD : H D = some (.lst acc)) : ∀ (d : PyData) (v : V), Rp K H v d → noL d = true → Rp K (hide D H) v d
  | .none, _, h, _ => by cases h; exact .non
  | .bool b, _, h, _ => by cases h; exact .bl b
  | .int i, _, h, _ => by cases h; exact .int i
  | .str x, _, h, _ => by cases h; exact .str x
  | .list ds, _, h, n => absurd (show false = true from n) Bool.false_ne_true
  | .tuple ds, _, h, n => by
    cases h with
    | tup hs ha => exact .tup (sqT_hide hD hs) (RpA.hideT hD ds _ ha n)
  | .dict _, _, _, n => absurd (show false = true from n) Bool.false_ne_true
theorem RpA.hideT {K : PySem.W.Frag} {H : Hp} {D : Addr} {acc : List V} (hD : H D = some (.lst acc)) : ∀ (ds : List PyData) (vs : List V), RpA K H vs ds → noLs ds = true → RpA K (hide D H) vs ds
  | [], _, h, _ => by cases h; exact .nil
  | d :: ds, _, h, n => by
    have n' : noL d = true ∧ noLs ds = true := Bool.and_eq_true_iff.mp n
    cases h with
    | cons h1 h2 => exact .cons (Rp.hideT hD d _ h1 n'.1) (RpA.hideT hD ds _ h2 n'.2)
end
section
variable {P : Program} {w : World} {K : PySem.W.Frag} {mg : Str → Option Value} {base : Heap}
/-! ### text_lamp -/
def spTL (K : PySem.W.Frag) : Sp := fun vs H Q _ => ∃ z, vs = [.str z] ∧ z.length ≤ 500 ∧ ∀ v H', Ex H H' → Rp K H' v (lampD (lampR z)) → Q v H'
theorem sc25 : FnScope ["word", "parts", "part"] ["word"] (defScope (top 25)) := ⟨rfl, rfl, rfl, by decide +kernel, rfl, by decide +kernel, by decide +kernel⟩
theorem ok_text_lamp (T : Txt K mg) : FnR P w K mg base CX0 2 (He.ga K "text_lamp") (spTL K) := by
  refine mkD T.d_text_lamp.df sc25 (fun vs H Q E h => ?_) (fun _ _ _ _ _ _ us hl => match us, hl with | [_], _ => rfl) (fun cdv A outer s H vs Q E hr h => ?_)
  · obtain ⟨z, rfl, _⟩ := h
    rfl
  · obtain ⟨z, rfl, hz, k⟩ := h
    refine ⟨_, (pss_cons (ps_setLc (i := 1) rfl sc25.nd rfl rfl (sw_true rfl rfl rfl (by decide +kernel)) (own := [("part", 2)]) (pi_list (pe_split (pv 0) pe_str)) (blkOk_by (N := ["word", "parts", "part"]) (sc := defScope (top 25)) (by decide +kernel)) (fun _ _ _ _ _ => (pg_name (i := 2) sc25.nd rfl (.inl rfl))) (fun _ _ _ _ _ => pts_nil) (fun _ _ _ _ _ => (pe_d T.d_written_integer (ok_written_integer T) hr (pa_cons (pv 2) pa_nil))))
      (pss_one (ps_ret (pe_ifExp (PW.pt (pw_or (pt_cmpR op_ne (b_len T (pa_cons (pv 1) pa_nil)) pe_int (nomark _)) (pw_or1 (pt_cmpR op_in_seq pe_non (pv 1) (by rfl))))) (pe_tup pa_nil) (b_tupL T (pa_cons (pv 1) pa_nil)))))), ?_⟩
    have hcnt := split_cnt (c := 58) (by decide) z
    rw [← co_sep] at hcnt
    have hlen : ∀ p ∈ Txt.split z ":", p.length ≤ 500 := fun p hp => by
      rw [co_sep] at hp
      exact Nat.le_trans (split_len (by decide) hp) hz
    refine ⟨.str z, rfl, ⟨z, rfl⟩, z, ":", rfl, rfl, by decide +kernel, by rw [sizeLine_eq]; omega, fun p hp => ⟨p, rfl, ⟨_, .of upd_same⟩, fun D hD => lcL (xs := (Txt.split z ":").map V.str) (Txt.split z ":") (fun _ => true) (fun w y _ => y = oI (wInt w)) (fun _ _ _ _ _ h => h) (.of upd_same) (by rw [List.length_map]) (by rw [List.length_map]; omega) hD (fun i b x H2 R1 R0 hb hx e2 hac r1 r0 => ?_) (fun H2 ys e2 hD2 hly hpr => ?_)⟩⟩
    · cases getM_str hb hx
      exact ⟨rfl, .str b, rfl, b, rfl, hlen b (List.mem_of_getElem? hb), fun H' e => r1 rfl _ _ e rfl⟩
    · rw [filter_T] at hpr
      have hy := paired_map hpr
      have hy2 : ys = ((Txt.split z ":").map wInt).map oI := by rw [hy, List.map_map]; rfl
      clear hy hpr
      have e3 : Ex H H2 := (Ex.new hp).trans e2
      have eL : lampR z = pairI ((Txt.split z ":").map wInt) := rfl
      generalize (Txt.split z ":").map wInt = os at hy2 eL
      subst hy2
      have bad : lampR z = none → ([] : List V).length ≤ sizeLine ∧ ∀ q, H2 q = none → Q (.ref q) (upd H2 q (.tup [])) := fun h => ⟨Nat.zero_le _, fun q hq => k _ _ (e3.trans (Ex.new hq)) (by rw [h]; exact .tup (.of upd_same) .nil)⟩
      refine ⟨.ref D, rfl, .ref D, _, rfl, .inl ⟨_, .of hD2, rfl⟩, rfl, _, rfl, ite_b (fun h => itT (bad ?_)) (fun h => ⟨.ref D, rfl, D, _, rfl, .inl (.of hD2), rfl, flat_oI _, _, rfl, ite_b (fun h2 => bad ?_) (fun h2 => ⟨.ref D, rfl, D, _, rfl, .of hD2, fun q hq => k _ _ (e3.trans (Ex.new hq)) ?_⟩)⟩)⟩
      · rw [eL]
        refine pairI_none (.inl fun z => ?_)
        rw [List.length_map, z] at h
        exact absurd h (by decide)
      · rw [eL]
        refine pairI_none (.inr ?_)
        have h3 : inV .non (os.map oI) = true := h2
        unfold inV at h3
        rw [List.any_map, List.any_eq_true] at h3
        obtain ⟨o, ho, h3⟩ := h3
        cases o with
        | none => exact ho
        | some i => exact absurd (show false = true from h3) Bool.false_ne_true
      · have hl2 : os.length = 2 := by
          simp only [List.length_map, Bool.not_eq_false', decide_eq_true_eq] at h
          injection h with h
          omega
        match os, hl2 with
        | [none, _], _ => exact absurd h2 (by simp [oI, inV, eqV])
        | [some _, none], _ => exact absurd h2 (by simp [oI, inV, eqV])
        | [some a, some b], _ =>
          rw [eL]
          exact .tup (.of upd_same) (.cons (.int a) (.cons (.int b) .nil))
/-! ### text_round -/
theorem getM5 {α : Type} {f : Str → α} {a : Str} {l : List Str} {i : Nat} (h : l[i]? = some a) : (l.map f)[i]? = some (f a) := by rw [List.getElem?_map, h]; rfl
theorem readW_short {l : List Str} (h : l.length < 5) : readW l = none := by
  match l, h with
  | [], _ => rfl
  | [_], _ => rfl
  | [_, _], _ => rfl
  | [_, _, _], _ => rfl
  | [_, _, _, _], _ => rfl
  | _ :: _ :: _ :: _ :: _ :: r, h => simp only [List.length_cons] at h; omega
theorem dec_ne {a b : Str} (h : (!decide (V.str a = V.str b)) = true) : a ≠ b := fun e => by rw [e] at h; simp at h
theorem dec_eq {a b : Str} (h : (!decide (V.str a = V.str b)) = false) : a = b := by
  have : V.str a = V.str b := by simpa using h
  injection this
def OptR (K : PySem.W.Frag) (H : Hp) (v : V) : Option RD → Prop
  | some r => RdAt K H v r
  | none => v = .non
theorem OptR.n {K : PySem.W.Frag} {H H' : Hp} {v : V} {o : Option RD} (e : ExN H H') (h : OptR K H v o) : OptR K H' v o := by
  cases o with
  | none => exact h
  | some r => exact RdAt.n e h
def spTR (K : PySem.W.Frag) : Sp := fun vs H Q _ => ∃ z, vs = [.str z] ∧ z.length ≤ 500 ∧ ∀ v H', Ex H H' → OptR K H' v (readR z) → Q v H'
theorem sc26 : FnScope ["value", "words", "levels", "end", "lamps", "word"] ["value"] (defScope (top 26)) := ⟨rfl, rfl, rfl, by decide +kernel, rfl, by decide +kernel, by decide +kernel⟩
theorem ok_text_round (T : Txt K mg) : FnR P w K mg base CX0 6 (He.ga K "text_round") (spTR K) := by
  refine mkD T.d_text_round.df sc26 (fun vs H Q E h => ?_) (fun _ _ _ _ _ _ us hl => match us, hl with | [_], _ => rfl) (fun cdv A outer s H vs Q E hr h => ?_)
  · obtain ⟨z, rfl, _⟩ := h
    rfl
  · obtain ⟨z, rfl, hz, k⟩ := h
    refine ⟨_, (pss_cons (ps_if (pt_not (pt_val (b_isi T (pa_cons (pv 0) (pa_cons (pn_str T) pa_nil)))))
      (pss_one (ps_ret pe_non))
      pss_nil)
      (pss_cons (ps_set (i := 1) sc26.nd rfl (.inl rfl) (pe_split (pv 0) pe_str))
      (pss_cons (ps_if (PW.pt (pw_or (pt_cmpR op_lt (b_len T (pa_cons (pv 1) pa_nil)) pe_int (nomark _)) (pw_or (pt_cmpR op_ne (pe_ix ix_list (pv 1) pe_int (fun _ _ => rfl)) pe_str (nomark _)) (pw_or (pt_cmpR op_ne (pe_ix ix_list (pv 1) pe_int (fun _ _ => rfl)) pe_str (nomark _)) (pw_or1 (pt_cmpR op_notIn_seq (pe_ix ix_list (pv 1) pe_int (fun _ _ => rfl)) (pe_tup (pa_cons pe_str (pa_cons pe_str pa_nil))) (by rfl)))))))
      (pss_one (ps_ret pe_non))
      pss_nil)
      (pss_cons (ps_par (i := 2) (j := 3) rfl sc26.nd rfl rfl (by decide) rfl rfl (pa_cons (pe_d T.d_written_integer (ok_written_integer T) hr (pa_cons (pe_ix ix_list (pv 1) pe_int (fun _ _ => rfl)) pa_nil)) (pa_cons (pe_d T.d_written_integer (ok_written_integer T) hr (pa_cons (pe_ix ix_list (pv 1) pe_int (fun _ _ => rfl)) pa_nil)) pa_nil)) (by rfl))
      (pss_cons (ps_if (PW.pt (pw_or (pt_not (pt_val (pe_d T.d_are_levels (ok_are_levels T) hr (pa_cons (pv 2) pa_nil)))) (pw_or (pt_cmpR op_isN (pv 3) pe_non (nomark _)) (pw_or1 (pt_cmpR op_ne (pe_cmpR op_eq (b_len T (pa_cons (pv 1) pa_nil)) pe_int (nomark _)) (pe_cmpR op_eq (pe_ix ix_list (pv 1) pe_int (fun _ _ => rfl)) pe_str (nomark _)) (nomark _))))))
      (pss_one (ps_ret pe_non))
      pss_nil)
      (pss_cons (ps_set (i := 4) sc26.nd rfl (.inl rfl) (b_tupL T (pa_cons (pe_lc (own := [("word", 5)]) rfl sc26.nd (pi_list (pe_slice sl_list (pv 1) (po_some pe_int) po_none)) (blkOk_by (N := ["value", "words", "levels", "end", "lamps", "word"]) (sc := defScope (top 26)) (by decide +kernel)) (fun _ _ _ _ _ => (pg_name (i := 5) sc26.nd rfl (.inl rfl))) (fun _ _ _ _ _ => pts_nil) (fun _ _ _ _ _ => (pe_d T.d_text_lamp (ok_text_lamp T) hr (pa_cons (pv 5) pa_nil)))) pa_nil)))
      (pss_one (ps_ret (pe_ifExp (pt_cmpR op_isN (pe_d T.d_wrong_lamp (ok_wrong_lamp T) hr (pa_cons (pv 2) (pa_cons (pv 4) pa_nil))) pe_non (nomark _)) (StX.pe_makeR T.r_f.mkr (ok_rinit T) hr rfl T.g_Round pass0 (pa_cons (pv 2) (pa_cons (pv 4) (pa_cons (pv 3) pa_nil)))) pe_non))))))))), ?_⟩
    refine ⟨.str z, rfl, .str z, _, .type "str", _, _, rfl, .ty _, (Rp.str z : Rp K H (.str z) (.str z)).ty, kit_str (.str z), _, rfl, itF ?_⟩
    have hcnt := split_cnt (c := 32) (by decide) z
    rw [← sp_sep] at hcnt
    have hlen : ∀ p ∈ Txt.split z " ", p.length ≤ 500 := fun p hp => by
      rw [sp_sep] at hp
      exact Nat.le_trans (split_len (by decide) hp) hz
    refine ⟨.str z, rfl, ⟨z, rfl⟩, z, " ", rfl, rfl, by decide +kernel, by rw [sizeLine_eq]; omega, fun W hW => ?_⟩
    have eR : readR z = readW (Txt.split z " ") := rfl
    have e1 : Ex H (upd H W (.lst ((Txt.split z " ").map V.str))) := Ex.new hW
    generalize hH1 : upd H W (.lst ((Txt.split z " ").map V.str)) = H1 at e1
    have hws : H1 W = some (.lst ((Txt.split z " ").map V.str)) := by rw [← hH1, upd_same]
    generalize Txt.split z " " = ws at hcnt hlen eR hws
    have none_ : readR z = none → ∀ H', Ex H H' → Q .non H' := fun h H' e => k _ _ e (by rw [h]; rfl)
    refine ⟨.ref W, rfl, .ref W, _, rfl, .inl ⟨_, .of hws, rfl⟩, _, _, rfl, rfl, _, rfl, ite_b (fun h => itT (none_ ?_ _ e1)) (fun h => ?_)⟩
    · rw [eR]
      refine readW_short ?_
      have := of_decide_eq_true h
      rw [List.length_map] at this
      omega
    have h5 : 5 ≤ ws.length := by
      have := of_decide_eq_false h
      rw [List.length_map] at this
      omega
    match ws, h5 with
    | w0 :: w1 :: w2 :: w3 :: w4 :: rest, _ =>
    have l0 := hlen w0 (by simp)
    have l1 := hlen w1 (by simp)
    have l3 := hlen w3 (by simp)
    have lr : ∀ p ∈ rest, p.length ≤ 500 := fun p hp => hlen p (by simp [hp])
    refine ⟨.ref W, rfl, W, _, 0, .str w0, rfl, rfl, .of hws, atI_nat (j := 0) rfl, rfl, _, rfl, ite_b (fun h0 => itT (none_ ?_ _ e1)) (fun h0 => ?_)⟩
    · rw [eR]
      unfold readW
      dsimp only
      rw [if_neg fun z => dec_ne h0 z.1]
    replace h0 := dec_eq h0
    refine ⟨.ref W, rfl, W, _, 2, .str w2, rfl, rfl, .of hws, atI_nat (j := 2) rfl, rfl, _, rfl, ite_b (fun h2 => itT (none_ ?_ _ e1)) (fun h2 => ?_)⟩
    · rw [eR]
      unfold readW
      dsimp only
      rw [if_neg fun z => dec_ne h2 z.2]
    replace h2 := dec_eq h2
    refine ⟨.ref W, rfl, W, _, 4, .str w4, rfl, rfl, .of hws, atI_nat (j := 4) rfl, by show 2 ≤ sizeLine; decide, fun q hq => ⟨q, _, rfl, .inr (.of upd_same), rfl, rfl, _, rfl, ?_⟩⟩
    have e2 : Ex H1 (upd H1 q (.tup [.str "dark", .str "lamps"])) := Ex.new hq
    generalize hH2 : upd H1 q (.tup [.str "dark", .str "lamps"]) = H2 at e2
    have hws2 := e2 _ _ hws
    have e12 := e1.trans e2
    clear hH1 hH2
    have e4 : (!inV (.str w4) [.str "dark", .str "lamps"]) = !(decide (w4 = "dark") || decide (w4 = "lamps")) := by
      unfold inV
      simp only [List.any_cons, List.any_nil, eqV, Bool.or_false]
      congr 1
      rw [Bool.eq_iff_iff]
      simp only [Bool.or_eq_true, beq_iff_eq, decide_eq_true_eq]
      constructor
      · rintro (h | h)
        · exact .inl h.symm
        · exact .inr h.symm
      · rintro (h | h)
        · exact .inl h.symm
        · exact .inr h.symm
    show if (!inV (.str w4) [.str "dark", .str "lamps"]) = true then _ else _
    rw [e4]
    refine ite_b (fun h4 => none_ ?_ _ e12) (fun h4 => ?_)
    · rw [eR]
      simp only [Bool.not_eq_true', Bool.or_eq_false_iff, decide_eq_false_iff_not] at h4
      unfold readW
      dsimp only
      rw [if_pos (And.intro h0 h2)]
      cases wInt w1 <;> cases wInt w3 <;> dsimp only
      split
      · rw [if_neg fun z => h4.1 z.1, if_neg fun z => h4.2 z.1]
      · rfl
    have h4' : w4 = "dark" ∨ w4 = "lamps" := Decidable.or_iff_not_imp_left.mpr (by simpa using h4)
    refine ⟨.ref W, rfl, W, _, 1, .str w1, rfl, rfl, .of hws2, atI_nat (j := 1) rfl, w1, rfl, l1, fun H3 e3 => ?_⟩
    have hws3 := e3 _ _ hws2
    refine ⟨.ref W, rfl, W, _, 3, .str w3, rfl, rfl, .of hws3, atI_nat (j := 3) rfl, w3, rfl, l3, fun H4 e4 => ?_⟩
    have hws4 := e4 _ _ hws3
    have e14 := (e12.trans e3).trans e4
    refine ⟨_, _, rfl, ?_⟩
    refine ⟨oI (wInt w1), rfl, wInt w1, rfl, _, rfl, ite_b (fun hp => itT (none_ ?_ _ e14)) (fun hp => ?_)⟩
    · rw [eR]
      unfold readW
      dsimp only
      rw [if_pos (And.intro h0 h2)]
      cases hw1 : wInt w1 with
      | none => rfl
      | some p =>
        rw [hw1] at hp
        cases wInt w3 with
        | none => rfl
        | some e =>
          dsimp only
          have hp2 : isLev p = false := by simpa using hp
          rw [if_neg (by rw [hp2]; exact Bool.false_ne_true)]
    cases hw1 : wInt w1 with
    | none => rw [hw1] at hp; exact absurd hp (by decide)
    | some p =>
    rw [hw1] at hp
    have hp' : isLev p = true := by simpa using hp
    refine ⟨oI (wInt w3), rfl, rfl, _, rfl, ite_b (fun he => itT (none_ ?_ _ e14)) (fun he => ?_)⟩
    · rw [eR]
      unfold readW
      dsimp only
      rw [if_pos (And.intro h0 h2), hw1]
      cases hw3 : wInt w3 with
      | none => rfl
      | some e => rw [hw3] at he; exact absurd (of_decide_eq_true he) (fun z => nomatch z)
    cases hw3 : wInt w3 with
    | none => rw [hw3] at he; exact absurd he (by decide)
    | some e =>
    have eW : readW (w0 :: w1 :: w2 :: w3 :: w4 :: rest) = if w4 = "dark" ∧ rest = [] then some ⟨p, [], e⟩
        else if w4 = "lamps" ∧ rest ≠ [] ∧ rest.length ≤ 400 ∧ okL p (rest.map lampR) = true then some ⟨p, (rest.map lampR).filterMap id, e⟩ else none := by
      unfold readW
      dsimp only
      rw [if_pos (And.intro h0 h2), hw1, hw3]
      dsimp only
      rw [if_pos hp']
    rw [eW] at eR
    have nd : ("lamps" : Str) ≠ "dark" := by decide +kernel
    refine ⟨.ref W, rfl, .ref W, _, rfl, .inl ⟨_, .of hws4, rfl⟩, rfl, .ref W, rfl, W, _, 4, .str w4, rfl, rfl, .of hws4, atI_nat (j := 4) rfl, rfl, rfl, _, rfl, ite_b (fun h => none_ ?_ _ e14) (fun h => ?_)⟩
    · rw [eR]
      by_cases hr0 : rest = []
      · subst hr0
        rw [if_neg, if_neg]
        · intro z; exact z.2.1 rfl
        · intro z
          rw [z.1] at h
          simp at h
      · rw [if_neg (fun z => hr0 z.2), if_neg]
        intro z
        have hl : rest.length ≠ 0 := fun q => hr0 (List.length_eq_zero_iff.mp q)
        rw [z.1] at h
        simp [nd] at h
        omega
    have hsh : (rest = [] ∧ w4 = "dark") ∨ (rest ≠ [] ∧ w4 = "lamps") := by
      by_cases hr0 : rest = []
      · refine .inl ⟨hr0, ?_⟩
        subst hr0
        simpa using h
      · refine .inr ⟨hr0, ?_⟩
        have hl : rest.length ≠ 0 := fun q => hr0 (List.length_eq_zero_iff.mp q)
        rcases h4' with h9 | h9
        · rw [h9] at h
          simp at h
          omega
        · exact h9
    have hcr : rest.length ≤ 500 := by
      simp only [List.length_cons] at hcnt
      omega
    refine ⟨.ref W, rfl, 5, rfl, W, _, rfl, .of hws4, fun S hS => ⟨S, rfl, ⟨_, .of upd_same⟩, fun D hD => lcL (xs := rest.map V.str) rest (fun _ => true) (fun w y H => Rp K H y (lampD (lampR w))) (fun _ _ _ _ e h => h.x e) (.of (by rw [upd_same]; exact congrArg (fun z => some (HO.lst z)) (cutV_5 _ _ _ _ _ _))) (by rw [List.length_map]) (by rw [List.length_map]; omega) hD (fun i b x H6 R1 R0 hb hx e6 hac r1 r0 => ?_) (fun H6 ys e6 hD6 hly hpr => ?_)⟩⟩
    · cases getM_str hb hx
      obtain ⟨acc, hac⟩ := hac
      refine ⟨rfl, .str b, rfl, b, rfl, lr b (List.mem_of_getElem? hb), fun v H' e hv => r1 rfl _ _ e (Rp.hideT (e _ _ hac) _ _ hv ?_)⟩
      cases lampR b <;> rfl
    · rw [filter_T] at hpr
      have hy := paired_rpa hide_ex hpr
      have e16 : Ex H H6 := (e14.trans (Ex.new hS)).trans e6
      refine ⟨D, ys, rfl, .of hD6, fun l hl => ?_⟩
      have e7 : Ex H6 (upd H6 l (.tup ys)) := Ex.new hl
      have hL : Rp K (upd H6 l (.tup ys)) (.ref l) (.tuple ((rest.map lampR).map lampD)) := .tup (.of upd_same) (by rw [List.map_map]; exact hy.x e7)
      generalize upd H6 l (.tup ys) = H7 at e7 hL
      have e17 := e16.trans e7
      refine ⟨.int p, rfl, .ref l, rfl, p, .ref l, rest.map lampR, rfl, hL, by rw [List.length_map]; omega, fun v H8 e8 hb => ⟨rfl, _, rfl, ite_b (fun hn => ?_) (fun hn => none_ ?_ _ (e17.trans e8))⟩⟩
      · have hvn : v = .non := of_decide_eq_true hn
        have hok : okL p (rest.map lampR) = true ∧ (rest.map lampR).length ≤ 400 := by
          rcases hb with ⟨_, h⟩ | ⟨i, h, _⟩
          · exact h
          · rw [hvn] at h; cases h
        have hs := okL_some hok.1
        have hL8 := hL.x e8
        rw [hs, ← map_lampD] at hL8
        have hlen9 : ((rest.map lampR).filterMap id).length ≤ 400 := by
          have := congrArg List.length hs
          rw [List.length_map (f := some)] at this
          have h9 := hok.2
          omega
        refine ⟨.int p, rfl, .ref l, rfl, .int e, rfl, mkR hL8 ⟨hp', by rw [← hs]; exact hok.1, hlen9⟩ fun y H9 e9 hy9 => k _ _ ((e17.trans e8).trans e9) ?_⟩
        rw [eR]
        rcases hsh with ⟨h1, h2⟩ | ⟨h1, h2⟩
        · subst h1
          rw [if_pos ⟨h2, rfl⟩]
          exact hy9
        · rw [if_neg (fun z => h1 z.2), if_pos ⟨h2, h1, by simpa using hok.2, hok.1⟩]
          exact hy9
      · have hvn : v ≠ .non := fun z => by rw [z] at hn; exact absurd hn (by decide)
        rw [eR]
        rcases hb with ⟨h, _⟩ | ⟨i, _, h⟩
        · exact absurd h hvn
        · rcases hsh with ⟨h1, h2⟩ | ⟨h1, h2⟩
          · subst h1
            rcases h with h | h
            · exact absurd (show true = false from h) (by decide)
            · exact absurd h (by decide)
          · rw [if_neg (fun z => h1 z.2), if_neg]
            intro z
            rcases h with h | h
            · rw [z.2.2.2] at h; cases h
            · rw [List.length_map] at h
              have := z.2.2.1
              omega
end
end Lk
namespace Lk
open PySem PySem.Spec PyProof.Rows L2 Evl Lm TL
def tJn (ts : List TE) : TE := fun σ H Q => tJs ts Str.empty σ H fun out H1 => Q (.str out) H1
theorem pe_jn {X : Cx} {v1 v2 : Expr} {rest : List Expr} {ts : List TE} {pos : Pos} (h : PJ X (v1 :: v2 :: rest) ts) : PE X (.JoinedStr (v1 :: v2 :: rest) pos) (tJn ts) := pe_joined h
/-! ### str(x) by its class's own def -/
def rStrOwn (C : Addr) (sp : Sp) (E : XK) : List V → Hp → VK → Prop := fun xs H Q => ∃ a dx vs, xs = [V.ref a] ∧ SlX.Slt H a C dx vs ∧ sp [.ref a] H (fun z H' => ∃ y, z = .str y ∧ Q z H') E
theorem call_strOwn {X : Cx} {CX : CXT} {C g : Addr} {n : Nat} {sp : Sp} {E : XK} (hs : PySem.W.findIn X.K (.ref C) "__str__" = some (some (.ref g))) (hf : PySem.W.isFn X.K (.ref g) = true) (F : FnR X.prog X.w X.K X.mg X.base CX n g sp) (hr : Room (n + 2) X.A) (hx : Passes CX X E) : CallR X (.type "str") (rStrOwn C sp E) := by
  intro pins s σ H xs us Q I r h
  obtain ⟨a, dx, vs, rfl, hsl, q⟩ := h
  obtain ⟨u, rfl, ru⟩ := r.one
  cases (show u = Value.ref a from ru)
  obtain ⟨sl, od, _, J, _⟩ := SlX.slt_inst I hsl
  have hr2 : Room n X.A.in1.in1 := (show Room (n + 1) X.A.in1 from Room.in1 hr).in1
  refine PySem.W.kso_call hr2.units0 I.kIn J hs hf (wpAny_mono (wpAny_call (SlX.run_at (us := [.ref a]) (ws := [.ref a]) F hr2 I.env0.in1.in1 hx I (.cons rfl .nil) q)) (fun w s' z => ?_) fun _ _ x => x)
  obtain ⟨z', H', I', rz, y, ey, qz⟩ := z
  subst ey
  obtain ⟨t, e⟩ := (show ∃ t, w = Value.str y t from rz)
  cases e
  exact ⟨.str y, H', I', ⟨t, rfl⟩, qz⟩
theorem empty_app (x : Str) : Str.empty ++ x = x := ext_tl (by rw [tl_append]; rfl)
theorem log40 {i : Int} (h : i.natAbs < 10 ^ 40) : i.natAbs.log2 < 1920 := log_lt (Nat.lt_of_lt_of_le h (Nat.pow_le_pow_right (by decide) (by decide)))
theorem log1 {i : Int} (h : i.natAbs < 10) : i.natAbs.log2 < 1920 := log40 (Nat.lt_of_lt_of_le h (by decide))
section
variable {P : Program} {w : World} {K : PySem.W.Frag} {mg : Str → Option Value} {base : Heap}
/-! ### the getters -/
/-- return self.slot i -/
def spSlot (C : Addr) (i : Nat) : Sp := fun vs H Q _ => ∃ a dx ss v, vs = [.ref a] ∧ SlX.Slt H a C dx ss ∧ ss[i]? = some (some v) ∧ Q v H
theorem sc_get (j : Nat) (h : j = 3 ∨ j = 4 ∨ j = 5) : FnScope ["self"] ["self"] (defScope (mth 24 j)) := by
  rcases h with rfl | rfl | rfl <;> exact ⟨rfl, rfl, rfl, by decide +kernel, rfl, by decide +kernel, by decide +kernel⟩
theorem ok_rlevels (T : Txt K mg) : FnR P w K mg base CX0 1 (He5.wf K (cR K) "property" "levels") (spSlot (cR K) 2) := by
  refine mkD T.r_levels.df (sc_get 3 (.inl rfl)) (fun vs H Q E h => ?_) (fun _ _ _ _ _ _ us hl => match us, hl with | [_], _ => rfl) (fun cdv A outer s H vs Q E hr h => ?_)
  · obtain ⟨a, dx, ss, v, rfl, _⟩ := h
    rfl
  · obtain ⟨a, dx, ss, v, rfl, hs, hv, k⟩ := h
    exact ⟨_, (pss_one (ps_ret (SlX.pe_sl (pv 0)))), .ref a, rfl, a, _, dx, _, ss, 2, v, rfl, hs, T.r_f.sc, T.r_s2, hv, k⟩
theorem ok_rlamps (T : Txt K mg) : FnR P w K mg base CX0 1 (He5.wf K (cR K) "property" "lamps") (spSlot (cR K) 1) := by
  refine mkD T.r_lamps.df (sc_get 4 (.inr (.inl rfl))) (fun vs H Q E h => ?_) (fun _ _ _ _ _ _ us hl => match us, hl with | [_], _ => rfl) (fun cdv A outer s H vs Q E hr h => ?_)
  · obtain ⟨a, dx, ss, v, rfl, _⟩ := h
    rfl
  · obtain ⟨a, dx, ss, v, rfl, hs, hv, k⟩ := h
    exact ⟨_, (pss_one (ps_ret (SlX.pe_sl (pv 0)))), .ref a, rfl, a, _, dx, _, ss, 1, v, rfl, hs, T.r_f.sc, T.r_s1, hv, k⟩
theorem ok_rend (T : Txt K mg) : FnR P w K mg base CX0 1 (He5.wf K (cR K) "property" "end") (spSlot (cR K) 0) := by
  refine mkD T.r_end.df (sc_get 5 (.inr (.inr rfl))) (fun vs H Q E h => ?_) (fun _ _ _ _ _ _ us hl => match us, hl with | [_], _ => rfl) (fun cdv A outer s H vs Q E hr h => ?_)
  · obtain ⟨a, dx, ss, v, rfl, _⟩ := h
    rfl
  · obtain ⟨a, dx, ss, v, rfl, hs, hv, k⟩ := h
    exact ⟨_, (pss_one (ps_ret (SlX.pe_sl (pv 0)))), .ref a, rfl, a, _, dx, _, ss, 0, v, rfl, hs, T.r_f.sc, T.r_s0, hv, k⟩
end
section
variable {X : Cx} {e : Expr} {te : TE} {pos : Pos} {j : Nat}
/-- e.levels, e.lamps, e.end of a round -/
def tRp (C : Addr) (i : Nat) (te : TE) : TE := fun σ H Q => te σ H fun x H1 => ∃ a dx ss v, x = .ref a ∧ SlX.Slt H1 a C dx ss ∧ ss[i]? = some (some v) ∧ Q v H1
theorem pe_prop_ {C p g : Addr} {f : Str} {i : Nat} (he : PE X e te) (c : SlX.SCls X.K C) (at_ : PySem.W.findIn X.K (.ref C) f = some (some (.ref p))) (get : PySem.W.specialIn X.K (.ref p) "__get__" = some (some (.builtin "property.__get__")))
    (tk : PySem.W.takesIn X.K (.ref p) = some true) (rc : ∃ rest, PySem.W.recIn X.K p "property" = some (.ref g :: rest)) (F : FnR X.prog X.w X.K X.mg X.base CX0 1 g (spSlot C i)) (hr : Room j X.A) (hj : 2 ≤ j)
    (hb : attributeBase e f X.env (eval e X.env) = eval e X.env) : PE X (.Attribute e f pos) (tRp C i te) := by
  refine ⟨fun pins s σ H Q I h => ?_⟩
  refine attr_of hb (thn (he.run pins s σ H _ I h) fun w s1 ⟨x, H1, I1, rx, a, dx, ss, v, ex, hs, hv, q⟩ => ?_)
  subst ex
  obtain rfl : w = Value.ref a := rx
  exact SlX.getprop_sl (E := E0) I1 hs c at_ get tk rc F (hr.mono hj) (fun _ _ _ _ h => h) ⟨a, dx, ss, v, rfl, hs, hv, q⟩
theorem pe_levels (T : Txt X.K X.mg) (he : PE X e te) (hr : Room j X.A) (hj : 2 ≤ j := by decide) (hb : attributeBase e "levels" X.env (eval e X.env) = eval e X.env := by rfl) : PE X (.Attribute e "levels" pos) (tRp (cR X.K) 2 te) :=
  pe_prop_ he T.r_f.sc T.r_levels.at_ T.r_levels.get T.r_levels.tk T.r_levels.rc (ok_rlevels T) hr hj hb
theorem pe_lamps (T : Txt X.K X.mg) (he : PE X e te) (hr : Room j X.A) (hj : 2 ≤ j := by decide) (hb : attributeBase e "lamps" X.env (eval e X.env) = eval e X.env := by rfl) : PE X (.Attribute e "lamps" pos) (tRp (cR X.K) 1 te) :=
  pe_prop_ he T.r_f.sc T.r_lamps.at_ T.r_lamps.get T.r_lamps.tk T.r_lamps.rc (ok_rlamps T) hr hj hb
theorem pe_end (T : Txt X.K X.mg) (he : PE X e te) (hr : Room j X.A) (hj : 2 ≤ j := by decide) (hb : attributeBase e "end" X.env (eval e X.env) = eval e X.env := by rfl) : PE X (.Attribute e "end" pos) (tRp (cR X.K) 0 te) :=
  pe_prop_ he T.r_f.sc T.r_end.at_ T.r_end.get T.r_end.tk T.r_end.rc (ok_rend T) hr hj hb
end
theorem Rp.lampsE {K : PySem.W.Frag} {H : Hp} {v : V} {ls : List (Int × Int)} (h : Rp K H v (lampsD ls)) : ∃ p us, v = .ref p ∧ SqT K H p us ∧ us.length = ls.length ∧ ∀ (i : Nat) (u : V), us[i]? = some u → ∃ a, ls[i]? = some a ∧ Rp K H u (lampD (some a)) := by
  obtain ⟨p, us, rfl, hs, ha⟩ := Rp.tupE h
  exact ⟨p, us, rfl, hs, by rw [ha.len, List.length_map], fun i u e => ha.getM e⟩
section
variable {P : Program} {w : World} {K : PySem.W.Frag} {mg : Str → Option Value} {base : Heap}
/-! ### str(round) -/
def spRStr (K : PySem.W.Frag) : Sp := fun vs H Q _ => ∃ a r, vs = [.ref a] ∧ RdAt K H (.ref a) r ∧ Small r ∧ ∀ H', Ex H H' → Q (.str (sheetS r)) H'
theorem sc24_10 : FnScope ["self", "words", "place", "level"] ["self"] (defScope (mth 24 10)) := ⟨rfl, rfl, rfl, by decide +kernel, rfl, by decide +kernel, by decide +kernel⟩
theorem ok_rstr (T : Txt K mg) : FnR P w K mg base CX0 1 (He.ma K (cR K) "__str__") (spRStr K) := by
  refine mkD T.r_str.df sc24_10 (fun vs H Q E h => ?_) (fun _ _ _ _ _ _ us hl => match us, hl with | [_], _ => rfl) (fun cdv A outer s H vs Q E hr h => ?_)
  · obtain ⟨a, r, rfl, _⟩ := h
    rfl
  · obtain ⟨a, r, rfl, hrd, hsm, k⟩ := h
    obtain ⟨a', dx, ss, L, ea, hs, h0, h1, h2, hL⟩ := hrd.ex
    cases ea
    refine ⟨_, (pss_cons (ps_set (i := 1) sc24_10.nd rfl (.inl rfl) (pe_lst (pa_cons pe_str (pa_cons (b_strI T (pa_cons (SlX.pe_sl (pv 0)) pa_nil)) (pa_cons pe_str (pa_cons (b_strI T (pa_cons (SlX.pe_sl (pv 0)) pa_nil)) pa_nil))))))
      (pss_cut (ps_expr (pe_bm PySem.F.plainAttrs_list PySem.F.slot_list_append PySem.F.type_list_append mt_append (pv 1) (pa_cons (pe_ifExp (pt_cmpR op_gt (b_len T (pa_cons (SlX.pe_sl (pv 0)) pa_nil)) pe_int (nomark _)) pe_str pe_str) pa_nil)))
      (pss_cons (ps_expr (pe_bm PySem.F.plainAttrs_list PySem.F.slot_list_extend PySem.F.type_list_extend mt_extend (pv 1) (pa_cons (pe_lc (own := [("place", 2), ("level", 3)]) (g := gTup K 2 (gCons (gName 2) (gCons (gName 3) gNil))) rfl sc24_10.nd (pi_tup (SlX.pe_sl (pv 0))) (blkOk_by (N := ["self", "words", "place", "level"]) (sc := defScope (mth 24 10)) (by decide +kernel)) (fun _ _ _ _ _ => (pg_tup rfl (pgs_cons (pg_name (i := 2) sc24_10.nd rfl (.inl rfl)) (pgs_cons (pg_name (i := 3) sc24_10.nd rfl (.inl rfl)) pgs_nil)))) (fun _ _ _ _ _ => pts_nil) (fun _ _ _ _ _ => (pe_jn (.cons (pe_fmt (pv 2)) (.cons pe_str (.cons (pe_fmt (pv 3)) .nil)))))) pa_nil)))
      (pss_one (ps_ret (pe_join pe_str (pv 1))))))), ?_⟩
    obtain ⟨lp, us, rfl, hls, hlen, hget⟩ := hL.lampsE
    refine ⟨.ref a, rfl, a, _, dx, _, ss, 2, _, rfl, hs, T.r_f.sc, T.r_s2, h2, r.p, rfl, log1 hsm.p, .ref a, rfl, a, _, dx, _, ss, 0, _, rfl, hs, T.r_f.sc, T.r_s0, h0, r.e, rfl, log40 hsm.e, by show 4 ≤ sizeLine; decide, fun W hW => ?_⟩
    have e1 : Ex H (upd H W (.lst [.str "levels", .str (numS r.p), .str "end", .str (numS r.e)])) := Ex.new hW
    generalize hH1 : upd H W (.lst [.str "levels", .str (numS r.p), .str "end", .str (numS r.e)]) = H1 at e1
    have hw1 : H1 W = some (.lst [.str "levels", .str (numS r.p), .str "end", .str (numS r.e)]) := by rw [← hH1, upd_same]
    clear hH1
    have hsn : ((numS r.p).length ≤ 2 ∧ (numS r.e).length ≤ 41) := ⟨num_len (k := 1) (by decide) hsm.p, num_len (by decide) hsm.e⟩
    refine ⟨fun σ' H' => σ' = [some (.ref a), some (.ref W), none, none] ∧ Ex H H' ∧ H' W = some (.lst [.str "levels", .str (numS r.p), .str "end", .str (numS r.e), .str (if r.ls = [] then "dark" else "lamps")]), ?_, ?_⟩
    · have ex2 : ∀ y : V, Ex H (upd H1 W (.lst [.str "levels", .str (numS r.p), .str "end", .str (numS r.e), y])) := fun y => Ex.mut e1 hW
      refine ⟨.ref W, rfl, .inl ⟨rfl, _, .of hw1⟩, .ref a, rfl, a, _, dx, _, ss, 1, _, rfl, slt_n (exN e1) hs, T.r_f.sc, T.r_s1, h1, .ref lp, us.length, rfl, .inr ⟨us, ex_t e1 hls, rfl⟩, _, _, rfl, rfl, _, rfl, ite_b (fun hc => ⟨W, _, _, rfl, rfl, hw1, by show 4 < sizeLine; decide, rfl, ex2 _, ?_⟩) (fun hc => ⟨W, _, _, rfl, rfl, hw1, by show 4 < sizeLine; decide, rfl, ex2 _, ?_⟩)⟩
      · have h9 := of_decide_eq_true hc
        rw [upd_same, if_neg (fun z => by rw [z] at hlen; simp only [List.length_nil] at hlen; omega)]
        rfl
      · have h9 := of_decide_eq_false hc
        rw [upd_same, if_pos (List.length_eq_zero_iff.mp (by omega))]
        rfl
    · rintro σ' H2 ⟨rfl, e2, hw2⟩
      have hls2 := ex_t e2 hls
      refine ⟨.ref W, rfl, .inl ⟨rfl, _, .of hw2⟩, .ref a, rfl, a, _, dx, _, ss, 1, _, rfl, slt_n (exN e2) hs, T.r_f.sc, T.r_s1, h1, lp, rfl, ⟨_, hls2⟩, fun D hD => lcT (xs := us) r.ls (fun _ => true) (fun z y _ => y = .str (lampS z)) (fun _ _ _ _ _ h => h) hls2 hlen.symm (by have := hsm.few; omega) hD (fun i b x H3 R1 R0 hb hx e3 hac r1 r0 => ?_) (fun H3 ys e3 hD3 hly hpr => ?_)⟩
      · obtain ⟨z, hz, hzv⟩ := hget i x hx
        rw [hb] at hz
        cases hz
        obtain ⟨q, rfl, hq⟩ := hzv.lamp
        have hq3 := ex_t (e2.trans e3) hq
        obtain ⟨b1, b2⟩ := hsm.ls b (List.mem_of_getElem? hb)
        have l1 := num_len (by decide) b1
        have l2 := num_len (k := 1) (by decide) b2
        have s1 : (Str.empty ++ numS b.1).length ≤ sizeLine := by rw [empty_app, sizeLine_eq]; omega
        have c1 : (":" : Str).length = 1 := by decide +kernel
        refine ⟨q, _, rfl, hq3, rfl, .int b.1, [.int b.2], rfl, .int b.2, [], rfl, rfl, rfl, .int b.1, rfl, .inr ⟨b.1, rfl, log40 b1, numS b.1, rfl, s1, ":", rfl, ?_, .int b.2, rfl, .inr ⟨b.2, rfl, log1 b2, numS b.2, rfl, ?_, r1 rfl _ _ (.refl _) ?_⟩⟩⟩
        · rw [len_add, empty_app, c1, sizeLine_eq]; omega
        · rw [len_add, len_add, empty_app, c1, sizeLine_eq]; omega
        · rw [empty_app]; rfl
      · rw [filter_T] at hpr
        have hy := paired_map hpr
        subst hy
        have hWD : D ≠ W := fun z => by rw [z, hw2] at hD; cases hD
        have hw3 := e3 _ _ hw2
        have few := hsm.few
        refine ⟨W, D, _, _, rfl, rfl, hw3, hD3, by rw [List.length_map, sizeLine_eq]; simp only [List.length_cons, List.length_nil]; omega, ?_⟩
        have ew : ([.str "levels", .str (numS r.p), .str "end", .str (numS r.e), .str (if r.ls = [] then "dark" else "lamps")] ++ r.ls.map fun z => V.str (lampS z)) = (wordsR r).map V.str := by
          unfold wordsR
          by_cases hl : r.ls = []
          · rw [hl]; rfl
          · rw [if_neg hl, if_neg hl]
            simp [List.map_map]
        have eN : H W = none := by
          cases hq : H W with
          | none => rfl
          | some o => rw [hW] at hq; cases hq
        refine ⟨⟨" ", rfl⟩, .ref W, rfl, " ", W, wordsR r, rfl, rfl, .inl (.of (by rw [upd_same, ew])), ?_, ?_⟩
        · obtain ⟨w1, w2⟩ := words_len hsm
          have := sum_le w1
          have c1 : (" " : Str).length = 1 := by decide +kernel
          rw [c1]
          have : (wordsR r).length * 44 ≤ 440 := by omega
          omega
        · exact k _ (Ex.mut (e2.trans e3) eN)
end
end Lk
namespace Lk
open PySem PySem.Spec PyProof.Rows L2 Evl Lm TL
theorem pget {α β : Type} {F : α → β → Prop} : ∀ {xs : List α} {ys : List β} {i : Nat} {y : β}, Paired F xs ys → ys[i]? = some y → ∃ x, xs[i]? = some x ∧ F x y
  | _, _, _, _, .nil, h => by simp at h
  | _, _, 0, _, .cons r _, h => by simp at h; subst h; exact ⟨_, rfl, r⟩
  | _, _, i + 1, y, .cons _ t, h => by
    obtain ⟨x, h1, h2⟩ := pget (i := i) (y := y) t (by simpa using h)
    exact ⟨x, by simpa using h1, h2⟩
theorem pget' {α β : Type} {F : α → β → Prop} : ∀ {xs : List α} {ys : List β} {i : Nat} {x : α}, Paired F xs ys → xs[i]? = some x → ∃ y, ys[i]? = some y ∧ F x y
  | _, _, _, _, .nil, h => by simp at h
  | _, _, 0, _, .cons r _, h => by simp at h; subst h; exact ⟨_, rfl, r⟩
  | _, _, i + 1, y, .cons _ t, h => by
    obtain ⟨x, h1, h2⟩ := pget' (i := i) t (by simpa using h)
    exact ⟨x, by simpa using h1, h2⟩
section
variable {X : Cx} {e : Expr} {te : TE} {p pos : Pos} {es : List Expr} {t : TA} {j : Nat}
/-- isinstance(e, Round) of None or a round -/
theorem b_isR (T : Txt X.K X.mg) (ha : PA X (e :: es) t) (hg : Gl X "isinstance" := by rfl) (he : starEach (e :: es) X.env = (false, eval e X.env) :: starEach es X.env := by rfl) (hpl : (backTo pos (starEach es X.env)).any (·.1) = false := by rfl) :
    PE X (.Call (.Name "isinstance" p) (e :: es) [] pos) (tCB (fun xs H Q => rIsi X.K xs H Q ∨ SlX.rIsiSl X.K (.ref (cR X.K)) xs H Q) t) :=
  pe_callB (r := fun xs H Q => rIsi X.K xs H Q ∨ SlX.rIsiSl X.K (.ref (cR X.K)) xs H Q) (fun pins s σ H xs us Q I r h => h.elim (call_isi pins s σ H xs us Q I r) (SlX.call_isiSl _ pins s σ H xs us Q I r)) hg T.f_isinstance boot_isinstance ha (he := he) (hpl := hpl)
theorem pn_Round (T : Txt X.K X.mg) (hg : Gl X "Round" := by rfl) : PE X (.Name "Round" p) (tC (.ref (cR X.K))) := pe_glob hg T.g_Round rfl
end
theorem isR_none {K : PySem.W.Frag} {mg : Str → Option Value} (T : Txt K mg) {H : Hp} {Q : VK} (q : Q (.bl false) H) : rIsi K [.non, .ref (cR K)] H Q ∨ SlX.rIsiSl K (.ref (cR K)) [.non, .ref (cR K)] H Q :=
  .inl ⟨.non, .ref (cR K), .type "NoneType", .ref (cR K), false, rfl, .own _, .base .non, T.r_kn, q⟩
theorem isR_some {K : PySem.W.Frag} {mg : Str → Option Value} (T : Txt K mg) {H : Hp} {Q : VK} {a dx : Addr} {ss : List (Option V)} (h : SlX.Slt H a (cR K) dx ss) (q : Q (.bl true) H) : rIsi K [.ref a, .ref (cR K)] H Q ∨ SlX.rIsiSl K (.ref (cR K)) [.ref a, .ref (cR K)] H Q :=
  .inr ⟨a, cR K, dx, ss, .ref (cR K), true, rfl, rfl, fun _ r => r, h, T.r_f.sc, T.r_f.si, T.r_kr, q⟩
theorem abs_le {i : Int} {n : Nat} : decide ((if i < 0 then -i else i) ≤ (n : Int)) = decide (i.natAbs ≤ n) := by
  rw [Bool.eq_iff_iff, decide_eq_true_iff, decide_eq_true_iff]
  split <;> omega
theorem paired_bl {α : Type} {f : α → Bool} {ys : List V} {l : List α} (h : Paired (fun a y => y = V.bl (f a)) l ys) : ys = (l.map f).map V.bl := by
  rw [paired_map h, List.map_map]; rfl
section
variable {P : Program} {w : World} {K : PySem.W.Frag} {mg : Str → Option Value} {base : Heap}
/-! ### is_member -/
def fitsO : Option RD → Bool
  | some r => fitsR r
  | none => false
def spMem (K : PySem.W.Frag) : Sp := fun vs H Q _ => ∃ v o, vs = [v] ∧ OptR K H v o ∧ (∀ r, o = some r → r.ls.length ≤ 400) ∧ ∀ H', Ex H H' → Q (.bl (fitsO o)) H'
theorem sc30 : FnScope ["value", "place", "level"] ["value"] (defScope (top 30)) := ⟨rfl, rfl, rfl, by decide +kernel, rfl, by decide +kernel, by decide +kernel⟩
theorem ok_is_member (T : Txt K mg) : FnR P w K mg base CX0 3 (He.ga K "is_member") (spMem K) := by
  refine mkD T.d_is_member.df sc30 (fun vs H Q E h => ?_) (fun _ _ _ _ _ _ us hl => match us, hl with | [_], _ => rfl) (fun cdv A outer s H vs Q E hr h => ?_)
  · obtain ⟨v, o, rfl, _⟩ := h
    rfl
  · obtain ⟨v, o, rfl, hv, hfew, k⟩ := h
    refine ⟨_, (pss_cons (ps_if (PW.pt (pw_or (pt_not (pt_val (b_isR T (pa_cons (pv 0) (pa_cons (pn_Round T) pa_nil))))) (pw_or1 (pt_cmpR op_gt (b_abs T (pa_cons (pe_end T (pv 0) hr) pa_nil)) (C8.pe_gc rfl T.c_MOST_END) (nomark _)))))
      (pss_one (ps_ret pe_bl))
      pss_nil)
      (pss_one (ps_ret (b_all T (pa_cons (pe_lc (own := [("place", 1), ("level", 2)]) (g := gTup K 2 (gCons (gName 1) (gCons (gName 2) gNil))) rfl sc30.nd (pi_tup (pe_lamps T (pv 0) hr)) (blkOk_by (N := ["value", "place", "level"]) (sc := defScope (top 30)) (by decide +kernel)) (fun _ _ _ _ _ => (pg_tup rfl (pgs_cons (pg_name (i := 1) sc30.nd rfl (.inl rfl)) (pgs_cons (pg_name (i := 2) sc30.nd rfl (.inl rfl)) pgs_nil)))) (fun _ _ _ _ _ => pts_nil) (fun _ _ _ _ _ => (pe_cmpR op_le (b_abs T (pa_cons (pv 1) pa_nil)) (C8.pe_gc rfl T.c_MOST_PLACE) (nomark _)))) pa_nil))))), ?_⟩
    cases o with
    | none =>
      cases (show v = .non from hv)
      exact ⟨.non, rfl, isR_none T ⟨_, rfl, itT (k _ (.refl _))⟩⟩
    | some r =>
      obtain ⟨a, dx, ss, L, rfl, hs, h0, h1, h2, hL⟩ := (show RdAt K H v r from hv).ex
      refine ⟨.ref a, rfl, isR_some T hs ⟨_, rfl, itF ?_⟩⟩
      have e8 : decide ((8 : Int) < (if r.e < 0 then -r.e else r.e)) = !decide (r.e.natAbs ≤ 8) := by
        rw [← abs_le (n := 8), Bool.eq_iff_iff]
        simp
      refine ⟨.ref a, rfl, a, dx, ss, _, rfl, hs, h0, r.e, rfl, _, _, rfl, rfl, _, rfl, ?_⟩
      show if decide ((8 : Int) < (if r.e < 0 then -r.e else r.e)) = true then _ else _
      rw [e8]
      refine ite_b (fun h => ?_) (fun h => ?_)
      · have e : fitsO (some r) = false := by
          show (decide (r.e.natAbs ≤ 8) && r.ls.all fun a => decide (a.1.natAbs ≤ 24)) = false
          rw [show decide (r.e.natAbs ≤ 8) = false by simpa using h]
          rfl
        rw [e] at k
        exact k _ (.refl _)
      · obtain ⟨lp, us, rfl, hls, hlen, hget⟩ := hL.lampsE
        have few := hfew r rfl
        refine ⟨.ref a, rfl, a, dx, ss, _, rfl, hs, h1, lp, rfl, ⟨us, hls⟩, fun D hD => lcT (xs := us) r.ls (fun _ => true) (fun z y _ => y = .bl (decide (z.1.natAbs ≤ 24))) (fun _ _ _ _ _ h => h) hls hlen.symm (by omega) hD (fun i b x H3 R1 R0 hb hx e3 hac r1 r0 => ?_) (fun H3 ys e3 hD3 hly hpr => ?_)⟩
        · obtain ⟨z, hz, hzv⟩ := hget i x hx
          rw [hb] at hz
          cases hz
          obtain ⟨q, rfl, hq⟩ := hzv.lamp
          refine ⟨q, _, rfl, ex_t e3 hq, rfl, .int b.1, [.int b.2], rfl, .int b.2, [], rfl, rfl, rfl, .int b.1, rfl, b.1, rfl, _, _, rfl, rfl, r1 rfl _ _ (.refl _) ?_⟩
          exact congrArg V.bl (abs_le (n := 24))
        · rw [filter_T] at hpr
          have hy := paired_bl hpr
          subst hy
          refine ⟨D, _, rfl, .of hD3, ?_⟩
          have e : fitsO (some r) = ((r.ls.map fun z => decide (z.1.natAbs ≤ 24)).all id) := by
            show (decide (r.e.natAbs ≤ 8) && r.ls.all fun a => decide (a.1.natAbs ≤ 24)) = _
            rw [show decide (r.e.natAbs ≤ 8) = true by simpa using h, Bool.true_and, List.all_map]
            rfl
          rw [← e]
          exact k _ e3
/-! ### wrong_member -/
def gM (os : List (Option RD)) (i : Nat) : Bool := match os[i]?, os[0]? with
  | some (some r), some (some r0) => fitsR r && decide (r.p = r0.p)
  | _, _ => false
theorem okLot_gM (os : List (Option RD)) : okLot os = (decide (os.length ≤ 4) && (List.range os.length).all (gM os)) := by
  unfold okLot
  congr 1
  rw [Bool.eq_iff_iff, List.all_eq_true, List.all_eq_true]
  constructor
  · intro h i hi
    have hi' := List.mem_range.mp hi
    have := h os[i] (List.getElem_mem hi')
    unfold gM
    rw [List.getElem?_eq_getElem hi']
    revert this
    cases os[i] <;> cases os[0]? <;> intro z <;> first | exact z | skip
    all_goals (rename_i y; cases y <;> exact z)
  · intro h x hx
    obtain ⟨i, hi, e⟩ := List.mem_iff_getElem.mp hx
    have := h i (List.mem_range.mpr hi)
    unfold gM at this
    rw [List.getElem?_eq_getElem hi, e] at this
    revert this
    cases x <;> cases os[0]? <;> intro z <;> first | exact z | skip
    all_goals (rename_i y; cases y <;> exact z)
def spWM (K : PySem.W.Frag) : Sp := fun vs H Q _ => ∃ t us os, vs = [.ref t] ∧ SqT K H t us ∧ Paired (fun o u => OptR K H u o) os us ∧ os ≠ [] ∧ os.length ≤ 1000 ∧ (∀ r, some r ∈ os → r.ls.length ≤ 400) ∧
  ∀ v H', Ex H H' → (v = .non ∧ okLot os = true) ∨ (v ≠ .non ∧ okLot os = false) → Q v H'
theorem sc31 : FnScope ["value", "at", "member"] ["value"] (defScope (top 31)) := ⟨rfl, rfl, rfl, by decide +kernel, rfl, by decide +kernel, by decide +kernel⟩
theorem ty_tup {K : PySem.W.Frag} {H : Hp} {t : Addr} {us : List V} (h : SqT K H t us) : TyX K H (.ref t) (.type "tuple") := by
  rcases h with (h | ⟨o, h⟩) | ⟨o, its, n, hk, hc, _⟩
  · exact .base (.tup h)
  · exact .fTuple h
  · exact .kTuple hk hc
theorem kit_tt {K : PySem.W.Frag} : PySem.W.kitOne K (.type "tuple") (.type "tuple") = some true := kit_ty (by decide +kernel)
theorem OptR.x {H H' : Hp} {v : V} {o : Option RD} (h : OptR K H v o) (e : Ex H H') : OptR K H' v o := h.n (exN e)
theorem ok_wrong_member (T : Txt K mg) : FnR P w K mg base CX0 4 (He.ga K "wrong_member") (spWM K) := by
  refine mkD T.d_wrong_member.df sc31 (fun vs H Q E h => ?_) (fun _ _ _ _ _ _ us hl => match us, hl with | [_], _ => rfl) (fun cdv A outer s H vs Q E hr h => ?_)
  · obtain ⟨t, us, os, rfl, _⟩ := h
    rfl
  · obtain ⟨t, us, os, rfl, hs, hp, hne, hn, hfew, k⟩ := h
    refine ⟨_, (pss_cons (ps_if (PW.pt (pw_or (pt_not (pt_val (b_isi T (pa_cons (pv 0) (pa_cons (pn_tuple T) pa_nil))))) (pw_or1 (pt_cmpR op_eq (b_len T (pa_cons (pv 0) pa_nil)) pe_int (nomark _)))))
      (pss_one (ps_ret (pe_un un_neg pe_int)))
      pss_nil)
      (pss_cons (ps_for PassesOwn.never rfl (pi_enumT rfl T.f_enumerate (pa_cons (pv 0) pa_nil)) (pg_tup rfl (pgs_cons (pg_name (i := 1) sc31.nd rfl (.inl rfl)) (pgs_cons (pg_name (i := 2) sc31.nd rfl (.inl rfl)) pgs_nil)))
      (pss_one (ps_if (PW.pt (pw_or (pt_cmpR op_eq (pv 1) (C8.pe_gc rfl T.c_MOST_ROUNDS) (nomark _)) (pw_or (pt_not (pt_val (pe_d T.d_is_member (ok_is_member T) hr (pa_cons (pv 2) pa_nil)))) (pw_or1 (pt_cmpR op_ne (pe_levels T (pv 2) hr) (pe_levels T (pe_ix ix_tup (pv 0) pe_int (fun _ _ => rfl)) hr) (nomark _))))))
        (pss_one (ps_ret (pv 1)))
        pss_nil)))
      (pss_one (ps_ret pe_non)))), ?_⟩
    have hlen : os.length = us.length := Paired.length hp
    have h0 : os.length ≠ 0 := fun z => hne (List.length_eq_zero_iff.mp z)
    refine ⟨.ref t, rfl, .ref t, _, _, _, _, rfl, .ty _, ty_tup hs, kit_tt, _, rfl, itF ?_⟩
    refine ⟨.ref t, rfl, .ref t, us.length, rfl, .inr ⟨us, hs, rfl⟩, rfl, _, rfl, ite_b (fun h => ?_) (fun _ => ?_)⟩
    · have := of_decide_eq_true h
      injection this with this
      omega
    refine ⟨.ref t, rfl, t, us, rfl, hs, for_enumT (xs := us) (fun i σ' H' => (∃ u v, σ' = [some (.ref t), u, v]) ∧ Ex H H' ∧ i ≤ 4 ∧ ∀ j, j < i → gM os j = true) ⟨⟨_, _, rfl⟩, .refl _, by decide, fun j hj => absurd hj (Nat.not_lt_zero _)⟩ (fun i σ' H' _ hw => ex_t hw.2.1 hs) ?_ ?_⟩
    · rintro i x σ' H' T' hx ⟨⟨u, v, rfl⟩, e1, hi4, hg⟩ hT
      have e2 : Ex H' (upd H' T' (.tup [.int (i : Nat), x])) := Ex.new hT
      have e3 := e1.trans e2
      generalize hH : upd H' T' (.tup [.int (i : Nat), x]) = H2 at e2 e3
      have hT2 : H2 T' = some (.tup [.int (i : Nat), x]) := by rw [← hH, upd_same]
      obtain ⟨o, ho, hv⟩ := pget hp hx
      have hilt : i < os.length := (List.getElem?_eq_some_iff.mp ho).1
      refine ⟨T', _, rfl, .of hT2, rfl, .int (i : Nat), [x], rfl, x, [], rfl, rfl, ?_⟩
      have badQ : ∀ H9, Ex H2 H9 → okLot os = false → Q (.int (i : Nat)) H9 := fun H9 e9 h => k _ _ (e3.trans e9) (.inr ⟨fun z => (nomatch z), h⟩)
      have badG : gM os i = false → okLot os = false := fun h => by
        rw [okLot_gM, Bool.and_eq_false_iff]
        exact .inr (List.all_eq_false.mpr ⟨i, List.mem_range.mpr hilt, by rw [h]; exact Bool.false_ne_true⟩)
      refine ⟨.int (i : Nat), rfl, rfl, _, rfl, ite_b (fun h => itT ⟨.int (i : Nat), rfl, badQ _ (.refl _) ?_⟩) (fun h => ?_)⟩
      · have h4 : i = 4 := by
          have := of_decide_eq_true h
          injection this with this
          omega
        rw [okLot_gM, show decide (os.length ≤ 4) = false by rw [decide_eq_false_iff_not]; omega]
        rfl
      have hi3 : i < 4 := by
        have : i ≠ 4 := fun z => by rw [z] at h; exact absurd h (by decide)
        omega
      refine ⟨x, rfl, x, o, rfl, hv.x e3, fun r hr9 => hfew r (by rw [← hr9]; exact List.mem_of_getElem? ho), fun H3 e4 => ⟨_, rfl, ?_⟩⟩
      cases o with
      | none =>
        refine itT ⟨.int (i : Nat), rfl, badQ _ e4 (badG ?_)⟩
        unfold gM
        rw [ho]
      | some r =>
        show if (!fitsR r) = true then _ else _
        refine ite_b (fun h5 => itT ⟨.int (i : Nat), rfl, badQ _ e4 (badG ?_)⟩) (fun h5 => ?_)
        · unfold gM
          rw [ho]
          cases os[0]? with
          | none => rfl
          | some y =>
            cases y with
            | none => rfl
            | some r0 =>
              show (fitsR r && decide (r.p = r0.p)) = false
              rw [show fitsR r = false by simpa using h5]
              rfl
        · have h5' : fitsR r = true := by simpa using h5
          have h0' : ∃ r0 u0, os[0]? = some (some r0) ∧ us[0]? = some u0 ∧ RdAt K H3 u0 r0 := by
            obtain ⟨y, hy⟩ : ∃ y, os[0]? = some y := ⟨os[0]'(by omega), List.getElem?_eq_getElem (by omega)⟩
            have : ∃ r0, y = some r0 := by
              by_cases hi0 : i = 0
              · rw [hi0] at ho
                rw [ho] at hy
                cases hy
                exact ⟨r, rfl⟩
              · have hg0 := hg 0 (by omega)
                unfold gM at hg0
                rw [hy] at hg0
                cases y with
                | none => exact absurd hg0 Bool.false_ne_true
                | some r0 => exact ⟨r0, rfl⟩
            obtain ⟨r0, rfl⟩ := this
            obtain ⟨u0, hu0, hr0⟩ := pget' hp hy
            exact ⟨r0, u0, hy, hu0, (hr0.x (e3.trans e4) : RdAt K H3 u0 r0)⟩
          obtain ⟨r0, u0, hr0, hu0, hra0⟩ := h0'
          obtain ⟨a, dx, ss, L, rfl, hsx, h0, h1, h2, hL⟩ := (show RdAt K H3 x r from hv.x (e3.trans e4)).ex
          obtain ⟨a0, dx0, ss0, L0, rfl, hsx0, h00, h10, h20, hL0⟩ := hra0.ex
          refine ⟨.ref a, rfl, a, dx, ss, _, rfl, hsx, h2, .ref t, rfl, t, us, _, .ref a0, rfl, rfl, ex_t (e3.trans e4) hs, atI_nat (j := 0) hu0, a0, dx0, ss0, _, rfl, hsx0, h20, rfl, _, rfl, ?_⟩
          have eg : gM os i = decide (r.p = r0.p) := by
            unfold gM
            rw [ho, hr0]
            show (fitsR r && decide (r.p = r0.p)) = _
            rw [h5', Bool.true_and]
          have ed : decide (V.int r.p = V.int r0.p) = decide (r.p = r0.p) := by
            rw [Bool.eq_iff_iff, decide_eq_true_iff, decide_eq_true_iff]
            exact ⟨fun z => by injection z, fun z => by rw [z]⟩
          rw [ed, ← eg]
          refine ite_b (fun h6 => ⟨.int (i : Nat), rfl, badQ _ e4 (badG (by simpa using h6))⟩) (fun h6 => ⟨⟨_, _, rfl⟩, e3.trans e4, hi3, fun j hj => ?_⟩)
          rcases Nat.lt_succ_iff_lt_or_eq.mp hj with hj | hj
          · exact hg j hj
          · rw [hj]; simpa using h6
    · rintro σ' H' ⟨⟨u, v, rfl⟩, e1, hi4, hg⟩
      refine k _ _ e1 (.inl ⟨rfl, ?_⟩)
      rw [okLot_gM, hlen, show decide (us.length ≤ 4) = true from decide_eq_true hi4, Bool.true_and, List.all_eq_true]
      intro j hj
      exact hg j (List.mem_range.mp hj)
end
end Lk
namespace Lk
open PySem PySem.Spec PyProof.Rows L2 Evl Lm TL
/-! ### a def called with a second argument by its name -/
def FnK1 (P : Program) (w : World) (K : PySem.W.Frag) (mg : Str → Option Value) (base : Heap) (CX : CXT) (k : Nat) (f : Addr) (kn : Str) (sp : Sp) : Prop :=
  ∀ (A : Around) (outer : List Env) (s : Shared) (H : Hp) (u0 u1 : Value) (v0 v1 : V) (Q : VK) (E : XK), Room k A → Env0 P w K mg base A outer s H → Vals [v0, v1] [u0, u1] → sp [v0, v1] H Q E →
    codeAny (model P w) A (.call (.ref f) ⟨[u0], [(kn, u1)]⟩) (CR CX outer P w H s Q E) s
section
variable {P : Program} {w : World} {K : PySem.W.Frag} {mg : Str → Option Value} {base : Heap}
theorem mkXK {CX : CXT} {x qual kn : Str} {st : Stmt} {f : Addr} {N ps : List Str} {k : Nat} {sp : Sp} (F : IsDef K x qual st f) (S : FnScope N ps (defScope st)) (len : ∀ vs H Q E, sp vs H Q E → vs.length = ps.length)
    (hb : ∀ (kV doc pm : Value) (an : Option Addr) (cdv ct : Value) (us : List Value), us.length = ps.length → bindArgs (PySem.W.fnOf x qual (defArgs st) (defBody st) (defScope st) .none kV doc pm an cdv ct) ⟨us, []⟩ = pure (ps.zip us))
    (hk : ∀ (kV doc pm : Value) (an : Option Addr) (cdv ct : Value) (u0 u1 : Value), bindArgs (PySem.W.fnOf x qual (defArgs st) (defBody st) (defScope st) .none kV doc pm an cdv ct) ⟨[u0], [(kn, u1)]⟩ = pure (ps.zip [u0, u1]))
    (hbody : ∀ (cdv : Value) (A : Around) (outer : List Env) (s : Shared) (H : Hp) (vs : List V) (Q : VK) (E : XK), Room k (A.deeper (envOfC qual (defScope st) s.heap.objs.size f cdv)) → sp vs H Q E →
      ∃ t, PSs (cxOf CX P w K mg base N qual (defScope st) f cdv A outer s H E) (defBody st) t ∧ t { nx := fun _ H' => Q .non H', rt := Q } (start N vs) H) : FnR P w K mg base CX (k + 1) f sp ∧ FnK1 P w K mg base CX (k + 1) f kn sp := by
  obtain ⟨fd, F⟩ := F
  have F2 := F
  obtain ⟨oc, od, kV, doc, pm, an, cdv, ct, osl, rfl, lk, hcd⟩ := F.ex
  have G : FnOk P w K mg base CX (k + 1) f _ ps sp := fn_of lk hcd S len fun A outer s H vs Q E hr hsp => hbody cdv A outer s H vs Q E hr hsp
  refine ⟨(G.raw (F2.binds hb) .nil).imp fun vs H Q E h => by
    rw [List.append_nil]
    exact h, fun A outer s H u0 u1 v0 v1 Q E hr e0 r hs => G.run A outer s H _ [u0, u1] [v0, v1] Q E hr e0 (BindsTo.of_looks fun M => .of_pure (hk kV doc pm an cdv ct u0 u1)) r hs⟩
end
section
variable {X : Cx} {CX : CXT} {k j : Nat} {f C : Addr} {kn x m : Str} {sp : Sp} {E : XK} {e o : Expr} {te ta : TE} {p pos apos kpos : Pos}
/-- C(kn = e) -/
def tMkK (C : Addr) (sp : Sp) (t : TA) : TE := fun σ H Q => t σ H fun vs H1 => ∃ v, vs = [v] ∧ ∀ x dx, H1 x = none → H1 dx = none → dx ≠ x → sp [.ref x, v] (upd (upd H1 dx (.own x)) x (.ins C dx [])) (fun z H2 => z = .non ∧ Q (.ref x) H2) E0
theorem pe_mkK (M : Mk X.K C f) (F : FnK1 X.prog X.w X.K X.mg X.base CX0 k f kn sp) (hr : Room j X.A) (hj : k + 1 ≤ j) (hm : X.mg x = some (.ref C)) (he : PE X e te) (hg : Gl X x := by rfl)
    (hall : (backToKw pos (keywordEach [⟨some kn, e, kpos⟩] X.env)).all (·.1.isSome) = true := by rfl) (hks : (backToKw pos (keywordEach [⟨some kn, e, kpos⟩] X.env)).filterMap (·.1) = [kn] := by rfl) (hdb : (x == ("__debug__" : Str)) = false := by decide)
    (hpl : ((backTo pos (starEach [] X.env)).any (·.1) || (backToKw pos (keywordEach [⟨some kn, e, kpos⟩] X.env)).any (·.1.isNone)) = false := by rfl) :
    PE X (.Call (.Name x p) [] [⟨some kn, e, kpos⟩] pos) (tMkK C sp (tCons te tNil)) := by
  refine ⟨fun pins s σ H Q I h => ?_⟩
  refine wpAny_Call_Name_kw (ld_glob I hg hm ?_ hdb)
  refine PySem.W.callWith_KW0 (h₀ := X.base) I.ok.mod.kin M.kp hall ?_ hpl
  refine thn ((pk_cons (nm := some kn) (kpos := kpos) he pk_nil).run pos pins s σ H _ I h) fun ws s2 ⟨zs, H2, I2, rz, v, e1, q2⟩ => ⟨I2.kIn, ?_⟩
  · subst e1
    obtain ⟨u, rfl, ru⟩ := rz.one
    rw [hks]
    have hq := q2 (s2.heap.objs.size + 1) s2.heap.objs.size (I2.hok.fresh (Nat.le_succ _)) (I2.hok.fresh (Nat.le_refl _)) (Nat.ne_of_lt (Nat.lt_succ_self _))
    have I3 := Inv.made (C := C) I2
    have r2 : Vals [V.ref (s2.heap.objs.size + 1), v] [Value.ref (s2.heap.objs.size + 1), u] := .cons rfl (.cons ru .nil)
    have hr' : Room (k + 1) X.A := hr.mono hj
    refine wpAny_call (make_map (f := f) I2.kIn M.makes M.init (beq_iff_eq.mp M.fn) (codeAny_mono (F _ X.stack _ _ (Value.ref (s2.heap.objs.size + 1)) u _ _ _ E0 (hr'.make C [] [(kn, u)]) (I3.env0.make C [] [(kn, u)]) r2 hq) fun r s' hq' => ?_))
    cases r with
    | error e => exact hq'.elim
    | ok fl =>
      cases fl with
      | ret u =>
        obtain ⟨v, H', I3, rv, ev, q3⟩ := I3.after hq'
        subst ev
        exact ⟨rv, ⟨V.ref (s2.heap.objs.size + 1), H', I3, rfl, q3⟩⟩
      | next => exact False.elim hq'
      | brk => exact False.elim hq'
      | cont => exact False.elim hq'
/-- o.m(kn = e), o an instance with slots -/
def tMethK (C : Addr) (sp : Sp) (E : XK) (ta : TE) (t : TA) : TE := fun σ H Q => ta σ H fun x H1 => ∃ a dx vs, x = .ref a ∧ SlX.Slt H1 a C dx vs ∧ t σ H1 fun ws H2 => ∃ v, ws = [v] ∧ sp [x, v] H2 Q E
theorem pe_methSlK {pl : Sem Bool} (ho : PE X o ta) (c : SlX.SCls X.K C) (hm : Meth X.K C m f) (F : FnK1 X.prog X.w X.K X.mg X.base CX k f kn sp) (hr : Room j X.A) (hj : k ≤ j) (hx : Passes CX X E) (he : PE X e te)
    (hall : (backToKw pos (keywordEach [⟨some kn, e, kpos⟩] X.env)).all (·.1.isSome) = true := by rfl) (hks : (backToKw pos (keywordEach [⟨some kn, e, kpos⟩] X.env)).filterMap (·.1) = [kn] := by rfl)
    (hpl : ((backTo pos (starEach [] X.env)).any (·.1) || (backToKw pos (keywordEach [⟨some kn, e, kpos⟩] X.env)).any (·.1.isNone)) = false := by rfl)
    (ht : eval (.Call (.Attribute o m apos) [] [⟨some kn, e, kpos⟩] pos) X.env = (do
      let ov ← eval o X.env
      standAt apos.atName
      let (f, first) ← holding [ov] (getMethod ov m pl)
      callWith pos f first (backTo pos (starEach [] X.env)) (backToKw pos (keywordEach [⟨some kn, e, kpos⟩] X.env))) := by rfl) :
    PE X (.Call (.Attribute o m apos) [] [⟨some kn, e, kpos⟩] pos) (tMethK C sp E ta (tCons te tNil)) := by
  refine ⟨fun pins s σ H Q I h => ?_⟩
  refine PySem.W.methodCall_KW (pl := pl) (thn (ho.run pins s σ H _ I h) fun u s1 ⟨x, H1, I1, rx, a, dx, vs, ex, hsl, q⟩ => ?_) ht
  subst ex
  obtain rfl : u = Value.ref a := rx
  refine SlX.getmethsl_ok I1 hsl c hm ?_
  refine PySem.W.callWith_KW0 (first := [.ref a]) (h₀ := X.base) I1.ok.mod.kin hm.kp hall ?_ hpl
  refine thn ((pk_cons (nm := some kn) (kpos := kpos) he pk_nil).run pos pins s1 σ H1 _ I1 q) fun ws s2 ⟨zs, H2, I2, rz, v, e1, q2⟩ => ⟨I2.kIn, ?_⟩
  subst e1
  obtain ⟨u, rfl, ru⟩ := rz.one
  rw [hks]
  refine wpAny_call (codeAny_mono (F X.A X.stack s2 H2 (.ref a) u (.ref a) v Q E (hr.mono hj) I2.env0 (.cons rfl (.cons ru .nil)) q2) fun r s' hq => ?_)
  cases r with
  | error e => exact hx pins σ H2 s2 e s' I2 hq
  | ok fl =>
    cases fl with
    | ret u => exact I2.after hq
    | next => exact False.elim hq
    | brk => exact False.elim hq
    | cont => exact False.elim hq
end
end Lk
namespace Lk
open PySem PySem.Spec PyProof.Rows L2 Evl Lm TL
/-! ### lots as objects -/
structure LtAt (K : PySem.W.Frag) (H : Hp) (v : V) (rs : List RD) : Prop where
  ex : ∃ a dx ss t us, v = .ref a ∧ SlX.Slt H a (cL K) dx ss ∧ ss[0]? = some (some (.ref t)) ∧ SqT K H t us ∧ Paired (fun r u => RdAt K H u r) rs us
theorem LtAt.n {K : PySem.W.Frag} {H H' : Hp} {v : V} {rs : List RD} (e : ExN H H') (h : LtAt K H v rs) : LtAt K H' v rs := by
  obtain ⟨a, dx, ss, t, us, h1, h2, h3, h4, h5⟩ := h.ex
  exact ⟨a, dx, ss, t, us, h1, slt_n e h2, h3, sqT_n e h4, h5.mono fun _ _ z => z.n e⟩
theorem LtAt.x {K : PySem.W.Frag} {H H' : Hp} {v : V} {rs : List RD} (h : LtAt K H v rs) (e : Ex H H') : LtAt K H' v rs := h.n (exN e)
theorem paired_opt {K : PySem.W.Frag} {H : Hp} : ∀ {rs : List RD} {us : List V}, Paired (fun r u => RdAt K H u r) rs us → Paired (fun o u => OptR K H u o) (rs.map some) us
  | _, _, .nil => .nil
  | _, _, .cons r t => .cons r (paired_opt t)
theorem paired_unopt {K : PySem.W.Frag} {H : Hp} : ∀ {rs : List RD} {us : List V}, Paired (fun o u => OptR K H u o) (rs.map some) us → Paired (fun r u => RdAt K H u r) rs us
  | [], _, .nil => .nil
  | r :: rs, _, .cons h t => .cons h (paired_unopt t)
section
variable {P : Program} {w : World} {K : PySem.W.Frag} {mg : Str → Option Value} {base : Heap}
/-! ### Lot.__init__ -/
def spLInit (K : PySem.W.Frag) : Sp := fun vs H Q _ => ∃ H0 x dx t us rs, vs = [.ref x, .ref t] ∧ H0 x = none ∧ H0 dx = none ∧ dx ≠ x ∧ H = upd (upd H0 dx (.own x)) x (.ins (cL K) dx []) ∧ SqT K H0 t us ∧ Paired (fun r u => RdAt K H0 u r) rs us ∧
  rs ≠ [] ∧ okLot (rs.map some) = true ∧ (∀ r ∈ rs, r.ls.length ≤ 400) ∧ ∀ H', Ex H0 H' → LtAt K H' (.ref x) rs → Q .non H'
theorem sc32_1 : FnScope ["self", "rounds", "at"] ["self", "rounds"] (defScope (mth 32 1)) := ⟨rfl, rfl, rfl, by decide +kernel, rfl, by decide +kernel, by decide +kernel⟩
theorem okLot_few {rs : List (Option RD)} (h : okLot rs = true) : rs.length ≤ 4 := by
  unfold okLot at h
  exact of_decide_eq_true (Bool.and_eq_true_iff.mp h).1
theorem ok_linit2 (T : Txt K mg) : FnR P w K mg base CX0 5 (He.ma K (cL K) "__init__") (spLInit K) ∧ FnK1 P w K mg base CX0 5 (He.ma K (cL K) "__init__") "rounds" (spLInit K) := by
  refine mkXK T.l_init.df sc32_1 (fun vs H Q E h => ?_) (fun _ _ _ _ _ _ us hl => match us, hl with | [_, _], _ => rfl) (fun _ _ _ _ _ _ _ _ => rfl) (fun cdv A outer s H vs Q E hr h => ?_)
  · obtain ⟨H0, x, dx, t, us, rs, rfl, _⟩ := h
    rfl
  · obtain ⟨H0, x, dx, t, us, rs, rfl, hx, hdx, hne, rfl, hs, hp, hne2, hok, hfew, k⟩ := h
    refine ⟨_, (pss_cons (ps_set (i := 2) sc32_1.nd rfl (.inl rfl) (pe_d T.d_wrong_member (ok_wrong_member T) hr (pa_cons (pv 1) pa_nil)))
      (pss_cons (ps_if (pt_cmpR op_notN (pv 2) pe_non (nomark _))
      pss_never
      pss_nil)
      (pss_one (SlX.ps_sl (pv 0) (pv 1))))), ?_⟩
    have e0 := ex_made (C := cL K) hx hdx hne
    have h4 := okLot_few hok
    refine ⟨.ref t, rfl, t, us, rs.map some, rfl, ex_t e0 hs, (paired_opt hp).mono fun _ _ z => z.x e0, by simpa using hne2, by omega, fun r hr => hfew r (by simpa using hr), fun v H1 e1 hb => ?_⟩
    have hvn : v = .non := by
      rcases hb with ⟨h, _⟩ | ⟨_, h⟩
      · exact h
      · rw [hok] at h; cases h
    subst hvn
    refine ⟨.non, rfl, rfl, _, rfl, itF ?_⟩
    have hi : H1 x = some (.ins (cL K) dx []) := e1 _ _ upd_same
    refine ⟨.ref t, rfl, .ref x, rfl, x, _, dx, _, [], 0, rfl, .inl ⟨hi, rfl⟩, T.l_f.sc, T.l_s0, ?_⟩
    have e2 : Ex H0 (SlX.slH H1 x (cL K) dx (SlX.putS 0 (.ref t) [])) := ex_slH hx hdx (e0.trans e1)
    exact k _ e2 ⟨x, dx, _, t, us, rfl, SlX.slH_slt hne, rfl, ex_t e2 hs, hp.mono fun _ _ z => z.x e2⟩
theorem ok_linit (T : Txt K mg) : FnR P w K mg base CX0 5 (He.ma K (cL K) "__init__") (spLInit K) := (ok_linit2 T).1
theorem mkL {H1 : Hp} {t : Addr} {us : List V} {rs : List RD} {Q : VK} (hs : SqT K H1 t us) (hp : Paired (fun r u => RdAt K H1 u r) rs us) (hne : rs ≠ []) (hok : okLot (rs.map some) = true) (hfew : ∀ r ∈ rs, r.ls.length ≤ 400) (q : ∀ y H2, Ex H1 H2 → LtAt K H2 y rs → Q y H2) :
    ∀ x dx, H1 x = none → H1 dx = none → dx ≠ x → spLInit K (.ref x :: [.ref t]) (upd (upd H1 dx (.own x)) x (.ins (cL K) dx [])) (fun v H2 => v = .non ∧ Q (.ref x) H2) E0 :=
  fun x dx hx hdx hne2 => ⟨H1, x, dx, t, us, rs, rfl, hx, hdx, hne2, rfl, hs, hp, hne, hok, hfew, fun H' e1 h => ⟨rfl, q _ _ e1 h⟩⟩
/-! ### lot_lines -/
def spLL (K : PySem.W.Frag) : Sp := fun vs H Q _ => ∃ v rs, vs = [v] ∧ LtAt K H v rs ∧ (∀ r ∈ rs, Small r) ∧ rs.length ≤ 1000 ∧ ∀ l H', Ex H H' → H l = none → H' l = some (.lst ((rs.map sheetS).map V.str)) → Q (.ref l) H'
theorem sc33 : FnScope ["lot", "member"] ["lot"] (defScope (top 33)) := ⟨rfl, rfl, rfl, by decide +kernel, rfl, by decide +kernel, by decide +kernel⟩
end
section
variable {X : Cx} {e : Expr} {te : TE} {p pos : Pos} {es : List Expr} {t : TA} {j : Nat}
/-- str(round) -/
theorem b_strR (T : Txt X.K X.mg) (hr : Room j X.A) (ha : PA X (e :: es) t) (hj : 3 ≤ j := by decide) (hg : Gl X "str" := by rfl) (he : starEach (e :: es) X.env = (false, eval e X.env) :: starEach es X.env := by rfl) (hpl : (backTo pos (starEach es X.env)).any (·.1) = false := by rfl) :
    PE X (.Call (.Name "str" p) (e :: es) [] pos) (tCB (rStrOwn (cR X.K) (spRStr X.K) E0) t) := pe_callTy (call_strOwn T.r_str.me.at_ T.r_str.me.fn (ok_rstr T) (hr.mono hj) pass0) hg T.f_str boot_str ha (he := he) (hpl := hpl)
end
section
variable {P : Program} {w : World} {K : PySem.W.Frag} {mg : Str → Option Value} {base : Heap}
theorem ok_lot_lines (T : Txt K mg) : FnR P w K mg base CX0 4 (He.ga K "lot_lines") (spLL K) := by
  refine mkD T.d_lot_lines.df sc33 (fun vs H Q E h => ?_) (fun _ _ _ _ _ _ us hl => match us, hl with | [_], _ => rfl) (fun cdv A outer s H vs Q E hr h => ?_)
  · obtain ⟨v, rs, rfl, _⟩ := h
    rfl
  · obtain ⟨v, rs, rfl, hl, hsm, hn, k⟩ := h
    obtain ⟨a, dx, ss, t, us, rfl, hs, h0, ht, hp⟩ := hl.ex
    refine ⟨_, (pss_one (ps_ret (pe_lc (own := [("member", 1)]) (te := tCB (rStrOwn (cR K) (spRStr K) E0) (tCons (tVar 1) tNil)) rfl sc33.nd (pi_tup (SlX.pe_sl (pv 0))) (blkOk_by (N := ["lot", "member"]) (sc := defScope (top 33)) (by decide +kernel)) (fun _ _ _ _ _ => (pg_name (i := 1) sc33.nd rfl (.inl rfl))) (fun _ _ _ _ _ => pts_nil) (fun _ _ _ _ _ => (b_strR T hr (pa_cons (pv 1) pa_nil)))))), ?_⟩
    have hlen : rs.length = us.length := Paired.length hp
    refine ⟨.ref a, rfl, a, _, dx, _, ss, 0, _, rfl, hs, T.l_f.sc, T.l_s0, h0, t, rfl, ⟨us, ht⟩, fun D hD => lcT (xs := us) rs (fun _ => true) (fun r y _ => y = .str (sheetS r)) (fun _ _ _ _ _ h => h) ht hlen (by omega) hD (fun i b x H3 R1 R0 hb hx e3 hac r1 r0 => ?_) (fun H3 ys e3 hD3 hly hpr => ?_)⟩
    · obtain ⟨r, hr9, hx9⟩ := pget hp hx
      rw [hb] at hr9
      cases hr9
      have hx9' := hx9.x e3
      obtain ⟨a', dx', ss', L, rfl, hs', _⟩ := hx9'.ex
      exact ⟨rfl, .ref a', rfl, a', dx', ss', rfl, hs', a', b, rfl, hx9', hsm b (List.mem_of_getElem? hb), fun H4 e4 => ⟨_, rfl, r1 rfl _ _ e4 rfl⟩⟩
    · rw [filter_T] at hpr
      have hy := paired_map hpr
      exact k D H3 e3 hD (by rw [hD3, hy, List.map_map]; rfl)
/-! ### is_change -/
def chOk1 (n : Nat) : PyData → Bool
  | .tuple [.int i, .str s] => decide (0 ≤ i) && decide (i < n) && !decide (10 ∈ tl s)
  | _ => false
theorem chOk1_len {n : Nat} {ds : List PyData} (h : ds.length ≠ 2) : chOk1 n (.tuple ds) = false := by
  unfold chOk1
  split
  · rename_i i s e
    injection e with e
    rw [e] at h
    exact absurd rfl h
  · rfl
theorem chOk1_ty {n : Nat} {d0 d1 : PyData} (h : isI d0 = false ∨ isS d1 = false) : chOk1 n (.tuple [d0, d1]) = false := by
  unfold chOk1
  split
  · rename_i i s e
    injection e with e
    injection e with e1 e2
    injection e2 with e2
    rw [e1, e2] at h
    rcases h with h | h <;> cases h
  · rfl
def spIC (K : PySem.W.Frag) : Sp := fun vs H Q _ => ∃ l us v d, vs = [.ref l, v] ∧ SqL K H l us ∧ Rp K H v d ∧ Q (.bl (chOk1 us.length d)) H
theorem sc34 : FnScope ["lines", "value"] ["lines", "value"] (defScope (top 34)) := ⟨rfl, rfl, rfl, by decide +kernel, rfl, by decide +kernel, by decide +kernel⟩
theorem ok_is_change (T : Txt K mg) : FnR P w K mg base CX0 2 (He.ga K "is_change") (spIC K) := by
  refine mkD T.d_is_change.df sc34 (fun vs H Q E h => ?_) (fun _ _ _ _ _ _ us hl => match us, hl with | [_, _], _ => rfl) (fun cdv A outer s H vs Q E hr h => ?_)
  · obtain ⟨l, us, v, d, rfl, _⟩ := h
    rfl
  · obtain ⟨l, us, v, d, rfl, hl, hv, k⟩ := h
    refine ⟨_, (pss_cons (ps_if (PW.pt (pw_or (pt_not (pt_val (b_isi T (pa_cons (pv 1) (pa_cons (pn_tuple T) pa_nil))))) (pw_or (pt_cmpR op_ne (b_len T (pa_cons (pv 1) pa_nil)) pe_int (nomark _)) (pw_or (pt_not (pt_val (pe_d T.d_is_integer (ok_is_integer T) hr (pa_cons (pe_ix ix_tup (pv 1) pe_int (fun _ _ => rfl)) pa_nil)))) (pw_or1 (pt_not (pt_val (b_isi T (pa_cons (pe_ix ix_tup (pv 1) pe_int (fun _ _ => rfl)) (pa_cons (pn_str T) pa_nil))))))))))
      (pss_one (ps_ret pe_bl))
      pss_nil)
      (pss_one (ps_ret (pe_and (pe_chain op_le op_lt pe_int (pe_ix ix_tup (pv 1) pe_int (fun _ _ => rfl)) (b_len T (pa_cons (pv 0) pa_nil))) (pe_one (pe_cmpR op_notInS pe_str (pe_ix ix_tup (pv 1) pe_int (fun _ _ => rfl)) (by rfl))))))), ?_⟩
    have fl : chOk1 us.length d = false → Q (.bl false) H := fun h => by rw [h] at k; exact k
    refine ⟨v, rfl, v, _, _, _, _, rfl, .ty _, hv.ty, kit_tuple d, _, rfl, ite_b (fun h => itT (fl ?_)) (fun h => ?_)⟩
    · cases d <;> first | rfl | cases h
    obtain ⟨ds, rfl⟩ : ∃ ds, d = .tuple ds := by
      cases d <;> first | exact ⟨_, rfl⟩ | cases h
    obtain ⟨a, xs, rfl, hs, ha⟩ := hv.tupE
    have hlen : xs.length = ds.length := ha.len
    refine ⟨.ref a, rfl, .ref a, xs.length, rfl, .inr ⟨xs, hs, rfl⟩, rfl, _, rfl, ite_b (fun h2 => itT (fl ?_)) (fun h2 => ?_)⟩
    · refine chOk1_len fun z => ?_
      rw [hlen, z] at h2
      exact absurd h2 (by decide)
    match ds, ha, hlen with
    | [], .nil, _ => exact absurd h2 (by decide)
    | [_], .cons _ .nil, _ => exact absurd (show (true = false) from h2) (by decide)
    | [d0, d1], .cons (v := v0) h0 (.cons (v := v1) h1 .nil), _ =>
      refine ⟨.ref a, rfl, a, _, 0, v0, rfl, rfl, hs, rfl, v0, d0, rfl, h0, _, rfl, ite_b (fun h3 => itT (fl ?_)) (fun h3 => ?_)⟩
      · exact chOk1_ty (.inl (by simpa using h3))
      refine ⟨.ref a, rfl, a, _, 1, v1, rfl, rfl, hs, rfl, v1, _, _, _, _, rfl, .ty _, h1.ty, kit_str d1, _, rfl, ite_b (fun h4 => fl ?_) (fun h4 => ?_)⟩
      · exact chOk1_ty (.inr (by simpa using h4))
      obtain ⟨i, rfl⟩ : ∃ i, d0 = .int i := by
        cases d0 <;> first | exact ⟨_, rfl⟩ | cases h3
      obtain ⟨z, rfl⟩ : ∃ i, d1 = .str i := by
        cases d1 <;> first | exact ⟨_, rfl⟩ | cases h4
      cases h0
      cases h1
      refine ⟨.ref a, rfl, a, _, 0, .int i, rfl, rfl, hs, rfl, 0, i, rfl, rfl, _, rfl, ite_b (fun h5 => ⟨.ref l, rfl, .ref l, us.length, rfl, .inl ⟨us, hl, rfl⟩, i, _, rfl, rfl, _, rfl, ite_b (fun h6 => ⟨.ref a, rfl, a, _, 1, .str z, rfl, rfl, hs, rfl, 10, z, by rw [nl_sep]; rfl, rfl, ?_⟩) (fun h6 => fl ?_)⟩) (fun h5 => ⟨_, rfl, itF (fl ?_)⟩)⟩
      · have e : chOk1 us.length (.tuple [.int i, .str z]) = !decide (10 ∈ z.cps.toList) := by
          show (decide (0 ≤ i) && decide (i < (us.length : Int)) && !decide (10 ∈ tl z)) = _
          rw [show decide (0 ≤ i) = true from h5, show decide (i < (us.length : Int)) = true from h6]
          rfl
        rw [← e]
        exact k
      · show (decide (0 ≤ i) && decide (i < (us.length : Int)) && !decide (10 ∈ tl z)) = false
        rw [show decide (i < (us.length : Int)) = false from h6, Bool.and_false]
        rfl
      · show (decide (0 ≤ i) && decide (i < (us.length : Int)) && !decide (10 ∈ tl z)) = false
        rw [show decide (0 ≤ i) = false from h5]
        rfl
    | _ :: _ :: _ :: _, .cons _ (.cons _ (.cons _ _)), _ =>
      refine absurd h2 ?_
      simp
      omega
end
end Lk
namespace Lk
open PySem PySem.Spec PyProof.Rows L2 Evl Lm TL
/-! ### changes -/
def chD (c : Nat × Str) : PyData := .tuple [.int (c.1 : Int), .str c.2]
def setsS (l : List Str) (cs : List (Nat × Str)) : List Str := cs.foldl (fun l c => l.set c.1 c.2) l
def cText (rs : List RD) (cs : List (Nat × Str)) : Str := Txt.join "\n" ((setsS (rs.map sheetS) cs).filter fun b => !decide (V.str b = V.str ""))
theorem setsS_len (cs : List (Nat × Str)) : ∀ l : List Str, (setsS l cs).length = l.length := by
  induction cs with
  | nil => intro l; rfl
  | cons c cs ih =>
    intro l
    show (setsS (l.set c.1 c.2) cs).length = _
    rw [ih, List.length_set]
theorem setsS_snoc (l : List Str) (cs : List (Nat × Str)) (c : Nat × Str) : setsS l (cs ++ [c]) = (setsS l cs).set c.1 c.2 := by
  unfold setsS
  rw [List.foldl_append]
  rfl
theorem setsS_mem {P : Str → Prop} (cs : List (Nat × Str)) : ∀ l : List Str, (∀ x ∈ l, P x) → (∀ c ∈ cs, P c.2) → ∀ x ∈ setsS l cs, P x := by
  induction cs with
  | nil => intro l h _; exact h
  | cons c cs ih =>
    intro l h1 h2
    refine ih (l.set c.1 c.2) (fun x hx => ?_) fun z hz => h2 z (List.mem_cons_of_mem _ hz)
    rcases List.mem_or_eq_of_mem_set hx with hx | hx
    · exact h1 x hx
    · rw [hx]; exact h2 c List.mem_cons_self
theorem Rp.chE {K : PySem.W.Frag} {H : Hp} {v : V} {c : Nat × Str} (h : Rp K H v (chD c)) : ∃ p, v = .ref p ∧ SqT K H p [.int (c.1 : Int), .str c.2] := by
  cases h with
  | tup hs ha =>
    cases ha with
    | cons h1 t =>
      cases h1
      cases t with
      | cons h2 t =>
        cases h2
        cases t
        exact ⟨_, rfl, hs⟩
theorem ixN_at {n j : Nat} (h : j < n) : ixN n (j : Int) = some j := by
  unfold ixN
  rw [if_pos (by omega), if_pos (by omega)]
  simp
section
variable {P : Program} {w : World} {K : PySem.W.Frag} {mg : Str → Option Value} {base : Heap}
def spCT (K : PySem.W.Frag) : Sp := fun vs H Q _ => ∃ v c rs cs, vs = [v, c] ∧ LtAt K H v rs ∧ (∀ r ∈ rs, Small r) ∧ rs.length ≤ 1000 ∧ Rp K H c (.tuple (cs.map chD)) ∧ cs.length ≤ 100000 ∧ (∀ c ∈ cs, c.1 < rs.length ∧ c.2.length ≤ 500) ∧
  ∀ H', Ex H H' → Q (.str (cText rs cs)) H'
theorem sc35 : FnScope ["lot", "changes", "lines", "index", "new", "line"] ["lot", "changes"] (defScope (top 35)) := ⟨rfl, rfl, rfl, by decide +kernel, rfl, by decide +kernel, by decide +kernel⟩
theorem ok_changed_text (T : Txt K mg) : FnR P w K mg base CX0 5 (He.ga K "changed_text") (spCT K) := by
  refine mkD T.d_changed_text.df sc35 (fun vs H Q E h => ?_) (fun _ _ _ _ _ _ us hl => match us, hl with | [_, _], _ => rfl) (fun cdv A outer s H vs Q E hr h => ?_)
  · obtain ⟨v, c, rs, cs, rfl, _⟩ := h
    rfl
  · obtain ⟨v, c, rs, cs, rfl, hv, hsm, hn, hc, hcn, hcs, k⟩ := h
    refine ⟨_, (pss_cons (ps_set (i := 2) sc35.nd rfl (.inl rfl) (pe_d T.d_lot_lines (ok_lot_lines T) hr (pa_cons (pv 0) pa_nil)))
      (pss_cons (ps_for PassesOwn.never rfl (pi_tup (pv 1)) (pg_tup rfl (pgs_cons (pg_name (i := 3) sc35.nd rfl (.inl rfl)) (pgs_cons (pg_name (i := 4) sc35.nd rfl (.inl rfl)) pgs_nil)))
      (pss_one (ps_asg (pv 4) (pg_sub (pv 2) (pv 3) set_list))))
      (pss_one (ps_ret (pe_join pe_str (pe_lc (own := [("line", 5)]) rfl sc35.nd (pi_list (pv 2)) (blkOk_by (N := ["lot", "changes", "lines", "index", "new", "line"]) (sc := defScope (top 35)) (by decide +kernel)) (fun _ _ _ _ _ => (pg_name (i := 5) sc35.nd rfl (.inl rfl))) (fun _ _ _ _ _ => (pts_one (pt_cmpR op_ne (pv 5) pe_str (nomark _)))) (fun _ _ _ _ _ => (pv 5)))))))), ?_⟩
    refine ⟨v, rfl, v, rs, rfl, hv, hsm, hn, fun l H1 e1 hlH hl1 => ?_⟩
    obtain ⟨ca, us, rfl, hca, hcr⟩ := hc.tupE
    have hlen : us.length = cs.length := by rw [hcr.len, List.length_map]
    refine ⟨.ref ca, rfl, ca, rfl, ⟨us, ex_t e1 hca⟩, for_tup (xs := us) (fun i σ' H' => (∃ u w, σ' = [some v, some (.ref ca), some (.ref l), u, w, none]) ∧ Ex H H' ∧ H' l = some (.lst ((setsS (rs.map sheetS) (cs.take i)).map V.str))) ⟨⟨_, _, rfl⟩, e1, by rw [List.take_zero]; exact hl1⟩ (fun i σ' H' _ hw => ex_t hw.2.1 hca) ?_ ?_⟩
    · rintro i x σ' H' hx ⟨⟨u, w', rfl⟩, e2, hl2⟩
      obtain ⟨y, hy, hxy⟩ := hcr.getM hx
      obtain ⟨q, rfl, hq⟩ := hxy.chE
      have hy1 := (hcs y (List.mem_of_getElem? hy)).1
      have hl9 : (setsS (rs.map sheetS) (cs.take i)).length = rs.length := by rw [setsS_len, List.length_map]
      refine ⟨q, _, rfl, ex_t e2 hq, rfl, .int (y.1 : Int), [.str y.2], rfl, .str y.2, [], rfl, rfl, ?_⟩
      refine ⟨.str y.2, rfl, .ref l, rfl, .int (y.1 : Int), rfl, l, _, _, y.1, rfl, rfl, hl2, by rw [List.length_map, hl9]; exact ixN_at hy1, ⟨_, _, rfl⟩, Ex.mut e2 hlH, ?_⟩
      rw [upd_same, take_snoc hy, setsS_snoc, List.map_set]
    · rintro σ' H' ⟨⟨u, w', rfl⟩, e2, hl2⟩
      rw [List.take_of_length_le (by omega)] at hl2
      have hl9 : (setsS (rs.map sheetS) cs).length = rs.length := by rw [setsS_len, List.length_map]
      have hmx : ∀ x ∈ setsS (rs.map sheetS) cs, x.length ≤ 500 := setsS_mem cs _ (fun x hx => by
        obtain ⟨r, hr, rfl⟩ := List.mem_map.mp hx
        exact Nat.le_trans (sheetS_len (hsm r hr)) (by decide)) fun c hc => (hcs c hc).2
      have eT : cText rs cs = Txt.join "\n" ((setsS (rs.map sheetS) cs).filter fun b => !decide (V.str b = V.str "")) := rfl
      generalize setsS (rs.map sheetS) cs = ls at hl2 hl9 hmx eT
      refine ⟨⟨"\n", rfl⟩, .ref l, rfl, l, rfl, ⟨_, .of hl2⟩, fun D hD => lcL (xs := ls.map V.str) ls (fun b => !decide (V.str b = V.str "")) (fun b y _ => y = .str b) (fun _ _ _ _ _ h => h) (.of hl2) (by rw [List.length_map]) (by rw [List.length_map]; omega) hD (fun i b x H3 R1 R0 hb hx e3 hac r1 r0 => ?_) (fun H3 ys e3 hD3 hly hpr => ?_)⟩
      · cases getM_str hb hx
        exact ⟨rfl, .str b, rfl, rfl, _, rfl, ite_b (fun h => ⟨.str b, rfl, r1 h _ _ (.refl _) rfl⟩) (fun h => r0 h _ (.refl _))⟩
      · have hy := paired_map hpr
        refine ⟨"\n", D, _, rfl, rfl, .inl (.of (by rw [hD3, hy])), ?_, by rw [← eT]; exact k _ (e2.trans e3)⟩
        have := sum_le (l := ls.filter fun b => !decide (V.str b = V.str "")) (n := 500) fun x hx => hmx x (List.mem_filter.mp hx).1
        have hf := List.length_filter_le (fun b => !decide (V.str b = V.str "")) ls
        have c1 : ("\n" : Str).length = 1 := by decide +kernel
        rw [c1]
        have : (ls.filter fun b => !decide (V.str b = V.str "")).length * 500 ≤ 1000 * 500 := Nat.mul_le_mul_right _ (by omega)
        omega
/-! ### text_lot -/
theorem readR_valid {s : Str} {r : RD} (h : readR s = some r) : Valid r := by
  unfold readR readW at h
  split at h
  · split at h
    · split at h
      · rename_i p e _ _
        split at h
        · rename_i hl
          split at h
          · cases h
            exact ⟨hl, rfl, Nat.zero_le _⟩
          · split at h
            · rename_i hq
              cases h
              have hs := okL_some hq.2.2.2
              refine ⟨hl, ?_, ?_⟩
              · show okL p (List.map some _) = true
                rw [← hs]
                exact hq.2.2.2
              · have := congrArg List.length hs
                rw [List.length_map, List.length_map] at this
                show (List.filterMap id _).length ≤ 400
                rw [← this]
                exact hq.2.2.1
            · cases h
        · cases h
      · cases h
    · cases h
  · cases h
theorem okLot_some {os : List (Option RD)} (h : okLot os = true) : os = (os.filterMap id).map some := by
  have k : ∀ x ∈ os, ∃ y, x = some y := by
    intro x hx
    unfold okLot at h
    have g := List.all_eq_true.mp (Bool.and_eq_true_iff.mp h).2 x hx
    cases x with
    | none => exact absurd g Bool.false_ne_true
    | some y => exact ⟨y, rfl⟩
  clear h
  induction os with
  | nil => rfl
  | cons x xs ih =>
    obtain ⟨y, e⟩ := k x List.mem_cons_self
    have h2 := ih fun z hz => k z (List.mem_cons_of_mem _ hz)
    rw [e]
    simp only [List.filterMap_cons, id, List.map_cons]
    rw [← h2]
def OptL (K : PySem.W.Frag) (H : Hp) (v : V) : Option (List RD) → Prop
  | some rs => LtAt K H v rs
  | none => v = .non
theorem slt_hide {H : Hp} {D a C dx : Addr} {ss : List (Option V)} {acc : List V} (hD : H D = some (.lst acc)) (h : SlX.Slt H a C dx ss) : SlX.Slt (hide D H) a C dx ss := by
  rcases h with ⟨h1, h2⟩ | ⟨h1, h2⟩
  · exact .inl ⟨by rw [hide_ne (fun z => by rw [z, hD] at h1; cases h1)]; exact h1, h2⟩
  · exact .inr ⟨by rw [hide_ne (fun z => by rw [z, hD] at h1; unfold SlX.SlO at h1; cases h1)]; exact h1, by rw [hide_ne (fun z => by rw [z, hD] at h2; cases h2)]; exact h2⟩
theorem noL_lamps (ls : List (Int × Int)) : noL (lampsD ls) = true := by
  unfold lampsD
  show noLs _ = true
  induction ls with
  | nil => rfl
  | cons a l ih =>
    show (noL (lampD (some a)) && noLs (l.map fun a => lampD (some a))) = true
    rw [ih]; rfl
theorem RdAt.hide {H : Hp} {D : Addr} {v : V} {r : RD} {acc : List V} (hD : H D = some (.lst acc)) (h : RdAt K H v r) : RdAt K (Lk.hide D H) v r := by
  obtain ⟨a, dx, ss, L, h1, h2, h3, h4, h5, h6⟩ := h.ex
  exact ⟨a, dx, ss, L, h1, slt_hide hD h2, h3, h4, h5, h6.hideT hD _ _ (noL_lamps _)⟩
theorem OptR.hide {H : Hp} {D : Addr} {v : V} {o : Option RD} {acc : List V} (hD : H D = some (.lst acc)) (h : OptR K H v o) : OptR K (Lk.hide D H) v o := by
  cases o with
  | none => exact h
  | some r => exact RdAt.hide hD h
def spTLot (K : PySem.W.Frag) : Sp := fun vs H Q _ => ∃ z, vs = [.str z] ∧ (∀ p ∈ Txt.split z "\n", p.length ≤ 500) ∧ (Txt.split z "\n").length ≤ 1000 ∧ z.length ≤ 1000000 ∧ ∀ v H', Ex H H' → OptL K H' v (readLot z) → Q v H'
theorem sc36 : FnScope ["value", "found", "line"] ["value"] (defScope (top 36)) := ⟨rfl, rfl, rfl, by decide +kernel, rfl, by decide +kernel, by decide +kernel⟩
theorem paired_optm {K : PySem.W.Frag} {H : Hp} : ∀ {ws : List Str} {us : List V}, Paired (fun w u => OptR K H u (readR w)) ws us → Paired (fun o u => OptR K H u o) (ws.map readR) us
  | _, _, .nil => .nil
  | _, _, .cons r t => .cons r (paired_optm t)
theorem ok_text_lot (T : Txt K mg) : FnR P w K mg base CX0 7 (He.ga K "text_lot") (spTLot K) := by
  refine mkD T.d_text_lot.df sc36 (fun vs H Q E h => ?_) (fun _ _ _ _ _ _ us hl => match us, hl with | [_], _ => rfl) (fun cdv A outer s H vs Q E hr h => ?_)
  · obtain ⟨z, rfl, _⟩ := h
    rfl
  · obtain ⟨z, rfl, hsl, hcnt, hzl, k⟩ := h
    refine ⟨_, (pss_cons (ps_if (pt_not (pt_val (b_isi T (pa_cons (pv 0) (pa_cons (pn_str T) pa_nil)))))
      (pss_one (ps_ret pe_non))
      pss_nil)
      (pss_cons (ps_set (i := 1) sc36.nd rfl (.inl rfl) (b_tupL T (pa_cons (pe_lc (own := [("line", 2)]) rfl sc36.nd (pi_list (pe_split (pv 0) pe_str)) (blkOk_by (N := ["value", "found", "line"]) (sc := defScope (top 36)) (by decide +kernel)) (fun _ _ _ _ _ => (pg_name (i := 2) sc36.nd rfl (.inl rfl))) (fun _ _ _ _ _ => pts_nil) (fun _ _ _ _ _ => (pe_d T.d_text_round (ok_text_round T) hr (pa_cons (pv 2) pa_nil)))) pa_nil)))
      (pss_one (ps_ret (pe_ifExp (pt_cmpR op_isN (pe_d T.d_wrong_member (ok_wrong_member T) hr (pa_cons (pv 1) pa_nil)) pe_non (nomark _)) (StX.pe_makeR T.l_f.mkr (ok_linit T) (hr.mono (by decide)) rfl T.g_Lot pass0 (pa_cons (pv 1) pa_nil)) pe_non))))), ?_⟩
    refine ⟨.str z, rfl, .str z, _, .type "str", _, _, rfl, .ty _, (Rp.str z : Rp K H (.str z) (.str z)).ty, kit_str (.str z), _, rfl, itF ?_⟩
    have hws : Txt.split z "\n" ≠ [] := by rw [nl_sep]; exact split_ne (by decide) z
    have eL : readLot z = if okLot ((Txt.split z "\n").map readR) = true then some (((Txt.split z "\n").map readR).filterMap id) else none := rfl
    refine ⟨.str z, rfl, ⟨z, rfl⟩, z, "\n", rfl, rfl, by decide +kernel, by rw [sizeLine_eq]; omega, fun p hp => ?_⟩
    generalize Txt.split z "\n" = ws at hsl hcnt hws eL
    refine ⟨p, rfl, ⟨_, .of upd_same⟩, fun D hD => lcL (xs := ws.map V.str) ws (fun _ => true) (fun w y H => OptR K H y (readR w)) (fun _ _ _ _ e h => h.x e) (.of upd_same) (by rw [List.length_map]) (by rw [List.length_map]; omega) hD (fun i b x H2 R1 R0 hb hx e2 hac r1 r0 => ?_) (fun H2 ys e2 hD2 hly hpr => ?_)⟩
    · cases getM_str hb hx
      obtain ⟨acc, hac⟩ := hac
      exact ⟨rfl, .str b, rfl, b, rfl, hsl b (List.mem_of_getElem? hb), fun v H' e h => r1 rfl _ _ e (h.hide (e _ _ hac))⟩
    · rw [filter_T] at hpr
      have e3 : Ex H H2 := (Ex.new hp).trans e2
      refine ⟨D, ys, rfl, .of hD2, fun t ht => ?_⟩
      have e4 : Ex H2 (upd H2 t (.tup ys)) := Ex.new ht
      have hT : SqT K (upd H2 t (.tup ys)) t ys := .of upd_same
      generalize upd H2 t (.tup ys) = H3 at e4 hT
      have hp3 : Paired (fun o u => OptR K H3 u o) (ws.map readR) ys := paired_optm (hpr.mono fun _ _ h => (h.x hide_ex).x e4)
      generalize ho : ws.map readR = os at hp3 eL
      have hon : os ≠ [] := by rw [← ho]; simpa using hws
      have hov : ∀ r, some r ∈ os → r.ls.length ≤ 400 := fun r hr => by
        rw [← ho] at hr
        obtain ⟨s, _, hs⟩ := List.mem_map.mp hr
        exact (readR_valid hs).few
      have hol : os.length ≤ 1000 := by rw [← ho, List.length_map]; exact hcnt
      have e13 := e3.trans e4
      refine ⟨.ref t, rfl, t, ys, os, rfl, hT, hp3, hon, hol, hov, fun v H4 e5 hb => ⟨rfl, _, rfl, ite_b (fun hn => ?_) (fun hn => k _ _ (e13.trans e5) ?_)⟩⟩
      · have hok : okLot os = true := by
          rcases hb with ⟨_, h⟩ | ⟨h, _⟩
          · exact h
          · exact absurd (of_decide_eq_true hn) h
        have hs := okLot_some hok
        rw [if_pos hok] at eL
        generalize os.filterMap id = rs at hs eL
        subst hs
        refine ⟨.ref t, rfl, mkL (ex_t e5 hT) (paired_unopt (hp3.mono fun _ _ h => h.x e5)) (by simpa using hon) hok (fun r hr => hov r (List.mem_map_of_mem hr)) fun y H5 e6 hy => k _ _ ((e13.trans e5).trans e6) ?_⟩
        rw [eL]
        exact hy
      · have hnk : okLot os = false := by
          rcases hb with ⟨h, _⟩ | ⟨_, h⟩
          · rw [h] at hn; exact absurd hn (by decide)
          · exact h
        rw [eL, hnk]
        rfl
end
end Lk
namespace Lk
open PySem PySem.Spec PyProof.Rows L2 Evl Lm TL
/-! ### an own exception of one field is made (its context None) -/
/-- the promise of its __init__ -/
def spXI (C : Addr) (f : Str) : Sp := fun vs H Q _ => ∃ a y, vs = [.ref a, y] ∧ H a = some (exo a C none) ∧ ∀ dx, H dx = none → dx ≠ a → Q .non (upd (upd H dx (exd dx [(f, y)])) a (exo a C (some dx)))
/-- C(e) -/
def tMkX (C : Addr) (f : Str) (ta : TA) : L2.St → Hp → XK → Prop := fun σ H Q => ta σ H fun vs H1 => ∃ v, vs = [v] ∧ ∀ d, H1 d = none → Q (.ref C) (some d) (upd H1 d (.xd [(f, v)]))
theorem pmk_x {X : Cx} {x f : Str} {e : Expr} {ta : TA} {p pos : Pos} {C fI : Addr} {k j : Nat} (T : OexC X.K C) (iC : PySem.W.findIn X.K (.ref C) "__init__" = some (some (.ref fI))) (tI : PySem.W.typeIn X.K (.ref fI) = some (.type "function"))
    (F1 : FnR X.prog X.w X.K X.mg X.base CX0 k fI (spXI C f)) (hr : Room j X.A) (hj : k + 1 ≤ j) (hg : Gl X x) (hm : X.mg x = some (.ref C)) (ha : PA X [e] ta)
    (hdb : (x == ("__debug__" : Str)) = false := by decide) (he : starEach [e] X.env = (false, eval e X.env) :: starEach [] X.env := by rfl) (hpl : (backTo pos (starEach [] X.env)).any (·.1) = false := by rfl) :
    L2N.PMk X (.Call (.Name x p) [e] [] pos) (tMkX C f ta) := by
  intro pins s σ H Q I h
  obtain ⟨nm, q, N, bs, bm, sn, sub, ab, col, dd, k0, k1, k2, k3, k5, hC, hbm⟩ := T.cls
  refine wpAny_Call_Name_kw (ld_glob I hg hm ?_ hdb)
  refine PySem.W.callWith_K (h₀ := X.base) I.ok.mod.kin T.kC (thn (ha.run pos pins s σ H _ I h) fun us s1 ⟨vs, H1, I1, r1, v, ev, q1⟩ => ⟨I1.kIn, ?_⟩) he hpl
  subst ev
  show wpAny _ _ (call (.ref C) us) _ _ _
  obtain ⟨hp, g, dr, tk, os⟩ := s1
  have hsz : hp.objs.size ≤ hp.objs.size + 1 := Nat.le_succ _
  have hn : H1 (hp.objs.size + 1) = none := I1.hok.fresh hsz
  generalize hA : hp.objs.size + 1 = a at hn
  have hq : spXI C f (.ref a :: [v]) (upd H1 a (exo a C none)) (fun v H2 => v = .non ∧ ∃ (d : Addr) (fs : List (Str × V)), H2 a = some (exo a C (some d)) ∧ H2 d = some (exd d fs) ∧ H1 d = none ∧ Q (.ref C) (some d) (upd (del H2 a) d (.xd fs))) (fun _ _ _ => False) := by
    refine ⟨a, v, rfl, upd_same, fun dx hdx hne => ⟨rfl, dx, [(f, v)], upd_same, by rw [upd_ne hne, upd_same], ?_, ?_⟩⟩
    · rw [upd_ne hne] at hdx
      exact hdx
    · rw [upd_ne hne] at hdx
      have e1 : upd (del (upd (upd (upd H1 a (exo a C none)) dx (exd dx [(f, v)])) a (exo a C (some dx))) a) dx (.xd [(f, v)]) = upd H1 dx (.xd [(f, v)]) := by
        funext b
        by_cases hb : b = dx
        · rw [hb, upd_same, upd_same]
        · rw [upd_ne hb, upd_ne hb]
          by_cases hb2 : b = a
          · rw [hb2, del_same]
            exact hn.symm
          · rw [del_ne hb2, upd_ne hb2, upd_ne hb, upd_ne hb2]
      rw [e1]
      exact q1 dx hdx
  subst hA
  have kk : ∀ b o, hp.get? b = some o → ((hp.push (PySem.W.kdv_tup us)).push (PySem.HandSPX.excO C hp.objs.size)).get? b = some o := fun b o e => Heap.get?_push_of_some _ (Heap.get?_push_of_some _ e)
  have hget : ((hp.push (PySem.W.kdv_tup us)).push (PySem.HandSPX.excO C hp.objs.size)).get? (hp.objs.size + 1) = some (PySem.HandSPX.excO C hp.objs.size) := by heap_get
  have I2 : Inv X pins σ (upd H1 (hp.objs.size + 1) (exo (hp.objs.size + 1) C none)) ⟨(hp.push (PySem.W.kdv_tup us)).push (PySem.HandSPX.excO C hp.objs.size), g, dr, tk, os⟩ :=
    I1.laid (t' := tk) (a := hp.objs.size + 1) (o := exo (hp.objs.size + 1) C none) (h' := (hp.push (PySem.W.kdv_tup us)).push (PySem.HandSPX.excO C hp.objs.size)) kk hsz (exo_ok hget)
  have r2 : Vals (V.ref (hp.objs.size + 1) :: [v]) (Value.ref (hp.objs.size + 1) :: us) := .cons rfl r1
  have hus : us.length ≤ sizeLine := by
    rw [← Paired.length r1, sizeLine_eq]
    show 1 ≤ 16777216
    decide
  refine wpAny_call (PySem.HandSPX.call_own F.excBase_ValueError (fun Y => PySem.HandSPX.refsVE_contains Y bm hbm) (I1.kIn _ _ hC) (PySem.W.looks_findIn I1.kIn iC) (fun self => PySem.W.bind_fn I1.kIn self tI) hus
    (codeAny_mono (F1 _ X.stack _ _ (Value.ref (hp.objs.size + 1) :: us) _ _ (fun _ _ _ => False) ((hr.mono hj).make C us []) (I2.env0.make C us []) r2 hq) fun r s' hq' => ?_))
  cases r with
  | error er => exact hq'.elim
  | ok fl =>
    cases fl with
    | ret u =>
      obtain ⟨v2, H2, os2, bare2, un2, hok2, rv, ev, d, fs, ea, ed, hd1, q2⟩ := hq'
      subst ev
      obtain ⟨h2, g2, d2, t2, os'⟩ := s'
      obtain ⟨t0, G, J, kG, ge, hoe, na⟩ := mk_end0 (d2 := d2) (t2 := t2) I1 hsz kk un2 hok2 os2 bare2 ea ed hd1
      refine ⟨rv, ⟨hp.objs.size + 1, _, _, ⟨G, g2, d2, t2, os'⟩, _, .ref C, some d, rfl, J, kG, ge, hoe, ⟨rfl, rfl, fun vs hv => ?_⟩, rfl, rfl, na, rfl, bare2, raises_own T.exC T.tyC, q2⟩⟩
      cases hv
      rfl
    | next => exact False.elim hq'
    | brk => exact False.elim hq'
    | cont => exact False.elim hq'
section
variable {P : Program} {w : World} {K : PySem.W.Frag} {mg : Str → Option Value} {base : Heap}
theorem sc7_0 : FnScope ["self", "index"] ["self", "index"] (defScope (mth 7 0)) := ⟨rfl, rfl, rfl, by decide +kernel, rfl, by decide +kernel, by decide +kernel⟩
theorem sc2_0 : FnScope ["self", "given"] ["self", "given"] (defScope (mth 2 0)) := ⟨rfl, rfl, rfl, by decide +kernel, rfl, by decide +kernel, by decide +kernel⟩
abbrev cIC (K : PySem.W.Frag) : Addr := He.ga K "InvalidChanges"
abbrev cIT (K : PySem.W.Frag) : Addr := He.ga K "InvalidText"
theorem ok_chinit (T : Txt K mg) : FnR P w K mg base CX0 1 (He.ma K (cIC K) "__init__") (spXI (cIC K) "index") := by
  refine mkD T.x_ch.df sc7_0 (fun vs H Q E h => ?_) (fun _ _ _ _ _ _ us hl => match us, hl with | [_, _], _ => rfl) (fun cdv A outer s H vs Q E hr h => ?_)
  · obtain ⟨a, y, rfl, _⟩ := h
    rfl
  · obtain ⟨a, y, rfl, ha, k⟩ := h
    exact ⟨_, pss_one (ps_ost (pv 0) (pv 1)), y, rfl, .ref a, rfl, a, _, rfl, T.x_ch.ox, T.x_ch.no, .inl ⟨ha, fun dx hdx hne => k dx hdx hne⟩⟩
theorem ok_txinit (T : Txt K mg) : FnR P w K mg base CX0 1 (He.ma K (cIT K) "__init__") (spXI (cIT K) "given") := by
  refine mkD T.x_tx.df sc2_0 (fun vs H Q E h => ?_) (fun _ _ _ _ _ _ us hl => match us, hl with | [_, _], _ => rfl) (fun cdv A outer s H vs Q E hr h => ?_)
  · obtain ⟨a, y, rfl, _⟩ := h
    rfl
  · obtain ⟨a, y, rfl, ha, k⟩ := h
    exact ⟨_, pss_one (ps_ost (pv 0) (pv 1)), y, rfl, .ref a, rfl, a, _, rfl, T.x_tx.ox, T.x_tx.no, .inl ⟨ha, fun dx hdx hne => k dx hdx hne⟩⟩
end
section
variable {X : Cx} {W : WX} {e : Expr} {ta : TA} {p pos pos2 : Pos} {j : Nat}
/-- raise InvalidChanges(e) -/
theorem ps_raiseC (T : Txt X.K X.mg) (hr : Room j X.A) (tk : L2N.Takes X W) (ha : PA X [e] ta) (hj : 2 ≤ j := by decide) (hc : X.calm = true := by rfl) (hg : Gl X "InvalidChanges" := by rfl)
    (he : starEach [e] X.env = (false, eval e X.env) :: starEach [] X.env := by rfl) (hpl : (backTo pos (starEach [] X.env)).any (·.1) = false := by rfl) :
    PS X (.Raise (some (.Call (.Name "InvalidChanges" p) [e] [] pos)) none pos2) (fun _ σ H => tMkX (cIC X.K) "index" ta σ H fun cls d H' => W cls d σ H') :=
  L2N.ps_raise hc tk (pmk_x T.x_ch.ox T.x_ch.iC T.x_ch.tI (ok_chinit T) hr hj hg T.x_ch.gC ha (he := he) (hpl := hpl))
/-- raise InvalidText(e) -/
theorem ps_raiseT (T : Txt X.K X.mg) (hr : Room j X.A) (tk : L2N.Takes X W) (ha : PA X [e] ta) (hj : 2 ≤ j := by decide) (hc : X.calm = true := by rfl) (hg : Gl X "InvalidText" := by rfl)
    (he : starEach [e] X.env = (false, eval e X.env) :: starEach [] X.env := by rfl) (hpl : (backTo pos (starEach [] X.env)).any (·.1) = false := by rfl) :
    PS X (.Raise (some (.Call (.Name "InvalidText" p) [e] [] pos)) none pos2) (fun _ σ H => tMkX (cIT X.K) "given" ta σ H fun cls d H' => W cls d σ H') :=
  L2N.ps_raise hc tk (pmk_x T.x_tx.ox T.x_tx.iC T.x_tx.tI (ok_txinit T) hr hj hg T.x_tx.gC ha (he := he) (hpl := hpl))
end
section
variable {P : Program} {w : World} {K : PySem.W.Frag} {mg : Str → Option Value} {base : Heap}
/-! ### Lot.read -/
def spRead (K : PySem.W.Frag) : Sp := fun vs H Q E => ∃ c z, vs = [c, .str z] ∧ (∀ p ∈ Txt.split z "\n", p.length ≤ 500) ∧ (Txt.split z "\n").length ≤ 1000 ∧ z.length ≤ 1000000 ∧
  (∀ rs, readLot z = some rs → ∀ v H', Ex H H' → LtAt K H' v rs → Q v H') ∧ (readLot z = none → ∀ d H', Ex H H' → H' d = some (.xd [("given", .str z)]) → E (.ref (cIT K)) (some d) H')
theorem sc32_2 : FnScope ["cls", "text", "lot"] ["cls", "text"] (defScope (mth 32 2)) := ⟨rfl, rfl, rfl, by decide +kernel, rfl, by decide +kernel, by decide +kernel⟩
theorem ok_read (T : Txt K mg) : FnR P w K mg base (L2N.CX P w) 8 (He5.wf K (cL K) "classmethod" "read") (spRead K) := by
  refine mkX T.l_readd sc32_2 (fun vs H Q E h => ?_) (fun _ _ _ _ _ _ us hl => match us, hl with | [_, _], _ => rfl) (fun cdv A outer s H vs Q E hr h => ?_)
  · obtain ⟨c, z, rfl, _⟩ := h
    rfl
  · obtain ⟨c, z, rfl, h1, h2, h3, k1, k2⟩ := h
    refine ⟨_, (pss_cons (ps_set (i := 2) sc32_2.nd rfl (.inl rfl) (pe_d T.d_text_lot (ok_text_lot T) hr (pa_cons (pv 1) pa_nil)))
      (pss_cons (ps_if (pt_cmpR op_isN (pv 2) pe_non (nomark _))
        (pss_one (ps_raiseT T hr (L2N.takes_of rfl rfl rfl rfl) (pa_cons (pv 1) pa_nil)))
        pss_nil)
      (pss_one (ps_ret (pv 2))))), ?_⟩
    refine ⟨.str z, rfl, z, rfl, h1, h2, h3, fun v H' e hv => ?_⟩
    cases hz : readLot z with
    | none =>
      rw [hz] at hv
      cases (show v = .non from hv)
      exact ⟨.non, rfl, rfl, _, rfl, itT ⟨.str z, rfl, .str z, rfl, fun d hd => k2 hz d _ (e.trans (Ex.new hd)) upd_same⟩⟩
    | some rs =>
      rw [hz] at hv
      have hne : v ≠ .non := fun q => by
        obtain ⟨a, _, _, _, _, e9, _⟩ := (show LtAt K H' v rs from hv).ex
        rw [q] at e9; cases e9
      refine ⟨v, rfl, rfl, _, rfl, ?_⟩
      rw [decide_eq_false hne]
      exact itF ⟨v, rfl, k1 rs hz v H' e hv⟩
end
end Lk
namespace Lk
open PySem PySem.Spec PyProof.Rows L2 Evl Lm TL
/-! ### slices of tuples -/
theorem cutV_to (xs : List V) (k : Nat) : cutV xs none (some (k : Int)) = xs.take k := by
  unfold cutV
  rw [HT.sIx_nat, HT.sIx_none, List.drop_zero, Nat.sub_zero]
  by_cases h : k ≤ xs.length
  · rw [Nat.min_eq_left h]
  · rw [Nat.min_eq_right (by omega), List.take_of_length_le (Nat.le_refl _), List.take_of_length_le (by omega)]
theorem cutV_from (xs : List V) (k : Nat) : cutV xs (some (k : Int)) none = xs.drop k := by
  unfold cutV
  rw [HT.sIx_nat, HT.sIx_none]
  by_cases h : k ≤ xs.length
  · rw [Nat.min_eq_left h, List.take_of_length_le (by rw [List.length_drop]; exact Nat.le_refl _)]
  · rw [Nat.min_eq_right (by omega), List.drop_eq_nil_of_le (Nat.le_refl _), List.drop_eq_nil_of_le (by omega), List.take_nil]
theorem cutV_mid (xs : List V) (i j : Nat) : cutV xs (some (i : Int)) (some (j : Int)) = (xs.drop i).take (j - i) := by
  unfold cutV
  rw [HT.sIx_nat, HT.sIx_nat]
  by_cases h : i ≤ xs.length
  · rw [Nat.min_eq_left h]
    by_cases h2 : j ≤ xs.length
    · rw [Nat.min_eq_left h2]
    · rw [Nat.min_eq_right (by omega), List.take_of_length_le (by rw [List.length_drop]; exact Nat.le_refl _), List.take_of_length_le (by rw [List.length_drop]; omega)]
  · rw [Nat.min_eq_right (by omega : xs.length ≤ i), List.drop_eq_nil_of_le (Nat.le_refl _), List.drop_eq_nil_of_le (by omega), List.take_nil, List.take_nil]
theorem slA {K : PySem.W.Frag} {H : Hp} {a : Addr} {xs : List V} {lo hi : Option Int} {Q : VK} (h : SqT K H a xs) (q : ∀ p H', Ex H H' → SqT K H' p (cutV xs lo hi) → Q (.ref p) H') : rSlA K (.ref a) lo hi H Q := by
  refine ⟨a, xs, rfl, h, fun hw => q a H (.refl _) ?_, fun _ p hp => q p _ (Ex.new hp) (.of upd_same)⟩
  have e : cutV xs lo hi = xs := by
    unfold cutV
    rw [hw.1, hw.2, List.drop_zero, Nat.sub_zero, List.take_of_length_le (Nat.le_refl _)]
  rw [e]
  exact h
/-! ### what changed answers -/
inductive Out where
  | back (rs : List RD)
  | chg (o : Option Nat)
  | txt (z : Str)
def key1 : PyData → Option Int
  | .tuple (.int k :: _) => some k
  | _ => none
def badAt (n : Nat) (ds : List PyData) (i : Nat) : Bool := match ds[i]? with
  | some d => !chOk1 n d || (ds.take i).any fun e => decide (key1 e = key1 d)
  | none => false
def wrongI (n : Nat) (ds : List PyData) : Option Nat := (List.range ds.length).find? (badAt n ds)
def chOf : PyData → Option (Nat × Str)
  | .tuple [.int k, .str s] => some (k.toNat, s)
  | _ => none
def csOf (ds : List PyData) : List (Nat × Str) := ds.filterMap chOf
def outT (z : Str) : Out := match readLot z with
  | some rs => .back rs
  | none => .txt z
def outC (rs : List RD) : PyData → Out
  | .tuple ds => match wrongI rs.length ds with
    | some i => .chg (some i)
    | none => outT (cText rs (csOf ds))
  | _ => .chg none
def oN : Option Nat → V
  | some i => .int (i : Int)
  | none => .non
def OutQ (K : PySem.W.Frag) (H : Hp) (Q : VK) (E : XK) : Out → Prop
  | .back rs => ∀ v H', Ex H H' → LtAt K H' v rs → Q v H'
  | .chg o => ∀ dd H', Ex H H' → H' dd = some (.xd [("index", oN o)]) → E (.ref (cIC K)) (some dd) H'
  | .txt z => ∀ dd H', Ex H H' → H' dd = some (.xd [("given", .str z)]) → E (.ref (cIT K)) (some dd) H'
theorem chOk1_eq {n : Nat} {d : PyData} (h : chOk1 n d = true) : ∃ (k : Nat) (s : Str), d = .tuple [.int (k : Int), .str s] ∧ k < n ∧ 10 ∉ tl s := by
  unfold chOk1 at h
  split at h
  · rename_i i s
    simp only [Bool.and_eq_true, decide_eq_true_eq, Bool.not_eq_true', decide_eq_false_iff_not] at h
    obtain ⟨⟨h1, h2⟩, h3⟩ := h
    exact ⟨i.toNat, s, by rw [Int.toNat_of_nonneg h1], by omega, h3⟩
  · cases h
theorem badAt_none {n : Nat} {ds : List PyData} {i : Nat} {d : PyData} (e : ds[i]? = some d) (h : badAt n ds i = false) : chOk1 n d = true := by
  unfold badAt at h
  rw [e] at h
  have := (Bool.or_eq_false_iff.mp h).1
  simpa using this
theorem wrongI_none {n : Nat} {ds : List PyData} (h : wrongI n ds = none) : ∀ d ∈ ds, chOk1 n d = true := by
  intro d hd
  obtain ⟨i, hi, e⟩ := List.mem_iff_getElem.mp hd
  unfold wrongI at h
  have := List.find?_eq_none.mp h i (List.mem_range.mpr hi)
  exact badAt_none (by rw [List.getElem?_eq_getElem hi, e]) (by simpa using this)
theorem csOf_eq {n : Nat} {ds : List PyData} (h : ∀ d ∈ ds, chOk1 n d = true) : ds = (csOf ds).map chD ∧ ∀ c ∈ csOf ds, c.1 < n ∧ 10 ∉ tl c.2 ∧ chD c ∈ ds := by
  induction ds with
  | nil => exact ⟨rfl, fun c hc => by cases hc⟩
  | cons d ds ih =>
    obtain ⟨k, s, rfl, h1, h2⟩ := chOk1_eq (h d List.mem_cons_self)
    obtain ⟨i1, i2⟩ := ih fun z hz => h z (List.mem_cons_of_mem _ hz)
    have e : csOf (.tuple [.int (k : Int), .str s] :: ds) = (k, s) :: csOf ds := rfl
    rw [e]
    refine ⟨by rw [List.map_cons, ← i1]; rfl, fun c hc => ?_⟩
    rcases List.mem_cons.mp hc with rfl | hc
    · exact ⟨h1, h2, List.mem_cons_self⟩
    · obtain ⟨j1, j2, j3⟩ := i2 c hc
      exact ⟨j1, j2, List.mem_cons_of_mem _ j3⟩
/-- the texts that changed_text joins -/
theorem cText_split {rs : List RD} {cs : List (Nat × Str)} (hsm : ∀ r ∈ rs, Small r) (hn : rs.length ≤ 4) (hc : ∀ c ∈ cs, 10 ∉ tl c.2 ∧ c.2.length ≤ 500) :
    (∀ p ∈ Txt.split (cText rs cs) "\n", p.length ≤ 500) ∧ (Txt.split (cText rs cs) "\n").length ≤ 1000 ∧ (cText rs cs).length ≤ 1000000 := by
  have h1 : ∀ x ∈ setsS (rs.map sheetS) cs, 10 ∉ tl x ∧ x.length ≤ 500 := setsS_mem (P := fun x => 10 ∉ tl x ∧ x.length ≤ 500) cs _ (fun x hx => by
    obtain ⟨r, hr, rfl⟩ := List.mem_map.mp hx
    exact ⟨sheet_free (by decide) r, Nat.le_trans (sheetS_len (hsm r hr)) (by decide)⟩) hc
  have hl : (setsS (rs.map sheetS) cs).length ≤ 4 := by rw [setsS_len, List.length_map]; exact hn
  unfold cText
  generalize setsS (rs.map sheetS) cs = ls at h1 hl
  have hf := List.length_filter_le (fun b => !decide (V.str b = V.str "")) ls
  have h2 : ∀ x ∈ ls.filter (fun b => !decide (V.str b = V.str "")), 10 ∉ tl x ∧ x.length ≤ 500 := fun x hx => h1 x (List.mem_filter.mp hx).1
  generalize ls.filter (fun b => !decide (V.str b = V.str "")) = fs at h2 hf
  have hj := join_len ("\n" : Str) fs
  have c1 : ("\n" : Str).length = 1 := by decide +kernel
  have hs := sum_le fun x hx => (h2 x hx).2
  rw [c1] at hj
  have hz : (Txt.join "\n" fs).length ≤ 2004 := by
    have : fs.length * 500 ≤ 4 * 500 := Nat.mul_le_mul_right _ (by omega)
    omega
  refine ⟨fun p hp => ?_, ?_, by omega⟩
  · by_cases hfs : fs = []
    · subst hfs
      rw [nl_sep] at hp
      have := split_len (by decide) hp
      have e0 : (Txt.join (sep 10) ([] : List Str)).length = 0 := by decide +kernel
      omega
    · rw [nl_sep, split_joined (by decide) hfs fun p hp => (h2 p hp).1] at hp
      exact (h2 p hp).2
  · by_cases hfs : fs = []
    · subst hfs
      rw [nl_sep]
      have := split_cnt (c := 10) (by decide) (Txt.join (sep 10) ([] : List Str))
      have e0 : (Txt.join (sep 10) ([] : List Str)).length = 0 := by decide +kernel
      omega
    · rw [nl_sep, split_joined (by decide) hfs fun p hp => (h2 p hp).1]
      omega
/-- short texts in it -/
def shortD (d : PyData) : Prop := ∀ ds, d = .tuple ds → ds.length ≤ 1000 ∧ ∀ c : Nat × Str, chD c ∈ ds → c.2.length ≤ 500
section
variable {P : Program} {w : World} {K : PySem.W.Frag} {mg : Str → Option Value} {base : Heap}
/-! ### changed -/
def spCh (K : PySem.W.Frag) : Sp := fun vs H Q E => ∃ v c rs d, vs = [v, c] ∧ LtAt K H v rs ∧ (∀ r ∈ rs, Small r) ∧ rs.length ≤ 4 ∧ Rp K H c d ∧ shortD d ∧ OutQ K H Q E (outC rs d)
theorem sc32_6 : FnScope ["self", "changes", "lines", "at", "change", "other"] ["self", "changes"] (defScope (mth 32 6)) := ⟨rfl, rfl, rfl, by decide +kernel, rfl, by decide +kernel, by decide +kernel⟩
theorem inV_keys (k : Int) (ks : List Int) : inV (.int k) (ks.map V.int) = ks.any fun j => decide (j = k) := by
  unfold inV
  rw [List.any_map]
  congr 1
theorem ok_changed2 (T : Txt K mg) : FnR P w K mg base (L2N.CX P w) 9 (He.ma K (cL K) "changed") (spCh K) ∧ FnK1 P w K mg base (L2N.CX P w) 9 (He.ma K (cL K) "changed") "changes" (spCh K) := by
  refine mkXK T.l_changed.df sc32_6 (fun vs H Q E h => ?_) (fun _ _ _ _ _ _ us hl => match us, hl with | [_, _], _ => rfl) (fun _ _ _ _ _ _ _ _ => rfl) (fun cdv A outer s H vs Q E hr h => ?_)
  · obtain ⟨v, c, rs, d, rfl, _⟩ := h
    rfl
  · obtain ⟨v, c, rs, d, rfl, hv, hsm, hn4, hc, hsh, ho⟩ := h
    refine ⟨_, (pss_cons (ps_if (pt_not (pt_val (b_isi T (pa_cons (pv 1) (pa_cons (pn_tuple T) pa_nil)))))
        (pss_one (ps_raiseC T hr (L2N.takes_of rfl rfl rfl rfl) (pa_cons pe_non pa_nil)))
        pss_nil)
      (pss_cons (ps_set (i := 2) sc32_6.nd rfl (.inl rfl) (pe_d T.d_lot_lines (ok_lot_lines T) hr (pa_cons (pv 0) pa_nil)))
      (pss_cons (ps_for (passes_of rfl) rfl (pi_enumT rfl T.f_enumerate (pa_cons (pv 1) pa_nil)) (pg_tup rfl (pgs_cons (pg_name (i := 3) sc32_6.nd rfl (.inl rfl)) (pgs_cons (pg_name (i := 4) sc32_6.nd rfl (.inl rfl)) pgs_nil)))
      (pss_one (ps_if (PW.pt (pw_or (pt_not (pt_val (pe_d T.d_is_change (ok_is_change T) hr (pa_cons (pv 2) (pa_cons (pv 4) pa_nil))))) (pw_or1 (pt_cmpR op_in_seq (pe_ix ix_tup (pv 4) pe_int (fun _ _ => rfl)) (pe_lc (own := [("other", 5)]) (te := tOp (rIxT K) (tVar 5) (tC (.int 0))) rfl sc32_6.nd (pi_tup (pe_slice sl_tupA (pv 1) po_none (po_some (pv 3)))) (blkOk_by (N := ["self", "changes", "lines", "at", "change", "other"]) (sc := defScope (mth 32 6)) (by decide +kernel)) (fun _ _ _ _ _ => (pg_name (i := 5) sc32_6.nd rfl (.inl rfl))) (fun _ _ _ _ _ => pts_nil) (fun _ _ _ _ _ => (pe_ix ix_tup (pv 5) pe_int (fun _ _ => rfl)))) (by rfl)))))
        (pss_one (ps_raiseC T hr (L2N.takes_of rfl rfl rfl rfl) (pa_cons (pv 3) pa_nil)))
        pss_nil)))
      (pss_one (ps_ret (ClX.pe_cmeth (pe_glob (v := .ref (cL K)) rfl T.g_Lot rfl) T.l_cread T.l_read (ok_read T) (hr.mono (by decide)) (L2N.passes_call (W := fun cls d _ H => E cls d H) (E := E) (L2N.takes_of rfl rfl rfl rfl) (fun _ _ _ _ h => h)) (pa_cons (pe_d T.d_changed_text (ok_changed_text T) hr (pa_cons (pv 0) (pa_cons (pv 1) pa_nil))) pa_nil))))))), ?_⟩
    refine ⟨c, rfl, c, _, _, _, _, rfl, .ty _, hc.ty, kit_tuple d, _, rfl, ite_b (fun h => ⟨.non, rfl, fun dd hdd => ?_⟩) (fun h => ?_)⟩
    · have e : outC rs d = .chg none := by cases d <;> first | rfl | cases h
      rw [e] at ho
      exact ho dd _ (Ex.new hdd) upd_same
    obtain ⟨ds, rfl⟩ : ∃ ds, d = .tuple ds := by
      cases d <;> first | exact ⟨_, rfl⟩ | cases h
    obtain ⟨hsl, hss⟩ := hsh ds rfl
    refine ⟨v, rfl, v, rs, rfl, hv, hsm, by omega, fun l H1 e1 hlH hl1 => ?_⟩
    obtain ⟨ca, us, rfl, hca, hcr⟩ := hc.tupE
    have hlen : us.length = ds.length := hcr.len
    have eO : outC rs (.tuple ds) = match wrongI rs.length ds with
      | some i => .chg (some i)
      | none => outT (cText rs (csOf ds)) := rfl
    refine ⟨.ref ca, rfl, ca, us, rfl, ex_t e1 hca, for_enumT (xs := us) (fun i σ' H' => (∃ u w o, σ' = [some v, some (.ref ca), some (.ref l), u, w, o]) ∧ Ex H1 H' ∧ ∀ j, j < i → badAt rs.length ds j = false) ⟨⟨_, _, _, rfl⟩, .refl _, fun j hj => absurd hj (Nat.not_lt_zero _)⟩ (fun i σ' H' _ hw => ex_t hw.2.1 (ex_t e1 hca)) ?_ ?_⟩
    · rintro i x σ' H' T' hx ⟨⟨u, w', o', rfl⟩, e2, hg⟩ hT
      have e3 : Ex H' (upd H' T' (.tup [.int (i : Nat), x])) := Ex.new hT
      have e4 := e2.trans e3
      generalize hH : upd H' T' (.tup [.int (i : Nat), x]) = H2 at e3 e4
      have hT2 : H2 T' = some (.tup [.int (i : Nat), x]) := by rw [← hH, upd_same]
      clear hH
      obtain ⟨dx, hdx, hxv⟩ := hcr.get hx
      have hilt : i < ds.length := (List.getElem?_eq_some_iff.mp hdx).1
      have e14 := e1.trans e4
      have bad : badAt rs.length ds i = true → ∀ H9, Ex H2 H9 → ∀ dd, H9 dd = none → E (.ref (cIC K)) (some dd) (upd H9 dd (.xd [("index", .int (i : Nat))])) := fun hb H9 e9 dd hdd => by
        have ew : wrongI rs.length ds = some i := by
          unfold wrongI
          exact List.find?_range_eq_some.mpr ⟨hb, List.mem_range.mpr hilt, fun j hj => by rw [hg j hj]; rfl⟩
        rw [eO, ew] at ho
        exact ho dd _ ((e14.trans e9).trans (Ex.new hdd)) upd_same
      refine ⟨T', _, rfl, .of hT2, rfl, .int (i : Nat), [x], rfl, x, [], rfl, rfl, ?_⟩
      have eb : badAt rs.length ds i = (!chOk1 rs.length dx || (ds.take i).any fun e => decide (key1 e = key1 dx)) := by
        unfold badAt
        rw [hdx]
      have hl2 := e4 _ _ hl1
      refine ⟨.ref l, rfl, x, rfl, l, _, x, dx, rfl, .of hl2, hxv.x e14, _, rfl, ?_⟩
      rw [List.length_map, List.length_map]
      refine ite_b (fun h1 => itT ⟨.int (i : Nat), rfl, .int (i : Nat), rfl, fun dd hdd => bad ?_ _ (.refl _) dd hdd⟩) (fun h1 => ?_)
      · rw [eb, h1]; rfl
      have h1' : chOk1 rs.length dx = true := by simpa using h1
      obtain ⟨k, z, rfl, hk, hz⟩ := chOk1_eq h1'
      obtain ⟨q, rfl, hq⟩ := (show Rp K H x (chD (k, z)) from hxv).chE
      have hca2 := ex_t e14 hca
      refine ⟨.ref q, rfl, q, _, 0, .int (k : Int), rfl, rfl, ex_t e14 hq, rfl, ?_⟩
      have hprev : ∀ e ∈ ds.take i, chOk1 rs.length e = true := fun e he => by
        obtain ⟨j, hj, ej⟩ := List.mem_iff_getElem.mp he
        have hj2 : j < i := by rw [List.length_take] at hj; omega
        have hj3 : j < ds.length := by omega
        refine badAt_none (i := j) ?_ (hg j hj2)
        rw [List.getElem_take] at ej
        rw [List.getElem?_eq_getElem hj3, ej]
      obtain ⟨hcs, _⟩ := csOf_eq hprev
      generalize csOf (ds.take i) = cs at hcs
      refine ⟨.ref ca, rfl, .int (i : Nat), rfl, (i : Int), rfl, slA hca2 fun p H3 e5 hp3 => ?_⟩
      rw [cutV_to] at hp3
      have hra : RpA K H3 (us.take i) (cs.map chD) := by rw [← hcs]; exact (hcr.x (e14.trans e5)).take i
      have hcl : (us.take i).length = cs.length := by rw [hra.len, List.length_map]
      have hcl2 : (us.take i).length ≤ us.length := by rw [List.length_take]; omega
      refine ⟨p, rfl, ⟨_, hp3⟩, fun D hD => lcT (xs := us.take i) cs (fun _ => true) (fun c y _ => y = .int (c.1 : Int)) (fun _ _ _ _ _ h => h) hp3 hcl.symm (by omega) hD (fun j b y H4 R1 R0 hb hy e6 hac r1 r0 => ?_) (fun H4 ys e6 hD4 hly hpr => ?_)⟩
      · obtain ⟨b', hb', hyv⟩ := hra.getM hy
        rw [hb] at hb'
        cases hb'
        obtain ⟨q', rfl, hq'⟩ := hyv.chE
        exact ⟨rfl, .ref q', rfl, q', _, 0, .int (b.1 : Int), rfl, rfl, ex_t e6 hq', rfl, r1 rfl _ _ (.refl _) rfl⟩
      · rw [filter_T] at hpr
        have hy := paired_map hpr
        have hy2 : ys = (cs.map fun c => (c.1 : Int)).map V.int := by rw [hy, List.map_map]; rfl
        subst hy2
        have ei : inV (.int (k : Int)) ((cs.map fun c => (c.1 : Int)).map V.int) = (ds.take i).any fun e => decide (key1 e = key1 (.tuple [.int (k : Int), .str z])) := by
          rw [inV_keys, hcs, List.any_map, List.any_map]
          congr 1
          funext c
          show decide ((c.1 : Int) = k) = decide (some (c.1 : Int) = some (k : Int))
          rw [Bool.eq_iff_iff, decide_eq_true_iff, decide_eq_true_iff]
          exact ⟨fun z => by rw [z], fun z => by injection z⟩
        refine ⟨D, _, rfl, .inl (.of hD4), rfl, ?_, _, rfl, ?_⟩
        · rw [List.all_map, List.all_eq_true]
          intro _ _
          rfl
        · show if inV (.int (k : Int)) ((cs.map fun c => (c.1 : Int)).map V.int) = true then _ else _
          rw [ei]
          have e56 := e5.trans e6
          refine ite_b (fun h2 => ⟨.int (i : Nat), rfl, .int (i : Nat), rfl, fun dd hdd => bad ?_ _ e56 dd hdd⟩) (fun h2 => ⟨⟨_, _, _, rfl⟩, e4.trans e56, fun j hj => ?_⟩)
          · rw [eb, h2, Bool.or_true]
          · rcases Nat.lt_succ_iff_lt_or_eq.mp hj with hj | hj
            · exact hg j hj
            · rw [hj, eb, h1', h2]; rfl
    · rintro σ' H' ⟨⟨u, w', o', rfl⟩, e2, hg⟩
      rw [hlen] at hg
      have ew : wrongI rs.length ds = none := by
        unfold wrongI
        rw [List.find?_eq_none]
        intro j hj
        rw [hg j (List.mem_range.mp hj)]
        exact Bool.false_ne_true
      obtain ⟨hcs, hcp⟩ := csOf_eq (wrongI_none ew)
      rw [eO, ew] at ho
      replace ho : OutQ K H Q E (outT (cText rs (csOf ds))) := ho
      generalize hcsd : csOf ds = cs at hcs hcp ho
      have e12 := e1.trans e2
      obtain ⟨b1, b2, b3⟩ := cText_split (cs := cs) hsm hn4 fun c hc => ⟨(hcp c hc).2.1, hss c (hcp c hc).2.2⟩
      refine ⟨rfl, v, rfl, .ref ca, rfl, v, .ref ca, rs, cs, rfl, hv.x e12, hsm, by omega, by rw [← hcs]; exact hc.x e12, ?_, fun c hc => ⟨(hcp c hc).1, hss c (hcp c hc).2.2⟩, fun H3 e3 => ⟨.ref (cL K), cText rs cs, rfl, b1, b2, b3, fun rs' hr v' H4 e4 hv' => ?_, fun hr d H4 e4 hd4 => ?_⟩⟩
      · have := congrArg List.length hcs
        rw [List.length_map] at this
        omega
      · unfold outT at ho
        rw [hr] at ho
        exact ho v' H4 ((e12.trans e3).trans e4) hv'
      · unfold outT at ho
        rw [hr] at ho
        exact ho d H4 ((e12.trans e3).trans e4) hd4
end
end Lk
namespace Lk
open PySem PySem.Spec PyProof.Rows L2 Evl Lm TL
/-! ### the pail -/
theorem ExP.upd {pl : Addr} {H H' : Hp} (e : Ex (hide pl H) (hide pl H')) {a b c : Int} (h1 : -(2 ^ 64) < b) (h2 : b < 2 ^ 64) : ExP pl H (L2.upd H' pl (.lst [.int a, .int b, .int c])) :=
  ⟨by rw [hide_upd]; exact e, ⟨a, b, c, upd_same, h1, h2⟩⟩
theorem ExP.refl {pl : Addr} {H : Hp} (h : PailAt pl H) : ExP pl H H := ⟨.refl _, h⟩
section
variable {P : Program} {w : World} {K : PySem.W.Frag} {mg : Str → Option Value} {base : Heap}
/-! ### _law_cast -/
def spCast : Sp := fun vs H Q _ => ∃ pl many, vs = [.ref pl, .int many] ∧ PailAt pl H ∧ 0 < many ∧ many < 1073741824 ∧ ∀ k H', ExP pl H H' → 0 ≤ k → k < many → Q (.int k) H'
theorem sc39 : FnScope ["_law_pail", "_law_many", "_law_figure_here", "_law_state"] ["_law_pail", "_law_many"] (defScope (top 39)) := ⟨rfl, rfl, rfl, by decide +kernel, rfl, by decide +kernel, by decide +kernel⟩
theorem ok__law_cast (T : Txt K mg) : FnR P w K mg base CX0 1 (He.ga K "_law_cast") spCast := by
  refine mkD T.d__law_cast.df sc39 (fun vs H Q E h => ?_) (fun _ _ _ _ _ _ us hl => match us, hl with | [_, _], _ => rfl) (fun cdv A outer s H vs Q E hr h => ?_)
  · obtain ⟨pl, many, rfl, _⟩ := h
    rfl
  · obtain ⟨pl, many, rfl, ⟨a, b, c, hp, hb1, hb2⟩, hm0, hm1, k⟩ := h
    refine ⟨_, (pss_cons (ps_if (pt_cmpR op_gt (pe_ix ix_list (pv 0) pe_int (fun _ _ => rfl)) pe_int (nomark _))
      (pss_cons (ps_asg (pe_callB call_divmodW rfl T.f_divmod boot_divmod (pa_cons (pe_ix ix_list (pv 0) pe_int (fun _ _ => rfl)) (pa_cons (pv 1) pa_nil))) (pg_tup rfl (pgs_cons (pg_sub (pv 0) pe_int set_list) (pgs_cons (pg_name (i := 2) sc39.nd rfl (.inl rfl)) pgs_nil))))
        (pss_one (ps_ret (pv 2))))
      pss_nil)
      (pss_cons (ps_asg (pe_op op_add (pe_ix ix_list (pv 0) pe_int (fun _ _ => rfl)) pe_int) (pg_sub (pv 0) pe_int set_list))
      (pss_cons (ps_set (i := 3) sc39.nd rfl (.inl rfl) (pe_op op_mod (b_intI T (pa_cons (pe_op op_add (pe_op op_add (pe_op op_mul (pe_ix ix_list (pv 0) pe_int (fun _ _ => rfl)) (pe_op op_add pe_int (pe_op op_mul pe_int (pe_ix ix_list (pv 0) pe_int (fun _ _ => rfl))))) (pe_op op_mul pe_int (pe_ix ix_list (pv 0) pe_int (fun _ _ => rfl)))) pe_int) pa_nil)) pe_int))
      (pss_cons (ps_asg (pe_op op_mod (b_intI T (pa_cons (pe_op op_add (pe_op op_add (pe_op op_mul (pv 3) pe_int) (pe_op op_mul pe_int (pe_ix ix_list (pv 0) pe_int (fun _ _ => rfl)))) pe_int) pa_nil)) pe_int) (pg_sub (pv 0) pe_int set_list))
      (pss_one (ps_ret (pe_op op_mod (b_intI T (pa_cons (pe_op op_fdiv (pe_ix ix_list (pv 0) pe_int (fun _ _ => rfl)) pe_int) pa_nil)) (pv 1)))))))), ?_⟩
    refine ⟨.ref pl, rfl, pl, _, 0, .int a, rfl, rfl, .of hp, rfl, a, 0, rfl, rfl, _, rfl, ite_b (fun _ => ?_) (fun _ => ?_)⟩
    · refine ⟨.ref pl, rfl, pl, _, 0, .int a, rfl, rfl, .of hp, rfl, .int many, rfl, a, many, rfl, ⟨hm0, PyProof.noPylong_small (by omega)⟩, fun q hq => ?_⟩
      have hne : pl ≠ q := fun z => by rw [z, hq] at hp; cases hp
      have hp2 : upd H q (.tup [.int (a / many), .int (a % many)]) pl = some (.lst [.int a, .int b, .int c]) := by rw [upd_ne hne]; exact hp
      refine ⟨q, _, rfl, .of upd_same, rfl, .int (a / many), [.int (a % many)], rfl, .ref pl, rfl, pl, _, 0, 0, rfl, rfl, hp2, rfl, .int (a % many), [], rfl, rfl, ?_⟩
      exact ⟨.int (a % many), rfl, k _ _ (ExP.upd (ex_hide (Ex.new hq)) hb1 hb2) (Int.emod_nonneg _ (by omega)) (Int.emod_lt_of_pos _ hm0)⟩
    · have c1 : CMul b (36809 + 2 * (c + 1)) := .inl ⟨hb1, hb2⟩
      refine ⟨.ref pl, rfl, pl, _, 2, .int c, rfl, rfl, .of hp, rfl, c, 1, rfl, rfl, .ref pl, rfl, pl, _, 2, 2, rfl, rfl, hp, rfl, ?_⟩
      have hp1 : upd H pl (.lst [.int a, .int b, .int (c + 1)]) pl = some (.lst [.int a, .int b, .int (c + 1)]) := upd_same
      have e1 : ExP pl H (upd H pl (.lst [.int a, .int b, .int (c + 1)])) := ExP.upd (.refl _) hb1 hb2
      show (tSeq _ _ _ _ (upd H pl (.lst [.int a, .int b, .int (c + 1)])) : Prop)
      generalize upd H pl (.lst [.int a, .int b, .int (c + 1)]) = H1 at hp1 e1
      refine ⟨.ref pl, rfl, pl, _, 1, .int b, rfl, rfl, .of hp1, rfl, .ref pl, rfl, pl, _, 2, .int (c + 1), rfl, rfl, .of hp1, rfl, 2, c + 1, rfl, rfl, .inl ⟨by decide, by decide⟩, 36809, 2 * (c + 1), rfl, rfl, b, _, rfl, rfl, c1, ?_⟩
      refine ⟨.ref pl, rfl, pl, _, 2, .int (c + 1), rfl, rfl, .of hp1, rfl, 5303, c + 1, rfl, rfl, .inl ⟨by decide, by decide⟩, _, _, rfl, rfl, _, 7, rfl, rfl, _, rfl, _, 2147483629, rfl, rfl, by show (0 : Int) < 2147483629; decide, ?_⟩
      have b1 := Int.emod_nonneg (b * (36809 + 2 * (c + 1)) + 5303 * (c + 1) + 7) (show (2147483629 : Int) ≠ 0 by decide)
      have b2 := Int.emod_lt_of_pos (b * (36809 + 2 * (c + 1)) + 5303 * (c + 1) + 7) (show (0 : Int) < 2147483629 by decide)
      have p64 : (2147483629 : Int) < 2 ^ 64 := by decide
      refine ⟨_, rfl, _, 45413, rfl, rfl, .inl ⟨Int.lt_of_lt_of_le (by decide) b1, Int.lt_trans b2 p64⟩, .ref pl, rfl, pl, _, 2, .int (c + 1), rfl, rfl, .of hp1, rfl, 3, c + 1, rfl, rfl, .inl ⟨by decide, by decide⟩, _, _, rfl, rfl, _, 1, rfl, rfl, _, rfl, _, 2147483587, rfl, rfl, by show (0 : Int) < 2147483587; decide, .ref pl, rfl, pl, _, 1, 1, rfl, rfl, hp1, rfl, ?_⟩
      have b3 : ∀ z : Int, 0 ≤ z % 2147483587 ∧ z % 2147483587 < 2147483587 := fun z => ⟨Int.emod_nonneg z (by decide), Int.emod_lt_of_pos z (by decide)⟩
      have e2 : ∀ z : Int, ExP pl H (upd H1 pl (.lst [.int a, .int (z % 2147483587), .int (c + 1)])) := fun z => ExP.upd e1.ex (Int.lt_of_lt_of_le (by decide) (b3 z).1) (Int.lt_trans (b3 z).2 (by decide))
      exact ⟨.ref pl, rfl, pl, _, 1, _, rfl, rfl, .of upd_same, rfl, _, 256, rfl, rfl, ⟨by decide, by decide⟩, _, rfl, .int many, rfl, _, many, rfl, rfl, hm0, k _ _ (e2 _) (Int.emod_nonneg _ (by omega)) (Int.emod_lt_of_pos _ hm0)⟩
/-! ### _law_any_of -/
def spAny (K : PySem.W.Frag) : Sp := fun vs H Q _ => ∃ pl l xs, vs = [.ref pl, .ref l] ∧ PailAt pl H ∧ SqL K (hide pl H) l xs ∧ xs ≠ [] ∧ xs.length ≤ 1000 ∧ ∀ x ∈ xs, ∀ H', ExP pl H H' → Q x H'
theorem sc40 : FnScope ["_law_pail", "_law_some_here"] ["_law_pail", "_law_some_here"] (defScope (top 40)) := ⟨rfl, rfl, rfl, by decide +kernel, rfl, by decide +kernel, by decide +kernel⟩
theorem ok__law_any_of (T : Txt K mg) : FnR P w K mg base CX0 2 (He.ga K "_law_any_of") (spAny K) := by
  refine mkD T.d__law_any_of.df sc40 (fun vs H Q E h => ?_) (fun _ _ _ _ _ _ us hl => match us, hl with | [_, _], _ => rfl) (fun cdv A outer s H vs Q E hr h => ?_)
  · obtain ⟨pl, l, xs, rfl, _⟩ := h
    rfl
  · obtain ⟨pl, l, xs, rfl, hp, hl, hne, hn, k⟩ := h
    refine ⟨_, (pss_one (ps_ret (pe_ix ix_list (pv 1) (pe_d T.d__law_cast (ok__law_cast T) hr (pa_cons (pv 0) (pa_cons (b_len T (pa_cons (pv 1) pa_nil)) pa_nil))) (fun _ _ => rfl)))), ?_⟩
    have h0 : xs.length ≠ 0 := fun z => hne (List.length_eq_zero_iff.mp z)
    refine ⟨.ref l, rfl, .ref pl, rfl, .ref l, rfl, .ref l, xs.length, rfl, .inl ⟨xs, ex_l hide_ex hl, rfl⟩, pl, _, rfl, hp, by omega, by omega, fun i H' e h1 h2 => ?_⟩
    have hi : i.toNat < xs.length := by omega
    refine ⟨l, xs, i, xs[i.toNat], rfl, rfl, ex_l hide_ex (ex_l e.ex hl), ?_, k _ (List.getElem_mem hi) _ e⟩
    have e1 : atI xs ((i.toNat : Nat) : Int) = some (xs[i.toNat]'hi) := atI_nat (List.getElem?_eq_getElem hi)
    rwa [Int.toNat_of_nonneg h1] at e1
/-! ### _law_vast -/
def spVast : Sp := fun vs H Q _ => ∃ pl many, vs = [.ref pl, .int many] ∧ PailAt pl H ∧ 0 < many ∧ ∀ k H', ExP pl H H' → 0 ≤ k → k < many → Q (.int k) H'
theorem sc41 : FnScope ["_law_pail", "_law_many", "_law_found", "_law_turn"] ["_law_pail", "_law_many"] (defScope (top 41)) := ⟨rfl, rfl, rfl, by decide +kernel, rfl, by decide +kernel, by decide +kernel⟩
theorem ok__law_vast (T : Txt K mg) : FnR P w K mg base CX0 2 (He.ga K "_law_vast") spVast := by
  refine mkD T.d__law_vast.df sc41 (fun vs H Q E h => ?_) (fun _ _ _ _ _ _ us hl => match us, hl with | [_, _], _ => rfl) (fun cdv A outer s H vs Q E hr h => ?_)
  · obtain ⟨pl, many, rfl, _⟩ := h
    rfl
  · obtain ⟨pl, many, rfl, hp, hm, k⟩ := h
    refine ⟨_, (pss_cons (ps_set (i := 2) sc41.nd rfl (.inl rfl) pe_int)
      (pss_cons (ps_for PassesOwn.never rfl (pi_range1 rfl T.f_range (pa_cons pe_int pa_nil)) (pg_name (i := 3) sc41.nd rfl (.inl rfl))
      (pss_one (ps_set (i := 2) sc41.nd rfl (.inl rfl) (pe_op op_add (pe_op op_mul (pv 2) pe_int) (pe_d T.d__law_cast (ok__law_cast T) hr (pa_cons (pv 0) (pa_cons pe_int pa_nil)))))))
      (pss_one (ps_ret (pe_op op_mod (b_intI T (pa_cons (pv 2) pa_nil)) (pv 1)))))), ?_⟩
    refine ⟨6, rfl, by decide, by decide, for_range (lo := 0) (n := 6) (fun i σ' H' => (∃ f u, σ' = [some (.ref pl), some (.int many), some (.int f), u]) ∧ ExP pl H H') ⟨⟨0, _, rfl⟩, .refl hp⟩ ?_ ?_⟩
    · rintro i σ' H' hi ⟨⟨f, u, rfl⟩, e1⟩
      refine ⟨.int f, rfl, f, 1000003, rfl, rfl, .inr ⟨by decide, by decide⟩, .ref pl, rfl, pl, 1000003, rfl, e1.pail, by decide, by decide, fun k' H'' e2 _ _ => ⟨_, _, rfl, rfl, ⟨_, _, rfl⟩, e1.trans e2⟩⟩
    · rintro σ' H' ⟨⟨f, u, rfl⟩, e1⟩
      exact ⟨.int f, rfl, f, rfl, .int many, rfl, f, many, rfl, rfl, hm, k _ _ e1 (Int.emod_nonneg _ (by omega)) (Int.emod_lt_of_pos _ hm)⟩
/-! ### _law_place -/
def spPlace : Sp := fun vs H Q _ => ∃ pl, vs = [.ref pl] ∧ PailAt pl H ∧ ∀ i H', ExP pl H H' → i.natAbs < 10 ^ 40 → Q (.int i) H'
theorem sc45 : FnScope ["_law_pail", "_law_chance"] ["_law_pail"] (defScope (top 45)) := ⟨rfl, rfl, rfl, by decide +kernel, rfl, by decide +kernel, by decide +kernel⟩
theorem p40 : (100 : Nat) < 10 ^ 40 := by decide
theorem ok__law_place (T : Txt K mg) : FnR P w K mg base CX0 3 (He.ga K "_law_place") spPlace := by
  refine mkD T.d__law_place.df sc45 (fun vs H Q E h => ?_) (fun _ _ _ _ _ _ us hl => match us, hl with | [_], _ => rfl) (fun cdv A outer s H vs Q E hr h => ?_)
  · obtain ⟨pl, rfl, _⟩ := h
    rfl
  · obtain ⟨pl, rfl, hp, k⟩ := h
    refine ⟨_, (pss_cons (ps_set (i := 1) sc45.nd rfl (.inl rfl) (pe_d T.d__law_cast (ok__law_cast T) hr (pa_cons (pv 0) (pa_cons pe_int pa_nil))))
      (pss_cons (ps_if (pt_cmpR op_lt (pv 1) pe_int (nomark _))
      (pss_one (ps_ret (pe_op op_sub (pe_d T.d__law_cast (ok__law_cast T) hr (pa_cons (pv 0) (pa_cons pe_int pa_nil))) pe_int)))
      pss_nil)
      (pss_one (ps_ret (pe_ifExp (pt_cmpR op_eq (pv 1) pe_int (nomark _)) (pe_op op_sub (pe_d T.d__law_cast (ok__law_cast T) hr (pa_cons (pv 0) (pa_cons pe_int pa_nil))) pe_int) (pe_op op_sub (pe_d T.d__law_vast (ok__law_vast T) hr (pa_cons (pv 0) (pa_cons (pe_op op_pow pe_int pe_int) pa_nil))) (pe_op op_pow pe_int pe_int))))))), ?_⟩
    refine ⟨.ref pl, rfl, pl, 8, rfl, hp, by decide, by decide, fun c H1 e1 _ _ => ?_⟩
    have p100 := p40
    refine ⟨.int c, rfl, c, 6, rfl, rfl, _, rfl, ite_b (fun _ => ⟨.ref pl, rfl, pl, 13, rfl, e1.pail, by decide, by decide, fun j H2 e2 h1 h2 => ⟨j, 6, rfl, rfl, k _ _ (e1.trans e2) (by omega)⟩⟩) (fun _ => ?_)⟩
    refine ⟨.int c, rfl, rfl, _, rfl, ite_b (fun _ => ⟨.ref pl, rfl, pl, 81, rfl, e1.pail, by decide, by decide, fun j H2 e2 h1 h2 => ⟨j, 40, rfl, rfl, k _ _ (e1.trans e2) (by omega)⟩⟩) (fun _ => ?_)⟩
    have t1 : ((10 : Int) ^ (39 : Int).toNat) = 1000000000000000000000000000000000000000 := by decide
    have t2 : ((10 : Int) ^ (38 : Int).toNat) = 100000000000000000000000000000000000000 := by decide
    have t3 : (10 : Nat) ^ 40 = 10000000000000000000000000000000000000000 := by decide
    refine ⟨.ref pl, rfl, 10, 39, rfl, rfl, ⟨by decide, by decide, by decide⟩, pl, _, rfl, e1.pail, by rw [t1]; decide, fun j H2 e2 h1 h2 => ⟨10, 38, rfl, rfl, ⟨by decide, by decide, by decide⟩, j, _, rfl, rfl, k _ _ (e1.trans e2) ?_⟩⟩
    rw [t1] at h2
    rw [t2, t3]
    omega
end
end Lk
namespace Lk
open PySem PySem.Spec PyProof.Rows L2 Evl Lm TL
/-! ### x == [], x != [] and of tuples: by the lengths alone -/
section
variable {X : Cx}
def rEmp (K : PySem.W.Frag) (neg : Bool) : R2 := fun x y H Q => ∃ a b xs, x = .ref a ∧ y = .ref b ∧ ((SqL K H a xs ∧ SqL K H b []) ∨ (SqT K H a xs ∧ SqT K H b [])) ∧ Q (.bl (if neg then !xs.isEmpty else xs.isEmpty)) H
theorem op_neE (hu : X.A.units < cLine) : OpR X (compareOp .NotEq) (rEmp X.K true) := by
  intro pins s σ H x y v u Q I rx ry h
  obtain ⟨a, b, xs, rfl, rfl, h, q⟩ := h
  cases rx
  cases ry
  show wpAny (model X.prog X.w) X.A (richCompare .NotEq (.ref a) (.ref b)) _ _ s
  rcases h with ⟨ha, hb⟩ | ⟨ha, hb⟩
  · obtain ⟨its, r, pl, _⟩ := I.list ha
    obtain ⟨its2, r2, pl2, _⟩ := I.list hb
    cases r2
    cases r with
    | nil => exact SeqAt.RcNeAt.lists (e := fun _ => true) pl.isList pl2.isList rfl hu (fun j h1 => absurd h1 (Nat.not_lt_zero _)) _ _ _ _ ⟨.bl false, H, I, rfl, q⟩
    | cons _ _ => exact SeqAt.RcNeAt.lists_lengths pl.isList pl2.isList rfl hu _ _ _ _ ⟨.bl true, H, I, rfl, q⟩
  · obtain ⟨its, r, pl, _⟩ := I.tuple ha
    obtain ⟨its2, r2, pl2, _⟩ := I.tuple hb
    cases r2
    cases r with
    | nil => exact SeqAt.RcNeAt.tuples (e := fun _ => true) pl pl2 hu (fun j h1 => absurd h1 (Nat.not_lt_zero _)) _ _ _ _ ⟨.bl false, H, I, rfl, q⟩
    | cons _ _ => exact SeqAt.RcNeAt.tuples (e := fun _ => true) pl pl2 hu (fun j h1 h2 => absurd h2 (Nat.not_lt_zero _)) _ _ _ _ ⟨.bl true, H, I, rfl, q⟩
theorem op_eqE (hu : X.A.units < cLine) : OpR X (compareOp .Eq) (rEmp X.K false) := by
  intro pins s σ H x y v u Q I rx ry h
  obtain ⟨a, b, xs, rfl, rfl, h, q⟩ := h
  cases rx
  cases ry
  show wpAny (model X.prog X.w) X.A (richCompare .Eq (.ref a) (.ref b)) _ _ s
  rcases h with ⟨ha, hb⟩ | ⟨ha, hb⟩
  · obtain ⟨its, r, pl, _⟩ := I.list ha
    obtain ⟨its2, r2, pl2, _⟩ := I.list hb
    cases r2
    cases r with
    | nil => exact SeqAt.RcAt.lists (e := fun _ => true) pl.isList pl2.isList rfl hu (fun j h1 => absurd h1 (Nat.not_lt_zero _)) _ _ _ _ ⟨.bl true, H, I, rfl, q⟩
    | cons _ _ => exact SeqAt.RcAt.lists_lengths pl.isList pl2.isList rfl hu _ _ _ _ ⟨.bl false, H, I, rfl, q⟩
  · obtain ⟨its, r, pl, _⟩ := I.tuple ha
    obtain ⟨its2, r2, pl2, _⟩ := I.tuple hb
    cases r2
    cases r with
    | nil => exact SeqAt.RcAt.tuples (e := fun _ => true) pl pl2 hu (fun j h1 => absurd h1 (Nat.not_lt_zero _)) _ _ _ _ ⟨.bl true, H, I, rfl, q⟩
    | cons _ _ => exact SeqAt.RcAt.tuples (e := fun _ => true) pl pl2 hu (fun j h1 h2 => absurd h2 (Nat.not_lt_zero _)) _ _ _ _ ⟨.bl false, H, I, rfl, q⟩
/-! ### lists of flat items -/
def eqVs : List V → List V → Bool
  | [], [] => true
  | x :: xs, y :: ys => eqV x y && eqVs xs ys
  | _, _ => false
theorem eqVs_len : ∀ {xs ys : List V}, xs.length ≠ ys.length → eqVs xs ys = false
  | [], [], h => absurd rfl h
  | [], _ :: _, _ => rfl
  | _ :: _, [], _ => rfl
  | x :: xs, y :: ys, h => by
    show (eqV x y && eqVs xs ys) = false
    rw [eqVs_len (xs := xs) (ys := ys) (fun z => h (congrArg Nat.succ z)), Bool.and_false]
theorem eqVs_all : ∀ {xs ys : List V}, xs.length = ys.length → eqVs xs ys = (List.range xs.length).all fun j => eqV (xs.getD j .non) (ys.getD j .non)
  | [], [], _ => rfl
  | x :: xs, y :: ys, h => by
    have ih := eqVs_all (xs := xs) (ys := ys) (Nat.succ.inj h)
    show (eqV x y && eqVs xs ys) = _
    rw [ih, List.length_cons, List.range_succ_eq_map, List.all_cons, List.all_map]
    rfl
theorem vals_getD : ∀ {xs : List V} {us : List Value} {j : Nat} (h : j < us.length), Vals xs us → RelV (xs.getD j .non) (us[j]'h)
  | _, _, 0, _, .cons r _ => r
  | _, _, j + 1, h, .cons _ t => vals_getD (j := j) (Nat.lt_of_succ_lt_succ h) t
def rEqF (K : PySem.W.Frag) : R2 := fun x y H Q => ∃ a b xs ys, x = .ref a ∧ y = .ref b ∧ SqL K H a xs ∧ SqL K H b ys ∧ xs.all flatV = true ∧ ys.all flatV = true ∧ Q (.bl (eqVs xs ys)) H
theorem op_eqF (hu : X.A.units < cLine) : OpR X (compareOp .Eq) (rEqF X.K) := by
  intro pins s σ H x y v u Q I rx ry h
  obtain ⟨a, b, xs, ys, rfl, rfl, ha, hb, fx, fy, q⟩ := h
  cases rx
  cases ry
  show wpAny (model X.prog X.w) X.A (richCompare .Eq (.ref a) (.ref b)) _ _ s
  obtain ⟨its, r, pl, _⟩ := I.list ha
  obtain ⟨its2, r2, pl2, _⟩ := I.list hb
  have n1 : its.toArray.size = xs.length := by rw [List.size_toArray]; exact r.length.symm
  have n2 : its2.toArray.size = ys.length := by rw [List.size_toArray]; exact r2.length.symm
  by_cases hl : xs.length = ys.length
  · refine SeqAt.RcAt.lists (e := fun j => eqV (xs.getD j .non) (ys.getD j .non)) pl.isList pl2.isList (by omega) hu (fun j h1 h2 => ?_) _ _ _ _ ⟨.bl _, H, I, rfl, ?_⟩
    · have j1 : j < its.length := by simpa using h1
      have j2 : j < its2.length := by simpa using h2
      have k1 : j < xs.length := by omega
      have k2 : j < ys.length := by omega
      have f1 : flatV (xs.getD j .non) = true := by
        rw [List.getD_eq_getElem?_getD, List.getElem?_eq_getElem k1]
        exact List.all_eq_true.mp fx _ (List.getElem_mem k1)
      have f2 : flatV (ys.getD j .non) = true := by
        rw [List.getD_eq_getElem?_getD, List.getElem?_eq_getElem k2]
        exact List.all_eq_true.mp fy _ (List.getElem_mem k2)
      exact eqAt_V (vals_getD j1 r) (vals_getD j2 r2) f1 f2
    · rw [n1, ← eqVs_all hl]
      exact q
  · refine SeqAt.RcAt.lists_lengths pl.isList pl2.isList (by rw [n1, n2]; simpa using hl) hu _ _ _ _ ⟨.bl false, H, I, rfl, ?_⟩
    rw [eqVs_len hl] at q
    exact q
end
end Lk
namespace Lk
open PySem PySem.Spec PyProof.Rows L2 Evl Lm TL
def oD : Option Int → PyData
  | some i => .int i
  | none => .none
def pairD (os : List (Option Int)) : PyData := .tuple (os.map oD)
theorem noL_pair (os : List (Option Int)) : noL (pairD os) = true := by
  show noLs (os.map oD) = true
  induction os with
  | nil => rfl
  | cons o os ih =>
    show (noL (oD o) && noLs (os.map oD)) = true
    rw [ih]
    cases o <;> rfl
theorem rpA_oD {K : PySem.W.Frag} {H : Hp} : ∀ {os : List (Option Int)}, RpA K H (os.map oI) (os.map oD)
  | [] => .nil
  | none :: os => .cons .non rpA_oD
  | some i :: os => .cons (.int i) rpA_oD
theorem rpA_oD' {K : PySem.W.Frag} {H : Hp} : ∀ {os : List (Option Int)} {vs : List V}, RpA K H vs (os.map oD) → vs = os.map oI
  | [], _, .nil => rfl
  | none :: os, _, .cons h t => by cases h; rw [rpA_oD' t]; rfl
  | some i :: os, _, .cons h t => by cases h; rw [rpA_oD' t]; rfl
theorem Rp.pairE {K : PySem.W.Frag} {H : Hp} {v : V} {os : List (Option Int)} (h : Rp K H v (pairD os)) : ∃ p, v = .ref p ∧ SqT K H p (os.map oI) := by
  obtain ⟨p, vs, rfl, hs, ha⟩ := Rp.tupE h
  rw [rpA_oD' ha] at hs
  exact ⟨p, rfl, hs⟩
theorem isMinus_in (z : Str) (c : Nat) : (!decide (c ∈ ("0123456789" : Str).cps.toList)) = !isDg c := by rw [isDg_mem]
section
variable {P : Program} {w : World} {K : PySem.W.Frag} {mg : Str → Option Value} {base : Heap}
/-! ### _law_is_whole -/
theorem sc43 : FnScope ["_law_value"] ["_law_value"] (defScope (top 43)) := ⟨rfl, rfl, rfl, by decide +kernel, rfl, by decide +kernel, by decide +kernel⟩
theorem ok__law_is_whole (T : Txt K mg) : FnR P w K mg base CX0 1 (He.ga K "_law_is_whole") (spIsInt K) := by
  refine mkD T.d__law_is_whole.df sc43 (fun vs H Q E h => ?_) (fun _ _ _ _ _ _ us hl => match us, hl with | [_], _ => rfl) (fun cdv A outer s H vs Q E hr h => ?_)
  · obtain ⟨v, d, rfl, _⟩ := h
    rfl
  · obtain ⟨v, d, rfl, hv, k⟩ := h
    refine ⟨_, pss_one (ps_ret (pe_and (b_isi T (pa_cons (pv 0) (pa_cons (pn_int T) pa_nil))) (pe_one (pe_not (b_isi T (pa_cons (pv 0) (pa_cons (pn_bool T) pa_nil))))))), ?_⟩
    refine ⟨v, rfl, v, _, _, _, _, rfl, .ty _, hv.ty, kit_int d, _, rfl, ite_b (fun hb => ⟨v, rfl, v, _, _, _, _, rfl, .ty _, hv.ty, kit_bool d, _, rfl, ?_⟩) (fun hb => ?_)⟩
    · have e : isI d = !isB d := by cases d <;> first | rfl | cases hb
      rw [e] at k
      exact k
    · have e : isI d = false := by cases d <;> first | rfl | cases hb
      rw [e] at k
      exact k
/-! ### _law_figure -/
theorem sc44 : FnScope ["_law_word", "_law_rest", "_law_sign"] ["_law_word"] (defScope (top 44)) := ⟨rfl, rfl, rfl, by decide +kernel, rfl, by decide +kernel, by decide +kernel⟩
theorem ok__law_figure (T : Txt K mg) : FnR P w K mg base CX0 1 (He.ga K "_law_figure") spFig := by
  refine mkD T.d__law_figure.df sc44 (fun vs H Q E h => ?_) (fun _ _ _ _ _ _ us hl => match us, hl with | [_], _ => rfl) (fun cdv A outer s H vs Q E hr h => ?_)
  · obtain ⟨z, rfl, _⟩ := h
    rfl
  · obtain ⟨z, rfl, hl, k⟩ := h
    have hz : z.length ≤ sizeLine := by rw [sizeLine_eq]; omega
    refine ⟨_, (pss_cut (ps_set (i := 1) sc44.nd rfl (.inl rfl) (pe_ifExp (pt_cmpR op_eq (pe_slice sl_str (pv 0) po_none (po_some pe_int)) pe_str (nomark _)) (pe_slice sl_str (pv 0) (po_some pe_int) po_none) (pv 0)))
      (pss_cons (ps_if (PW.pt (pw_or (pt_cmpR op_eq (pv 1) pe_str (nomark _)) (pw_or1 (pt_cmpR (op_neE hr.units0) (pe_lc (own := [("_law_sign", 2)]) rfl sc44.nd (pi_str (pv 1)) (blkOk_by (N := ["_law_word", "_law_rest", "_law_sign"]) (sc := defScope (top 44)) (by decide +kernel)) (fun _ _ _ _ _ => (pg_name (i := 2) sc44.nd rfl (.inl rfl))) (fun _ _ _ _ _ => (pts_one (pt_cmpR op_notInS (pv 2) pe_str (by rfl)))) (fun _ _ _ _ _ => (pv 2))) (pe_lst pa_nil) (nomark _)))))
        (pss_one (ps_ret pe_non))
        pss_nil)
      (pss_one (ps_ret (pe_ifExp (pt_cmpR op_eq (b_strI T (pa_cons (b_intS T (pa_cons (pv 0) pa_nil)) pa_nil)) (pv 0) (nomark _)) (b_intS T (pa_cons (pv 0) pa_nil)) pe_non))))), ?_⟩
    refine ⟨fun σ' H' => H' = H ∧ ∃ dg, σ' = [some (.str z), some (.str dg), none] ∧ tl dg = bodyW (tl z) ∧ dg.length ≤ 500, ?_, ?_⟩
    · refine ⟨.str z, rfl, 1, rfl, z, rfl, hz, rfl, _, rfl, ite_b (fun h => ⟨.str z, rfl, 1, rfl, z, rfl, hz, rfl, _, rfl, ?_, ?_⟩) (fun h => ⟨.str z, rfl, rfl, _, rfl, ?_, hl⟩)⟩
      · rw [isMinus, decide_eq_true_iff] at h
        rw [tl_cut1]
        unfold bodyW
        rw [if_pos h]
      · exact Nat.le_trans (cutS_length z _ _) hl
      · rw [isMinus, decide_eq_false_iff_not] at h
        unfold bodyW
        rw [if_neg h]
    · rintro σ' H' ⟨rfl, dg, rfl, hd, hdl⟩
      have hdz : dg.length ≤ sizeLine := by rw [sizeLine_eq]; omega
      refine ⟨.str dg, rfl, rfl, _, rfl, ite_b (fun h => itT ?_) (fun h1 => ?_)⟩
      · rw [eps_iff, decide_eq_true_iff, hd] at h
        have e : wInt z = none := by unfold wInt; rw [if_pos (.inl h)]
        rw [e] at k
        exact k _ (.refl _)
      · rw [eps_iff, decide_eq_false_iff_not, hd] at h1
        refine ⟨.str dg, rfl, dg, rfl, fun D hD => lcS (fun c => !isDg c) (fun c y _ => y = .str ⟨#[c]⟩) (fun _ _ _ _ _ h => h) (by omega) hD (fun i c H2 R1 R0 hc e2 hac r1 r0 => ?_) (fun H2 ys e2 hD2 hly hp => ?_)⟩
        · refine ⟨rfl, .str ⟨#[c]⟩, rfl, c, "0123456789", rfl, rfl, _, rfl, ?_⟩
          rw [isMinus_in z c]
          exact ite_b (fun h => ⟨.str ⟨#[c]⟩, rfl, r1 h _ _ (.refl _) rfl⟩) (fun h => r0 h _ (.refl _))
        · have hy := paired_map hp
          refine ⟨Nat.zero_le _, fun q hq => ⟨D, q, ys, rfl, rfl, .inl ⟨.of (by rw [upd_ne (fun z => by rw [z, hq] at hD2; cases hD2)]; exact hD2), .of upd_same⟩, _, rfl, ?_⟩⟩
          have e3 : Ex H' (upd H2 q (.lst [])) := e2.trans (Ex.new hq)
          have ea : (!ys.isEmpty) = !(bodyW (tl z)).all isDg := by
            rw [hy, ← hd]
            show (!(((tl dg).filter fun c => !isDg c).map fun c => V.str ⟨#[c]⟩).isEmpty) = _
            congr 1
            rw [Bool.eq_iff_iff, List.isEmpty_iff, List.map_eq_nil_iff, List.filter_eq_nil_iff, List.all_eq_true]
            constructor
            · intro h c hc
              have := h c hc
              simpa using this
            · intro h c hc
              rw [h c hc]
              decide
          show if (!ys.isEmpty) = true then _ else _
          rw [ea]
          refine ite_b (fun h => ?_) (fun h => ?_)
          · have e : wInt z = none := by unfold wInt; rw [if_pos (.inr (by simpa using h))]
            rw [e] at k
            exact k _ e3
          · have hall : (bodyW (tl z)).all isDg = true := by simpa using h
            have hi := intW h1 hall (by omega)
            refine ⟨.str z, rfl, z, valW (tl z), rfl, hi, by omega, _, rfl, valW_log hall (by rw [← len_tl]; exact hl), .str z, rfl, rfl, _, rfl, ite_b (fun h2 => ⟨.str z, rfl, z, valW (tl z), rfl, hi, by omega, ?_⟩) (fun h2 => ?_)⟩
            · have e : wInt z = some (valW (tl z)) := by
                unfold wInt
                rw [if_neg (by rw [hall]; simp [h1]), if_pos (by simpa using h2)]
              rw [e] at k
              exact k _ e3
            · have e : wInt z = none := by
                unfold wInt
                rw [if_neg (by rw [hall]; simp [h1]), if_neg (by simpa using h2)]
              rw [e] at k
              exact k _ e3
/-! ### _law_is_levels -/
def levO : Option Int → Bool
  | some p => isLev p
  | none => false
def spLevO (K : PySem.W.Frag) : Sp := fun vs H Q _ => ∃ o, vs = [oI o] ∧ ∀ H', Ex H H' → Q (.bl (levO o)) H'
theorem sc52 : FnScope ["_law_value"] ["_law_value"] (defScope (top 52)) := ⟨rfl, rfl, rfl, by decide +kernel, rfl, by decide +kernel, by decide +kernel⟩
theorem ok__law_is_levels (T : Txt K mg) : FnR P w K mg base CX0 2 (He.ga K "_law_is_levels") (spLevO K) := by
  refine mkD T.d__law_is_levels.df sc52 (fun vs H Q E h => ?_) (fun _ _ _ _ _ _ us hl => match us, hl with | [_], _ => rfl) (fun cdv A outer s H vs Q E hr h => ?_)
  · obtain ⟨o, rfl, _⟩ := h
    rfl
  · obtain ⟨o, rfl, k⟩ := h
    refine ⟨_, (pss_one (ps_ret (pe_and (pe_d T.d__law_is_whole (ok__law_is_whole T) hr (pa_cons (pv 0) pa_nil)) (pe_one (pe_cmpR op_in_seq (pv 0) (pe_lst (pa_cons pe_int (pa_cons pe_int (pa_cons pe_int (pa_cons pe_int pa_nil))))) (by rfl)))))), ?_⟩
    cases o with
    | none => exact ⟨.non, rfl, .non, .none, rfl, .non, _, rfl, k _ (.refl _)⟩
    | some p =>
      refine ⟨.int p, rfl, .int p, .int p, rfl, .int p, _, rfl, .int p, rfl, by show 4 ≤ sizeLine; decide, fun q hq => ⟨q, _, rfl, .inl (.of upd_same), rfl, rfl, ?_⟩⟩
      have e : inV (.int p) [.int 2, .int 3, .int 5, .int 7] = isLev p := by
        unfold inV isLev
        simp only [List.any_cons, List.any_nil, eqV, Bool.or_false]
        rw [Bool.eq_iff_iff]
        simp only [Bool.or_eq_true, beq_iff_eq, decide_eq_true_eq]
        omega
      show Q (.bl (inV (.int p) [.int 2, .int 3, .int 5, .int 7])) _
      rw [e]
      exact k _ (Ex.new hq)
/-! ### _law_wrong_lamps -/
def spWL (K : PySem.W.Frag) : Sp := fun vs H Q _ => ∃ (p : Int) (t : V) (xs : List (List (Option Int))), vs = [.int p, t] ∧ Rp K H t (.tuple (xs.map pairD)) ∧ xs.length ≤ 1000 ∧
  ∀ l ys H', Ex H H' → SqL K H' l ys → (ys.isEmpty = (okL p (xs.map pairI) && decide (xs.length ≤ 400))) → Q (.ref l) H'
theorem sc53 : FnScope ["_law_p", "_law_value", "_law_at", "_law_each"] ["_law_p", "_law_value"] (defScope (top 53)) := ⟨rfl, rfl, rfl, by decide +kernel, rfl, by decide +kernel, by decide +kernel⟩
theorem two_of {os : List (Option Int)} (h : os.length = 2) : ∃ x y, os = [x, y] := by
  match os, h with
  | [x, y], _ => exact ⟨x, y, rfl⟩
theorem ok__law_wrong_lamps (T : Txt K mg) : FnR P w K mg base CX0 2 (He.ga K "_law_wrong_lamps") (spWL K) := by
  refine mkD T.d__law_wrong_lamps.df sc53 (fun vs H Q E h => ?_) (fun _ _ _ _ _ _ us hl => match us, hl with | [_, _], _ => rfl) (fun cdv A outer s H vs Q E hr h => ?_)
  · obtain ⟨p, t, xs, rfl, _⟩ := h
    rfl
  · obtain ⟨p, t, xs, rfl, ht, hn, k⟩ := h
    refine ⟨_, (pss_cons (ps_if (pt_not (pt_val (b_isi T (pa_cons (pv 1) (pa_cons (pn_tuple T) pa_nil)))))
      (pss_one (ps_ret (pe_lst (pa_cons pe_non pa_nil))))
      pss_nil)
      (pss_cons (ps_for PassesOwn.never rfl (pi_range1 rfl T.f_range (pa_cons (b_len T (pa_cons (pv 1) pa_nil)) pa_nil)) (pg_name (i := 2) sc53.nd rfl (.inl rfl))
      (pss_cons (ps_set (i := 3) sc53.nd rfl (.inl rfl) (pe_ix ix_tup (pv 1) (pv 2) (fun _ _ => rfl)))
        (pss_cons (ps_if (PW.pt (pw_or (pt_cmpR op_eq (pv 2) pe_int (nomark _)) (pw_or (pt_not (pt_val (b_isi T (pa_cons (pv 3) (pa_cons (pn_tuple T) pa_nil))))) (pw_or1 (pt_cmpR op_ne (b_len T (pa_cons (pv 3) pa_nil)) pe_int (nomark _))))))
        (pss_one (ps_ret (pe_lst (pa_cons (pv 2) pa_nil))))
        pss_nil)
        (pss_cons (ps_if (PW.pt (pw_or (pt_not (pt_val (pe_d T.d__law_is_whole (ok__law_is_whole T) hr (pa_cons (pe_ix ix_tup (pv 3) pe_int (fun _ _ => rfl)) pa_nil)))) (pw_or (pt_not (pt_val (pe_d T.d__law_is_whole (ok__law_is_whole T) hr (pa_cons (pe_ix ix_tup (pv 3) pe_int (fun _ _ => rfl)) pa_nil)))) (pw_or1 (pt_not (pt_chain op_lt op_lt pe_int (pe_ix ix_tup (pv 3) pe_int (fun _ _ => rfl)) (pv 0)))))))
        (pss_one (ps_ret (pe_lst (pa_cons (pv 2) pa_nil))))
        pss_nil)
        (pss_one (ps_if (PW.pt (pw_and (pt_cmpR op_gt (pv 2) pe_int (nomark _)) (pw_and1 (pt_cmpR op_le (pe_ix ix_tup (pv 3) pe_int (fun _ _ => rfl)) (pe_ix ix_tup (pe_ix ix_tup (pv 1) (pe_op op_sub (pv 2) pe_int) (fun _ _ => rfl)) pe_int (fun _ _ => rfl)) (nomark _)))))
        (pss_one (ps_ret (pe_lst (pa_cons (pv 2) pa_nil))))
        pss_nil))))))
      (pss_one (ps_ret (pe_lst pa_nil))))), ?_⟩
    refine ⟨t, rfl, t, _, _, _, _, rfl, .ty _, ht.ty, kit_tuple _, _, rfl, itF ?_⟩
    obtain ⟨a, us, rfl, hs, ha⟩ := ht.tupE
    have hlen : us.length = xs.length := by rw [ha.len, List.length_map]
    refine ⟨.ref a, rfl, .ref a, us.length, rfl, .inr ⟨us, hs, rfl⟩, _, rfl, by omega, by omega, ?_⟩
    rw [Int.toNat_natCast]
    refine for_range (lo := 0) (n := us.length) (fun i σ' H' => (∃ u v, σ' = [some (.int p), some (.ref a), u, v]) ∧ Ex H H' ∧ i ≤ 400 ∧ ∀ j, j < i → goodAt p (xs.map pairI) j = true) ⟨⟨_, _, rfl⟩, .refl _, by decide, fun j hj => absurd hj (Nat.not_lt_zero _)⟩ ?_ ?_
    · rintro i σ' H' hi ⟨⟨u, v, rfl⟩, e1, hi4, hg⟩
      have ez : (0 : Int) + (i : Nat) = (i : Nat) := by omega
      rw [ez]
      have hget : us[i]? = some us[i] := List.getElem?_eq_getElem hi
      obtain ⟨os, hos, hv⟩ := (ha.x e1).getM hget
      obtain ⟨q, hq1, hq⟩ := hv.pairE
      have hix : i < xs.length := by omega
      have bad : ∀ H9, Ex H' H9 → (goodAt p (xs.map pairI) i = false ∨ 400 < xs.length) → [V.int (i : Nat)].length ≤ sizeLine ∧ ∀ l, H9 l = none → Q (.ref l) (upd H9 l (.lst [.int (i : Nat)])) := fun H9 e9 hb => by
        refine ⟨by show 1 ≤ sizeLine; decide, fun l hl => k l _ _ ((e1.trans e9).trans (Ex.new hl)) (.of upd_same) ?_⟩
        show false = _
        rcases hb with hb | hb
        · rw [okL_false (i := i) (by rw [List.length_map]; exact hix) hb]; rfl
        · rw [show decide (xs.length ≤ 400) = false by rw [decide_eq_false_iff_not]; omega, Bool.and_false]
      refine ⟨.ref a, rfl, .int (i : Nat), rfl, a, us, _, us[i], rfl, rfl, ex_t e1 hs, atI_nat hget, ?_⟩
      rw [hq1]
      refine ⟨.int (i : Nat), rfl, rfl, _, rfl, ite_b (fun h => itT ⟨.int (i : Nat), rfl, bad _ (.refl _) (.inr ?_)⟩) (fun h => ?_)⟩
      · have : i = 400 := by
          have := of_decide_eq_true h
          injection this with this
          omega
        omega
      have h400 : i ≠ 400 := fun z => by rw [z] at h; exact absurd h (by decide)
      refine ⟨.ref q, rfl, .ref q, _, _, _, _, rfl, .ty _, ty_tup hq, kit_tt, _, rfl, itF ?_⟩
      have egN : pairI os = none → goodAt p (xs.map pairI) i = false := fun h => by
        unfold goodAt
        rw [List.getElem?_map, hos]
        show (match some (pairI os) with
          | some (some (a, l)) => _
          | _ => false) = false
        rw [h]
      refine ⟨.ref q, rfl, .ref q, _, rfl, .inr ⟨_, hq, rfl⟩, rfl, _, rfl, ite_b (fun h2 => ⟨.int (i : Nat), rfl, bad _ (.refl _) (.inl (egN (pairI_none (.inl fun z => ?_))))⟩) (fun h2 => ?_)⟩
      · rw [List.length_map, z] at h2
        exact absurd h2 (by decide)
      have h2' : os.length = 2 := by
        simp only [List.length_map, Bool.not_eq_false', decide_eq_true_eq] at h2
        injection h2 with h2
        omega
      obtain ⟨o1, o2, rfl⟩ := two_of h2'
      cases o1 with
      | none => exact ⟨.ref q, rfl, q, _, 0, .non, rfl, rfl, hq, rfl, .non, .none, rfl, .non, _, rfl, itT (itT ⟨.int (i : Nat), rfl, bad _ (.refl _) (.inl (egN rfl))⟩)⟩
      | some la =>
      refine ⟨.ref q, rfl, q, _, 0, .int la, rfl, rfl, hq, rfl, .int la, .int la, rfl, .int la, _, rfl, itF ?_⟩
      cases o2 with
      | none => exact ⟨.ref q, rfl, q, _, 1, .non, rfl, rfl, hq, rfl, .non, .none, rfl, .non, _, rfl, itT (itT ⟨.int (i : Nat), rfl, bad _ (.refl _) (.inl (egN rfl))⟩)⟩
      | some lb =>
      refine ⟨.ref q, rfl, q, _, 1, .int lb, rfl, rfl, hq, rfl, .int lb, .int lb, rfl, .int lb, _, rfl, itF ?_⟩
      have eg : goodAt p (xs.map pairI) i = (decide (0 < lb) && decide (lb < p) && (decide (i = 0) || match (xs.map pairI)[i - 1]? with
        | some (some (q, _)) => decide (q < la)
        | _ => false)) := by
        unfold goodAt
        rw [List.getElem?_map, hos]
        rfl
      refine ⟨.ref q, rfl, q, _, 1, .int lb, rfl, rfl, hq, rfl, 0, lb, rfl, rfl, _, rfl, ite_b (fun h3 => ⟨.int p, rfl, lb, p, rfl, rfl, _, rfl, ite_b (fun h4 => ⟨.int (i : Nat), rfl, bad _ (.refl _) (.inl ?_)⟩) (fun h4 => ?_)⟩) (fun h3 => ⟨_, rfl, itT ⟨.int (i : Nat), rfl, bad _ (.refl _) (.inl ?_)⟩⟩)⟩
      · rw [eg]
        simp at h4
        simp [show ¬ lb < p by omega]
      · have h4' : lb < p := by simpa using h4
        have h3' : 0 < lb := by simpa using h3
        have fine : goodAt p (xs.map pairI) i = true → (∃ u' v', ([some (.int p), some (.ref a), some (.int (i : Nat)), some (.ref q)] : L2.St) = [some (.int p), some (.ref a), u', v']) ∧ Ex H H' ∧ i + 1 ≤ 400 ∧ ∀ j, j < i + 1 → goodAt p (xs.map pairI) j = true :=
          fun h => ⟨⟨_, _, rfl⟩, e1, by omega, fun j hj => by
            rcases Nat.lt_succ_iff_lt_or_eq.mp hj with hj | hj
            · exact hg j hj
            · rw [hj]; exact h⟩
        refine ⟨.int (i : Nat), rfl, _, _, rfl, rfl, _, rfl, ite_b (fun h5 => ?_) (fun h5 => itF (fine ?_))⟩
        · have h5' : (0 : Int) < (i : Nat) := of_decide_eq_true h5
          have hi0 : 0 < i := by omega
          have hgp := hg (i - 1) (by omega)
          unfold goodAt at hgp
          have hi1 : us[i - 1]? = some us[i - 1] := List.getElem?_eq_getElem (by omega)
          obtain ⟨os1, hos1, hv1⟩ := (ha.x e1).getM hi1
          obtain ⟨q1, hq11, hq1s⟩ := hv1.pairE
          rw [List.getElem?_map, hos1] at hgp
          have hsm : ∃ qa qb, os1 = [some qa, some qb] := by
            have hh : pairI os1 ≠ none := fun z => by
              have : (match some (pairI os1) with
                | some (some (a, l)) => _
                | _ => false) = true := hgp
              rw [z] at this
              exact absurd this Bool.false_ne_true
            unfold pairI at hh
            split at hh
            · exact ⟨_, _, rfl⟩
            · exact absurd rfl hh
          obtain ⟨qa, qb, rfl⟩ := hsm
          have hat : atI us ((i : Int) - 1) = some (.ref q1) := by
            have e9 : (i : Int) - 1 = ((i - 1 : Nat) : Int) := by omega
            rw [e9, ← hq11]
            exact atI_nat hi1
          refine ⟨.ref q, rfl, q, _, 0, .int la, rfl, rfl, hq, rfl, .ref a, rfl, .int (i : Nat), rfl, _, _, rfl, rfl, a, us, _, .ref q1, rfl, rfl, ex_t e1 hs, hat, q1, _, 0, .int qa, rfl, rfl, hq1s, rfl, la, qa, rfl, rfl, _, rfl, ite_b (fun h6 => ⟨.int (i : Nat), rfl, bad _ (.refl _) (.inl ?_)⟩) (fun h6 => fine ?_)⟩
          · rw [eg, List.getElem?_map, hos1]
            show (decide (0 < lb) && decide (lb < p) && (decide (i = 0) || decide (qa < la))) = false
            have := of_decide_eq_true h6
            simp [show ¬ qa < la by omega, Nat.pos_iff_ne_zero.mp hi0]
          · rw [eg, List.getElem?_map, hos1]
            show (decide (0 < lb) && decide (lb < p) && (decide (i = 0) || decide (qa < la))) = true
            have := of_decide_eq_false h6
            simp [show qa < la by omega, h3', h4']
        · rw [eg]
          have : i = 0 := by have := of_decide_eq_false h5; omega
          simp [h3', h4', this]
      · rw [eg, h3]
        rfl
    · rintro σ' H' ⟨⟨u, v, rfl⟩, e1, hi4, hg⟩
      refine ⟨Nat.zero_le _, fun l hl => k l _ _ (e1.trans (Ex.new hl)) (.of upd_same) ?_⟩
      show true = _
      rw [show decide (xs.length ≤ 400) = true from decide_eq_true (by omega), Bool.and_true]
      unfold okL
      symm
      rw [List.all_eq_true]
      intro j hj
      have := List.mem_range.mp hj
      rw [List.length_map] at this
      exact hg j (by omega)
end
end Lk
namespace Lk
open PySem PySem.Spec PyProof.Rows L2 Evl Lm TL
def rdD (r : RD) : PyData := .list [.int r.p, lampsD r.ls, .int r.e]
def rdO : Option RD → PyData
  | some r => rdD r
  | none => .list []
theorem sqL_hide {K : PySem.W.Frag} {H : Hp} {D a : Addr} {xs : List V} (hD : a ≠ D) (h : SqL K H a xs) : SqL K (hide D H) a xs := by
  rcases h with (h | ⟨o, h⟩) | h
  · exact .inl (.inl (by rw [hide_ne hD]; exact h))
  · exact .inl (.inr ⟨o, by rw [hide_ne hD]; exact h⟩)
  · exact .inr h
theorem Rp.rdHide {K : PySem.W.Frag} {H : Hp} {D a : Addr} {acc : List V} {o : Option RD} (hD : H D = some (.lst acc)) (hn : a ≠ D) (h : Rp K H (.ref a) (rdO o)) : Rp K (hide D H) (.ref a) (rdO o) := by
  cases o with
  | none =>
    cases h with
    | lst hs ha => exact .lst (sqL_hide hn hs) (by cases ha; exact .nil)
  | some r =>
    cases h with
    | lst hs ha =>
      refine .lst (sqL_hide hn hs) (RpA.hideT hD _ _ ha ?_)
      show (true && (noL (lampsD r.ls) && (true && true))) = true
      rw [noL_lamps]
      rfl
theorem readW5 {w0 w1 w2 w3 w4 : Str} {rest : List Str} {p e : Int} (h0 : w0 = "levels") (h2 : w2 = "end") (hw1 : wInt w1 = some p) (hw3 : wInt w3 = some e) (hp : isLev p = true) :
    readW (w0 :: w1 :: w2 :: w3 :: w4 :: rest) = if w4 = "dark" ∧ rest = [] then some ⟨p, [], e⟩
        else if w4 = "lamps" ∧ rest ≠ [] ∧ rest.length ≤ 400 ∧ okL p (rest.map lampR) = true then some ⟨p, (rest.map lampR).filterMap id, e⟩ else none := by
  unfold readW
  dsimp only
  rw [if_pos (And.intro h0 h2), hw1, hw3]
  dsimp only
  rw [if_pos hp]
theorem readW_no {w0 w1 w2 w3 w4 : Str} {rest : List Str} (h : w0 ≠ "levels" ∨ w2 ≠ "end") : readW (w0 :: w1 :: w2 :: w3 :: w4 :: rest) = none := by
  unfold readW
  dsimp only
  rw [if_neg]
  rintro ⟨h1, h2⟩
  rcases h with h | h
  · exact h h1
  · exact h h2
theorem readW_lev {w0 w1 w2 w3 w4 : Str} {rest : List Str} (h : levO (wInt w1) = false ∨ wInt w3 = none) : readW (w0 :: w1 :: w2 :: w3 :: w4 :: rest) = none := by
  unfold readW
  dsimp only
  split
  · cases hw1 : wInt w1 with
    | none => rfl
    | some p =>
      cases hw3 : wInt w3 with
      | none => rfl
      | some e =>
        dsimp only
        rw [hw1, hw3] at h
        rcases h with h | h
        · rw [if_neg (by rw [show isLev p = false from h]; exact Bool.false_ne_true)]
        · cases h
  · rfl
theorem pairD_some {os : List (Option Int)} {a : Int × Int} (h : pairI os = some a) : pairD os = lampD (some a) := by
  unfold pairI at h
  split at h
  · cases h
    rfl
  · cases h
theorem pairs_lamps {xs : List (List (Option Int))} {ls : List (Int × Int)} (h : xs.map pairI = ls.map some) : xs.map pairD = ls.map fun a => lampD (some a) := by
  induction xs generalizing ls with
  | nil =>
    cases ls with
    | nil => rfl
    | cons _ _ => cases h
  | cons x xs ih =>
    cases ls with
    | nil => cases h
    | cons a ls =>
      injection h with h1 h2
      rw [List.map_cons, List.map_cons, ih h2, pairD_some h1]
theorem eqVs_dark (w4 : Str) (rest : List Str) : eqVs (.str w4 :: rest.map V.str) [.str "dark"] = (decide (w4 = "dark") && rest.isEmpty) := by
  show (eqV (.str w4) (.str "dark") && eqVs (rest.map V.str) []) = _
  have e1 : eqV (.str w4) (.str "dark") = decide (w4 = "dark") := by
    show (w4 == ("dark" : Str)) = _
    rw [Bool.eq_iff_iff, beq_iff_eq, decide_eq_true_iff]
  have e2 : eqVs (rest.map V.str) [] = rest.isEmpty := by cases rest <;> rfl
  rw [e1, e2]
theorem flat_strs (l : List Str) : (l.map V.str).all flatV = true := by
  rw [List.all_map, List.all_eq_true]
  intro _ _
  rfl
theorem cutV_4 (a b c d e : V) (r : List V) : cutV (a :: b :: c :: d :: e :: r) (some 4) none = e :: r := by
  rw [show (some (4 : Int)) = some ((4 : Nat) : Int) from rfl, cutV_from]
  rfl
theorem isNl (z : Str) : V.str "\n" = V.str ⟨#[10]⟩ := by rw [nl_sep]; rfl
section
variable {P : Program} {w : World} {K : PySem.W.Frag} {mg : Str → Option Value} {base : Heap}
/-! ### _law_read -/
def spLR (K : PySem.W.Frag) : Sp := fun vs H Q _ => ∃ z, vs = [.str z] ∧ z.length ≤ 500 ∧ 10 ∉ tl z ∧ ∀ l H', Ex H H' → H l = none → Rp K H' (.ref l) (rdO (readR z)) → Q (.ref l) H'
theorem sc54 : FnScope ["_law_said", "_law_rest", "_law_p", "_law_last", "_law_found", "_law_each", "_law_pair", "_law_part"] ["_law_said"] (defScope (top 54)) := ⟨rfl, rfl, rfl, by decide +kernel, rfl, by decide +kernel, by decide +kernel⟩
theorem ok__law_read (T : Txt K mg) : FnR P w K mg base CX0 3 (He.ga K "_law_read") (spLR K) := by
  refine mkD T.d__law_read.df sc54 (fun vs H Q E h => ?_) (fun _ _ _ _ _ _ us hl => match us, hl with | [_], _ => rfl) (fun cdv A outer s H vs Q E hr h => ?_)
  · obtain ⟨z, rfl, _⟩ := h
    rfl
  · obtain ⟨z, rfl, hz, hnl, k⟩ := h
    refine ⟨_, (pss_cons (ps_set (i := 1) sc54.nd rfl (.inl rfl) (pe_split (pv 0) pe_str))
      (pss_cons (ps_if (PW.pt (pw_or (pt_cmpR op_lt (b_len T (pa_cons (pv 1) pa_nil)) pe_int (nomark _)) (pw_or (pt_cmpR op_ne (pe_ix ix_list (pv 1) pe_int (fun _ _ => rfl)) pe_str (nomark _)) (pw_or (pt_cmpR op_ne (pe_ix ix_list (pv 1) pe_int (fun _ _ => rfl)) pe_str (nomark _)) (pw_or1 (pt_cmpR op_inS pe_str (pv 0) (by rfl)))))))
      (pss_one (ps_ret (pe_lst pa_nil)))
      pss_nil)
      (pss_cons (ps_par (i := 2) (j := 3) rfl sc54.nd rfl rfl (by decide) rfl rfl (pa_cons (pe_d T.d__law_figure (ok__law_figure T) hr (pa_cons (pe_ix ix_list (pv 1) pe_int (fun _ _ => rfl)) pa_nil)) (pa_cons (pe_d T.d__law_figure (ok__law_figure T) hr (pa_cons (pe_ix ix_list (pv 1) pe_int (fun _ _ => rfl)) pa_nil)) pa_nil)) (by rfl))
      (pss_cons (ps_if (PW.pt (pw_or (pt_not (pt_val (pe_d T.d__law_is_levels (ok__law_is_levels T) hr (pa_cons (pv 2) pa_nil)))) (pw_or1 (pt_cmpR op_isN (pv 3) pe_non (nomark _)))))
      (pss_one (ps_ret (pe_lst pa_nil)))
      pss_nil)
      (pss_cons (ps_if (pt_cmpR (op_eqF hr.units0) (pe_slice sl_list (pv 1) (po_some pe_int) po_none) (pe_lst (pa_cons pe_str pa_nil)) (nomark _))
      (pss_one (ps_ret (pe_lst (pa_cons (pv 2) (pa_cons (pe_tup pa_nil) (pa_cons (pv 3) pa_nil))))))
      pss_nil)
      (pss_cons (ps_set (i := 4) sc54.nd rfl (.inl rfl) (pe_lst pa_nil))
      (pss_cons (ps_for PassesOwn.never rfl (pi_list (pe_slice sl_list (pv 1) (po_some pe_int) po_none)) (pg_name (i := 5) sc54.nd rfl (.inl rfl))
      (pss_cons (ps_set (i := 6) sc54.nd rfl (.inl rfl) (pe_split (pv 5) pe_str))
        (pss_one (ps_expr (pe_bm PySem.F.plainAttrs_list PySem.F.slot_list_append PySem.F.type_list_append mt_append (pv 4) (pa_cons (b_tupL T (pa_cons (pe_lc (own := [("_law_part", 7)]) rfl sc54.nd (pi_list (pv 6)) (blkOk_by (N := ["_law_said", "_law_rest", "_law_p", "_law_last", "_law_found", "_law_each", "_law_pair", "_law_part"]) (sc := defScope (top 54)) (by decide +kernel)) (fun _ _ _ _ _ => (pg_name (i := 7) sc54.nd rfl (.inl rfl))) (fun _ _ _ _ _ => pts_nil) (fun _ _ _ _ _ => (pe_d T.d__law_figure (ok__law_figure T) hr (pa_cons (pv 7) pa_nil)))) pa_nil)) pa_nil))))))
      (pss_cons (ps_if (PW.pt (pw_or (pt_cmpR op_ne (pe_ix ix_list (pv 1) pe_int (fun _ _ => rfl)) pe_str (nomark _)) (pw_or (pt_cmpR (op_eqE hr.units0) (pv 4) (pe_lst pa_nil) (nomark _)) (pw_or1 (pt_cmpR (op_neE hr.units0) (pe_d T.d__law_wrong_lamps (ok__law_wrong_lamps T) hr (pa_cons (pv 2) (pa_cons (b_tupL T (pa_cons (pv 4) pa_nil)) pa_nil))) (pe_lst pa_nil) (nomark _))))))
      (pss_one (ps_ret (pe_lst pa_nil)))
      pss_nil)
      (pss_one (ps_ret (pe_lst (pa_cons (pv 2) (pa_cons (b_tupL T (pa_cons (pv 4) pa_nil)) (pa_cons (pv 3) pa_nil)))))))))))))), ?_⟩
    have hcnt := split_cnt (c := 32) (by decide) z
    rw [← sp_sep] at hcnt
    have hlen : ∀ p ∈ Txt.split z " ", p.length ≤ 500 := fun p hp => by
      rw [sp_sep] at hp
      exact Nat.le_trans (split_len (by decide) hp) hz
    refine ⟨.str z, rfl, ⟨z, rfl⟩, z, " ", rfl, rfl, by decide +kernel, by rw [sizeLine_eq]; omega, fun W hW => ?_⟩
    have eR : readR z = readW (Txt.split z " ") := rfl
    have e1 : Ex H (upd H W (.lst ((Txt.split z " ").map V.str))) := Ex.new hW
    generalize hH1 : upd H W (.lst ((Txt.split z " ").map V.str)) = H1 at e1
    have hws : H1 W = some (.lst ((Txt.split z " ").map V.str)) := by rw [← hH1, upd_same]
    clear hH1
    generalize Txt.split z " " = ws at hcnt hlen eR hws
    have none_ : readR z = none → ∀ H', Ex H H' → ([] : List V).length ≤ sizeLine ∧ ∀ l, H' l = none → Q (.ref l) (upd H' l (.lst [])) := fun h H' e => ⟨Nat.zero_le _, fun l hl => k l _ (e.trans (Ex.new hl)) (fresh_back e hl) (by rw [h]; exact .lst (.of upd_same) .nil)⟩
    refine ⟨.ref W, rfl, .ref W, _, rfl, .inl ⟨_, .of hws, rfl⟩, _, _, rfl, rfl, _, rfl, ite_b (fun h => itT (none_ ?_ _ e1)) (fun h => ?_)⟩
    · rw [eR]
      refine readW_short ?_
      have := of_decide_eq_true h
      rw [List.length_map] at this
      omega
    have h5 : 5 ≤ ws.length := by
      have := of_decide_eq_false h
      rw [List.length_map] at this
      omega
    match ws, h5 with
    | w0 :: w1 :: w2 :: w3 :: w4 :: rest, _ =>
    have l1 := hlen w1 (by simp)
    have l3 := hlen w3 (by simp)
    have lr : ∀ p ∈ rest, p.length ≤ 500 := fun p hp => hlen p (by simp [hp])
    have hcr : rest.length ≤ 500 := by
      simp only [List.length_cons] at hcnt
      omega
    refine ⟨.ref W, rfl, W, _, 0, .str w0, rfl, rfl, .of hws, atI_nat (j := 0) rfl, rfl, _, rfl, ite_b (fun h0 => itT (none_ ?_ _ e1)) (fun h0 => ?_)⟩
    · rw [eR]
      exact readW_no (.inl (dec_ne h0))
    replace h0 := dec_eq h0
    refine ⟨.ref W, rfl, W, _, 2, .str w2, rfl, rfl, .of hws, atI_nat (j := 2) rfl, rfl, _, rfl, ite_b (fun h2 => itT (none_ ?_ _ e1)) (fun h2 => ?_)⟩
    · rw [eR]
      exact readW_no (.inr (dec_ne h2))
    replace h2 := dec_eq h2
    refine ⟨.str z, rfl, 10, z, isNl z, rfl, _, rfl, ?_⟩
    rw [show decide (10 ∈ z.cps.toList) = false from decide_eq_false hnl]
    refine itF ?_
    refine ⟨.ref W, rfl, W, _, 1, .str w1, rfl, rfl, .of hws, atI_nat (j := 1) rfl, w1, rfl, l1, fun H3 e3 => ?_⟩
    have hws3 := e3 _ _ hws
    refine ⟨.ref W, rfl, W, _, 3, .str w3, rfl, rfl, .of hws3, atI_nat (j := 3) rfl, w3, rfl, l3, fun H4 e4 => ?_⟩
    have hws4 := e4 _ _ hws3
    have e14 := (e1.trans e3).trans e4
    refine ⟨_, _, rfl, ?_⟩
    refine ⟨oI (wInt w1), rfl, wInt w1, rfl, fun H5 e5 => ⟨_, rfl, ?_⟩⟩
    have hws5 := e5 _ _ hws4
    have e15 := e14.trans e5
    refine ite_b (fun hp => itT (none_ ?_ _ e15)) (fun hp => ?_)
    · rw [eR]
      exact readW_lev (.inl (by simpa using hp))
    cases hw1 : wInt w1 with
    | none => rw [hw1] at hp; exact absurd hp (by decide)
    | some p =>
    rw [hw1] at hp
    have hp' : isLev p = true := by simpa [levO] using hp
    refine ⟨oI (wInt w3), rfl, rfl, _, rfl, ite_b (fun he => none_ ?_ _ e15) (fun he => ?_)⟩
    · rw [eR]
      refine readW_lev (.inr ?_)
      cases hw3 : wInt w3 with
      | none => rfl
      | some e => rw [hw3] at he; exact absurd (of_decide_eq_true he) (fun z => nomatch z)
    cases hw3 : wInt w3 with
    | none => rw [hw3] at he; exact absurd he (by decide)
    | some e =>
    rw [readW5 h0 h2 hw1 hw3 hp'] at eR
    have nd : ("lamps" : Str) ≠ "dark" := by decide +kernel
    refine ⟨.ref W, rfl, 4, rfl, W, _, rfl, .of hws5, fun S hS => ?_⟩
    have eS : upd H5 S (.lst (cutV ((w0 :: w1 :: w2 :: w3 :: w4 :: rest).map V.str) (some 4) none)) S = some (.lst (.str w4 :: rest.map V.str)) := by
      rw [upd_same]
      exact congrArg (fun z => some (HO.lst z)) (cutV_4 _ _ _ _ _ _)
    have eS2 : Ex H5 (upd H5 S (.lst (cutV ((w0 :: w1 :: w2 :: w3 :: w4 :: rest).map V.str) (some 4) none))) := Ex.new hS
    generalize upd H5 S (.lst (cutV ((w0 :: w1 :: w2 :: w3 :: w4 :: rest).map V.str) (some 4) none)) = H6 at eS eS2
    refine ⟨by show 1 ≤ sizeLine; decide, fun q hq => ?_⟩
    have e6 : Ex H6 (upd H6 q (.lst [.str "dark"])) := Ex.new hq
    have eq6 : upd H6 q (.lst [.str "dark"]) q = some (.lst [.str "dark"]) := upd_same
    generalize upd H6 q (.lst [.str "dark"]) = H7 at e6 eq6
    have e17 := (e15.trans eS2).trans e6
    have hws7 := e6 _ _ (eS2 _ _ hws5)
    refine ⟨S, q, _, _, rfl, rfl, .of (e6 _ _ eS), .of eq6, flat_strs (w4 :: rest), rfl, _, rfl, ?_⟩
    rw [eqVs_dark]
    refine ite_b (fun hd => ?_) (fun hd => ?_)
    · rw [Bool.and_eq_true, decide_eq_true_iff, List.isEmpty_iff] at hd
      rw [if_pos hd] at eR
      refine ⟨.int p, rfl, Nat.zero_le _, fun t ht => ⟨.int e, rfl, by show 3 ≤ sizeLine; decide, fun l hl => k l _ ((e17.trans (Ex.new ht)).trans (Ex.new hl)) (fresh_back (e17.trans (Ex.new ht)) hl) ?_⟩⟩
      rw [eR]
      have htl : t ≠ l := fun z => by rw [z, upd_same] at hl; cases hl
      exact .lst (.of upd_same) (.cons (.int p) (.cons (.tup (.of (by rw [upd_ne htl, upd_same])) .nil) (.cons (.int e) .nil)))
    have hd' : ¬ (w4 = "dark" ∧ rest = []) := fun z => by
      rw [show decide (w4 = "dark") = true from decide_eq_true z.1, z.2] at hd
      exact absurd hd (by decide)
    rw [if_neg hd'] at eR
    refine ⟨Nat.zero_le _, fun F hF => ?_⟩
    have eF : upd H7 F (.lst []) F = some (.lst []) := upd_same
    have e8 : Ex H7 (upd H7 F (.lst [])) := Ex.new hF
    generalize upd H7 F (.lst []) = H8 at eF e8
    have hws8 := e8 _ _ hws7
    refine ⟨.ref W, rfl, 5, rfl, W, _, rfl, .of hws8, fun S2 hS2 => ⟨S2, rfl, ⟨_, .of upd_same⟩, ?_⟩⟩
    have eS3 : upd H8 S2 (.lst (cutV ((w0 :: w1 :: w2 :: w3 :: w4 :: rest).map V.str) (some 5) none)) S2 = some (.lst (rest.map V.str)) := by
      rw [upd_same]
      exact congrArg (fun z => some (HO.lst z)) (cutV_5 _ _ _ _ _ _)
    have eS4 : Ex H8 (upd H8 S2 (.lst (cutV ((w0 :: w1 :: w2 :: w3 :: w4 :: rest).map V.str) (some 5) none))) := Ex.new hS2
    generalize upd H8 S2 (.lst (cutV ((w0 :: w1 :: w2 :: w3 :: w4 :: rest).map V.str) (some 5) none)) = H9 at eS3 eS4
    have eF9 := eS4 _ _ eF
    have hSF : S2 ≠ F := fun z => by rw [z, eF] at hS2; cases hS2
    refine for_list (xs := rest.map V.str) (fun i σ' H' => (∃ u v, σ' = [some (.str z), some (.ref W), some (.int p), some (.int e), some (.ref F), u, v, none]) ∧ Ex H7 H' ∧ H' S2 = some (.lst (rest.map V.str)) ∧
      ∃ ys, H' F = some (.lst ys) ∧ Paired (fun w y => Rp K (hide F H') y (pairD ((Txt.split w ":").map wInt))) (rest.take i) ys) ⟨⟨_, _, rfl⟩, e8.trans eS4, eS3, [], eF9, by rw [List.take_zero]; exact .nil⟩ (fun i σ' H' _ hw => .of hw.2.2.1) ?_ ?_
    · rintro i x σ' H' hx ⟨⟨u, v, rfl⟩, f1, f2, ys, f3, f4⟩
      obtain ⟨b, hb⟩ : ∃ b, rest[i]? = some b := by
        rw [List.getElem?_map] at hx
        cases hq : rest[i]? with
        | none => rw [hq] at hx; cases hx
        | some b => exact ⟨b, rfl⟩
      cases getM_str hb hx
      have hbl := lr b (List.mem_of_getElem? hb)
      have hlenb : ∀ p ∈ Txt.split b ":", p.length ≤ 500 := fun p hp => by
        rw [co_sep] at hp
        exact Nat.le_trans (split_len (by decide) hp) hbl
      have hcb := split_cnt (c := 58) (by decide) b
      rw [← co_sep] at hcb
      refine ⟨.str b, rfl, ⟨b, rfl⟩, b, ":", rfl, rfl, by decide +kernel, by rw [sizeLine_eq]; omega, fun q2 hq2 => ?_⟩
      have g1 : Ex H' (upd H' q2 (.lst ((Txt.split b ":").map V.str))) := Ex.new hq2
      have g2 : upd H' q2 (.lst ((Txt.split b ":").map V.str)) q2 = some (.lst ((Txt.split b ":").map V.str)) := upd_same
      have f4' : Paired (fun w y => Rp K (hide F H') y (pairD ((Txt.split w ":").map wInt))) (rest.take (i + 1)) (ys ++ [V.non]) → True := fun _ => trivial
      clear f4'
      generalize hos : Txt.split b ":" = bs at g1 g2 hlenb hcb
      generalize upd H' q2 (.lst (bs.map V.str)) = H10 at g1 g2
      refine ⟨.ref F, rfl, .inl ⟨rfl, _, .of (g1 _ _ f3)⟩, .ref q2, rfl, q2, rfl, ⟨_, .of g2⟩, fun D hD => lcL (xs := bs.map V.str) bs (fun _ => true) (fun w y _ => y = oI (wInt w)) (fun _ _ _ _ _ h => h) (.of g2) (by rw [List.length_map]) (by rw [List.length_map]; omega) hD (fun j b2 x2 H11 R1 R0 hb2 hx2 g3 hac r1 r0 => ?_) (fun H11 zs g3 hD11 hlz hpr => ?_)⟩
      · cases getM_str hb2 hx2
        exact ⟨rfl, .str b2, rfl, b2, rfl, hlenb b2 (List.mem_of_getElem? hb2), fun H12 g => r1 rfl _ _ g rfl⟩
      · rw [filter_T] at hpr
        have hy := paired_map hpr
        have hy2 : zs = (bs.map wInt).map oI := by rw [hy, List.map_map]; rfl
        subst hy2
        have g13 := g1.trans g3
        refine ⟨D, _, rfl, .of hD11, fun t ht => ?_⟩
        have g4 : Ex H11 (upd H11 t (.tup ((bs.map wInt).map oI))) := Ex.new ht
        have g5 : upd H11 t (.tup ((bs.map wInt).map oI)) t = some (.tup ((bs.map wInt).map oI)) := upd_same
        generalize upd H11 t (.tup ((bs.map wInt).map oI)) = H12 at g4 g5
        have g14 := g13.trans g4
        have hF12 := g14 _ _ f3
        have hli : ys.length ≤ 500 := by
          have := Paired.length f4
          rw [List.length_take] at this
          omega
        have htF : t ≠ F := fun z => by rw [z, hF12] at g5; cases g5
        have hS12 := g14 _ _ f2
        refine ⟨F, ys, _, rfl, rfl, hF12, by rw [sizeLine_eq]; omega, ⟨_, _, rfl⟩, ?_, ?_, ys ++ [.ref t], upd_same, ?_⟩
        · exact Ex.mut (f1.trans g14) hF
        · rw [upd_ne hSF]; exact hS12
        · rw [hide_upd, take_snoc hb]
          refine paired_snoc (Paired.mapP f4 fun a y h => h.x (ex_hide g14)) ?_
          rw [hos]
          exact .tup (.of (by rw [hide_ne htF]; exact g5)) rpA_oD
    · rintro σ' H' ⟨⟨u, v, rfl⟩, f1, f2, ys, f3, f4⟩
      rw [List.length_map, List.take_of_length_le (Nat.le_refl _)] at f4
      have hra : RpA K H' ys ((rest.map fun w => (Txt.split w ":").map wInt).map pairD) := by
        rw [List.map_map]
        exact paired_rpa hide_ex f4
      have hyl := Paired.length f4
      clear f4
      have exs : (rest.map fun w => (Txt.split w ":").map wInt).map pairI = rest.map lampR := by rw [List.map_map]; rfl
      have hxl : (rest.map fun w => (Txt.split w ":").map wInt).length = rest.length := by rw [List.length_map]
      generalize (rest.map fun w => (Txt.split w ":").map wInt) = xs at hra exs hxl
      have e18 := e17.trans f1
      have hws9 := f1 _ _ hws7
      refine ⟨.ref W, rfl, W, _, 4, .str w4, rfl, rfl, .of hws9, atI_nat (j := 4) rfl, rfl, _, rfl, ite_b (fun h4 => itT (none_ ?_ _ e18)) (fun h4 => ?_)⟩
      · rw [eR, if_neg fun z => dec_ne h4 z.1]
      replace h4 := dec_eq h4
      refine ⟨.ref F, rfl, Nat.zero_le _, fun q3 hq3 => ?_⟩
      have k1 : Ex H' (upd H' q3 (.lst [])) := Ex.new hq3
      have k2 : upd H' q3 (.lst []) q3 = some (.lst []) := upd_same
      generalize upd H' q3 (.lst []) = H10 at k1 k2
      refine ⟨F, q3, ys, rfl, rfl, .inl ⟨.of (k1 _ _ f3), .of k2⟩, _, rfl, ite_b (fun h5 => itT (none_ ?_ _ (e18.trans k1))) (fun h5 => ?_)⟩
      · have : ys = [] := List.isEmpty_iff.mp h5
        rw [this] at hyl
        rw [eR, if_neg fun z => z.2.1 (List.length_eq_zero_iff.mp hyl)]
      have hr0 : rest ≠ [] := fun z => by
        rw [z] at hyl
        have : ys = [] := List.length_eq_zero_iff.mp hyl.symm
        rw [this] at h5
        exact absurd h5 (by decide)
      refine ⟨.int p, rfl, .ref F, rfl, F, ys, rfl, .of (k1 _ _ f3), fun t ht => ?_⟩
      have k3 : Ex H10 (upd H10 t (.tup ys)) := Ex.new ht
      have k4 : Rp K (upd H10 t (.tup ys)) (.ref t) (.tuple (xs.map pairD)) := .tup (.of upd_same) ((hra.x k1).x k3)
      generalize upd H10 t (.tup ys) = H11 at k3 k4
      have e110 := (e18.trans k1).trans k3
      refine ⟨p, .ref t, xs, rfl, k4, by omega, fun l2 zs H12 k5 hl2 hze => ?_⟩
      refine ⟨Nat.zero_le _, fun q4 hq4 => ?_⟩
      have k6 : Ex H12 (upd H12 q4 (.lst [])) := Ex.new hq4
      have k7 : upd H12 q4 (.lst []) q4 = some (.lst []) := upd_same
      generalize upd H12 q4 (.lst []) = H13 at k6 k7
      have e113 := (e110.trans k5).trans k6
      have hF13 := k6 _ _ (k5 _ _ (k3 _ _ (k1 _ _ f3)))
      refine ⟨l2, q4, zs, rfl, rfl, .inl ⟨ex_l k6 hl2, .of k7⟩, _, rfl, ?_⟩
      show if (!zs.isEmpty) = true then _ else _
      rw [hze, exs, hxl]
      refine ite_b (fun h6 => none_ ?_ _ e113) (fun h6 => ?_)
      · rw [eR, if_neg]
        rintro ⟨_, _, z1, z2⟩
        rw [z2, show decide (rest.length ≤ 400) = true from decide_eq_true z1] at h6
        exact absurd h6 (by decide)
      · have h6' : okL p (rest.map lampR) = true ∧ rest.length ≤ 400 := by simpa using h6
        rw [if_pos ⟨h4, hr0, h6'.2, h6'.1⟩] at eR
        have hs := okL_some h6'.1
        generalize (rest.map lampR).filterMap id = ls at hs eR
        refine ⟨.int p, rfl, .ref F, rfl, F, ys, rfl, .of hF13, fun t2 ht2 => ⟨.int e, rfl, by show 3 ≤ sizeLine; decide, fun l hl => k l _ ((e113.trans (Ex.new ht2)).trans (Ex.new hl)) (fresh_back (e113.trans (Ex.new ht2)) hl) ?_⟩⟩
        rw [eR]
        have htl : t2 ≠ l := fun z => by rw [z, upd_same] at hl; cases hl
        have eL : lampsD ls = .tuple (xs.map pairD) := by
          unfold lampsD
          rw [pairs_lamps (exs.trans hs)]
        show Rp K _ (.ref l) (.list [.int p, lampsD ls, .int e])
        rw [eL]
        have kk : Ex H13 (upd (upd H13 t2 (.tup ys)) l (.lst [.int p, .ref t2, .int e])) := (Ex.new ht2).trans (Ex.new hl)
        exact .lst (.of upd_same) (.cons (.int p) (.cons (.tup (.of (by rw [upd_ne htl, upd_same])) ((((hra.x k1).x k3).x k5).x (k6.trans kk))) (.cons (.int e) .nil)))
end
end Lk
namespace Lk
open PySem PySem.Spec PyProof.Rows L2 Evl Lm TL
theorem Rp.rdE {K : PySem.W.Frag} {H : Hp} {v : V} {r : RD} (h : Rp K H v (rdD r)) : ∃ a L, v = .ref a ∧ SqL K H a [.int r.p, L, .int r.e] ∧ Rp K H L (lampsD r.ls) := by
  cases h with
  | lst hs ha =>
    cases ha with
    | cons h1 t =>
      cases h1
      cases t with
      | cons h2 t =>
        cases t with
        | cons h3 t =>
          cases h3
          cases t
          exact ⟨_, _, rfl, hs, h2⟩
theorem passN {X : Cx} : Passes (L2N.CX X.prog X.w) X E0 := fun pins σ H s e s' I c => by
  obtain ⟨a, B, H', cls, d, _, _, _, _, _, _, _, hE⟩ := c
  exact hE.elim
theorem okLot_valid {rs : List RD} (h : ValidL rs) : okLot (rs.map some) = true := by
  unfold okLot
  obtain ⟨r0, hr0⟩ : ∃ r0, rs[0]? = some r0 := by
    cases hrs : rs with
    | nil => exact absurd hrs h.ne
    | cons a l => exact ⟨a, rfl⟩
  rw [List.length_map, decide_eq_true h.few, Bool.true_and, List.all_eq_true]
  intro x hx
  obtain ⟨r, hr, rfl⟩ := List.mem_map.mp hx
  rw [List.getElem?_map, hr0]
  show (fitsR r && decide (r.p = r0.p)) = true
  rw [h.fit r hr, h.same r hr r0 hr0]
  simp
theorem LtAt.hide {K : PySem.W.Frag} {H : Hp} {D : Addr} {v : V} {rs : List RD} {acc : List V} (hD : H D = some (.lst acc)) (h : LtAt K H v rs) : LtAt K (Lk.hide D H) v rs := by
  obtain ⟨a, dx, ss, t, us, h1, h2, h3, h4, h5⟩ := h.ex
  exact ⟨a, dx, ss, t, us, h1, slt_hide hD h2, h3, sqT_hide hD h4, h5.mono fun _ _ z => z.hide hD⟩
section
variable {P : Program} {w : World} {K : PySem.W.Frag} {mg : Str → Option Value} {base : Heap}
/-! ### _law_sheet -/
def spSh (K : PySem.W.Frag) : Sp := fun vs H Q _ => ∃ v r, vs = [v] ∧ Rp K H v (rdD r) ∧ Small r ∧ ∀ H', Ex H H' → Q (.str (sheetS r)) H'
theorem sc48 : FnScope ["_law_parts_here", "_law_p", "_law_lamps_here", "_law_last", "_law_tail", "_law_at", "_law_level"] ["_law_parts_here"] (defScope (top 48)) := ⟨rfl, rfl, rfl, by decide +kernel, rfl, by decide +kernel, by decide +kernel⟩
theorem ok__law_sheet (T : Txt K mg) : FnR P w K mg base CX0 1 (He.ga K "_law_sheet") (spSh K) := by
  refine mkD T.d__law_sheet.df sc48 (fun vs H Q E h => ?_) (fun _ _ _ _ _ _ us hl => match us, hl with | [_], _ => rfl) (fun cdv A outer s H vs Q E hr h => ?_)
  · obtain ⟨v, r, rfl, _⟩ := h
    rfl
  · obtain ⟨v, r, rfl, hv, hsm, k⟩ := h
    refine ⟨_, (pss_cons (ps_asg (pv 0) (pg_unl rfl (pgs_cons (pg_name (i := 1) sc48.nd rfl (.inl rfl)) (pgs_cons (pg_name (i := 2) sc48.nd rfl (.inl rfl)) (pgs_cons (pg_name (i := 3) sc48.nd rfl (.inl rfl)) pgs_nil)))))
      (pss_cons (ps_set (i := 4) sc48.nd rfl (.inl rfl) pe_str)
      (pss_cut (ps_if (pt_cmpR (op_neE hr.units0) (pv 2) (pe_tup pa_nil) (nomark _))
      (pss_one (ps_set (i := 4) sc48.nd rfl (.inl rfl) (pe_op op_add_str pe_str (pe_join pe_str (pe_lc (own := [("_law_at", 5), ("_law_level", 6)]) (g := gTup K 2 (gCons (gName 5) (gCons (gName 6) gNil))) rfl sc48.nd (pi_tup (pv 2)) (blkOk_by (N := ["_law_parts_here", "_law_p", "_law_lamps_here", "_law_last", "_law_tail", "_law_at", "_law_level"]) (sc := defScope (top 48)) (by decide +kernel)) (fun _ _ _ _ _ => (pg_tup rfl (pgs_cons (pg_name (i := 5) sc48.nd rfl (.inl rfl)) (pgs_cons (pg_name (i := 6) sc48.nd rfl (.inl rfl)) pgs_nil)))) (fun _ _ _ _ _ => pts_nil) (fun _ _ _ _ _ => (pe_op op_add_str (pe_op op_add_str (b_strI T (pa_cons (pv 5) pa_nil)) pe_str) (b_strI T (pa_cons (pv 6) pa_nil)))))))))
      pss_nil)
      (pss_one (ps_ret (pe_op op_add_str (pe_op op_add_str (pe_op op_add_str (pe_op op_add_str (pe_op op_add_str pe_str (b_strI T (pa_cons (pv 1) pa_nil))) pe_str) (b_strI T (pa_cons (pv 3) pa_nil))) pe_str) (pv 4))))))), ?_⟩
    obtain ⟨a, L, rfl, hs, hL⟩ := hv.rdE
    obtain ⟨lp, us, rfl, hls, hlen, hget⟩ := hL.lampsE
    refine ⟨.ref a, rfl, a, _, rfl, hs, rfl, .int r.p, _, rfl, .ref lp, _, rfl, .int r.e, [], rfl, rfl, ?_⟩
    refine ⟨fun σ' H' => σ' = [some (.ref a), some (.int r.p), some (.ref lp), some (.int r.e), some (.str (tailS r)), none, none] ∧ Ex H H', ?_, ?_⟩
    · refine ⟨.ref lp, rfl, Nat.zero_le _, fun q hq => ⟨lp, q, us, rfl, rfl, .inr ⟨ex_t (Ex.new hq) hls, .of upd_same⟩, _, rfl, ?_⟩⟩
      have e1 : Ex H (upd H q (.tup [])) := Ex.new hq
      generalize upd H q (.tup []) = H1 at e1
      refine ite_b (fun hc => ?_) (fun hc => ⟨?_, e1⟩)
      · have hne : r.ls ≠ [] := fun z => by
          rw [z] at hlen
          rw [List.length_eq_zero_iff.mp hlen] at hc
          exact absurd hc (by decide)
        have few := hsm.few
        refine ⟨⟨" ", rfl⟩, .ref lp, rfl, lp, rfl, ⟨us, ex_t e1 hls⟩, fun D hD => lcT (xs := us) r.ls (fun _ => true) (fun z y _ => y = .str (lampS z)) (fun _ _ _ _ _ h => h) (ex_t e1 hls) hlen.symm (by omega) hD (fun i b x H3 R1 R0 hb hx e3 hac r1 r0 => ?_) (fun H3 ys e3 hD3 hly hpr => ?_)⟩
        · obtain ⟨z, hz, hzv⟩ := hget i x hx
          rw [hb] at hz
          cases hz
          obtain ⟨q', rfl, hq'⟩ := hzv.lamp
          have hq3 := ex_t (e1.trans e3) hq'
          obtain ⟨b1, b2⟩ := hsm.ls b (List.mem_of_getElem? hb)
          have l1 := num_len (by decide) b1
          have l2 := num_len (k := 1) (by decide) b2
          have c1 : (":" : Str).length = 1 := by decide +kernel
          have s1 : (numS b.1 ++ (":" : Str)).length ≤ 42 := by rw [len_add, c1]; omega
          exact ⟨q', _, rfl, hq3, rfl, .int b.1, [.int b.2], rfl, .int b.2, [], rfl, rfl, rfl, .int b.1, rfl, b.1, rfl, log40 b1, _, _, rfl, rfl, by rw [c1, sizeLine_eq]; omega, .int b.2, rfl, b.2, rfl, log1 b2, _, _, rfl, rfl, by rw [sizeLine_eq]; omega, r1 rfl _ _ (.refl _) rfl⟩
        · rw [filter_T] at hpr
          have hy := paired_map hpr
          have hy2 : ys = (r.ls.map lampS).map V.str := by rw [hy, List.map_map]; rfl
          have hsz : ((r.ls.map lampS).map (·.length)).sum + (r.ls.map lampS).length * (" " : Str).length ≤ 1000 := by
            have := sum_le (l := r.ls.map lampS) (n := 44) fun x hx => by
              obtain ⟨z, hz, rfl⟩ := List.mem_map.mp hx
              obtain ⟨b1, b2⟩ := hsm.ls z hz
              exact lampS_len b1 b2
            have c1 : (" " : Str).length = 1 := by decide +kernel
            rw [c1, List.length_map] at *
            have : r.ls.length * 44 ≤ 5 * 44 := Nat.mul_le_mul_right _ few
            omega
          have hj := join_len (" " : Str) (r.ls.map lampS)
          have c6 : ("lamps " : Str).length = 6 := by decide +kernel
          refine ⟨" ", D, r.ls.map lampS, rfl, rfl, .inl (.of (by rw [hD3, hy2])), by omega, "lamps ", _, rfl, rfl, by rw [c6, sizeLine_eq]; omega, ?_, e1.trans e3⟩
          unfold tailS
          rw [if_neg hne]
          rfl
      · have hz : r.ls = [] := by
          have : us = [] := by
            cases us with
            | nil => rfl
            | cons _ _ => exact absurd hc (by simp)
          rw [this] at hlen
          exact List.length_eq_zero_iff.mp hlen.symm
        unfold tailS
        rw [if_pos hz]
        rfl
    · rintro σ' H' ⟨rfl, e1⟩
      have l1 := num_len (k := 1) (by decide) hsm.p
      have l2 := num_len (by decide) hsm.e
      have c1 : ("levels " : Str).length = 7 := by decide +kernel
      have c2 : (" end " : Str).length = 5 := by decide +kernel
      have c3 : (" " : Str).length = 1 := by decide +kernel
      have n1 : (("levels " : Str) ++ numS r.p).length ≤ 9 := by rw [len_add, c1]; omega
      have n2 : (("levels " : Str) ++ numS r.p ++ (" end " : Str)).length ≤ 14 := by rw [len_add, c2]; omega
      have n3 : (("levels " : Str) ++ numS r.p ++ (" end " : Str) ++ numS r.e).length ≤ 60 := by rw [len_add]; omega
      have n4 : (("levels " : Str) ++ numS r.p ++ (" end " : Str) ++ numS r.e ++ (" " : Str)).length ≤ 61 := by rw [len_add, c3]; omega
      have n5 : (sheetS' r).length ≤ 450 := by rw [sheetS'_eq]; exact sheetS_len hsm
      have n6 : (tailS r).length ≤ 450 := by
        have : (sheetS' r).length = (("levels " : Str) ++ numS r.p ++ (" end " : Str) ++ numS r.e ++ (" " : Str)).length + (tailS r).length := by unfold sheetS'; rw [len_add]
        omega
      refine ⟨.int r.p, rfl, r.p, rfl, log1 hsm.p, _, _, rfl, rfl, by rw [c1, sizeLine_eq]; omega, _, _, rfl, rfl, by rw [c2, sizeLine_eq]; omega, .int r.e, rfl, r.e, rfl, log40 hsm.e, _, _, rfl, rfl, by rw [sizeLine_eq]; omega, _, _, rfl, rfl, by rw [c3, sizeLine_eq]; omega, .str (tailS r), rfl, _, _, rfl, rfl, by rw [sizeLine_eq]; omega, ?_⟩
      show Q (.str (sheetS' r)) H'
      rw [sheetS'_eq]
      exact k _ e1
/-! ### _law_of -/
def spOf (K : PySem.W.Frag) : Sp := fun vs H Q _ => ∃ v r, vs = [v] ∧ Rp K H v (rdD r) ∧ Valid r ∧ ∀ y H', Ex H H' → RdAt K H' y r → Q y H'
theorem sc49 : FnScope ["_law_parts_here"] ["_law_parts_here"] (defScope (top 49)) := ⟨rfl, rfl, rfl, by decide +kernel, rfl, by decide +kernel, by decide +kernel⟩
theorem ok__law_of (T : Txt K mg) : FnR P w K mg base CX0 6 (He.ga K "_law_of") (spOf K) := by
  refine mkD T.d__law_of.df sc49 (fun vs H Q E h => ?_) (fun _ _ _ _ _ _ us hl => match us, hl with | [_], _ => rfl) (fun cdv A outer s H vs Q E hr h => ?_)
  · obtain ⟨v, r, rfl, _⟩ := h
    rfl
  · obtain ⟨v, r, rfl, hv, hva, k⟩ := h
    refine ⟨_, (pss_one (ps_ret (StX.pe_makeR T.r_f.mkr (ok_rinit T) hr rfl T.g_Round pass0 (pa_cons (pe_ix ix_list (pv 0) pe_int (fun _ _ => rfl)) (pa_cons (pe_ix ix_list (pv 0) pe_int (fun _ _ => rfl)) (pa_cons (pe_ix ix_list (pv 0) pe_int (fun _ _ => rfl)) pa_nil)))))), ?_⟩
    obtain ⟨a, L, rfl, hs, hL⟩ := hv.rdE
    exact ⟨.ref a, rfl, a, _, 0, _, rfl, rfl, hs, rfl, .ref a, rfl, a, _, 1, _, rfl, rfl, hs, rfl, .ref a, rfl, a, _, 2, _, rfl, rfl, hs, rfl, mkR hL hva k⟩
/-! ### _law_lot_sheet -/
def crD (rs : List RD) : PyData := .list (rs.map rdD)
def spLS (K : PySem.W.Frag) : Sp := fun vs H Q _ => ∃ v rs, vs = [v] ∧ Rp K H v (crD rs) ∧ (∀ r ∈ rs, Small r) ∧ rs.length ≤ 4 ∧ ∀ H', Ex H H' → Q (.str (sheetL rs)) H'
theorem sc58 : FnScope ["_law_crowd_here", "_law_parts_here"] ["_law_crowd_here"] (defScope (top 58)) := ⟨rfl, rfl, rfl, by decide +kernel, rfl, by decide +kernel, by decide +kernel⟩
theorem ok__law_lot_sheet (T : Txt K mg) : FnR P w K mg base CX0 2 (He.ga K "_law_lot_sheet") (spLS K) := by
  refine mkD T.d__law_lot_sheet.df sc58 (fun vs H Q E h => ?_) (fun _ _ _ _ _ _ us hl => match us, hl with | [_], _ => rfl) (fun cdv A outer s H vs Q E hr h => ?_)
  · obtain ⟨v, rs, rfl, _⟩ := h
    rfl
  · obtain ⟨v, rs, rfl, hv, hsm, hn, k⟩ := h
    refine ⟨_, (pss_one (ps_ret (pe_join pe_str (pe_lc (own := [("_law_parts_here", 1)]) rfl sc58.nd (pi_list (pv 0)) (blkOk_by (N := ["_law_crowd_here", "_law_parts_here"]) (sc := defScope (top 58)) (by decide +kernel)) (fun _ _ _ _ _ => (pg_name (i := 1) sc58.nd rfl (.inl rfl))) (fun _ _ _ _ _ => pts_nil) (fun _ _ _ _ _ => (pe_d T.d__law_sheet (ok__law_sheet T) hr (pa_cons (pv 1) pa_nil))))))), ?_⟩
    obtain ⟨a, us, rfl, hs, ha⟩ := hv.lstE
    have hlen : us.length = rs.length := by rw [ha.len, List.length_map]
    refine ⟨⟨"\n", rfl⟩, .ref a, rfl, a, rfl, ⟨us, hs⟩, fun D hD => lcL (xs := us) rs (fun _ => true) (fun r y _ => y = .str (sheetS r)) (fun _ _ _ _ _ h => h) hs hlen.symm (by omega) hD (fun i b x H3 R1 R0 hb hx e3 hac r1 r0 => ?_) (fun H3 ys e3 hD3 hly hpr => ?_)⟩
    · obtain ⟨b', hb', hxv⟩ := ha.getM hx
      rw [hb] at hb'
      cases hb'
      exact ⟨rfl, x, rfl, x, b, rfl, hxv.x e3, hsm b (List.mem_of_getElem? hb), fun H4 e4 => r1 rfl _ _ e4 rfl⟩
    · rw [filter_T] at hpr
      have hy := paired_map hpr
      have hy2 : ys = (rs.map sheetS).map V.str := by rw [hy, List.map_map]; rfl
      refine ⟨"\n", D, rs.map sheetS, rfl, rfl, .inl (.of (by rw [hD3, hy2])), ?_, k _ e3⟩
      have := sum_le (l := rs.map sheetS) (n := 450) fun x hx => by
        obtain ⟨r, hr, rfl⟩ := List.mem_map.mp hx
        exact sheetS_len (hsm r hr)
      have c1 : ("\n" : Str).length = 1 := by decide +kernel
      rw [c1, List.length_map] at *
      have : rs.length * 450 ≤ 4 * 450 := Nat.mul_le_mul_right _ hn
      omega
/-! ### _law_lot_of -/
def spLO (K : PySem.W.Frag) : Sp := fun vs H Q _ => ∃ v rs, vs = [v] ∧ Rp K H v (crD rs) ∧ ValidL rs ∧ ∀ y H', Ex H H' → LtAt K H' y rs → Q y H'
theorem sc59 : FnScope ["_law_crowd_here", "_law_parts_here"] ["_law_crowd_here"] (defScope (top 59)) := ⟨rfl, rfl, rfl, by decide +kernel, rfl, by decide +kernel, by decide +kernel⟩
theorem ok__law_lot_of (T : Txt K mg) : FnR P w K mg base CX0 7 (He.ga K "_law_lot_of") (spLO K) := by
  refine mkD T.d__law_lot_of.df sc59 (fun vs H Q E h => ?_) (fun _ _ _ _ _ _ us hl => match us, hl with | [_], _ => rfl) (fun cdv A outer s H vs Q E hr h => ?_)
  · obtain ⟨v, rs, rfl, _⟩ := h
    rfl
  · obtain ⟨v, rs, rfl, hv, hva, k⟩ := h
    refine ⟨_, (pss_one (ps_ret (StX.pe_makeR T.l_f.mkr (ok_linit T) hr rfl T.g_Lot pass0 (pa_cons (b_tupL T (pa_cons (pe_lc (own := [("_law_parts_here", 1)]) rfl sc59.nd (pi_list (pv 0)) (blkOk_by (N := ["_law_crowd_here", "_law_parts_here"]) (sc := defScope (top 59)) (by decide +kernel)) (fun _ _ _ _ _ => (pg_name (i := 1) sc59.nd rfl (.inl rfl))) (fun _ _ _ _ _ => pts_nil) (fun _ _ _ _ _ => (pe_d T.d__law_of (ok__law_of T) hr (pa_cons (pv 1) pa_nil)))) pa_nil)) pa_nil)))), ?_⟩
    obtain ⟨a, us, rfl, hs, ha⟩ := hv.lstE
    have hlen : us.length = rs.length := by rw [ha.len, List.length_map]
    have hn := hva.few
    refine ⟨.ref a, rfl, a, rfl, ⟨us, hs⟩, fun D hD => lcL (xs := us) rs (fun _ => true) (fun r y H => RdAt K H y r) (fun _ _ _ _ e h => h.x e) hs hlen.symm (by omega) hD (fun i b x H3 R1 R0 hb hx e3 hac r1 r0 => ?_) (fun H3 ys e3 hD3 hly hpr => ?_)⟩
    · obtain ⟨b', hb', hxv⟩ := ha.getM hx
      rw [hb] at hb'
      cases hb'
      obtain ⟨acc, hac⟩ := hac
      exact ⟨rfl, x, rfl, x, b, rfl, hxv.x e3, hva.val b (List.mem_of_getElem? hb), fun y H4 e4 h => r1 rfl _ _ e4 (h.hide (e4 _ _ hac))⟩
    · rw [filter_T] at hpr
      refine ⟨D, ys, rfl, .of hD3, fun t ht => mkL (.of upd_same) (hpr.mono fun _ _ h => (h.x hide_ex).x (Ex.new ht)) hva.ne (okLot_valid hva) (fun r hr => (hva.val r hr).few) fun y H5 e5 hy => k _ _ ((e3.trans (Ex.new ht)).trans e5) hy⟩
/-! ### _law_lot_built -/
def spLB (K : PySem.W.Frag) : Sp := fun vs H Q _ => ∃ pl v rs, vs = [.ref pl, v] ∧ PailAt pl H ∧ Rp K (Lk.hide pl H) v (crD rs) ∧ ValidL rs ∧ (∀ r ∈ rs, Small r) ∧ ∀ y H', ExP pl H H' → LtAt K (Lk.hide pl H') y rs → Q y H'
theorem sc60 : FnScope ["_law_pail", "_law_crowd_here", "_law_chance", "_law_parts_here"] ["_law_pail", "_law_crowd_here"] (defScope (top 60)) := ⟨rfl, rfl, rfl, by decide +kernel, rfl, by decide +kernel, by decide +kernel⟩
theorem PailAt.lst {pl : Addr} {H : Hp} (h : PailAt pl H) : ∃ acc, H pl = some (.lst acc) := by
  obtain ⟨a, b, c, h, _⟩ := h
  exact ⟨_, h⟩
theorem sheetL_split {rs : List RD} (h : ValidL rs) (hsm : ∀ r ∈ rs, Small r) : (∀ p ∈ Txt.split (sheetL rs) "\n", p.length ≤ 500) ∧ (Txt.split (sheetL rs) "\n").length ≤ 1000 ∧ (sheetL rs).length ≤ 1000000 := by
  rw [split_sheetL h.ne]
  refine ⟨fun p hp => ?_, by rw [List.length_map]; have := h.few; omega, ?_⟩
  · obtain ⟨r, hr, rfl⟩ := List.mem_map.mp hp
    exact Nat.le_trans (sheetS_len (hsm r hr)) (by decide)
  · have hj := join_len ("\n" : Str) (rs.map sheetS)
    have := sum_le (l := rs.map sheetS) (n := 450) fun x hx => by
      obtain ⟨r, hr, rfl⟩ := List.mem_map.mp hx
      exact sheetS_len (hsm r hr)
    have c1 : ("\n" : Str).length = 1 := by decide +kernel
    rw [c1, List.length_map] at hj
    rw [List.length_map] at this
    have : rs.length * 450 ≤ 4 * 450 := Nat.mul_le_mul_right _ h.few
    have := h.few
    unfold sheetL
    omega
theorem ok__law_lot_built (T : Txt K mg) : FnR P w K mg base CX0 10 (He.ga K "_law_lot_built") (spLB K) := by
  refine mkD T.d__law_lot_built.df sc60 (fun vs H Q E h => ?_) (fun _ _ _ _ _ _ us hl => match us, hl with | [_, _], _ => rfl) (fun cdv A outer s H vs Q E hr h => ?_)
  · obtain ⟨pl, v, rs, rfl, _⟩ := h
    rfl
  · obtain ⟨pl, v, rs, rfl, hp, hv, hva, hsm, k⟩ := h
    refine ⟨_, (pss_cons (ps_set (i := 2) sc60.nd rfl (.inl rfl) (pe_d T.d__law_cast (ok__law_cast T) hr (pa_cons (pv 0) (pa_cons pe_int pa_nil))))
      (pss_cons (ps_if (pt_cmpR op_eq (pv 2) pe_int (nomark _))
      (pss_one (ps_ret (pe_d T.d__law_lot_of (ok__law_lot_of T) hr (pa_cons (pv 1) pa_nil))))
      pss_nil)
      (pss_cons (ps_if (pt_cmpR op_eq (pv 2) pe_int (nomark _))
      (pss_one (ps_ret (pe_mkK T.l_f.mkr (ok_linit2 T).2 hr (by decide) T.g_Lot (b_tupL T (pa_cons (pe_lc (own := [("_law_parts_here", 3)]) rfl sc60.nd (pi_list (pv 1)) (blkOk_by (N := ["_law_pail", "_law_crowd_here", "_law_chance", "_law_parts_here"]) (sc := defScope (top 60)) (by decide +kernel)) (fun _ _ _ _ _ => (pg_name (i := 3) sc60.nd rfl (.inl rfl))) (fun _ _ _ _ _ => pts_nil) (fun _ _ _ _ _ => (pe_d T.d__law_of (ok__law_of T) hr (pa_cons (pv 3) pa_nil)))) pa_nil)))))
      pss_nil)
      (pss_one (ps_ret (ClX.pe_cmeth (pe_glob (v := .ref (cL K)) rfl T.g_Lot rfl) T.l_cread T.l_read (ok_read T) (hr.mono (by decide)) passN (pa_cons (pe_d T.d__law_lot_sheet (ok__law_lot_sheet T) hr (pa_cons (pv 1) pa_nil)) pa_nil))))))), ?_⟩
    refine ⟨.ref pl, rfl, pl, 3, rfl, hp, by decide, by decide, fun c H1 e1 _ _ => ?_⟩
    have hv1 := (hv.x e1.ex).x hide_ex
    have fin : ∀ y H', Ex H1 H' → LtAt K H' y rs → Q y H' := fun y H' e h => by
      have e2 := e1.on e
      obtain ⟨acc, hacc⟩ := e2.pail.lst
      exact k y H' e2 (h.hide hacc)
    refine ⟨.int c, rfl, rfl, _, rfl, ite_b (fun _ => ⟨v, rfl, v, rs, rfl, hv1, hva, fin⟩) (fun _ => ⟨.int c, rfl, rfl, _, rfl, ite_b (fun _ => ?_) (fun _ => ?_)⟩)⟩
    · obtain ⟨a, us, rfl, hs, ha⟩ := hv1.lstE
      have hlen : us.length = rs.length := by rw [ha.len, List.length_map]
      have hn := hva.few
      refine ⟨.ref a, rfl, a, rfl, ⟨us, hs⟩, fun D hD => lcL (xs := us) rs (fun _ => true) (fun r y H => RdAt K H y r) (fun _ _ _ _ e h => h.x e) hs hlen.symm (by omega) hD (fun i b x H3 R1 R0 hb hx e3 hac r1 r0 => ?_) (fun H3 ys e3 hD3 hly hpr => ?_)⟩
      · obtain ⟨b', hb', hxv⟩ := ha.getM hx
        rw [hb] at hb'
        cases hb'
        obtain ⟨acc, hac⟩ := hac
        exact ⟨rfl, x, rfl, x, b, rfl, hxv.x e3, hva.val b (List.mem_of_getElem? hb), fun y H4 e4 h => r1 rfl _ _ e4 (h.hide (e4 _ _ hac))⟩
      · rw [filter_T] at hpr
        exact ⟨D, ys, rfl, .of hD3, fun t ht => ⟨_, rfl, mkL (.of upd_same) (hpr.mono fun _ _ h => (h.x hide_ex).x (Ex.new ht)) hva.ne (okLot_valid hva) (fun r hr => (hva.val r hr).few) fun y H5 e5 hy => fin _ _ ((e3.trans (Ex.new ht)).trans e5) hy⟩⟩
    · obtain ⟨b1, b2, b3⟩ := sheetL_split hva hsm
      refine ⟨rfl, v, rfl, v, rs, rfl, hv1, hsm, hva.few, fun H2 e2 => ⟨.ref (cL K), sheetL rs, rfl, b1, b2, b3, fun rs' hr v' H4 e4 hv' => ?_, fun hr => ?_⟩⟩
      · rw [readLot_sheet hva] at hr
        cases hr
        exact fin _ _ (e2.trans e4) hv'
      · rw [readLot_sheet hva] at hr
        cases hr
end
end Lk
namespace Lk
open PySem PySem.Spec PyProof.Rows L2 Evl Lm TL
theorem spl_free : ∀ (l : List Nat) (acc : List Nat), (10 : Nat) ∉ acc → ∀ p ∈ spl [10] 0 acc l, (10 : Nat) ∉ p
  | [], acc, ha, p, hp => by
    rw [spl_nil] at hp
    rw [List.mem_singleton.mp hp]
    exact ha
  | c :: r, acc, ha, p, hp => by
    cases h : pre [10] (c :: r) with
    | true =>
      rw [spl_hit h] at hp
      rcases List.mem_cons.mp hp with e | hp
      · rw [e]; exact ha
      · exact spl_free r [] (by simp) p hp
    | false =>
      rw [spl_miss h] at hp
      refine spl_free r (acc ++ [c]) (fun hm => ?_) p hp
      rcases List.mem_append.mp hm with hm | hm
      · exact ha hm
      · have : c = 10 := (List.mem_singleton.mp hm).symm
        rw [this] at h
        exact absurd h (by simp [pre])
theorem split_free {z p : Str} (h : p ∈ Txt.split z "\n") : 10 ∉ tl p := by
  rw [nl_sep] at h
  have h2 : tl p ∈ spl [10] 0 [] (tl z) := by rw [← split_sep (by decide)]; exact List.mem_map_of_mem h
  exact spl_free _ _ (by simp) _ h2
/-- what _law_lot_read answers -/
def lrD (z : Str) : PyData := match readLot z with
  | some rs => crD rs
  | none => .list []
theorem noDict_lamps (ls : List (Int × Int)) : (lampsD ls).hasDict = false := by
  unfold lampsD
  show PyData.hasDictAll _ = false
  induction ls with
  | nil => rfl
  | cons a l ih =>
    show (PyData.hasDict (lampD (some a)) || PyData.hasDictAll _) = false
    rw [ih]; rfl
theorem noDict_rdO (o : Option RD) : (rdO o).hasDict = false := by
  cases o with
  | none => rfl
  | some r =>
    show (false || (PyData.hasDict (lampsD r.ls) || (false || false))) = false
    rw [noDict_lamps]; rfl
theorem noDict_os (os : List (Option RD)) : PyData.hasDictAll (os.map rdO) = false := by
  induction os with
  | nil => rfl
  | cons o os ih =>
    show (PyData.hasDict (rdO o) || PyData.hasDictAll _) = false
    rw [ih, noDict_rdO]; rfl
theorem canLay_lamps (ls : List (Int × Int)) : PyData.canLayAll0 (ls.map fun a => lampD (some a)) = true := by
  induction ls with
  | nil => rfl
  | cons a l ih =>
    show (PyData.canLay0 (lampD (some a)) && PyData.canLayAll0 _) = true
    rw [ih]; rfl
theorem canLay_os (os : List (Option RD)) : PyData.canLayAll0 (os.map rdO) = true := by
  induction os with
  | nil => rfl
  | cons o os ih =>
    show (PyData.canLay0 (rdO o) && PyData.canLayAll0 _) = true
    rw [ih]
    cases o with
    | none => rfl
    | some r =>
      show ((true && (PyData.canLayAll0 (r.ls.map fun a => lampD (some a)) && (true && true))) && true) = true
      rw [canLay_lamps]; rfl
theorem depth_lamps (ls : List (Int × Int)) : PyData.depthAll (ls.map fun a => lampD (some a)) ≤ 1 := by
  induction ls with
  | nil => exact Nat.zero_le _
  | cons a l ih =>
    show max (PyData.depth (lampD (some a))) (PyData.depthAll _) ≤ 1
    exact Nat.max_le.mpr ⟨by show max 0 (max 0 0) + 1 ≤ 1; decide, ih⟩
theorem depth_os (os : List (Option RD)) : PyData.depthAll (os.map rdO) ≤ 3 := by
  induction os with
  | nil => exact Nat.zero_le _
  | cons o os ih =>
    show max (PyData.depth (rdO o)) (PyData.depthAll _) ≤ 3
    refine Nat.max_le.mpr ⟨?_, ih⟩
    cases o with
    | none => show 0 + 1 ≤ 3; decide
    | some r =>
      show max 0 (max (PyData.depthAll (r.ls.map fun a => lampD (some a)) + 1) (max 0 0)) + 1 ≤ 3
      have := depth_lamps r.ls
      omega
theorem shaped_os (os : List (Option RD)) : SeqAt.shaped (.list (os.map rdO)) = true := by
  unfold SeqAt.shaped
  rw [show PyData.canLay0 (.list (os.map rdO)) = true from canLay_os os, Bool.true_and, decide_eq_true_iff]
  show PyData.depthAll (os.map rdO) + 1 ≤ 64
  have := depth_os os
  omega
theorem eqv_empty (o : Option RD) : PyData.eqv (rdO o) (.list []) = o.isNone := by cases o <;> rfl
theorem any_none (os : List (Option RD)) : ((os.map rdO).any fun z => PyData.eqv z (.list [])) = os.any Option.isNone := by
  rw [List.any_map]
  congr 1
  funext o
  exact eqv_empty o
theorem hu65 {A : Around} {k : Nat} (r : Room k A) : A.units + 65 < cLine := by have := r.un; omega
section
variable {P : Program} {w : World} {K : PySem.W.Frag} {mg : Str → Option Value} {base : Heap}
/-! ### _law_fits -/
def spFit (K : PySem.W.Frag) : Sp := fun vs H Q _ => ∃ v r, vs = [v] ∧ Rp K H v (rdD r) ∧ r.ls.length ≤ 400 ∧ ∀ H', Ex H H' → Q (.bl (fitsR r)) H'
theorem sc61 : FnScope ["_law_parts_here", "_law_at", "_law_level"] ["_law_parts_here"] (defScope (top 61)) := ⟨rfl, rfl, rfl, by decide +kernel, rfl, by decide +kernel, by decide +kernel⟩
theorem ok__law_fits (T : Txt K mg) : FnR P w K mg base CX0 1 (He.ga K "_law_fits") (spFit K) := by
  refine mkD T.d__law_fits.df sc61 (fun vs H Q E h => ?_) (fun _ _ _ _ _ _ us hl => match us, hl with | [_], _ => rfl) (fun cdv A outer s H vs Q E hr h => ?_)
  · obtain ⟨v, r, rfl, _⟩ := h
    rfl
  · obtain ⟨v, r, rfl, hv, few, k⟩ := h
    refine ⟨_, (pss_one (ps_ret (pe_and (pe_cmpR op_le (b_abs T (pa_cons (pe_ix ix_list (pv 0) pe_int (fun _ _ => rfl)) pa_nil)) pe_int (nomark _)) (pe_one (pe_cmpR (op_eqE hr.units0) (pe_lc (own := [("_law_at", 1), ("_law_level", 2)]) (g := gTup K 2 (gCons (gName 1) (gCons (gName 2) gNil))) rfl sc61.nd (pi_tup (pe_ix ix_list (pv 0) pe_int (fun _ _ => rfl))) (blkOk_by (N := ["_law_parts_here", "_law_at", "_law_level"]) (sc := defScope (top 61)) (by decide +kernel)) (fun _ _ _ _ _ => (pg_tup rfl (pgs_cons (pg_name (i := 1) sc61.nd rfl (.inl rfl)) (pgs_cons (pg_name (i := 2) sc61.nd rfl (.inl rfl)) pgs_nil)))) (fun _ _ _ _ _ => (pts_one (pt_cmpR op_gt (b_abs T (pa_cons (pv 1) pa_nil)) pe_int (nomark _)))) (fun _ _ _ _ _ => (pv 1))) (pe_lst pa_nil) (nomark _)))))), ?_⟩
    obtain ⟨a, L, rfl, hs, hL⟩ := hv.rdE
    obtain ⟨lp, us, rfl, hls, hlen, hget⟩ := hL.lampsE
    refine ⟨.ref a, rfl, a, _, 2, _, rfl, rfl, hs, rfl, r.e, rfl, _, 8, rfl, rfl, _, rfl, ?_⟩
    show if decide ((if r.e < 0 then -r.e else r.e) ≤ 8) = true then _ else _
    rw [show decide ((if r.e < 0 then -r.e else r.e) ≤ 8) = decide (r.e.natAbs ≤ 8) from abs_le (n := 8)]
    refine ite_b (fun h => ?_) (fun h => ?_)
    · refine ⟨.ref a, rfl, a, _, 1, _, rfl, rfl, hs, rfl, lp, rfl, ⟨us, hls⟩, fun D hD => lcT (xs := us) r.ls (fun z => !decide (z.1.natAbs ≤ 24)) (fun z y _ => y = .int z.1) (fun _ _ _ _ _ h => h) hls hlen.symm (by omega) hD (fun i b x H3 R1 R0 hb hx e3 hac r1 r0 => ?_) (fun H3 ys e3 hD3 hly hpr => ?_)⟩
      · obtain ⟨z, hz, hzv⟩ := hget i x hx
        rw [hb] at hz
        cases hz
        obtain ⟨q, rfl, hq⟩ := hzv.lamp
        refine ⟨q, _, rfl, ex_t e3 hq, rfl, .int b.1, [.int b.2], rfl, .int b.2, [], rfl, rfl, rfl, .int b.1, rfl, b.1, rfl, _, 24, rfl, rfl, _, rfl, ?_⟩
        have e8 : decide ((24 : Int) < (if b.1 < 0 then -b.1 else b.1)) = !decide (b.1.natAbs ≤ 24) := by
          rw [← abs_le (n := 24), Bool.eq_iff_iff]
          simp
        rw [e8]
        exact ite_b (fun h => ⟨.int b.1, rfl, r1 h _ _ (.refl _) rfl⟩) (fun h => r0 h _ (.refl _))
      · have hy := paired_map hpr
        refine ⟨Nat.zero_le _, fun q hq => ⟨D, q, ys, rfl, rfl, .inl ⟨.of (by rw [upd_ne (fun z => by rw [z, hq] at hD3; cases hD3)]; exact hD3), .of upd_same⟩, ?_⟩⟩
        have e : ys.isEmpty = fitsR r := by
          unfold fitsR
          rw [h, Bool.true_and, hy, Bool.eq_iff_iff, List.isEmpty_iff, List.map_eq_nil_iff, List.filter_eq_nil_iff, List.all_eq_true]
          constructor
          · intro hh c hc
            have := hh c hc
            simpa using this
          · intro hh c hc
            have := hh c hc
            rw [this]
            decide
        show Q (.bl ys.isEmpty) _
        rw [e]
        exact k _ (e3.trans (Ex.new hq))
    · have e : fitsR r = false := by
        unfold fitsR
        rw [h]
        rfl
      rw [e] at k
      exact k _ (.refl _)
/-! ### _law_lot_read -/
def spLLR (K : PySem.W.Frag) : Sp := fun vs H Q _ => ∃ z, vs = [.str z] ∧ (∀ p ∈ Txt.split z "\n", p.length ≤ 500) ∧ (Txt.split z "\n").length ≤ 1000 ∧ z.length ≤ 1000000 ∧ ∀ l H', Ex H H' → Rp K H' (.ref l) (lrD z) → Q (.ref l) H'
theorem sc62 : FnScope ["_law_said", "_law_found", "_law_line", "_law_wrong", "_law_each"] ["_law_said"] (defScope (top 62)) := ⟨rfl, rfl, rfl, by decide +kernel, rfl, by decide +kernel, by decide +kernel⟩
theorem os_map {os : List (Option RD)} (h : os.any Option.isNone = false) : os = (os.filterMap id).map some := by
  have k : ∀ x ∈ os, ∃ y, x = some y := by
    intro x hx
    cases x with
    | none => exact absurd (List.any_eq_true.mpr ⟨none, hx, rfl⟩) (by rw [h]; exact Bool.false_ne_true)
    | some y => exact ⟨y, rfl⟩
  clear h
  induction os with
  | nil => rfl
  | cons x xs ih =>
    obtain ⟨y, e⟩ := k x List.mem_cons_self
    have h2 := ih fun z hz => k z (List.mem_cons_of_mem _ hz)
    rw [e]
    simp only [List.filterMap_cons, id, List.map_cons]
    rw [← h2]
theorem ok__law_lot_read (T : Txt K mg) : FnR P w K mg base CX0 4 (He.ga K "_law_lot_read") (spLLR K) := by
  refine mkD T.d__law_lot_read.df sc62 (fun vs H Q E h => ?_) (fun _ _ _ _ _ _ us hl => match us, hl with | [_], _ => rfl) (fun cdv A outer s H vs Q E hr h => ?_)
  · obtain ⟨z, rfl, _⟩ := h
    rfl
  · obtain ⟨z, rfl, hsl, hcnt, hzl, k⟩ := h
    refine ⟨_, (pss_cons (ps_set (i := 1) sc62.nd rfl (.inr rfl) (pe_lc (own := [("_law_line", 2)]) rfl sc62.nd (pi_list (pe_split (pv 0) pe_str)) (blkOk_by (N := ["_law_said", "_law_found", "_law_line", "_law_wrong", "_law_each"]) (sc := defScope (top 62)) (by decide +kernel)) (fun _ _ _ _ _ => (pg_name (i := 2) sc62.nd rfl (.inl rfl))) (fun _ _ _ _ _ => pts_nil) (fun _ _ _ _ _ => (pe_d T.d__law_read (ok__law_read T) hr (pa_cons (pv 2) pa_nil)))))
      (pss_cons (ps_if (PW.pt (pw_or (pt_cmpR (op_inD (hu65 hr)) (pe_lst pa_nil) (pv 1) (by rfl)) (pw_or1 (pt_cmpR op_gt (b_len T (pa_cons (pv 1) pa_nil)) pe_int (nomark _)))))
      (pss_one (ps_ret (pe_lst pa_nil)))
      pss_nil)
      (pss_cons (ps_setLc (i := 3) rfl sc62.nd rfl rfl (sw_true rfl rfl rfl (by decide +kernel)) (own := [("_law_each", 4)]) (tt := tOr (tNot (tB (tC1 (spFit K) (tCons (tVar 4) tNil)))) (tTest (tOp rNe (tOp (rIxL K) (tVar 4) (tC (.int 0))) (tOp (rIxL K) (tOp (rIxL K) (tVar 1) (tC (.int 0))) (tC (.int 0)))))) (pi_list (pv 1)) (blkOk_by (N := ["_law_said", "_law_found", "_law_line", "_law_wrong", "_law_each"]) (sc := defScope (top 62)) (by decide +kernel)) (fun _ _ _ _ _ => (pg_name (i := 4) sc62.nd rfl (.inl rfl))) (fun _ _ _ _ _ => (pts_one (PW.pt (pw_or (pt_not (pt_val (pe_d T.d__law_fits (ok__law_fits T) hr (pa_cons (pv 4) pa_nil)))) (pw_or1 (pt_cmpR op_ne (pe_ix ix_list (pv 4) pe_int (fun _ _ => rfl)) (pe_ix ix_list (pe_ix ix_list (pv 1) pe_int (fun _ _ => rfl)) pe_int (fun _ _ => rfl)) (nomark _))))))) (fun _ _ _ _ _ => (pv 4)))
      (pss_one (ps_ret (pe_ifExp (pt_cmpR (op_eqE hr.units0) (pv 3) (pe_lst pa_nil) (nomark _)) (pv 1) (pe_lst pa_nil))))))), ?_⟩
    have hws : Txt.split z "\n" ≠ [] := by rw [nl_sep]; exact split_ne (by decide) z
    have eL : readLot z = if okLot ((Txt.split z "\n").map readR) = true then some (((Txt.split z "\n").map readR).filterMap id) else none := rfl
    have hfr : ∀ p ∈ Txt.split z "\n", 10 ∉ tl p := fun p hp => split_free hp
    refine ⟨.str z, rfl, ⟨z, rfl⟩, z, "\n", rfl, rfl, by decide +kernel, by rw [sizeLine_eq]; omega, fun p hp => ?_⟩
    generalize Txt.split z "\n" = ws at hsl hcnt hws eL hfr
    refine ⟨p, rfl, ⟨_, .of upd_same⟩, fun D hD => lcL (xs := ws.map V.str) ws (fun _ => true) (fun w y H => Rp K H y (rdO (readR w))) (fun _ _ _ _ e h => h.x e) (.of upd_same) (by rw [List.length_map]) (by rw [List.length_map]; omega) hD (fun i b x H2 R1 R0 hb hx e2 hac r1 r0 => ?_) (fun H2 ys e2 hD2 hly hpr => ?_)⟩
    · cases getM_str hb hx
      obtain ⟨acc, hac⟩ := hac
      exact ⟨rfl, .str b, rfl, b, rfl, hsl b (List.mem_of_getElem? hb), hfr b (List.mem_of_getElem? hb), fun l H' e hl h => r1 rfl _ _ e (h.rdHide (e _ _ hac) (fun z => by rw [z, hac] at hl; cases hl))⟩
    · rw [filter_T] at hpr
      have e3 : Ex H H2 := (Ex.new hp).trans e2
      have hra : RpA K H2 ys ((ws.map readR).map rdO) := by rw [List.map_map]; exact paired_rpa hide_ex hpr
      have hval : ∀ r, some r ∈ ws.map readR → r.ls.length ≤ 400 := fun r hr => by
        obtain ⟨s, _, hs⟩ := List.mem_map.mp hr
        exact (readR_valid hs).few
      have hol : (ws.map readR).length = ws.length := List.length_map _
      have hon : ws.map readR ≠ [] := by simpa using hws
      generalize ws.map readR = os at eL hra hval hol hon
      clear hpr
      have none_ : readLot z = none → ∀ H', Ex H H' → ([] : List V).length ≤ sizeLine ∧ ∀ l, H' l = none → Q (.ref l) (upd H' l (.lst [])) := fun h H' e => ⟨Nat.zero_le _, fun l hl => k l _ (e.trans (Ex.new hl)) (by unfold lrD; rw [h]; exact .lst (.of upd_same) .nil)⟩
      have hdp : Dp K H2 (.ref D) (.list (os.map rdO)) := Rp.dp _ _ (.lst (.of hD2) hra) (noDict_os os)
      refine ⟨Nat.zero_le _, fun q hq => ?_⟩
      have e4 : Ex H2 (upd H2 q (.lst [])) := Ex.new hq
      have hq2 : Rp K (upd H2 q (.lst [])) (.ref q) (.list []) := .lst (.of upd_same) .nil
      generalize upd H2 q (.lst []) = H3 at e4 hq2
      have hra3 := hra.x e4
      have hD3 := e4 _ _ hD2
      have e13 := e3.trans e4
      have hlen : ys.length = os.length := by rw [hra.len, List.length_map]
      refine ⟨.ref D, rfl, .list [], os.map rdO, Rp.dp _ _ hq2 rfl, Rp.dp _ _ (.lst (.of hD3) hra3) (noDict_os os), rfl, shaped_os os, _, rfl, ?_⟩
      rw [any_none]
      refine ite_b (fun h => itT (none_ ?_ _ e13)) (fun h => ?_)
      · have : okLot os = false := by
          obtain ⟨x, hx, hxn⟩ := List.any_eq_true.mp h
          cases x with
          | some _ => cases hxn
          | none =>
            cases hk : okLot os with
            | false => rfl
            | true =>
              have := okLot_some hk
              rw [this] at hx
              obtain ⟨_, _, hh⟩ := List.mem_map.mp hx
              cases hh
        rw [eL, this]
        rfl
      have hos := os_map h
      generalize os.filterMap id = rs at hos eL
      subst hos
      have hrl : rs.length = ws.length := by rw [← hol, List.length_map]
      have hrn : rs ≠ [] := by simpa using hon
      have hra4 : RpA K H3 ys (rs.map rdD) := by
        have : (rs.map some).map rdO = rs.map rdD := by rw [List.map_map]; rfl
        rw [← this]; exact hra3
      have hlen2 : ys.length = rs.length := by rw [hra4.len, List.length_map]
      refine ⟨.ref D, rfl, .ref D, ys.length, rfl, .inl ⟨ys, .of hD3, rfl⟩, _, _, rfl, rfl, _, rfl, ite_b (fun h4 => none_ ?_ _ e13) (fun h4 => ?_)⟩
      · have h4' := of_decide_eq_true h4
        have : okLot (rs.map some) = false := by
          cases hk : okLot (rs.map some) with
          | false => rfl
          | true =>
            have := okLot_few hk
            rw [List.length_map] at this
            omega
        rw [eL, this]
        rfl
      have h4' : rs.length ≤ 4 := by have := of_decide_eq_false h4; omega
      obtain ⟨r0, hr0⟩ : ∃ r0, rs[0]? = some r0 := by
        cases hrs : rs with
        | nil => exact absurd hrs hrn
        | cons a l => exact ⟨a, rfl⟩
      obtain ⟨x0, hx0, hx0v⟩ := hra4.getM' hr0
      have ek : okLot (rs.map some) = rs.all fun r => fitsR r && decide (r.p = r0.p) := by
        unfold okLot
        rw [List.length_map, decide_eq_true h4', Bool.true_and, List.all_map, List.getElem?_map, hr0]
        rfl
      refine ⟨.ref D, rfl, D, rfl, ⟨ys, .of hD3⟩, fun D2 hDn2 => lcL (xs := ys) rs (fun r => !(fitsR r && decide (r.p = r0.p))) (fun _ _ _ => True) (fun _ _ _ _ _ _ => trivial) (.of hD3) hlen2.symm (by omega) hDn2 (fun i b x H4 R1 R0 hb hx e5 hac r1 rr0 => ?_) (fun H4 zs e5 hD4 hlz hpr => ?_)⟩
      · obtain ⟨b', hb', hxv⟩ := (hra4.x e5).getM hx
        rw [hb] at hb'
        cases hb'
        refine ⟨rfl, x, rfl, x, b, rfl, hxv, hval b (List.mem_map_of_mem (List.mem_of_getElem? hb)), fun H5 e6 => ⟨_, rfl, ?_⟩⟩
        obtain ⟨a, L, rfl, hs, _⟩ := (hxv.x e6).rdE
        obtain ⟨a0, L0, rfl, hs0, _⟩ := ((hx0v.x e5).x e6).rdE
        show if (!fitsR b) = true then _ else _
        refine ite_b (fun h6 => ?_) (fun h6 => ?_)
        · exact ⟨.ref a, rfl, r1 (by rw [show fitsR b = false by simpa using h6]; rfl) _ _ e6 trivial⟩
        · refine ⟨.ref a, rfl, a, _, 0, _, rfl, rfl, hs, rfl, .ref D, rfl, D, ys, 0, .ref a0, rfl, rfl, .of (e6 _ _ (e5 _ _ hD3)), atI_nat (j := 0) hx0, a0, _, 0, _, rfl, rfl, hs0, rfl, rfl, _, rfl, ?_⟩
          have h6' : fitsR b = true := by simpa using h6
          have ed : (!decide (V.int b.p = V.int r0.p)) = !(fitsR b && decide (b.p = r0.p)) := by
            rw [h6', Bool.true_and]
            congr 1
            rw [Bool.eq_iff_iff, decide_eq_true_iff, decide_eq_true_iff]
            exact ⟨fun z => by injection z, fun z => by rw [z]⟩
          rw [ed]
          exact ite_b (fun h7 => ⟨.ref a, rfl, r1 h7 _ _ e6 trivial⟩) (fun h7 => rr0 h7 _ e6)
      · have hzl2 := Paired.length hpr
        have e14 := e13.trans e5
        have hDD := e5 _ _ hD3
        refine ⟨.ref D2, rfl, Nat.zero_le _, fun q5 hq5 => ?_⟩
        have e6 : Ex H4 (upd H4 q5 (.lst [])) := Ex.new hq5
        have hq6 : upd H4 q5 (.lst []) q5 = some (.lst []) := upd_same
        generalize upd H4 q5 (.lst []) = H5 at e6 hq6
        refine ⟨D2, q5, zs, rfl, rfl, .inl ⟨.of (e6 _ _ hD4), .of hq6⟩, _, rfl, ite_b (fun h8 => ⟨.ref D, rfl, k D _ (e14.trans e6) ?_⟩) (fun h8 => none_ ?_ _ (e14.trans e6))⟩
        · have hz0 : zs = [] := List.isEmpty_iff.mp h8
          rw [hz0] at hzl2
          have hf : rs.filter (fun r => !(fitsR r && decide (r.p = r0.p))) = [] := List.length_eq_zero_iff.mp hzl2
          have hall : okLot (rs.map some) = true := by
            rw [ek, List.all_eq_true]
            intro r hr
            have := List.filter_eq_nil_iff.mp hf r hr
            simpa using this
          unfold lrD
          rw [eL, if_pos hall]
          exact .lst (.of (e6 _ _ hDD)) ((hra4.x e5).x e6)
        · have hall : okLot (rs.map some) = false := by
            cases hk : okLot (rs.map some) with
            | false => rfl
            | true =>
              rw [ek, List.all_eq_true] at hk
              have hf : rs.filter (fun r => !(fitsR r && decide (r.p = r0.p))) = [] := List.filter_eq_nil_iff.mpr fun r hr => by rw [hk r hr]; decide
              rw [hf] at hzl2
              rw [List.length_eq_zero_iff.mp hzl2.symm] at h8
              exact absurd h8 (by decide)
          rw [eL, hall]
          rfl
end
end Lk
namespace Lk
open PySem PySem.Spec PyProof.Rows L2 Evl Lm TL
theorem sc_lget : FnScope ["self"] ["self"] (defScope (mth 32 3)) := ⟨rfl, rfl, rfl, by decide +kernel, rfl, by decide +kernel, by decide +kernel⟩
section
variable {P : Program} {w : World} {K : PySem.W.Frag} {mg : Str → Option Value} {base : Heap}
theorem ok_lrounds (T : Txt K mg) : FnR P w K mg base CX0 1 (He5.wf K (cL K) "property" "rounds") (spSlot (cL K) 0) := by
  refine mkD T.l_rounds.df sc_lget (fun vs H Q E h => ?_) (fun _ _ _ _ _ _ us hl => match us, hl with | [_], _ => rfl) (fun cdv A outer s H vs Q E hr h => ?_)
  · obtain ⟨a, dx, ss, v, rfl, _⟩ := h
    rfl
  · obtain ⟨a, dx, ss, v, rfl, hs, hv, k⟩ := h
    exact ⟨_, (pss_one (ps_ret (SlX.pe_sl (pv 0)))), .ref a, rfl, a, _, dx, _, ss, 0, v, rfl, hs, T.l_f.sc, T.l_s0, hv, k⟩
end
theorem pe_rounds {X : Cx} {e : Expr} {te : TE} {pos : Pos} {j : Nat} (T : Txt X.K X.mg) (he : PE X e te) (hr : Room j X.A) (hj : 2 ≤ j := by decide) (hb : attributeBase e "rounds" X.env (eval e X.env) = eval e X.env := by rfl) : PE X (.Attribute e "rounds" pos) (tRp (cL X.K) 0 te) :=
  pe_prop_ he T.l_f.sc T.l_rounds.at_ T.l_rounds.get T.l_rounds.tk T.l_rounds.rc (ok_lrounds T) hr hj hb
section
variable {P : Program} {w : World} {K : PySem.W.Frag} {mg : Str → Option Value} {base : Heap}
/-! ### _law_lot_told -/
def spLT (K : PySem.W.Frag) : Sp := fun vs H Q _ => ∃ v rs, vs = [v] ∧ LtAt K H v rs ∧ rs.length ≤ 1000 ∧ ∀ l H', Ex H H' → Rp K H' (.ref l) (crD rs) → (∀ G acc, H G = some (.lst acc) → Rp K (hide G H') (.ref l) (crD rs)) → Q (.ref l) H'
theorem sc63 : FnScope ["_law_mine", "_law_each"] ["_law_mine"] (defScope (top 63)) := ⟨rfl, rfl, rfl, by decide +kernel, rfl, by decide +kernel, by decide +kernel⟩
theorem ok__law_lot_told (T : Txt K mg) : FnR P w K mg base CX0 3 (He.ga K "_law_lot_told") (spLT K) := by
  refine mkD T.d__law_lot_told.df sc63 (fun vs H Q E h => ?_) (fun _ _ _ _ _ _ us hl => match us, hl with | [_], _ => rfl) (fun cdv A outer s H vs Q E hr h => ?_)
  · obtain ⟨v, rs, rfl, _⟩ := h
    rfl
  · obtain ⟨v, rs, rfl, hv, hn, k⟩ := h
    refine ⟨_, (pss_one (ps_ret (pe_lc (own := [("_law_each", 1)]) (te := tLst (tCons (tRp (cR K) 2 (tVar 1)) (tCons (tRp (cR K) 1 (tVar 1)) (tCons (tRp (cR K) 0 (tVar 1)) tNil)))) rfl sc63.nd (pi_tup (pe_rounds T (pv 0) hr)) (blkOk_by (N := ["_law_mine", "_law_each"]) (sc := defScope (top 63)) (by decide +kernel)) (fun _ _ _ _ _ => (pg_name (i := 1) sc63.nd rfl (.inl rfl))) (fun _ _ _ _ _ => pts_nil) (fun _ _ _ _ _ => (pe_lst (pa_cons (pe_levels T (pv 1) hr) (pa_cons (pe_lamps T (pv 1) hr) (pa_cons (pe_end T (pv 1) hr) pa_nil)))))))), ?_⟩
    obtain ⟨a, dx, ss, t, us, rfl, hs, h0, ht, hp⟩ := hv.ex
    have hlen : rs.length = us.length := Paired.length hp
    refine ⟨.ref a, rfl, a, dx, ss, _, rfl, hs, h0, t, rfl, ⟨us, ht⟩, fun D hD => lcT (xs := us) rs (fun _ => true) (fun r y H' => Rp K H' y (rdD r) ∧ ∀ G acc, H G = some (.lst acc) → Rp K (hide G H') y (rdD r)) (fun _ _ _ _ e h => ⟨h.1.x e, fun G acc hG => (h.2 G acc hG).x (ex_hide e)⟩) ht hlen (by omega) hD (fun i b x H3 R1 R0 hb hx e3 hac r1 r0 => ?_) (fun H3 ys e3 hD3 hly hpr => ?_)⟩
    · obtain ⟨r, hr9, hx9⟩ := pget hp hx
      rw [hb] at hr9
      cases hr9
      obtain ⟨acc, hac⟩ := hac
      obtain ⟨a', dx', ss', L, rfl, hs', h0', h1', h2', hL⟩ := (hx9.x e3).ex
      refine ⟨rfl, .ref a', rfl, a', dx', ss', _, rfl, hs', h2', .ref a', rfl, a', dx', ss', _, rfl, hs', h1', .ref a', rfl, a', dx', ss', _, rfl, hs', h0', by show 3 ≤ sizeLine; decide, fun q hq => r1 rfl _ _ (Ex.new hq) ?_⟩
      have e4 : Ex H3 (upd H3 q (.lst [.int b.p, L, .int b.e])) := Ex.new hq
      have hqD : q ≠ D := fun z => by rw [z, hac] at hq; cases hq
      have hR : Rp K (upd H3 q (.lst [.int b.p, L, .int b.e])) (.ref q) (rdO (some b)) := .lst (.of upd_same) (.cons (.int b.p) (.cons (hL.x e4) (.cons (.int b.e) .nil)))
      have hR1 := Rp.rdHide (o := some b) (e4 _ _ hac) hqD hR
      refine ⟨hR1, fun G acc' hG => Rp.rdHide (o := some b) (acc := acc') ?_ (fun z => ?_) hR1⟩
      · rw [hide_ne (fun z => by rw [z, hD] at hG; cases hG)]
        exact e4 _ _ (e3 _ _ hG)
      · have := e3 _ _ hG
        rw [← z, hq] at this
        cases this
    · rw [filter_T] at hpr
      refine k D H3 e3 (.lst (.of hD3) (paired_rpa hide_ex (hpr.mono fun _ _ h => h.1))) fun G acc hG => .lst (.of ?_) (paired_rpa (ex_hide hide_ex) (hpr.mono fun _ _ h => h.2 G acc hG))
      rw [hide_ne (fun z => by rw [← z, hD] at hG; cases hG)]
      exact hD3
end
end Lk
namespace Lk
open PySem PySem.Spec PyProof.Rows L2 Evl Lm TL
theorem RpA.two {K : PySem.W.Frag} {H : Hp} {xs : List V} {ds : List PyData} (h : RpA K H xs ds) (e : ds.length = 2) : ∃ v0 v1 d0 d1, xs = [v0, v1] ∧ ds = [d0, d1] ∧ Rp K H v0 d0 ∧ Rp K H v1 d1 := by
  cases h with
  | nil => cases e
  | cons h0 t =>
    cases t with
    | nil => cases e
    | cons h1 t =>
      cases t with
      | nil => exact ⟨_, _, _, _, rfl, rfl, h0, h1⟩
      | cons _ _ => simp only [List.length_cons] at e; omega
section
variable {P : Program} {w : World} {K : PySem.W.Frag} {mg : Str → Option Value} {base : Heap}
/-! ### _law_wrong_change -/
def wcL (n : Nat) : PyData → List V
  | .tuple ds => match wrongI n ds with
    | some i => [.int (i : Int)]
    | none => []
  | _ => [.non]
def spWC (K : PySem.W.Frag) : Sp := fun vs H Q _ => ∃ (n : Nat) (v : V) (d : PyData), vs = [.int (n : Int), v] ∧ Rp K H v d ∧ (∀ ds, d = .tuple ds → ds.length ≤ 1000) ∧ ∀ l H', Ex H H' → H' l = some (.lst (wcL n d)) → Q (.ref l) H'
theorem sc65 : FnScope ["_law_many", "_law_value", "_law_at", "_law_each", "_law_ahead"] ["_law_many", "_law_value"] (defScope (top 65)) := ⟨rfl, rfl, rfl, by decide +kernel, rfl, by decide +kernel, by decide +kernel⟩
theorem ok__law_wrong_change (T : Txt K mg) : FnR P w K mg base CX0 2 (He.ga K "_law_wrong_change") (spWC K) := by
  refine mkD T.d__law_wrong_change.df sc65 (fun vs H Q E h => ?_) (fun _ _ _ _ _ _ us hl => match us, hl with | [_, _], _ => rfl) (fun cdv A outer s H vs Q E hr h => ?_)
  · obtain ⟨n, v, d, rfl, _⟩ := h
    rfl
  · obtain ⟨n, v, d, rfl, hv, hdl, k⟩ := h
    refine ⟨_, (pss_cons (ps_if (pt_not (pt_val (b_isi T (pa_cons (pv 1) (pa_cons (pn_tuple T) pa_nil)))))
      (pss_one (ps_ret (pe_lst (pa_cons pe_non pa_nil))))
      pss_nil)
      (pss_cons (ps_for PassesOwn.never rfl (pi_range1 rfl T.f_range (pa_cons (b_len T (pa_cons (pv 1) pa_nil)) pa_nil)) (pg_name (i := 2) sc65.nd rfl (.inl rfl))
      (pss_cons (ps_set (i := 3) sc65.nd rfl (.inl rfl) (pe_ix ix_tup (pv 1) (pv 2) (fun _ _ => rfl)))
        (pss_cons (ps_if (PW.pt (pw_or (pt_not (pt_val (b_isi T (pa_cons (pv 3) (pa_cons (pn_tuple T) pa_nil))))) (pw_or (pt_cmpR op_ne (b_len T (pa_cons (pv 3) pa_nil)) pe_int (nomark _)) (pw_or (pt_not (pt_val (pe_d T.d__law_is_whole (ok__law_is_whole T) hr (pa_cons (pe_ix ix_tup (pv 3) pe_int (fun _ _ => rfl)) pa_nil)))) (pw_or1 (pt_not (pt_val (b_isi T (pa_cons (pe_ix ix_tup (pv 3) pe_int (fun _ _ => rfl)) (pa_cons (pn_str T) pa_nil))))))))))
        (pss_one (ps_ret (pe_lst (pa_cons (pv 2) pa_nil))))
        pss_nil)
        (pss_one (ps_if (PW.pt (pw_or (pt_not (pt_chain op_le op_lt pe_int (pe_ix ix_tup (pv 3) pe_int (fun _ _ => rfl)) (pv 0))) (pw_or (pt_cmpR op_inS pe_str (pe_ix ix_tup (pv 3) pe_int (fun _ _ => rfl)) (by rfl)) (pw_or1 (pt_cmpR op_in_seq (pe_ix ix_tup (pv 3) pe_int (fun _ _ => rfl)) (pe_lc (own := [("_law_ahead", 4)]) (te := tOp (rIxT K) (tVar 4) (tC (.int 0))) rfl sc65.nd (pi_tup (pe_slice sl_tupA (pv 1) po_none (po_some (pv 2)))) (blkOk_by (N := ["_law_many", "_law_value", "_law_at", "_law_each", "_law_ahead"]) (sc := defScope (top 65)) (by decide +kernel)) (fun _ _ _ _ _ => (pg_name (i := 4) sc65.nd rfl (.inl rfl))) (fun _ _ _ _ _ => pts_nil) (fun _ _ _ _ _ => (pe_ix ix_tup (pv 4) pe_int (fun _ _ => rfl)))) (by rfl))))))
        (pss_one (ps_ret (pe_lst (pa_cons (pv 2) pa_nil))))
        pss_nil)))))
      (pss_one (ps_ret (pe_lst pa_nil))))), ?_⟩
    refine ⟨v, rfl, v, _, _, _, _, rfl, .ty _, hv.ty, kit_tuple d, _, rfl, ite_b (fun h => ⟨by show 1 ≤ sizeLine; decide, fun l hl => k l _ (Ex.new hl) ?_⟩) (fun h => ?_)⟩
    · have e : wcL n d = [.non] := by cases d <;> first | rfl | cases h
      rw [e]
      exact upd_same
    obtain ⟨ds, rfl⟩ : ∃ ds, d = .tuple ds := by
      cases d <;> first | exact ⟨_, rfl⟩ | cases h
    have hsl := hdl ds rfl
    obtain ⟨ca, us, rfl, hca, hcr⟩ := hv.tupE
    have hlen : us.length = ds.length := hcr.len
    have eO : wcL n (.tuple ds) = match wrongI n ds with
      | some i => [.int (i : Int)]
      | none => [] := rfl
    refine ⟨.ref ca, rfl, .ref ca, us.length, rfl, .inr ⟨us, hca, rfl⟩, _, rfl, by omega, by omega, ?_⟩
    rw [Int.toNat_natCast]
    refine for_range (lo := 0) (n := us.length) (fun i σ' H' => (∃ u w o, σ' = [some (.int (n : Int)), some (.ref ca), u, w, o]) ∧ Ex H H' ∧ ∀ j, j < i → badAt n ds j = false) ⟨⟨_, _, _, rfl⟩, .refl _, fun j hj => absurd hj (Nat.not_lt_zero _)⟩ ?_ ?_
    · rintro i σ' H' hi ⟨⟨u, w', o', rfl⟩, e1, hg⟩
      have ez : (0 : Int) + (i : Nat) = (i : Nat) := by omega
      rw [ez]
      have hget : us[i]? = some us[i] := List.getElem?_eq_getElem hi
      obtain ⟨dx, hdx, hxv⟩ := (hcr.x e1).get hget
      generalize hx : us[i] = x at hget hxv
      have hilt : i < ds.length := by omega
      have bad : badAt n ds i = true → ∀ H9, Ex H' H9 → [V.int (i : Nat)].length ≤ sizeLine ∧ ∀ l, H9 l = none → Q (.ref l) (upd H9 l (.lst [.int (i : Nat)])) := fun hb H9 e9 => by
        refine ⟨by show 1 ≤ sizeLine; decide, fun l hl => k l _ ((e1.trans e9).trans (Ex.new hl)) ?_⟩
        have ew : wrongI n ds = some i := by
          unfold wrongI
          exact List.find?_range_eq_some.mpr ⟨hb, List.mem_range.mpr hilt, fun j hj => by rw [hg j hj]; rfl⟩
        rw [eO, ew]
        exact upd_same
      have eb : badAt n ds i = (!chOk1 n dx || (ds.take i).any fun e => decide (key1 e = key1 dx)) := by
        unfold badAt
        rw [hdx]
      have badK : chOk1 n dx = false → badAt n ds i = true := fun h => by rw [eb, h]; rfl
      have hca1 := ex_t e1 hca
      refine ⟨.ref ca, rfl, .int (i : Nat), rfl, ca, us, _, x, rfl, rfl, hca1, atI_nat hget, ?_⟩
      refine ⟨x, rfl, x, _, _, _, _, rfl, .ty _, hxv.ty, kit_tuple dx, _, rfl, ite_b (fun h1 => itT ⟨.int (i : Nat), rfl, bad (badK ?_) _ (.refl _)⟩) (fun h1 => ?_)⟩
      · cases dx <;> first | rfl | cases h1
      obtain ⟨es, rfl⟩ : ∃ es, dx = .tuple es := by
        cases dx <;> first | exact ⟨_, rfl⟩ | cases h1
      obtain ⟨q, xs, rfl, hq, ha⟩ := hxv.tupE
      have hlx : xs.length = es.length := ha.len
      refine ⟨.ref q, rfl, .ref q, xs.length, rfl, .inr ⟨xs, hq, rfl⟩, rfl, _, rfl, ite_b (fun h2 => itT ⟨.int (i : Nat), rfl, bad (badK (chOk1_len fun z => ?_)) _ (.refl _)⟩) (fun h2 => ?_)⟩
      · rw [hlx, z] at h2
        exact absurd h2 (by decide)
      have h2' : es.length = 2 := by
        simp only [Bool.not_eq_false', decide_eq_true_eq] at h2
        injection h2 with h2
        omega
      obtain ⟨v0, v1, d0, d1, rfl, rfl, hd0, hd1⟩ := ha.two h2'
      refine ⟨.ref q, rfl, q, _, 0, v0, rfl, rfl, hq, rfl, v0, d0, rfl, hd0, _, rfl, ite_b (fun h3 => itT ⟨.int (i : Nat), rfl, bad (badK (chOk1_ty (.inl (by simpa using h3)))) _ (.refl _)⟩) (fun h3 => ?_)⟩
      refine ⟨.ref q, rfl, q, _, 1, v1, rfl, rfl, hq, rfl, v1, _, _, _, _, rfl, .ty _, hd1.ty, kit_str d1, _, rfl, ite_b (fun h4 => ⟨.int (i : Nat), rfl, bad (badK (chOk1_ty (.inr (by simpa using h4)))) _ (.refl _)⟩) (fun h4 => ?_)⟩
      obtain ⟨kk, rfl⟩ : ∃ i, d0 = .int i := by
        cases d0 <;> first | exact ⟨_, rfl⟩ | cases h3
      obtain ⟨z, rfl⟩ : ∃ i, d1 = .str i := by
        cases d1 <;> first | exact ⟨_, rfl⟩ | cases h4
      cases hd0
      cases hd1
      have ec : chOk1 n (.tuple [.int kk, .str z]) = (decide (0 ≤ kk) && decide (kk < n) && !decide (10 ∈ tl z)) := rfl
      refine ⟨.ref q, rfl, q, _, 0, .int kk, rfl, rfl, hq, rfl, 0, kk, rfl, rfl, _, rfl, ite_b (fun h5 => ⟨.int (n : Int), rfl, kk, n, rfl, rfl, _, rfl, ite_b (fun h6 => itT ⟨.int (i : Nat), rfl, bad (badK ?_) _ (.refl _)⟩) (fun h6 => ?_)⟩) (fun h5 => ⟨_, rfl, itT (itT ⟨.int (i : Nat), rfl, bad (badK ?_) _ (.refl _)⟩)⟩)⟩
      · rw [ec, show decide (kk < (n : Int)) = false by simpa using h6, Bool.and_false]; rfl
      · refine ⟨.ref q, rfl, q, _, 1, .str z, rfl, rfl, hq, rfl, 10, z, isNl z, rfl, _, rfl, ite_b (fun h7 => itT ⟨.int (i : Nat), rfl, bad (badK ?_) _ (.refl _)⟩) (fun h7 => ?_)⟩
        · rw [ec, show decide (10 ∈ tl z) = true from h7]; simp
        have h1' : chOk1 n (.tuple [.int kk, .str z]) = true := by
          rw [ec, show decide (10 ∈ tl z) = false from h7, show decide (kk < (n : Int)) = true by simpa using h6, show decide (0 ≤ kk) = true from h5]; rfl
        have hprev : ∀ e ∈ ds.take i, chOk1 n e = true := fun e he => by
          obtain ⟨j, hj, ej⟩ := List.mem_iff_getElem.mp he
          have hj2 : j < i := by rw [List.length_take] at hj; omega
          have hj3 : j < ds.length := by omega
          refine badAt_none (i := j) ?_ (hg j hj2)
          rw [List.getElem_take] at ej
          rw [List.getElem?_eq_getElem hj3, ej]
        obtain ⟨hcs, _⟩ := csOf_eq hprev
        generalize csOf (ds.take i) = cs at hcs
        refine ⟨.ref q, rfl, q, _, 0, .int kk, rfl, rfl, hq, rfl, .ref ca, rfl, .int (i : Nat), rfl, (i : Int), rfl, slA hca1 fun p H3 e5 hp3 => ?_⟩
        rw [cutV_to] at hp3
        have hra : RpA K H3 (us.take i) (cs.map chD) := by rw [← hcs]; exact (hcr.x (e1.trans e5)).take i
        have hcl : (us.take i).length = cs.length := by rw [hra.len, List.length_map]
        have hcl2 : (us.take i).length ≤ us.length := by rw [List.length_take]; omega
        refine ⟨p, rfl, ⟨_, hp3⟩, fun D hD => lcT (xs := us.take i) cs (fun _ => true) (fun c y _ => y = .int (c.1 : Int)) (fun _ _ _ _ _ h => h) hp3 hcl.symm (by omega) hD (fun j b y H4 R1 R0 hb hy e6 hac r1 r0 => ?_) (fun H4 ys e6 hD4 hly hpr => ?_)⟩
        · obtain ⟨b', hb', hyv⟩ := hra.getM hy
          rw [hb] at hb'
          cases hb'
          obtain ⟨q', rfl, hq'⟩ := hyv.chE
          exact ⟨rfl, .ref q', rfl, q', _, 0, .int (b.1 : Int), rfl, rfl, ex_t e6 hq', rfl, r1 rfl _ _ (.refl _) rfl⟩
        · rw [filter_T] at hpr
          have hy := paired_map hpr
          have hy2 : ys = (cs.map fun c => (c.1 : Int)).map V.int := by rw [hy, List.map_map]; rfl
          subst hy2
          have ei : inV (.int kk) ((cs.map fun c => (c.1 : Int)).map V.int) = (ds.take i).any fun e => decide (key1 e = key1 (.tuple [.int kk, .str z])) := by
            rw [inV_keys, hcs, List.any_map, List.any_map]
            congr 1
            funext c
            show decide ((c.1 : Int) = kk) = decide (some (c.1 : Int) = some kk)
            rw [Bool.eq_iff_iff, decide_eq_true_iff, decide_eq_true_iff]
            exact ⟨fun z => by rw [z], fun z => by injection z⟩
          refine ⟨D, _, rfl, .inl (.of hD4), rfl, ?_, _, rfl, ?_⟩
          · rw [List.all_map, List.all_eq_true]
            intro _ _
            rfl
          · show if inV (.int kk) ((cs.map fun c => (c.1 : Int)).map V.int) = true then _ else _
            rw [ei]
            have e56 := e5.trans e6
            refine ite_b (fun h8 => ⟨.int (i : Nat), rfl, bad ?_ _ e56⟩) (fun h8 => ⟨⟨_, _, _, rfl⟩, e1.trans e56, fun j hj => ?_⟩)
            · rw [eb, h8, Bool.or_true]
            · rcases Nat.lt_succ_iff_lt_or_eq.mp hj with hj | hj
              · exact hg j hj
              · rw [hj, eb, h1', h8]; rfl
      · rw [ec, show decide (0 ≤ kk) = false from h5]; rfl
    · rintro σ' H' ⟨⟨u, w', o', rfl⟩, e1, hg⟩
      rw [hlen] at hg
      have ew : wrongI n ds = none := by
        unfold wrongI
        rw [List.find?_eq_none]
        intro j hj
        rw [hg j (List.mem_range.mp hj)]
        exact Bool.false_ne_true
      refine ⟨Nat.zero_le _, fun l hl => k l _ (e1.trans (Ex.new hl)) ?_⟩
      rw [eO, ew]
      exact upd_same
end
end Lk
namespace Lk
open PySem PySem.Spec PyProof.Rows L2 Evl Lm TL
theorem ExP.at {pl d : Addr} {H H' : Hp} {o : HO} (e : ExP pl H H') (h : H d = some o) (hd : d ≠ pl) : H' d = some o := by
  have := e.ex d o (by rw [hide_ne hd]; exact h)
  rwa [hide_ne hd] at this
theorem PailAt.ne {pl d : Addr} {H : Hp} (h : PailAt pl H) (hd : H d = none) : d ≠ pl := fun z => by
  obtain ⟨a, b, c, e, _⟩ := h
  rw [z, e] at hd
  cases hd
theorem ExP.mut {pl d : Addr} {H H' : Hp} {o : HO} (e : ExP pl H H') (h : H d = none) (hd : d ≠ pl) : ExP pl H (L2.upd H' d o) := by
  obtain ⟨a, b, c, h1, h2⟩ := e.pail
  refine ⟨fun b ob q => ?_, a, b, c, by rw [upd_ne (Ne.symm hd)]; exact h1, h2⟩
  have hbp : b ≠ pl := fun z => by rw [z, hide_same] at q; cases q
  have q' : H b = some ob := by rwa [hide_ne hbp] at q
  have hbd : b ≠ d := fun z => by rw [z, h] at q'; cases q'
  rw [hide_ne hbp, upd_ne hbd]
  exact e.at q' hbp
/-! ### charts -/
structure CK (p : Int) (B : Nat) (kvs : List (Key × V)) : Prop where
  all : ∀ kv ∈ kvs, ∃ a l : Int, kv = (Sum.inl a, .int l) ∧ a.natAbs < B ∧ 0 < l ∧ l < p
  nd : (kvs.map (·.1)).Nodup
theorem CK.nil {p : Int} {B : Nat} : CK p B [] := ⟨fun _ h => (by cases h), List.nodup_nil⟩
theorem CK.put {p : Int} {B : Nat} {kvs : List (Key × V)} (h : CK p B kvs) {a l : Int} (h1 : a.natAbs < B) (h2 : 0 < l) (h3 : l < p) : CK p B (putK kvs (Sum.inl a) (.int l)) := by
  unfold putK
  split
  · refine ⟨fun kv hkv => ?_, ?_⟩
    · obtain ⟨kv', hk, rfl⟩ := List.mem_map.mp hkv
      obtain ⟨a', l', rfl, h4⟩ := h.all kv' hk
      by_cases e : (Sum.inl a' : Key) = Sum.inl a
      · rw [if_pos e]
        exact ⟨a', l, rfl, h4.1, h2, h3⟩
      · rw [if_neg e]
        exact ⟨a', l', rfl, h4⟩
    · rw [List.map_map]
      have : ((fun kv : Key × V => kv.1) ∘ fun kv => if kv.1 = Sum.inl a then (kv.1, V.int l) else kv) = fun kv => kv.1 := by
        funext kv
        show (if kv.1 = Sum.inl a then (kv.1, V.int l) else kv).1 = kv.1
        split <;> rfl
      rw [this]
      exact h.nd
  · rename_i hn
    refine ⟨fun kv hkv => ?_, ?_⟩
    · rcases List.mem_append.mp hkv with hk | hk
      · exact h.all kv hk
      · rw [List.mem_singleton.mp hk]
        exact ⟨a, l, rfl, h1, h2, h3⟩
    · rw [List.map_append, List.nodup_append]
      refine ⟨h.nd, by simp, fun x hx y hy => ?_⟩
      rw [List.mem_singleton.mp (show y ∈ [(Sum.inl a : Key)] from hy)]
      rintro rfl
      refine hn ?_
      obtain ⟨kv, hk, e⟩ := List.mem_map.mp hx
      exact List.any_eq_true.mpr ⟨kv, hk, decide_eq_true e⟩
def keyI : Key → Int
  | Sum.inl a => a
  | Sum.inr _ => 0
def lvl (kvs : List (Key × V)) (a : Int) : Int := match valV kvs (Sum.inl a) with
  | some (.int l) => l
  | _ => 0
theorem CK.keys {p : Int} {B : Nat} {kvs : List (Key × V)} (h : CK p B kvs) : (kvs.map fun kv => kV kv.1) = (kvs.map fun kv => keyI kv.1).map V.int := by
  rw [List.map_map]
  refine List.map_congr_left fun kv hkv => ?_
  obtain ⟨a, l, rfl, _⟩ := h.all kv hkv
  rfl
theorem valV_mem {kvs : List (Key × V)} {k : Key} {v : V} (h : valV kvs k = some v) : (k, v) ∈ kvs := by
  unfold valV at h
  cases hf : kvs.find? (fun kv => decide (kv.1 = k)) with
  | none => rw [hf] at h; cases h
  | some kv =>
    rw [hf] at h
    have h1 := List.mem_of_find?_eq_some hf
    have h2 := List.find?_some hf
    have h3 : kv.1 = k := of_decide_eq_true h2
    have h4 : kv.2 = v := Option.some.inj h
    rw [← h3, ← h4]
    exact h1
theorem CK.val {p : Int} {B : Nat} {kvs : List (Key × V)} (h : CK p B kvs) {a : Int} (ha : a ∈ kvs.map fun kv => keyI kv.1) : valV kvs (Sum.inl a) = some (.int (lvl kvs a)) ∧ a.natAbs < B ∧ 0 < lvl kvs a ∧ lvl kvs a < p := by
  obtain ⟨kv, hk, e⟩ := List.mem_map.mp ha
  obtain ⟨a', l, rfl, h1⟩ := h.all kv hk
  have e' : a' = a := e
  subst e'
  have hs : (valV kvs (Sum.inl a')).isSome = true := by
    rw [← valV_any]
    exact List.any_eq_true.mpr ⟨_, hk, decide_eq_true rfl⟩
  obtain ⟨v, hv⟩ := Option.isSome_iff_exists.mp hs
  obtain ⟨a2, l2, e2, h2⟩ := h.all _ (valV_mem hv)
  injection e2 with e3 e4
  injection e3 with e3
  have el : lvl kvs a' = l2 := by
    unfold lvl
    rw [hv, e4]
  rw [hv, e4, el]
  exact ⟨rfl, h1.1, h2.2⟩
theorem CK.nodup {p : Int} {B : Nat} {kvs : List (Key × V)} (h : CK p B kvs) : (kvs.map fun kv => keyI kv.1).Nodup := by
  have e : kvs.map (·.1) = (kvs.map fun kv => keyI kv.1).map Sum.inl := by
    rw [List.map_map]
    refine List.map_congr_left fun kv hkv => ?_
    obtain ⟨a, l, rfl, _⟩ := h.all kv hkv
    rfl
  have := h.nd
  rw [e] at this
  exact (List.pairwise_map.mp this).imp fun h e => h (by rw [e])
theorem okL_of {p : Int} {ls : List (Int × Int)} (h1 : ∀ a ∈ ls, 0 < a.2 ∧ a.2 < p) (h2 : ls.Pairwise fun a b => a.1 < b.1) : okL p (ls.map some) = true := by
  unfold okL
  rw [List.all_eq_true]
  intro i hi
  have hi' := List.mem_range.mp hi
  rw [List.length_map] at hi'
  unfold goodAt
  rw [List.getElem?_map, List.getElem?_eq_getElem hi']
  show (decide (0 < ls[i].2) && decide (ls[i].2 < p) && (decide (i = 0) || match (ls.map some)[i - 1]? with
    | some (some (q, _)) => decide (q < ls[i].1)
    | _ => false)) = true
  obtain ⟨g1, g2⟩ := h1 _ (List.getElem_mem hi')
  rw [decide_eq_true g1, decide_eq_true g2, Bool.true_and, Bool.true_and]
  by_cases h0 : i = 0
  · rw [decide_eq_true h0, Bool.true_or]
  · rw [List.getElem?_map, List.getElem?_eq_getElem (show i - 1 < ls.length by omega)]
    show (decide (i = 0) || decide (ls[i - 1].1 < ls[i].1)) = true
    rw [decide_eq_true (List.pairwise_iff_getElem.mp h2 (i - 1) i (by omega) hi' (by omega)), Bool.or_true]
/-- the chart told in order -/
theorem CK.told {p : Int} {B : Nat} {kvs : List (Key × V)} (h : CK p B kvs) {ns : List Int} (hp : ns.Perm (kvs.map fun kv => keyI kv.1)) (hs : ns.Pairwise (· ≤ ·)) :
    okL p ((ns.map fun a => (a, lvl kvs a)).map some) = true ∧ ns.length = kvs.length ∧ ∀ a ∈ ns, valV kvs (Sum.inl a) = some (.int (lvl kvs a)) ∧ a.natAbs < B ∧ 0 < lvl kvs a ∧ lvl kvs a < p := by
  have hm : ∀ a ∈ ns, valV kvs (Sum.inl a) = some (.int (lvl kvs a)) ∧ a.natAbs < B ∧ 0 < lvl kvs a ∧ lvl kvs a < p := fun a ha => h.val (hp.mem_iff.mp ha)
  refine ⟨okL_of (fun a ha => ?_) ?_, by rw [hp.length_eq, List.length_map], hm⟩
  · obtain ⟨x, hx, rfl⟩ := List.mem_map.mp ha
    exact (hm x hx).2.2
  · rw [List.pairwise_map]
    have hnd : ns.Nodup := hp.nodup_iff.mpr h.nodup
    exact (hs.and hnd).imp fun ⟨a1, a2⟩ => by
      show _ < _
      omega
section
variable {X : Cx} {e : Expr} {te : TE} {p pos : Pos} {es : List Expr} {t : TA} {j : Nat}
theorem b_listD (T : Txt X.K X.mg) (ha : PA X (e :: es) t) (hc : X.calm = true := by rfl) (hg : Gl X "list" := by rfl) (he : starEach (e :: es) X.env = (false, eval e X.env) :: starEach es X.env := by rfl) (hpl : (backTo pos (starEach es X.env)).any (·.1) = false := by rfl) :
    PE X (.Call (.Name "list" p) (e :: es) [] pos) (tCB (fun xs H Q => ∃ (a : Addr) (kvs : List (Key × V)), xs = [.ref a] ∧ Rd H a (.dK kvs) ∧ ∀ p, H p = none → Q (.ref p) (upd H p (.lst (kvs.map fun kv => kV kv.1)))) t) := pe_callTy (call_listD hc) hg T.f_list boot_list ha (he := he) (hpl := hpl)
theorem b_sorted (T : Txt X.K X.mg) (ha : PA X (e :: es) t) (hg : Gl X "sorted" := by rfl) (he : starEach (e :: es) X.env = (false, eval e X.env) :: starEach es X.env := by rfl) (hpl : (backTo pos (starEach es X.env)).any (·.1) = false := by rfl) :
    PE X (.Call (.Name "sorted" p) (e :: es) [] pos) (tCB (rSorted X.K) t) := pe_callB cr_sorted hg T.f_sorted boot_sorted ha (he := he) (hpl := hpl)
end
section
variable {P : Program} {w : World} {K : PySem.W.Frag} {mg : Str → Option Value} {base : Heap}
/-! ### _law_picture -/
def spPic (K : PySem.W.Frag) : Sp := fun vs H Q _ => ∃ pl p many, vs = [.ref pl, .int p, .int many] ∧ PailAt pl H ∧ 2 ≤ p ∧ p ≤ 7 ∧ 0 ≤ many ∧ many ≤ 5 ∧
  ∀ ls y H', ExP pl H H' → okL p (ls.map some) = true → ls.length ≤ 5 → (∀ a ∈ ls, a.1.natAbs < 10 ^ 40 ∧ a.2.natAbs < 10) → Rp K (Lk.hide pl H') y (lampsD ls) → Q y H'
theorem sc46 : FnScope ["_law_pail", "_law_p", "_law_many", "_law_chart", "_law_k", "_law_at"] ["_law_pail", "_law_p", "_law_many"] (defScope (top 46)) := ⟨rfl, rfl, rfl, by decide +kernel, rfl, by decide +kernel, by decide +kernel⟩
theorem noL_map (ls : List (Int × Int)) : noLs (ls.map fun a => lampD (some a)) = true := noL_lamps ls
theorem paired_lamps {K : PySem.W.Frag} {H0 H : Hp} {f : Int → Int} (e : Ex H0 H) {ns : List Int} {ys : List V} (h : Paired (fun a y => Rp K H0 y (lampD (some (a, f a)))) ns ys) : RpA K H ys ((ns.map fun a => (a, f a)).map fun a => lampD (some a)) := by
  rw [List.map_map]
  exact paired_rpa e h
theorem ok__law_picture (T : Txt K mg) : FnR P w K mg base CX0 4 (He.ga K "_law_picture") (spPic K) := by
  refine mkD T.d__law_picture.df sc46 (fun vs H Q E h => ?_) (fun _ _ _ _ _ _ us hl => match us, hl with | [_, _, _], _ => rfl) (fun cdv A outer s H vs Q E hr h => ?_)
  · obtain ⟨pl, p, many, rfl, _⟩ := h
    rfl
  · obtain ⟨pl, p, many, rfl, hp, hp2, hp7, hm0, hm5, k⟩ := h
    refine ⟨_, (pss_cons (ps_set (i := 3) sc46.nd rfl (.inr rfl) pe_dnewK)
      (pss_cons (ps_for PassesOwn.never rfl (pi_range1 rfl T.f_range (pa_cons (pv 2) pa_nil)) (pg_name (i := 4) sc46.nd rfl (.inl rfl))
      (pss_one (ps_dput (hu_of hr) (pv 3) (pe_d T.d__law_place (ok__law_place T) hr (pa_cons (pv 0) pa_nil)) (pe_op op_add pe_int (pe_d T.d__law_cast (ok__law_cast T) hr (pa_cons (pv 0) (pa_cons (pe_op op_sub (pv 1) pe_int) pa_nil)))) rfl)))
      (pss_one (ps_ret (b_tupL T (pa_cons (pe_lc (own := [("_law_at", 5)]) rfl sc46.nd (pi_list (b_sorted T (pa_cons (b_listD T (pa_cons (pv 3) pa_nil)) pa_nil))) (blkOk_by (N := ["_law_pail", "_law_p", "_law_many", "_law_chart", "_law_k", "_law_at"]) (sc := defScope (top 46)) (by decide +kernel)) (fun _ _ _ _ _ => (pg_name (i := 5) sc46.nd rfl (.inl rfl))) (fun _ _ _ _ _ => pts_nil) (fun _ _ _ _ _ => (pe_tup (pa_cons (pv 5) (pa_cons (pe_dget (hu_of hr) (pv 3) (pv 5) (fun _ _ => rfl)) pa_nil))))) pa_nil)))))), ?_⟩
    intro d hd
    have hdp := hp.ne hd
    have e0 : ExP pl H (upd H d (.dK [])) := (ExP.refl hp).mut hd hdp
    have hd0 : upd H d (.dK []) d = some (.dK []) := upd_same
    show (tSeq _ _ _ _ (upd H d (.dK [])) : Prop)
    generalize upd H d (.dK []) = H1 at e0 hd0
    refine ⟨.int many, rfl, many, rfl, by omega, by omega, for_range (lo := 0) (n := many.toNat) (fun i σ' H' => (∃ u, σ' = [some (.ref pl), some (.int p), some (.int many), some (.ref d), u, none]) ∧ ExP pl H H' ∧ ∃ kvs, H' d = some (.dK kvs) ∧ CK p (10 ^ 40) kvs ∧ kvs.length ≤ i) ⟨⟨_, rfl⟩, e0, [], hd0, .nil, Nat.le_refl _⟩ ?_ ?_⟩
    · rintro i σ' H' hi ⟨⟨u, rfl⟩, e1, kvs, hk, hck, hkl⟩
      refine ⟨.ref pl, rfl, .int p, rfl, p, 1, rfl, rfl, pl, p - 1, rfl, e1.pail, by omega, by omega, fun l H2 e2 hl1 hl2 => ⟨_, _, rfl, rfl, .ref d, rfl, .ref pl, rfl, pl, rfl, e2.pail, fun a H3 e3 ha => ?_⟩⟩
      have hk3 := e3.at (e2.at hk hdp) hdp
      refine ⟨d, _, rfl, DPut.k (k := Sum.inl a) hk3 (by rw [sizeLine_eq]; omega), ⟨_, rfl⟩, ((e1.trans e2).trans e3).mut hd hdp, _, upd_same, hck.put ha (by omega) (by omega), ?_⟩
      exact Nat.le_trans (length_putK kvs (Sum.inl a) (.int (1 + l))) (by omega)
    · rintro σ' H' ⟨⟨u, rfl⟩, e1, kvs, hk, hck, hkl⟩
      refine ⟨.ref d, rfl, d, kvs, rfl, .inl hk, fun q hq => ?_⟩
      have f1 : Ex H' (upd H' q (.lst (kvs.map fun kv => kV kv.1))) := Ex.new hq
      have f2 : upd H' q (.lst (kvs.map fun kv => kV kv.1)) q = some (.lst ((kvs.map fun kv => keyI kv.1).map V.int)) := by rw [upd_same, hck.keys]
      generalize upd H' q (.lst (kvs.map fun kv => kV kv.1)) = H2 at f1 f2
      refine ⟨q, _, rfl, .of f2, by rw [List.length_map]; omega, fun ns q2 hpm hst hq2 => ?_⟩
      obtain ⟨ho, hnl, hmem⟩ := hck.told hpm hst
      have f3 : Ex H2 (upd H2 q2 (.lst (ns.map V.int))) := Ex.new hq2
      have f4 : upd H2 q2 (.lst (ns.map V.int)) q2 = some (.lst (ns.map V.int)) := upd_same
      generalize upd H2 q2 (.lst (ns.map V.int)) = H3 at f3 f4
      have hk3 := f3 _ _ (f1 _ _ hk)
      refine ⟨q2, rfl, ⟨_, .of f4⟩, fun D hD => lcL (xs := ns.map V.int) ns (fun _ => true) (fun a y H => Rp K H y (lampD (some (a, lvl kvs a)))) (fun _ _ _ _ e h => h.x e) (.of f4) (by rw [List.length_map]) (by rw [List.length_map]; omega) hD (fun i b x H5 R1 R0 hb hx e5 hac r1 r0 => ?_) (fun H5 ys e5 hD5 hly hpr => ?_)⟩
      · have hxb : x = .int b := by
          rw [List.getElem?_map, hb] at hx
          exact (Option.some.inj hx).symm
        subst hxb
        obtain ⟨acc, hac⟩ := hac
        obtain ⟨m1, m2, m3⟩ := hmem b (List.mem_of_getElem? hb)
        have hdg : DGet H5 d (.int b) (some (.int (lvl kvs b))) := by rw [← m1]; exact DGet.k (k := Sum.inl b) (e5 _ _ hk3)
        refine ⟨rfl, .int b, rfl, .ref d, rfl, .int b, rfl, d, _, rfl, hdg, by show 2 ≤ sizeLine; decide, fun t ht => r1 rfl _ _ (Ex.new ht) ?_⟩
        exact Rp.hideT (Ex.new ht _ _ hac) _ _ (.tup (.of upd_same) (.cons (.int b) (.cons (.int _) .nil))) rfl
      · rw [filter_T] at hpr
        refine ⟨D, ys, rfl, .of hD5, fun t ht => ?_⟩
        have e6 : Ex H' (upd H5 t (.tup ys)) := ((f1.trans f3).trans e5).trans (Ex.new ht)
        have e7 := e1.on e6
        obtain ⟨acc, hacc⟩ := e7.pail.lst
        refine k (ns.map fun a => (a, lvl kvs a)) _ _ e7 ho (by rw [List.length_map]; omega) (fun a ha => ?_) (Rp.hideT hacc _ _ (.tup (.of upd_same) (paired_lamps (hide_ex.trans (Ex.new ht)) hpr)) (noL_lamps _))
        obtain ⟨x, hx, rfl⟩ := List.mem_map.mp ha
        obtain ⟨_, g2, g3, g4⟩ := hmem x hx
        exact ⟨g2, by show (lvl kvs x).natAbs < 10; omega⟩
end
end Lk
namespace Lk
open PySem PySem.Spec PyProof.Rows L2 Evl Lm TL
theorem newP {pl q : Addr} {H : Hp} {o : HO} (hp : PailAt pl H) (hq : H q = none) : PailAt pl (L2.upd H q o) ∧ ExP pl H (L2.upd H q o) ∧ (Lk.hide pl (L2.upd H q o)) q = some o :=
  ⟨hp.x (Ex.new hq), ExP.of hp (Ex.new hq), by rw [hide_ne (hp.ne hq), upd_same]⟩
theorem hide2_upd {D pl : Addr} {H : Hp} {o : HO} : hide D (hide pl (L2.upd H D o)) = hide D (hide pl H) := by
  funext b
  by_cases h : b = D
  · rw [h, hide_same, hide_same]
  · rw [hide_ne h, hide_ne h]
    by_cases h2 : b = pl
    · rw [h2, hide_same, hide_same]
    · rw [hide_ne h2, hide_ne h2, upd_ne h]
theorem hide_ex2 {D : Addr} {H H' : Hp} (e : Ex H H') : Ex (hide D H) (hide D H') := ex_hide e
/-- [.. for k in range(n)] whose turns draw from the pail -/
theorem lcRP {α : Type} {g : TG} {tt : TT} {te : TE} {vs : List Nat} {σ : L2.St} {H1 : Hp} {D pl : Addr} {Qd : Hp → Prop} {n : Nat} (F : α → V → Hp → Prop) (G : α → Prop) (Fm : ∀ a y H H', Ex H H' → F a y H → F a y H') (hp : PailAt pl H1) (hD : H1 D = none) (hn : n ≤ 1000)
    (hs : ∀ (i : Nat) (H : Hp) (R1 : V → Hp → Prop) (R0 : Hp → Prop), i < n → ExP pl H1 H → (∃ acc, H D = some (.lst acc)) → (∀ a y H4, ExP pl H H4 → G a → F a y (hide D (hide pl H4)) → R1 y H4) →
      g (.int (0 + (i : Nat))) (wipe σ vs) H fun σ2 H2 => wipe σ2 vs = wipe σ vs ∧ tt σ2 H2 fun b H3 => if b = true then te σ2 H3 R1 else R0 H3)
    (hd : ∀ H as ys, ExP pl H1 H → H D = some (.lst ys) → as.length = n → (∀ a ∈ as, G a) → Paired (fun a y => F a y (hide D (hide pl H))) as ys → Qd H) :
    ∃ W : Nat → Nat → Hp → Prop, (∃ m, W 0 m (L2.upd H1 D (.lst []))) ∧ ∀ i m H, W i m H →
      ((Itr 0 n).stop i H ∧ Qd H) ∨ ((Itr 0 n).go i H ∧ ∃ Nx : Hp → Prop, (∀ H', Nx H' → ∃ m', m' < m ∧ W (i + 1) m' H') ∧ ∀ x H', (Itr 0 n).yld i H x H' → g x (wipe σ vs) H' fun σ2 H2 => wipe σ2 vs = wipe σ vs ∧ tt σ2 H2 fun b H3 =>
        if b = true then te σ2 H3 fun y H4 => ∃ acc, H4 D = some (.lst acc) ∧ acc.length < sizeLine ∧ Nx (L2.upd H4 D (.lst (acc ++ [y]))) else Nx H3) := by
  have hDp := hp.ne hD
  refine lc_range (fun i H => ExP pl H1 H ∧ ∃ as ys, H D = some (.lst ys) ∧ as.length = i ∧ (∀ a ∈ as, G a) ∧ Paired (fun a y => F a y (hide D (hide pl H))) as ys) ⟨(ExP.refl hp).mut hD hDp, [], [], upd_same, rfl, fun a ha => (by cases ha), .nil⟩ (fun i H hi hw => ?_) (fun H hw => ?_)
  · obtain ⟨e1, as, ys, h1, h2, h3, h4⟩ := hw
    have hl := Paired.length h4
    refine hs i H _ _ hi e1 ⟨ys, h1⟩ fun a y H4 e4 ga fa => ⟨ys, e4.at h1 hDp, by rw [sizeLine_eq]; omega, (e1.trans e4).mut hD hDp, as ++ [a], ys ++ [y], upd_same, by simp [h2], fun b hb => ?_, ?_⟩
    · rcases List.mem_append.mp hb with hb | hb
      · exact h3 b hb
      · rw [List.mem_singleton.mp hb]; exact ga
    · rw [hide2_upd]
      exact paired_snoc (Paired.mapP h4 fun a y h => Fm _ _ _ _ (hide_ex2 e4.ex) h) fa
  · obtain ⟨e1, as, ys, h1, h2, h3, h4⟩ := hw
    exact hd H as ys e1 h1 h2 h3 h4
section
variable {P : Program} {w : World} {K : PySem.W.Frag} {mg : Str → Option Value} {base : Heap}
/-- a round's parts at a new list -/
theorem mkParts {pl l : Addr} {H H3 : Hp} {L : V} {r : RD} (hp : PailAt pl H3) (hl : H3 l = none) (hL : Rp K (hide pl H3) L (lampsD r.ls)) : Rp K (hide pl (L2.upd H3 l (.lst [.int r.p, L, .int r.e]))) (.ref l) (rdD r) :=
  .lst (.of (newP hp hl).2.2) (.cons (.int r.p) (.cons (hL.x (ex_hide (Ex.new hl))) (.cons (.int r.e) .nil)))
/-! ### _law_parts -/
def spPar (K : PySem.W.Frag) : Sp := fun vs H Q _ => ∃ pl, vs = [.ref pl] ∧ PailAt pl H ∧ ∀ r l H', ExP pl H H' → H l = none → Rp K (hide pl H') (.ref l) (rdD r) → Valid r → Small r → Q (.ref l) H'
theorem sc47 : FnScope ["_law_pail", "_law_p"] ["_law_pail"] (defScope (top 47)) := ⟨rfl, rfl, rfl, by decide +kernel, rfl, by decide +kernel, by decide +kernel⟩
theorem mem_lev {x : V} (h : x ∈ [V.int 2, .int 3, .int 5, .int 7]) : ∃ p, x = .int p ∧ isLev p = true ∧ 2 ≤ p ∧ p ≤ 7 := by
  simp only [List.mem_cons, List.not_mem_nil, or_false] at h
  rcases h with rfl | rfl | rfl | rfl <;> exact ⟨_, rfl, by decide, by decide, by decide⟩
theorem ok__law_parts (T : Txt K mg) : FnR P w K mg base CX0 5 (He.ga K "_law_parts") (spPar K) := by
  refine mkD T.d__law_parts.df sc47 (fun vs H Q E h => ?_) (fun _ _ _ _ _ _ us hl => match us, hl with | [_], _ => rfl) (fun cdv A outer s H vs Q E hr h => ?_)
  · obtain ⟨pl, rfl, _⟩ := h
    rfl
  · obtain ⟨pl, rfl, hp, k⟩ := h
    refine ⟨_, (pss_cons (ps_set (i := 1) sc47.nd rfl (.inl rfl) (pe_d T.d__law_any_of (ok__law_any_of T) hr (pa_cons (pv 0) (pa_cons (pe_lst (pa_cons pe_int (pa_cons pe_int (pa_cons pe_int (pa_cons pe_int pa_nil))))) pa_nil))))
      (pss_one (ps_ret (pe_lst (pa_cons (pv 1) (pa_cons (pe_d T.d__law_picture (ok__law_picture T) hr (pa_cons (pv 0) (pa_cons (pv 1) (pa_cons (pe_d T.d__law_any_of (ok__law_any_of T) hr (pa_cons (pv 0) (pa_cons (pe_lst (pa_cons pe_int (pa_cons pe_int (pa_cons pe_int (pa_cons pe_int (pa_cons pe_int pa_nil)))))) pa_nil))) pa_nil)))) (pa_cons (pe_d T.d__law_place (ok__law_place T) hr (pa_cons (pv 0) pa_nil)) pa_nil))))))), ?_⟩
    refine ⟨.ref pl, rfl, by show 4 ≤ sizeLine; decide, fun q hq => ?_⟩
    obtain ⟨n1, n2, n3⟩ := newP (o := .lst [.int 2, .int 3, .int 5, .int 7]) hp hq
    refine ⟨pl, q, _, rfl, n1, .of n3, by simp, by show 4 ≤ 1000; decide, fun x hx H1 e1 => ?_⟩
    obtain ⟨p, rfl, hlev, hp2, hp7⟩ := mem_lev hx
    have e01 := n2.trans e1
    refine ⟨.int p, rfl, .ref pl, rfl, .int p, rfl, .ref pl, rfl, by show 5 ≤ sizeLine; decide, fun q2 hq2 => ?_⟩
    obtain ⟨m1, m2, m3⟩ := newP (o := .lst [.int 0, .int 1, .int 2, .int 3, .int 5]) e01.pail hq2
    refine ⟨pl, q2, _, rfl, m1, .of m3, by simp, by show 5 ≤ 1000; decide, fun y hy H2 e2 => ?_⟩
    obtain ⟨c, rfl, hc0, hc5⟩ : ∃ c, y = .int c ∧ 0 ≤ c ∧ c ≤ 5 := by
      simp only [List.mem_cons, List.not_mem_nil, or_false] at hy
      rcases hy with rfl | rfl | rfl | rfl | rfl <;> exact ⟨_, rfl, by decide, by decide⟩
    have e02 := (e01.trans m2).trans e2
    refine ⟨pl, p, c, rfl, e02.pail, hp2, hp7, hc0, hc5, fun ls L H3 e3 ho hl5 hb hL => ?_⟩
    have e03 := e02.trans e3
    refine ⟨.ref pl, rfl, pl, rfl, e03.pail, fun i H4 e4 hi => ⟨by show 3 ≤ sizeLine; decide, fun l hl => ?_⟩⟩
    have e04 := e03.trans e4
    have hlH : H l = none := by
      cases hq9 : H l with
      | none => rfl
      | some o =>
        have := e04.at hq9 (e04.pail.ne hl)
        rw [hl] at this
        cases this
    exact k ⟨p, ls, i⟩ l _ (e04.trans (newP e04.pail hl).2.1) hlH (mkParts (H := H) (r := ⟨p, ls, i⟩) e04.pail hl (hL.x e4.ex)) ⟨hlev, ho, by show ls.length ≤ 400; omega⟩ ⟨by show p.natAbs < 10; omega, hi, hl5, hb⟩
/-! ### _law_tidy -/
def spTid (K : PySem.W.Frag) : Sp := fun vs H Q _ => ∃ (p : Int) (d : Addr) (kvs : List (Key × V)) (B : Nat), vs = [.int p, .ref d] ∧ H d = some (.dK kvs) ∧ CK p B kvs ∧ kvs.length ≤ 60 ∧ 0 < p ∧
  ∀ ls y H', Ex H H' → okL p (ls.map some) = true → ls.length = kvs.length → (∀ a ∈ ls, a.1.natAbs < B ∧ 0 < a.2 ∧ a.2 < p) → Rp K H' y (lampsD ls) → Q y H'
theorem sc55 : FnScope ["_law_p", "_law_chart", "_law_found", "_law_at", "_law_pair"] ["_law_p", "_law_chart"] (defScope (top 55)) := ⟨rfl, rfl, rfl, by decide +kernel, rfl, by decide +kernel, by decide +kernel⟩
theorem ok__law_tidy (T : Txt K mg) : FnR P w K mg base CX0 1 (He.ga K "_law_tidy") (spTid K) := by
  refine mkD T.d__law_tidy.df sc55 (fun vs H Q E h => ?_) (fun _ _ _ _ _ _ us hl => match us, hl with | [_, _], _ => rfl) (fun cdv A outer s H vs Q E hr h => ?_)
  · obtain ⟨p, d, kvs, B, rfl, _⟩ := h
    rfl
  · obtain ⟨p, d, kvs, B, rfl, hk, hck, hkl, hp0, k⟩ := h
    refine ⟨_, (pss_cons (ps_setLc (i := 2) rfl sc55.nd rfl rfl (sw_true rfl rfl rfl (by decide +kernel)) (own := [("_law_at", 3)]) (pi_list (b_sorted T (pa_cons (b_listD T (pa_cons (pv 1) pa_nil)) pa_nil))) (blkOk_by (N := ["_law_p", "_law_chart", "_law_found", "_law_at", "_law_pair"]) (sc := defScope (top 55)) (by decide +kernel)) (fun _ _ _ _ _ => (pg_name (i := 3) sc55.nd rfl (.inl rfl))) (fun _ _ _ _ _ => pts_nil) (fun _ _ _ _ _ => (pe_tup (pa_cons (pv 3) (pa_cons (pe_op op_mod (b_intI T (pa_cons (pe_dget (hu_of hr) (pv 1) (pv 3) (fun _ _ => rfl)) pa_nil)) (pv 0)) pa_nil)))))
      (pss_one (ps_ret (b_tupL T (pa_cons (pe_lc (own := [("_law_pair", 4)]) (tt := tTest (tOp rNe (tOp (rIxT K) (tVar 4) (tC (.int 1))) (tC (.int 0)))) rfl sc55.nd (pi_list (pv 2)) (blkOk_by (N := ["_law_p", "_law_chart", "_law_found", "_law_at", "_law_pair"]) (sc := defScope (top 55)) (by decide +kernel)) (fun _ _ _ _ _ => (pg_name (i := 4) sc55.nd rfl (.inl rfl))) (fun _ _ _ _ _ => (pts_one (pt_cmpR op_ne (pe_ix ix_tup (pv 4) pe_int (fun _ _ => rfl)) pe_int (nomark _)))) (fun _ _ _ _ _ => (pv 4))) pa_nil))))), ?_⟩
    refine ⟨.ref d, rfl, d, kvs, rfl, .inl hk, fun q hq => ?_⟩
    have f1 : Ex H (L2.upd H q (.lst (kvs.map fun kv => kV kv.1))) := Ex.new hq
    have f2 : L2.upd H q (.lst (kvs.map fun kv => kV kv.1)) q = some (.lst ((kvs.map fun kv => keyI kv.1).map V.int)) := by rw [upd_same, hck.keys]
    generalize L2.upd H q (.lst (kvs.map fun kv => kV kv.1)) = H2 at f1 f2
    refine ⟨q, _, rfl, .of f2, by rw [List.length_map]; omega, fun ns q2 hpm hst hq2 => ?_⟩
    obtain ⟨ho, hnl, hmem⟩ := hck.told hpm hst
    have f3 : Ex H2 (L2.upd H2 q2 (.lst (ns.map V.int))) := Ex.new hq2
    have f4 : L2.upd H2 q2 (.lst (ns.map V.int)) q2 = some (.lst (ns.map V.int)) := upd_same
    generalize L2.upd H2 q2 (.lst (ns.map V.int)) = H3 at f3 f4
    have hk3 := f3 _ _ (f1 _ _ hk)
    refine ⟨q2, rfl, ⟨_, .of f4⟩, fun D hD => lcL (xs := ns.map V.int) ns (fun _ => true) (fun a y H => Rp K H y (lampD (some (a, lvl kvs a)))) (fun _ _ _ _ e h => h.x e) (.of f4) (by rw [List.length_map]) (by rw [List.length_map]; omega) hD (fun i b x H5 R1 R0 hb hx e5 hac r1 r0 => ?_) (fun H5 ys e5 hD5 hly hpr => ?_)⟩
    · have hxb : x = .int b := by
        rw [List.getElem?_map, hb] at hx
        exact (Option.some.inj hx).symm
      subst hxb
      obtain ⟨acc, hac⟩ := hac
      obtain ⟨m1, m2, m3, m4⟩ := hmem b (List.mem_of_getElem? hb)
      have hdg : DGet H5 d (.int b) (some (.int (lvl kvs b))) := by rw [← m1]; exact DGet.k (k := Sum.inl b) (e5 _ _ hk3)
      refine ⟨rfl, .int b, rfl, .ref d, rfl, .int b, rfl, d, _, rfl, hdg, lvl kvs b, rfl, .int p, rfl, lvl kvs b, p, rfl, rfl, hp0, by show 2 ≤ sizeLine; decide, fun t ht => r1 rfl _ _ (Ex.new ht) ?_⟩
      have em : lvl kvs b % p = lvl kvs b := Int.emod_eq_of_lt (by omega) m4
      show Rp K (hide D (L2.upd H5 t (.tup [.int b, .int (lvl kvs b % p)]))) (.ref t) (lampD (some (b, lvl kvs b)))
      rw [em]
      exact Rp.hideT (Ex.new ht _ _ hac) _ _ (.tup (.of upd_same) (.cons (.int b) (.cons (.int _) .nil))) rfl
    · rw [filter_T] at hpr
      have hra : RpA K H5 ys ((ns.map fun a => (a, lvl kvs a)).map fun a => lampD (some a)) := paired_lamps hide_ex hpr
      have hyl := Paired.length hpr
      clear hpr
      refine ⟨.ref D, rfl, D, rfl, ⟨ys, .of hD5⟩, fun D2 hD2 => lcL (xs := ys) (ns.map fun a => (a, lvl kvs a)) (fun _ => true) (fun a y H => Rp K H y (lampD (some a))) (fun _ _ _ _ e h => h.x e) (.of hD5) (by rw [List.length_map]; omega) (by omega) hD2 (fun i b x H6 R1 R0 hb hx e6 hac r1 r0 => ?_) (fun H6 zs e6 hD6 hlz hpr2 => ?_)⟩
      · obtain ⟨b', hb', hxv⟩ := (hra.x e6).getM hx
        rw [hb] at hb'
        cases hb'
        obtain ⟨acc, hac⟩ := hac
        obtain ⟨a9, ha9, e9⟩ := List.mem_map.mp (List.mem_of_getElem? hb)
        obtain ⟨_, _, m3, _⟩ := hmem a9 ha9
        have hb2 : b.2 ≠ 0 := by rw [← e9]; show lvl kvs a9 ≠ 0; omega
        obtain ⟨t, rfl, ht⟩ := hxv.lamp
        refine ⟨rfl, .ref t, rfl, t, _, 1, .int b.2, rfl, rfl, ht, rfl, rfl, _, rfl, ?_⟩
        rw [show (!decide (V.int b.2 = V.int 0)) = true by simpa using hb2]
        exact itT ⟨.ref t, rfl, r1 rfl _ _ (.refl _) (Rp.hideT hac _ _ hxv rfl)⟩
      · rw [filter_T] at hpr2
        refine ⟨D2, zs, rfl, .of hD6, fun t ht => ?_⟩
        refine k (ns.map fun a => (a, lvl kvs a)) _ _ ((((f1.trans f3).trans e5).trans e6).trans (Ex.new ht)) ho (by rw [List.length_map]; omega) (fun a ha => ?_) (.tup (.of upd_same) (paired_rpa (hide_ex.trans (Ex.new ht)) hpr2))
        obtain ⟨x, hx, rfl⟩ := List.mem_map.mp ha
        exact (hmem x hx).2
/-! ### _law_small -/
def spSma (K : PySem.W.Frag) : Sp := fun vs H Q _ => ∃ pl p wd, vs = [.ref pl, .int p, .int wd] ∧ PailAt pl H ∧ isLev p = true ∧ 2 ≤ p ∧ p ≤ 7 ∧ 0 ≤ wd ∧ wd ≤ 24 ∧
  ∀ r l H', ExP pl H H' → H l = none → Rp K (hide pl H') (.ref l) (rdD r) → Valid r → Small r → fitsR r = true → r.p = p → Q (.ref l) H'
theorem sc56 : FnScope ["_law_pail", "_law_p", "_law_wide", "_law_chart", "_law_k"] ["_law_pail", "_law_p", "_law_wide"] (defScope (top 56)) := ⟨rfl, rfl, rfl, by decide +kernel, rfl, by decide +kernel, by decide +kernel⟩
theorem ok__law_small (T : Txt K mg) : FnR P w K mg base CX0 3 (He.ga K "_law_small") (spSma K) := by
  refine mkD T.d__law_small.df sc56 (fun vs H Q E h => ?_) (fun _ _ _ _ _ _ us hl => match us, hl with | [_, _, _], _ => rfl) (fun cdv A outer s H vs Q E hr h => ?_)
  · obtain ⟨pl, p, wd, rfl, _⟩ := h
    rfl
  · obtain ⟨pl, p, wd, rfl, hp, hlev, hp2, hp7, hw0, hw24, k⟩ := h
    refine ⟨_, (pss_cons (ps_set (i := 3) sc56.nd rfl (.inl rfl) pe_dnewK)
      (pss_cons (ps_for PassesOwn.never rfl (pi_range1 rfl T.f_range (pa_cons (pe_d T.d__law_any_of (ok__law_any_of T) hr (pa_cons (pv 0) (pa_cons (pe_lst (pa_cons pe_int (pa_cons pe_int (pa_cons pe_int (pa_cons pe_int (pa_cons pe_int pa_nil)))))) pa_nil))) pa_nil)) (pg_name (i := 4) sc56.nd rfl (.inl rfl))
      (pss_one (ps_dput (hu_of hr) (pv 3) (pe_op op_sub (pe_d T.d__law_cast (ok__law_cast T) hr (pa_cons (pv 0) (pa_cons (pe_op op_add (pe_op op_mul pe_int (pv 2)) pe_int) pa_nil))) (pv 2)) (pe_op op_add pe_int (pe_d T.d__law_cast (ok__law_cast T) hr (pa_cons (pv 0) (pa_cons (pe_op op_sub (pv 1) pe_int) pa_nil)))) rfl)))
      (pss_one (ps_ret (pe_lst (pa_cons (pv 1) (pa_cons (pe_d T.d__law_tidy (ok__law_tidy T) hr (pa_cons (pv 1) (pa_cons (pv 3) pa_nil))) (pa_cons (pe_d T.d__law_any_of (ok__law_any_of T) hr (pa_cons (pv 0) (pa_cons (pe_lst (pa_cons pe_int (pa_cons pe_int (pa_cons pe_int (pa_cons (pe_un un_neg pe_int) (pa_cons pe_int (pa_cons (pe_un un_neg pe_int) (pa_cons pe_int (pa_cons pe_int (pa_cons (pe_un un_neg pe_int) pa_nil)))))))))) pa_nil))) pa_nil)))))))), ?_⟩
    intro d hd
    have hdp := hp.ne hd
    have e0 : ExP pl H (L2.upd H d (.dK [])) := (ExP.refl hp).mut hd hdp
    have hd0 : L2.upd H d (.dK []) d = some (.dK []) := upd_same
    show (tSeq _ _ _ _ (L2.upd H d (.dK [])) : Prop)
    generalize L2.upd H d (.dK []) = H1 at e0 hd0
    refine ⟨.ref pl, rfl, by show 5 ≤ sizeLine; decide, fun q hq => ?_⟩
    obtain ⟨n1, n2, n3⟩ := newP (o := .lst [.int 0, .int 1, .int 1, .int 2, .int 3]) e0.pail hq
    have hd1 := n2.at hd0 hdp
    refine ⟨pl, q, _, rfl, n1, .of n3, by simp, by show 5 ≤ 1000; decide, fun y hy H2 e2 => ?_⟩
    obtain ⟨c, rfl, hc0, hc5⟩ : ∃ c, y = .int c ∧ 0 ≤ c ∧ c ≤ 3 := by
      simp only [List.mem_cons, List.not_mem_nil, or_false] at hy
      rcases hy with rfl | rfl | rfl | rfl | rfl <;> exact ⟨_, rfl, by decide, by decide⟩
    refine ⟨c, rfl, by omega, by omega, for_range (lo := 0) (n := c.toNat) (fun i σ' H' => (∃ u, σ' = [some (.ref pl), some (.int p), some (.int wd), some (.ref d), u]) ∧ ExP pl H H' ∧ ∃ kvs, H' d = some (.dK kvs) ∧ CK p 25 kvs ∧ kvs.length ≤ i) ⟨⟨_, rfl⟩, (e0.trans n2).trans e2, [], e2.at hd1 hdp, .nil, Nat.le_refl _⟩ ?_ ?_⟩
    · rintro i σ' H' hi ⟨⟨u, rfl⟩, e1, kvs, hk, hck, hkl⟩
      refine ⟨.ref pl, rfl, .int p, rfl, p, 1, rfl, rfl, pl, p - 1, rfl, e1.pail, by omega, by omega, fun l H3 e3 hl1 hl2 => ⟨_, _, rfl, rfl, .ref d, rfl, .ref pl, rfl, .int wd, rfl, 2, wd, rfl, rfl, .inl ⟨by decide, by decide⟩, _, 1, rfl, rfl, pl, 2 * wd + 1, rfl, e3.pail, by omega, by omega, fun a H4 e4 ha1 ha2 => ⟨.int wd, rfl, a, wd, rfl, rfl, ?_⟩⟩⟩
      have hk3 := e4.at (e3.at hk hdp) hdp
      refine ⟨d, _, rfl, DPut.k (k := Sum.inl (a - wd)) hk3 (by rw [sizeLine_eq]; omega), ⟨_, rfl⟩, ((e1.trans e3).trans e4).mut hd hdp, _, upd_same, hck.put (by omega) (by omega) (by omega), ?_⟩
      exact Nat.le_trans (length_putK kvs (Sum.inl (a - wd)) (.int (1 + l))) (by omega)
    · rintro σ' H' ⟨⟨u, rfl⟩, e1, kvs, hk, hck, hkl⟩
      refine ⟨.int p, rfl, .int p, rfl, .ref d, rfl, p, d, kvs, 25, rfl, hk, hck, by omega, by omega, fun ls L H3 e3 ho hl3 hb hL => ?_⟩
      have e03 := e1.on e3
      have hpz := e03.pail
      obtain ⟨acc, hacc⟩ := hpz.lst
      have hLh := hL.hideT hacc _ _ (noL_lamps _)
      refine ⟨.ref pl, rfl, 1, rfl, 2, rfl, 6, rfl, by show 9 ≤ sizeLine; decide, fun q3 hq3 => ?_⟩
      obtain ⟨m1, m2, m3⟩ := newP (o := .lst [.int 0, .int 0, .int 1, .int (-1), .int 2, .int (-2), .int 3, .int 4, .int (-6)]) hpz hq3
      refine ⟨pl, q3, _, rfl, m1, .of m3, by simp, by show 9 ≤ 1000; decide, fun y hy H4 e4 => ⟨by show 3 ≤ sizeLine; decide, fun l hl => ?_⟩⟩
      obtain ⟨e, rfl, he8⟩ : ∃ c, y = .int c ∧ c.natAbs ≤ 8 := by
        simp only [List.mem_cons, List.not_mem_nil, or_false] at hy
        rcases hy with rfl | rfl | rfl | rfl | rfl | rfl | rfl | rfl | rfl <;> exact ⟨_, rfl, by decide⟩
      have e04 := (e03.trans m2).trans e4
      have hlH : H l = none := by
        cases hq9 : H l with
        | none => rfl
        | some o =>
          have := e04.at hq9 (e04.pail.ne hl)
          rw [hl] at this
          cases this
      have t40 : (25 : Nat) < 10 ^ 40 := by decide
      refine k ⟨p, ls, e⟩ l _ (e04.trans (newP e04.pail hl).2.1) hlH (mkParts (H := H) (r := ⟨p, ls, e⟩) e04.pail hl ((hLh.x m2.ex).x e4.ex)) ⟨hlev, ho, by show ls.length ≤ 400; omega⟩ ⟨by show p.natAbs < 10; omega, by show e.natAbs < 10 ^ 40; omega, by show ls.length ≤ 5; omega, fun a ha => ?_⟩ ?_ rfl
      · obtain ⟨g1, g2, g3⟩ := hb a ha
        exact ⟨by omega, by omega⟩
      · unfold fitsR
        rw [show decide ((⟨p, ls, e⟩ : RD).e.natAbs ≤ 8) = true from decide_eq_true he8, Bool.true_and, List.all_eq_true]
        intro a ha
        obtain ⟨g1, g2, g3⟩ := hb a ha
        exact decide_eq_true (by omega)
/-! ### _law_crowd -/
def spCro (K : PySem.W.Frag) : Sp := fun vs H Q _ => ∃ pl, vs = [.ref pl] ∧ PailAt pl H ∧ ∀ rs y H', ExP pl H H' → Rp K (hide pl H') y (crD rs) → ValidL rs → (∀ r ∈ rs, Small r) → Q y H'
theorem sc57 : FnScope ["_law_pail", "_law_p", "_law_wide", "_law_k"] ["_law_pail"] (defScope (top 57)) := ⟨rfl, rfl, rfl, by decide +kernel, rfl, by decide +kernel, by decide +kernel⟩
theorem ok__law_crowd (T : Txt K mg) : FnR P w K mg base CX0 4 (He.ga K "_law_crowd") (spCro K) := by
  refine mkD T.d__law_crowd.df sc57 (fun vs H Q E h => ?_) (fun _ _ _ _ _ _ us hl => match us, hl with | [_], _ => rfl) (fun cdv A outer s H vs Q E hr h => ?_)
  · obtain ⟨pl, rfl, _⟩ := h
    rfl
  · obtain ⟨pl, rfl, hp, k⟩ := h
    refine ⟨_, (pss_cons (ps_set (i := 1) sc57.nd rfl (.inr rfl) (pe_d T.d__law_any_of (ok__law_any_of T) hr (pa_cons (pv 0) (pa_cons (pe_lst (pa_cons pe_int (pa_cons pe_int (pa_cons pe_int (pa_cons pe_int (pa_cons pe_int pa_nil)))))) pa_nil))))
      (pss_cons (ps_set (i := 2) sc57.nd rfl (.inr rfl) (pe_d T.d__law_any_of (ok__law_any_of T) hr (pa_cons (pv 0) (pa_cons (pe_lst (pa_cons pe_int (pa_cons pe_int (pa_cons pe_int (pa_cons pe_int pa_nil))))) pa_nil))))
      (pss_one (ps_ret (pe_lc (own := [("_law_k", 3)]) rfl sc57.nd (pi_range1 rfl T.f_range (pa_cons (pe_op op_add pe_int (pe_d T.d__law_cast (ok__law_cast T) hr (pa_cons (pv 0) (pa_cons pe_int pa_nil)))) pa_nil)) (blkOk_by (N := ["_law_pail", "_law_p", "_law_wide", "_law_k"]) (sc := defScope (top 57)) (by decide +kernel)) (fun _ _ _ _ _ => (pg_name (i := 3) sc57.nd rfl (.inl rfl))) (fun _ _ _ _ _ => pts_nil) (fun _ _ _ _ _ => (pe_d T.d__law_small (ok__law_small T) hr (pa_cons (pv 0) (pa_cons (pv 1) (pa_cons (pv 2) pa_nil)))))))))), ?_⟩
    refine ⟨.ref pl, rfl, by show 5 ≤ sizeLine; decide, fun q hq => ?_⟩
    obtain ⟨n1, n2, n3⟩ := newP (o := .lst [.int 2, .int 2, .int 3, .int 5, .int 7]) hp hq
    refine ⟨pl, q, _, rfl, n1, .of n3, by simp, by show 5 ≤ 1000; decide, fun x hx H1 e1 => ?_⟩
    obtain ⟨p, rfl, hlev, hp2, hp7⟩ : ∃ p, x = .int p ∧ isLev p = true ∧ 2 ≤ p ∧ p ≤ 7 := by
      simp only [List.mem_cons, List.not_mem_nil, or_false] at hx
      rcases hx with rfl | rfl | rfl | rfl | rfl <;> exact ⟨_, rfl, by decide, by decide, by decide⟩
    have e01 := n2.trans e1
    refine ⟨.ref pl, rfl, by show 4 ≤ sizeLine; decide, fun q2 hq2 => ?_⟩
    obtain ⟨m1, m2, m3⟩ := newP (o := .lst [.int 2, .int 4, .int 8, .int 24]) e01.pail hq2
    refine ⟨pl, q2, _, rfl, m1, .of m3, by simp, by show 4 ≤ 1000; decide, fun y hy H2 e2 => ?_⟩
    obtain ⟨wd, rfl, hw0, hw24⟩ : ∃ c, y = .int c ∧ 0 ≤ c ∧ c ≤ 24 := by
      simp only [List.mem_cons, List.not_mem_nil, or_false] at hy
      rcases hy with rfl | rfl | rfl | rfl <;> exact ⟨_, rfl, by decide, by decide⟩
    have e02 := (e01.trans m2).trans e2
    refine ⟨.ref pl, rfl, pl, 4, rfl, e02.pail, by decide, by decide, fun c H3 e3 hc0 hc4 => ⟨1, c, rfl, rfl, 1 + c, rfl, by omega, by omega, fun D hD => ?_⟩⟩
    have e03 := e02.trans e3
    have hDp := e03.pail.ne hD
    refine lcRP (fun r y H => Rp K H y (rdD r)) (fun r => Valid r ∧ Small r ∧ fitsR r = true ∧ r.p = p) (fun _ _ _ _ e h => h.x e) e03.pail hD (by omega) (fun i H4 R1 R0 hi e4 hac r1 => ?_) (fun H4 as ys e4 hD4 hl ha hpr => ?_)
    · obtain ⟨acc, hac⟩ := hac
      refine ⟨rfl, .ref pl, rfl, .int p, rfl, .int wd, rfl, pl, p, wd, rfl, e4.pail, hlev, hp2, hp7, hw0, hw24, fun r l H5 e5 hl h1 h2 h3 h4 h5 => r1 r _ _ e5 ⟨h2, h3, h4, h5⟩ ?_⟩
      have hlD : l ≠ D := fun z => by rw [z, hac] at hl; cases hl
      have hD5 : hide pl H5 D = some (.lst acc) := by rw [hide_ne hDp]; exact e5.at hac hDp
      exact Rp.rdHide (o := some r) hD5 hlD h1
    · have e04 := e03.trans e4
      refine k as (.ref D) H4 e04 (.lst (.of (by rw [hide_ne hDp]; exact hD4)) (paired_rpa hide_ex hpr)) ⟨fun z => ?_, by omega, fun r hr => (ha r hr).1, fun r hr => (ha r hr).2.2.1, fun r hr r0 hr0 => ?_⟩ fun r hr => (ha r hr).2.1
      · rw [z] at hl
        simp only [List.length_nil] at hl
        omega
      · rw [(ha r hr).2.2.2, (ha r0 (List.mem_of_getElem? hr0)).2.2.2]
end
end Lk
namespace Lk
open PySem PySem.Spec PyProof.Rows L2 Evl Lm TL
section
variable {prog : Program} {w : World} {A : Around} {E : Value → Shared → Prop} {s : Shared}
theorem adjust_rev (n : Nat) : Builtin.Slice.sliceAdjust none none (-1) (n : Int) = ((n : Int) - 1, -1) := rfl
theorem places_rev (n : Nat) : Builtin.Slice.slicePlaces ((n : Int) - 1) (-1) (-1) = n := by
  unfold Builtin.Slice.slicePlaces
  have h1 : ¬ ((-1 : Int) > 0) := by omega
  simp only [h1, if_false]
  rw [show (-(-1) : Int) = 1 from rfl, Int.ediv_one]
  split <;> omega
theorem sliceApplied_rev {sl : Addr} {vl vu vs : Value} {n : Nat} {Q : Int × Int × Nat → Shared → Prop} (hs : s.heap.IsSliceOf sl vl vu vs) (pl : IsPart vl none) (pu : IsPart vu none) (ps : IsPart vs (some (-1)))
    (h : Q ((n : Int) - 1, -1, n) s) : wpAny (model prog w) A (Builtin.Slice.sliceApplied (.ref sl) (pure (n : Int))) Q E s := by
  obtain ⟨os, hos, hcs, hds⟩ := id hs
  unfold Builtin.Slice.sliceApplied Builtin.Slice.sliceFields
  refine wpAny_bind (wpAny_bind (wpAny_field hos hds (x := vl) rfl (wpAny_bind (wpAny_field hos hds (x := vu) rfl (wpAny_bind (wpAny_field hos hds (x := vs) rfl (wpAny_pure ?_)))))))
  refine wpAny_bind (HT.slicePart_ ps ?_)
  show wpAny _ _ (if ((-1 : Int) == 0) = true then _ else _) _ _ s
  rw [if_neg (by decide)]
  refine wpAny_bind (HT.slicePart_ pl (wpAny_bind (HT.slicePart_ pu (wpAny_bind (wpAny_pure ?_)))))
  show wpAny _ _ (match Builtin.Slice.sliceAdjust none none (-1) (n : Int) with | (lo, hi) => pure (lo, (-1 : Int), Builtin.Slice.slicePlaces lo hi (-1))) _ _ s
  rw [adjust_rev n]
  show wpAny _ _ (pure ((n : Int) - 1, (-1 : Int), Builtin.Slice.slicePlaces ((n : Int) - 1) (-1) (-1))) _ _ s
  rw [places_rev]
  exact wpAny_pure h
theorem pick_rev (xs : Array Value) : ((List.range xs.size).filterMap fun (m : Nat) => xs[((xs.size : Int) - 1 + (m : Int) * (-1)).toNat]?).toArray = xs.toList.reverse.toArray := by
  have e : (List.range xs.size).filterMap (fun (m : Nat) => xs[((xs.size : Int) - 1 + (m : Int) * (-1)).toNat]?) = ((List.range xs.size).map fun k => xs.size - 1 - k).filterMap (xs[·]?) := by
    rw [List.filterMap_map]
    have aux : ∀ ms : List Nat, (∀ m ∈ ms, m < xs.size) → ms.filterMap (fun (m : Nat) => xs[((xs.size : Int) - 1 + (m : Int) * (-1)).toNat]?) = ms.filterMap ((fun x => xs[x]?) ∘ fun k => xs.size - 1 - k) := by
      intro ms
      induction ms with
      | nil => intro _; rfl
      | cons m ms ih =>
        intro h
        have h1 := h m List.mem_cons_self
        have e2 : ((xs.size : Int) - 1 + (m : Int) * (-1)).toNat = xs.size - 1 - m := by omega
        rw [List.filterMap_cons, List.filterMap_cons, ih fun k hk => h k (List.mem_cons_of_mem _ hk), e2]
        rfl
    exact aux _ fun m hm => List.mem_range.mp hm
  rw [e, PySem.W.krv_range, List.filterMap_reverse, PySem.W.krv_all]
theorem getItem_tuple_rev {t sl : Addr} {items : Array Value} {vl vu vs : Value} {Q : Value → Shared → Prop} (ht : PyProof.Rows.IsTup s.heap t items) (hs : s.heap.IsSliceOf sl vl vu vs) (pl : IsPart vl none) (pu : IsPart vu none) (ps : IsPart vs (some (-1)))
    (h : Q (.ref s.heap.objs.size) { s with heap := s.heap.push { cls := .type "tuple", data := .seq items.toList.reverse.toArray } })
    (hsz : items.size ≤ sizeLine) : wpAny (model prog w) A (getItem (.ref t) (.ref sl)) Q E s := by
  have htake : sizeOk (.seq items.toList.reverse.toArray) := by
    show items.toList.reverse.toArray.size ≤ sizeLine
    rw [List.size_toArray, List.length_reverse, Array.length_toList]
    exact hsz
  obtain ⟨os, hos, hcs, hds⟩ := id hs
  have hTs : s.TypeIs (.ref sl) "slice" := ⟨os, hos, hcs⟩
  unfold getItem
  try with_reducible refine wpAny_holding ?_
  first | refine wpAny_bind (wpAny_pure ?_) | skip
  refine wpAny_bind (wpAny_sequenceKey ht.typeIs (by decide) ?_)
  refine wpAny_bind (wpAny_callSpecial?_slot (name := Str.ofString "__getitem__") ht.typeIs PyProof.Rows.slot_tuple_getitem
    (wpAny_call_entry PyProof.Rows.slot_tuple_getitem ht.typeIs PyProof.Rows.entry_tuple_getitem ?_ (PyProof.Rows.args_tuple_getitem _ _)))
  show wpAny _ _ (Builtin.Tuple.tupleItemsOf (.ref t) >>= _) _ _ s
  refine wpAny_bind (tupleItemsOf_ ht ?_)
  refine wpAny_bind (wpAny_typeOf hTs ?_)
  rw [if_pos (by decide)]
  refine wpAny_bind (sliceApplied_rev hs pl pu ps ?_)
  have hno : ¬ ((((items.size : Int) - 1) == 0 && (-1 : Int) == 1 && items.size == items.size) = true) := by
    intro q
    rw [Bool.and_eq_true, Bool.and_eq_true] at q
    exact absurd q.1.2 (by decide)
  show wpAny _ _ (if (((items.size : Int) - 1) == 0 && (-1 : Int) == 1 && items.size == items.size) = true then _ else _) _ _ s
  rw [if_neg hno, pick_rev]
  first
    | exact wpAny_bind (m := Builtin.Tuple.tupleExact _) (wpAny_newObj_type (wpAny_pure ⟨_, rfl, wpAny_pure h⟩) htake)
    | exact wpAny_bind (m := Builtin.Tuple.tupleExact _) (wpAny_newObj_type (wpAny_bind (wpAny_pure (wpAny_pure ⟨_, rfl, wpAny_pure h⟩))) htake)
    | exact wpAny_bind (wpAny_bind (m := Builtin.Tuple.tupleExact _) (wpAny_newObj_type (wpAny_pure (wpAny_pure ⟨_, rfl, wpAny_pure h⟩)) htake))
    | exact wpAny_bind (wpAny_bind (m := Builtin.Tuple.tupleExact _) (wpAny_newObj_type (wpAny_pure ⟨_, rfl, wpAny_pure h⟩) htake))
end
section
variable {X : Cx}
def tRevT (K : PySem.W.Frag) (te : TE) : TE := fun σ H Q => te σ H fun x H1 => ∃ a xs, x = .ref a ∧ SqT K H1 a xs ∧ ∀ p, H1 p = none → Q (.ref p) (upd H1 p (.tup xs.reverse))
theorem pe_revT {e : Expr} {te : TE} {k : Nat} {p1 p2 p3 pos : Pos} (he : PE X e te) : PE X (.Subscript e (.Slice none none (some (.UnaryOp .USub (.Constant (.int 1) k p1) p2)) p3) pos) (tRevT X.K te) := by
  refine ⟨fun pins s σ H Q I h => ?_⟩
  refine Subscript_ (thn (he.run pins s σ H _ I h) fun v s1 ⟨x, H1, I1, r1, q1⟩ => ?_)
  obtain ⟨a, xs, ex, hx, q⟩ := q1
  subst ex
  cases r1
  have hst : PO X (some (.UnaryOp .USub (.Constant (.int 1) k p1) p2)) (tPart (tUn (rU fun i => .int (-i)) (tC (.int 1)))) := po_some (pe_un un_neg pe_int)
  refine wpAny_Slice (thn (po_none.run pins s1 σ H1 (fun o H2 => o = none ∧ H2 = H1) I1 ⟨rfl, rfl⟩) fun vl s2 ⟨l, H2, I2, pl, el, e2⟩ => ?_)
  subst el e2
  refine thn (po_none.run pins s2 σ H2 (fun o H3 => o = none ∧ H3 = H2) I2 ⟨rfl, rfl⟩) fun vu s3 ⟨u, H3, I3, pu, eu, e3⟩ => ?_
  subst eu e3
  refine thn (hst.run pins s3 σ H3 (fun o H4 => o = some (-1) ∧ H4 = H3) I3 ⟨1, rfl, -1, rfl, rfl, rfl⟩) fun vs s4 ⟨o, H4, I4, ps, eo, e4⟩ => ?_
  subst eo e4
  have I5 : Inv X pins σ H4 { s4 with heap := s4.heap.push { cls := .type "slice", data := .fields #[vl, vu, vs] } } := I4.kept (t' := s4.toks) fun b ob q => Heap.get?_push_of_some _ q
  obtain ⟨its, r, ht, hz⟩ := I5.tuple hx
  have hlen := r.length
  show wpAny (model X.prog X.w) X.A (subscriptTail e (.Slice none none (some (.UnaryOp .USub (.Constant (.int 1) k p1) p2)) p3) (.ref a) (.ref s4.heap.objs.size)) (EP X pins σ Q) X.xe { s4 with heap := s4.heap.push { cls := .type "slice", data := .fields #[vl, vu, vs] } }
  refine tail_any (ops := [.ref a, .ref s4.heap.objs.size]) ht.typeIs (PyProof.Rows.slot_tuple_getitem.lookup) ?_ (by with_unfolding_all rfl)
  refine getItem_tuple_rev ht (Heap.IsSliceOf.new _ vl vu vs) pl pu ps ?_ (by rw [List.size_toArray]; omega)
  refine ⟨.ref _, _, I5.laid (t' := s4.toks) (o := .tup xs.reverse) (fun b ob q => Heap.get?_push_of_some _ q) (Nat.le_refl _) ?_, rfl, q _ (I5.hok.fresh (Nat.le_refl _))⟩
  exact ⟨by rw [List.length_reverse]; exact hz, _, r.reverse, PyProof.Rows.IsTup.new _ _⟩
/-- xs[::step], the step 1 or -1 -/
def tStepL (K : PySem.W.Frag) (te ts : TE) : TE := fun σ H Q => te σ H fun x H1 => ts σ H1 fun y H2 => ∃ i, y = .int i ∧ ∃ a xs, x = .ref a ∧ SqL K H2 a xs ∧
  (some i = some 1 ∨ some i = some (-1)) ∧ ∀ ys, (ys = xs ∨ ys = xs.reverse) → ∀ p, H2 p = none → Q (.ref p) (upd H2 p (.lst ys))
theorem pick_one (items : Array Value) : slicePick items none none (some 1) = items.toList.toArray := by
  unfold slicePick
  have e : sliceBounds none none (some 1) items.size = (((0 : Nat) : Int), (items.size : Int), 1) := rfl
  rw [e]
  show ((sliceRange ((0 : Nat) : Int) (items.size : Int) 1).filterMap (items[·]?)).toArray = _
  rw [sliceRange_one]
  have e2 : (List.range (items.size - 0)).map (0 + ·) = List.range items.size := by
    rw [show ((0 + ·) : Nat → Nat) = id from funext fun k => Nat.zero_add k, List.map_id]; rfl
  rw [e2, PySem.W.krv_all]
theorem pe_stepL {e es : Expr} {te ts : TE} {p3 pos : Pos} (he : PE X e te) (hs : PE X es ts) : PE X (.Subscript e (.Slice none none (some es) p3) pos) (tStepL X.K te ts) := by
  refine ⟨fun pins s σ H Q I h => ?_⟩
  refine Subscript_ (thn (he.run pins s σ H _ I h) fun v s1 ⟨x, H1, I1, r1, q1⟩ => ?_)
  refine wpAny_Slice (thn (po_none.run pins s1 σ H1 (fun o H2 => o = none ∧ H2 = H1) I1 ⟨rfl, rfl⟩) fun vl s2 ⟨l, H2, I2, pl, el, e2⟩ => ?_)
  subst el e2
  refine thn (po_none.run pins s2 σ H2 (fun o H3 => o = none ∧ H3 = H2) I2 ⟨rfl, rfl⟩) fun vu s3 ⟨u, H3, I3, pu, eu, e3⟩ => ?_
  subst eu e3
  have key : ∀ (i : Int) (H4 : Hp) (s4 : Shared) (a : Addr) (xs ys : List V) (vs : Value), Inv X pins σ H4 s4 → IsPart vs (some i) → i ≠ 0 → RelV x v → x = .ref a → SqL X.K H4 a xs →
      (∀ its : List Value, Vals xs its → ∃ jts : List Value, slicePick its.toArray none none (some i) = jts.toArray ∧ Vals ys jts) → ys.length = xs.length → (∀ p, H4 p = none → Q (.ref p) (upd H4 p (.lst ys))) →
      wpAny (model X.prog X.w) X.A (subscriptTail e (.Slice none none (some es) p3) v (.ref s4.heap.objs.size)) (EP X pins σ Q) X.xe { s4 with heap := s4.heap.push { cls := .type "slice", data := .fields #[vl, vu, vs] } } := by
    intro i H4 s4 a xs ys vs I4 ps hi r1 ex hx hp hl q
    subst ex
    cases r1
    have I5 : Inv X pins σ H4 { s4 with heap := s4.heap.push { cls := .type "slice", data := .fields #[vl, vu, vs] } } := I4.kept (t' := s4.toks) fun b ob q => Heap.get?_push_of_some _ q
    obtain ⟨its, r, ht, hz⟩ := I5.list hx
    have hlen := r.length
    obtain ⟨jts, ej, rj⟩ := hp its r
    refine tail_any (ops := [.ref a, .ref s4.heap.objs.size]) ht.isList.typeIs (PySem.slot_list_getitem.lookup) ?_ (by with_unfolding_all rfl)
    refine wpAny_getItem_list_slice ht.isList (Heap.IsSliceOf.new _ vl vu vs) pl pu ps (by simpa using hi) ?_ (by rw [List.size_toArray]; omega)
    rw [ej]
    refine ⟨.ref _, _, I5.laid (t' := s4.toks) (o := .lst ys) (fun b ob q => Heap.get?_push_of_some _ q) (Nat.le_refl _) ?_, rfl, q _ (I5.hok.fresh (Nat.le_refl _))⟩
    exact ⟨by rw [hl]; exact hz, _, 0, rj, Heap.get?_push_size _ rfl⟩
  have hst : PO X (some es) (tPart ts) := po_some hs
  refine thn (hst.run pins s3 σ H3 (fun o H4 => ∃ a xs, x = .ref a ∧ SqL X.K H4 a xs ∧
      (o = some 1 ∨ o = some (-1)) ∧ ∀ ys, (ys = xs ∨ ys = xs.reverse) → ∀ p, H4 p = none → Q (.ref p) (upd H4 p (.lst ys))) I3 q1) fun vs s4 ⟨o, H4, I4, ps, a, xs, ex, hx, ho, q⟩ => ?_
  rcases ho with rfl | rfl
  · exact key 1 H4 s4 a xs xs vs I4 ps (by decide) r1 ex hx (fun its r => ⟨its, pick_one _, r⟩) rfl (q _ (.inl rfl))
  · exact key (-1) H4 s4 a xs xs.reverse vs I4 ps (by decide) r1 ex hx (fun its r => ⟨its.reverse, PySem.W.krv_pick _, r.reverse⟩) (List.length_reverse) (q _ (.inr rfl))
end
end Lk
namespace Lk
open PySem PySem.Spec PyProof.Rows L2 Evl Lm TL
/-! ### new tuples, known to have no dict -/
section
variable {X : Cx} {es : List Expr} {t : TA} {pos : Pos} {x1}
def tTupF (t : TA) : TE := fun σ H Q => t σ H fun xs H1 => xs.length ≤ sizeLine ∧ ∀ p o, H1 p = none → o.dict = none → Q (.ref p) (upd H1 p (.frz o (.tup xs)))
theorem pe_tupF (h : PA X es t) : PE X (.Tuple es x1 pos) (tTupF t) := by
  refine ⟨fun pins s σ H Q I hq => ?_⟩
  refine wpAny_Tuple_spliced (thn (h.run pos pins s σ H _ I hq) fun us s1 ⟨xs, H1, I1, r, z, q⟩ => ⟨by rw [← r.length]; exact z, ?_⟩)
  have hf : H1 s1.heap.objs.size = none := I1.hok.fresh (Nat.le_refl _)
  refine ⟨.ref s1.heap.objs.size, upd H1 s1.heap.objs.size (.frz { cls := .type "tuple", data := .seq us.toArray } (.tup xs)), I1.laid (t' := s1.toks) (fun b u e => Heap.get?_push_of_some _ e) (Nat.le_refl _) ?_, rfl, q _ _ hf rfl⟩
  exact ⟨Heap.get?_push_size _ rfl, z, us, r, ⟨_, Heap.get?_push_size _ rfl, rfl, _, rfl⟩⟩
def rCatF (K : PySem.W.Frag) : R2 := fun x y H Q => ∃ a b xs ys, x = .ref a ∧ y = .ref b ∧ SqT K H a xs ∧ SqT K H b ys ∧ xs.length + ys.length ≤ sizeLine ∧
  (xs = [] → Q (.ref b) H) ∧ (xs ≠ [] → ys = [] → Q (.ref a) H) ∧ (xs ≠ [] → ys ≠ [] → ∀ p o, H p = none → o.dict = none → Q (.ref p) (upd H p (.frz o (.tup (xs ++ ys)))))
theorem op_catF : OpR X (binaryOp .Add) (rCatF X.K) := by
  intro pins s σ H x y v u Q I rx ry h
  obtain ⟨a, b, xs, ys, rfl, rfl, ha, hb, hz, q0, q1, q2⟩ := h
  by_cases hx : xs = []
  · exact op_catA pins s σ H _ _ v u Q I rx ry ⟨a, b, xs, ys, rfl, rfl, ha, hb, hz, q0, q1, fun z => absurd hx z⟩
  · cases rx
    cases ry
    obtain ⟨its, r1, p1, _⟩ := I.tuple ha
    obtain ⟨its2, r2, p2, _⟩ := I.tuple hb
    refine HT.cat_tup p1 p2 (fun z => hx (r1.nil_iff.mp z)) (fun z => ⟨.ref a, H, I, rfl, q1 hx (r2.nil_iff.mp z)⟩) (fun z => ?_) (by rw [← r1.length, ← r2.length]; exact hz)
    refine ⟨.ref s.heap.objs.size, _, I.laid (t' := s.toks) (o := .frz { cls := .type "tuple", data := .seq (its ++ its2).toArray } (.tup (xs ++ ys))) (fun b ob q => Heap.get?_push_of_some _ q) (Nat.le_refl _) ?_, rfl, q2 hx (fun w => z (r2.nil_iff.mpr w)) _ _ (I.hok.fresh (Nat.le_refl _)) rfl⟩
    exact ⟨Heap.get?_push_size _ rfl, by rw [List.length_append]; exact hz, _, r1.append r2, IsTup.new _ _⟩
def rSlF (K : PySem.W.Frag) : V → Option Int → Option Int → Hp → VK → Prop := fun x lo hi H Q => ∃ a xs, x = .ref a ∧ SqT K H a xs ∧
  (HT.sIx xs.length 0 lo = 0 ∧ HT.sIx xs.length xs.length hi = xs.length → Q (.ref a) H) ∧ (¬ (HT.sIx xs.length 0 lo = 0 ∧ HT.sIx xs.length xs.length hi = xs.length) → ∀ p o, H p = none → o.dict = none → Q (.ref p) (upd H p (.frz o (.tup (cutV xs lo hi)))))
theorem sl_tupF : SlR X (rSlF X.K) := by
  intro pins s σ H x v vl vu lo hi sl Q I rx hs pl pu h
  obtain ⟨a, xs, rfl, hx, q1, q2⟩ := h
  by_cases hw : HT.sIx xs.length 0 lo = 0 ∧ HT.sIx xs.length xs.length hi = xs.length
  · exact sl_tupA pins s σ H _ v vl vu lo hi sl Q I rx hs pl pu ⟨a, xs, rfl, hx, q1, fun z => absurd hw z⟩
  · cases rx
    obtain ⟨its, r, ht, hz⟩ := I.tuple hx
    have hlen : its.toArray.size = xs.length := by rw [List.size_toArray]; exact r.length.symm
    refine ⟨"tuple", _, PyProof.Rows.slot_tuple_getitem.lookup, ht.typeIs, ?_⟩
    refine HT.getItem_tuple_cut ht hs pl pu (by rw [hlen]; exact hw) ?_ (by rw [hlen]; exact hz)
    rw [hlen]
    refine ⟨.ref s.heap.objs.size, _, I.laid (t' := s.toks) (o := .frz { cls := .type "tuple", data := .seq ((its.toArray.toList.drop (HT.sIx xs.length 0 lo)).take (HT.sIx xs.length xs.length hi - HT.sIx xs.length 0 lo)).toArray } (.tup (cutV xs lo hi))) (fun b ob q => Heap.get?_push_of_some _ q) (Nat.le_refl _) ?_, rfl, q2 hw _ _ (I.hok.fresh (Nat.le_refl _)) rfl⟩
    exact ⟨Heap.get?_push_size _ rfl, Nat.le_trans (cutV_length xs lo hi) hz, _, (r.drop (HT.sIx xs.length 0 lo)).take (HT.sIx xs.length xs.length hi - HT.sIx xs.length 0 lo), IsTup.new _ _⟩
def tRevF (K : PySem.W.Frag) (te : TE) : TE := fun σ H Q => te σ H fun x H1 => ∃ a xs, x = .ref a ∧ SqT K H1 a xs ∧ ∀ p o, H1 p = none → o.dict = none → Q (.ref p) (upd H1 p (.frz o (.tup xs.reverse)))
theorem pe_revF {e : Expr} {te : TE} {k : Nat} {p1 p2 p3 pos : Pos} (he : PE X e te) : PE X (.Subscript e (.Slice none none (some (.UnaryOp .USub (.Constant (.int 1) k p1) p2)) p3) pos) (tRevF X.K te) := by
  refine ⟨fun pins s σ H Q I h => ?_⟩
  refine Subscript_ (thn (he.run pins s σ H _ I h) fun v s1 ⟨x, H1, I1, r1, q1⟩ => ?_)
  obtain ⟨a, xs, ex, hx, q⟩ := q1
  subst ex
  cases r1
  have hst : PO X (some (.UnaryOp .USub (.Constant (.int 1) k p1) p2)) (tPart (tUn (rU fun i => .int (-i)) (tC (.int 1)))) := po_some (pe_un un_neg pe_int)
  refine wpAny_Slice (thn (po_none.run pins s1 σ H1 (fun o H2 => o = none ∧ H2 = H1) I1 ⟨rfl, rfl⟩) fun vl s2 ⟨l, H2, I2, pl, el, e2⟩ => ?_)
  subst el e2
  refine thn (po_none.run pins s2 σ H2 (fun o H3 => o = none ∧ H3 = H2) I2 ⟨rfl, rfl⟩) fun vu s3 ⟨u, H3, I3, pu, eu, e3⟩ => ?_
  subst eu e3
  refine thn (hst.run pins s3 σ H3 (fun o H4 => o = some (-1) ∧ H4 = H3) I3 ⟨1, rfl, -1, rfl, rfl, rfl⟩) fun vs s4 ⟨o, H4, I4, ps, eo, e4⟩ => ?_
  subst eo e4
  have I5 : Inv X pins σ H4 { s4 with heap := s4.heap.push { cls := .type "slice", data := .fields #[vl, vu, vs] } } := I4.kept (t' := s4.toks) fun b ob q => Heap.get?_push_of_some _ q
  obtain ⟨its, r, ht, hz⟩ := I5.tuple hx
  have hlen := r.length
  show wpAny (model X.prog X.w) X.A (subscriptTail e (.Slice none none (some (.UnaryOp .USub (.Constant (.int 1) k p1) p2)) p3) (.ref a) (.ref s4.heap.objs.size)) (EP X pins σ Q) X.xe { s4 with heap := s4.heap.push { cls := .type "slice", data := .fields #[vl, vu, vs] } }
  refine tail_any (ops := [.ref a, .ref s4.heap.objs.size]) ht.typeIs (PyProof.Rows.slot_tuple_getitem.lookup) ?_ (by with_unfolding_all rfl)
  refine getItem_tuple_rev ht (Heap.IsSliceOf.new _ vl vu vs) pl pu ps ?_ (by rw [List.size_toArray]; omega)
  refine ⟨.ref _, _, I5.laid (t' := s4.toks) (o := .frz { cls := .type "tuple", data := .seq its.toArray.toList.reverse.toArray } (.tup xs.reverse)) (fun b ob q => Heap.get?_push_of_some _ q) (Nat.le_refl _) ?_, rfl, q _ _ (I5.hok.fresh (Nat.le_refl _)) rfl⟩
  exact ⟨Heap.get?_push_size _ rfl, by rw [List.length_reverse]; exact hz, _, r.reverse, PyProof.Rows.IsTup.new _ _⟩
end
end Lk
namespace Lk
open PySem PySem.Spec PyProof.Rows L2 Evl Lm TL
/-! ### dict(t), t a tuple of pairs -/
/-- v, where a tuple, has no dict -/
def ND (H : Hp) (v : V) : Prop := ∀ q, v = .ref q → (∃ o u, H q = some (.frz o u) ∧ o.dict = none) ∨ (∃ xs, H q = some (.lst xs)) ∨ ∃ kvs, H q = some (.dK kvs)
theorem ND.x {H H' : Hp} {v : V} (h : ND H v) (e : Ex H H') : ND H' v := fun q hq => by
  rcases h q hq with ⟨o, u, h1, h2⟩ | ⟨xs, h1⟩ | ⟨kvs, h1⟩
  · exact .inl ⟨o, u, e _ _ h1, h2⟩
  · exact .inr (.inl ⟨xs, e _ _ h1⟩)
  · exact .inr (.inr ⟨kvs, e _ _ h1⟩)
section
variable {X : Cx}
theorem pairs_ofV {pins : List (Addr × Obj)} {σ : L2.St} {H : Hp} {s : Shared} (I : Inv X pins σ H s) : ∀ {ps : List Addr} {kvs : List (Key × V)}, Paired (fun p kv => SqT X.K H p [kV kv.1, kv.2]) ps kvs →
    ∃ (prs : List (Key × Value)) (pv : List (Value × Value)), KV kvs prs ∧ prs.length = ps.length ∧ pv.length = ps.length ∧ ∀ (j : Nat) (k v : Value), pv[j]? = some (k, v) → (∃ b, ps[j]? = some b ∧ s.heap.IsTuple b #[k, v]) ∧ ∃ q, prs[j]? = some (q, v) ∧ keyIs q k = true
  | _, _, .nil => ⟨[], [], .nil, rfl, rfl, fun j k v e => by simp at e⟩
  | _, _, .cons (a := p) (b := kv) h t => by
    obtain ⟨prs, pv, r, hl, hl2, hp⟩ := pairs_ofV I t
    obtain ⟨its, rv, ht, _⟩ := I.tuple h
    obtain ⟨u, y, ei, ru, ry⟩ := vals2 rv
    subst ei
    refine ⟨(kv.1, y) :: prs, (u, y) :: pv, .cons ⟨rfl, ry⟩ r, by rw [List.length_cons, List.length_cons, hl], by rw [List.length_cons, List.length_cons, hl2], fun j k v e => ?_⟩
    cases j with
    | zero =>
      have e' : (u, y) = (k, v) := Option.some.inj e
      cases e'
      exact ⟨⟨p, rfl, ht⟩, kv.1, rfl, kV_is (P := X.prog) (w := X.w) ru⟩
    | succ j => exact hp j k v (by simpa using e)
def rDictT (K : PySem.W.Frag) : List V → Hp → VK → Prop := fun xs H Q => ∃ (a : Addr) (ps : List Addr) (kvs : List (Key × V)), xs = [.ref a] ∧ ND H (.ref a) ∧ SqT K H a (ps.map V.ref) ∧ Paired (fun p kv => SqT K H p [kV kv.1, kv.2]) ps kvs ∧
    ∀ p, H p = none → Q (.ref p) (upd H p (.dK (mergeK [] kvs)))
theorem call_dictT (hcalm : X.calm = true) : CallR X (.type "dict") (rDictT X.K) := by
  intro pins s σ H xs us Q I r q
  obtain ⟨a, ps, kvs, ex, hnd, hq, hp, q⟩ := q
  subst ex
  obtain ⟨u, eu, rx⟩ := vals1 r
  subst eu
  cases rx
  obtain ⟨its, rv, pl, hz⟩ := I.tuple hq
  have ei := refs_at rv
  subst ei
  rw [List.length_map] at hz
  obtain ⟨prs, pv, rel, hl, hl2, hpr⟩ := pairs_ofV I hp
  obtain ⟨o, ho, hc, n, hdat⟩ := pl
  have hd : o.dict = none := by
    rcases hnd a rfl with ⟨o', u', h1, h2⟩ | ⟨xs, h1⟩ | ⟨kvs', h1⟩
    · have h3 := (show ObjOk X.prog X.w H s.heap a (.frz o' u') from I.hok a _ h1).1
      rw [ho] at h3
      cases h3
      exact h2
    · obtain ⟨_, its2, n2, _, h3⟩ := (show ObjOk X.prog X.w H s.heap a (.lst xs) from I.hok a _ h1)
      rw [ho] at h3
      cases h3
      exact absurd hc (by simp)
    · obtain ⟨_, _, vs2, _, h3⟩ := (show ObjOk X.prog X.w H s.heap a (.dK kvs') from I.hok a _ h1)
      obtain ⟨o4, h5, h6⟩ := h3.typeIs (s := s)
      rw [ho] at h5
      cases h5
      rw [hc] at h6
      exact absurd h6 (by simp)
  have P := PairArg.tuple (prog := X.prog) (w := X.w) a (ps.map Value.ref).toArray (fun j => ps.getD j 0) pv
  have hm : (s.heap.objs.size == sysModules) = false := beq_eq_false_iff_ne.mpr (Nat.ne_of_gt I.big)
  refine PySem.call_dict_pairs (knd := mixKind X.prog X.w) (kvs := prs) P (I.ok.hd hcalm) ⟨⟨o, n, ho, hc, hd, hdat⟩, by simp [hl2], fun j k v e => ?_⟩ ⟨by rw [hl, hl2], fun i k v e => ?_⟩ (by rw [hl2]; exact hz) fun h' tk hd' hk => ?_
  · obtain ⟨⟨b, e1, e2⟩, _⟩ := hpr j k v e
    refine ⟨by simp [e1, List.getD_eq_getElem?_getD], .inl ?_⟩
    show s.heap.IsTuple (ps.getD j 0) #[k, v]
    rw [List.getD_eq_getElem?_getD, e1]
    exact e2
  · exact (hpr i k v e).2
  · have hlen : (mergeK [] kvs).length ≤ sizeLine := by
      refine Nat.le_trans (length_mergeK kvs []) ?_
      rw [List.length_nil, Nat.zero_add, rel.length, hl]
      exact hz
    exact ⟨.ref s.heap.objs.size, upd H s.heap.objs.size (.dK (mergeK [] kvs)), I.laid (t' := tk) (fun b o e => hk b o (by simp) e) (Nat.le_refl _) (show ObjOk X.prog X.w _ _ _ (.dK (mergeK [] kvs)) from ⟨hlen, hm, merged [] prs, KV.merge rel .nil, hd'⟩), rfl, q _ (I.hok.fresh (Nat.le_refl _))⟩
end
end Lk
namespace Lk
open PySem PySem.Spec PyProof.Rows L2 Evl Lm TL
/-! ### no letter of a sheet is a high one -/
theorem words_hi {k : Nat} (h1 : 200 < k) (r : RD) : ∀ w ∈ wordsR r, k ∉ tl w := by
  have c1 : tl ("levels" : Str) = [108, 101, 118, 101, 108, 115] := by decide +kernel
  have c2 : tl ("end" : Str) = [101, 110, 100] := by decide +kernel
  have c3 : tl ("dark" : Str) = [100, 97, 114, 107] := by decide +kernel
  have c4 : tl ("lamps" : Str) = [108, 97, 109, 112, 115] := by decide +kernel
  have nf : ∀ i, k ∉ tl (numS i) := num_free (by omega) (.inr (by omega))
  have lf : ∀ a, k ∉ tl (lampS a) := lamp_free (by omega) (.inr (by omega)) (by omega)
  intro w hw
  unfold wordsR at hw
  simp only [List.mem_cons] at hw
  rcases hw with rfl | rfl | rfl | rfl | hw
  · rw [c1]; simp; omega
  · exact nf _
  · rw [c2]; simp; omega
  · exact nf _
  · split at hw
    · rw [List.mem_singleton.mp hw, c3]; simp; omega
    · rcases List.mem_cons.mp hw with rfl | hw
      · rw [c4]; simp; omega
      · obtain ⟨a, _, rfl⟩ := List.mem_map.mp hw
        exact lf a
theorem joinL_hi {k d : Nat} (hd : d ≠ k) : ∀ ws : List (List Nat), (∀ w ∈ ws, k ∉ w) → k ∉ joinL [d] ws := by
  intro ws
  induction ws with
  | nil => intro _ h; cases h
  | cons w ws ih =>
    intro hw h
    cases ws with
    | nil => exact hw w List.mem_cons_self h
    | cons w2 ws =>
      rw [joinL_cons _ _ (by simp)] at h
      rcases List.mem_append.mp h with h | h
      · exact hw w List.mem_cons_self h
      · rcases List.mem_append.mp h with h | h
        · have := List.mem_singleton.mp h; omega
        · exact ih (fun z hz => hw z (List.mem_cons_of_mem _ hz)) h
theorem sheet_hi (r : RD) {c : Nat} (hc : c ∈ tl (sheetS r)) : c < 1114112 := by
  by_cases h : c < 1114112
  · exact h
  · refine absurd hc ?_
    unfold sheetS
    rw [join_eq, tl_join, sp_sep, tl_sep]
    refine joinL_hi (by omega) _ fun w hw => ?_
    obtain ⟨z, hz, rfl⟩ := List.mem_map.mp hw
    exact words_hi (by omega) r z hz
/-- a short text of plain letters -/
def okZ (z : Str) : Bool := decide (z.length ≤ 500) && (tl z).all fun c => decide (c < 1114112)
theorem okZ_len {z : Str} (h : okZ z = true) : z.length ≤ 500 := of_decide_eq_true (Bool.and_eq_true_iff.mp h).1
theorem okZ_mem {z : Str} (h : okZ z = true) {c : Nat} (hc : c ∈ tl z) : c < 1114112 := of_decide_eq_true (List.all_eq_true.mp (Bool.and_eq_true_iff.mp h).2 c hc)
theorem okZ_of {z : Str} (h1 : z.length ≤ 500) (h2 : ∀ c ∈ tl z, c < 1114112) : okZ z = true := Bool.and_eq_true_iff.mpr ⟨decide_eq_true h1, List.all_eq_true.mpr fun c hc => decide_eq_true (h2 c hc)⟩
/-- texts of at most 500 letters, tuples of at most m items, nested at most n deep -/
def okD : Nat → Nat → PyData → Prop
  | 0, m, d => (∀ z, d = .str z → okZ z = true) ∧ ∀ ds, d ≠ .tuple ds
  | n + 1, m, d => (∀ z, d = .str z → okZ z = true) ∧ ∀ ds, d = .tuple ds → ds.length ≤ m ∧ ∀ e ∈ ds, okD n m e
theorem okD_str : ∀ {n m : Nat} {z : Str}, okD n m (.str z) → okZ z = true
  | 0, _, z, h => h.1 z rfl
  | _ + 1, _, z, h => h.1 z rfl
theorem okD_mono : ∀ {n n' m m' : Nat} {d : PyData}, okD n m d → n ≤ n' → m ≤ m' → okD n' m' d
  | 0, 0, _, _, _, h, _, _ => h
  | 0, n' + 1, _, _, _, h, _, _ => ⟨h.1, fun ds e => absurd e (h.2 ds)⟩
  | n + 1, n' + 1, m, m', d, h, hn, hm => ⟨h.1, fun ds e => ⟨Nat.le_trans (h.2 ds e).1 hm, fun x hx => okD_mono ((h.2 ds e).2 x hx) (Nat.le_of_succ_le_succ hn) hm⟩⟩
theorem okD_tup {n m : Nat} {ds : List PyData} (hl : ds.length ≤ m) (h : ∀ e ∈ ds, okD n m e) : okD (n + 1) m (.tuple ds) := ⟨fun z e => (nomatch e), fun es e => by cases e; exact ⟨hl, h⟩⟩
theorem okD_none {n m : Nat} : okD n m .none := by cases n <;> exact ⟨fun z e => (nomatch e), fun ds e => nomatch e⟩
theorem okD_int {n m : Nat} {i : Int} : okD n m (.int i) := by cases n <;> exact ⟨fun z e => (nomatch e), fun ds e => nomatch e⟩
theorem okD_bool {n m : Nat} {i : Bool} : okD n m (.bool i) := by cases n <;> exact ⟨fun z e => (nomatch e), fun ds e => nomatch e⟩
theorem okD_list {n m : Nat} {i : List PyData} : okD n m (.list i) := by cases n <;> exact ⟨fun z e => (nomatch e), fun ds e => nomatch e⟩
theorem okD_dict {n m : Nat} {i : List (PyData × PyData)} : okD n m (.dict i) := by cases n <;> exact ⟨fun z e => (nomatch e), fun ds e => nomatch e⟩
theorem okD_z {n m : Nat} {i : Str} (h : okZ i = true) : okD n m (.str i) := by cases n <;> exact ⟨fun z e => (by cases e; exact h), fun ds e => nomatch e⟩
/-- data of a change's making -/
def Gd (K : PySem.W.Frag) (n m : Nat) (H : Hp) (v : V) : Prop := ∃ d, Rp K H v d ∧ okD n m d
section
variable {K : PySem.W.Frag} {pl : Addr} {H0 H H' : Hp} {n m : Nat}
theorem Gd.x {v : V} (h : Gd K n m H v) (e : Ex H H') : Gd K n m H' v := let ⟨d, h1, h2⟩ := h; ⟨d, h1.x e, h2⟩
theorem Gd.mono {v : V} {n' m' : Nat} (h : Gd K n m H v) (h1 : n ≤ n') (h2 : m ≤ m') : Gd K n' m' H v := let ⟨d, a, b⟩ := h; ⟨d, a, okD_mono b h1 h2⟩
theorem gds {vs : List V} (h : ∀ v ∈ vs, Gd K n m H v) : ∃ ds, RpA K H vs ds ∧ ∀ d ∈ ds, okD n m d := by
  induction vs with
  | nil => exact ⟨[], .nil, fun _ hd => nomatch hd⟩
  | cons v vs ih =>
    obtain ⟨d, h1, h2⟩ := h v List.mem_cons_self
    obtain ⟨ds, h3, h4⟩ := ih fun w hw => h w (List.mem_cons_of_mem _ hw)
    refine ⟨d :: ds, .cons h1 h3, fun e he => ?_⟩
    rcases List.mem_cons.mp he with rfl | he
    · exact h2
    · exact h4 e he
/-- .. whose tuple at the top has no dict -/
def GN (K : PySem.W.Frag) (n m : Nat) (H : Hp) (v : V) : Prop := Gd K n m H v ∧ ND H v
theorem GN.x {v : V} (h : GN K n m H v) (e : Ex H H') : GN K n m H' v := ⟨h.1.x e, h.2.x e⟩
theorem GN.mono {v : V} {n' m' : Nat} (h : GN K n m H v) (h1 : n ≤ n') (h2 : m ≤ m') : GN K n' m' H v := ⟨h.1.mono h1 h2, h.2⟩
theorem gT {q : Addr} {o : Obj} {vs : List V} (e : ExP pl H0 H) (hq : H q = none) (ho : o.dict = none) (hl : vs.length ≤ m) (h : ∀ v ∈ vs, Gd K n m (hide pl H) v) : ExP pl H0 (L2.upd H q (.frz o (.tup vs))) ∧ ExP pl H (L2.upd H q (.frz o (.tup vs))) ∧ GN K (n + 1) m (hide pl (L2.upd H q (.frz o (.tup vs)))) (.ref q) := by
  obtain ⟨ds, h1, h2⟩ := gds h
  obtain ⟨n1, n2, n3⟩ := newP (o := .frz o (.tup vs)) e.pail hq
  exact ⟨e.trans n2, n2, ⟨.tuple ds, .tup (.inl (.inr ⟨o, n3⟩)) (h1.x n2.ex), okD_tup (by rw [← h1.len]; exact hl) h2⟩, fun q' hq' => by cases hq'; exact .inl ⟨o, _, n3, ho⟩⟩
theorem gL {q : Addr} {vs : List V} {n' m' : Nat} (e : ExP pl H0 H) (hq : H q = none) (h : ∀ v ∈ vs, Gd K n m (hide pl H) v) : ExP pl H0 (L2.upd H q (.lst vs)) ∧ ExP pl H (L2.upd H q (.lst vs)) ∧ GN K n' m' (hide pl (L2.upd H q (.lst vs))) (.ref q) := by
  obtain ⟨ds, h1, h2⟩ := gds h
  obtain ⟨n1, n2, n3⟩ := newP (o := .lst vs) e.pail hq
  exact ⟨e.trans n2, n2, ⟨.list ds, .lst (.of n3) (h1.x n2.ex), okD_list⟩, fun q' hq' => by cases hq'; exact .inr (.inl ⟨_, n3⟩)⟩
theorem nI {i : Int} : GN K n m H (.int i) := ⟨⟨_, .int i, okD_int⟩, fun _ h => nomatch h⟩
theorem nZ {i : Str} (h : okZ i = true) : GN K n m H (.str i) := ⟨⟨_, .str i, okD_z h⟩, fun _ h => nomatch h⟩
theorem nN : GN K n m H .non := ⟨⟨_, .non, okD_none⟩, fun _ h => nomatch h⟩
theorem nB {b : Bool} : GN K n m H (.bl b) := ⟨⟨_, .bl b, okD_bool⟩, fun _ h => nomatch h⟩
theorem gI {i : Int} : Gd K n m H (.int i) := ⟨_, .int i, okD_int⟩
theorem gZ {i : Str} (h : okZ i = true) : Gd K n m H (.str i) := ⟨_, .str i, okD_z h⟩
theorem gN : Gd K n m H .non := ⟨_, .non, okD_none⟩
theorem gB {b : Bool} : Gd K n m H (.bl b) := ⟨_, .bl b, okD_bool⟩
theorem all0 {p : V → Prop} : ∀ v ∈ ([] : List V), p v := fun _ h => nomatch h
theorem all1 {p : V → Prop} {a : V} {xs : List V} (h : p a) (t : ∀ v ∈ xs, p v) : ∀ v ∈ a :: xs, p v := fun v hv => by
  rcases List.mem_cons.mp hv with rfl | hv
  · exact h
  · exact t v hv
end
section
variable {P : Program} {w : World} {K : PySem.W.Frag} {mg : Str → Option Value} {base : Heap}
/-! ### _law_thing -/
def spThi (K : PySem.W.Frag) : Sp := fun vs H Q _ => ∃ pl, vs = [.ref pl] ∧ PailAt pl H ∧ ∀ v H', ExP pl H H' → GN K 2 2 (hide pl H') v → Q v H'
theorem sc50 : FnScope ["_law_pail", "_law_menu"] ["_law_pail"] (defScope (top 50)) := ⟨rfl, rfl, rfl, by decide +kernel, rfl, by decide +kernel, by decide +kernel⟩
theorem ok__law_thing (T : Txt K mg) : FnR P w K mg base CX0 3 (He.ga K "_law_thing") (spThi K) := by
  refine mkD T.d__law_thing.df sc50 (fun vs H Q E h => ?_) (fun _ _ _ _ _ _ us hl => match us, hl with | [_], _ => rfl) (fun cdv A outer s H vs Q E hr h => ?_)
  · obtain ⟨pl, rfl, _⟩ := h
    rfl
  · obtain ⟨pl, rfl, hp, k⟩ := h
    refine ⟨_, (pss_cons (ps_set (i := 1) sc50.nd rfl (.inl rfl) (pe_lst (pa_cons pe_non (pa_cons pe_bl (pa_cons pe_bl (pa_cons pe_int (pa_cons pe_int (pa_cons (pe_un un_neg pe_int) (pa_cons pe_int (pa_cons pe_int (pa_cons (pe_un un_neg (pe_op op_pow pe_int pe_int)) (pa_cons pe_str (pa_cons pe_str (pa_cons pe_str (pa_cons (pe_tupF pa_nil) (pa_cons (pe_tupF (pa_cons pe_int pa_nil)) (pa_cons (pe_tupF (pa_cons pe_int (pa_cons pe_int pa_nil))) (pa_cons pe_str pa_nil))))))))))))))))))
      (pss_cons (ps_set (i := 1) sc50.nd rfl (.inl rfl) (pe_op op_cat (pv 1) (pe_lst (pa_cons (pe_lst pa_nil) (pa_cons (pe_lst (pa_cons pe_int pa_nil)) (pa_cons pe_dnewK (pa_cons (pe_disp (pps_cons pe_str pe_int pps_nil) rfl rfl (by simp) (by decide)) (pa_cons (pe_tupF (pa_cons (pe_tupF (pa_cons pe_int (pa_cons pe_int pa_nil))) pa_nil)) (pa_cons (pe_tupF (pa_cons (pe_tupF (pa_cons pe_int (pa_cons pe_int pa_nil))) (pa_cons (pe_tupF (pa_cons pe_int (pa_cons pe_int pa_nil))) pa_nil))) (pa_cons (pe_tupF (pa_cons pe_str (pa_cons pe_int pa_nil))) (pa_cons (pe_tupF (pa_cons pe_non pa_nil)) (pa_cons pe_str (pa_cons pe_str (pa_cons pe_int pa_nil))))))))))))))
      (pss_one (ps_ret (pe_d T.d__law_any_of (ok__law_any_of T) hr (pa_cons (pv 0) (pa_cons (pv 1) pa_nil))))))), ?_⟩
    refine ⟨1, rfl, 10, 39, rfl, rfl, ⟨by decide, by decide, by decide⟩, 10 ^ 39, rfl, ?_⟩
    refine ⟨by decide, fun t1 ot1 ht1 dt1 => ?_⟩
    obtain ⟨e1, f1, g1⟩ := gT (K := K) (n := 1) (m := 2) (vs := []) (.refl hp) ht1 dt1 (by decide) all0
    generalize L2.upd H t1 _ = H1 at e1 f1 g1 ⊢
    refine ⟨by decide, fun t2 ot2 ht2 dt2 => ?_⟩
    obtain ⟨e2, f2, g2⟩ := gT (K := K) (n := 1) (m := 2) (vs := [.int 0]) e1 ht2 dt2 (by decide) (all1 gI all0)
    generalize L2.upd H1 t2 _ = H2 at e2 f2 g2 ⊢
    refine ⟨by decide, fun t3 ot3 ht3 dt3 => ?_⟩
    obtain ⟨e3, f3, g3⟩ := gT (K := K) (n := 1) (m := 2) (vs := [.int 0, .int 1]) e2 ht3 dt3 (by decide) (all1 gI (all1 gI all0))
    generalize L2.upd H2 t3 _ = H3 at e3 f3 g3 ⊢
    have s1 : ∀ v ∈ [V.non, .bl true, .bl false, .int 0, .int 1, .int (-1), .int 2, .int 4, .int (-10 ^ 39), .str "", .str "a", .str "levels 2 end 0 dark", .ref t1, .ref t2, .ref t3, .str "A"], GN K 2 2 (hide pl H3) v :=
      all1 nN (all1 nB (all1 nB (all1 nI (all1 nI (all1 nI (all1 nI (all1 nI (all1 nI (all1 (nZ (by decide)) (all1 (nZ (by decide)) (all1 (nZ (by decide)) (all1 ((g1.x f2.ex).x f3.ex) (all1 (g2.x f3.ex) (all1 g3 (all1 (nZ (by decide)) all0)))))))))))))))
    refine ⟨by show 16 ≤ sizeLine; decide, fun l1 hl1 => ?_⟩
    have hl1p := e3.pail.ne hl1
    obtain ⟨e4, f4, _⟩ := gL (n' := 0) (m' := 0) e3 hl1 fun v hv => (s1 v hv).1
    have m4 := fun v hv => (s1 v hv).x f4.ex
    have k4 : L2.upd H3 l1 (.lst [V.non, .bl true, .bl false, .int 0, .int 1, .int (-1), .int 2, .int 4, .int (-10 ^ 39), .str "", .str "a", .str "levels 2 end 0 dark", .ref t1, .ref t2, .ref t3, .str "A"]) l1 = _ := upd_same
    show tSeq _ _ _ _ (L2.upd H3 l1 _)
    clear s1 g1 g2 g3 f1 f2 f3
    generalize L2.upd H3 l1 _ = H4 at e4 f4 m4 k4 ⊢
    refine ⟨.ref l1, rfl, by decide, fun q1 hq1 => ?_⟩
    obtain ⟨e5, f5, g5⟩ := gL (K := K) (n := 1) (m := 2) (n' := 2) (m' := 2) (vs := []) e4 hq1 all0
    have k5 := f5.at k4 hl1p
    generalize L2.upd H4 q1 _ = H5 at e5 f5 g5 k5 ⊢
    refine ⟨by decide, fun q2 hq2 => ?_⟩
    obtain ⟨e6, f6, g6⟩ := gL (K := K) (n := 1) (m := 2) (n' := 2) (m' := 2) (vs := [.int 1]) e5 hq2 (all1 gI all0)
    have k6 := f6.at k5 hl1p
    generalize L2.upd H5 q2 _ = H6 at e6 f6 g6 k6 ⊢
    intro q3 hq3
    obtain ⟨p7, f7, n7⟩ := newP (o := .dK []) e6.pail hq3
    have g7 : GN K 2 2 (hide pl (L2.upd H6 q3 (.dK []))) (.ref q3) := ⟨⟨.dict [], .dic n7, okD_dict⟩, fun q' hq' => by cases hq'; exact .inr (.inr ⟨_, n7⟩)⟩
    have e7 := e6.trans f7
    have k7 := f7.at k6 hl1p
    generalize L2.upd H6 q3 _ = H7 at e7 f7 g7 k7 ⊢
    intro q4 hq4
    refine ⟨upd_same, [(Sum.inr "a", .int 1)], rfl, by decide, ?_⟩
    rw [upd_upd]
    obtain ⟨p8, f8, n8⟩ := newP (o := .dK (mergeK [] [(Sum.inr "a", .int 1)])) e7.pail hq4
    have g8 : GN K 2 2 (hide pl (L2.upd H7 q4 (.dK (mergeK [] [(Sum.inr "a", .int 1)])))) (.ref q4) := ⟨⟨.dict [], .dic n8, okD_dict⟩, fun q' hq' => by cases hq'; exact .inr (.inr ⟨_, n8⟩)⟩
    have e8 := e7.trans f8
    have k8 := f8.at k7 hl1p
    generalize L2.upd H7 q4 _ = H8 at e8 f8 g8 k8 ⊢
    refine ⟨by decide, fun q5 oq5 hq5 dq5 => ?_⟩
    obtain ⟨e9, f9, g9⟩ := gT (K := K) (n := 0) (m := 2) (vs := [.int 0, .int 1]) e8 hq5 dq5 (by decide) (all1 gI (all1 gI all0))
    have k9 := f9.at k8 hl1p
    generalize L2.upd H8 q5 _ = H9 at e9 f9 g9 k9 ⊢
    refine ⟨by show 1 ≤ sizeLine; decide, fun q6 oq6 hq6 dq6 => ?_⟩
    obtain ⟨e10, f10, g10⟩ := gT (K := K) (n := 1) (m := 2) (vs := [.ref q5]) e9 hq6 dq6 (by show 1 ≤ 2; decide) (all1 g9.1 all0)
    have k10 := f10.at k9 hl1p
    generalize L2.upd H9 q6 _ = H10 at e10 f10 g10 k10 ⊢
    refine ⟨by decide, fun q7 oq7 hq7 dq7 => ?_⟩
    obtain ⟨e11, f11, g11⟩ := gT (K := K) (n := 0) (m := 2) (vs := [.int 1, .int 1]) e10 hq7 dq7 (by decide) (all1 gI (all1 gI all0))
    have k11 := f11.at k10 hl1p
    generalize L2.upd H10 q7 _ = H11 at e11 f11 g11 k11 ⊢
    refine ⟨by decide, fun q8 oq8 hq8 dq8 => ?_⟩
    obtain ⟨e12, f12, g12⟩ := gT (K := K) (n := 0) (m := 2) (vs := [.int 0, .int 1]) e11 hq8 dq8 (by decide) (all1 gI (all1 gI all0))
    have k12 := f12.at k11 hl1p
    generalize L2.upd H11 q8 _ = H12 at e12 f12 g12 k12 ⊢
    refine ⟨by show 2 ≤ sizeLine; decide, fun q9 oq9 hq9 dq9 => ?_⟩
    obtain ⟨e13, f13, g13⟩ := gT (K := K) (n := 1) (m := 2) (vs := [.ref q7, .ref q8]) e12 hq9 dq9 (by show 2 ≤ 2; decide) (all1 (g11.x f12.ex).1 (all1 g12.1 all0))
    have k13 := f13.at k12 hl1p
    generalize L2.upd H12 q9 _ = H13 at e13 f13 g13 k13 ⊢
    refine ⟨by decide, fun q10 oq10 hq10 dq10 => ?_⟩
    obtain ⟨e14, f14, g14⟩ := gT (K := K) (n := 1) (m := 2) (vs := [.str "step", .int 1]) e13 hq10 dq10 (by decide) (all1 (gZ (by decide)) (all1 gI all0))
    have k14 := f14.at k13 hl1p
    generalize L2.upd H13 q10 _ = H14 at e14 f14 g14 k14 ⊢
    refine ⟨by decide, fun q11 oq11 hq11 dq11 => ?_⟩
    obtain ⟨e15, f15, g15⟩ := gT (K := K) (n := 1) (m := 2) (vs := [.non]) e14 hq11 dq11 (by decide) (all1 gN all0)
    have k15 := f15.at k14 hl1p
    generalize L2.upd H14 q11 _ = H15 at e15 f15 g15 k15 ⊢
    have x14 := f15.ex
    have x13 := f14.ex.trans x14
    have x12 := f13.ex.trans x13
    have x11 := f12.ex.trans x12
    have x10 := f11.ex.trans x11
    have x9 := f10.ex.trans x10
    have x8 := f9.ex.trans x9
    have x7 := f8.ex.trans x8
    have x6 := f7.ex.trans x7
    have x5 := f6.ex.trans x6
    have x4 := f5.ex.trans x5
    have s2 : ∀ v ∈ [V.ref q1, .ref q2, .ref q3, .ref q4, .ref q6, .ref q9, .ref q10, .ref q11, .str "abcdefghi", .str "+>", .int 11], GN K 2 2 (hide pl H15) v :=
      all1 (g5.x x5) (all1 (g6.x x6) (all1 (g7.x x7) (all1 (g8.x x8) (all1 (g10.x x10) (all1 (g13.x x13) (all1 (g14.x x14) (all1 g15 (all1 (nZ (by decide)) (all1 (nZ (by decide)) (all1 nI all0))))))))))
    refine ⟨by show 11 ≤ sizeLine; decide, fun l2 hl2 => ?_⟩
    obtain ⟨e16, f16, _⟩ := gL (n' := 0) (m' := 0) e15 hl2 fun v hv => (s2 v hv).1
    have k16 := f16.at k15 hl1p
    have k16b : L2.upd H15 l2 (.lst [V.ref q1, .ref q2, .ref q3, .ref q4, .ref q6, .ref q9, .ref q10, .ref q11, .str "abcdefghi", .str "+>", .int 11]) l2 = _ := upd_same
    generalize L2.upd H15 l2 _ = H16 at e16 f16 k16 k16b ⊢
    refine ⟨l1, l2, _, _, rfl, rfl, k16, k16b, by show 16 + 11 ≤ sizeLine; decide, fun l3 hl3 => ?_⟩
    obtain ⟨p17, f17, n17⟩ := newP (o := .lst ([V.non, .bl true, .bl false, .int 0, .int 1, .int (-1), .int 2, .int 4, .int (-10 ^ 39), .str "", .str "a", .str "levels 2 end 0 dark", .ref t1, .ref t2, .ref t3, .str "A"] ++ [V.ref q1, .ref q2, .ref q3, .ref q4, .ref q6, .ref q9, .ref q10, .ref q11, .str "abcdefghi", .str "+>", .int 11])) e16.pail hl3
    have e17 := e16.trans f17
    refine ⟨.ref pl, rfl, .ref l3, rfl, pl, l3, _, rfl, p17, .of n17, by simp, by show 27 ≤ 1000; decide, fun x hx H' ex => k x H' (e17.trans ex) ?_⟩
    rcases List.mem_append.mp hx with hx | hx
    · exact (m4 x hx).x ((x4.trans f16.ex).trans (f17.ex.trans ex.ex))
    · exact (s2 x hx).x (f16.ex.trans (f17.ex.trans ex.ex))
end
end Lk
namespace Lk
open PySem PySem.Spec PyProof.Rows L2 Evl Lm TL
section
variable {P : Program} {w : World} {K : PySem.W.Frag} {mg : Str → Option Value} {base : Heap}
theorem PailAt.sqT {pl a : Addr} {H : Hp} {xs : List V} (hp : PailAt pl H) (h : SqT K H a xs) : SqT K (hide pl H) a xs := by
  obtain ⟨x, y, z, h1, _⟩ := hp
  exact sqT_hide h1 h
theorem gTs {pl q : Addr} {H : Hp} {vs : List V} {n m : Nat} (hp : PailAt pl H) (hq : SqT K H q vs) (hl : vs.length ≤ m) (h : ∀ v ∈ vs, Gd K n m (hide pl H) v) : Gd K (n + 1) m (hide pl H) (.ref q) := by
  obtain ⟨ds, h1, h2⟩ := gds h
  exact ⟨.tuple ds, .tup (hp.sqT hq) h1, okD_tup (by rw [← h1.len]; exact hl) h2⟩
/-- the tuple at p has no dict -/
def NT (H : Hp) (p : Addr) : Prop := ∃ o u, H p = some (.frz o u) ∧ o.dict = none
def OrN (q : Addr) (H : Hp) (p : Addr) : Prop := p = q ∨ NT H p
theorem NT.x {H H' : Hp} {p : Addr} (h : NT H p) (e : Ex H H') : NT H' p := let ⟨o, u, a, b⟩ := h; ⟨o, u, e _ _ a, b⟩
theorem OrN.x {q : Addr} {H H' : Hp} {p : Addr} (h : OrN q H p) (e : Ex H H') : OrN q H' p := h.elim .inl fun z => .inr (z.x e)
theorem NT.hide {pl : Addr} {H : Hp} {p : Addr} (hp : PailAt pl H) (h : NT H p) : NT (hide pl H) p := by
  obtain ⟨o, u, a, b⟩ := h
  obtain ⟨x, y, z, h1, _⟩ := hp
  have hne : p ≠ pl := fun e => by rw [e, h1] at a; cases a
  exact ⟨o, u, by rw [hide_ne hne]; exact a, b⟩
theorem OrN.hide {pl q : Addr} {H : Hp} {p : Addr} (hp : PailAt pl H) (h : OrN q H p) : OrN q (hide pl H) p := h.elim .inl fun z => .inr (z.hide hp)
theorem NT.nd {H : Hp} {p : Addr} (h : NT H p) : ND H (.ref p) := fun q hq => by cases hq; exact .inl h
theorem catF {q0 : Addr} {H : Hp} {a b : Addr} {xs ys : List V} {Q : VK} (ha : SqT K H a xs) (hb : SqT K H b ys) (oa : OrN q0 H a) (ob : OrN q0 H b) (hl : xs.length + ys.length ≤ 1000) (q : ∀ p H', Ex H H' → SqT K H' p (xs ++ ys) → OrN q0 H' p → Q (.ref p) H') : rCatF K (.ref a) (.ref b) H Q :=
  ⟨a, b, xs, ys, rfl, rfl, ha, hb, by rw [sizeLine_eq]; omega, fun e => q b H (.refl _) (by rw [e]; exact hb) ob, fun _ e => q a H (.refl _) (by rw [e, List.append_nil]; exact ha) oa, fun _ _ p o hp ho => q p _ (Ex.new hp) (.inl (.inr ⟨o, upd_same⟩)) (.inr ⟨o, _, upd_same, ho⟩)⟩
theorem slF {H : Hp} {a : Addr} {xs : List V} {lo hi : Option Int} {Q : VK} (h : SqT K H a xs) (q : ∀ p H', Ex H H' → SqT K H' p (cutV xs lo hi) → OrN a H' p → Q (.ref p) H') : rSlF K (.ref a) lo hi H Q := by
  refine ⟨a, xs, rfl, h, fun hw => q a H (.refl _) ?_ (.inl rfl), fun _ p o hp ho => q p _ (Ex.new hp) (.inl (.inr ⟨o, upd_same⟩)) (.inr ⟨o, _, upd_same, ho⟩)⟩
  have e : cutV xs lo hi = xs := by
    unfold cutV
    rw [hw.1, hw.2, List.drop_zero, Nat.sub_zero, List.take_of_length_le (Nat.le_refl _)]
  rw [e]
  exact h
theorem b_listT {X : Cx} {e : Expr} {es : List Expr} {t : TA} {p pos : Pos} (T : Txt X.K X.mg) (ha : PA X (e :: es) t) (hg : Gl X "list" := by rfl) (he : starEach (e :: es) X.env = (false, eval e X.env) :: starEach es X.env := by rfl) (hpl : (backTo pos (starEach es X.env)).any (·.1) = false := by rfl) :
    PE X (.Call (.Name "list" p) (e :: es) [] pos) (tCB (fun xs H Q => ∃ p ys, xs = [.ref p] ∧ (SqL X.K H p ys ∨ SqT X.K H p ys) ∧ ∀ l, H l = none → Q (.ref l) (upd H l (.lst ys))) t) := pe_callTy call_list_of hg T.f_list boot_list ha (he := he) (hpl := hpl)
/-! ### _law_bent -/
def spBen (K : PySem.W.Frag) (m : Nat) : Nat → Sp
  | 0 => fun _ _ _ _ => False
  | n + 1 => fun vs H Q _ => ∃ pl v, vs = [.ref pl, v] ∧ PailAt pl H ∧ Gd K n m (hide pl H) v ∧ ∀ y H', ExP pl H H' → Gd K (n + 2) (m + 1) (hide pl H') y → (ND (hide pl H) v → ND (hide pl H') y) → Q y H'
theorem sc51 : FnScope ["_law_pail", "_law_value", "_law_chance", "_law_at"] ["_law_pail", "_law_value"] (defScope (top 51)) := ⟨rfl, rfl, rfl, by decide +kernel, rfl, by decide +kernel, by decide +kernel⟩
theorem ok__law_bent1 (T : Txt K mg) {m : Nat} (hm2 : 2 ≤ m) (hm9 : m ≤ 400) {n : Nat} (F : FnR P w K mg base CX0 (3 + n) (He.ga K "_law_bent") (spBen K m n)) : FnR P w K mg base CX0 (3 + n + 1) (He.ga K "_law_bent") (spBen K m (n + 1)) := by
  refine mkD T.d__law_bent.df sc51 (fun vs H Q E h => ?_) (fun _ _ _ _ _ _ us hl => match us, hl with | [_, _], _ => rfl) (fun cdv A outer s H vs Q E hr h => ?_)
  · obtain ⟨pl, v, rfl, _⟩ := h
    rfl
  · obtain ⟨pl, v, rfl, hp, ⟨d, hv, hd⟩, k⟩ := h
    refine ⟨_, (pss_cons (ps_par (i := 2) (j := 3) rfl sc51.nd rfl rfl (by decide) rfl rfl (pa_cons (pe_d T.d__law_cast (ok__law_cast T) hr (pa_cons (pv 0) (pa_cons pe_int pa_nil)) (by omega)) (pa_cons (pe_d T.d__law_cast (ok__law_cast T) hr (pa_cons (pv 0) (pa_cons pe_int pa_nil)) (by omega)) pa_nil)) (by rfl))
      (pss_cons (ps_if (PW.pt (pw_and (pt_val (b_isi T (pa_cons (pv 1) (pa_cons (pn_tuple T) pa_nil)))) (pw_and (pt_cmpR (op_neE hr.units0) (pv 1) (pe_tup pa_nil) (nomark _)) (pw_and1 (pt_cmpR op_gt (pv 2) pe_int (nomark _))))))
      (pss_cons (ps_set (i := 3) sc51.nd rfl (.inl rfl) (pe_op op_mod (b_intI T (pa_cons (pv 3) pa_nil)) (b_len T (pa_cons (pv 1) pa_nil))))
        (pss_cons (ps_if (pt_cmpR op_eq (pv 2) pe_int (nomark _))
        (pss_one (ps_ret (pe_op op_catF (pe_slice sl_tupF (pv 1) po_none (po_some (pv 3))) (pe_slice sl_tupF (pv 1) (po_some (pe_op op_add (pv 3) pe_int)) po_none))))
        pss_nil)
        (pss_cons (ps_if (pt_cmpR op_eq (pv 2) pe_int (nomark _))
        (pss_one (ps_ret (pe_op op_catF (pe_op op_catF (pe_slice sl_tupF (pv 1) po_none (po_some (pv 3))) (pe_slice sl_tupF (pv 1) (po_some (pv 3)) (po_some (pe_op op_add (pv 3) pe_int)))) (pe_slice sl_tupF (pv 1) (po_some (pv 3)) po_none))))
        pss_nil)
        (pss_cons (ps_if (pt_cmpR op_eq (pv 2) pe_int (nomark _))
        (pss_one (ps_ret (pe_revF (pv 1))))
        pss_nil)
        (pss_one (ps_ret (pe_op op_catF (pe_op op_catF (pe_slice sl_tupF (pv 1) po_none (po_some (pv 3))) (pe_tupF (pa_cons (pe_d T.d__law_bent F hr (pa_cons (pv 0) (pa_cons (pe_ix ix_tup (pv 1) (pv 3) (fun _ _ => rfl)) pa_nil)) (by omega)) pa_nil))) (pe_slice sl_tupF (pv 1) (po_some (pe_op op_add (pv 3) pe_int)) po_none))))))))
      pss_nil)
      (pss_cons (ps_if (PW.pt (pw_and (pt_val (b_isi T (pa_cons (pv 1) (pa_cons (pn_tuple T) pa_nil)))) (pw_and1 (pt_cmpR op_gt (pv 3) pe_int (nomark _)))))
      (pss_one (ps_ret (b_listT T (pa_cons (pv 1) pa_nil))))
      pss_nil)
      (pss_cons (ps_if (PW.pt (pw_and (pt_val (b_isi T (pa_cons (pv 1) (pa_cons (pn_int T) pa_nil)))) (pw_and (pt_not (pt_val (b_isi T (pa_cons (pv 1) (pa_cons (pn_bool T) pa_nil))))) (pw_and1 (pt_cmpR op_gt (pv 3) pe_int (nomark _))))))
      (pss_one (ps_ret (pe_ifExp (pt_cmpR op_gt (pv 3) pe_int (nomark _)) (pe_op op_add (pv 1) pe_int) (pe_op op_sub (pv 1) pe_int))))
      pss_nil)
      (pss_one (ps_ret (pe_d T.d__law_thing (ok__law_thing T) hr (pa_cons (pv 0) pa_nil) (by omega)))))))), ?_⟩
    refine ⟨.ref pl, rfl, pl, 9, rfl, hp, by decide, by decide, fun c H1 e1 hc0 hc9 => ?_⟩
    refine ⟨.ref pl, rfl, pl, 60, rfl, e1.pail, by decide, by decide, fun a H2 e2 ha0 ha60 => ?_⟩
    have e12 := e1.trans e2
    have hv2 := hv.x e12.ex
    have hp2 := e12.pail
    have k2 : ∀ y H', ExP pl H2 H' → Gd K (n + 2) (m + 1) (hide pl H') y → (ND (hide pl H2) v → ND (hide pl H') y) → Q y H' := fun y H' e g hn => k y H' (e12.trans e) g fun z => hn (z.x e12.ex)
    clear k hv e1 e2 hp
    refine ⟨.int c, .int a, rfl, ?_⟩
    have hkit := kit_tuple (K := K) d
    have hty := (hv2.x hide_ex).ty
    by_cases hT : isT d = true
    · obtain ⟨ds, rfl⟩ : ∃ ds, d = .tuple ds := by
        cases d <;> first | exact ⟨_, rfl⟩ | cases hT
      obtain ⟨n, rfl⟩ : ∃ n', n = n' + 1 := by
        cases n with
        | zero => exact absurd rfl (hd.2 ds)
        | succ n' => exact ⟨n', rfl⟩
      obtain ⟨q, xs, rfl, hq, hra⟩ := hv2.tupE
      obtain ⟨hdl, hdm⟩ := hd.2 ds rfl
      have hlen : xs.length = ds.length := hra.len
      have hq2 := ex_t hide_ex hq
      have hg : ∀ x ∈ xs, Gd K n m (hide pl H2) x := fun x hx => by
        obtain ⟨i, hi, ei⟩ := List.mem_iff_getElem.mp hx
        obtain ⟨dx, h1, h2⟩ := hra.get (show xs[i]? = some x by rw [List.getElem?_eq_getElem hi, ei])
        exact ⟨dx, h2, hdm dx (List.mem_of_getElem? h1)⟩
      refine ⟨.ref q, rfl, .ref q, _, _, _, _, rfl, .ty _, hty, hkit, _, rfl, itT ?_⟩
      have lst : ∀ H3 l, ExP pl H2 H3 → H3 l = none → Q (.ref l) (L2.upd H3 l (.lst xs)) := fun H3 l e3 hl => by
        obtain ⟨e4, _, g4⟩ := gL (K := K) (n := n) (m := m) (n' := n + 1 + 2) (m' := m + 1) e3 hl (fun x hx => (hg x hx).x e3.ex)
        exact k2 _ _ e4 g4.1 fun _ => g4.2
      refine ⟨.ref q, rfl, by decide, fun q0 hq0 => ?_⟩
      have x3 : Ex H2 (L2.upd H2 q0 (.tup [])) := Ex.new hq0
      have x3q : SqT K (L2.upd H2 q0 (.tup [])) q0 [] := .of upd_same
      generalize L2.upd H2 q0 (.tup []) = H3 at x3 x3q ⊢
      have e3 : ExP pl H2 H3 := .of hp2 x3
      refine ⟨q, q0, xs, rfl, rfl, .inr ⟨ex_t x3 hq2, x3q⟩, _, rfl, ite_b (fun hne => ⟨.int c, rfl, c, 0, rfl, rfl, _, rfl, ite_b (fun hc => ?_) (fun hc => ?_)⟩) (fun hne => ?_)⟩
      · have hpos : 0 < xs.length := by
          cases xs with
          | nil => cases hne
          | cons _ _ => exact Nat.succ_pos _
        have hq3 := ex_t x3 hq2
        have fin : ∀ H5 p vs, ExP pl H2 H5 → SqT K H5 p vs → OrN q H5 p → vs.length ≤ m + 1 → (∀ v ∈ vs, Gd K (n + 2) (m + 1) (hide pl H5) v) → Q (.ref p) H5 := fun H5 p vs e5 hp5 ho hl hg5 => k2 _ _ e5 (gTs e5.pail hp5 hl hg5) fun hn => (ho.hide e5.pail).elim (fun z => by rw [z]; exact hn.x e5.ex) fun z => z.nd
        have hgx : ∀ H5, ExP pl H2 H5 → ∀ x ∈ xs, Gd K (n + 2) (m + 1) (hide pl H5) x := fun H5 e5 x hx => ((hg x hx).x e5.ex).mono (by omega) (by omega)
        obtain ⟨i, hi, ei⟩ : ∃ i : Nat, i < xs.length ∧ a % (xs.length : Int) = (i : Int) := ⟨(a % (xs.length : Int)).toNat, by have := Int.emod_lt_of_pos a (show (0 : Int) < xs.length by omega); have := Int.emod_nonneg a (show (xs.length : Int) ≠ 0 by omega); omega, by have := Int.emod_nonneg a (show (xs.length : Int) ≠ 0 by omega); omega⟩
        have ei1 : (i : Int) + 1 = ((i + 1 : Nat) : Int) := rfl
        refine ⟨.int a, rfl, a, rfl, .ref q, rfl, .ref q, xs.length, rfl, .inr ⟨xs, hq3, rfl⟩, a, xs.length, rfl, rfl, by show (0 : Int) < _; omega, ?_⟩
        show tSeq _ _ _ (List.set _ _ (some (.int (a % (xs.length : Int))))) _
        rw [ei]
        refine ⟨.int c, rfl, rfl, _, rfl, ite_b (fun _ => ?_) (fun _ => ⟨.int c, rfl, rfl, _, rfl, ite_b (fun _ => ?_) (fun _ => ⟨.int c, rfl, rfl, _, rfl, ite_b (fun _ => ?_) (fun _ => ?_)⟩)⟩)⟩
        · refine ⟨.ref q, rfl, .int i, rfl, (i : Int), rfl, slF hq3 fun p4 H4 e4 hp4 n4 => ⟨.ref q, rfl, .int i, rfl, i, 1, rfl, rfl, (i : Int) + 1, rfl, ?_⟩⟩
          unfold tNoPart
          refine slF (ex_t e4 hq3) fun p5 H5 e5 hp5 n5 => ?_
          rw [cutV_to] at hp4
          rw [ei1, cutV_from] at hp5
          refine catF (ex_t e5 hp4) hp5 (n4.x e5) n5 (by rw [List.length_take, List.length_drop]; omega) fun p6 H6 e6 hp6 n6 => fin H6 p6 _ (e3.on ((e4.trans e5).trans e6)) hp6 n6 (by rw [List.length_append, List.length_take, List.length_drop]; omega) fun v hv => hgx _ (e3.on ((e4.trans e5).trans e6)) v ?_
          rcases List.mem_append.mp hv with hv | hv
          · exact List.mem_of_mem_take hv
          · exact List.mem_of_mem_drop hv
        · refine ⟨.ref q, rfl, .int i, rfl, (i : Int), rfl, slF hq3 fun p4 H4 e4 hp4 n4 => ⟨.ref q, rfl, .int i, rfl, i, rfl, .int i, rfl, i, 1, rfl, rfl, (i : Int) + 1, rfl, slF (ex_t e4 hq3) fun p5 H5 e5 hp5 n5 => ?_⟩⟩
          rw [cutV_to] at hp4
          rw [ei1, cutV_mid] at hp5
          refine catF (ex_t e5 hp4) hp5 (n4.x e5) n5 (by rw [List.length_take, List.length_take, List.length_drop]; omega) fun p6 H6 e6 hp6 n6 => ⟨.ref q, rfl, .int i, rfl, i, rfl, ?_⟩
          unfold tNoPart
          refine slF (ex_t ((e4.trans e5).trans e6) hq3) fun p7 H7 e7 hp7 n7 => ?_
          rw [cutV_from] at hp7
          refine catF (ex_t e7 hp6) hp7 (n6.x e7) n7 (by rw [List.length_append, List.length_take, List.length_take, List.length_drop]; omega) fun p8 H8 e8 hp8 n8 => fin H8 p8 _ (e3.on ((((e4.trans e5).trans e6).trans e7).trans e8)) hp8 n8 (by rw [List.length_append, List.length_append, List.length_take, List.length_take, List.length_drop]; omega) fun v hv => hgx _ (e3.on ((((e4.trans e5).trans e6).trans e7).trans e8)) v ?_
          rcases List.mem_append.mp hv with hv | hv
          · rcases List.mem_append.mp hv with hv | hv
            · exact List.mem_of_mem_take hv
            · exact List.mem_of_mem_drop (List.mem_of_mem_take hv)
          · exact List.mem_of_mem_drop hv
        · refine ⟨.ref q, rfl, q, xs, rfl, hq3, fun p4 o4 hp4 ho4 => fin _ p4 xs.reverse (e3.on (Ex.new hp4)) (.inl (.inr ⟨o4, upd_same⟩)) (.inr ⟨o4, _, upd_same, ho4⟩) (by rw [List.length_reverse]; omega) fun v hv => hgx _ (e3.on (Ex.new hp4)) v (List.mem_reverse.mp hv)⟩
        · have hget : xs[i]? = some xs[i] := List.getElem?_eq_getElem hi
          refine ⟨.ref q, rfl, .int i, rfl, (i : Int), rfl, slF hq3 fun p4 H4 e4 hp4 n4 => ⟨.ref pl, rfl, .ref q, rfl, .int i, rfl, q, xs, i, xs[i], rfl, rfl, ex_t e4 hq3, atI_nat hget, ?_⟩⟩
          rw [cutV_to] at hp4
          have e34 := e3.on e4
          refine ⟨pl, xs[i], rfl, e34.pail, (hg _ (List.getElem_mem hi)).x e34.ex, fun y H5 e5 gy _ => ⟨by show 1 ≤ sizeLine; decide, fun p5 o5 hp5 ho5 => ?_⟩⟩
          have e35 := e34.trans e5
          have hq4 := e34.pail.sqT hp4
          have hp4' := ex_t (Ex.new (o := .frz o5 (.tup [y])) hp5) (ex_t hide_ex (ex_t e5.ex hq4))
          have e36 : ExP pl H2 (L2.upd H5 p5 (.frz o5 (.tup [y]))) := e35.on (Ex.new hp5)
          have gy' : Gd K (n + 2) (m + 1) (hide pl (L2.upd H5 p5 (.frz o5 (.tup [y])))) y := gy.x (ex_hide (Ex.new hp5))
          have hp5' : SqT K (L2.upd H5 p5 (.frz o5 (.tup [y]))) p5 [y] := .inl (.inr ⟨o5, upd_same⟩)
          have hq5 : SqT K (L2.upd H5 p5 (.frz o5 (.tup [y]))) q xs := ex_t hide_ex (ex_t e36.ex hq)
          have n5' : NT (L2.upd H5 p5 (.frz o5 (.tup [y]))) p5 := ⟨o5, _, upd_same, ho5⟩
          have n4' : OrN q (L2.upd H5 p5 (.frz o5 (.tup [y]))) p4 := ((((n4.hide e34.pail).x e5.ex).x hide_ex)).x (Ex.new hp5)
          generalize L2.upd H5 p5 (.frz o5 (.tup [y])) = H6 at hp4' e36 gy' hp5' hq5 n4' n5' ⊢
          refine catF hp4' hp5' n4' (.inr n5') (by rw [List.length_take]; show _ + 1 ≤ 1000; omega) fun p6 H7 e7 hp6 n6 => ⟨.ref q, rfl, .int i, rfl, i, 1, rfl, rfl, (i : Int) + 1, rfl, ?_⟩
          unfold tNoPart
          refine slF (ex_t e7 hq5) fun p7 H8 e8 hp7 n7 => ?_
          rw [ei1, cutV_from] at hp7
          refine catF (ex_t e8 hp6) hp7 (n6.x e8) n7 (by rw [List.length_append, List.length_take, List.length_drop]; show _ + 1 + _ ≤ 1000; omega) fun p8 H9 e9 hp8 n8 => fin H9 p8 _ (e36.on ((e7.trans e8).trans e9)) hp8 n8 (by rw [List.length_append, List.length_append, List.length_take, List.length_drop]; show _ + 1 + _ ≤ _; omega) fun v hv => ?_
          rcases List.mem_append.mp hv with hv | hv
          · rcases List.mem_append.mp hv with hv | hv
            · exact hgx _ (e36.on ((e7.trans e8).trans e9)) v (List.mem_of_mem_take hv)
            · rw [List.mem_singleton.mp hv]
              exact gy'.x (ex_hide ((e7.trans e8).trans e9))
          · exact hgx _ (e36.on ((e7.trans e8).trans e9)) v (List.mem_of_mem_drop hv)
      · refine ⟨.ref q, rfl, .ref q, _, _, _, _, rfl, .ty _, ((hv2.x e3.ex).x hide_ex).ty, hkit, _, rfl, itT ⟨.int a, rfl, a, 40, rfl, rfl, _, rfl, ite_b (fun _ => ⟨.ref q, rfl, q, xs, rfl, .inr (ex_t x3 hq2), fun l hl => lst _ l e3 hl⟩) (fun _ => ⟨.ref q, rfl, .ref q, _, _, _, _, rfl, .ty _, ((hv2.x e3.ex).x hide_ex).ty, kit_int (.tuple ds), _, rfl, itF (itF ⟨.ref pl, rfl, pl, rfl, e3.pail, fun y H5 e5 g => k2 y H5 (e3.trans e5) (g.mono (by omega) (by omega)).1 fun _ => g.2⟩)⟩)⟩⟩
      · refine itF ⟨.ref q, rfl, .ref q, _, _, _, _, rfl, .ty _, ((hv2.x e3.ex).x hide_ex).ty, hkit, _, rfl, itT ⟨.int a, rfl, a, 40, rfl, rfl, _, rfl, ite_b (fun _ => ⟨.ref q, rfl, q, xs, rfl, .inr (ex_t x3 hq2), fun l hl => lst _ l e3 hl⟩) (fun _ => ⟨.ref q, rfl, .ref q, _, _, _, _, rfl, .ty _, ((hv2.x e3.ex).x hide_ex).ty, kit_int (.tuple ds), _, rfl, itF (itF ⟨.ref pl, rfl, pl, rfl, e3.pail, fun y H5 e5 g => k2 y H5 (e3.trans e5) (g.mono (by omega) (by omega)).1 fun _ => g.2⟩)⟩)⟩⟩
    · have hb : isT d = false := by simpa using hT
      have thing : ∀ H3, ExP pl H2 H3 → spThi K [.ref pl] H3 Q E := fun H3 e3 => ⟨pl, rfl, e3.pail, fun y H5 e5 g => k2 y H5 (e3.trans e5) (g.mono (by omega) (by omega)).1 fun _ => g.2⟩
      rw [hb] at hkit
      refine ⟨v, rfl, v, _, _, _, _, rfl, .ty _, hty, hkit, _, rfl, itF ⟨v, rfl, v, _, _, _, _, rfl, .ty _, hty, hkit, _, rfl, itF ⟨v, rfl, v, _, _, _, _, rfl, .ty _, hty, kit_int d, _, rfl, ite_b (fun h1 => ?_) (fun h1 => itF ?_)⟩⟩⟩
      · refine ⟨v, rfl, v, _, _, _, _, rfl, .ty _, hty, kit_bool d, _, rfl, ?_⟩
        cases hbb : isB d with
        | true => exact itF ⟨.ref pl, rfl, thing _ (.refl hp2)⟩
        | false =>
          obtain ⟨i, rfl⟩ : ∃ i, d = .int i := by
            cases d <;> first | exact ⟨_, rfl⟩ | (cases h1; done) | (cases hbb; done)
          cases hv2
          have out : ∀ j : Int, Q (.int j) H2 := fun j => k2 _ _ (.refl hp2) gI fun _ _ z => nomatch z
          refine itT ⟨.int a, rfl, a, 19, rfl, rfl, _, rfl, ite_b (fun _ => ⟨.int a, rfl, a, 39, rfl, rfl, _, rfl, ite_b (fun _ => ⟨.int i, rfl, i, 1, rfl, rfl, out _⟩) (fun _ => ⟨.int i, rfl, i, 1, rfl, rfl, out _⟩)⟩) (fun _ => ⟨.ref pl, rfl, thing _ (.refl hp2)⟩)⟩
      · exact ⟨.ref pl, rfl, thing _ (.refl hp2)⟩
end
end Lk
namespace Lk
open PySem PySem.Spec PyProof.Rows L2 Evl Lm TL
section
variable {P : Program} {w : World} {K : PySem.W.Frag} {mg : Str → Option Value} {base : Heap}
theorem ok__law_bentN (T : Txt K mg) {m : Nat} (hm2 : 2 ≤ m) (hm9 : m ≤ 400) : ∀ n, FnR P w K mg base CX0 (3 + n) (He.ga K "_law_bent") (spBen K m n)
  | 0 => fun _ _ _ _ _ _ _ _ _ _ _ h => h.elim
  | n + 1 => ok__law_bent1 T hm2 hm9 (ok__law_bentN T hm2 hm9 n)
def spBenA (K : PySem.W.Frag) : Sp := fun vs H Q _ => ∃ pl v i, i ≤ 1 ∧ vs = [.ref pl, v] ∧ PailAt pl H ∧ GN K (2 + 2 * i) (7 + i) (hide pl H) v ∧ ∀ y H', ExP pl H H' → GN K (2 + 2 * (i + 1)) (7 + (i + 1)) (hide pl H') y → Q y H'
theorem ok__law_bent (T : Txt K mg) : FnR P w K mg base CX0 8 (He.ga K "_law_bent") (spBenA K) := fun A outer s H us vs Q E hr e0 r h => by
  obtain ⟨pl, v, i, hi, rfl, hp, hg, k⟩ := h
  rcases Nat.le_one_iff_eq_zero_or_eq_one.mp hi with rfl | rfl
  · exact (ok__law_bentN T (m := 7) (by decide) (by decide) 3).mono (by decide) A outer s H us _ Q E hr e0 r ⟨pl, v, rfl, hp, hg.1, fun y H' e g nd => k y H' e ⟨g, nd hg.2⟩⟩
  · exact (ok__law_bentN T (m := 8) (by decide) (by decide) 5) A outer s H us _ Q E hr e0 r ⟨pl, v, rfl, hp, hg.1, fun y H' e g nd => k y H' e ⟨g, nd hg.2⟩⟩
theorem lev_le {p : Int} (h : isLev p = true) : 2 ≤ p ∧ p ≤ 7 := by
  unfold isLev at h
  simp only [Bool.or_eq_true, beq_iff_eq, decide_eq_true_eq] at h
  omega
theorem rgV_int {a b : Int} : ∀ x ∈ rgV a b, ∃ j, x = V.int j := fun x hx => by
  obtain ⟨i, _, rfl⟩ := List.mem_map.mp hx
  exact ⟨_, rfl⟩
/-! ### _law_some -/
def spSome (K : PySem.W.Frag) : Sp := fun vs H Q _ => ∃ pl v rs, vs = [.ref pl, v] ∧ PailAt pl H ∧ Rp K (hide pl H) v (crD rs) ∧ ValidL rs ∧ ∀ y H', ExP pl H H' → GN K 6 9 (hide pl H') y → Q y H'
theorem sc66 : FnScope ["_law_pail", "_law_crowd_here", "_law_p", "_law_value", "_law_at", "_law_new", "_law_turn"] ["_law_pail", "_law_crowd_here"] (defScope (top 66)) := ⟨rfl, rfl, rfl, by decide +kernel, rfl, by decide +kernel, by decide +kernel⟩
theorem ok__law_some (T : Txt K mg) : FnR P w K mg base CX0 9 (He.ga K "_law_some") (spSome K) := by
  refine mkD T.d__law_some.df sc66 (fun vs H Q E h => ?_) (fun _ _ _ _ _ _ us hl => match us, hl with | [_, _], _ => rfl) (fun cdv A outer s H vs Q E hr h => ?_)
  · obtain ⟨pl, v, rs, rfl, _⟩ := h
    rfl
  · obtain ⟨pl, v, rs, rfl, hp, hv, hva, k⟩ := h
    refine ⟨_, (pss_cons (ps_par (i := 2) (j := 3) rfl sc66.nd rfl rfl (by decide) rfl rfl (pa_cons (pe_ix ix_list (pe_ix ix_list (pv 1) pe_int (fun _ _ => rfl)) pe_int (fun _ _ => rfl)) (pa_cons (pe_tupF pa_nil) pa_nil)) (by rfl))
      (pss_cut (ps_for PassesOwn.never rfl (pi_list (pe_op op_cat (pe_stepL (pe_listRg rfl rfl T.f_list (prg_1 rfl T.f_range (b_len T (pa_cons (pv 1) pa_nil)))) (pe_d T.d__law_any_of (ok__law_any_of T) hr (pa_cons (pv 0) (pa_cons (pe_lst (pa_cons pe_int (pa_cons (pe_un un_neg pe_int) pa_nil))) pa_nil)))) (pe_lst (pa_cons (pe_un un_neg pe_int) (pa_cons (b_len T (pa_cons (pv 1) pa_nil)) (pa_cons pe_int pa_nil)))))) (pg_name (i := 4) sc66.nd rfl (.inl rfl))
      (pss_one (ps_if (pt_cmpR op_eq (pe_d T.d__law_cast (ok__law_cast T) hr (pa_cons (pv 0) (pa_cons pe_int pa_nil))) pe_int (nomark _))
        (pss_cons (ps_set (i := 5) sc66.nd rfl (.inl rfl) (pe_d T.d__law_sheet (ok__law_sheet T) hr (pa_cons (pe_d T.d__law_small (ok__law_small T) hr (pa_cons (pv 0) (pa_cons (pv 2) (pa_cons pe_int pa_nil)))) pa_nil)))
          (pss_cons (ps_set (i := 5) sc66.nd rfl (.inl rfl) (pe_d T.d__law_any_of (ok__law_any_of T) hr (pa_cons (pv 0) (pa_cons (pe_lst (pa_cons pe_str (pa_cons (pv 5) (pa_cons (pv 5) (pa_cons (pe_d T.d__law_sheet (ok__law_sheet T) hr (pa_cons (pe_d T.d__law_parts (ok__law_parts T) hr (pa_cons (pv 0) pa_nil)) pa_nil)) (pa_cons pe_str (pa_cons (pe_op op_add_str (pv 5) pe_str) (pa_cons (pe_op op_add_str (pv 5) pe_str) pa_nil)))))))) pa_nil))))
          (pss_one (ps_set (i := 3) sc66.nd rfl (.inl rfl) (pe_op op_catF (pv 3) (pe_tupF (pa_cons (pe_tupF (pa_cons (pv 4) (pa_cons (pv 5) pa_nil))) pa_nil)))))))
        pss_nil)))
      (pss_cut (ps_for PassesOwn.never rfl (pi_range1 rfl T.f_range (pa_cons (pe_d T.d__law_any_of (ok__law_any_of T) hr (pa_cons (pv 0) (pa_cons (pe_lst (pa_cons pe_int (pa_cons pe_int (pa_cons pe_int (pa_cons pe_int (pa_cons pe_int pa_nil)))))) pa_nil))) pa_nil)) (pg_name (i := 6) sc66.nd rfl (.inl rfl))
      (pss_one (ps_set (i := 3) sc66.nd rfl (.inl rfl) (pe_d T.d__law_bent (ok__law_bent T) hr (pa_cons (pv 0) (pa_cons (pv 3) pa_nil))))))
      (pss_one (ps_ret (pe_ifExp (pt_cmpR op_gt (pe_d T.d__law_cast (ok__law_cast T) hr (pa_cons (pv 0) (pa_cons pe_int pa_nil))) pe_int (nomark _)) (pv 3) (pe_d T.d__law_thing (ok__law_thing T) hr (pa_cons (pv 0) pa_nil)))))))), ?_⟩
    obtain ⟨ca, us, rfl, hca, hra⟩ := hv.lstE
    have hlen : us.length = rs.length := by rw [hra.len, List.length_map]
    have hfew := hva.few
    have hca1 := ex_l hide_ex hca
    obtain ⟨r0, hr0⟩ : ∃ r0, rs[0]? = some r0 := by
      cases rs with
      | nil => exact absurd rfl hva.ne
      | cons r0 _ => exact ⟨r0, rfl⟩
    obtain ⟨x0, hx0, hxr⟩ := hra.get' (i := 0) (d := rdD r0) (by rw [List.getElem?_map, hr0]; rfl)
    obtain ⟨a0, L0, rfl, hs0, _⟩ := hxr.rdE
    have hlev := (hva.val r0 (List.mem_of_getElem? hr0)).1
    obtain ⟨hp2, hp7⟩ := lev_le hlev
    refine ⟨.ref ca, rfl, ca, us, 0, .ref a0, rfl, rfl, hca1, atI_nat (j := 0) hx0, a0, _, 0, .int r0.p, rfl, rfl, ex_l hide_ex hs0, rfl, Nat.zero_le _, fun q0 o0 hq0 ho0 => ⟨.int r0.p, .ref q0, rfl, ?_⟩⟩
    obtain ⟨n1, e0, n3⟩ := newP (o := .frz o0 (.tup [])) hp hq0
    have ht0 : SqT K (L2.upd H q0 (.frz o0 (.tup []))) q0 [] := .inl (.inr ⟨o0, upd_same⟩)
    have hnt0 : NT (L2.upd H q0 (.frz o0 (.tup []))) q0 := ⟨o0, _, upd_same, ho0⟩
    have hca2 := ex_l (Ex.new (o := .frz o0 (.tup [])) hq0) hca1
    show tCut _ _ _ _ (L2.upd H q0 (.frz o0 (.tup [])))
    generalize L2.upd H q0 (.frz o0 (.tup [])) = H1 at e0 ht0 hnt0 hca2 ⊢
    clear n1 n3
    refine ⟨fun σ' H' => (∃ u1 u2 q xs, σ' = [some (.ref pl), some (.ref ca), some (.int r0.p), some (.ref q), u1, u2, none] ∧ SqT K H' q xs ∧ NT H' q ∧ xs.length ≤ 7 ∧ ∀ x ∈ xs, Gd K 1 2 (hide pl H') x) ∧ ExP pl H H', ?_, ?_⟩
    · refine ⟨.ref ca, rfl, .ref ca, us.length, rfl, .inl ⟨us, hca2, rfl⟩, us.length, rfl, RgOk.of_le (by decide) (by omega) (by decide) (by omega), fun l1 hl1 => ?_⟩
      obtain ⟨_, e1, _⟩ := newP (o := .lst (rgV 0 us.length)) e0.pail hl1
      have k1 : L2.upd H1 l1 (.lst (rgV 0 us.length)) l1 = _ := upd_same
      have hlp := e0.pail.ne hl1
      show tC1 _ _ _ (L2.upd H1 l1 (.lst (rgV 0 us.length))) _
      generalize L2.upd H1 l1 (.lst (rgV 0 us.length)) = H2 at e1 k1 ⊢
      have e01 := e0.trans e1
      refine ⟨.ref pl, rfl, 1, rfl, by show 2 ≤ sizeLine; decide, fun l2 hl2 => ?_⟩
      obtain ⟨p2, e2, n2⟩ := newP (o := .lst [.int 1, .int (-1)]) e01.pail hl2
      refine ⟨pl, l2, _, rfl, p2, .of n2, by simp, by show 2 ≤ 1000; decide, fun x hx H3 e3 => ?_⟩
      have e13 := e1.trans (e2.trans e3)
      have k3 := (e2.trans e3).at k1 hlp
      obtain ⟨i, rfl, hi⟩ : ∃ i, x = .int i ∧ (i = 1 ∨ i = -1) := by
        simp only [List.mem_cons, List.not_mem_nil, or_false] at hx
        rcases hx with rfl | rfl
        · exact ⟨_, rfl, .inl rfl⟩
        · exact ⟨_, rfl, .inr rfl⟩
      refine ⟨i, rfl, l1, _, rfl, .of k3, by rcases hi with rfl | rfl <;> simp, fun ys hys l4 hl4 => ?_⟩
      have hrl : (rgV 0 (us.length : Int)).length = us.length := by rw [rgV_length]; omega
      obtain ⟨hyl, hyi⟩ : ys.length = us.length ∧ ∀ y ∈ ys, ∃ j, y = V.int j := by
        rcases hys with rfl | rfl
        · exact ⟨hrl, rgV_int⟩
        · exact ⟨by rw [List.length_reverse, hrl], fun y hy => rgV_int y (List.mem_reverse.mp hy)⟩
      obtain ⟨_, e4, _⟩ := newP (o := .lst ys) (e2.trans e3).pail hl4
      have k4 : L2.upd H3 l4 (.lst ys) l4 = _ := upd_same
      have hl4p := e3.pail.ne hl4
      have e14 := e13.trans e4
      generalize L2.upd H3 l4 (.lst ys) = H4 at e4 k4 e14 ⊢
      have hca4 := ex_l hide_ex (ex_l (e0.trans e14).ex hca)
      refine ⟨1, rfl, .ref ca, rfl, .ref ca, us.length, rfl, .inl ⟨us, hca4, rfl⟩, by show 3 ≤ sizeLine; decide, fun l5 hl5 => ?_⟩
      obtain ⟨_, e5, _⟩ := newP (o := .lst [.int (-1), .int us.length, .int 0]) e14.pail hl5
      have k5 : L2.upd H4 l5 (.lst [.int (-1), .int us.length, .int 0]) l5 = _ := upd_same
      have k45 := e5.at k4 hl4p
      generalize L2.upd H4 l5 (.lst [.int (-1), .int us.length, .int 0]) = H5 at e5 k5 k45 ⊢
      refine ⟨l4, l5, _, _, rfl, rfl, k45, k5, by show ys.length + 3 ≤ sizeLine; rw [sizeLine_eq]; omega, fun l6 hl6 => ?_⟩
      have e15 := e14.trans e5
      obtain ⟨_, e6, _⟩ := newP (o := .lst (ys ++ [.int (-1), .int us.length, .int 0])) e15.pail hl6
      have k6 : L2.upd H5 l6 (.lst (ys ++ [.int (-1), .int us.length, .int 0])) l6 = _ := upd_same
      have hl6p := e15.pail.ne hl6
      have hzl : (ys ++ [V.int (-1), .int us.length, .int 0]).length ≤ 7 := by rw [List.length_append]; show ys.length + 3 ≤ 7; omega
      have hzi : ∀ y ∈ ys ++ [V.int (-1), .int us.length, .int 0], ∃ j, y = V.int j := fun y hy => by
        rcases List.mem_append.mp hy with hy | hy
        · exact hyi y hy
        · simp only [List.mem_cons, List.not_mem_nil, or_false] at hy
          rcases hy with rfl | rfl | rfl <;> exact ⟨_, rfl⟩
      generalize ys ++ [V.int (-1), .int us.length, .int 0] = zs at e6 k6 hzl hzi ⊢
      have e16 := e15.trans e6
      generalize L2.upd H5 l6 (.lst zs) = H6 at e6 k6 e16 ⊢
      have ht6 := ex_t hide_ex (ex_t e16.ex (e0.pail.sqT ht0))
      have hnt6 := ((hnt0.hide e0.pail).x e16.ex).x hide_ex
      refine ⟨l6, rfl, ⟨_, .of k6⟩, for_list (xs := zs) (fun i σ' H' => (∃ u1 u2 q xs, σ' = [some (.ref pl), some (.ref ca), some (.int r0.p), some (.ref q), u1, u2, none] ∧ SqT K H' q xs ∧ NT H' q ∧ xs.length ≤ i ∧ ∀ x ∈ xs, Gd K 1 2 (hide pl H') x) ∧ ExP pl H H' ∧ H' l6 = some (.lst zs)) ⟨⟨_, _, q0, [], rfl, ht6, hnt6, Nat.le_refl _, all0⟩, e0.trans e16, k6⟩ (fun i σ' H' _ hw => .of hw.2.2) ?_ ?_⟩
      · rintro i x σ' H' hx ⟨⟨u1, u2, q, xs, rfl, f1, f0, f2, f3⟩, f4, f5⟩
        obtain ⟨at', rfl⟩ := hzi x (List.mem_of_getElem? hx)
        have hi7 : i < zs.length := (List.getElem?_eq_some_iff.mp hx).1
        refine ⟨.ref pl, rfl, pl, 3, rfl, f4.pail, by decide, by decide, fun c H7 e7 _ _ => ⟨rfl, _, rfl, ite_b (fun _ => ?_) (fun _ => ?_)⟩⟩
        · have e47 := f4.trans e7
          refine ⟨.ref pl, rfl, .int r0.p, rfl, pl, r0.p, 24, rfl, e7.pail, hlev, hp2, hp7, by decide, by decide, fun r l H8 e8 _ hrp _ hsm _ _ => ⟨.ref l, r, rfl, hrp.x hide_ex, hsm, fun H9 e9 => ?_⟩⟩
          have hsl := sheetS_len hsm
          have hsh := fun c hc => sheet_hi r (c := c) hc
          generalize sheetS r = z at hsl hsh ⊢
          have e49 := e47.trans (e8.on e9)
          refine ⟨.ref pl, rfl, .str z, rfl, .str z, rfl, .ref pl, rfl, pl, rfl, e49.pail, fun r2 l2 H10 e10 _ hr2 _ hsm2 => ⟨.ref l2, r2, rfl, hr2.x hide_ex, hsm2, fun H11 e11 => ?_⟩⟩
          have hsl2 := sheetS_len hsm2
          have hsh2 := fun c hc => sheet_hi r2 (c := c) hc
          generalize sheetS r2 = z2 at hsl2 hsh2 ⊢
          have e411 := e49.trans (e10.on e11)
          refine ⟨.str z, rfl, z, "\n", rfl, rfl, by rw [sizeLine_eq]; show z.length + 1 ≤ _; omega, .str z, rfl, z, " ", rfl, rfl, by rw [sizeLine_eq]; show z.length + 1 ≤ _; omega, by show 7 ≤ sizeLine; decide, fun l3 hl3 => ?_⟩
          obtain ⟨p12, e12, n12⟩ := newP (o := .lst [.str "", .str z, .str z, .str z2, .str "dark", .str (z ++ "\n"), .str (z ++ " ")]) e411.pail hl3
          refine ⟨pl, l3, _, rfl, p12, .of n12, by simp, by show 7 ≤ 1000; decide, fun y hy H13 e13 => ?_⟩
          obtain ⟨zz, rfl, hzz⟩ : ∃ zz, y = .str zz ∧ okZ zz = true := by
            have l1 : (z ++ "\n" : Str).length = z.length + 1 := len_add _ _
            have l2 : (z ++ " " : Str).length = z.length + 1 := len_add _ _
            simp only [List.mem_cons, List.not_mem_nil, or_false] at hy
            have t1 : tl ("\n" : Str) = [10] := by decide +kernel
            have t2 : tl (" " : Str) = [32] := by decide +kernel
            rcases hy with rfl | rfl | rfl | rfl | rfl | rfl | rfl
            · exact ⟨_, rfl, by decide⟩
            · exact ⟨_, rfl, okZ_of (by omega) hsh⟩
            · exact ⟨_, rfl, okZ_of (by omega) hsh⟩
            · exact ⟨_, rfl, okZ_of (by omega) hsh2⟩
            · exact ⟨_, rfl, by decide⟩
            · refine ⟨_, rfl, okZ_of (by omega) fun c hc => ?_⟩
              rw [tl_append, t1] at hc
              rcases List.mem_append.mp hc with hc | hc
              · exact hsh c hc
              · rw [List.mem_singleton.mp hc]; decide
            · refine ⟨_, rfl, okZ_of (by omega) fun c hc => ?_⟩
              rw [tl_append, t2] at hc
              rcases List.mem_append.mp hc with hc | hc
              · exact hsh c hc
              · rw [List.mem_singleton.mp hc]; decide
          have e713 := (e7.trans ((e8.on e9).trans (e10.on e11))).trans (e12.trans e13)
          have hq13 := ex_t hide_ex (ex_t e713.ex (f4.pail.sqT f1))
          have k13 := e713.at f5 hl6p
          refine ⟨.ref q, rfl, .int at', rfl, .str zz, rfl, by show 2 ≤ sizeLine; decide, fun t1 o1 ht1 hd1 => ?_⟩
          obtain ⟨e14', e14x, g14⟩ := gT (K := K) (n := 0) (m := 2) (vs := [.int at', .str zz]) (f4.trans e713) ht1 hd1 (by show 2 ≤ 2; decide) (all1 gI (all1 (gZ hzz) all0))
          have hq14 := ex_t hide_ex (ex_t e14x.ex ((f4.trans e713).pail.sqT hq13))
          have hn14 := (((((f0.hide f4.pail).x e713.ex).x hide_ex).hide (f4.trans e713).pail).x e14x.ex).x hide_ex
          have k14 := e14x.at k13 hl6p
          generalize L2.upd H13 t1 _ = H14 at e14' e14x g14 hq14 hn14 k14 ⊢
          refine ⟨by show 1 ≤ sizeLine; decide, fun t2 o2 ht2 hd2 => ?_⟩
          obtain ⟨_, e15x, _⟩ := newP (o := .frz o2 (.tup [.ref t1])) e14'.pail ht2
          have k15 := e15x.at k14 hl6p
          have hq15 := ex_t (Ex.new (o := .frz o2 (.tup [.ref t1])) ht2) hq14
          have ht15 : SqT K (L2.upd H14 t2 (.frz o2 (.tup [.ref t1]))) t2 [.ref t1] := .inl (.inr ⟨o2, upd_same⟩)
          have hn15 := hn14.x (Ex.new (o := .frz o2 (.tup [.ref t1])) ht2)
          have hm15 : NT (L2.upd H14 t2 (.frz o2 (.tup [.ref t1]))) t2 := ⟨o2, _, upd_same, hd2⟩
          have g15 := g14.1.x e15x.ex
          generalize L2.upd H14 t2 (.frz o2 (.tup [.ref t1])) = H15 at e15x k15 hq15 ht15 hn15 hm15 g15 ⊢
          refine catF (q0 := q) hq15 ht15 (.inl rfl) (.inr hm15) (by show xs.length + 1 ≤ 1000; omega) fun p H16 e16 hp16 ho16 => ⟨⟨_, _, p, _, rfl, hp16, ho16.elim (fun z => by rw [z]; exact hn15.x e16) id, by rw [List.length_append]; show xs.length + 1 ≤ i + 1; omega, fun y hy => ?_⟩, (e14'.trans e15x).on e16, e16 _ _ k15⟩
          rcases List.mem_append.mp hy with hy | hy
          · exact (f3 y hy).x ((e713.trans e14x).trans (e15x.on e16)).ex
          · rw [List.mem_singleton.mp hy]
            exact g15.x (ex_hide e16)
        · exact ⟨⟨_, _, q, xs, rfl, ex_t hide_ex (ex_t e7.ex (f4.pail.sqT f1)), ((f0.hide f4.pail).x e7.ex).x hide_ex, by omega, fun x hx => (f3 x hx).x e7.ex⟩, f4.trans e7, e7.at f5 hl6p⟩
      · rintro σ' H' ⟨⟨u1, u2, q, xs, rfl, f1, f0, f2, f3⟩, f4, f5⟩
        exact ⟨⟨_, _, q, xs, rfl, f1, f0, by omega, f3⟩, f4⟩
    · rintro σ' H' ⟨⟨u1, u2, q, xs, rfl, f1, f0, f2, f3⟩, f4⟩
      have hg0 : GN K 2 7 (hide pl H') (.ref q) := ⟨gTs (n := 1) f4.pail f1 f2 fun x hx => (f3 x hx).mono (by decide) (by decide), (f0.hide f4.pail).nd⟩
      refine ⟨fun σ' H' => (∃ u1 u2 u3 y, σ' = [some (.ref pl), some (.ref ca), some (.int r0.p), some y, u1, u2, u3] ∧ GN K 6 9 (hide pl H') y) ∧ ExP pl H H', ?_, ?_⟩
      · refine ⟨.ref pl, rfl, by show 5 ≤ sizeLine; decide, fun l1 hl1 => ?_⟩
        obtain ⟨p1, e1, n1⟩ := newP (o := .lst [.int 0, .int 0, .int 0, .int 1, .int 2]) f4.pail hl1
        refine ⟨pl, l1, _, rfl, p1, .of n1, by simp, by show 5 ≤ 1000; decide, fun x hx H2 e2 => ?_⟩
        obtain ⟨n, rfl, hn⟩ : ∃ n : Nat, x = .int n ∧ n ≤ 2 := by
          simp only [List.mem_cons, List.not_mem_nil, or_false] at hx
          rcases hx with rfl | rfl | rfl | rfl | rfl
          · exact ⟨0, rfl, by decide⟩
          · exact ⟨0, rfl, by decide⟩
          · exact ⟨0, rfl, by decide⟩
          · exact ⟨1, rfl, by decide⟩
          · exact ⟨2, rfl, by decide⟩
        refine ⟨n, rfl, by omega, by omega, ?_⟩
        rw [Int.toNat_natCast]
        refine for_range (lo := 0) (n := n) (fun i σ' H' => (∃ u1 u2 u3 y, σ' = [some (.ref pl), some (.ref ca), some (.int r0.p), some y, u1, u2, u3] ∧ GN K (2 + 2 * i) (7 + i) (hide pl H') y) ∧ ExP pl H H') ⟨⟨_, _, _, _, rfl, hg0.x (e1.trans e2).ex⟩, f4.trans (e1.trans e2)⟩ ?_ ?_
        · rintro i σ' H' hi ⟨⟨u1, u2, u3, y, rfl, g1⟩, g2⟩
          exact ⟨.ref pl, rfl, y, rfl, pl, y, i, by omega, rfl, g2.pail, g1, fun y' H5 e5 g5 => ⟨⟨_, _, _, y', rfl, g5⟩, g2.trans e5⟩⟩
        · rintro σ' H' ⟨⟨u1, u2, u3, y, rfl, g1⟩, g2⟩
          exact ⟨⟨_, _, _, y, rfl, g1.mono (by omega) (by omega)⟩, g2⟩
      · rintro σ' H' ⟨⟨u1, u2, u3, y, rfl, g1⟩, g2⟩
        refine ⟨.ref pl, rfl, pl, 9, rfl, g2.pail, by decide, by decide, fun c H5 e5 _ _ => ⟨c, 0, rfl, rfl, _, rfl, ite_b (fun _ => ⟨y, rfl, k y H5 (g2.trans e5) (g1.x e5.ex)⟩) (fun _ => ⟨.ref pl, rfl, pl, rfl, e5.pail, fun y' H6 e6 g6 => k y' H6 ((g2.trans e5).trans e6) (g6.mono (by omega) (by omega))⟩)⟩⟩
end
end Lk
namespace Lk
open PySem PySem.Spec PyProof.Rows L2 Evl Lm TL
section
variable {P : Program} {w : World} {K : PySem.W.Frag} {mg : Str → Option Value} {base : Heap}
/-! ### _law_begun -/
def spBeg (K : PySem.W.Frag) : Sp := fun vs H Q _ => ∃ (a : Addr) (ns : List Int) (t : Nat), vs = [.ref a, .int t] ∧ SqL K H a (ns.map V.int) ∧ ns.length ≤ 1000 ∧ t ≤ 100 ∧ (∀ z ∈ ns, Builtin.Int.intBits z ≤ 1048576) ∧ ∀ pl H', Ex H H' → H pl = none → PailAt pl H' → Q (.ref pl) H'
theorem sc38 : FnScope ["_law_script", "_law_turn", "_law_own", "_law_state", "_law_cell"] ["_law_script", "_law_turn"] (defScope (top 38)) := ⟨rfl, rfl, rfl, by decide +kernel, rfl, by decide +kernel, by decide +kernel⟩
theorem ok__law_begun (T : Txt K mg) : FnR P w K mg base CX0 1 (He.ga K "_law_begun") (spBeg K) := by
  refine mkD T.d__law_begun.df sc38 (fun vs H Q E h => ?_) (fun _ _ _ _ _ _ us hl => match us, hl with | [_, _], _ => rfl) (fun cdv A outer s H vs Q E hr h => ?_)
  · obtain ⟨a, ns, t, rfl, _⟩ := h
    rfl
  · obtain ⟨a, ns, t, rfl, hs, hn, ht, hb, k⟩ := h
    refine ⟨_, (pss_cut (ps_set (i := 2) sc38.nd rfl (.inl rfl) (pe_ifExp (pt_cmpR op_lt (pv 1) (b_len T (pa_cons (pv 0) pa_nil)) (nomark _)) (pe_ix ix_list (pv 0) (pv 1) (fun _ _ => rfl)) pe_int))
      (pss_cons (ps_set (i := 3) sc38.nd rfl (.inl rfl) (pe_op op_add pe_int (pe_op op_mul pe_int (pv 1))))
      (pss_cut (ps_for PassesOwn.never rfl (pi_list (pe_slice sl_list (pv 0) po_none (po_some pe_int))) (pg_name (i := 4) sc38.nd rfl (.inl rfl))
      (pss_one (ps_set (i := 3) sc38.nd rfl (.inl rfl) (pe_op op_mod (b_intI T (pa_cons (pe_op op_add (pe_op op_add (pe_op op_mul (pv 3) pe_int) (pe_op op_mul (pv 4) pe_int)) pe_int) pa_nil)) pe_int))))
      (pss_one (ps_ret (pe_lst (pa_cons (pe_ifExp (PW.pt (pw_or (pt_cmpR op_lt (pv 2) pe_int (nomark _)) (pw_or1 (pt_cmpR op_ge (pv 2) (pe_op op_pow pe_int pe_int) (nomark _))))) (b_abs T (pa_cons (pv 2) pa_nil)) pe_int) (pa_cons (pe_op op_mod (b_intI T (pa_cons (pe_op op_add (pe_op op_add (pe_op op_mul (pv 3) pe_int) (pe_op op_mulX (pv 2) (pv 2))) (pe_op op_mul pe_int (pv 1))) pa_nil)) pe_int) (pa_cons pe_int pa_nil))))))))), ?_⟩
    refine ⟨fun σ' H' => ∃ o : Int, σ' = [some (.ref a), some (.int t), some (.int o), none, none] ∧ Builtin.Int.intBits o ≤ 1048576 ∧ H = H', ?_, ?_⟩
    · refine ⟨.int t, rfl, .ref a, rfl, .ref a, ns.length, rfl, .inl ⟨_, hs, by rw [List.length_map]⟩, t, ns.length, rfl, rfl, _, rfl, ite_b (fun h1 => ?_) (fun _ => ⟨0, rfl, by decide, rfl⟩)⟩
      have hlt : t < ns.length := by have := of_decide_eq_true h1; omega
      exact ⟨.ref a, rfl, .int t, rfl, a, _, t, .int ns[t], rfl, rfl, hs, atI_nat (by rw [List.getElem?_map, List.getElem?_eq_getElem hlt]; rfl), ns[t], rfl, hb _ (List.getElem_mem hlt), rfl⟩
    · rintro σ' H' ⟨o, rfl, ho, rfl⟩
      refine ⟨.int t, rfl, 7727, t, rfl, rfl, .inl ⟨by decide, by decide⟩, 60013, _, rfl, rfl, ?_⟩
      refine ⟨fun σ' H' => ∃ (st : Int) (u : Option V), σ' = [some (.ref a), some (.int t), some (.int o), some (.int st), u] ∧ Ex H H', ?_, ?_⟩
      · refine ⟨.ref a, rfl, 6, rfl, a, _, rfl, hs, fun q hq => ⟨q, rfl, ⟨_, .of upd_same⟩, ?_⟩⟩
        refine for_list (xs := cutV (ns.map V.int) none (some 6)) (fun i σ' H' => (∃ (st : Int) (u : Option V), σ' = [some (.ref a), some (.int t), some (.int o), some (.int st), u]) ∧ H' = upd H q (.lst (cutV (ns.map V.int) none (some 6)))) ⟨⟨_, _, rfl⟩, rfl⟩ (fun i σ' H' _ hw => by rw [hw.2]; exact .of upd_same) ?_ ?_
        · rintro i x σ' H' hx ⟨⟨st, u, rfl⟩, rfl⟩
          obtain ⟨z, rfl⟩ : ∃ z, x = V.int z := by
            have h1 := List.mem_of_getElem? hx
            rw [show (some 6 : Option Int) = some ((6 : Nat) : Int) from rfl, cutV_to] at h1
            obtain ⟨z, _, rfl⟩ := List.mem_map.mp (List.mem_of_mem_take h1)
            exact ⟨z, rfl⟩
          exact ⟨.int st, rfl, st, 30269, rfl, rfl, .inr ⟨by decide, by decide⟩, .int z, rfl, z, 7, rfl, rfl, .inr ⟨by decide, by decide⟩, _, _, rfl, rfl, _, _, rfl, rfl, _, rfl, _, 2147483629, rfl, rfl, (by show (0 : Int) < 2147483629; decide), ⟨_, _, rfl⟩, rfl⟩
        · rintro σ' H' ⟨⟨st, u, rfl⟩, rfl⟩
          exact ⟨st, u, rfl, Ex.new hq⟩
      · rintro σ' H' ⟨st, u, rfl, e1⟩
        refine ⟨.int o, rfl, o, 0, rfl, rfl, _, rfl, ite_b (fun _ => itT ⟨.int o, rfl, o, rfl, ?_⟩) (fun _ => ⟨.int o, rfl, 10, 18, rfl, rfl, ⟨by decide, by decide, by decide⟩, o, _, rfl, rfl, _, rfl, ite_b (fun _ => ⟨.int o, rfl, o, rfl, ?_⟩) (fun _ => ?_)⟩)⟩
        all_goals
          refine ⟨.int st, rfl, st, 53, rfl, rfl, .inr ⟨by decide, by decide⟩, .int o, rfl, .int o, rfl, o, o, rfl, rfl, (by unfold CMulX; omega), _, _, rfl, rfl, .int t, rfl, 17, t, rfl, rfl, .inl ⟨by decide, by decide⟩, _, _, rfl, rfl, _, rfl, _, 2147483629, rfl, rfl, (by show (0 : Int) < 2147483629; decide), by show 3 ≤ sizeLine; decide, fun pl hpl => k pl _ (e1.trans (Ex.new hpl)) (fresh_back e1 hpl) ⟨_, _, _, upd_same, ?_, ?_⟩⟩
          · exact Int.lt_of_lt_of_le (by decide) (Int.emod_nonneg _ (by decide))
          · exact Int.lt_trans (Int.emod_lt_of_pos _ (by decide)) (by decide)
end
end Lk
namespace Lk
open PySem PySem.Spec PyProof.Rows L2 Evl Lm TL
/-! ### try: body, except (A, B, C) as n: suite -/
theorem flying_keep {base h h' : Heap} {l : List Env} {e : Addr} {Z : Obj → Prop} (x : HandSPX.FlyingZ base l e Z h) (k : ∀ b o, h.get? b = some o → h'.get? b = some o) : HandSPX.FlyingZ base l e Z h' := by
  obtain ⟨x1, x2, x3, oe, vs, T, oT, ts, a1, a2, a3, a4, a5, a6, a7, a8⟩ := x
  exact ⟨fun b o q => k b o (x1 b o q), x2, Heap.FunFrames.of_keeps (fun b o q _ => ⟨o, k b o q, rfl⟩) x3, oe, vs, T, oT, ts, k _ _ a1, a2, a3, a4, a5, a6, k _ _ a7, a8⟩
/-- what the clause wishes of an exception of the body: it is one of these, slot i is n's -/
def wAs3 (K : PySem.W.Frag) (cs : List Value) (i : Nat) (ts : Addr → Value → Option Addr → TS) (D : Ends) : WX := fun cls d σ H =>
  PySem.W.exmAny K cls cs = some true ∧ ∀ a, H a = none → (σ.set i (some (.ref a)))[i]? = some (some (V.ref a)) → ts a cls d { nx := fun σ' H' => D.nx (σ'.set i none) H', rt := D.rt, bk := fun σ' H' => D.bk (σ'.set i none) H', ct := fun σ' H' => D.ct (σ'.set i none) H' } (σ.set i (some (.ref a))) H
section
variable {X : Cx} {x1 x2 x3 n : Str} {c1 c2 c3 : Value} {i : Nat} {body suite : List Stmt} {b₀ : Stmt} {p1 p2 p3 np pos pos' : Pos} {kt : Nat} {tb : WX → TS} {ts : Addr → Value → Option Addr → TS}
theorem ps_try_as3 (hs : X.stack = X.env :: X.outer) (hf : X.env.frame = some X.env.locals) (hN : X.N.Nodup) (hi : X.N[i]? = some n) (hln : X.env.kindOf n = some .local) (hc1 : Names X x1 c1) (hc2 : Names X x2 c2) (hc3 : Names X x3 c3)
    (hb : ∀ (W : WX) (pn : List (Addr × Obj)) (xe : Value → Shared → Prop), Takes (X.tr pn xe) W → PassesOwn (model X.prog X.w) X.A X.env xe → PSs (X.tr pn xe) body (tb W))
    (hsu : ∀ (a : Addr) (oe : Obj) (cls : Value) (d : Option Addr) (pn : List (Addr × Obj)), Zc cls d oe → (∃ vs, oe.data = .fields vs) → PSs (X.suite a ((a, oe) :: pn)) (b₀ :: suite) (ts a cls d))
    (hst : starEach [.Name x1 p1, .Name x2 p2, .Name x3 p3] X.env = [(false, eval (.Name x1 p1) X.env), (false, eval (.Name x2 p2) X.env), (false, eval (.Name x3 p3) X.env)]) :
    PS X (.Try body [.ExceptHandler (some (.Tuple [.Name x1 p1, .Name x2 p2, .Name x3 p3] kt np)) (some n) (b₀ :: suite) pos'] [] [] pos) (fun D σ H => tb (wAs3 X.K [c1, c2, c3] i ts D) D σ H) := by
  refine ⟨fun pins s σ H D I h => ?_⟩
  have ok := I.ok
  have hfr : X.A.frames = some (X.env :: X.outer) := by rw [ok.frames, hs]
  have hloc : Loc X.env.scope n := .inl hln
  refine wpAny_Try_except ?_
  refine wpAny_mono ((hb (wAs3 X.K [c1, c2, c3] i ts D) (X.pn ++ pins) (fun e s₁ => wpAny (model X.prog X.w) X.A (noteFrame e X.env) (fun _ s₂ => wpAny (model X.prog X.w) X.A (setFlight e none) (fun _ s₃ =>
    wpAny (model X.prog X.w) X.A (handleBy e X.env [.ExceptHandler (some (.Tuple [.Name x1 p1, .Name x2 p2, .Name x3 p3] kt np)) (some n) (b₀ :: suite) pos']) (SP X pins D) X.xe s₃) X.xe s₂) X.xe s₁) (fun u s' xx => ?_) PassesOwn.looking).run [] s σ H D (I.toTry _) h) (fun f s1 hsp => ?_) (fun e s1 he => he)
  · obtain ⟨a, B, sI, pins', σ', H', cls, d, rfl, J', nb, up, sky, na, os, ag, hm, hyes⟩ := xx
    have J : Inv X pins σ' H' sI := J'.ofTry ok
    have sky' : Sky B (X.env :: X.outer) a (Zc cls d) X.env.locals s'.heap := by rw [← hs]; exact sky
    show wpAny (model X.prog X.w) X.A (noteFrame (.ref a) X.env) _ _ _
    refine Sky.land Zc.steady hfr hf sky' fun h3 fl3 up3 => ?_
    have J3 : Inv X pins σ' H' { s' with heap := h3 } := J.landed nb fl3.1 (up.trans up3) os ag
    obtain ⟨oe3, vs3, he3, hz3, hd3⟩ := fl3.there
    have notFr : ∀ {h : Heap} {o : Obj} {vs : Array Value}, h.FunFrames B (X.env :: X.outer) → h.get? a = some o → o.data = .fields vs → a ∉ frs (X.env :: X.outer) := fun {h o vs} ff e dd hm => by
      obtain ⟨_, o', e', hnf⟩ := ff.mem hm
      rw [e] at e'; cases e'
      exact hnf _ dd
    have nfr := notFr fl3.2.2.1 he3 hd3
    have nL : a ≠ X.env.locals := fun z => nfr (List.mem_filterMap.mpr ⟨X.env, List.mem_cons_self, by rw [hf, z]⟩)
    have nF : a ∉ X.fs := fun hm => by
      obtain ⟨e, he, q⟩ := List.mem_filterMap.mp hm
      exact nfr (List.mem_filterMap.mpr ⟨e, List.mem_cons_of_mem _ he, q⟩)
    have S3 := J3.suite he3 hd3 na nL nF
    have name : ∀ {x : Str} {c : Value} {p : Pos} {Q : Value → Shared → Prop} {E : Value → Shared → Prop}, Names X x c → Q c { s' with heap := h3 } → wpAny (model X.prog X.w) (X.A.mark (some (.ref a))) (eval (.Name x p) X.env) Q E { s' with heap := h3 } := fun {x c p Q E} hc q => by
      obtain ⟨hg, hdbg, hm | ⟨hm, hv, hnn⟩⟩ := hc
      · exact ld_glob (X := X.suite a ((a, oe3) :: (X.pn ++ pins))) S3 hg hm q hdbg
      · exact ld_blt (X := X.suite a ((a, oe3) :: (X.pn ++ pins))) S3 hg hm hv q hnn hdbg
    refine wpAny_handleBy_cons (codeAny_handlers_test ?_) (by intro q; cases q)
    refine wpAny_Tuple_spliced ?_
    rw [hst]
    refine Calls.spliced_cons (name hc1 (Calls.spliced_cons (name hc2 (Calls.spliced_cons (name hc3 (Calls.spliced_nil ⟨by show 3 ≤ sizeLine; decide, ?_⟩))))))
    have kp : ∀ b o, h3.get? b = some o → (h3.push { cls := .type "tuple", data := .seq [c1, c2, c3].toArray }).get? b = some o := fun b o q => Heap.get?_push_of_some _ q
    have hp : (h3.push { cls := .type "tuple", data := .seq [c1, c2, c3].toArray }).get? h3.objs.size = some { cls := .type "tuple", data := .seq [c1, c2, c3].toArray } := Heap.get?_push_size _ rfl
    have flP := flying_keep fl3 kp
    have upP : h3.UpToSlots (h3.push { cls := .type "tuple", data := .seq [c1, c2, c3].toArray }) := Heap.UpToSlots.of_keeps kp
    show wpAny _ _ (excMatches (.ref a) (.ref h3.objs.size)) _ _ { s' with heap := h3.push { cls := .type "tuple", data := .seq [c1, c2, c3].toArray } }
    generalize h3.push { cls := .type "tuple", data := .seq [c1, c2, c3].toArray } = hP at kp hp flP upP ⊢
    have JP : Inv X pins σ' H' { s' with heap := hP } := J.landed nb flP.1 ((up.trans up3).trans upP) os ag
    have LT : PySem.W.Looks (model X.prog X.w) hP (typeOf (.ref a)) cls := fun A Q E s k q => wpAny_typeOf_ref (k _ _ (kp _ _ he3)) (by rw [hz3.1]; exact q)
    have LM := PySem.W.exm_tup3 (M := model X.prog X.w) (JP.kIn) LT hp hm
    refine LM.here ?_
    refine codeAny_handlers_suite_as ?_
    refine HandSPX.lands_againZ flP fun h4 fl4 up4 => ?_
    have J4 : Inv X pins σ' H' { s' with heap := h4 } := J.landed nb fl4.1 (((up.trans up3).trans upP).trans up4) os ag
    obtain ⟨oe4, vs4, he4, hz4, hd4⟩ := fl4.there
    have S4 := J4.suite he4 hd4 na nL nF
    refine store_ok (X := X.suite a ((a, oe4) :: (X.pn ++ pins))) (v := .ref a) S4 hN hi hloc rfl (fun s5 S5 => ?_) (.inr hln)
    refine wpAny_mono ((hsu a oe4 cls d (X.pn ++ pins) hz4 ⟨_, hd4⟩).run [] s5 _ H' _ S5 (hyes a na (by
      have h1 : i < X.N.length := (List.getElem?_eq_some_iff.mp hi).1
      have h2 : σ'.length = X.N.length := J'.len
      rw [List.getElem?_set_self (by omega)]))) (fun f s6 hsp => ?_) (fun _ _ z => False.elim z)
    have end_ : ∀ {σ6 : L2.St} {H6 : Hp} {Q : Shared → Prop}, Inv (X.suite a ((a, oe4) :: (X.pn ++ pins))) [] σ6 H6 s6 → (∀ s7, Inv X pins (σ6.set i none) H6 s7 → Q s7) →
        wpAny (model X.prog X.w) X.A (do bindName X.env n .none; unbindBehindTheSuite X.env n pos') (fun _ s7 => Q s7) X.xe s6 := fun {σ6 H6 Q} S6 hq => gone_ok (S6.unsuite ok) hN hi hln hq
    cases f with
    | next =>
      obtain ⟨σ6, H6, S6, q6⟩ := hsp
      exact end_ S6 fun s7 J7 => ⟨_, _, J7, q6⟩
    | brk =>
      obtain ⟨σ6, H6, S6, q6⟩ := hsp
      exact end_ S6 fun s7 J7 => ⟨_, _, J7, q6⟩
    | cont =>
      obtain ⟨σ6, H6, S6, q6⟩ := hsp
      exact end_ S6 fun s7 J7 => ⟨_, _, J7, q6⟩
    | ret u =>
      obtain ⟨v6, σ6, H6, S6, r6, q6⟩ := hsp
      exact end_ S6 fun s7 J7 => ⟨_, _, _, J7, r6, q6⟩
  · cases f with
    | next =>
      obtain ⟨σ', H', J', q⟩ := hsp
      exact wpAny_execs_nil ⟨σ', H', J'.ofTry ok, q⟩
    | brk =>
      obtain ⟨σ', H', J', q⟩ := hsp
      exact ⟨σ', H', J'.ofTry ok, q⟩
    | cont =>
      obtain ⟨σ', H', J', q⟩ := hsp
      exact ⟨σ', H', J'.ofTry ok, q⟩
    | ret u =>
      obtain ⟨v, σ', H', J', r, q⟩ := hsp
      exact ⟨v, σ', H', J'.ofTry ok, r, q⟩
end
end Lk
namespace PySem.W
open PySem PySem.Spec PySem.Calls PyProof.Rows
section
variable {prog : Program} {w : World} {A : Around} {E : Value → Shared → Prop} {s : Shared} {K : Frag} {x D : Addr} {ox : Obj} {od : Option Obj}
theorem lk_findObj {C : Addr} {name : Str} {a g : Value} (hc : (clsIn K C).isSome = true) (ha : findIn K (.ref C) name = some (some a)) (hg : specialIn K a "__get__" = some (some g)) (ht : takesIn K a = some true) : findObj K C od name = some (.bind g a) := by
  obtain ⟨cd, hc⟩ := Option.isSome_iff_exists.mp hc
  unfold findObj
  rw [hc, Option.bind_some, ha, Option.bind_some]
  simp [hg, ht]
theorem lk_classE {Q : Option Value → Shared → Prop} (hga : findIn K (.ref D) "__getattribute__" = some (some (.builtin "BaseException.__getattribute__"))) (hgt : findIn K (.ref D) "__getattr__" = some none) (hsub : subIn K (.ref D) (.type "BaseException") = some true)
    (hdct : hasDictIn K D = true) (ha : findIn K (.ref D) "__class__" = some (some (.builtin "object.__class__")))
    (hn : specialIn K (.builtin "object.__class__") "__get__" = some (some (.builtin "getset_descriptor.__get__"))) (htk : takesIn K (.builtin "object.__class__") = some true) (hm : mroIn K D (.type "object") = some true)
    (X : K.In s.heap) (I : InstAt s.heap x ox D od) (h : Q (some (.ref D)) { s with toks := s.toks + 1 }) : wpAny (model prog w) A (getAttr? (.ref x) "__class__") Q E s := by
  have hf : findObj K D od "__class__" = some (.bind (.builtin "getset_descriptor.__get__") (.builtin "object.__class__")) := lk_findObj (by obtain ⟨cd, hc, _⟩ := any_some hdct; rw [hc]; rfl) ha hn htk
  obtain ⟨hp, g, d, t, os⟩ := s
  have L0 := I.type (M := model prog w)
  have L1 := looks_findIn (M := model prog w) X hga
  have L2 := looks_findIn (M := model prog w) X hgt
  have L3 := looks_find (M := model prog w) X I hf
  have sub : Looks (model prog w) hp (isInstance (.ref x) (.type "BaseException")) true := L0.andThen (looks_subIn X hsub)
  have hx0 : (false && onTheHeap (Value.builtin "BaseException.__getattribute__")) = false := rfl
  have hx2 : (Value.builtin "BaseException.__getattribute__" == Value.builtin "object.__getattribute__") = false := by decide +kernel
  have hx1 : (onTheHeap (Value.ref D) && Value.builtin "BaseException.__getattribute__" == Value.builtin "object.__getattribute__") = false := by rw [hx2]; rfl
  unfold getAttr? getAttrBy? getAttrBy
  refine wpAny_bind (wpAny_mkText (wpAny_bind (wpAny_attempt (wpAny_holding (wpAny_bind (L0.at (wpAny_bind (L1.at ?_))))))))
  show wpAny _ _ (if (onTheHeap (Value.ref D) && Value.builtin "BaseException.__getattribute__" == Value.builtin "object.__getattribute__") = true then _ else _) _ _ _
  rw [hx1, if_neg Bool.false_ne_true]
  unfold getAttrByItsOwn hookBefore
  refine wpAny_bind ?_
  rw [if_pos (show onTheHeap (Value.ref D) = true from rfl)]
  refine L2.at ?_
  refine wpAny_bind (wpAny_attempt (wpAny_holding ?_))
  unfold callGetattribute
  rw [hx0, if_neg Bool.false_ne_true]
  unfold boundAndCalled
  rw [PySem.F.excAttr_ValueError.ga.bind (.ref x)]
  refine wpAny_bind (wpAny_pure ?_)
  show wpAny _ _ (call (.builtin "BaseException.__getattribute__") [.ref x, .str "__class__" t]) _ _ _
  refine wpAny_call (codeAny_call_builtin PySem.F.excAttr_ValueError.ga.plain PySem.F.entry_bexc_ga ?_)
  refine @check_slot (model prog w) _ _ ⟨hp, g, d, t + 1, os⟩ "BaseException.__getattribute__" "BaseException" "__getattribute__" (.ref x) [.str "__class__" t] [] _ (by decide +kernel) (by decide +kernel) sub (PySem.F.args_bexc_ga (.ref x) (.str "__class__" t)) ?_
  unfold Builtin.«object.__getattribute__»
  refine wpAny_bind (wpAny_of_eq (a := ((Value.ref x : Value), [Value.str "__class__" t])) (by first | rfl | (simp only [slotArgs]; rfl)) ?_)
  refine wpAny_bind (wpAny_pure (wpAny_bind (L0.at (wpAny_bind (L3.at ?_)))))
  show wpAny _ _ (holding [Value.builtin "object.__class__"] (call (.builtin "getset_descriptor.__get__") [.builtin "object.__class__", .ref x, .ref D]) >>= ret) _ _ _
  refine wpAny_bind (wpAny_holding (wpAny_call (class_get (s := ⟨hp, g, d, t + 1, os⟩) (ox := ox) (od := od) X I hm ?_)))
  refine wpAny_pure ?_
  show wpAny _ _ (handedOut (.ref D)) _ _ _
  rw [handedOut_of (v := .ref D) rfl]
  first
    | exact wpAny_pure (wpAny_pure h)
    | exact wpAny_pure h
    | exact wpAny_pure (wpAny_bind (wpAny_pure (wpAny_pure h)))
theorem lk_kitx (hga : findIn K (.ref D) "__getattribute__" = some (some (.builtin "BaseException.__getattribute__"))) (hgt : findIn K (.ref D) "__getattr__" = some none) (hsub : subIn K (.ref D) (.type "BaseException") = some true) (hdct : hasDictIn K D = true) (ha : findIn K (.ref D) "__class__" = some (some (.builtin "object.__class__")))
    (hn : specialIn K (.builtin "object.__class__") "__get__" = some (some (.builtin "getset_descriptor.__get__"))) (htk : takesIn K (.builtin "object.__class__") = some true) (hm : mroIn K D (.type "object") = some true) :
    KitX K (.ref x) (.ref D) (fun h => InstAt h x ox D od) where
  ty := fun _ _ _ I => I.type
  it := fun _ _ X _ => by
    obtain ⟨cdD, hcD, _⟩ := any_some hdct
    unfold clsIn at hcD
    split at hcD
    · rename_i c' d' cd' sl' ho
      intro A' Q' E' s' k q
      unfold isType loadHead
      exact wpAny_bind (wpAny_loadPart (k _ _ (X _ _ ho)) (wpAny_pure q))
    · cases hcD
  ne := fun h tp dd its n sl X htp => by
    obtain ⟨cdD, hcD, _⟩ := any_some hdct
    refine Bool.eq_false_iff.mpr fun q => ?_
    have e : D = tp := Value.ref.inj (beq_iff_eq.mp q)
    subst e
    unfold clsIn at hcD
    split at hcD
    · rename_i c' d' cd' sl' ho
      have z := (X _ _ ho).symm.trans htp
      cases z
    · cases hcD
  ca := fun X I k => lk_classE hga hgt hsub hdct ha hn htk hm X I k
end
end PySem.W
namespace Lk
open PySem PySem.Spec PyProof.Rows L2 Evl Lm TL
/-! ### the caught exception, in a context that pins it -/
/-- isinstance(e, c), e the exception that the context pins, d its dict -/
def rIsP (K : PySem.W.Frag) (a : Addr) (cls : Value) (d : Option Addr) : List V → Hp → VK → Prop := fun xs H Q => ∃ (D dd : Addr) (fs : List (Str × V)) (c : V) (cv : Value) (b : Bool), cls = .ref D ∧ ExcC K D ∧ d = some dd ∧ H dd = some (.xd fs) ∧ xs = [.ref a, c] ∧ (∀ u, RelV c u → u = cv) ∧ PySem.W.kitOne K (.ref D) cv = some b ∧ Q (.bl b) H
theorem call_isP {X : Cx} {a : Addr} {cls : Value} {d : Option Addr} {oe : Obj} (hp : (a, oe) ∈ X.pn) (hz : Zc cls d oe) (hf : ∃ vs, oe.data = .fields vs) : CallR X (.builtin "isinstance") (rIsP X.K a cls d) := by
  intro pins s σ H xs us Q I r h
  obtain ⟨D, dd, fs, c, cv, b, rfl, C, rfl, hx0, rfl, hcv, e, q⟩ := h
  cases r with
  | cons rx rr =>
    cases rr with
    | cons rt rr =>
      cases rr
      cases rx
      have ec := hcv _ rt
      subst ec
      obtain ⟨hget, _⟩ := I.pin (a, oe) (List.mem_append_left _ hp)
      obtain ⟨vs, hv⟩ := hf
      have hx : ObjOk X.prog X.w H s.heap dd (.xd fs) := I.hok dd _ hx0
      obtain ⟨mA, hns, hr⟩ := hx
      obtain ⟨od, ho, hl⟩ := lookIn_ns hns
      have J : PySem.W.InstAt s.heap a oe D (some od) := ⟨hget, hz.1, by unfold PySem.W.notCls; rw [hv] <;> rfl, by rw [hz.2]; exact ho⟩
      exact PySem.W.kia_one (PySem.W.lk_kitx C.hg C.hk C.hs C.hd C.ha C.hn C.ht C.hm) I.kIn J e (fun z => nomatch z) fun tk => ⟨.bl b, H, I.kept (t' := tk) fun _ _ z => z, rfl, q⟩
theorem pe_xfP {X : Cx} {a C : Addr} {oe : Obj} {cls : Value} {d : Option Addr} {e : Expr} {te : TE} {pos : Pos} {n : Str} (hp : (a, oe) ∈ X.pn) (T : XfC X.K C) (hno : PySem.W.findIn X.K (.ref C) n = some none)
    (hz : Zc cls d oe) (hf : ∃ vs, oe.data = .fields vs) (he : PE X e te) (hb : attributeBase e n X.env (eval e X.env) = eval e X.env := by rfl) :
    PE X (.Attribute e n pos) (tXf a cls d C n te) := by
  refine ⟨fun pins s σ H Q I h => ?_⟩
  refine attr_of hb (thn (he.run pins s σ H _ I h) fun u s1 hh => ?_)
  obtain ⟨x, H1, I1, rx, ex, ec, dd, fs, v, ed, ea, l, q⟩ := hh
  subst ex
  obtain rfl : u = Value.ref a := rx
  subst ec
  subst ed
  obtain ⟨ha, _⟩ := I1.pin (a, oe) (List.mem_append_left _ hp)
  obtain ⟨vs, hd⟩ := hf
  have hx : ObjOk X.prog X.w H1 s1.heap dd (.xd fs) := I1.hok dd _ ea
  obtain ⟨mA, hns, hr⟩ := hx
  obtain ⟨od, ho, hl⟩ := lookIn_ns hns
  obtain ⟨u, hu, ru⟩ := RelO.some_of (v := v) (o := mA n) (by rw [← l]; exact hr n)
  have J : PySem.W.InstAt s1.heap a oe C (some od) := ⟨ha, hz.1, by unfold PySem.W.notCls; rw [hd] <;> rfl, by rw [hz.2]; exact ho⟩
  exact HandSPX.exc_get I1.kIn J T.ga T.gg T.exC (PySem.W.findObj_own T.hdC hno rfl (by rw [hl, hu])) (handed_of ru) ⟨v, H1, I1.tok _, ru, q⟩
/-! ### a def called within the suite, told of the exception that is pinned -/
abbrev SpP := Addr × Obj → Sp
structure FnP (P : Program) (w : World) (K : PySem.W.Frag) (mg : Str → Option Value) (base : Heap) (k : Nat) (f : Addr) (fd : FuncData) (ps : List Str) (sp : SpP) : Prop where
  len : ∀ p vs H Q E, sp p vs H Q E → vs.length = ps.length
  run : ∀ (A : Around) (outer : List Env) (s : Shared) (H : Hp) (args : Args) (us : List Value) (vs : List V) (Q : VK) (E : XK) (p : Addr × Obj), L2H.RoomH k A → L2H.PinOk outer H s p → Env0 P w K mg base A outer s H → BindsTo s fd args (ps.zip us) → Vals vs us → sp p vs H Q E →
    codeAny (model P w) A (.call (.ref f) args) (CR CX0 outer P w H s Q E) s
theorem fn_ofP {P : Program} {w : World} {K : PySem.W.Frag} {mg : Str → Option Value} {base : Heap} {k : Nat} {f : Addr} {name qual : Str} {params : Arguments} {body : List Stmt} {scope : Scope} {dV kV doc pm cdv ct oc : Value} {an od : Option Addr}
    {osl : Array (Option Value)} {N ps : List Str} {sp : SpP} (lk : K.lookup f = some ⟨oc, od, .func (PySem.W.fnOf name qual params body scope dV kV doc pm an cdv ct), osl⟩) (hcd : PySem.W.codeIn K cdv qual = true) (S : FnScope N ps scope)
    (len : ∀ p vs H Q E, sp p vs H Q E → vs.length = ps.length)
    (hbody : ∀ (A : Around) (outer : List Env) (s : Shared) (H : Hp) (vs : List V) (Q : VK) (E : XK) (p : Addr × Obj), L2H.RoomH k (A.deeper (envOfC qual scope s.heap.objs.size f cdv)) → sp p vs H Q E →
      ∃ t, PSs (L2H.cxH CX0 P w K mg base N qual scope f cdv A outer s H E p) body t ∧ t { nx := fun _ H' => Q .non H', rt := Q } (L2.start N vs) H) :
    FnP P w K mg base (k + 1) f (PySem.W.fnOf name qual params body scope dV kV doc pm an cdv ct) ps sp := by
  refine ⟨len, fun A outer s H args us vs Q E p hr hpin e0 hb r hsp => ?_⟩
  have hl := len _ _ _ _ _ hsp
  have KX : K.In s.heap := e0.mod.kin.keeps fun b o e => (e0.bs b o e).1
  have lim : s.heap.NoLimit := e0.mod.nolimit.keeps fun b o e => (e0.bs b o e).1
  have hkind : ∀ y ∈ ps.zip us, scope.names.lookup y.1 = some .local ∨ (scope.names.lookup y.1 = some .cell ∧ ((cellsFrom (s.heap.objs.size + 1) scope.names []).lookup y.1).isSome = true) := fun ⟨n, v⟩ hy => by
    rcases S.par n (List.of_mem_zip hy).1 with q | q
    · exact .inl q
    · exact .inr ⟨q, PySem.W.cellsFrom_some _ _ _ (.inl q)⟩
  refine codeAny_call_function hr.depth (KX _ _ lk) rfl S.co S.gen rfl (PySem.W.codeRec_of KX hcd) (hb _ _ _ _ ?_)
  refine wpAny_newFunctionEnv_cells S.kind hkind fun env he s1 x => ?_
  subst he
  refine ⟨lim.keeps x.toInCall.keep, codeAny_func ?_⟩
  obtain ⟨t, ht, hq⟩ := hbody A outer s H vs Q E p (hr.deeper _) hsp
  have I := L2H.inv_startH (CX := CX0) (E := E) S hpin e0 hl r x
  refine wpAny_mono (ht.run [] s1 (L2.start N vs) H _ I hq) (fun fl s' hs => ?_) fun e s' hs => hs
  have fin : ∀ {σ' : L2.St} {H' : Hp} {v : V} {u : Value}, Inv (L2H.cxH CX0 P w K mg base N qual scope f cdv A outer s H E p) [] σ' H' s' → RelV v u → Q v H' → CE outer P w H s Q u s' :=
    fun {σ' H' v u} J rv q => ⟨v, H', J.os, J.bare, J.base, J.hok, rv, q⟩
  cases fl with
  | ret u =>
    obtain ⟨v, σ', H', J, rv, q⟩ := hs
    exact fin J rv q
  | next =>
    obtain ⟨σ', H', J, q⟩ := hs
    exact fin (v := V.non) (u := Value.none) J rfl q
  | brk =>
    obtain ⟨_, _, _, q⟩ := hs
    exact False.elim q
  | cont =>
    obtain ⟨_, _, _, q⟩ := hs
    exact False.elim q
theorem pe_callP {X : Cx} {k : Nat} {f : Addr} {fd : FuncData} {ps : List Str} {sp : SpP} {x : Str} {q pos : Pos} {e : Expr} {es : List Expr} {t : TA} {p : Addr × Obj} (hp : p ∈ X.pn) (F : FnP X.prog X.w X.K X.mg X.base k f fd ps sp) (hr : L2H.RoomH k X.A) (hg : Gl X x) (hm : X.mg x = some (.ref f)) (hk : PySem.W.keepIn X.K (.ref f) = true) (hb : Binds X.K fd ps [])
    (ha : PA X (e :: es) t) (hdb : (x == ("__debug__" : Str)) = false := by decide) (he : starEach (e :: es) X.env = (false, eval e X.env) :: starEach es X.env := by rfl) (hpl : (backTo pos (starEach es X.env)).any (·.1) = false := by rfl) :
    PE X (.Call (.Name x q) (e :: es) [] pos) (tC1 (sp p) t) := by
  refine ⟨fun pins s σ H Q I h => ?_⟩
  refine wpAny_Call_Name_kw (ld_glob I hg hm ?_ hdb)
  refine PySem.W.callWith_K (h₀ := X.base) I.ok.mod.kin hk (thn (ha.run pos pins s σ H _ I h) fun us s1 ⟨vs, H1, I1, r, q⟩ => ⟨I1.kIn, ?_⟩) he hpl
  have hl : us.length = ps.length := by rw [← r.length]; exact F.len _ _ _ _ _ q
  have b := hb s1 us I1.kIn (by rw [List.append_nil]; exact hl)
  rw [List.append_nil] at b
  have P1 := I1.pin p (List.mem_append_left _ hp)
  have hpin : L2H.PinOk X.stack H1 s1 p := ⟨P1.1, P1.2.1, fun hm => (List.mem_cons.mp (I1.stkSub p.1 hm)).elim P1.2.2.1 P1.2.2.2.1, P1.2.2.2.2⟩
  refine wpAny_call (codeAny_mono (F.run X.A X.stack s1 H1 ⟨us, []⟩ us vs Q _ p hr hpin I1.env0 b r q) fun r s' hq => ?_)
  cases r with
  | error e => exact (show False from hq).elim
  | ok fl =>
    cases fl with
    | ret u => exact I1.after hq
    | next => exact False.elim hq
    | brk => exact False.elim hq
    | cont => exact False.elim hq
end Lk
namespace Lk
open PySem PySem.Spec PyProof.Rows L2 Evl Lm TL
/-! ### repr -/
/-- of none, an int or a text -/
def rRepS : List V → Hp → VK → Prop := fun xs H Q => (xs = [.non] ∧ Q (.str "None") H) ∨ (∃ i : Int, xs = [.int i] ∧ i.natAbs.log2 < 1920 ∧ Q (.str (toString i)) H) ∨ ∃ z : Str, xs = [.str z] ∧ (reprText z).length ≤ sizeLine ∧ Q (.str (reprText z)) H
theorem call_repS {X : Cx} : CallR X (.builtin "repr") rRepS := by
  intro pins s σ H xs us Q I r h
  rcases h with ⟨rfl, q⟩ | ⟨i, rfl, hz, q⟩ | ⟨z, rfl, hz, q⟩
  · obtain ⟨u, rfl, rx⟩ := vals1 r
    cases rx
    exact PySem.P.repr_of_none ⟨.str _, H, I.tok _, ⟨_, rfl⟩, q⟩
  · obtain ⟨u, rfl, t, rfl⟩ := vals1 r
    exact PySem.P.repr_of_int hz ⟨.str _, H, I.tok _, ⟨_, rfl⟩, q⟩
  · obtain ⟨u, rfl, t, rfl⟩ := vals1 r
    exact PySem.P.repr_of_str ⟨.str _, H, I.tok _, ⟨_, rfl⟩, q⟩ hz
/-- of a list or a tuple, where no repr is under way -/
def rRepD (K : PySem.W.Frag) : List V → Hp → VK → Prop := fun xs H Q => ∃ a d, xs = [.ref a] ∧ Rp K H (.ref a) d ∧ d.hasDict = false ∧ d.showable = true ∧ d.depth ≤ 20 ∧ d.shown.length ≤ sizeLine ∧ Q (.str d.shown) H
theorem call_repD {X : Cx} (hg : X.A.guards = some []) (hu : X.A.units + 64 < cLine) : CallR X (.builtin "repr") (rRepD X.K) := by
  intro pins s σ H xs us Q I r h
  obtain ⟨a, d, rfl, hr, hn, hs, hd, hz, q⟩ := h
  obtain ⟨u, rfl, rx⟩ := vals1 r
  obtain ⟨as, rd⟩ := Dp.reads I d (.ref a) u (Rp.dp d _ hr hn) rx
  cases rx
  exact repr_of_reads' rd hs (PyData.noDict_hsm hn) hg (by omega) (fun _ _ e => e) (fun h' u tk hk => ⟨.str _, H, I.kept hk, ⟨_, rfl⟩, q⟩) hz
end Lk
namespace Lk
open PySem PySem.Spec PyProof.Rows L2 Evl Lm TL
/-! ### what more the top has written: the classes of errors -/
structure ExF (K : PySem.W.Frag) (D : Addr) (ch tx : Bool) : Prop where
  ex : ExcC K D
  wv : PySem.W.kitOne K (.ref D) (.ref (He.ga K "WrongValue")) = some true
  wn : PySem.W.kitOne K (.ref D) (.ref (He.ga K "WrongName")) = some false
  np : PySem.W.kitOne K (.ref D) (.ref (He.ga K "NotPossible")) = some false
  ve : PySem.W.kitOne K (.ref D) (.type "ValueError") = some true
  le : PySem.W.kitOne K (.ref D) (.type "LookupError") = some false
  ae : PySem.W.kitOne K (.ref D) (.type "ArithmeticError") = some false
  ic : PySem.W.kitOne K (.ref D) (.ref (He.ga K "InvalidChanges")) = some ch
  it : PySem.W.kitOne K (.ref D) (.ref (He.ga K "InvalidText")) = some tx
  any : PySem.W.exmAny K (.ref D) [.ref (He.ga K "WrongValue"), .ref (He.ga K "WrongName"), .ref (He.ga K "NotPossible")] = some true
structure Txt2 (K : PySem.W.Frag) (mg : Str → Option Value) : Prop where
  g_wv : mg "WrongValue" = some (.ref (He.ga K "WrongValue"))
  g_wn : mg "WrongName" = some (.ref (He.ga K "WrongName"))
  g_np : mg "NotPossible" = some (.ref (He.ga K "NotPossible"))
  f_ve : mg "ValueError" = none
  f_le : mg "LookupError" = none
  f_ae : mg "ArithmeticError" = none
  x_ch : ExF K (He.ga K "InvalidChanges") true false
  x_tx : ExF K (He.ga K "InvalidText") false true
section
variable {X : Cx}
/-- l.count(True), l a list of bools -/
def rCntB (K : PySem.W.Frag) : V → List V → Hp → VK → Prop := fun x xs H Q => ∃ (p : Addr) (bs : List Bool), x = .ref p ∧ xs = [.bl true] ∧ SqL K H p (bs.map V.bl) ∧ Q (.int (bs.countP id : Nat)) H
def isTV : Value → Bool
  | .bool b => b
  | _ => false
theorem cnt_bls (bs : List Bool) : (bs.map Value.bool).countP isTV = bs.countP id := by
  rw [List.countP_map]
  rfl
theorem mt_cntB : MtR X "list.count" (rCntB X.K) := by
  intro pins s σ H x xs v us Q I rx rxs h
  obtain ⟨p, bs, rfl, rfl, hs, q⟩ := h
  cases rx
  obtain ⟨u, rfl, ru⟩ := rxs.one
  cases ru
  obtain ⟨its, rv, ⟨⟨cls, dd, data, sl⟩, n, ho, hc, hdn, hd⟩, hlen⟩ := I.list hs
  simp only at hc hd
  subst hc hd
  have hb := rv.bls
  subst hb
  refine call_meets PySem.F.slot_list_count ⟨_, ho, rfl⟩ PySem.F.entry_list_count (PySem.F.args_list_count_2 _ _)
    (SeqAt.list_countAt p (bs.map Value.bool).toArray n dd sl (.bool true) isTV) ⟨ho, fun y hy => ?_, ?_⟩
  · obtain ⟨b, _, rfl⟩ := List.mem_map.mp (show y ∈ bs.map Value.bool by simpa using hy)
    have h := eqAt_V (A := (X.A.in1)) (s := s) (y := .bl b) (x := .bl true) (u := .bool b) (v := .bool true) rfl rfl rfl rfl
    have e : eqV (.bl b) (.bl true) = isTV (.bool b) := by cases b <;> rfl
    rw [e] at h
    exact h
  · refine ⟨.int (bs.countP id : Nat), H, I.tok _, ⟨s.toks, ?_⟩, q⟩
    show Value.int (((bs.map Value.bool).toArray.toList.countP isTV : Nat) : Int) s.toks = Value.int ((bs.countP id : Nat) : Int) s.toks
    rw [← cnt_bls]
end
section
variable {P : Program} {w : World} {K : PySem.W.Frag} {mg : Str → Option Value} {base : Heap}
/-! ### _law_sort -/
def oDn : Option Nat → PyData
  | none => .none
  | some i => .int i
/-- what _law_sort answers of an exception -/
def srD (a b : Str) : PyData := .list [.str a, .str b]
def SortQ (K : PySem.W.Frag) (cls : Value) (d : Option Addr) (H : Hp) (Q : VK) : Prop :=
  (cls = .ref (He.ga K "InvalidChanges") ∧ ∃ (dd : Addr) (o : Option Nat), d = some dd ∧ H dd = some (.xd [("index", oN o)]) ∧ (∀ i, o = some i → i ≤ 1000) ∧ ∀ l H', Ex H H' → Rp K H' (.ref l) (srD "InvalidChanges" (oDn o).shown) → Q (.ref l) H') ∨
  (cls = .ref (He.ga K "InvalidText") ∧ ∃ (dd : Addr) (z : Str), d = some dd ∧ H dd = some (.xd [("given", .str z)]) ∧ (reprText z).length ≤ sizeLine ∧ ∀ l H', Ex H H' → Rp K H' (.ref l) (srD "InvalidText" (PyData.str z).shown) → Q (.ref l) H')
def spSort (K : PySem.W.Frag) : SpP := fun p vs H Q _ => ∃ cls d, vs = [.ref p.1] ∧ Zc cls d p.2 ∧ (∃ fs, p.2.data = .fields fs) ∧ SortQ K cls d H Q
theorem sc64 : FnScope ["_law_e", "_law_bases", "_law_plain", "_law_found"] ["_law_e"] (defScope (top 64)) := ⟨rfl, rfl, rfl, by decide +kernel, rfl, by decide +kernel, by decide +kernel⟩
theorem b_isP {X : Cx} {a : Addr} {cls : Value} {d : Option Addr} {oe : Obj} {e : Expr} {es : List Expr} {t : TA} {p pos : Pos} (T : Txt X.K X.mg) (hp : (a, oe) ∈ X.pn) (hz : Zc cls d oe) (hf : ∃ vs, oe.data = .fields vs) (ha : PA X (e :: es) t) (hg : Gl X "isinstance" := by rfl) (he : starEach (e :: es) X.env = (false, eval e X.env) :: starEach es X.env := by rfl) (hpl : (backTo pos (starEach es X.env)).any (·.1) = false := by rfl) :
    PE X (.Call (.Name "isinstance" p) (e :: es) [] pos) (tCB (rIsP X.K a cls d) t) := pe_callB (call_isP hp hz hf) hg T.f_isinstance boot_isinstance ha (he := he) (hpl := hpl)
theorem boot_repr9 : bootBuiltins "repr" = some (.builtin "repr") := by decide +kernel
theorem boot_ve : bootBuiltins "ValueError" = some (.type "ValueError") := by decide +kernel
theorem boot_le : bootBuiltins "LookupError" = some (.type "LookupError") := by decide +kernel
theorem boot_ae : bootBuiltins "ArithmeticError" = some (.type "ArithmeticError") := by decide +kernel
theorem b_repS {X : Cx} {e : Expr} {es : List Expr} {t : TA} {p pos : Pos} (T : Txt X.K X.mg) (ha : PA X (e :: es) t) (hg : Gl X "repr" := by rfl) (he : starEach (e :: es) X.env = (false, eval e X.env) :: starEach es X.env := by rfl) (hpl : (backTo pos (starEach es X.env)).any (·.1) = false := by rfl) :
    PE X (.Call (.Name "repr" p) (e :: es) [] pos) (tCB rRepS t) := pe_callB call_repS hg T.f_repr boot_repr9 ha (he := he) (hpl := hpl)
theorem isP {a D dd : Addr} {fs : List (Str × V)} {c : V} {cv : Value} {b : Bool} {H : Hp} {Q : VK} (x : ExcC K D) (h : H dd = some (.xd fs)) (hc : ∀ u, RelV c u → u = cv) (hk : PySem.W.kitOne K (.ref D) cv = some b) (q : Q (.bl b) H) : rIsP K a (.ref D) (some dd) [.ref a, c] H Q :=
  ⟨D, dd, fs, c, cv, b, rfl, x, rfl, h, rfl, hc, hk, q⟩
theorem relRef {x : Addr} : ∀ u, RelV (.ref x) u → u = .ref x := fun _ h => h
theorem relTy {n : String} : ∀ u, RelV (.ty n) u → u = .type n := fun _ h => h
theorem reprNat_ok {i : Nat} (h : i ≤ 1000) : ((i : Int)).natAbs.log2 < 1920 := by
  rw [Int.natAbs_natCast]
  by_cases h0 : i = 0
  · subst h0; decide
  · have := (Nat.log2_lt h0).mpr (show i < 2 ^ 10 by omega)
    omega
theorem ok__law_sort (T : Txt K mg) (T2 : Txt2 K mg) : ∃ fd, FnP P w K mg base 1 (He.ga K "_law_sort") fd ["_law_e"] (spSort K) ∧ Binds K fd ["_law_e"] [] := by
  obtain ⟨fd, F⟩ := T.d__law_sort.df
  refine ⟨fd, ?_, F.binds fun _ _ _ _ _ _ us hl => match us, hl with | [_], _ => rfl⟩
  obtain ⟨oc, od, kV, doc, pm, an, cdv, ct, osl, rfl, lk, hcd⟩ := F.ex
  refine fn_ofP lk hcd sc64 (fun p vs H Q E h => ?_) fun A outer s H vs Q E p hr h => ?_
  · obtain ⟨_, _, rfl, _⟩ := h
    rfl
  · obtain ⟨cls, d, rfl, hz, hf, hq⟩ := h
    obtain ⟨a, oe⟩ := p
    have hp : (a, oe) ∈ (L2H.cxH CX0 P w K mg base ["_law_e", "_law_bases", "_law_plain", "_law_found"] "_law_sort" (defScope (top 64)) (He.ga K "_law_sort") cdv A outer s H E (a, oe)).pn := List.mem_singleton.mpr rfl
    have hu : (L2H.cxH CX0 P w K mg base ["_law_e", "_law_bases", "_law_plain", "_law_found"] "_law_sort" (defScope (top 64)) (He.ga K "_law_sort") cdv A outer s H E (a, oe)).A.units < cLine := by have := hr.un; show (A.deeper _).units < _; omega
    refine ⟨_, (pss_cons (ps_set (i := 1) sc64.nd rfl (.inl rfl) (pe_lst (pa_cons (b_isP T hp hz hf (pa_cons (pv 0) (pa_cons (pe_glob (v := .ref (He.ga K "WrongValue")) rfl T2.g_wv rfl) pa_nil))) (pa_cons (b_isP T hp hz hf (pa_cons (pv 0) (pa_cons (pe_glob (v := .ref (He.ga K "WrongName")) rfl T2.g_wn rfl) pa_nil))) (pa_cons (b_isP T hp hz hf (pa_cons (pv 0) (pa_cons (pe_glob (v := .ref (He.ga K "NotPossible")) rfl T2.g_np rfl) pa_nil))) pa_nil)))))
      (pss_cons (ps_set (i := 2) sc64.nd rfl (.inl rfl) (pe_lst (pa_cons (b_isP T hp hz hf (pa_cons (pv 0) (pa_cons (pe_bltn (v := .ty "ValueError") rfl T2.f_ve boot_ve rfl) pa_nil))) (pa_cons (b_isP T hp hz hf (pa_cons (pv 0) (pa_cons (pe_bltn (v := .ty "LookupError") rfl T2.f_le boot_le rfl) pa_nil))) (pa_cons (b_isP T hp hz hf (pa_cons (pv 0) (pa_cons (pe_bltn (v := .ty "ArithmeticError") rfl T2.f_ae boot_ae rfl) pa_nil))) pa_nil)))))
      (pss_cons (ps_set (i := 3) sc64.nd rfl (.inl rfl) (pe_lst pa_nil))
      (pss_cons (ps_if (pt_val (b_isP T hp hz hf (pa_cons (pv 0) (pa_cons (pe_glob (v := .ref (He.ga K "InvalidChanges")) rfl T.x_ch.gC rfl) pa_nil))))
      (pss_one (ps_expr (pe_bm PySem.F.plainAttrs_list PySem.F.slot_list_append PySem.F.type_list_append mt_append (pv 3) (pa_cons (pe_lst (pa_cons pe_str (pa_cons (b_repS T (pa_cons (pe_xfP hp T.x_ch.xf T.x_ch.no hz hf (pv 0)) pa_nil)) pa_nil))) pa_nil))))
      pss_nil)
      (pss_cons (ps_if (pt_val (b_isP T hp hz hf (pa_cons (pv 0) (pa_cons (pe_glob (v := .ref (He.ga K "InvalidText")) rfl T.x_tx.gC rfl) pa_nil))))
      (pss_one (ps_expr (pe_bm PySem.F.plainAttrs_list PySem.F.slot_list_append PySem.F.type_list_append mt_append (pv 3) (pa_cons (pe_lst (pa_cons pe_str (pa_cons (b_repS T (pa_cons (pe_xfP hp T.x_tx.xf T.x_tx.no hz hf (pv 0)) pa_nil)) pa_nil))) pa_nil))))
      pss_nil)
      (pss_one (ps_ret (pe_ifExp (PW.pt (pw_and (pt_cmpR op_eq (b_len T (pa_cons (pv 3) pa_nil)) pe_int (nomark _)) (pw_and (pt_cmpR (op_eqF hu) (pv 1) (pv 2) (nomark _)) (pw_and1 (pt_cmpR op_eq (pe_bm PySem.F.plainAttrs_list PySem.F.slot_list_count PySem.F.type_list_count mt_cntB (pv 1) (pa_cons pe_bl pa_nil)) pe_int (nomark _)))))) (pe_ix ix_list (pv 3) pe_int (fun _ _ => rfl)) (pe_lst (pa_cons pe_str (pa_cons pe_str pa_nil))))))))))), ?_⟩
    rcases hq with ⟨rfl, dd, o, rfl, hdd, ho, k⟩ | ⟨rfl, dd, z, rfl, hdd, hzl, k⟩
    · have X1 := T2.x_ch
      refine ⟨.ref a, rfl, _, dd, _, _, _, _, rfl, X1.ex, rfl, hdd, rfl, relRef, X1.wv, ⟨.ref a, rfl, _, dd, _, _, _, _, rfl, X1.ex, rfl, hdd, rfl, relRef, X1.wn, ⟨.ref a, rfl, _, dd, _, _, _, _, rfl, X1.ex, rfl, hdd, rfl, relRef, X1.np, by show 3 ≤ sizeLine; decide, fun l1 hl1 => ?_⟩⟩⟩
      have e1 : Ex H (L2.upd H l1 (.lst [.bl true, .bl false, .bl false])) := Ex.new hl1
      have k1 : L2.upd H l1 (.lst [.bl true, .bl false, .bl false]) l1 = _ := upd_same
      show tSeq _ _ _ _ (L2.upd H l1 _)
      generalize L2.upd H l1 (.lst [.bl true, .bl false, .bl false]) = H1 at e1 k1 ⊢
      have hdd1 := e1 _ _ hdd
      refine ⟨.ref a, rfl, _, dd, _, _, _, _, rfl, X1.ex, rfl, hdd1, rfl, relTy, X1.ve, ⟨.ref a, rfl, _, dd, _, _, _, _, rfl, X1.ex, rfl, hdd1, rfl, relTy, X1.le, ⟨.ref a, rfl, _, dd, _, _, _, _, rfl, X1.ex, rfl, hdd1, rfl, relTy, X1.ae, by show 3 ≤ sizeLine; decide, fun l2 hl2 => ?_⟩⟩⟩
      have e2 : Ex H1 (L2.upd H1 l2 (.lst [.bl true, .bl false, .bl false])) := Ex.new hl2
      have k2 : L2.upd H1 l2 (.lst [.bl true, .bl false, .bl false]) l2 = _ := upd_same
      show tSeq _ _ _ _ (L2.upd H1 l2 _)
      generalize L2.upd H1 l2 (.lst [.bl true, .bl false, .bl false]) = H2 at e2 k2 ⊢
      have hdd2 := e2 _ _ hdd1
      have k12 := e2 _ _ k1
      refine ⟨by show 0 ≤ sizeLine; decide, fun l3 hl3 => ?_⟩
      have e3 : Ex H2 (L2.upd H2 l3 (.lst [])) := Ex.new hl3
      have k3 : L2.upd H2 l3 (.lst []) l3 = _ := upd_same
      show tSeq _ _ _ _ (L2.upd H2 l3 _)
      generalize L2.upd H2 l3 (.lst []) = H3 at e3 k3 ⊢
      have hdd3 := e3 _ _ hdd2
      refine ⟨.ref a, rfl, _, dd, _, _, _, _, rfl, X1.ex, rfl, hdd3, rfl, relRef, X1.ic, _, rfl, itT ?_⟩
      cases o with
      | none =>
        refine ⟨.ref l3, rfl, .inl ⟨rfl, _, .of k3⟩, .ref a, rfl, rfl, rfl, dd, _, .non, rfl, hdd3, rfl, .inl ⟨rfl, ?_⟩⟩
        refine ⟨by show 2 ≤ sizeLine; decide, fun l4 hl4 => ?_⟩
        have e4 : Ex H3 (L2.upd H3 l4 (.lst [.str "InvalidChanges", .str "None"])) := Ex.new hl4
        have k4 : L2.upd H3 l4 (.lst [.str "InvalidChanges", .str "None"]) l4 = _ := upd_same
        generalize L2.upd H3 l4 (.lst [.str "InvalidChanges", .str "None"]) = H4 at e4 k4 ⊢
        have k34 := e4 _ _ k3
        have h43 : l4 ≠ l3 := fun z => by rw [z, k3] at hl4; cases hl4
        have hd3 : dd ≠ l3 := fun z => by rw [z, k3] at hdd3; cases hdd3
        have h13 : l1 ≠ l3 := fun z => by rw [← z, k12] at hl3; cases hl3
        have h23 : l2 ≠ l3 := fun z => by rw [← z, k2] at hl3; cases hl3
        refine ⟨l3, [], _, rfl, rfl, k34, by show 0 < sizeLine; decide, ?_⟩
        have e5 : Ex H (L2.upd H4 l3 (.lst ([] ++ [.ref l4]))) := Ex.mut (((e1.trans e2).trans e3).trans e4) (fresh_back (e1.trans e2) hl3)
        have k5 : L2.upd H4 l3 (.lst ([] ++ [.ref l4])) l3 = some (.lst [.ref l4]) := upd_same
        have k45 : L2.upd H4 l3 (.lst ([] ++ [.ref l4])) l4 = some (.lst [.str "InvalidChanges", .str "None"]) := by rw [upd_ne h43]; exact k4
        have k15 : L2.upd H4 l3 (.lst ([] ++ [.ref l4])) l1 = some (.lst [.bl true, .bl false, .bl false]) := by rw [upd_ne h13]; exact e4 _ _ (e3 _ _ k12)
        have k25 : L2.upd H4 l3 (.lst ([] ++ [.ref l4])) l2 = some (.lst [.bl true, .bl false, .bl false]) := by rw [upd_ne h23]; exact e4 _ _ (e3 _ _ k2)
        have hdd5 := (show L2.upd H4 l3 (.lst ([] ++ [.ref l4])) dd = H4 dd from upd_ne hd3).trans (e4 _ _ hdd3)
        generalize L2.upd H4 l3 (.lst ([] ++ [.ref l4])) = H5 at e5 k5 k45 k15 k25 hdd5 ⊢
        refine ⟨.ref a, rfl, _, dd, _, _, _, _, rfl, X1.ex, rfl, hdd5, rfl, relRef, X1.it, _, rfl, itF ?_⟩
        refine ⟨.ref l3, rfl, .ref l3, 1, rfl, .inl ⟨_, .of k5, rfl⟩, rfl, _, rfl, ite_b (fun _ => ?_) (fun h => absurd h (by decide))⟩
        refine ⟨.ref l1, rfl, .ref l2, rfl, l1, l2, _, _, rfl, rfl, .of k15, .of k25, rfl, rfl, _, rfl, ite_b (fun _ => ?_) (fun h => absurd h (by decide))⟩
        refine ⟨.ref l1, rfl, .inl ⟨rfl, _, .of k15⟩, l1, [true, false, false], rfl, rfl, .of k15, rfl, _, rfl, ite_b (fun _ => ?_) (fun h => absurd h (by decide))⟩
        exact ⟨.ref l3, rfl, l3, _, 0, .ref l4, rfl, rfl, .of k5, rfl, k l4 H5 e5 (.lst (.of k45) (.cons (.str _) (.cons (.str _) .nil)))⟩
      | some i =>
        refine ⟨.ref l3, rfl, .inl ⟨rfl, _, .of k3⟩, .ref a, rfl, rfl, rfl, dd, _, .int i, rfl, hdd3, rfl, .inr (.inl ⟨i, rfl, reprNat_ok (ho i rfl), ?_⟩)⟩
        refine ⟨by show 2 ≤ sizeLine; decide, fun l4 hl4 => ?_⟩
        have e4 : Ex H3 (L2.upd H3 l4 (.lst [.str "InvalidChanges", .str (toString (i : Int))])) := Ex.new hl4
        have k4 : L2.upd H3 l4 (.lst [.str "InvalidChanges", .str (toString (i : Int))]) l4 = _ := upd_same
        generalize L2.upd H3 l4 (.lst [.str "InvalidChanges", .str (toString (i : Int))]) = H4 at e4 k4 ⊢
        have k34 := e4 _ _ k3
        have h43 : l4 ≠ l3 := fun z => by rw [z, k3] at hl4; cases hl4
        have hd3 : dd ≠ l3 := fun z => by rw [z, k3] at hdd3; cases hdd3
        have h13 : l1 ≠ l3 := fun z => by rw [← z, k12] at hl3; cases hl3
        have h23 : l2 ≠ l3 := fun z => by rw [← z, k2] at hl3; cases hl3
        refine ⟨l3, [], _, rfl, rfl, k34, by show 0 < sizeLine; decide, ?_⟩
        have e5 : Ex H (L2.upd H4 l3 (.lst ([] ++ [.ref l4]))) := Ex.mut (((e1.trans e2).trans e3).trans e4) (fresh_back (e1.trans e2) hl3)
        have k5 : L2.upd H4 l3 (.lst ([] ++ [.ref l4])) l3 = some (.lst [.ref l4]) := upd_same
        have k45 : L2.upd H4 l3 (.lst ([] ++ [.ref l4])) l4 = some (.lst [.str "InvalidChanges", .str (toString (i : Int))]) := by rw [upd_ne h43]; exact k4
        have k15 : L2.upd H4 l3 (.lst ([] ++ [.ref l4])) l1 = some (.lst [.bl true, .bl false, .bl false]) := by rw [upd_ne h13]; exact e4 _ _ (e3 _ _ k12)
        have k25 : L2.upd H4 l3 (.lst ([] ++ [.ref l4])) l2 = some (.lst [.bl true, .bl false, .bl false]) := by rw [upd_ne h23]; exact e4 _ _ (e3 _ _ k2)
        have hdd5 := (show L2.upd H4 l3 (.lst ([] ++ [.ref l4])) dd = H4 dd from upd_ne hd3).trans (e4 _ _ hdd3)
        generalize L2.upd H4 l3 (.lst ([] ++ [.ref l4])) = H5 at e5 k5 k45 k15 k25 hdd5 ⊢
        refine ⟨.ref a, rfl, _, dd, _, _, _, _, rfl, X1.ex, rfl, hdd5, rfl, relRef, X1.it, _, rfl, itF ?_⟩
        refine ⟨.ref l3, rfl, .ref l3, 1, rfl, .inl ⟨_, .of k5, rfl⟩, rfl, _, rfl, ite_b (fun _ => ?_) (fun h => absurd h (by decide))⟩
        refine ⟨.ref l1, rfl, .ref l2, rfl, l1, l2, _, _, rfl, rfl, .of k15, .of k25, rfl, rfl, _, rfl, ite_b (fun _ => ?_) (fun h => absurd h (by decide))⟩
        refine ⟨.ref l1, rfl, .inl ⟨rfl, _, .of k15⟩, l1, [true, false, false], rfl, rfl, .of k15, rfl, _, rfl, ite_b (fun _ => ?_) (fun h => absurd h (by decide))⟩
        exact ⟨.ref l3, rfl, l3, _, 0, .ref l4, rfl, rfl, .of k5, rfl, k l4 H5 e5 (.lst (.of k45) (.cons (.str _) (.cons (.str _) .nil)))⟩
    · have X1 := T2.x_tx
      refine ⟨.ref a, rfl, _, dd, _, _, _, _, rfl, X1.ex, rfl, hdd, rfl, relRef, X1.wv, ⟨.ref a, rfl, _, dd, _, _, _, _, rfl, X1.ex, rfl, hdd, rfl, relRef, X1.wn, ⟨.ref a, rfl, _, dd, _, _, _, _, rfl, X1.ex, rfl, hdd, rfl, relRef, X1.np, by show 3 ≤ sizeLine; decide, fun l1 hl1 => ?_⟩⟩⟩
      have e1 : Ex H (L2.upd H l1 (.lst [.bl true, .bl false, .bl false])) := Ex.new hl1
      have k1 : L2.upd H l1 (.lst [.bl true, .bl false, .bl false]) l1 = _ := upd_same
      show tSeq _ _ _ _ (L2.upd H l1 _)
      generalize L2.upd H l1 (.lst [.bl true, .bl false, .bl false]) = H1 at e1 k1 ⊢
      have hdd1 := e1 _ _ hdd
      refine ⟨.ref a, rfl, _, dd, _, _, _, _, rfl, X1.ex, rfl, hdd1, rfl, relTy, X1.ve, ⟨.ref a, rfl, _, dd, _, _, _, _, rfl, X1.ex, rfl, hdd1, rfl, relTy, X1.le, ⟨.ref a, rfl, _, dd, _, _, _, _, rfl, X1.ex, rfl, hdd1, rfl, relTy, X1.ae, by show 3 ≤ sizeLine; decide, fun l2 hl2 => ?_⟩⟩⟩
      have e2 : Ex H1 (L2.upd H1 l2 (.lst [.bl true, .bl false, .bl false])) := Ex.new hl2
      have k2 : L2.upd H1 l2 (.lst [.bl true, .bl false, .bl false]) l2 = _ := upd_same
      show tSeq _ _ _ _ (L2.upd H1 l2 _)
      generalize L2.upd H1 l2 (.lst [.bl true, .bl false, .bl false]) = H2 at e2 k2 ⊢
      have hdd2 := e2 _ _ hdd1
      have k12 := e2 _ _ k1
      refine ⟨by show 0 ≤ sizeLine; decide, fun l3 hl3 => ?_⟩
      have e3 : Ex H2 (L2.upd H2 l3 (.lst [])) := Ex.new hl3
      have k3 : L2.upd H2 l3 (.lst []) l3 = _ := upd_same
      show tSeq _ _ _ _ (L2.upd H2 l3 _)
      generalize L2.upd H2 l3 (.lst []) = H3 at e3 k3 ⊢
      have hdd3 := e3 _ _ hdd2
      refine ⟨.ref a, rfl, _, dd, _, _, _, _, rfl, X1.ex, rfl, hdd3, rfl, relRef, X1.ic, _, rfl, itF ?_⟩
      refine ⟨.ref a, rfl, _, dd, _, _, _, _, rfl, X1.ex, rfl, hdd3, rfl, relRef, X1.it, _, rfl, itT ?_⟩
      refine ⟨.ref l3, rfl, .inl ⟨rfl, _, .of k3⟩, .ref a, rfl, rfl, rfl, dd, _, .str z, rfl, hdd3, rfl, .inr (.inr ⟨z, rfl, hzl, ?_⟩)⟩
      refine ⟨by show 2 ≤ sizeLine; decide, fun l4 hl4 => ?_⟩
      have e4 : Ex H3 (L2.upd H3 l4 (.lst [.str "InvalidText", .str (reprText z)])) := Ex.new hl4
      have k4 : L2.upd H3 l4 (.lst [.str "InvalidText", .str (reprText z)]) l4 = _ := upd_same
      generalize L2.upd H3 l4 (.lst [.str "InvalidText", .str (reprText z)]) = H4 at e4 k4 ⊢
      have k34 := e4 _ _ k3
      have h43 : l4 ≠ l3 := fun z => by rw [z, k3] at hl4; cases hl4
      have hd3 : dd ≠ l3 := fun z => by rw [z, k3] at hdd3; cases hdd3
      have h13 : l1 ≠ l3 := fun z => by rw [← z, k12] at hl3; cases hl3
      have h23 : l2 ≠ l3 := fun z => by rw [← z, k2] at hl3; cases hl3
      refine ⟨l3, [], _, rfl, rfl, k34, by show 0 < sizeLine; decide, ?_⟩
      have e5 : Ex H (L2.upd H4 l3 (.lst ([] ++ [.ref l4]))) := Ex.mut (((e1.trans e2).trans e3).trans e4) (fresh_back (e1.trans e2) hl3)
      have k5 : L2.upd H4 l3 (.lst ([] ++ [.ref l4])) l3 = some (.lst [.ref l4]) := upd_same
      have k45 : L2.upd H4 l3 (.lst ([] ++ [.ref l4])) l4 = some (.lst [.str "InvalidText", .str (reprText z)]) := by rw [upd_ne h43]; exact k4
      have k15 : L2.upd H4 l3 (.lst ([] ++ [.ref l4])) l1 = some (.lst [.bl true, .bl false, .bl false]) := by rw [upd_ne h13]; exact e4 _ _ (e3 _ _ k12)
      have k25 : L2.upd H4 l3 (.lst ([] ++ [.ref l4])) l2 = some (.lst [.bl true, .bl false, .bl false]) := by rw [upd_ne h23]; exact e4 _ _ (e3 _ _ k2)
      have hdd5 := (show L2.upd H4 l3 (.lst ([] ++ [.ref l4])) dd = H4 dd from upd_ne hd3).trans (e4 _ _ hdd3)
      generalize L2.upd H4 l3 (.lst ([] ++ [.ref l4])) = H5 at e5 k5 k45 k15 k25 hdd5 ⊢
      refine ⟨.ref l3, rfl, .ref l3, 1, rfl, .inl ⟨_, .of k5, rfl⟩, rfl, _, rfl, ite_b (fun _ => ?_) (fun h => absurd h (by decide))⟩
      refine ⟨.ref l1, rfl, .ref l2, rfl, l1, l2, _, _, rfl, rfl, .of k15, .of k25, rfl, rfl, _, rfl, ite_b (fun _ => ?_) (fun h => absurd h (by decide))⟩
      refine ⟨.ref l1, rfl, .inl ⟨rfl, _, .of k15⟩, l1, [true, false, false], rfl, rfl, .of k15, rfl, _, rfl, ite_b (fun _ => ?_) (fun h => absurd h (by decide))⟩
      exact ⟨.ref l3, rfl, l3, _, 0, .ref l4, rfl, rfl, .of k5, rfl, k l4 H5 e5 (.lst (.of k45) (.cons (.str _) (.cons (.str _) .nil)))⟩
end
end Lk
namespace Lk
open PySem PySem.Spec PyProof.Rows L2 Evl Lm TL LamX
def tWeak (te : TE) : TE := fun σ H Q => ∃ Qm : VK, te σ H Qm ∧ ∀ v H1, Qm v H1 → Q v H1
theorem pe_weak {X : Cx} {e : Expr} {te : TE} (h : PE X e te) : PE X e (tWeak te) := ⟨fun pins s σ H Q I ⟨Qm, h1, h2⟩ => thn (h.run pins s σ H Qm I h1) fun _ _ ⟨x, H1, I1, r, q⟩ => ⟨x, H1, I1, r, h2 x H1 q⟩⟩
/-! ### _law_answer, given a lambda -/
def TTans (K : PySem.W.Frag) : (XK → Hp → VK → Prop) → Hp → VK → Prop := fun tl H Q =>
  tl (fun cls d H1 => PySem.W.exmAny K cls [.ref (He.ga K "WrongValue"), .ref (He.ga K "WrongName"), .ref (He.ga K "NotPossible")] = some true ∧ SortQ K cls d H1 Q) H fun v H1 => ∀ l, H1 l = none → Q (.ref l) (L2.upd H1 l (.lst [.str "back", v]))
theorem sc42 : FnScope ["_law_call_here", "_law_got", "_law_e"] ["_law_call_here"] (defScope (top 42)) := ⟨rfl, rfl, rfl, by decide +kernel, rfl, by decide +kernel, by decide +kernel⟩
theorem ans_gives {X : Cx} {q : Str} {g : Addr} {cdg : Value} {k : Nat} (T : Txt X.K X.mg) (T2 : Txt2 X.K X.mg) (hr : Room (k + 2) X.A) (hk : 1 ≤ k) :
    GivesTo X ["_law_call_here", "_law_got", "_law_e"] "_law_answer" (defScope (top 42)) g cdg (defBody (top 42)) "_law_call_here" q (TTans X.K) := by
  intro f c' s H Q tl act hc h
  obtain ⟨fd, Fs, Bs⟩ := ok__law_sort (P := X.prog) (w := X.w) (base := X.base) T T2
  refine ⟨_, pss_cons (ps_try_as3 (X := (cxOf C8.CX0 X.prog X.w X.K X.mg X.base ["_law_call_here", "_law_got", "_law_e"] "_law_answer" (defScope (top 42)) g cdg X.A X.stack s H C8.E0).nox) (i := 2)
      (tb := fun W D σ H => ∃ Ech : XK, (∀ cls d σ' H', Ech cls d H' → W cls d σ' H') ∧ σ[0]? = some (some (.ref f)) ∧ H c' = some (CodeO c' q) ∧ ∃ Qm : VK, tl Ech H Qm ∧ ∀ v H1, Qm v H1 → D.nx (σ.set 1 (some v)) H1)
      (ts := fun a cls d D σ H => σ[2]? = some (some (.ref a)) ∧ SortQ X.K cls d H D.rt)
      rfl rfl sc42.nd rfl rfl ⟨rfl, by decide, .inl T2.g_wv⟩ ⟨rfl, by decide, .inl T2.g_wn⟩ ⟨rfl, by decide, .inl T2.g_np⟩ (fun W pn xe tk _ => ?_) (fun a oe cls d pn hz hf => ?_) rfl)
    (pss_one (ps_ret (pe_lst (pa_cons pe_str (pa_cons (pv 1) pa_nil))))), ?_⟩
  · refine ⟨fun pins s' σ H' D I h' => ?_⟩
    obtain ⟨Ech, hW, h1, h2, Qm, h3, h4⟩ := h'
    refine PSs.run (t := tAsg (tWeak (fun σZ HZ Q => σZ[0]? = some (some (V.ref f)) ∧ HZ c' = some (CodeO c' q) ∧ tl Ech HZ Q)) (gName 1)) ?_ pins s' σ H' D I ⟨Qm, ⟨h1, h2, h3⟩, h4⟩
    exact pss_one (ps_set (i := 1) sc42.nd rfl (.inl rfl) (pe_weak (act W pn xe Ech _ _ tk hW)))
  · refine ⟨fun pins s' σ H' D I h' => ?_⟩
    obtain ⟨h1, h2⟩ := h'
    have hr1 : L2H.RoomH 1 (((cxOf C8.CX0 X.prog X.w X.K X.mg X.base ["_law_call_here", "_law_got", "_law_e"] "_law_answer" (defScope (top 42)) g cdg X.A X.stack s H C8.E0).nox).suite a ((a, oe) :: pn)).A := by
      have h3 := L2H.roomH_of (hr.deeper (k := k + 1) (envOfC "_law_answer" (defScope (top 42)) s.heap.objs.size g cdg))
      have h4 : L2H.RoomH 1 (X.A.deeper (envOfC "_law_answer" (defScope (top 42)) s.heap.objs.size g cdg)) := L2H.RoomH.mono (k := k + 1) h3 (by omega)
      exact ⟨h4.dp, h4.un⟩
    refine PSs.run (t := tRet (tC1 (spSort X.K (a, oe)) (tCons (tVar 2) tNil))) ?_ pins s' σ H' D I ⟨.ref a, h1, cls, d, rfl, hz, hf, h2⟩
    exact pss_one (ps_ret (pe_callP (X := ((cxOf C8.CX0 X.prog X.w X.K X.mg X.base ["_law_call_here", "_law_got", "_law_e"] "_law_answer" (defScope (top 42)) g cdg X.A X.stack s H C8.E0).nox).suite a ((a, oe) :: pn)) (p := (a, oe)) List.mem_cons_self Fs hr1 (x := "_law_sort") rfl T.d__law_sort.at_ T.d__law_sort.kp Bs (pa_cons (pv 2) pa_nil)))
  · exact ⟨fun cls d H1 => _ ∧ _, fun cls d σ' H' ⟨e1, e2⟩ => ⟨e1, fun a _ hi => ⟨hi, e2⟩⟩, rfl, hc, _, h, fun v H1 hv => ⟨v, rfl, by show 2 ≤ sizeLine; decide, hv⟩⟩
end Lk
namespace Lk
open PySem PySem.Spec PyProof.Rows L2 Evl Lm TL LamX
theorem cxN_le {P : Program} {w : World} {outer : List Env} {H : Hp} {s : Shared} {E : XK} {u : Value} {s' : Shared} (h : L2N.CX P w outer H s E u s') : L2.CX P w outer H s E u s' := by
  obtain ⟨a, B, H', cls, d, e, ⟨x1, x2, x3, oe, vs, T, oT, ts, a1, a2, a3⟩, h2⟩ := h
  exact ⟨a, B, H', cls, d, e, ⟨x1, x2, x3, oe, vs, T, oT, ts, a1, a2.zc, a3⟩, h2⟩
theorem passLam {X : Cx} {A : Around} {outer : List Env} {s : Shared} {H : Hp} {E : XK} {scope : Scope} {f c' : Addr} : Passes (L2N.CX X.prog X.w) (lamCx X A outer s H E scope f c') E :=
  fun pins σ H1 s1 e s' I c => passes_call (X := lamCx X A outer s H E scope f c') (W := fun cls d _ H => E cls d H) (takes_of (X := lamCx X A outer s H E scope f c') rfl rfl rfl rfl) (fun _ _ _ _ h => h) pins σ H1 s1 e s' I (cxN_le c)
/-- a def's code object known -/
def IsDefC (K : PySem.W.Frag) (x qual : Str) (st : Stmt) (f c : Addr) : Prop := ∃ (oc : Value) (od : Option Addr) (kV doc pm : Value) (an : Option Addr) (ct : Value) (osl : Array (Option Value)),
  K.lookup f = some ⟨oc, od, .func (PySem.W.fnOf x qual (defArgs st) (defBody st) (defScope st) .none kV doc pm an (.ref c) ct), osl⟩ ∧ PySem.W.codeIn K (.ref c) qual = true ∧ PySem.W.keepIn K (.ref f) = true
/-! ### what a def promises where no repr is under way -/
def FnG (P : Program) (w : World) (K : PySem.W.Frag) (mg : Str → Option Value) (base : Heap) (k : Nat) (f : Addr) (sp : Sp) : Prop :=
  ∀ (A : Around) (outer : List Env) (s : Shared) (H : Hp) (us : List Value) (vs : List V) (Q : VK) (E : XK), Room k A → A.guards = some [] → Env0 P w K mg base A outer s H → Vals vs us → sp vs H Q E →
    codeAny (model P w) A (.call (.ref f) ⟨us, []⟩) (CR CX0 outer P w H s Q E) s
theorem mkG {P : Program} {w : World} {K : PySem.W.Frag} {mg : Str → Option Value} {base : Heap} {x qual : Str} {st : Stmt} {f c : Addr} {N ps : List Str} {k : Nat} {sp : Sp} (F : IsDefC K x qual st f c) (S : FnScope N ps (defScope st)) (len : ∀ vs H Q E, sp vs H Q E → vs.length = ps.length)
    (hb : ∀ (kV doc pm : Value) (an : Option Addr) (cdv ct : Value) (us : List Value), us.length = ps.length → bindArgs (PySem.W.fnOf x qual (defArgs st) (defBody st) (defScope st) .none kV doc pm an cdv ct) ⟨us, []⟩ = pure (ps.zip us))
    (hbody : ∀ (A : Around) (outer : List Env) (s : Shared) (H : Hp) (vs : List V) (Q : VK) (E : XK), Room k (A.deeper (envOfC qual (defScope st) s.heap.objs.size f (.ref c))) → (A.deeper (envOfC qual (defScope st) s.heap.objs.size f (.ref c))).guards = some [] → sp vs H Q E →
      ∃ t, PSs (cxOf CX0 P w K mg base N qual (defScope st) f (.ref c) A outer s H E).nox (defBody st) t ∧ t { nx := fun _ H' => Q .non H', rt := Q } (start N vs) H) : FnG P w K mg base (k + 1) f sp := by
  obtain ⟨oc, od, kV, doc, pm, an, ct, osl, lk, hcd, kp⟩ := F
  intro A outer s H us vs Q E hr hg e0 r h
  have hl := len _ _ _ _ h
  have hul : us.length = ps.length := by rw [← r.length]; exact hl
  have hbt : BindsTo s (PySem.W.fnOf x qual (defArgs st) (defBody st) (defScope st) .none kV doc pm an (.ref c) ct) ⟨us, []⟩ (ps.zip us) := by
    have b := (Binds.all (K := K) (ps := ps) (fun us hus => hb kV doc pm an (.ref c) ct us hus)) s us (e0.mod.kin.keeps fun b o e => (e0.bs b o e).1) (by rw [List.append_nil]; exact hul)
    rw [List.append_nil] at b
    exact b
  refine run_ofS lk hcd S hr e0 hbt r hl fun hr' => ?_
  obtain ⟨t, h1, h2⟩ := hbody A outer s H vs Q E hr' hg h
  exact ⟨t, h1.nox, h2⟩
section
variable {X : Cx} {k j : Nat} {f : Addr} {sp : Sp} {x : Str} {st : Stmt} {e : Expr} {es : List Expr} {t : TA} {p pos : Pos}
theorem pe_dG (D : Dfn X.K X.mg x st) (F : FnG X.prog X.w X.K X.mg X.base k (He.ga X.K x) sp) (hr : Room j X.A) (hG : X.A.guards = some []) (ha : PA X (e :: es) t) (hk : k ≤ j := by decide) (hg : Gl X x := by rfl) (hd : (x == ("__debug__" : Str)) = false := by decide)
    (he : starEach (e :: es) X.env = (false, eval e X.env) :: starEach es X.env := by rfl) (hpl : (backTo pos (starEach es X.env)).any (·.1) = false := by rfl) :
    PE X (.Call (.Name x p) (e :: es) [] pos) (tC1 sp t) := by
  refine ⟨fun pins s σ H Q I h => ?_⟩
  refine wpAny_Call_Name_kw (ld_glob I hg D.at_ ?_ hd)
  refine PySem.W.callWith_K (h₀ := X.base) I.ok.mod.kin D.kp (thn (ha.run pos pins s σ H _ I h) fun us s1 ⟨vs, H1, I1, r, q⟩ => ⟨I1.kIn, ?_⟩) he hpl
  refine wpAny_call (codeAny_mono (F X.A X.stack s1 H1 us vs Q (fun _ _ _ => False) (hr.mono hk) hG I1.env0 r q) fun r s' hq => ?_)
  cases r with
  | error e => exact (show False from hq).elim
  | ok fl =>
    cases fl with
    | ret u => exact I1.after hq
    | next => exact False.elim hq
    | brk => exact False.elim hq
    | cont => exact False.elim hq
/-- _law_answer(lambda: body) -/
theorem pe_ans {T0 : List (Addr × Str)} {c P : Addr} {params : Arguments} {body : Expr} {scope : Scope} {tb : XK → TE} {lpos : Pos} (T : Txt X.K X.mg) (T2 : Txt2 X.K X.mg) (TB : TabB X.base X.mg c P) (hcode : X.env.code = .ref c) (hmT : (P, X.env.qual ++ "<lambda>") ∈ T0) (hu : ∀ p ∈ T0, p.1 = P → p.2 = X.env.qual ++ "<lambda>") (hr : Room (k + 2) X.A) (hk : 1 ≤ k) (L : LamS X.env.scope scope)
    (hbody : ∀ (A : Around) (outer : List Env) (s : Shared) (H : Hp) (E : XK) (f c' : Addr), Room k (A.deeper (lamEnv X scope s.heap.objs.size f c')) → PE (lamCx X A outer s H E scope f c') body (tb E))
    (hg : Gl X "_law_answer" := by rfl) (hdef : defaultsOf params X.env = ([], []) := by rfl)
    (hbind : ∀ (q : Str) (cl : List (Str × Addr)) (pm cv ctv : Value), bindArgs (PySem.W.kla_fn "<lambda>" q params body scope cl pm cv ctv) ⟨[], []⟩ = pure [] := by intros; rfl) :
    PE X (.Call (.Name "_law_answer" p) [.Lambda params body scope lpos] [] pos) (tLam T0 (TTans X.K) tb) := by
  obtain ⟨fd, F⟩ := T.d__law_answer.df
  have hb := F.binds (ps := ["_law_call_here"]) fun _ _ _ _ _ _ us hl => match us, hl with | [_], _ => rfl
  obtain ⟨oc, od, kV, doc, pm, an, cdv, ct, osl, rfl, lk, hcd⟩ := F.ex
  exact pe_lamcall (Ng := ["_law_call_here", "_law_got", "_law_e"]) hg T.d__law_answer.at_ T.d__law_answer.kp lk hcd hb sc42 rfl (.inl rfl) (ans_gives T T2 hr hk) TB hcode hmT hu hr L hdef hbind hbody
end
end Lk
namespace Lk
open PySem PySem.Spec PyProof.Rows L2 Evl Lm TL LamX
section
variable {P : Program} {w : World} {K : PySem.W.Frag} {mg : Str → Option Value} {base : Heap}
/-! ### Lot.__str__, Lot.text -/
def spLStr (K : PySem.W.Frag) : Sp := fun vs H Q _ => ∃ v rs, vs = [v] ∧ LtAt K H v rs ∧ (∀ r ∈ rs, Small r) ∧ rs.length ≤ 4 ∧ ∀ H', Ex H H' → Q (.str (sheetL rs)) H'
theorem sc32_9 : FnScope ["self"] ["self"] (defScope (mth 32 9)) := ⟨rfl, rfl, rfl, by decide +kernel, rfl, by decide +kernel, by decide +kernel⟩
theorem sc32_5 : FnScope ["self"] ["self"] (defScope (mth 32 5)) := ⟨rfl, rfl, rfl, by decide +kernel, rfl, by decide +kernel, by decide +kernel⟩
theorem ok_lstr (T : Txt K mg) : FnR P w K mg base CX0 5 (He.ma K (cL K) "__str__") (spLStr K) := by
  refine mkD T.l_str.df sc32_9 (fun vs H Q E h => ?_) (fun _ _ _ _ _ _ us hl => match us, hl with | [_], _ => rfl) (fun cdv A outer s H vs Q E hr h => ?_)
  · obtain ⟨v, rs, rfl, _⟩ := h
    rfl
  · obtain ⟨v, rs, rfl, hl, hsm, hn, k⟩ := h
    refine ⟨_, (pss_one (ps_ret (pe_join pe_str (pe_d T.d_lot_lines (ok_lot_lines T) hr (pa_cons (pv 0) pa_nil))))), ?_⟩
    have hn' : rs.length ≤ 1000 := by omega
    refine ⟨⟨"\n", rfl⟩, v, rfl, v, rs, rfl, hl, hsm, hn', fun l H1 e1 hf hl1 => ⟨"\n", l, rs.map sheetS, rfl, rfl, .inl (.of hl1), ?_, k _ e1⟩⟩
    have := sum_le (l := rs.map sheetS) (n := 450) fun x hx => by
      obtain ⟨r, hr, rfl⟩ := List.mem_map.mp hx
      exact sheetS_len (hsm r hr)
    have c1 : ("\n" : Str).length = 1 := by decide +kernel
    rw [c1, List.length_map] at *
    have : rs.length * 450 ≤ 4 * 450 := Nat.mul_le_mul_right _ hn
    omega
theorem LtAt.slt {H : Hp} {v : V} {rs : List RD} (h : LtAt K H v rs) : ∃ a dx ss, v = .ref a ∧ SlX.Slt H a (cL K) dx ss := by
  obtain ⟨a, dx, ss, t, us, h1, h2, _⟩ := h.ex
  exact ⟨a, dx, ss, h1, h2⟩
end
section
variable {X : Cx} {e : Expr} {te : TE} {p pos : Pos} {es : List Expr} {t : TA} {j : Nat}
/-- str(lot) -/
theorem b_strL (T : Txt X.K X.mg) (hr : Room j X.A) (ha : PA X (e :: es) t) (hj : 7 ≤ j := by decide) (hg : Gl X "str" := by rfl) (he : starEach (e :: es) X.env = (false, eval e X.env) :: starEach es X.env := by rfl) (hpl : (backTo pos (starEach es X.env)).any (·.1) = false := by rfl) :
    PE X (.Call (.Name "str" p) (e :: es) [] pos) (tCB (rStrOwn (cL X.K) (spLStr X.K) E0) t) := pe_callTy (call_strOwn T.l_str.me.at_ T.l_str.me.fn (ok_lstr T) (hr.mono hj) pass0) hg T.f_str boot_str ha (he := he) (hpl := hpl)
end
section
variable {P : Program} {w : World} {K : PySem.W.Frag} {mg : Str → Option Value} {base : Heap}
theorem ok_ltext (T : Txt K mg) : FnR P w K mg base CX0 8 (He5.wf K (cL K) "property" "text") (spLStr K) := by
  refine mkD T.l_text.df sc32_5 (fun vs H Q E h => ?_) (fun _ _ _ _ _ _ us hl => match us, hl with | [_], _ => rfl) (fun cdv A outer s H vs Q E hr h => ?_)
  · obtain ⟨v, rs, rfl, _⟩ := h
    rfl
  · obtain ⟨v, rs, rfl, hl, hsm, hn, k⟩ := h
    obtain ⟨a, dx, ss, rfl, hs⟩ := hl.slt
    exact ⟨_, (pss_one (ps_ret (b_strL T hr (pa_cons (pv 0) pa_nil)))), .ref a, rfl, a, dx, ss, rfl, hs, .ref a, rs, rfl, hl, hsm, hn, fun H1 e1 => ⟨_, rfl, k _ e1⟩⟩
end
section
variable {X : Cx} {e : Expr} {te : TE} {pos : Pos} {j : Nat}
def tText (K : PySem.W.Frag) (te : TE) : TE := fun σ H Q => te σ H fun x H1 => spLStr K [x] H1 Q E0
theorem pe_text (T : Txt X.K X.mg) (he : PE X e te) (hr : Room j X.A) (hj : 9 ≤ j := by decide) (hb : attributeBase e "text" X.env (eval e X.env) = eval e X.env := by rfl) : PE X (.Attribute e "text" pos) (tText X.K te) := by
  refine ⟨fun pins s σ H Q I h => ?_⟩
  refine attr_of hb (thn (he.run pins s σ H _ I h) fun w s1 ⟨x, H1, I1, rx, v, rs, ex, hl, hh⟩ => ?_)
  obtain ⟨a, dx, ss, rfl, hs⟩ := hl.slt
  have ex' : x = .ref a := (List.cons.inj ex).1
  subst ex'
  obtain rfl : w = Value.ref a := rx
  exact SlX.getprop_sl (E := E0) I1 hs T.l_f.sc T.l_text.at_ T.l_text.get T.l_text.tk T.l_text.rc (ok_ltext T) (hr.mono hj) (fun _ _ _ _ h => h) ⟨.ref a, rs, rfl, hl, hh⟩
end
end Lk
namespace PySem.W
open PySem PySem.Spec PySem.Calls PyProof.Rows
section
variable {prog : Program} {w : World} {A : Around} {E : Value → Shared → Prop} {s : Shared} {K : Frag} {x y C f : Addr} {ox oy : Obj} {od od' : Option Obj}
/-- a != b of two instances of one class with an own == and no own != -/
theorem lk_objNe {Q : Fin → Shared → Prop} (X : K.In s.heap) (I : InstAt s.heap x ox C od) (hs : findIn K (.ref C) "__eq__" = some (some (.ref f))) (hf : isFn K (.ref f) = true) (hu : A.units < cLine)
    (hcall : wpAny (model prog w) A (call (.ref f) [.ref x, .ref y]) (fun v s' => ∃ b, v = .bool b ∧ Q (.done (.ret (.bool (!b)))) s') E s) :
    wpAny (model prog w) A (Builtin.«object.__ne__» ⟨[.ref x, .ref y], []⟩) Q E s := by
  unfold Builtin.«object.__ne__»
  repeat (first
    | with_reducible refine wpAny_cRoomFor hu ?_
    | (refine wpAny_bind (m := callSpecialIfBound? (.ref x) (Str.ofString "__eq__") [.ref y])
        (ifBound_K X I hs hf (wpAny_mono hcall (fun r s' hr => by
          obtain ⟨b, rfl, hq⟩ := hr
          repeat (first | exact hq | exact wpAny_pure hq | exact wpAny_truthy_bool hq | (refine wpAny_bind (m := truthy (.bool _)) (wpAny_truthy_bool ?_)) | wp_step)) fun _ _ e => e)))
    | wp_step)
theorem lk_ifBoundNe {M : Model} {args : List Value} {Q : Option Value → Shared → Prop} (X : K.In s.heap) (I : InstAt s.heap x ox C od) (hs : findIn K (.ref C) "__ne__" = some (some (.builtin "object.__ne__")))
    (h : wpAny M A (call (.builtin "object.__ne__") (.ref x :: args)) (fun v => Q (some v)) E s) : wpAny M A (callSpecialIfBound? (.ref x) "__ne__" args) Q E s := by
  simp only [callSpecialIfBound?, bindSpecialIfBound?]
  refine wpAny_holding (wpAny_bind (wpAny_bind (wpAny_bind (I.type.here ((looks_findIn X hs).here ?_)))))
  refine wpAny_bind (wpAny_askSetting (wpAny_ite ?_))
  have fin : wpAny M A (call (.builtin "object.__ne__") ([.ref x] ++ args) >>= fun v => pure (some v)) Q E s := wpAny_bind (wpAny_mono h (fun v s' h' => wpAny_pure h') fun _ _ h' => h')
  split
  · exact wpAny_bind (wpAny_of_eq (PySem.F.cmp_object.ne.bind _) (wpAny_pure (by exact fin)))
  · exact wpAny_tryCatch (wpAny_bind (wpAny_of_eq (PySem.F.cmp_object.ne.bind _) (wpAny_pure (by exact fin))))
theorem lk_ne {Q : Value → Shared → Prop} (X : K.In s.heap) (I : InstAt s.heap x ox C od) (I' : InstAt s.heap y oy C od') (hm : mroIn K C (.type "object") = some true) (hs : findIn K (.ref C) "__eq__" = some (some (.ref f))) (hf : isFn K (.ref f) = true)
    (hn : findIn K (.ref C) "__ne__" = some (some (.builtin "object.__ne__"))) (hu : A.units + 1 < cLine)
    (hcall : wpAny (model prog w) A.in1 (call (.ref f) [.ref x, .ref y]) (fun v s' => ∃ b, v = .bool b ∧ Q (.bool (!b)) s') E s) : wpAny (model prog w) A (richCompare .NotEq (.ref x) (.ref y)) Q E s := by
  have one : wpAny (model prog w) A (tryCompare (.ref x) "__ne__" (.ref y)) (fun r s' => ∃ v, r = some v ∧ Q v s') E s := by
    unfold tryCompare
    refine wpAny_bind (lk_ifBoundNe X I hn (wpAny_call (codeAny_call_builtin PySem.F.cmp_object.ne.plain PySem.F.cmpEntry_ne (check_slot PySem.F.cmpKind_ne PySem.F.cmpSplit_ne (I.type.andThen (looks_mroIn X hm)) (PySem.F.cmpArgs_ne _ _)
      (lk_objNe (A := A.in1) X I hs hf hu (wpAny_mono hcall (fun v s' hv => ?_) fun _ _ e => e))))))
    obtain ⟨b, rfl, hq⟩ := hv
    first
      | exact ⟨b, rfl, wpAny_pure ⟨_, rfl, hq⟩⟩
      | exact ⟨b, rfl, ⟨_, rfl, hq⟩⟩
      | exact ⟨b, rfl, wpAny_pure (wpAny_pure ⟨_, rfl, hq⟩)⟩
  unfold richCompare
  simp only [oneThing_ref]
  refine wpAny_holding (wpAny_bind (wpAny_cRoomFor (Nat.lt_of_succ_lt hu) ?_))
  rw [cmpInfo_NotEq]
  dsimp only
  refine wpAny_bind (I.type.here (wpAny_bind (I'.type.here ?_)))
  rw [show (Value.ref C != Value.ref C) = false from by simp]
  simp only [Bool.false_eq_true, if_false]
  refine wpAny_bind (wpAny_pure ?_)
  simp only [Bool.false_eq_true, if_false]
  refine wpAny_bind (wpAny_mono one (fun r s' z => ?_) fun _ _ e => e)
  obtain ⟨v, rfl, hq⟩ := z
  exact wpAny_pure hq
end
end PySem.W
namespace Lk
open PySem PySem.Spec PyProof.Rows L2 Evl Lm TL LamX
section
variable {P : Program} {w : World} {K : PySem.W.Frag} {mg : Str → Option Value} {base : Heap}
/-! ### Round.__eq__ of two equal rounds -/
def rtD (r : RD) : PyData := .tuple [.int r.p, lampsD r.ls, .int r.e]
def REq (K : PySem.W.Frag) (a b : Addr) (H : Hp) : Prop := ∃ r, RdAt K H (.ref a) r ∧ RdAt K H (.ref b) r ∧ SeqAt.shaped (rtD r) = true ∧ PyData.eqv (rtD r) (rtD r) = true ∧ (rtD r).hasDict = false
theorem sc24_9 : FnScope ["self", "other", "mine"] ["self", "other"] (defScope (mth 24 9)) := ⟨rfl, rfl, rfl, by decide +kernel, rfl, by decide +kernel, by decide +kernel⟩
theorem ok_req (T : Txt K mg) : FnR P w K mg base CX0 1 (He.ma K (cR K) "__eq__") (spEq (REq K)) := by
  refine mkD T.r_eq.df sc24_9 (fun vs H Q E h => ?_) (fun _ _ _ _ _ _ us hl => match us, hl with | [_, _], _ => rfl) (fun cdv A outer s H vs Q E hr h => ?_)
  · obtain ⟨a, b, rfl, _⟩ := h
    rfl
  · obtain ⟨a, b, rfl, ⟨r, ha, hb, hsh, heq, hnd⟩, k⟩ := h
    refine ⟨_, (pss_cons (ps_if (pt_not (pt_val (b_isR T (pa_cons (pv 1) (pa_cons (pn_Round T) pa_nil)))))
      (pss_one (ps_ret pe_bl))
      pss_nil)
      (pss_cons (ps_set (i := 2) sc24_9.nd rfl (.inl rfl) (pe_tup (pa_cons (SlX.pe_sl (pv 0)) (pa_cons (SlX.pe_sl (pv 0)) (pa_cons (SlX.pe_sl (pv 0)) pa_nil)))))
      (pss_one (ps_ret (pe_cmpR (op_eqD hr.units) (pv 2) (pe_tup (pa_cons (SlX.pe_sl (pv 1)) (pa_cons (SlX.pe_sl (pv 1)) (pa_cons (SlX.pe_sl (pv 1)) pa_nil)))) (nomark _)))))), ?_⟩
    obtain ⟨a', dx, ss, L, e1, a1, a2, a3, a4, a5⟩ := ha.ex
    cases e1
    obtain ⟨b', dy, ts, M, e2, b1, b2, b3, b4, b5⟩ := hb.ex
    cases e2
    refine ⟨.ref b, rfl, isR_some T b1 ⟨_, rfl, itF ?_⟩⟩
    refine ⟨.ref a, rfl, a, _, dx, _, ss, 2, _, rfl, a1, T.r_f.sc, T.r_s2, a4, .ref a, rfl, a, _, dx, _, ss, 1, _, rfl, a1, T.r_f.sc, T.r_s1, a3, .ref a, rfl, a, _, dx, _, ss, 0, _, rfl, a1, T.r_f.sc, T.r_s0, a2, by show 3 ≤ sizeLine; decide, fun t1 ht1 => ?_⟩
    have f1 : Ex H (L2.upd H t1 (.tup [.int r.p, L, .int r.e])) := Ex.new ht1
    have g1 : Rp K (L2.upd H t1 (.tup [.int r.p, L, .int r.e])) (.ref t1) (rtD r) := .tup (.of upd_same) (.cons (.int _) (.cons (a5.x f1) (.cons (.int _) .nil)))
    show tSeq _ _ _ _ (L2.upd H t1 _)
    generalize L2.upd H t1 (.tup [.int r.p, L, .int r.e]) = H1 at f1 g1 ⊢
    have b1' := slt_n (exN f1) b1
    refine ⟨.ref t1, rfl, .ref b, rfl, b, _, dy, _, ts, 2, _, rfl, b1', T.r_f.sc, T.r_s2, b4, .ref b, rfl, b, _, dy, _, ts, 1, _, rfl, b1', T.r_f.sc, T.r_s1, b3, .ref b, rfl, b, _, dy, _, ts, 0, _, rfl, b1', T.r_f.sc, T.r_s0, b2, by show 3 ≤ sizeLine; decide, fun t2 ht2 => ?_⟩
    have f2 : Ex H1 (L2.upd H1 t2 (.tup [.int r.p, M, .int r.e])) := Ex.new ht2
    have g2 : Rp K (L2.upd H1 t2 (.tup [.int r.p, M, .int r.e])) (.ref t2) (rtD r) := .tup (.of upd_same) (.cons (.int _) (.cons ((b5.x f1).x f2) (.cons (.int _) .nil)))
    refine ⟨rtD r, rtD r, Rp.dp _ _ (g1.x f2) hnd, Rp.dp _ _ g2 hnd, hsh, hsh, ?_⟩
    rw [heq]
    exact k _ (f1.trans f2)
end
end Lk
namespace Lk
open PySem PySem.Spec PyProof.Rows L2 Evl Lm TL LamX
/-! ### == of instances with slots, by their own == -/
def DSl (C : Addr) (R : Addr → Addr → Hp → Prop) : Eqv := fun x y H => ∃ a b dx dy ss ts, x = .ref a ∧ y = .ref b ∧ SlX.Slt H a C dx ss ∧ SlX.Slt H b C dy ts ∧ R a b H
section
variable {X : Cx} {n : Nat}
theorem mon_sl {C : Addr} {R : Addr → Addr → Hp → Prop} (hR : ∀ a b H H', Ext H H' → R a b H → R a b H') : Mon (DSl C R) := fun x y H H' e d => by
  obtain ⟨a, b, dx, dy, ss, ts, hx, hy, h1, h2, r⟩ := d
  exact ⟨a, b, dx, dy, ss, ts, hx, hy, slt_n (exN e) h1, slt_n (exN e) h2, hR a b H H' e r⟩
theorem rcG_sl {C f : Addr} {R : Addr → Addr → Hp → Prop} (F : FnR X.prog X.w X.K X.mg X.base CX0 n f (spEq R)) (hs : PySem.W.findIn X.K (.ref C) "__eq__" = some (some (.ref f))) (hf : PySem.W.isFn X.K (.ref f) = true) (hn : PySem.W.notFirst X.K C (.ref C) = true) : RcG X n (DSl C R) := by
  intro A pins s σ H x y u v sb I rx ry d
  obtain ⟨a, b, dx, dy, ss, ts, rfl, rfl, ha, hb', hr⟩ := d
  cases rx
  cases ry
  obtain ⟨_, od, _, J, _⟩ := SlX.slt_inst I ha
  obtain ⟨_, od', _, J', _⟩ := SlX.slt_inst I hb'
  obtain ⟨m, hF⟩ := I.fr
  refine PySem.W.cmp_K (op := .Eq) (tb := .ref C) sb.room.units0 hF I.ok.mod.kin J J'.type hn hs hf ?_
  have hsp : spEq R [.ref a, .ref b] H (fun v H' => v = .bl true ∧ Ext H H') (fun _ _ _ => False) := ⟨a, b, rfl, hr, fun H' e => ⟨rfl, e⟩⟩
  have e0 : Env0 X.prog X.w X.K X.mg X.base A X.stack s H := by
    have e := I.env0
    exact ⟨by rw [sb.fr]; exact e.frames, e.mod, e.bs, e.bsz, e.funs, e.frf, e.hok, e.bare⟩
  have r2 : Vals [V.ref a, V.ref b] [Value.ref a, Value.ref b] := .cons rfl (.cons rfl .nil)
  refine wpAny_call (codeAny_mono (F A X.stack s H [.ref a, .ref b] [.ref a, .ref b] _ _ sb.room e0 r2 hsp) fun r s' hq => ?_)
  cases r with
  | error e => exact (show False from hq).elim
  | ok fl =>
    cases fl with
    | ret w =>
      obtain ⟨z, H', I', rz, ez, ex⟩ := I.after hq
      subst ez
      cases rz
      exact ⟨rfl, H', I', ex⟩
    | next => exact False.elim hq
    | brk => exact False.elim hq
    | cont => exact False.elim hq
theorem eqG_sl {C f : Addr} {R : Addr → Addr → Hp → Prop} (F : FnR X.prog X.w X.K X.mg X.base CX0 n f (spEq R)) (hs : PySem.W.findIn X.K (.ref C) "__eq__" = some (some (.ref f))) (hf : PySem.W.isFn X.K (.ref f) = true) (hn : PySem.W.notFirst X.K C (.ref C) = true) : EqG X n (DSl C R) :=
  (rcG_sl F hs hf hn).eqG fun _ _ _ d => let ⟨a, b, _, _, _, _, hx, hy, _⟩ := d; ⟨a, b, hx, hy⟩
end
section
variable {P : Program} {w : World} {K : PySem.W.Frag} {mg : Str → Option Value} {base : Heap}
theorem REq.mon : ∀ a b H H', Ext H H' → REq K a b H → REq K a b H' := fun a b H H' e ⟨r, h1, h2, h3⟩ => ⟨r, h1.x e, h2.x e, h3⟩
theorem b_isL {X : Cx} {e : Expr} {es : List Expr} {t : TA} {p pos : Pos} (T : Txt X.K X.mg) (ha : PA X (e :: es) t) (hg : Gl X "isinstance" := by rfl) (he : starEach (e :: es) X.env = (false, eval e X.env) :: starEach es X.env := by rfl) (hpl : (backTo pos (starEach es X.env)).any (·.1) = false := by rfl) :
    PE X (.Call (.Name "isinstance" p) (e :: es) [] pos) (tCB (SlX.rIsiSl X.K (.ref (cL X.K))) t) := pe_callB (SlX.call_isiSl _) hg T.f_isinstance boot_isinstance ha (he := he) (hpl := hpl)
/-! ### Lot.__eq__ of two equal lots -/
def plainR (r : RD) : Prop := SeqAt.shaped (rtD r) = true ∧ PyData.eqv (rtD r) (rtD r) = true ∧ (rtD r).hasDict = false
def LEq (K : PySem.W.Frag) (a b : Addr) (H : Hp) : Prop := ∃ rs, LtAt K H (.ref a) rs ∧ LtAt K H (.ref b) rs ∧ ∀ r ∈ rs, plainR r
theorem sc32_8 : FnScope ["self", "other"] ["self", "other"] (defScope (mth 32 8)) := ⟨rfl, rfl, rfl, by decide +kernel, rfl, by decide +kernel, by decide +kernel⟩
theorem prs_of {H : Hp} : ∀ {rs : List RD} {us vs : List V}, Paired (fun r u => RdAt K H u r) rs us → Paired (fun r u => RdAt K H u r) rs vs → (∀ r ∈ rs, plainR r) → Prs (DSl (cR K) (REq K)) us vs H
  | _, _, _, .nil, .nil, _ => Prs.nil
  | _, _, _, .cons h1 t1, .cons h2 t2, hp => by
    refine Prs.cons ?_ (prs_of t1 t2 fun r hr => hp r (List.mem_cons_of_mem _ hr))
    obtain ⟨a, dx, ss, L, rfl, a1, _⟩ := h1.ex
    obtain ⟨b, dy, ts, M, rfl, b1, _⟩ := h2.ex
    exact ⟨a, b, dx, dy, ss, ts, rfl, rfl, a1, b1, _, h1, h2, hp _ List.mem_cons_self⟩
theorem ok_leq (T : Txt K mg) : FnR P w K mg base CX0 3 (He.ma K (cL K) "__eq__") (spEq (LEq K)) := by
  refine mkD T.l_eq.df sc32_8 (fun vs H Q E h => ?_) (fun _ _ _ _ _ _ us hl => match us, hl with | [_, _], _ => rfl) (fun cdv A outer s H vs Q E hr h => ?_)
  · obtain ⟨a, b, rfl, _⟩ := h
    rfl
  · obtain ⟨a, b, rfl, ⟨rs, ha, hb, hp⟩, k⟩ := h
    refine ⟨_, (pss_one (ps_ret (pe_and (b_isL T (pa_cons (pv 1) (pa_cons (pe_glob (v := .ref (cL K)) rfl T.g_Lot rfl) pa_nil))) (pe_one (pe_cmpR (op_eqG (rcG_tup (mon_sl REq.mon) (eqG_sl (ok_req T) T.r_eq.me.at_ T.r_eq.me.fn T.r_nf)) hr) (SlX.pe_sl (pv 0)) (SlX.pe_sl (pv 1)) (nomark _)))))), ?_⟩
    obtain ⟨a', dx, ss, t, us, e1, a1, a2, a3, a4⟩ := ha.ex
    cases e1
    obtain ⟨b', dy, ts, u, vs, e2, b1, b2, b3, b4⟩ := hb.ex
    cases e2
    refine ⟨.ref b, rfl, b, cL K, dy, ts, .ref (cL K), true, rfl, rfl, fun _ r => r, b1, T.l_f.sc, T.l_f.si, T.l_kl, true, rfl, itT ?_⟩
    exact ⟨.ref a, rfl, a, _, dx, _, ss, 0, _, rfl, a1, T.l_f.sc, T.l_s0, a2, .ref b, rfl, b, _, dy, _, ts, 0, _, rfl, b1, T.l_f.sc, T.l_s0, b2, ⟨t, u, us, vs, rfl, rfl, a3, b3, prs_of a4 b4 hp⟩, k⟩
end
end Lk
namespace Lk
open PySem PySem.Spec PyProof.Rows L2 Evl Lm TL LamX
/-- what more: Lot has no != of its own -/
structure Txt3 (K : PySem.W.Frag) : Prop where
  l_mo : PySem.W.mroIn K (cL K) (.type "object") = some true
  l_ne : PySem.W.findIn K (.ref (cL K)) "__ne__" = some (some (.builtin "object.__ne__"))
def rNeL (K : PySem.W.Frag) : R2 := fun x y H Q => DSl (cL K) (LEq K) x y H ∧ ∀ H', Ext H H' → Q (.bl false) H'
theorem op_neL {X : Cx} {j : Nat} (T : Txt X.K X.mg) (T3 : Txt3 X.K) (hr : Room j X.A) (hj : 4 ≤ j := by decide) : OpR X (compareOp .NotEq) (rNeL X.K) := by
  intro pins s σ H x y v u Q I rx ry hq
  obtain ⟨⟨a, b, dx, dy, ss, ts, rfl, rfl, ha, hb', hR⟩, q⟩ := hq
  cases rx
  cases ry
  obtain ⟨_, od, _, J, _⟩ := SlX.slt_inst I ha
  obtain ⟨_, od', _, J', _⟩ := SlX.slt_inst I hb'
  show wpAny (model X.prog X.w) X.A (richCompare .NotEq (.ref a) (.ref b)) (EP X pins σ Q) X.xe s
  refine PySem.W.lk_ne I.kIn J J' T3.l_mo T.l_eq.me.at_ T.l_eq.me.fn T3.l_ne (hu_of hr) ?_
  have r3 : Room 3 X.A.in1 := (hr.mono (j := 4) hj).in1
  have hsp : spEq (LEq X.K) [.ref a, .ref b] H (fun v H' => v = .bl true ∧ Ext H H') (fun _ _ _ => False) := ⟨a, b, rfl, hR, fun H' e => ⟨rfl, e⟩⟩
  have e0 : Env0 X.prog X.w X.K X.mg X.base X.A.in1 X.stack s H := by
    have e := I.env0
    exact ⟨e.frames, e.mod, e.bs, e.bsz, e.funs, e.frf, e.hok, e.bare⟩
  have r2 : Vals [V.ref a, V.ref b] [Value.ref a, Value.ref b] := .cons rfl (.cons rfl .nil)
  refine wpAny_call (codeAny_mono (ok_leq T X.A.in1 X.stack s H [.ref a, .ref b] [.ref a, .ref b] _ _ r3 e0 r2 hsp) fun r s' hq => ?_)
  cases r with
  | error e => exact (show False from hq).elim
  | ok fl =>
    cases fl with
    | ret w =>
      obtain ⟨z, H', I', rz, ez, ex⟩ := I.after hq
      subst ez
      cases rz
      exact ⟨true, rfl, .bl false, H', I', rfl, q H' ex⟩
    | next => exact False.elim hq
    | brk => exact False.elim hq
    | cont => exact False.elim hq
end Lk
namespace Lk
open PySem PySem.Spec PyProof.Rows L2 Evl Lm TL LamX
/-! ### the plain law: a chart's get is what setsS writes -/
def kvC (c : Nat × Str) : Key × V := (Sum.inl (c.1 : Int), .str c.2)
theorem chart_get {l : List Str} : ∀ (cs : List (Nat × Str)) (acc : List (Key × V)) (l' : List Str), l'.length = l.length →
    (∀ j (h : j < l.length) (h' : j < l'.length), ((valV acc (Sum.inl (j : Int))).getD (.str l[j])) = .str l'[j]) → (∀ c ∈ cs, c.1 < l.length) →
    ∀ j (h : j < l.length) (h' : j < (setsS l' cs).length), ((valV (mergeK acc (cs.map kvC)) (Sum.inl (j : Int))).getD (.str l[j])) = .str (setsS l' cs)[j] := by
  intro cs
  induction cs with
  | nil => intro acc l' _ h _ j h1 h2; exact h j h1 h2
  | cons c cs ih =>
    intro acc l' hl h hc j h1 h2
    refine ih (putK acc (Sum.inl (c.1 : Int)) (.str c.2)) (l'.set c.1 c.2) (by rw [List.length_set]; exact hl) (fun i g1 g2 => ?_) (fun d hd => hc d (List.mem_cons_of_mem _ hd)) j h1 h2
    have hcl := hc c List.mem_cons_self
    rw [List.getElem_set]
    by_cases e : c.1 = i
    · rw [if_pos e, valV_put, if_pos (by rw [e])]
      rfl
    · rw [if_neg e, valV_put, if_neg (fun z => e (by injection z with z; omega))]
      exact h i g1 (by rw [← hl] at g1; exact g1)
end Lk
namespace Lk
open PySem PySem.Spec PyProof.Rows L2 Evl Lm TL LamX
/-! ### a repr's letters -/
theorem charN (c : Char) : c.toNat < 1114112 := by
  have h := c.valid
  unfold UInt32.isValidChar Nat.isValidChar at h
  show c.val.toNat < _
  omega
theorem reprChar_hi {q c : Nat} (hq : q < 1114112) (hc : c < 1114112) : ∀ x ∈ Builtin.Str.reprChar q c, x < 1114112 := by
  have hex : ∀ w, ∀ x ∈ (List.replicate (w - ((Nat.toDigits 16 c).map Char.toNat).length) 48 ++ (Nat.toDigits 16 c).map Char.toNat), x < 1114112 := fun w x hx => by
    rcases List.mem_append.mp hx with hx | hx
    · rw [(List.mem_replicate.mp hx).2]; decide
    · obtain ⟨d, _, rfl⟩ := List.mem_map.mp hx
      exact charN d
  have two : ∀ a b : Nat, a < 1114112 → b < 1114112 → ∀ x ∈ [a, b], x < 1114112 := fun a b ha hb x hx => by
    rcases List.mem_cons.mp hx with rfl | hx
    · exact ha
    · rw [List.mem_singleton.mp hx]; exact hb
  intro x hx
  unfold Builtin.Str.reprChar at hx
  dsimp only at hx
  split at hx
  · exact two _ _ (by decide) hc x hx
  split at hx
  · exact two _ _ (by decide) (by decide) x hx
  split at hx
  · exact two _ _ (by decide) (by decide) x hx
  split at hx
  · exact two _ _ (by decide) (by decide) x hx
  split at hx
  · rw [List.mem_singleton.mp hx]; exact hc
  split at hx
  · rcases List.mem_append.mp hx with hx | hx
    · exact two _ _ (by decide) (by decide) x hx
    · exact hex 2 x hx
  split at hx
  · rcases List.mem_append.mp hx with hx | hx
    · exact two _ _ (by decide) (by decide) x hx
    · exact hex 4 x hx
  · rcases List.mem_append.mp hx with hx | hx
    · exact two _ _ (by decide) (by decide) x hx
    · exact hex 8 x hx
theorem foldl_repr_hi {q : Nat} (hq : q < 1114112) : ∀ (l : List Nat) (acc : Array Nat), (∀ c ∈ l, c < 1114112) → (∀ c ∈ acc.toList, c < 1114112) → ∀ x ∈ (l.foldl (fun out c => out ++ (Builtin.Str.reprChar q c).toArray) acc).toList, x < 1114112
  | [], acc, _, ha => ha
  | c :: r, acc, h, ha => by
    rw [List.foldl_cons]
    refine foldl_repr_hi hq r _ (fun d hd => h d (List.mem_cons_of_mem _ hd)) fun x hx => ?_
    rw [Array.toList_append] at hx
    rcases List.mem_append.mp hx with hx | hx
    · exact ha x hx
    · exact reprChar_hi hq (h c List.mem_cons_self) x hx
theorem reprText_hi {z : Str} (h : ∀ c ∈ z.cps.toList, c < 1114112) : ∀ c ∈ (reprText z).cps.toList, c < 1114112 := by
  have hq : PySem.reprQuote z < 1114112 := by
    unfold PySem.reprQuote
    split <;> decide
  intro c hc
  unfold reprText at hc
  have hc' : c ∈ ((z.cps.foldl (fun out c => out ++ (Builtin.Str.reprChar (PySem.reprQuote z) c).toArray) #[PySem.reprQuote z]).push (PySem.reprQuote z)).toList := hc
  rw [Array.toList_push, ← Array.foldl_toList] at hc'
  rcases List.mem_append.mp hc' with hc' | hc'
  · exact foldl_repr_hi hq _ _ h (fun x hx => by
      have : x = PySem.reprQuote z := by simpa using hx
      rw [this]; exact hq) c hc'
  · rw [List.mem_singleton.mp hc']; exact hq
end Lk
namespace Lk
open PySem PySem.Spec PyProof.Rows L2 Evl Lm TL LamX
/-! ### data whose repr is short -/
structure Nc (w dp : Nat) (d : PyData) : Prop where
  lay : d.canLay0 = true
  dep : d.depth ≤ dp
  wt : d.weight ≤ w
  sh : d.intsShort 13 = true
  si : d.showable = true
theorem Nc.mono {w w' dp dp' : Nat} {d : PyData} (h : Nc w dp d) (h1 : w ≤ w') (h2 : dp ≤ dp') : Nc w' dp' d := ⟨h.lay, Nat.le_trans h.dep h2, Nat.le_trans h.wt h1, h.sh, h.si⟩
theorem log_le {n : Nat} (h : n ≤ 1000) : n.log2 < 11 := by
  by_cases h0 : n = 0
  · subst h0; decide
  · have := (Nat.log2_lt h0).mpr (show n < 2 ^ 10 by omega)
    omega
theorem Nc.int {i : Int} (h : i.natAbs ≤ 1000) : Nc 12 0 (.int i) := by
  have hl := log_le h
  refine ⟨by simp only [PyData.canLay0], by simp only [PyData.depth]; omega, ?_, ?_, ?_⟩
  · simp only [PyData.weight]
    split <;> omega
  · simp only [PyData.intsShort, PyData.shown]
    refine decide_eq_true ?_
    have := num_len (i := i) (k := 4) (by decide) (by omega)
    exact Nat.le_trans this (show 4 + 1 ≤ 13 by decide)
  · simp only [PyData.showable, decide_eq_true_eq]
    omega
theorem Nc.str {z : Str} {w : Nat} (h : z.length ≤ w) (hc : ∀ c ∈ z.cps.toList, c < 1114112) : Nc w 0 (.str z) := by
  refine ⟨?_, by simp only [PyData.depth]; omega, ?_, by simp only [PyData.intsShort], by simp only [PyData.showable]⟩
  · simp only [PyData.canLay0, PyData.strOk]
    rw [Array.all_eq_true_iff_forall_mem]
    intro c hm
    have := hc c (Array.mem_toList_iff.mpr hm)
    simpa using this
  · simp only [PyData.weight]
    exact h
theorem nc_all {w dp : Nat} : ∀ {ds : List PyData}, (∀ d ∈ ds, Nc w dp d) → PyData.canLayAll0 ds = true ∧ PyData.depthAll ds ≤ dp ∧ PyData.weightAll ds ≤ ds.length * (w + 1) ∧ PyData.intsShortAll 13 ds = true ∧ PyData.showableAll ds = true
  | [], _ => ⟨by simp only [PyData.canLayAll0], by simp only [PyData.depthAll]; omega, by simp only [PyData.weightAll]; omega, by simp only [PyData.intsShortAll], by simp only [PyData.showableAll]⟩
  | d :: ds, h => by
    obtain ⟨a1, a2, a3, a4, a5⟩ := nc_all (ds := ds) fun e he => h e (List.mem_cons_of_mem _ he)
    have b := h d List.mem_cons_self
    refine ⟨by simp only [PyData.canLayAll0, b.lay, a1, Bool.and_self], ?_, ?_, by simp only [PyData.intsShortAll, b.sh, a4, Bool.and_self], by simp only [PyData.showableAll, b.si, a5, Bool.and_self]⟩
    · simp only [PyData.depthAll]
      have := b.dep
      omega
    · simp only [PyData.weightAll, List.length_cons]
      have := b.wt
      rw [Nat.add_mul, Nat.one_mul]
      omega
theorem Nc.list {w dp : Nat} {ds : List PyData} (h : ∀ d ∈ ds, Nc w dp d) : Nc (ds.length * (w + 1)) (dp + 1) (.list ds) := by
  obtain ⟨a1, a2, a3, a4, a5⟩ := nc_all h
  exact ⟨by simpa only [PyData.canLay0] using a1, by simp only [PyData.depth]; omega, by simpa only [PyData.weight] using a3, by simpa only [PyData.intsShort] using a4, by simpa only [PyData.showable] using a5⟩
theorem Nc.tup {w dp : Nat} {ds : List PyData} (h : ∀ d ∈ ds, Nc w dp d) : Nc (ds.length * (w + 1)) (dp + 1) (.tuple ds) := by
  obtain ⟨a1, a2, a3, a4, a5⟩ := nc_all h
  exact ⟨by simpa only [PyData.canLay0] using a1, by simp only [PyData.depth]; omega, by simpa only [PyData.weight] using a3, by simpa only [PyData.intsShort] using a4, by simpa only [PyData.showable] using a5⟩
theorem Nc.rep {w dp : Nat} {d : PyData} (h : Nc w dp d) (hw : w ≤ 1048576) (hd : dp ≤ 20) : d.hasDict = false ∧ d.showable = true ∧ d.depth ≤ 20 ∧ d.shown.length ≤ sizeLine := by
  have h1 : PyData.layable0 d = true := by
    unfold PyData.layable0
    rw [h.lay, Bool.true_and, Bool.and_eq_true]
    exact ⟨decide_eq_true (Nat.le_trans h.dep (by omega)), decide_eq_true (Nat.le_trans h.wt (by omega))⟩
  refine ⟨PyData.hasDict_of_canLay d h.lay, h.si, Nat.le_trans h.dep hd, Nat.le_trans (shown_le13 h1 h.sh) (by decide)⟩
end Lk
namespace Lk
open PySem PySem.Spec PyProof.Rows L2 Evl Lm TL LamX
/-! ### what _law_right is due -/
def ansD : Out → PyData
  | .back rs => .list [.str "back", crD rs]
  | .chg o => srD "InvalidChanges" (oDn o).shown
  | .txt z => srD "InvalidText" (PyData.str z).shown
theorem readLot_ok {z : Str} {rs : List RD} (h : readLot z = some rs) : rs ≠ [] ∧ rs.length ≤ 4 ∧ (∀ r ∈ rs, fitsR r = true) ∧ ∀ r ∈ rs, Valid r := by
  have e : readLot z = if okLot ((Txt.split z "\n").map readR) = true then some (((Txt.split z "\n").map readR).filterMap id) else none := rfl
  rw [e] at h
  have hne : Txt.split z "\n" ≠ [] := by rw [nl_sep]; exact split_ne (by decide) z
  have hv : ∀ r, some r ∈ (Txt.split z "\n").map readR → Valid r := fun r hr => by
    obtain ⟨s, _, hs⟩ := List.mem_map.mp hr
    exact readR_valid hs
  have hos : (Txt.split z "\n").map readR ≠ [] := by simpa using hne
  generalize (Txt.split z "\n").map readR = os at h hv hos
  by_cases hok : okLot os = true
  · rw [if_pos hok] at h
    have hs := okLot_some hok
    have h2 : os.filterMap id = rs := Option.some.inj h
    rw [h2] at hs
    subst hs
    refine ⟨by simpa using hos, by have := okLot_few hok; simpa using this, fun r hr => ?_, fun r hr => hv r (List.mem_map_of_mem hr)⟩
    unfold okLot at hok
    have h3 := List.all_eq_true.mp (Bool.and_eq_true_iff.mp hok).2 (some r) (List.mem_map_of_mem hr)
    cases h0 : (rs.map some)[0]? with
    | none => rw [h0] at h3; cases h3
    | some y =>
      rw [h0] at h3
      cases y with
      | none => cases h3
      | some r0 => exact (Bool.and_eq_true_iff.mp h3).1
  · rw [if_neg hok] at h; cases h
theorem okL_lv {p : Int} {ls : List (Int × Int)} (h : okL p (ls.map some) = true) : ∀ a ∈ ls, 0 < a.2 ∧ a.2 < p := by
  intro a ha
  obtain ⟨i, hi, e⟩ := List.mem_iff_getElem.mp ha
  unfold okL at h
  have h1 := List.all_eq_true.mp h i (List.mem_range.mpr (by simpa using hi))
  unfold goodAt at h1
  rw [List.getElem?_map, List.getElem?_eq_getElem hi, e] at h1
  obtain ⟨a1, a2⟩ := a
  simp only [Option.map_some, Bool.and_eq_true, decide_eq_true_eq] at h1
  exact ⟨h1.1.1, h1.1.2⟩
theorem nc_rd {r : RD} (hv : Valid r) (hf : fitsR r = true) : Nc 32403 3 (rdD r) := by
  obtain ⟨hp2, hp7⟩ := lev_le hv.lev
  unfold fitsR at hf
  rw [Bool.and_eq_true, decide_eq_true_eq, List.all_eq_true] at hf
  obtain ⟨he, hl⟩ := hf
  have hlv := okL_lv hv.ok
  have h1 : ∀ d ∈ r.ls.map fun a => lampD (some a), Nc 26 1 d := fun d hd => by
    obtain ⟨a, ha, rfl⟩ := List.mem_map.mp hd
    obtain ⟨l1, l2⟩ := hlv a ha
    have l3 := of_decide_eq_true (hl a ha)
    show Nc 26 1 (.tuple [.int a.1, .int a.2])
    refine Nc.tup (w := 12) (dp := 0) (ds := [.int a.1, .int a.2]) fun d hd => ?_
    simp only [List.mem_cons, List.not_mem_nil, or_false] at hd
    rcases hd with rfl | rfl
    · exact .int (by omega)
    · exact .int (by omega)
  have h2 : Nc 10800 2 (lampsD r.ls) := by
    refine (Nc.tup h1).mono ?_ (Nat.le_refl _)
    rw [List.length_map]
    exact Nat.mul_le_mul_right 27 hv.few
  show Nc (3 * 10801) 3 (.list [.int r.p, lampsD r.ls, .int r.e])
  refine Nc.list (w := 10800) (dp := 2) (ds := [.int r.p, lampsD r.ls, .int r.e]) fun d hd => ?_
  simp only [List.mem_cons, List.not_mem_nil, or_false] at hd
  rcases hd with rfl | rfl | rfl
  · exact (Nc.int (by omega)).mono (by decide) (by decide)
  · exact h2
  · exact (Nc.int (by omega)).mono (by decide) (by decide)
theorem nc_cr {rs : List RD} (h4 : rs.length ≤ 4) (hf : ∀ r ∈ rs, fitsR r = true) (hv : ∀ r ∈ rs, Valid r) : Nc 129616 4 (crD rs) := by
  refine (Nc.list (w := 32403) (dp := 3) (ds := rs.map rdD) fun d hd => ?_).mono ?_ (Nat.le_refl _)
  · obtain ⟨r, hr, rfl⟩ := List.mem_map.mp hd
    exact nc_rd (hv r hr) (hf r hr)
  · rw [List.length_map]
    exact Nat.mul_le_mul_right 32404 h4
theorem nc2 {w dp : Nat} {a b : PyData} (ha : Nc w dp a) (hb : Nc w dp b) : Nc (2 * (w + 1)) (dp + 1) (.list [a, b]) := Nc.list (ds := [a, b]) fun d hd => by
  simp only [List.mem_cons, List.not_mem_nil, or_false] at hd
  rcases hd with rfl | rfl
  · exact ha
  · exact hb
/-- texts that are short and of plain letters -/
def Sh (n : Nat) (z : Str) : Prop := z.length ≤ n ∧ ∀ c ∈ tl z, c < 1114112
theorem joinL_all {P : Nat → Prop} {S : List Nat} (hS : ∀ c ∈ S, P c) : ∀ ws : List (List Nat), (∀ w ∈ ws, ∀ c ∈ w, P c) → ∀ c ∈ joinL S ws, P c := by
  intro ws
  induction ws with
  | nil => intro _ c h; cases h
  | cons w ws ih =>
    intro hw c hc
    cases ws with
    | nil => exact hw w List.mem_cons_self c hc
    | cons w2 ws =>
      rw [joinL_cons _ _ (by simp)] at hc
      rcases List.mem_append.mp hc with hc | hc
      · exact hw w List.mem_cons_self c hc
      · rcases List.mem_append.mp hc with hc | hc
        · exact hS c hc
        · exact ih (fun z hz => hw z (List.mem_cons_of_mem _ hz)) c hc
theorem cText_sh {rs : List RD} {cs : List (Nat × Str)} (hsm : ∀ r ∈ rs, Small r) (hn : rs.length ≤ 4) (hc : ∀ c ∈ cs, okZ c.2 = true) : Sh 2004 (cText rs cs) := by
  have h1 : ∀ x ∈ setsS (rs.map sheetS) cs, Sh 500 x := setsS_mem (P := Sh 500) cs _ (fun x hx => by
    obtain ⟨r, hr, rfl⟩ := List.mem_map.mp hx
    exact ⟨Nat.le_trans (sheetS_len (hsm r hr)) (by decide), fun c hc => sheet_hi r hc⟩) fun c hcc => ⟨okZ_len (hc c hcc), fun d hd => okZ_mem (hc c hcc) hd⟩
  have hl : (setsS (rs.map sheetS) cs).length ≤ 4 := by rw [setsS_len, List.length_map]; exact hn
  unfold cText
  generalize setsS (rs.map sheetS) cs = ls at h1 hl
  have hf := List.length_filter_le (fun b => !decide (V.str b = V.str "")) ls
  have h2 : ∀ x ∈ ls.filter (fun b => !decide (V.str b = V.str "")), Sh 500 x := fun x hx => h1 x (List.mem_filter.mp hx).1
  generalize ls.filter (fun b => !decide (V.str b = V.str "")) = fs at h2 hf
  have hj := join_len ("\n" : Str) fs
  have c1 : ("\n" : Str).length = 1 := by decide +kernel
  have hs := sum_le fun x hx => (h2 x hx).1
  rw [c1] at hj
  refine ⟨?_, fun c hc => ?_⟩
  · have : fs.length * 500 ≤ 4 * 500 := Nat.mul_le_mul_right _ (by omega)
    omega
  · rw [join_eq, tl_join, nl_sep, tl_sep] at hc
    refine joinL_all (P := fun c => c < 1114112) (fun c hc => ?_) _ (fun w hw => ?_) c hc
    · rw [List.mem_singleton.mp hc]; decide
    · obtain ⟨z, hz, rfl⟩ := List.mem_map.mp hw
      exact (h2 z hz).2
theorem sh_repr {z : Str} (h : Sh 2004 z) : (reprText z).length ≤ 20042 ∧ ∀ c ∈ (reprText z).cps.toList, c < 1114112 := by
  have h2 : ∀ c ∈ z.cps.toList, c < 1114112 := h.2
  have := StrLaws.reprText_len z fun c hc => Nat.lt_trans (h2 c hc) (by decide)
  have := h.1
  exact ⟨by omega, reprText_hi h2⟩
theorem oDn_sh (o : Option Nat) (ho : ∀ i, o = some i → i ≤ 1000) : (oDn o).shown.length ≤ 5 ∧ ∀ c ∈ (oDn o).shown.cps.toList, c < 1114112 := by
  cases o with
  | none => exact ⟨by decide +kernel, by decide +kernel⟩
  | some i =>
    have h1 : (oDn (some i)).shown = numS (i : Int) := rfl
    have := num_len (i := (i : Int)) (k := 4) (by decide) (by have := ho i rfl; omega)
    rw [h1]
    refine ⟨this, fun c hc => ?_⟩
    by_cases hlt : c < 1114112
    · exact hlt
    · exact absurd hc (num_free (by omega) (.inr (by omega)) _)
/-- what is asked of an answer -/
def okO : Out → Prop
  | .back rs => rs.length ≤ 4 ∧ (∀ r ∈ rs, fitsR r = true) ∧ ∀ r ∈ rs, Valid r
  | .chg o => ∀ i, o = some i → i ≤ 1000
  | .txt z => Sh 2004 z
theorem nc_ans {o : Out} (h : okO o) : Nc 259234 5 (ansD o) := by
  cases o with
  | back rs => exact (nc2 ((Nc.str (w := 129616) (by decide) (by decide)).mono (Nat.le_refl _) (Nat.zero_le 4)) (nc_cr h.1 h.2.1 h.2.2)).mono (by decide) (by decide)
  | chg o =>
    obtain ⟨h1, h2⟩ := oDn_sh o h
    exact (nc2 (Nc.str (w := 129616) (by decide) (by decide)) (Nc.str (by omega) h2)).mono (by decide) (by decide)
  | txt z =>
    obtain ⟨h1, h2⟩ := sh_repr h
    exact (nc2 (Nc.str (w := 129616) (by decide) (by decide)) (Nc.str (z := reprText z) (by omega) h2)).mono (by decide) (by decide)
theorem wrongI_lt {n : Nat} {ds : List PyData} {i : Nat} (h : wrongI n ds = some i) : i < ds.length := by
  unfold wrongI at h
  exact List.mem_range.mp (List.mem_of_find?_eq_some h)
/-- the change is data of depth, texts short -/
theorem okD_csOf {n m k : Nat} {ds : List PyData} (h : okD (n + 2) m (.tuple ds)) (hw : ∀ d ∈ ds, chOk1 k d = true) : ∀ c ∈ csOf ds, okZ c.2 = true := by
  intro c hc
  obtain ⟨_, _, hm⟩ := (csOf_eq hw).2 c hc
  have h1 := ((h.2 ds rfl).2 _ hm).2 _ rfl
  exact okD_str (h1.2 _ (List.mem_cons_of_mem _ List.mem_cons_self))
theorem okO_out {rs : List RD} {d : PyData} (hd : okD 6 9 d) (hsm : ∀ r ∈ rs, Small r) (hn : rs.length ≤ 4) : okO (outC rs d) := by
  cases d with
  | tuple ds =>
    show okO (match wrongI rs.length ds with | some i => .chg (some i) | none => outT (cText rs (csOf ds)))
    have hl := (hd.2 ds rfl).1
    cases hw : wrongI rs.length ds with
    | some i =>
      have := wrongI_lt hw
      exact fun j hj => by cases hj; omega
    | none =>
      show okO (outT (cText rs (csOf ds)))
      have hsh := cText_sh hsm hn (okD_csOf (n := 4) hd (wrongI_none hw))
      unfold outT
      cases hz : readLot (cText rs (csOf ds)) with
      | none => exact hsh
      | some rs' =>
        obtain ⟨_, a, b, c⟩ := readLot_ok hz
        exact ⟨a, b, c⟩
  | _ => exact fun j hj => nomatch hj
theorem okD_shortD {d : PyData} (hd : okD 6 9 d) : shortD d := fun ds e => by
  subst e
  have h1 := hd.2 ds rfl
  refine ⟨Nat.le_trans h1.1 (by decide), fun c hc => ?_⟩
  have h2 := (h1.2 _ hc).2 _ rfl
  exact okZ_len (okD_str (h2.2 _ (List.mem_cons_of_mem _ List.mem_cons_self)))
end Lk
namespace Lk
open PySem PySem.Spec PyProof.Rows L2 Evl Lm TL LamX
/-! ### _law_right: what is due where no change is wrong -/
theorem boot_dict9 : bootBuiltins "dict" = some (.type "dict") := by decide +kernel
theorem b_dictT {X : Cx} {e : Expr} {es : List Expr} {t : TA} {p pos : Pos} (T : Txt X.K X.mg) (ha : PA X (e :: es) t) (hc : X.calm = true := by rfl) (hg : Gl X "dict" := by rfl) (he : starEach (e :: es) X.env = (false, eval e X.env) :: starEach es X.env := by rfl) (hpl : (backTo pos (starEach es X.env)).any (·.1) = false := by rfl) :
    PE X (.Call (.Name "dict" p) (e :: es) [] pos) (tCB (rDictT X.K) t) := pe_callTy (call_dictT hc) hg T.f_dict boot_dict9 ha (he := he) (hpl := hpl)
abbrev N67 : List Str := ["_law_pail", "_law_turn", "_law_crowd_here", "_law_mine", "_law_value", "_law_wrong", "_law_due", "_law_chart", "_law_lines", "_law_parts_here", "_law_later", "_law_at", "_law_said", "_law_each", "_law_got"]
theorem sc67 : FnScope N67 ["_law_pail"] (defScope (top 67)) := ⟨rfl, rfl, rfl, by decide +kernel, rfl, by decide +kernel, by decide +kernel⟩
def lp67 : List Stmt := match defBody (top 67) with
  | .For _ _ b _ _ :: _ => b
  | _ => []
def st67 (i : Nat) : Stmt := lp67.getD i (.Pass ⟨0, 0, 0, 0⟩)
abbrev X67 (P : Program) (w : World) (K : PySem.W.Frag) (mg : Str → Option Value) (base : Heap) (f c : Addr) (A : Around) (outer : List Env) (s : Shared) (H : Hp) (E : XK) : Cx := (cxOf CX0 P w K mg base N67 "_law_right" (defScope (top 67)) f (.ref c) A outer s H E).nox
theorem chPairs {K : PySem.W.Frag} {H : Hp} : ∀ {cs : List (Nat × Str)} {us : List V}, RpA K H us (cs.map chD) → ∃ ps : List Addr, us = ps.map V.ref ∧ Paired (fun p (kv : Key × V) => SqT K H p [kV kv.1, kv.2]) ps (cs.map kvC)
  | [], _, h => by cases h; exact ⟨[], rfl, .nil⟩
  | c :: cs, _, h => by
    cases h with
    | cons h1 t =>
      obtain ⟨p, rfl, hp⟩ := h1.chE
      obtain ⟨ps, rfl, r⟩ := chPairs t
      exact ⟨p :: ps, rfl, .cons hp r⟩
theorem wcL_nil {n : Nat} {d : PyData} (h : wcL n d = []) : ∃ ds, d = .tuple ds ∧ wrongI n ds = none := by
  cases d with
  | tuple ds =>
    refine ⟨ds, rfl, ?_⟩
    have h : (match wrongI n ds with | some i => [V.int (i : Int)] | none => []) = [] := h
    cases hw : wrongI n ds with
    | none => rfl
    | some i => rw [hw] at h; cases h
  | _ => cases h
/-- the state within the loop -/
def S67 (pl ca lw : Addr) (tn mine : Option V) (v due : V) (u7 u8 u10 u12 u14 : Option V) : L2.St := [some (.ref pl), tn, some (.ref ca), mine, some v, some (.ref lw), some due, u7, u8, none, u10, none, u12, none, u14]
def tIfR (K : PySem.W.Frag) : TS := fun D σ H => ∃ pl ca lw tn mine v due u7 u8 u10 u12 u14, σ = S67 pl ca lw tn mine v due u7 u8 u10 u12 u14 ∧ ∃ rs d, Rp K H (.ref ca) (crD rs) ∧ ValidL rs ∧ (∀ r ∈ rs, Small r) ∧ SqL K H lw (wcL rs.length d) ∧ Rp K H v d ∧ okD 6 9 d ∧ ND H v ∧
  (wcL rs.length d ≠ [] → Rp K H due (ansD (outC rs d))) ∧ ∀ due' u7' u8' u10' u12' H', Ex H H' → Rp K H' due' (ansD (outC rs d)) → D.nx (S67 pl ca lw tn mine v due' u7' u8' u10' u12' u14) H'
theorem ifR {P : Program} {w : World} {K : PySem.W.Frag} {mg : Str → Option Value} {base : Heap} {f c : Addr} {A : Around} {outer : List Env} {s : Shared} {H0 : Hp} {E : XK} (T : Txt K mg)
    (hr : Room 11 (A.deeper (envOfC "_law_right" (defScope (top 67)) s.heap.objs.size f (.ref c)))) : PS (X67 P w K mg base f c A outer s H0 E) (st67 4) (tIfR K) := by
  have hu1 : (A.deeper (envOfC "_law_right" (defScope (top 67)) s.heap.objs.size f (.ref c))).units + 1 < cLine := by have := hr.un; omega
  have main : ∃ t, PS (X67 P w K mg base f c A outer s H0 E) (st67 4) t ∧ ∀ D σ H, tIfR K D σ H → t D σ H := by
    refine ⟨_, (ps_if (pt_cmpR (op_eqE hr.units0) (pv 5) (pe_lst pa_nil) (nomark _))
    (pss_cons (ps_asg (pe_tup (pa_cons (b_dictT T (pa_cons (pv 4) pa_nil)) (pa_cons (pe_lc (own := [("_law_parts_here", 9)]) rfl sc67.nd (pi_list (pv 2)) (blkOk_by (N := N67) (sc := defScope (top 67)) (by decide +kernel)) (fun _ _ _ _ _ => (pg_name (i := 9) sc67.nd rfl (.inl rfl))) (fun _ _ _ _ _ => pts_nil) (fun _ _ _ _ _ => (pe_d T.d__law_sheet (ok__law_sheet T) hr (pa_cons (pv 9) pa_nil)))) pa_nil))) (pg_tup rfl (pgs_cons (pg_name (i := 7) sc67.nd rfl (.inr rfl)) (pgs_cons (pg_name (i := 8) sc67.nd rfl (.inr rfl)) pgs_nil))))
      (pss_cons (ps_setLc (i := 10) rfl sc67.nd rfl rfl (sw_true rfl rfl rfl (by decide +kernel)) (own := [("_law_at", 11)]) (te := tDGet2 (tVar 7) (tVar 11) (tOp (rIxL K) (tVar 8) (tVar 11))) (pi_range1 rfl T.f_range (pa_cons (b_len T (pa_cons (pv 8) pa_nil)) pa_nil)) (blkOk_by (N := N67) (sc := defScope (top 67)) (by decide +kernel)) (fun _ _ _ _ _ => (pg_name (i := 11) sc67.nd rfl (.inl rfl))) (fun _ _ _ _ _ => pts_nil) (fun _ _ _ _ _ => (pe_dget2 hu1 (pv 7) (pv 11) (pe_ix ix_list (pv 8) (pv 11) (fun _ _ => rfl)) ⟨rfl, rfl, rfl, rfl⟩)))
      (pss_cons (ps_set (i := 12) sc67.nd rfl (.inl rfl) (pe_join pe_str (pe_lc (own := [("_law_each", 13)]) rfl sc67.nd (pi_list (pv 10)) (blkOk_by (N := N67) (sc := defScope (top 67)) (by decide +kernel)) (fun _ _ _ _ _ => (pg_name (i := 13) sc67.nd rfl (.inl rfl))) (fun _ _ _ _ _ => (pts_one (pt_cmpR op_ne (pv 13) pe_str (nomark _)))) (fun _ _ _ _ _ => (pv 13)))))
      (pss_one (ps_set (i := 6) sc67.nd rfl (.inl rfl) (pe_ifExp (pt_cmpR (op_neE hr.units0) (pe_d T.d__law_lot_read (ok__law_lot_read T) hr (pa_cons (pv 12) pa_nil)) (pe_lst pa_nil) (nomark _)) (pe_lst (pa_cons pe_str (pa_cons (pe_d T.d__law_lot_read (ok__law_lot_read T) hr (pa_cons (pv 12) pa_nil)) pa_nil))) (pe_lst (pa_cons pe_str (pa_cons (b_repS T (pa_cons (pv 12) pa_nil)) pa_nil)))))))))
    pss_nil), ?_⟩
    rintro D σ H ⟨pl, ca, lw, tn, mine, v, due, u7, u8, u10, u12, u14, rfl, rs, d, hcr, hva, hsm, hlw, hv, hd, hnd, hdue, k⟩
    refine ⟨.ref lw, rfl, by show 0 ≤ sizeLine; decide, fun l0 hl0 => ?_⟩
    have e0 : Ex H (L2.upd H l0 (.lst [])) := Ex.new hl0
    have k0 : L2.upd H l0 (.lst []) l0 = _ := upd_same
    generalize L2.upd H l0 (.lst []) = H1 at e0 k0 ⊢
    refine ⟨lw, l0, _, rfl, rfl, .inl ⟨ex_l e0 hlw, .of k0⟩, _, rfl, ite_b (fun hw => ?_) (fun hw => ?_)⟩
    · have hw : wcL rs.length d = [] := by simpa using hw
      obtain ⟨ds, rfl, hwi⟩ := wcL_nil hw
      have hch := wrongI_none hwi
      obtain ⟨hds, hcs⟩ := csOf_eq hch
      have hok := okD_csOf (n := 4) hd hch
      have eO : outC rs (.tuple ds) = outT (cText rs (csOf ds)) := by
        show (match wrongI rs.length ds with | some i => Out.chg (some i) | none => outT (cText rs (csOf ds))) = _
        rw [hwi]
      rw [eO] at k
      have hcl : (csOf ds).length ≤ 9 := by
        have h1 := (hd.2 ds rfl).1
        have h2 : ds.length = (csOf ds).length := by
          have := congrArg List.length hds
          rwa [List.length_map] at this
        omega
      rw [hds] at hv
      generalize csOf ds = cs at hv hcs hok hcl k
      have hsh := cText_sh hsm hva.few hok
      obtain ⟨hs1, hs2, hs3⟩ := cText_split hsm hva.few (cs := cs) fun x hx => ⟨(hcs x hx).2.1, okZ_len (hok x hx)⟩
      obtain ⟨va, us, rfl, hvs, hvr⟩ := hv.tupE
      obtain ⟨ps, rfl, hps⟩ := chPairs hvr
      have hps1 : Paired (fun p (kv : Key × V) => SqT K H1 p [kV kv.1, kv.2]) ps (cs.map kvC) := hps.mono fun _ _ z => ex_t e0 z
      refine ⟨.ref va, rfl, va, ps, cs.map kvC, rfl, hnd.x e0, ex_t e0 hvs, hps1, fun dA hdA => ?_⟩
      have e1 : Ex H1 (L2.upd H1 dA (.dK (mergeK [] (cs.map kvC)))) := Ex.new hdA
      have k1 : L2.upd H1 dA (.dK (mergeK [] (cs.map kvC))) dA = _ := upd_same
      generalize L2.upd H1 dA (.dK (mergeK [] (cs.map kvC))) = H2 at e1 k1 ⊢
      have e01 := e0.trans e1
      obtain ⟨a, cu, eca, hs, ha⟩ := hcr.lstE
      cases eca
      have hlen : cu.length = rs.length := by rw [ha.len, List.length_map]
      have hn := hva.few
      refine ⟨.ref ca, rfl, ca, rfl, ⟨cu, ex_l e01 hs⟩, fun D1 hD1 => lcL (xs := cu) rs (fun _ => true) (fun r y _ => y = .str (sheetS r)) (fun _ _ _ _ _ h => h) (ex_l e01 hs) hlen.symm (by omega) hD1 (fun i b x H3 R1 R0 hb hx e3 hac r1 r0 => ?_) (fun H3 ys e3 hD3 hly hpr => ?_)⟩
      · obtain ⟨b', hb', hxv⟩ := ha.getM hx
        rw [hb] at hb'
        cases hb'
        exact ⟨rfl, x, rfl, x, b, rfl, hxv.x (e01.trans e3), hsm b (List.mem_of_getElem? hb), fun H4 e4 => r1 rfl _ _ e4 rfl⟩
      rw [filter_T] at hpr
      have hy := paired_map hpr
      have hy2 : ys = (rs.map sheetS).map V.str := by rw [hy, List.map_map]; rfl
      subst hy2
      refine ⟨by show 2 ≤ sizeLine; decide, fun q hq => ?_⟩
      have eq : Ex H3 (L2.upd H3 q (.tup [.ref dA, .ref D1])) := Ex.new hq
      have kq : SqT K (L2.upd H3 q (.tup [.ref dA, .ref D1])) q [.ref dA, .ref D1] := .of upd_same
      have k13 := eq _ _ (e3 _ _ k1)
      replace hD3 := eq _ _ hD3
      have e03 := (e01.trans e3).trans eq
      generalize L2.upd H3 q (.tup [.ref dA, .ref D1]) = H3' at kq k13 hD3 e03 ⊢
      clear eq hq e3 hpr
      refine ⟨q, _, rfl, kq, rfl, .ref dA, [.ref D1], rfl, .ref D1, [], rfl, rfl, ?_⟩
      refine ⟨.ref D1, rfl, .ref D1, rs.length, rfl, .inl ⟨_, .of hD3, by rw [List.length_map, List.length_map]⟩, rs.length, rfl, by omega, by omega, ?_⟩
      rw [Int.toNat_natCast]
      have hll : (setsS (rs.map sheetS) cs).length = rs.length := by rw [setsS_len, List.length_map]
      refine fun D2 hD2 => lcR (lo := 0) (n := rs.length) (setsS (rs.map sheetS) cs) (fun _ => true) (fun z y _ => y = .str z) (fun _ _ _ _ _ h => h) hll (by omega) hD2 (fun i b H4 R1 R0 hb hi e4 hac r1 r0 => ?_) (fun H4 ys e4 hD4 hly hpr => ?_)
      · have k4 := e4 _ _ k13
        have kD4 := e4 _ _ hD3
        obtain ⟨hib, hbe⟩ := List.getElem?_eq_some_iff.mp hb
        have hil : i < (rs.map sheetS).length := by rw [List.length_map]; exact hi
        have hg := chart_get (l := rs.map sheetS) cs [] (rs.map sheetS) rfl (fun j h h' => rfl) (fun x hx => by rw [List.length_map]; exact (hcs x hx).1) i hil hib
        rw [hbe] at hg
        refine ⟨rfl, .ref dA, rfl, dA, rfl, .inl ⟨_, .inl k4⟩, .int (0 + (i : Int)), rfl, .ref D1, rfl, .int (0 + (i : Int)), rfl, D1, _, 0 + (i : Int), .str (rs.map sheetS)[i], rfl, rfl, .of kD4, ?_, _, DGet.k (k := Sum.inl (0 + (i : Int))) k4, ?_⟩
        · rw [Int.zero_add]
          exact atI_nat (by rw [List.getElem?_map, List.getElem?_eq_getElem hil]; rfl)
        · rw [Int.zero_add, hg]
          exact r1 rfl _ _ (.refl _) rfl
      rw [filter_T] at hpr
      have hy3 : ys = (setsS (rs.map sheetS) cs).map V.str := paired_map hpr
      subst hy3
      have e04 := e03.trans e4
      refine ⟨⟨"\n", rfl⟩, .ref D2, rfl, D2, rfl, ⟨_, .of hD4⟩, fun D3 hD3' => lcL (xs := (setsS (rs.map sheetS) cs).map V.str) (setsS (rs.map sheetS) cs) (fun b => !decide (V.str b = V.str "")) (fun z y _ => y = .str z) (fun _ _ _ _ _ h => h) (.of hD4) (by rw [List.length_map]) (by rw [List.length_map]; omega) hD3' (fun i b x H5 R1 R0 hb hx e5 hac r1 r0 => ?_) (fun H5 ys e5 hD5 hly hpr => ?_)⟩
      · cases getM_str hb hx
        exact ⟨rfl, .str b, rfl, rfl, _, rfl, ite_b (fun h => ⟨.str b, rfl, r1 h _ _ (.refl _) rfl⟩) (fun h => r0 h _ (.refl _))⟩
      have hy5 := paired_map hpr
      subst hy5
      have e05 := e04.trans e5
      have hmx : ∀ x ∈ setsS (rs.map sheetS) cs, x.length ≤ 500 := setsS_mem cs _ (fun x hx => by
        obtain ⟨r, hr, rfl⟩ := List.mem_map.mp hx
        exact Nat.le_trans (sheetS_len (hsm r hr)) (by decide)) fun c hc => okZ_len (hok c hc)
      have hlf : ((setsS (rs.map sheetS) cs).filter fun b => !decide (V.str b = V.str "")).length ≤ 4 := Nat.le_trans (List.length_filter_le _ _) (by omega)
      have hsz := sum_le (l := (setsS (rs.map sheetS) cs).filter fun b => !decide (V.str b = V.str "")) (n := 500) fun x hx => hmx x (List.mem_filter.mp hx).1
      refine ⟨"\n", D3, _, rfl, rfl, .inl (.of hD5), ?_, ?_⟩
      · have c1 : ("\n" : Str).length = 1 := by decide +kernel
        rw [c1]
        have : ((setsS (rs.map sheetS) cs).filter fun b => !decide (V.str b = V.str "")).length * 500 ≤ 4 * 500 := Nat.mul_le_mul_right _ hlf
        omega
      have eT : Txt.join "\n" ((setsS (rs.map sheetS) cs).filter fun b => !decide (V.str b = V.str "")) = cText rs cs := rfl
      rw [eT]
      generalize cText rs cs = z at hsh hs1 hs2 hs3 k ⊢
      obtain ⟨hz1, _⟩ := sh_repr hsh
      refine ⟨.str z, rfl, z, rfl, hs1, hs2, hs3, fun l1 H6 e6 hl1 => ?_⟩
      refine ⟨by show 0 ≤ sizeLine; decide, fun l2 hl2 => ?_⟩
      have e7 : Ex H6 (L2.upd H6 l2 (.lst [])) := Ex.new hl2
      have k7 : L2.upd H6 l2 (.lst []) l2 = _ := upd_same
      generalize L2.upd H6 l2 (.lst []) = H7 at e7 k7 ⊢
      have e07 := (e05.trans e6).trans e7
      have hl17 := hl1.x e7
      have eOT : outT z = match readLot z with | some rs => .back rs | none => .txt z := rfl
      have eLR : lrD z = match readLot z with | some rs => crD rs | none => .list [] := rfl
      cases hz : readLot z with
      | none =>
        rw [hz] at eOT eLR
        rw [eLR] at hl17
        rw [eOT] at k
        obtain ⟨a1, us1, ea1, hsl, har⟩ := hl17.lstE
        cases ea1
        cases har
        refine ⟨l1, l2, [], rfl, rfl, .inl ⟨hsl, .of k7⟩, _, rfl, itF ?_⟩
        exact ⟨.str z, rfl, .inr (.inr ⟨z, rfl, by rw [sizeLine_eq]; omega, by show 2 ≤ sizeLine; decide, fun l3 hl3 => k (.ref l3) _ _ _ _ _ (e07.trans (Ex.new hl3)) (.lst (.of upd_same) (.cons (.str _) (.cons (.str _) .nil)))⟩)⟩
      | some rs' =>
        rw [hz] at eOT eLR
        obtain ⟨hne, _⟩ := readLot_ok hz
        rw [eLR] at hl17
        rw [eOT] at k
        obtain ⟨a1, us1, ea1, hsl, har⟩ := hl17.lstE
        cases ea1
        have hul : us1.length = rs'.length := by rw [har.len, List.length_map]
        have hune : us1.isEmpty = false := by
          cases us1 with
          | nil => exact absurd (List.length_eq_zero_iff.mp hul.symm) hne
          | cons _ _ => rfl
        refine ⟨l1, l2, us1, rfl, rfl, .inl ⟨hsl, .of k7⟩, _, rfl, ?_⟩
        show if (if true = true then !us1.isEmpty else us1.isEmpty) = true then _ else _
        rw [hune]
        refine itT ?_
        exact ⟨.str z, rfl, z, rfl, hs1, hs2, hs3, fun l3 H8 e8 hl3 => ⟨by show 2 ≤ sizeLine; decide, fun l4 hl4 => k (.ref l4) _ _ _ _ _ ((e07.trans e8).trans (Ex.new hl4)) (.lst (.of upd_same) (.cons (.str _) (.cons (by have h9 := hl3.x (Ex.new (o := .lst [.str "back", .ref l3]) hl4); rw [show lrD z = crD rs' from eLR] at h9; exact h9) .nil)))⟩⟩
    · have hw : wcL rs.length d ≠ [] := by
        intro z
        rw [z] at hw
        cases hw
      exact k due u7 u8 u10 u12 _ e0 ((hdue hw).x e0)
  obtain ⟨t, h1, h2⟩ := main
  exact ⟨fun pins s' σ H D I h => h1.run pins s' σ H D I (h2 D σ H h)⟩
end Lk
namespace Lk
open PySem PySem.Spec PyProof.Rows L2 Evl Lm TL LamX
/-! ### what _law_answer makes of changed and told -/
theorem sqL_hide2 {K : PySem.W.Frag} {H : Hp} {G a : Addr} {acc xs : List V} (hG : H G = some (.lst acc)) (h : SqL K H a xs) : SqL K (hide G H) a xs ∨ xs = acc := by
  by_cases e : a = G
  · subst e
    rcases h with (h | ⟨o, h⟩) | h
    · rw [h] at hG; cases hG; exact .inr rfl
    · rw [h] at hG; cases hG
    · exact .inl (.inr h)
  · refine .inl ?_
    rcases h with (h | ⟨o, h⟩) | h
    · exact .inl (.inl (by rw [hide_ne e]; exact h))
    · exact .inl (.inr ⟨o, by rw [hide_ne e]; exact h⟩)
    · exact .inr h
theorem srD_hide {K : PySem.W.Frag} {H : Hp} {G : Addr} {v y : V} {a b : Str} (hG : H G = some (.lst [y])) (h : Rp K H v (srD a b)) : Rp K (hide G H) v (srD a b) := by
  cases h with
  | lst hs ha =>
    cases ha with
    | cons h1 t =>
      cases h1
      cases t with
      | cons h2 t =>
        cases h2
        cases t
        rcases sqL_hide2 hG hs with z | z
        · exact .lst z (.cons (.str _) (.cons (.str _) .nil))
        · cases z
/-- the answer, the lists of one item being left alone -/
def AnsQ (K : PySem.W.Frag) (o : Out) (H : Hp) (Q : VK) : Prop := ∀ y H', Ex H H' → Rp K H' y (ansD o) → (∀ G z, H G = some (.lst [z]) → Rp K (hide G H') y (ansD o)) → Q y H'
theorem outQ_ans {K : PySem.W.Frag} {mg : Str → Option Value} (T2 : Txt2 K mg) {o : Out} (ho : okO o) {H : Hp} {Q : VK} (q : AnsQ K o H Q) :
    OutQ K H (fun v H2 => spLT K [v] H2 (fun y H3 => ∀ l, H3 l = none → Q (.ref l) (L2.upd H3 l (.lst [.str "back", y]))) E0)
      (fun cls d H1 => PySem.W.exmAny K cls [.ref (He.ga K "WrongValue"), .ref (He.ga K "WrongName"), .ref (He.ga K "NotPossible")] = some true ∧ SortQ K cls d H1 Q) o := by
  cases o with
  | back rs =>
    intro v H2 e2 hl
    refine ⟨v, rs, rfl, hl, by have := ho.1; omega, fun l H3 e3 hr hh la hla => ?_⟩
    have e4 : Ex H3 (L2.upd H3 la (.lst [.str "back", .ref l])) := Ex.new hla
    refine q _ _ ((e2.trans e3).trans e4) (.lst (.of upd_same) (.cons (.str _) (.cons (hr.x e4) .nil))) fun G z hG => ?_
    have hG3 := (e2.trans e3) _ _ hG
    have hne : la ≠ G := fun x => by rw [x, hG3] at hla; cases hla
    exact .lst (.of (by rw [hide_ne hne, upd_same])) (.cons (.str _) (.cons ((hh G _ (e2 _ _ hG)).x (ex_hide e4)) .nil))
  | chg o =>
    intro dd H2 e2 hdd
    refine ⟨T2.x_ch.any, .inl ⟨rfl, dd, o, rfl, hdd, ho, fun l H3 e3 hr => q _ _ (e2.trans e3) hr fun G z hG => srD_hide ((e2.trans e3) _ _ hG) hr⟩⟩
  | txt z =>
    intro dd H2 e2 hdd
    have := (sh_repr ho).1
    refine ⟨T2.x_tx.any, .inr ⟨rfl, dd, z, rfl, hdd, by rw [sizeLine_eq]; omega, fun l H3 e3 hr => q _ _ (e2.trans e3) hr fun G z hG => srD_hide ((e2.trans e3) _ _ hG) hr⟩⟩
/-! ### tables stay -/
theorem Tabs.hide {T0 : List (Addr × Str)} {pl : Addr} {H : Hp} (hp : PailAt pl H) (t : Tabs T0 H) : Tabs T0 (Lk.hide pl H) := fun p hm => by
  obtain ⟨ps, h1, h2, h3⟩ := t p hm
  obtain ⟨acc, hacc⟩ := hp.lst
  refine ⟨ps, by rw [hide_ne (fun z => by rw [z, hacc] at h1; cases h1)]; exact h1, h2, fun pos cv hc => ?_⟩
  obtain ⟨c, e1, e2⟩ := h3 pos cv hc
  exact ⟨c, e1, by rw [hide_ne (fun z => by rw [z, hacc] at e2; unfold CodeO at e2; cases e2)]; exact e2⟩
theorem Tabs.px {T0 : List (Addr × Str)} {pl : Addr} {H H' : Hp} (hp : PailAt pl H) (t : Tabs T0 H) (e : ExP pl H H') : Tabs T0 H' := ((Tabs.hide hp t).ext e.ex).ext hide_ex
/-- the pail drawn from, tables grown, all else as it was -/
structure ExT (T0 : List (Addr × Str)) (pl : Addr) (H H' : Hp) : Prop where
  ex : ExN (hide pl H) (hide pl H')
  pail : PailAt pl H'
  tabs : Tabs T0 H'
theorem ExT.p {T0 : List (Addr × Str)} {pl : Addr} {H H1 H2 : Hp} (a : ExT T0 pl H H1) (b : ExP pl H1 H2) : ExT T0 pl H H2 := ⟨a.ex.trans (exN b.ex), b.pail, Tabs.px a.pail a.tabs b⟩
theorem exn_hide {pl : Addr} {H H' : Hp} (e : ExN H H') : ExN (hide pl H) (hide pl H') := fun b o q n => by
  by_cases h : b = pl
  · rw [h, hide_same] at q; cases q
  · rw [hide_ne h] at q ⊢; exact e b o q n
theorem PailAt.n {pl : Addr} {H H' : Hp} (h : PailAt pl H) (e : ExN H H') : PailAt pl H' := by
  obtain ⟨a, b, c, h1, h2⟩ := h
  exact ⟨a, b, c, e _ _ h1 (fun _ z => nomatch z), h2⟩
theorem ExT.n {T0 : List (Addr × Str)} {pl : Addr} {H H1 H2 : Hp} (a : ExT T0 pl H H1) (b : ExN H1 H2) (t : Tabs T0 H2) : ExT T0 pl H H2 := ⟨a.ex.trans (exn_hide b), a.pail.n b, t⟩
theorem ExT.x {T0 : List (Addr × Str)} {pl : Addr} {H H1 H2 : Hp} (a : ExT T0 pl H H1) (b : Ex H1 H2) : ExT T0 pl H H2 := a.n (exN b) (a.tabs.ext b)
theorem exn_l {H H' : Hp} {a : Addr} {xs : List V} (e : ExN H H') (h : H a = some (.lst xs)) : H' a = some (.lst xs) := e _ _ h fun _ z => nomatch z
/-! ### the first due -/
theorem due0 {rs : List RD} {d : PyData} (hd : okD 6 9 d) : ∃ x, atI (wcL rs.length d ++ [V.int 0]) 0 = some x ∧ (wcL rs.length d ++ [V.int 0]).length ≤ 2 ∧ ∀ (H : Hp) (Q : VK), (∀ z : Str, (wcL rs.length d ≠ [] → ansD (outC rs d) = srD "InvalidChanges" z) → Q (.str z) H) → rRepS [x] H Q := by
  cases d with
  | tuple ds =>
    have h1 : wcL rs.length (.tuple ds) = match wrongI rs.length ds with | some i => [V.int (i : Int)] | none => [] := rfl
    have h2 : outC rs (.tuple ds) = match wrongI rs.length ds with | some i => Out.chg (some i) | none => outT (cText rs (csOf ds)) := rfl
    cases hw : wrongI rs.length ds with
    | none =>
      rw [hw] at h1
      rw [h1]
      exact ⟨.int 0, rfl, by decide, fun H Q q => .inr (.inl ⟨0, rfl, by decide, q _ fun z => absurd rfl z⟩)⟩
    | some i =>
      rw [hw] at h1 h2
      rw [h1, h2]
      have hi := wrongI_lt hw
      have hl := (hd.2 ds rfl).1
      exact ⟨.int i, rfl, by show 2 ≤ 2; decide, fun H Q q => .inr (.inl ⟨i, rfl, reprNat_ok (by omega), q _ fun _ => rfl⟩)⟩
  | _ => exact ⟨.non, rfl, by show 2 ≤ 2; decide, fun H Q q => .inl ⟨rfl, q _ fun _ => rfl⟩⟩
end Lk
namespace Lk
open PySem PySem.Spec PyProof.Rows L2 Evl Lm TL LamX
theorem b_repD {X : Cx} {e : Expr} {es : List Expr} {t : TA} {p pos : Pos} (T : Txt X.K X.mg) (hG : X.A.guards = some []) (hu : X.A.units + 64 < cLine) (ha : PA X (e :: es) t) (hg : Gl X "repr" := by rfl) (he : starEach (e :: es) X.env = (false, eval e X.env) :: starEach es X.env := by rfl) (hpl : (backTo pos (starEach es X.env)).any (·.1) = false := by rfl) :
    PE X (.Call (.Name "repr" p) (e :: es) [] pos) (tCB (rRepD X.K) t) := pe_callB (call_repD hG hu) hg T.f_repr boot_repr9 ha (he := he) (hpl := hpl)
theorem Tabs.hideL {T0 : List (Addr × Str)} {pl : Addr} {H : Hp} {acc : List V} (hacc : H pl = some (.lst acc)) (t : Tabs T0 H) : Tabs T0 (Lk.hide pl H) := fun p hm => by
  obtain ⟨ps, h1, h2, h3⟩ := t p hm
  refine ⟨ps, by rw [hide_ne (fun z => by rw [z, hacc] at h1; cases h1)]; exact h1, h2, fun pos cv hc => ?_⟩
  obtain ⟨c, e1, e2⟩ := h3 pos cv hc
  exact ⟨c, e1, by rw [hide_ne (fun z => by rw [z, hacc] at e2; unfold CodeO at e2; cases e2)]; exact e2⟩
theorem hide_upd_ex {pl : Addr} {H : Hp} {o : HO} : Ex (hide pl H) (L2.upd H pl o) := fun b o' e => by
  by_cases h : b = pl
  · rw [h, hide_same] at e; cases e
  · rw [hide_ne h] at e; rw [upd_ne h]; exact e
theorem exn_mut {H H' : Hp} {a : Addr} {o : HO} (e : ExN H H') (h : H a = none) : ExN H (L2.upd H' a o) := fun b o' q n => by
  rw [upd_ne (fun z => by rw [z, h] at q; cases q)]
  exact e b o' q n
theorem ND.n {H H' : Hp} {v : V} (h : ND H v) (e : ExN H H') : ND H' v := fun q hq => by
  rcases h q hq with ⟨o, u, h1, h2⟩ | ⟨xs, h1⟩ | ⟨kvs, h1⟩
  · exact .inl ⟨o, u, e _ _ h1 (fun _ z => nomatch z), h2⟩
  · exact .inr (.inl ⟨xs, e _ _ h1 (fun _ z => nomatch z)⟩)
  · exact .inr (.inr ⟨kvs, e _ _ h1 (fun _ z => nomatch z)⟩)
section
variable {X : Cx} {A : Around} {outer : List Env} {s : Shared} {H : Hp} {E : XK} {scope : Scope} {f c' : Addr} {o e : Expr} {ta te : TE} {t : TA} {apos pos kpos : Pos} {pl : Sem Bool}
/-- o.changed(e), o.changed(changes=e) in a lambda -/
theorem lam_ch (T : Txt X.K X.mg) (hr : Room 9 (A.deeper (lamEnv X scope s.heap.objs.size f c'))) (ho : PE (lamCx X A outer s H E scope f c') o ta) (ha : PA (lamCx X A outer s H E scope f c') [e] t)
    (hst : starEach [e] (lamCx X A outer s H E scope f c').env = (false, eval e (lamCx X A outer s H E scope f c').env) :: starEach [] (lamCx X A outer s H E scope f c').env := by rfl) (hpl : (backTo pos (starEach [] (lamCx X A outer s H E scope f c').env)).any (·.1) = false := by rfl)
    (ht : eval (.Call (.Attribute o "changed" apos) [e] [] pos) (lamCx X A outer s H E scope f c').env = (do
      let ov ← eval o (lamCx X A outer s H E scope f c').env
      standAt apos.atName
      let (fn, fst) ← holding [ov] (getMethod ov "changed" pl)
      callWith pos fn fst (backTo pos (starEach [e] (lamCx X A outer s H E scope f c').env)) (backToKw pos (keywordEach [] (lamCx X A outer s H E scope f c').env))) := by rfl) :
    PE (lamCx X A outer s H E scope f c') (.Call (.Attribute o "changed" apos) [e] [] pos) (SlX.tMethSl (cL X.K) (spCh X.K) E ta t) :=
  SlX.pe_methSl (CX := L2N.CX X.prog X.w) (X := lamCx X A outer s H E scope f c') (E := E) ho T.l_f.sc T.l_changed.me (ok_changed2 T).1 hr passLam ha hst hpl ht
theorem lam_chK (T : Txt X.K X.mg) (hr : Room 9 (A.deeper (lamEnv X scope s.heap.objs.size f c'))) (ho : PE (lamCx X A outer s H E scope f c') o ta) (he : PE (lamCx X A outer s H E scope f c') e te)
    (hall : (backToKw pos (keywordEach [⟨some "changes", e, kpos⟩] (lamCx X A outer s H E scope f c').env)).all (·.1.isSome) = true := by rfl) (hks : (backToKw pos (keywordEach [⟨some "changes", e, kpos⟩] (lamCx X A outer s H E scope f c').env)).filterMap (·.1) = [("changes" : Str)] := by rfl)
    (hpl : ((backTo pos (starEach [] (lamCx X A outer s H E scope f c').env)).any (·.1) || (backToKw pos (keywordEach [⟨some "changes", e, kpos⟩] (lamCx X A outer s H E scope f c').env)).any (·.1.isNone)) = false := by rfl)
    (ht : eval (.Call (.Attribute o "changed" apos) [] [⟨some "changes", e, kpos⟩] pos) (lamCx X A outer s H E scope f c').env = (do
      let ov ← eval o (lamCx X A outer s H E scope f c').env
      standAt apos.atName
      let (fn, fst) ← holding [ov] (getMethod ov "changed" pl)
      callWith pos fn fst (backTo pos (starEach [] (lamCx X A outer s H E scope f c').env)) (backToKw pos (keywordEach [⟨some "changes", e, kpos⟩] (lamCx X A outer s H E scope f c').env))) := by rfl) :
    PE (lamCx X A outer s H E scope f c') (.Call (.Attribute o "changed" apos) [] [⟨some "changes", e, kpos⟩] pos) (tMethK (cL X.K) (spCh X.K) E ta (tCons te tNil)) :=
  pe_methSlK (CX := L2N.CX X.prog X.w) (X := lamCx X A outer s H E scope f c') (E := E) ho T.l_f.sc T.l_changed.me (ok_changed2 T).2 hr (by decide) passLam he hall hks hpl ht
end
theorem outQ_by {K : PySem.W.Frag} {mg : Str → Option Value} (T2 : Txt2 K mg) {o : Out} (ho : okO o) {H : Hp} {Q Qb : VK} {Ee : XK}
    (he : (fun cls d H1 => PySem.W.exmAny K cls [.ref (He.ga K "WrongValue"), .ref (He.ga K "WrongName"), .ref (He.ga K "NotPossible")] = some true ∧ SortQ K cls d H1 Q) = Ee)
    (hb : (fun v H2 => spLT K [v] H2 (fun y H3 => ∀ l, H3 l = none → Q (.ref l) (L2.upd H3 l (.lst [.str "back", y]))) E0) = Qb) (q : AnsQ K o H Q) : OutQ K H Qb Ee o := by
  subst he hb
  exact outQ_ans T2 ho q
theorem ne_self {z : V} : (!decide (z = z)) = false := by simp
/-! ### _law_right -/
def qR : Str := ("_law_right" : Str) ++ ".<locals>."
def spRight (K : PySem.W.Frag) (T0 : List (Addr × Str)) : Sp := fun vs H Q _ => ∃ pl, vs = [.ref pl] ∧ PailAt pl H ∧ Tabs T0 H ∧ ∀ H', ExT T0 pl H H' → Q (.bl true) H'
section
variable {P : Program} {w : World} {K : PySem.W.Frag} {mg : Str → Option Value} {base : Heap}
theorem ok__law_right (T : Txt K mg) (T2 : Txt2 K mg) {T0 : List (Addr × Str)} {c Pt : Addr} (F : IsDefC K "_law_right" "_law_right" (top 67) (He.ga K "_law_right") c) (TB : TabB base mg c Pt)
    (hmT : (Pt, qR ++ ("<lambda>" : Str)) ∈ T0) (huT : ∀ p ∈ T0, p.1 = Pt → p.2 = qR ++ ("<lambda>" : Str)) : FnG P w K mg base 12 (He.ga K "_law_right") (spRight K T0) := by
  refine mkG F sc67 (fun vs H Q E h => ?_) (fun _ _ _ _ _ _ us hl => match us, hl with | [_], _ => rfl) (fun A outer s H vs Q E hr hg h => ?_)
  · obtain ⟨pl, rfl, _⟩ := h
    rfl
  · obtain ⟨pl, rfl, hp, hT, k⟩ := h
    have hmT' : ∀ q : Str, q = qR → (Pt, q ++ ("<lambda>" : Str)) ∈ T0 := by rintro _ rfl; exact hmT
    have huT' : ∀ q : Str, q = qR → ∀ p ∈ T0, p.1 = Pt → p.2 = q ++ ("<lambda>" : Str) := by rintro _ rfl; exact huT
    have hu64 : (A.deeper (envOfC "_law_right" (defScope (top 67)) s.heap.objs.size (He.ga K "_law_right") (.ref c))).units + 64 < cLine := by have := hr.un; omega
    refine ⟨_, (pss_cons (ps_for PassesOwn.never rfl (pi_range1 rfl T.f_range (pa_cons pe_int pa_nil)) (pg_name (i := 1) sc67.nd rfl (.inl rfl))
  (pss_cons (ps_set (i := 2) sc67.nd rfl (.inl rfl) (pe_d T.d__law_crowd (ok__law_crowd T) hr (pa_cons (pv 0) pa_nil)))
    (pss_cons (ps_asg (pe_tup (pa_cons (pe_d T.d__law_lot_built (ok__law_lot_built T) hr (pa_cons (pv 0) (pa_cons (pv 2) pa_nil))) (pa_cons (pe_d T.d__law_some (ok__law_some T) hr (pa_cons (pv 0) (pa_cons (pv 2) pa_nil))) pa_nil))) (pg_tup rfl (pgs_cons (pg_name (i := 3) sc67.nd rfl (.inr rfl)) (pgs_cons (pg_name (i := 4) sc67.nd rfl (.inr rfl)) pgs_nil))))
    (pss_cons (ps_set (i := 5) sc67.nd rfl (.inl rfl) (pe_d T.d__law_wrong_change (ok__law_wrong_change T) hr (pa_cons (b_len T (pa_cons (pv 2) pa_nil)) (pa_cons (pv 4) pa_nil))))
    (pss_cons (ps_set (i := 6) sc67.nd rfl (.inl rfl) (pe_lst (pa_cons pe_str (pa_cons (b_repS T (pa_cons (pe_ix ix_list (pe_op op_cat (pv 5) (pe_lst (pa_cons pe_int pa_nil))) pe_int (fun _ _ => rfl)) pa_nil)) pa_nil))))
    (pss_cons (ifR T hr)
    (pss_cons (ps_set (i := 14) sc67.nd rfl (.inl rfl) (pe_lst (pa_cons (pe_ans (T0 := T0) T T2 TB rfl (hmT' _ (by rfl)) (huT' _ (by rfl)) hr (by decide) (show LamS (defScope (top 67)) _ from lamS_by (by decide +kernel)) (fun A outer s H E f c' hr' => pe_d T.d__law_lot_told (ok__law_lot_told T) hr' (pa_cons (lam_ch T hr' (pv 3) (pa_cons (pv 4) pa_nil)) pa_nil))) pa_nil)))
    (pss_cons (ps_expr (pe_bm PySem.F.plainAttrs_list PySem.F.slot_list_append PySem.F.type_list_append mt_append (pv 14) (pa_cons (pe_ans (T0 := T0) T T2 TB rfl (hmT' _ (by rfl)) (huT' _ (by rfl)) hr (by decide) (show LamS (defScope (top 67)) _ from lamS_by (by decide +kernel)) (fun A outer s H E f c' hr' => pe_d T.d__law_lot_told (ok__law_lot_told T) hr' (pa_cons (lam_chK T hr' (pv 3) (pv 4)) pa_nil))) pa_nil)))
    (pss_one (ps_if (PW.pt (pw_or (pt_cmpR op_ne (b_repD T hg hu64 (pa_cons (pv 14) pa_nil)) (b_repD T hg hu64 (pa_cons (pe_lst (pa_cons (pv 6) (pa_cons (pv 6) pa_nil))) pa_nil)) (nomark _)) (pw_or1 (pt_cmpR op_ne (b_repD T hg hu64 (pa_cons (pe_d T.d__law_lot_told (ok__law_lot_told T) hr (pa_cons (pv 3) pa_nil)) pa_nil)) (b_repD T hg hu64 (pa_cons (pv 2) pa_nil)) (nomark _)))))
    (pss_one (ps_ret pe_bl))
    pss_nil))))))))))
  (pss_one (ps_ret pe_bl))), ?_⟩
    refine ⟨8, rfl, by decide, by decide, for_range (lo := 0) (n := 8) (fun i σ' H' => (∃ u1 u2 u3 u4 u5 u6 u7 u8 u10 u12 u14, σ' = [some (.ref pl), u1, u2, u3, u4, u5, u6, u7, u8, none, u10, none, u12, none, u14]) ∧ ExT T0 pl H H') ⟨⟨_, _, _, _, _, _, _, _, _, _, _, rfl⟩, ⟨.refl _, hp, hT⟩⟩ ?_ ?_⟩
    · rintro i σ' H' hi ⟨⟨u1, u2, u3, u4, u5, u6, u7, u8, u10, u12, u14, rfl⟩, e0⟩
      refine ⟨.ref pl, rfl, pl, rfl, e0.pail, fun rs y H1 e1 hcr hva hsm => ?_⟩
      obtain ⟨ca, cu, rfl, hs, ha⟩ := hcr.lstE
      have hlen : cu.length = rs.length := by rw [ha.len, List.length_map]
      have hfew := hva.few
      have t1 := e0.p e1
      refine ⟨.ref pl, rfl, .ref ca, rfl, pl, .ref ca, rs, rfl, e1.pail, hcr, hva, hsm, fun m H2 e2 hlt => ?_⟩
      obtain ⟨ma, _, _, rfl, _⟩ := hlt.slt
      refine ⟨.ref pl, rfl, .ref ca, rfl, pl, .ref ca, rs, rfl, e2.pail, hcr.x e2.ex, hva, fun v H3 e3 hgn => ?_⟩
      refine ⟨by show 2 ≤ sizeLine; decide, fun q hq => ?_⟩
      obtain ⟨_, e4, _⟩ := newP (o := .tup [.ref ma, v]) e3.pail hq
      have hq4 : SqT K (L2.upd H3 q (.tup [.ref ma, v])) q [.ref ma, v] := .of upd_same
      generalize L2.upd H3 q (.tup [.ref ma, v]) = H4 at e4 hq4 ⊢
      refine ⟨q, _, rfl, hq4, rfl, .ref ma, [v], rfl, v, [], rfl, rfl, ?_⟩
      have t4 := ((t1.p e2).p e3).p e4
      obtain ⟨⟨d, hvd, hd⟩, hnd⟩ := hgn
      have hv4 : Rp K H4 v d := (hvd.x e4.ex).x hide_ex
      have hnd4 : ND H4 v := (hnd.x e4.ex).x hide_ex
      have hlt4 : LtAt K H4 (.ref ma) rs := ((hlt.x e3.ex).x e4.ex).x hide_ex
      have hcr4 : Rp K H4 (.ref ca) (crD rs) := (((hcr.x e2.ex).x e3.ex).x e4.ex).x hide_ex
      have hca4 : SqL K H4 ca cu := ex_l hide_ex (ex_l ((e2.trans e3).trans e4).ex hs)
      have ho : okO (outC rs d) := okO_out hd hsm hfew
      clear hq4 hnd hvd hlt hcr hs t1 e0 e1 e2 e3 e4
      refine ⟨.ref ca, rfl, .ref ca, cu.length, rfl, .inl ⟨cu, hca4, rfl⟩, v, rfl, rs.length, v, d, by rw [hlen], hv4, fun ds e => by subst e; have := (hd.2 ds rfl).1; omega, fun lw H5 e5 hlw => ?_⟩
      refine ⟨.ref lw, rfl, by show 1 ≤ sizeLine; decide, fun l6 hl6 => ?_⟩
      have e6 : Ex H5 (L2.upd H5 l6 (.lst [.int 0])) := Ex.new hl6
      have k6 : L2.upd H5 l6 (.lst [.int 0]) l6 = _ := upd_same
      generalize L2.upd H5 l6 (.lst [.int 0]) = H6 at e6 k6 ⊢
      obtain ⟨x, hx, hx2, hxr⟩ := due0 (rs := rs) hd
      refine ⟨lw, l6, _, _, rfl, rfl, e6 _ _ hlw, k6, ?_, fun l7 hl7 => ?_⟩
      · rw [List.length_append] at hx2
        rw [sizeLine_eq]
        omega
      have e7 : Ex H6 (L2.upd H6 l7 (.lst (wcL rs.length d ++ [.int 0]))) := Ex.new hl7
      have k7 : L2.upd H6 l7 (.lst (wcL rs.length d ++ [.int 0])) l7 = _ := upd_same
      generalize L2.upd H6 l7 (.lst (wcL rs.length d ++ [.int 0])) = H7 at e7 k7 ⊢
      refine ⟨l7, _, 0, x, rfl, rfl, .of k7, hx, ?_⟩
      unfold tNil
      refine hxr _ _ fun z hz => ?_
      refine ⟨by show 2 ≤ sizeLine; decide, fun l8 hl8 => ?_⟩
      have e8 : Ex H7 (L2.upd H7 l8 (.lst [.str "InvalidChanges", .str z])) := Ex.new hl8
      have k8 : L2.upd H7 l8 (.lst [.str "InvalidChanges", .str z]) l8 = _ := upd_same
      generalize L2.upd H7 l8 (.lst [.str "InvalidChanges", .str z]) = H8 at e8 k8 ⊢
      have e48 := ((e5.trans e6).trans e7).trans e8
      have hlw8 := e8 _ _ (e7 _ _ (e6 _ _ hlw))
      refine ⟨pl, ca, lw, _, _, v, .ref l8, _, _, _, _, _, rfl, rs, d, hcr4.x e48, hva, hsm, .of hlw8, hv4.x e48, hd, hnd4.x e48, fun hw => by rw [hz hw]; exact .lst (.of k8) (.cons (.str _) (.cons (.str _) .nil)), fun due u7' u8' u10' u12' H9 e9 hdue => ?_⟩
      have e49 := e48.trans e9
      have t9 := t4.x e49
      have hv9 := hv4.x e49
      have hcr9 := hcr4.x e49
      have hlt9 := hlt4.x e49
      have hshort := okD_shortD hd
      clear hv4 hnd4 hlt4 hcr4 hca4 t4 e5 e6 e7 e8 e9 e48 e49 hlw8 hlw k6 k7 k8 hz
      refine ⟨t9.tabs, fun H10 e10 t10 => ?_⟩
      have hlt10 := hlt9.n e10
      obtain ⟨_, dx, ss, ema, hslt⟩ := hlt10.slt
      cases ema
      refine ⟨.ref ma, rfl, ma, dx, ss, rfl, hslt, v, rfl, .ref ma, v, rs, d, rfl, hlt10, hsm, hfew, Rp.n e10 _ _ hv9, hshort, outQ_by T2 ho rfl rfl fun y1 H11 e11 hy1 _ => ?_⟩
      have e911 : ExN H9 H11 := e10.trans (exN e11)
      have t11 := t10.ext e11
      refine ⟨by show 1 ≤ sizeLine; decide, fun lg hlg => ?_⟩
      have e12 : Ex H11 (L2.upd H11 lg (.lst [y1])) := Ex.new hlg
      have k12 : L2.upd H11 lg (.lst [y1]) lg = _ := upd_same
      show tSeq _ _ _ _ (L2.upd H11 lg (.lst [y1]))
      generalize L2.upd H11 lg (.lst [y1]) = H12 at e12 k12 ⊢
      refine ⟨.ref lg, rfl, .inl ⟨rfl, _, .of k12⟩, t11.ext e12, fun H13 e13 t13 => ?_⟩
      have e1113 : ExN H11 H13 := (exN e12).trans e13
      have e913 := e911.trans e1113
      have hlt13 := hlt9.n e913
      obtain ⟨_, dx', ss', ema, hslt'⟩ := hlt13.slt
      cases ema
      have k13 : H13 lg = some (.lst [y1]) := exn_l e13 k12
      refine ⟨.ref ma, rfl, ma, dx', ss', rfl, hslt', v, rfl, v, rfl, .ref ma, v, rs, d, rfl, hlt13, hsm, hfew, Rp.n e913 _ _ hv9, hshort, outQ_by T2 ho rfl rfl fun y2 H14 e14 _ hy2 => ?_⟩
      have k14 := e14 _ _ k13
      refine ⟨lg, [y1], y2, rfl, rfl, k14, by show 1 < sizeLine; decide, ?_⟩
      have e1115 : ExN H11 (L2.upd H14 lg (.lst ([y1] ++ [y2]))) := exn_mut (e1113.trans (exN e14)) hlg
      have hy2' : Rp K (L2.upd H14 lg (.lst ([y1] ++ [y2]))) y2 (ansD (outC rs d)) := (hy2 lg y1 k13).x hide_upd_ex
      have t15 : Tabs T0 (L2.upd H14 lg (.lst ([y1] ++ [y2]))) := (Tabs.hideL k14 (t13.ext e14)).ext hide_upd_ex
      have k15 : L2.upd H14 lg (.lst ([y1] ++ [y2])) lg = some (.lst [y1, y2]) := upd_same
      generalize L2.upd H14 lg (.lst ([y1] ++ [y2])) = H15 at e1115 hy2' t15 k15 ⊢
      have e915 := e911.trans e1115
      have t15' := t9.n e915 t15
      have hlt15 := hlt9.n e915
      have hcr15 := Rp.n e915 _ _ hcr9
      have hdue15 := Rp.n e915 _ _ hdue
      have hy1' := Rp.n e1115 _ _ hy1
      obtain ⟨n1, n2, n3, n4⟩ := (nc2 (nc_ans ho) (nc_ans ho)).rep (by decide) (by decide)
      obtain ⟨m1, m2, m3, m4⟩ := (nc_cr hfew hva.fit hva.val).rep (by decide) (by decide)
      refine ⟨.ref lg, rfl, lg, .list [ansD (outC rs d), ansD (outC rs d)], rfl, .lst (.of k15) (.cons hy1' (.cons hy2' .nil)), n1, n2, n3, n4, ?_⟩
      refine ⟨due, rfl, due, rfl, by show 2 ≤ sizeLine; decide, fun l16 hl16 => ?_⟩
      have e16 : Ex H15 (L2.upd H15 l16 (.lst [due, due])) := Ex.new hl16
      have k16 : L2.upd H15 l16 (.lst [due, due]) l16 = _ := upd_same
      generalize L2.upd H15 l16 (.lst [due, due]) = H16 at e16 k16 ⊢
      refine ⟨l16, .list [ansD (outC rs d), ansD (outC rs d)], rfl, .lst (.of k16) (.cons (hdue15.x e16) (.cons (hdue15.x e16) .nil)), n1, n2, n3, n4, ?_⟩
      refine ⟨rfl, _, rfl, ?_⟩
      rw [ne_self]
      refine itF ?_
      refine ⟨.ref ma, rfl, .ref ma, rs, rfl, hlt15.x e16, by omega, fun l17 H17 e17 hr17 _ => ?_⟩
      refine ⟨l17, crD rs, rfl, hr17, m1, m2, m3, m4, ?_⟩
      refine ⟨.ref ca, rfl, ca, crD rs, rfl, (hcr15.x e16).x e17, m1, m2, m3, m4, ?_⟩
      refine ⟨rfl, _, rfl, ?_⟩
      rw [ne_self]
      refine itF ?_
      exact ⟨⟨_, _, _, _, _, _, _, _, _, _, _, rfl⟩, (t15'.x e16).x e17⟩
    · rintro σ' H' ⟨⟨u1, u2, u3, u4, u5, u6, u7, u8, u10, u12, u14, rfl⟩, e0⟩
      exact k _ e0
end
end Lk
namespace Lk
open PySem PySem.Spec PyProof.Rows L2 Evl Lm TL LamX
/-! ### literals as data -/
def tD (K : PySem.W.Frag) (d : PyData) : TE := fun σ H Q => ∀ v H', Ex H H' → Rp K H' v d → Q v H'
def tDs (K : PySem.W.Frag) (ds : List PyData) : TA := fun σ H Q => ∀ vs H', Ex H H' → RpA K H' vs ds → Q vs H'
section
variable {X : Cx}
theorem pe_to {e : Expr} {te tf : TE} (h : PE X e te) (w : ∀ σ H Q, tf σ H Q → te σ H Q) : PE X e tf := ⟨fun pins s σ H Q I q => h.run pins s σ H Q I (w σ H Q q)⟩
theorem pa_to {es : List Expr} {t u : TA} (h : PA X es t) (w : ∀ σ H Q, u σ H Q → t σ H Q) : PA X es u := ⟨fun pos pins s σ H Q I q => h.run pos pins s σ H Q I (w σ H Q q)⟩
theorem pd_int {i : Int} {j : Nat} {p : Pos} : PE X (.Constant (.int i) j p) (tD X.K (.int i)) := pe_to pe_int fun σ H Q q => q _ _ (.refl _) (.int i)
theorem pd_str {i : Str} {j : Nat} {p : Pos} : PE X (.Constant (.str i) j p) (tD X.K (.str i)) := pe_to pe_str fun σ H Q q => q _ _ (.refl _) (.str i)
theorem pda_nil : PA X [] (tDs X.K []) := pa_to pa_nil fun σ H Q q => q _ _ (.refl _) .nil
theorem pda_cons {e : Expr} {es : List Expr} {d : PyData} {ds : List PyData} (h : PE X e (tD X.K d)) (t : PA X es (tDs X.K ds)) (hs : starEach (e :: es) X.env = (false, eval e X.env) :: starEach es X.env := by rfl) : PA X (e :: es) (tDs X.K (d :: ds)) :=
  pa_to (pa_cons h t hs) fun σ H Q q v H1 e1 r1 vs H2 e2 r2 => q _ _ (e1.trans e2) (.cons (r1.x e2) r2)
theorem pd_tup {es : List Expr} {ds : List PyData} {k : Nat} {p : Pos} (h : PA X es (tDs X.K ds)) (hl : ds.length ≤ 100 := by exact Nat.le_of_ble_eq_true rfl) : PE X (.Tuple es k p) (tD X.K (.tuple ds)) :=
  pe_to (pe_tup h) fun σ H Q q vs H1 e1 r1 => ⟨by rw [r1.len, sizeLine_eq]; omega, fun p hp => q _ _ (e1.trans (Ex.new hp)) (.tup (.of upd_same) (r1.x (Ex.new hp)))⟩
theorem pd_lst {es : List Expr} {ds : List PyData} {p : Pos} (h : PA X es (tDs X.K ds)) (hl : ds.length ≤ 100 := by exact Nat.le_of_ble_eq_true rfl) : PE X (.List es p) (tD X.K (.list ds)) :=
  pe_to (pe_lst h) fun σ H Q q vs H1 e1 r1 => ⟨by rw [r1.len, sizeLine_eq]; omega, fun p hp => q _ _ (e1.trans (Ex.new hp)) (.lst (.of upd_same) (r1.x (Ex.new hp)))⟩
end
/-! ### data of the right form, decided -/
def okDb : Nat → Nat → PyData → Bool
  | 0, _, d => match d with
    | .str z => okZ z
    | .tuple _ => false
    | _ => true
  | n + 1, m, d => match d with
    | .str z => okZ z
    | .tuple ds => decide (ds.length ≤ m) && ds.all (okDb n m)
    | _ => true
theorem okDb_ok : ∀ {n m : Nat} {d : PyData}, okDb n m d = true → okD n m d
  | 0, m, d, h => by
    refine ⟨fun z e => ?_, fun ds e => ?_⟩
    · subst e; exact h
    · subst e; cases h
  | n + 1, m, d, h => by
    refine ⟨fun z e => ?_, fun ds e => ?_⟩
    · subst e; exact h
    · subst e
      have h2 : (decide (ds.length ≤ m) && ds.all (okDb n m)) = true := h
      rw [Bool.and_eq_true, List.all_eq_true] at h2
      exact ⟨of_decide_eq_true h2.1, fun e he => okDb_ok (h2.2 e he)⟩
/-! ### what the law asks of one lot -/
def rs0 : List RD := [⟨2, [], 2⟩, ⟨2, [(0, 1), (1, 1)], 0⟩]
def text0 : Str := "levels 2 end 2 dark\nlevels 2 end 0 lamps 0:1 1:1"
def ds9 : List PyData := [.tuple [.tuple [.int 2, .str ""]], .tuple [.tuple [.int (-1), .str ""]], .tuple [.tuple [.int 0, .str ""], .tuple [.int 0, .str ""]], .tuple [.tuple [.int 0, .str "a\nb"]], .tuple [.int 0, .str ""],
  .list [.tuple [.int 0, .str ""]], .tuple [.tuple [.bool true, .str ""]], .none, .tuple [.tuple [.int 0]]]
def ats9 : List Str := ["0", "0", "1", "0", "0", "None", "0", "None", "0"]
def chkO : Out → Str → Bool
  | .chg none, z => decide ((oDn none).shown = z)
  | .chg (some i), z => decide (i ≤ 1000) && decide ((oDn (some i)).shown = z)
  | _, _ => false
theorem chkO_ok {o : Out} {z : Str} (h : chkO o z = true) : okO o ∧ (∀ rs, o ≠ .back rs) ∧ ansD o = srD "InvalidChanges" z := by
  cases o with
  | back rs => cases h
  | txt y => cases h
  | chg o =>
    cases o with
    | none =>
      have h2 := of_decide_eq_true (show decide ((oDn none).shown = z) = true from h)
      subst h2
      exact ⟨fun i hi => (nomatch hi), fun rs => nofun, rfl⟩
    | some i =>
      have h3 := Bool.and_eq_true_iff.mp (show (decide (i ≤ 1000) && decide ((oDn (some i)).shown = z)) = true from h)
      have h2 := of_decide_eq_true h3.2
      subst h2
      exact ⟨fun j hj => by cases hj; exact of_decide_eq_true h3.1, fun rs => nofun, rfl⟩
theorem all9 : (List.range 9).all (fun k => chkO (outC rs0 (ds9.getD k .none)) (ats9.getD k "") && okDb 6 9 (ds9.getD k .none)) = true := by decide +kernel
theorem at9 {k : Nat} (h : k < 9) : okO (outC rs0 (ds9.getD k .none)) ∧ (∀ rs, outC rs0 (ds9.getD k .none) ≠ .back rs) ∧ ansD (outC rs0 (ds9.getD k .none)) = srD "InvalidChanges" (ats9.getD k "") ∧ okD 6 9 (ds9.getD k .none) := by
  have h1 := Bool.and_eq_true_iff.mp (List.all_eq_true.mp all9 k (List.mem_range.mpr h))
  obtain ⟨a, b, c⟩ := chkO_ok h1.1
  exact ⟨a, b, c, okDb_ok h1.2⟩
def sm0 (r : RD) : Bool := decide (r.p.natAbs < 10) && decide (r.e.natAbs < 10 ^ 40) && decide (r.ls.length ≤ 5) && r.ls.all fun a => decide (a.1.natAbs < 10 ^ 40) && decide (a.2.natAbs < 10)
theorem sm0_ok {r : RD} (h : sm0 r = true) : Small r := by
  unfold sm0 at h
  simp only [Bool.and_eq_true, decide_eq_true_eq, List.all_eq_true] at h
  exact ⟨h.1.1.1, h.1.1.2, h.1.2, h.2⟩
theorem small0 : ∀ r ∈ rs0, Small r := fun r hr => sm0_ok (List.all_eq_true.mp (show rs0.all sm0 = true by decide +kernel) r hr)
def va0 (r : RD) : Bool := isLev r.p && okL r.p (r.ls.map some) && decide (r.ls.length ≤ 400)
theorem va0_ok {r : RD} (h : va0 r = true) : Valid r := by
  unfold va0 at h
  simp only [Bool.and_eq_true, decide_eq_true_eq] at h
  exact ⟨h.1.1, h.1.2, h.2⟩
theorem valid0 : ValidL rs0 := ⟨by decide, by decide, fun r hr => va0_ok (List.all_eq_true.mp (show rs0.all va0 = true by decide +kernel) r hr), fun r hr => List.all_eq_true.mp (show rs0.all fitsR = true by decide +kernel) r hr, fun r hr r0 h0 => by
  have h1 : r0 = ⟨2, [], 2⟩ := (Option.some.inj h0).symm
  rw [h1]
  exact of_decide_eq_true (List.all_eq_true.mp (show rs0.all (fun r => decide (r.p = 2)) = true by decide +kernel) r hr)⟩
theorem sheet0 : sheetL rs0 = text0 := by decide +kernel
theorem read0 : readLot text0 = some rs0 := by rw [← sheet0]; exact readLot_sheet valid0
theorem split0 : (∀ p ∈ Txt.split text0 "\n", p.length ≤ 500) ∧ (Txt.split text0 "\n").length ≤ 1000 ∧ text0.length ≤ 1000000 := by
  have h := sheetL_split valid0 small0
  rw [sheet0] at h
  exact h
/-- the changes that go through -/
def chk1 (d : PyData) (rs : List RD) : Bool := match d with
  | .tuple ds => decide (wrongI rs0.length ds = none) && decide (cText rs0 (csOf ds) = sheetL rs)
  | _ => false
theorem chk1_ok {d : PyData} {rs : List RD} (h : chk1 d rs = true) (hv : ValidL rs) : outC rs0 d = .back rs := by
  cases d with
  | tuple ds =>
    have h2 := Bool.and_eq_true_iff.mp (show (decide (wrongI rs0.length ds = none) && decide (cText rs0 (csOf ds) = sheetL rs)) = true from h)
    have a := of_decide_eq_true h2.1
    have b := of_decide_eq_true h2.2
    show (match wrongI rs0.length ds with | some i => Out.chg (some i) | none => outT (cText rs0 (csOf ds))) = _
    rw [a, b]
    show outT (sheetL rs) = _
    unfold outT
    rw [readLot_sheet hv]
  | _ => cases h
def rs1 : List RD := [⟨2, [], 2⟩]
theorem valid1 : ValidL rs1 := ⟨by decide, by decide, fun r hr => valid0.val r (by rw [List.mem_singleton.mp hr]; exact List.mem_cons_self), fun r hr => valid0.fit r (by rw [List.mem_singleton.mp hr]; exact List.mem_cons_self), fun r hr r0 h0 => by
  rw [List.mem_singleton.mp hr, ← Option.some.inj h0]⟩
theorem small1 : ∀ r ∈ rs1, Small r := fun r hr => small0 r (by rw [List.mem_singleton.mp hr]; exact List.mem_cons_self)
def d1 : PyData := .tuple [.tuple [.int 1, .str ""]]
def d2 : PyData := .tuple []
def d3 : PyData := .tuple [.tuple [.int 0, .str ""], .tuple [.int 1, .str ""]]
theorem out1 : outC rs0 d1 = .back rs1 := chk1_ok (by decide +kernel) valid1
theorem out2 : outC rs0 d2 = .back rs0 := chk1_ok (by decide +kernel) valid0
theorem cText3 : wrongI rs0.length [.tuple [.int 0, .str ""], .tuple [.int 1, .str ""]] = none ∧ cText rs0 (csOf [.tuple [.int 0, .str ""], .tuple [.int 1, .str ""]]) = "" ∧ readLot ("" : Str) = none := by decide +kernel
theorem out3 : outC rs0 d3 = .txt "" := by
  show (match wrongI rs0.length [.tuple [.int 0, .str ""], .tuple [.int 1, .str ""]] with | some i => Out.chg (some i) | none => outT (cText rs0 (csOf [.tuple [.int 0, .str ""], .tuple [.int 1, .str ""]]))) = _
  rw [cText3.1, cText3.2.1]
  show outT "" = _
  unfold outT
  rw [cText3.2.2]
theorem okd1 : okD 6 9 d1 := okDb_ok (by decide +kernel)
theorem okd2 : okD 6 9 d2 := okDb_ok (by decide +kernel)
theorem okd3 : okD 6 9 d3 := okDb_ok (by decide +kernel)
theorem sheet1 : sheetL rs1 = "levels 2 end 2 dark" := by decide +kernel
theorem plain0 : ∀ r ∈ rs0, plainR r := fun r hr => by
  have h := List.all_eq_true.mp (show rs0.all (fun r => SeqAt.shaped (rtD r) && PyData.eqv (rtD r) (rtD r) && !(rtD r).hasDict) = true by decide +kernel) r hr
  simp only [Bool.and_eq_true, Bool.not_eq_true'] at h
  exact ⟨h.1.1, h.1.2, h.2⟩
/-! ### answers that are no lot -/
theorem outQ_err {K : PySem.W.Frag} {mg : Str → Option Value} (T2 : Txt2 K mg) {o : Out} (ho : okO o) (hn : ∀ rs, o ≠ .back rs) {H : Hp} {Q Qb : VK} {Ee : XK}
    (he : (fun cls d H1 => PySem.W.exmAny K cls [.ref (He.ga K "WrongValue"), .ref (He.ga K "WrongName"), .ref (He.ga K "NotPossible")] = some true ∧ SortQ K cls d H1 Q) = Ee)
    (q : ∀ y H', Ex H H' → Rp K H' y (ansD o) → Q y H') : OutQ K H Qb Ee o := by
  subst he
  cases o with
  | back rs => exact absurd rfl (hn rs)
  | chg o =>
    intro dd H2 e2 hdd
    exact ⟨T2.x_ch.any, .inl ⟨rfl, dd, o, rfl, hdd, ho, fun l H3 e3 hr => q _ _ (e2.trans e3) hr⟩⟩
  | txt z =>
    intro dd H2 e2 hdd
    have := (sh_repr ho).1
    exact ⟨T2.x_tx.any, .inr ⟨rfl, dd, z, rfl, hdd, by rw [sizeLine_eq]; omega, fun l H3 e3 hr => q _ _ (e2.trans e3) hr⟩⟩
end Lk
namespace Lk
open PySem PySem.Spec PyProof.Rows L2 Evl Lm TL LamX
theorem boot_max9 : bootBuiltins "max" = some (.builtin "max") := by decide +kernel
theorem boot_min9 : bootBuiltins "min" = some (.builtin "min") := by decide +kernel
section
variable {X : Cx} {e : Expr} {es : List Expr} {t : TA} {p pos : Pos}
theorem b_max2 (T : Txt X.K X.mg) (ha : PA X (e :: es) t) (hc : X.calm = true := by rfl) (hg : Gl X "max" := by rfl) (he : starEach (e :: es) X.env = (false, eval e X.env) :: starEach es X.env := by rfl) (hpl : (backTo pos (starEach es X.env)).any (·.1) = false := by rfl) :
    PE X (.Call (.Name "max" p) (e :: es) [] pos) (tCB (fun xs H Q => ∃ i j, xs = [.int i, .int j] ∧ Q (.int (if j > i then j else i)) H) t) := pe_callB (call_max2 hc) hg T.f_max boot_max9 ha (he := he) (hpl := hpl)
theorem b_min2 (T : Txt X.K X.mg) (ha : PA X (e :: es) t) (hc : X.calm = true := by rfl) (hg : Gl X "min" := by rfl) (he : starEach (e :: es) X.env = (false, eval e X.env) :: starEach es X.env := by rfl) (hpl : (backTo pos (starEach es X.env)).any (·.1) = false := by rfl) :
    PE X (.Call (.Name "min" p) (e :: es) [] pos) (tCB (fun xs H Q => ∃ i j, xs = [.int i, .int j] ∧ Q (.int (if j < i then j else i)) H) t) := pe_callB (call_min2 hc) hg T.f_min boot_min9 ha (he := he) (hpl := hpl)
end
theorem ext_ex {H H' : Hp} (e : Ext H H') : Ex H H' := fun b o h => e b o h
theorem exn_fresh {pl : Addr} {H H1 H2 : Hp} (h : H pl = none) (e : Ex H H1) (e2 : ExN (hide pl H1) (hide pl H2)) : ExN H H2 := fun b o q n => by
  have hb : b ≠ pl := fun z => by rw [z, h] at q; cases q
  have := e2 b o (by rw [hide_ne hb]; exact e _ _ q) n
  rwa [hide_ne hb] at this
theorem sh9 : (List.range 9).all (fun k => SeqAt.shaped (srD "InvalidChanges" (ats9.getD k "")) && PyData.eqv (srD "InvalidChanges" (ats9.getD k "")) (srD "InvalidChanges" (ats9.getD k ""))) = true := by decide +kernel
theorem shT : (SeqAt.shaped (ansD (.txt "")) && PyData.eqv (ansD (.txt "")) (ansD (.txt ""))) = true := by decide +kernel
theorem rp_strs {K : PySem.W.Frag} {H : Hp} {l : Addr} {a b : Str} (h : H l = some (.lst [.str a, .str b])) : Rp K H (.ref l) (srD a b) := .lst (.of h) (.cons (.str a) (.cons (.str b) .nil))
theorem RpA.getD {K : PySem.W.Frag} {H : Hp} {xs : List V} {ds : List PyData} {i : Nat} (h : RpA K H xs ds) (hi : i < xs.length) : Rp K H xs[i] (ds.getD i .none) := by
  obtain ⟨d, hd, hr⟩ := h.get (List.getElem?_eq_getElem hi)
  rw [List.getD_eq_getElem?_getD, hd]
  exact hr
/-! ### law -/
def qL : Str := ("law" : Str) ++ ".<locals>."
abbrev N68 : List Str := ["_law_script", "_law_mine", "_law_wrong", "_law_at", "_law_k", "_law_turn"]
theorem sc68 : FnScope N68 ["_law_script"] (defScope (top 68)) := ⟨rfl, rfl, rfl, by decide +kernel, rfl, by decide +kernel, by decide +kernel⟩
def spLaw (K : PySem.W.Frag) (T0 : List (Addr × Str)) : Sp := fun vs H Q _ => ∃ (a : Addr) (ns : List Int), vs = [.ref a] ∧ SqL K H a (ns.map V.int) ∧ ns.length ≤ 63 ∧ (∀ z ∈ ns, Builtin.Int.intBits z ≤ 1048576) ∧ Tabs T0 H ∧ ∀ H', Q (.bl true) H'
section
variable {P : Program} {w : World} {K : PySem.W.Frag} {mg : Str → Option Value} {base : Heap}
theorem ok_law (T : Txt K mg) (T2 : Txt2 K mg) (T3 : Txt3 K) {T0 : List (Addr × Str)} {f c Pt c2 P2 : Addr} (F : IsDefC K "law" "law" (top 68) f c) (TB : TabB base mg c Pt) (hmT : (Pt, qL ++ ("<lambda>" : Str)) ∈ T0) (huT : ∀ p ∈ T0, p.1 = Pt → p.2 = qL ++ ("<lambda>" : Str))
    (F2 : IsDefC K "_law_right" "_law_right" (top 67) (He.ga K "_law_right") c2) (TB2 : TabB base mg c2 P2) (hmT2 : (P2, qR ++ ("<lambda>" : Str)) ∈ T0) (huT2 : ∀ p ∈ T0, p.1 = P2 → p.2 = qR ++ ("<lambda>" : Str)) (D2 : Dfn K mg "_law_right" (top 67)) : FnG P w K mg base 13 f (spLaw K T0) := by
  refine mkG F sc68 (fun vs H Q E h => ?_) (fun _ _ _ _ _ _ us hl => match us, hl with | [_], _ => rfl) (fun A outer s H vs Q E hr hg h => ?_)
  · obtain ⟨a, ns, rfl, _⟩ := h
    rfl
  · obtain ⟨a, ns, rfl, hs, hns, hbits, hT, k⟩ := h
    have hmT' : ∀ q : Str, q = qL → (Pt, q ++ ("<lambda>" : Str)) ∈ T0 := by rintro _ rfl; exact hmT
    have huT' : ∀ q : Str, q = qL → ∀ p ∈ T0, p.1 = Pt → p.2 = q ++ ("<lambda>" : Str) := by rintro _ rfl; exact huT
    have hu64 : (A.deeper (envOfC "law" (defScope (top 68)) s.heap.objs.size f (.ref c))).units + 64 < cLine := by have := hr.un; omega
    have hr11 : Room 11 (A.deeper (envOfC "law" (defScope (top 68)) s.heap.objs.size f (.ref c))) := hr.mono (by decide)
    refine ⟨_, (pss_cons (ps_set (i := 1) sc68.nd rfl (.inr rfl) (ClX.pe_cmeth (pe_glob (v := .ref (cL K)) rfl T.g_Lot rfl) T.l_cread T.l_read (ok_read T) (hr.mono (by decide)) passN (pa_cons pe_str pa_nil)))
  (pss_cons (ps_if (PW.pt (pw_or (pt_cmpR op_ne (pe_text T (SlX.pe_methSl (E := E0) (pv 1) T.l_f.sc T.l_changed.me (ok_changed2 T).1 (hr.mono (by decide)) passN (pa_cons (pd_tup (pda_cons (pd_tup (pda_cons pd_int (pda_cons pd_str pda_nil))) pda_nil)) pa_nil)) hr) pe_str (nomark _)) (pw_or1 (pt_cmpR (op_neL T T3 hr) (SlX.pe_methSl (E := E0) (pv 1) T.l_f.sc T.l_changed.me (ok_changed2 T).1 (hr.mono (by decide)) passN (pa_cons (pd_tup pda_nil) pa_nil)) (pv 1) (nomark _)))))
  (pss_one (ps_ret pe_bl))
  pss_nil)
  (pss_cons (ps_if (pt_cmpR (op_neD hu64) (pe_ans (T0 := T0) (tb := fun E => SlX.tMethSl (cL K) (spCh K) E (tVar 1) (tCons (tD K d3) tNil)) T T2 TB rfl (hmT' _ (by rfl)) (huT' _ (by rfl)) hr11 (by decide) (show LamS (defScope (top 68)) _ from lamS_by (by decide +kernel)) (fun A outer s H E f c' hr' => lam_ch T hr' (pv 1) (pa_cons (pd_tup (pda_cons (pd_tup (pda_cons pd_int (pda_cons pd_str pda_nil))) (pda_cons (pd_tup (pda_cons pd_int (pda_cons pd_str pda_nil))) pda_nil))) pa_nil))) (pe_lst (pa_cons pe_str (pa_cons (b_repS T (pa_cons pe_str pa_nil)) pa_nil))) (nomark _))
  (pss_one (ps_ret pe_bl))
  pss_nil)
  (pss_cons (ps_set (i := 2) sc68.nd rfl (.inr rfl) (pe_lst (pda_cons (pd_tup (pda_cons (pd_tup (pda_cons pd_int (pda_cons pd_str pda_nil))) pda_nil)) (pda_cons (pd_tup (pda_cons (pd_tup (pda_cons (pe_to (pe_un un_neg pe_int) (tf := tD K (.int (-1))) fun σ H Q q => ⟨1, rfl, q _ _ (.refl _) (.int (-1))⟩) (pda_cons pd_str pda_nil))) pda_nil)) (pda_cons (pd_tup (pda_cons (pd_tup (pda_cons pd_int (pda_cons pd_str pda_nil))) (pda_cons (pd_tup (pda_cons pd_int (pda_cons pd_str pda_nil))) pda_nil))) (pda_cons (pd_tup (pda_cons (pd_tup (pda_cons pd_int (pda_cons pd_str pda_nil))) pda_nil)) (pda_cons (pd_tup (pda_cons pd_int (pda_cons pd_str pda_nil))) (pda_cons (pd_lst (pda_cons (pd_tup (pda_cons pd_int (pda_cons pd_str pda_nil))) pda_nil)) (pda_cons (pd_tup (pda_cons (pd_tup (pda_cons (pe_to pe_bl (tf := tD K (.bool true)) fun σ H Q q => q _ _ (.refl _) (.bl true)) (pda_cons pd_str pda_nil))) pda_nil)) pda_nil)))))))))
  (pss_cons (ps_set (i := 2) sc68.nd rfl (.inr rfl) (pe_op op_cat (pv 2) (pe_lst (pda_cons (pe_to pe_non (tf := tD K .none) fun σ H Q q => q _ _ (.refl _) .non) (pda_cons (pd_tup (pda_cons (pd_tup (pda_cons pd_int pda_nil)) pda_nil)) pda_nil)))))
  (pss_cons (ps_set (i := 3) sc68.nd rfl (.inl rfl) (pe_lst (pa_cons pe_str (pa_cons pe_str (pa_cons pe_str (pa_cons pe_str (pa_cons pe_str (pa_cons pe_str (pa_cons pe_str (pa_cons pe_str (pa_cons pe_str pa_nil)))))))))))
  (pss_cons (ps_for PassesOwn.never rfl (pi_range1 rfl T.f_range (pa_cons (b_len T (pa_cons (pv 2) pa_nil)) pa_nil)) (pg_name (i := 4) sc68.nd rfl (.inr rfl))
  (pss_one (ps_if (pt_cmpR (op_neD hu64) (pe_ans (T0 := T0) (tb := fun E => SlX.tMethSl (cL K) (spCh K) E (tVar 1) (tCons (tOp (rIxL K) (tVar 2) (tVar 4)) tNil)) T T2 TB rfl (hmT' _ (by rfl)) (huT' _ (by rfl)) hr11 (by decide) (show LamS (defScope (top 68)) _ from lamS_by (by decide +kernel)) (fun A outer s H E f c' hr' => lam_ch T hr' (pv 1) (pa_cons (pe_ix ix_list (pv 2) (pv 4) (fun _ _ => rfl)) pa_nil))) (pe_lst (pa_cons pe_str (pa_cons (pe_ix ix_list (pv 3) (pv 4) (fun _ _ => rfl)) pa_nil))) (nomark _))
    (pss_one (ps_ret pe_bl))
    pss_nil)))
  (pss_one (ps_ret (b_all T (pa_cons (pe_lc (own := [("_law_turn", 5)]) (te := tC1 (spRight K T0) (tCons (tC1 (spBeg K) (tCons (tVar 0) (tCons (tVar 5) tNil))) tNil)) rfl sc68.nd (pi_range1 rfl T.f_range (pa_cons (b_max2 T (pa_cons pe_int (pa_cons (b_min2 T (pa_cons (b_len T (pa_cons (pv 0) pa_nil)) (pa_cons pe_int pa_nil))) pa_nil))) pa_nil)) (blkOk_by (N := N68) (sc := defScope (top 68)) (by decide +kernel)) (fun _ _ _ _ _ => (pg_name (i := 5) sc68.nd rfl (.inl rfl))) (fun _ _ _ _ _ => pts_nil) (fun _ _ _ _ _ => (pe_dG D2 (ok__law_right T T2 F2 TB2 hmT2 huT2) hr hg (pa_cons (pe_d T.d__law_begun (ok__law_begun T) hr (pa_cons (pv 0) (pa_cons (pv 5) pa_nil))) pa_nil)))) pa_nil))))))))))), ?_⟩
    obtain ⟨b1, b2, b3⟩ := split0
    refine ⟨rfl, .ref (cL K), text0, rfl, b1, b2, b3, fun rs' hr' m H1 e1 hlt => ?_, fun hr' => ?_⟩
    rotate_left
    · rw [read0] at hr'; cases hr'
    rw [read0] at hr'
    cases hr'
    obtain ⟨ma, dx, ss, rfl, hslt⟩ := hlt.slt
    refine ⟨.ref ma, rfl, ma, dx, ss, rfl, hslt, fun v1 H2 e2 hv1 => ?_⟩
    refine ⟨.ref ma, v1, rs0, d1, rfl, hlt.x e2, small0, by decide, hv1, okD_shortD okd1, ?_⟩
    rw [out1]
    refine fun y H3 e3 hy => ?_
    refine ⟨y, rs1, rfl, hy, small1, by decide, fun H4 e4 => ?_⟩
    rw [sheet1]
    refine ⟨rfl, _, rfl, ?_⟩
    rw [ne_self]
    refine itF ?_
    have e14 := (e2.trans e3).trans e4
    have hlt4 := hlt.x e14
    obtain ⟨_, dx4, ss4, ema, hslt4⟩ := hlt4.slt
    cases ema
    refine ⟨.ref ma, rfl, ma, dx4, ss4, rfl, hslt4, fun v2 H5 e5 hv2 => ?_⟩
    refine ⟨.ref ma, v2, rs0, d2, rfl, hlt4.x e5, small0, by decide, hv2, okD_shortD okd2, ?_⟩
    rw [out2]
    refine fun y2 H6 e6 hy2 => ?_
    have hlt6 := (hlt4.x e5).x e6
    obtain ⟨_, dx6, ss6, ema, hslt6⟩ := hlt6.slt
    cases ema
    obtain ⟨ya, ydx, yss, rfl, hys⟩ := hy2.slt
    refine ⟨.ref ma, rfl, ⟨ya, ma, ydx, dx6, yss, ss6, rfl, rfl, hys, hslt6, rs0, hy2, hlt6, plain0⟩, fun H7 e7' => ?_⟩
    have e7 := ext_ex e7'
    refine ⟨_, rfl, itF ?_⟩
    have e17 := ((e14.trans e5).trans e6).trans e7
    have hlt7 := hlt6.x e7
    have t7 := hT.ext (e1.trans e17)
    have hs7 := ex_l (e1.trans e17) hs
    clear hslt hslt4 hslt6 hys hy2 hy hlt hlt4 hlt6 hv1 hv2 e1 e2 e3 e4 e5 e6 e7 e7' e14 e17
    refine ⟨t7, fun H8 e8 t8 => ?_⟩
    have hlt8 := hlt7.n e8
    obtain ⟨_, dx8, ss8, ema, hslt8⟩ := hlt8.slt
    cases ema
    refine ⟨.ref ma, rfl, ma, dx8, ss8, rfl, hslt8, fun v3 H9 e9 hv3 => ?_⟩
    refine ⟨.ref ma, v3, rs0, d3, rfl, hlt8.x e9, small0, by decide, hv3, okD_shortD okd3, ?_⟩
    rw [out3]
    refine outQ_err T2 (o := .txt "") ⟨by decide, fun c hc => nomatch hc⟩ (fun rs => nofun) rfl fun y3 H10 e10 hy3 => ?_
    refine .inr (.inr ⟨"", rfl, by decide +kernel, by show 2 ≤ sizeLine; decide, fun l11 hl11 => ?_⟩)
    have e11 : Ex H10 (L2.upd H10 l11 (.lst [.str "InvalidText", .str (reprText "")])) := Ex.new hl11
    have k11 : L2.upd H10 l11 (.lst [.str "InvalidText", .str (reprText "")]) l11 = _ := upd_same
    generalize L2.upd H10 l11 (.lst [.str "InvalidText", .str (reprText "")]) = H11 at e11 k11 ⊢
    obtain ⟨st1, st2⟩ := Bool.and_eq_true_iff.mp shT
    refine ⟨ansD (.txt ""), ansD (.txt ""), Rp.dp _ _ (hy3.x e11) rfl, Rp.dp _ _ (rp_strs k11) rfl, st1, st1, ?_⟩
    rw [st2]
    refine ⟨_, rfl, itF ?_⟩
    have e811 := (e9.trans e10).trans e11
    have t11 := t8.ext e811
    have hs11 := ex_l e811 (sqL_n e8 hs7)
    have hlt11 := hlt8.x e811
    clear hslt8 hlt8 hlt7 t8 e9 e10 e11 e811 e8 hs7 t7 k11 hy3 hv3
    refine fun vs7 H12 e12 h7 => ⟨by rw [h7.len]; decide, fun l13 hl13 => ?_⟩
    have e13 : Ex H12 (L2.upd H12 l13 (.lst vs7)) := Ex.new hl13
    have k13 : L2.upd H12 l13 (.lst vs7) l13 = _ := upd_same
    show tSeq _ _ _ _ (L2.upd H12 l13 (.lst vs7))
    generalize L2.upd H12 l13 (.lst vs7) = H13 at e13 k13 ⊢
    refine ⟨.ref l13, rfl, fun vs2 H14 e14 h2 => ⟨by rw [h2.len]; decide, fun l15 hl15 => ?_⟩⟩
    have e15 : Ex H14 (L2.upd H14 l15 (.lst vs2)) := Ex.new hl15
    have k15 : L2.upd H14 l15 (.lst vs2) l15 = _ := upd_same
    generalize L2.upd H14 l15 (.lst vs2) = H15 at e15 k15 ⊢
    have l7 : vs7.length = 7 := h7.len
    have l2 : vs2.length = 2 := h2.len
    refine ⟨l13, l15, _, _, rfl, rfl, e15 _ _ (e14 _ _ k13), k15, by rw [l7, l2]; decide, fun l16 hl16 => ?_⟩
    have e16 : Ex H15 (L2.upd H15 l16 (.lst (vs7 ++ vs2))) := Ex.new hl16
    have k16 : L2.upd H15 l16 (.lst (vs7 ++ vs2)) l16 = _ := upd_same
    show tSeq _ _ _ _ (L2.upd H15 l16 (.lst (vs7 ++ vs2)))
    generalize L2.upd H15 l16 (.lst (vs7 ++ vs2)) = H16 at e16 k16 ⊢
    have h9 : RpA K H16 (vs7 ++ vs2) ds9 := ((((h7.x e13).x e14).x e15).x e16).app ((h2.x e15).x e16)
    have l9 : (vs7 ++ vs2).length = 9 := by rw [List.length_append, l7, l2]
    have e1116 := (((e12.trans e13).trans e14).trans e15).trans e16
    generalize vs7 ++ vs2 = us at k16 h9 l9
    have t16 := t11.ext e1116
    have hs16 := ex_l e1116 hs11
    have hlt16 := hlt11.x e1116
    clear e12 e13 e14 e15 e16 e1116 hlt11 hs11 t11 k13 k15 h7 h2 l7 l2
    refine ⟨by show 9 ≤ sizeLine; decide, fun l18 hl18 => ?_⟩
    have e18 : Ex H16 (L2.upd H16 l18 (.lst (ats9.map V.str))) := Ex.new hl18
    have k18 : L2.upd H16 l18 (.lst (ats9.map V.str)) l18 = _ := upd_same
    show tSeq _ _ _ _ (L2.upd H16 l18 (.lst (ats9.map V.str)))
    generalize L2.upd H16 l18 (.lst (ats9.map V.str)) = H18 at e18 k18 ⊢
    have k16' := e18 _ _ k16
    have h18 := h9.x e18
    have t18 := t16.ext e18
    have hs18 := ex_l e18 hs16
    have hlt18 := hlt16.x e18
    refine ⟨.ref l16, rfl, .ref l16, us.length, rfl, .inl ⟨us, .of k16', rfl⟩, us.length, rfl, by rw [l9]; decide, by rw [l9]; decide, ?_⟩
    rw [Int.toNat_natCast, l9]
    refine for_range (lo := 0) (n := 9) (fun i σ' H' => (∃ u4, σ' = [some (.ref a), some (.ref ma), some (.ref l16), some (.ref l18), u4, none]) ∧ ExN H18 H' ∧ Tabs T0 H') ⟨⟨_, rfl⟩, .refl _, t18⟩ ?_ ?_
    · rintro i σ' H' hi ⟨⟨u4, rfl⟩, e19, t19⟩
      refine ⟨t19, fun H20 e20 t20 => ?_⟩
      have e1820 := e19.trans e20
      have hlt20 := hlt18.n e1820
      obtain ⟨_, dx20, ss20, ema, hslt20⟩ := hlt20.slt
      cases ema
      have hi' : i < us.length := by rw [l9]; exact hi
      obtain ⟨o1, o2, o3, o4⟩ := at9 hi
      refine ⟨.ref ma, rfl, ma, dx20, ss20, rfl, hslt20, .ref l16, rfl, .int (0 + (i : Int)), rfl, l16, us, 0 + (i : Int), us[i], rfl, rfl, .of (exn_l e1820 k16'), by rw [Int.zero_add]; exact atI_nat (List.getElem?_eq_getElem hi'), ?_⟩
      refine ⟨.ref ma, us[i], rs0, ds9.getD i .none, rfl, hlt20, small0, by decide, (RpA.n e1820 _ _ h18).getD hi', okD_shortD o4, outQ_err T2 o1 o2 rfl fun y H21 e21 hy => ?_⟩
      rw [o3] at hy
      have hi9 : i < ats9.length := hi
      have k21 := e21 _ _ (exn_l e1820 k18)
      refine ⟨.ref l18, rfl, .int (0 + (i : Int)), rfl, l18, _, 0 + (i : Int), .str (ats9.getD i ""), rfl, rfl, .of k21, ?_, by show 2 ≤ sizeLine; decide, fun l22 hl22 => ?_⟩
      · rw [Int.zero_add]
        exact atI_nat (by rw [List.getElem?_map, List.getElem?_eq_getElem hi9, List.getD_eq_getElem?_getD, List.getElem?_eq_getElem hi9]; rfl)
      have e22 : Ex H21 (L2.upd H21 l22 (.lst [.str "InvalidChanges", .str (ats9.getD i "")])) := Ex.new hl22
      have k22 : L2.upd H21 l22 (.lst [.str "InvalidChanges", .str (ats9.getD i "")]) l22 = _ := upd_same
      generalize L2.upd H21 l22 (.lst [.str "InvalidChanges", .str (ats9.getD i "")]) = H22 at e22 k22 ⊢
      obtain ⟨s1, s2⟩ := Bool.and_eq_true_iff.mp (List.all_eq_true.mp sh9 i (List.mem_range.mpr hi))
      refine ⟨srD "InvalidChanges" (ats9.getD i ""), srD "InvalidChanges" (ats9.getD i ""), Rp.dp _ _ (hy.x e22) rfl, Rp.dp _ _ (rp_strs k22) rfl, s1, s1, ?_⟩
      rw [s2]
      refine ⟨_, rfl, itF ?_⟩
      exact ⟨⟨_, rfl⟩, e1820.trans (exN (e21.trans e22)), t20.ext (e21.trans e22)⟩
    · rintro σ' H19 ⟨⟨u4, rfl⟩, e19, t19⟩
      have hs19 := sqL_n e19 hs18
      obtain ⟨n, hn, hn6⟩ : ∃ n : Nat, (if (if (6 : Int) < (ns.length : Int) then (6 : Int) else (ns.length : Int)) > 2 then (if (6 : Int) < (ns.length : Int) then (6 : Int) else (ns.length : Int)) else 2) = (n : Int) ∧ n ≤ 6 := by
        by_cases h6 : (6 : Int) < (ns.length : Int)
        · rw [if_pos h6]
          exact ⟨6, by decide, by decide⟩
        · rw [if_neg h6]
          by_cases h2 : (ns.length : Int) > 2
          · rw [if_pos h2]
            exact ⟨ns.length, rfl, by omega⟩
          · rw [if_neg h2]
            exact ⟨2, rfl, by decide⟩
      refine ⟨.ref a, rfl, .ref a, ns.length, rfl, .inl ⟨_, hs19, by rw [List.length_map]⟩, ns.length, 6, rfl, 2, _, rfl, ?_⟩
      rw [hn]
      refine ⟨n, rfl, by omega, by omega, ?_⟩
      rw [Int.toNat_natCast]
      refine fun D hD => lc_range (lo := 0) (n := n) (fun i H' => ExN H19 H' ∧ Tabs T0 H' ∧ H' D = some (.lst (List.replicate i (.bl true)))) ⟨exN (Ex.new hD), t19.ext (Ex.new hD), upd_same⟩ (fun i H' hi ⟨e, t, hd⟩ => ?_) (fun H' ⟨e, t, hd⟩ => ?_)
      · refine ⟨rfl, .ref a, rfl, .int (0 + (i : Int)), rfl, a, ns, i, by rw [Int.zero_add], sqL_n e hs19, by omega, by omega, hbits, fun pl H2 e2 hpl hp2 => ?_⟩
        refine ⟨pl, rfl, hp2, t.ext e2, fun H3 x3 => ?_⟩
        have e3 : ExN H' H3 := exn_fresh hpl e2 x3.ex
        have hd3 := exn_l e3 hd
        refine ⟨_, hd3, by rw [List.length_replicate, sizeLine_eq]; omega, exn_mut (e.trans e3) hD, (Tabs.hideL hd3 x3.tabs).ext hide_upd_ex, ?_⟩
        rw [upd_same, List.replicate_succ']
      · refine ⟨D, List.replicate n true, rfl, .of (by rw [hd, List.map_replicate]), ?_⟩
        have hall : (List.replicate n true).all id = true := by simp
        rw [hall]
        exact k _
end
end Lk
namespace Lk
open PySem PySem.Spec PyProof.Rows L2 Evl Lm TL LamX
/-! ### what the Hook looks at -/
def dGz (x : Str) (i : Nat) : He5.DefA := { at_ := fun K => He.ga K x, name := x, qual := x, params := defArgs (top i), body := defBody (top i), scope := defScope (top i) }
def dMz (C m q : Str) (c i : Nat) : He5.DefA := { at_ := fun K => He.ma K (He.ga K C) m, name := m, qual := q, params := defArgs (mth c i), body := defBody (mth c i), scope := defScope (mth c i) }
def dPz (C : Str) (T : String) (f q : Str) (c i : Nat) : He5.DefA := { at_ := fun K => He5.wf K (He.ga K C) T f, name := f, qual := q, params := defArgs (mth c i), body := defBody (mth c i), scope := defScope (mth c i) }
/-- a class with slots -/
def clZ (K : PySem.W.Frag) (C : Addr) : Bool := (PySem.W.plainGet K C Str.empty && (PySem.W.isClsIn K C && (PySem.W.plainOver K C && He.eqO (PySem.W.findIn K (.ref C) "__setattr__") (some (some (.builtin "object.__setattr__")))))) &&
  ((He.eqO (PySem.W.findIn K (.ref C) "__class__") (some (some (.builtin "object.__class__"))) && (He.eqO (PySem.W.specialIn K (.builtin "object.__class__") "__get__") (some (some (.builtin "getset_descriptor.__get__"))) &&
    (decide (PySem.W.takesIn K (.builtin "object.__class__") = some true) && decide (PySem.W.mroIn K C (.type "object") = some true)))) &&
  (PySem.W.makesIn K C && (He.eqO (PySem.W.findIn K (.ref C) "__init__") (some (some (.ref (He.ma K C "__init__")))) && (PySem.W.isFn K (.ref (He.ma K C "__init__")) && PySem.W.keepIn K (.ref C)))))
theorem clZ_ok {K : PySem.W.Frag} {C : Addr} (h : clZ K C = true) : SlF K C := by
  obtain ⟨h1, h⟩ := He.ba h
  obtain ⟨h2, h3⟩ := He.ba h
  obtain ⟨a1, h1⟩ := He.ba h1
  obtain ⟨a2, h1⟩ := He.ba h1
  obtain ⟨a3, a4⟩ := He.ba h1
  obtain ⟨b1, h2⟩ := He.ba h2
  obtain ⟨b2, h2⟩ := He.ba h2
  obtain ⟨b3, b4⟩ := He.ba h2
  obtain ⟨c1, h3⟩ := He.ba h3
  obtain ⟨c2, h3⟩ := He.ba h3
  obtain ⟨c3, c4⟩ := He.ba h3
  exact ⟨⟨a1, a2, a3, He.eqO_ok a4⟩, ⟨He.eqO_ok b1, He.eqO_ok b2, of_decide_eq_true b3, of_decide_eq_true b4⟩, ⟨c1, He.eqO_ok c2, c3, c4⟩⟩
/-- one slot -/
def slZ (K : PySem.W.Frag) (C : Addr) (f : Str) (i : Nat) : Bool := He.eqO (PySem.W.findIn K (.ref C) f) (some (some (.ref (He.ma K C f)))) && (He.eqO (PySem.W.specialIn K (.ref (He.ma K C f)) "__get__") (some (some (.builtin "member_descriptor.__get__"))) &&
  (decide (PySem.W.takesIn K (.ref (He.ma K C f)) = some true) && (decide (PySem.W.typeIn K (.ref (He.ma K C f)) = some (.type "member_descriptor")) && decide (PySem.W.slotIn K (He.ma K C f) C = some i))))
theorem slZ_ok {K : PySem.W.Frag} {C : Addr} {f : Str} {i : Nat} (h : slZ K C f i = true) (hi : i < 1000) : SlX.Slot1 K C f (He.ma K C f) i := by
  obtain ⟨h1, h⟩ := He.ba h
  obtain ⟨h2, h⟩ := He.ba h
  obtain ⟨h3, h⟩ := He.ba h
  obtain ⟨h4, h5⟩ := He.ba h
  exact ⟨He.eqO_ok h1, He.eqO_ok h2, of_decide_eq_true h3, of_decide_eq_true h4, of_decide_eq_true h5, hi⟩
/-- a property -/
def prZ (K : PySem.W.Frag) (C : Addr) (f : Str) : Bool := He.eqO (PySem.W.findIn K (.ref C) f) (some (some (.ref (He.ma K C f)))) && (He.eqO (PySem.W.specialIn K (.ref (He.ma K C f)) "__get__") (some (some (.builtin "property.__get__"))) &&
  (decide (PySem.W.takesIn K (.ref (He.ma K C f)) = some true) && (match PySem.W.recIn K (He.ma K C f) "property" with
    | some (.ref _ :: _) => true
    | _ => false)))
theorem prZ_ok {K : PySem.W.Frag} {C : Addr} {f qual : Str} {st : Stmt} (h : prZ K C f = true) (D : IsDef K f qual st (He5.wf K C "property" f)) : PropF K C f qual st := by
  obtain ⟨h1, h⟩ := He.ba h
  obtain ⟨h2, h⟩ := He.ba h
  obtain ⟨h3, h4⟩ := He.ba h
  refine ⟨He.eqO_ok h1, He.eqO_ok h2, of_decide_eq_true h3, ?_, D⟩
  unfold He5.wf
  split at h4
  · rename_i g r e
    exact ⟨r, by rw [e]⟩
  · cases h4
/-- an own exception -/
def xcZ (K : PySem.W.Frag) (C : Addr) (f : Str) : Bool := (match K.lookup C with
  | some ⟨.type t, _, .cls cd, sl⟩ => decide (t = "type") && (match cd.mro, sl.toList with
    | .ref C' :: bm, [_, _, _, _, some (.builtin n), _] => decide (C' = C) && (decide (n = "ValueError.__new__") && (!cd.hasDel && (cd.hasDict && PySem.HandSPX.refsVE bm)))
    | _, _ => false)
  | _ => false) && (He.eqO (PySem.W.findIn K (.ref C) "__setattr__") (some (some (.builtin "object.__setattr__"))) && (decide (PySem.W.subIn K (.ref C) (.type "BaseException") = some true) && (decide (PySem.W.typeIn K (.ref C) = some (.type "type")) && (PySem.W.keepIn K (.ref C) &&
  (He.eqO (PySem.W.findIn K (.ref C) "__init__") (some (some (.ref (He.ma K C "__init__")))) && (decide (PySem.W.typeIn K (.ref (He.ma K C "__init__")) = some (.type "function")) && (He.eqO (PySem.W.findIn K (.ref C) f) (some none) && L2.xfB K C)))))))
theorem sl6 {sl : Array (Option Value)} {a b c d e f : Option Value} (h : sl.toList = [a, b, c, d, e, f]) : sl = #[a, b, c, d, e, f] := by
  rw [← Array.toList_inj, h]
theorem xcZ_ok {K : PySem.W.Frag} {mg : Str → Option Value} {x f qual : Str} {st : Stmt} (h : xcZ K (He.ga K x) f = true) (hg : mg x = some (.ref (He.ga K x))) (D : IsDef K "__init__" qual st (He.ma K (He.ga K x) "__init__")) : XcF K mg x f qual st := by
  obtain ⟨h1, h⟩ := He.ba h
  obtain ⟨h2, h⟩ := He.ba h
  obtain ⟨h3, h⟩ := He.ba h
  obtain ⟨h4, h⟩ := He.ba h
  obtain ⟨h5, h⟩ := He.ba h
  obtain ⟨h6, h⟩ := He.ba h
  obtain ⟨h7, h⟩ := He.ba h
  obtain ⟨h8, h9⟩ := He.ba h
  refine ⟨hg, ⟨?_, He.eqO_ok h2, of_decide_eq_true h3, of_decide_eq_true h4, h5⟩, He.eqO_ok h6, of_decide_eq_true h7, He.eqO_ok h8, L2.xfB_ok h9, D⟩
  clear h2 h3 h4 h5 h6 h7 h8 h9
  generalize He.ga K x = C at h1
  split at h1
  · rename_i t od cd sl e
    obtain ⟨k1, k2⟩ := He.ba h1
    have k1 := of_decide_eq_true k1
    subst k1
    obtain ⟨nm, bs, mro, ns, qn, hd, sn, sub, ab, col, hdl⟩ := cd
    dsimp only at k2
    split at k2
    · rename_i C' bm a b c d n f' es
      obtain ⟨m1, k2⟩ := He.ba k2
      obtain ⟨m2, k2⟩ := He.ba k2
      obtain ⟨m3, k2⟩ := He.ba k2
      obtain ⟨m4, m5⟩ := He.ba k2
      have m1 := of_decide_eq_true m1
      have m2 := of_decide_eq_true m2
      have es := sl6 es
      subst es m1 m2
      cases hd with
      | false => cases m4
      | true =>
        cases hdl with
        | true => cases m3
        | false => exact ⟨nm, qn, ns, bs, bm, sn, sub, ab, col, od, a, b, c, d, f', e, m5⟩
    · cases k2
  · cases h1
def exZ (K : PySem.W.Frag) (D : Addr) (ch tx : Bool) : Bool := (He.eqO (PySem.W.findIn K (.ref D) "__getattribute__") (some (some (.builtin "BaseException.__getattribute__"))) && (He.eqO (PySem.W.findIn K (.ref D) "__getattr__") (some none) && (decide (PySem.W.subIn K (.ref D) (.type "BaseException") = some true) && (PySem.W.hasDictIn K D &&
  (He.eqO (PySem.W.findIn K (.ref D) "__class__") (some (some (.builtin "object.__class__"))) && (He.eqO (PySem.W.specialIn K (.builtin "object.__class__") "__get__") (some (some (.builtin "getset_descriptor.__get__"))) && (decide (PySem.W.takesIn K (.builtin "object.__class__") = some true) && decide (PySem.W.mroIn K D (.type "object") = some true)))))))) &&
  (decide (PySem.W.kitOne K (.ref D) (.ref (He.ga K "WrongValue")) = some true) && (decide (PySem.W.kitOne K (.ref D) (.ref (He.ga K "WrongName")) = some false) && (decide (PySem.W.kitOne K (.ref D) (.ref (He.ga K "NotPossible")) = some false) &&
  (decide (PySem.W.kitOne K (.ref D) (.type "ValueError") = some true) && (decide (PySem.W.kitOne K (.ref D) (.type "LookupError") = some false) && (decide (PySem.W.kitOne K (.ref D) (.type "ArithmeticError") = some false) &&
  (decide (PySem.W.kitOne K (.ref D) (.ref (He.ga K "InvalidChanges")) = some ch) && (decide (PySem.W.kitOne K (.ref D) (.ref (He.ga K "InvalidText")) = some tx) &&
  decide (PySem.W.exmAny K (.ref D) [.ref (He.ga K "WrongValue"), .ref (He.ga K "WrongName"), .ref (He.ga K "NotPossible")] = some true)))))))))
theorem exZ_ok {K : PySem.W.Frag} {D : Addr} {ch tx : Bool} (h : exZ K D ch tx = true) : ExF K D ch tx := by
  obtain ⟨a, h⟩ := He.ba h
  obtain ⟨a1, a⟩ := He.ba a
  obtain ⟨a2, a⟩ := He.ba a
  obtain ⟨a3, a⟩ := He.ba a
  obtain ⟨a4, a⟩ := He.ba a
  obtain ⟨a5, a⟩ := He.ba a
  obtain ⟨a6, a⟩ := He.ba a
  obtain ⟨a7, a8⟩ := He.ba a
  obtain ⟨b1, h⟩ := He.ba h
  obtain ⟨b2, h⟩ := He.ba h
  obtain ⟨b3, h⟩ := He.ba h
  obtain ⟨b4, h⟩ := He.ba h
  obtain ⟨b5, h⟩ := He.ba h
  obtain ⟨b6, h⟩ := He.ba h
  obtain ⟨b7, h⟩ := He.ba h
  obtain ⟨b8, b9⟩ := He.ba h
  exact ⟨⟨He.eqO_ok a1, He.eqO_ok a2, of_decide_eq_true a3, a4, He.eqO_ok a5, He.eqO_ok a6, of_decide_eq_true a7, of_decide_eq_true a8⟩, of_decide_eq_true b1, of_decide_eq_true b2, of_decide_eq_true b3, of_decide_eq_true b4, of_decide_eq_true b5, of_decide_eq_true b6, of_decide_eq_true b7, of_decide_eq_true b8, of_decide_eq_true b9⟩
def fnZ : List He5.DefA := [
  dGz "is_integer" 17,
  dGz "written_integer" 18,
  dGz "bent_lamp" 20,
  dGz "wrong_lamp" 21,
  dGz "are_levels" 22,
  dGz "text_lamp" 25,
  dGz "text_round" 26,
  dGz "check_levels" 27,
  dGz "check_number" 28,
  dGz "is_member" 30,
  dGz "wrong_member" 31,
  dGz "lot_lines" 33,
  dGz "is_change" 34,
  dGz "changed_text" 35,
  dGz "text_lot" 36,
  dGz "_law_begun" 38,
  dGz "_law_cast" 39,
  dGz "_law_any_of" 40,
  dGz "_law_vast" 41,
  dGz "_law_answer" 42,
  dGz "_law_is_whole" 43,
  dGz "_law_figure" 44,
  dGz "_law_place" 45,
  dGz "_law_picture" 46,
  dGz "_law_parts" 47,
  dGz "_law_sheet" 48,
  dGz "_law_of" 49,
  dGz "_law_thing" 50,
  dGz "_law_bent" 51,
  dGz "_law_is_levels" 52,
  dGz "_law_wrong_lamps" 53,
  dGz "_law_read" 54,
  dGz "_law_tidy" 55,
  dGz "_law_small" 56,
  dGz "_law_crowd" 57,
  dGz "_law_lot_sheet" 58,
  dGz "_law_lot_of" 59,
  dGz "_law_lot_built" 60,
  dGz "_law_fits" 61,
  dGz "_law_lot_read" 62,
  dGz "_law_lot_told" 63,
  dGz "_law_sort" 64,
  dGz "_law_wrong_change" 65,
  dGz "_law_some" 66,
  dGz "_law_right" 67,
  dGz "law" 68,
  dMz "Round" "__init__" "Round.__init__" 24 1,
  dMz "Round" "__eq__" "Round.__eq__" 24 9,
  dMz "Round" "__str__" "Round.__str__" 24 10,
  dMz "Lot" "__init__" "Lot.__init__" 32 1,
  dMz "Lot" "changed" "Lot.changed" 32 6,
  dMz "Lot" "__eq__" "Lot.__eq__" 32 8,
  dMz "Lot" "__str__" "Lot.__str__" 32 9,
  dPz "Round" "property" "levels" "Round.levels" 24 3,
  dPz "Round" "property" "lamps" "Round.lamps" 24 4,
  dPz "Round" "property" "end" "Round.end" 24 5,
  dPz "Lot" "property" "rounds" "Lot.rounds" 32 3,
  dPz "Lot" "property" "text" "Lot.text" 32 5,
  dPz "Lot" "classmethod" "read" "Lot.read" 32 2,
  dMz "InvalidChanges" "__init__" "InvalidChanges.__init__" 7 0,
  dMz "InvalidText" "__init__" "InvalidText.__init__" 2 0]
def faZ (K : PySem.W.Frag) : List Bool := [
  (He.Fa.free "isinstance").ok K,
  (He.Fa.free "int").ok K,
  (He.Fa.free "bool").ok K,
  (He.Fa.free "str").ok K,
  (He.Fa.free "tuple").ok K,
  (He.Fa.free "list").ok K,
  (He.Fa.free "dict").ok K,
  (He.Fa.free "len").ok K,
  (He.Fa.free "all").ok K,
  (He.Fa.free "abs").ok K,
  (He.Fa.free "max").ok K,
  (He.Fa.free "min").ok K,
  (He.Fa.free "sorted").ok K,
  (He.Fa.free "repr").ok K,
  (He.Fa.free "divmod").ok K,
  (He.Fa.free "range").ok K,
  (He.Fa.free "enumerate").ok K,
  (He.Fa.free "ValueError").ok K,
  (He.Fa.free "LookupError").ok K,
  (He.Fa.free "ArithmeticError").ok K,
  (He.Fa.int "MOST_LAMPS" 400).ok K,
  (He.Fa.int "MOST_ROUNDS" 4).ok K,
  (He.Fa.int "MOST_PLACE" 24).ok K,
  (He.Fa.int "MOST_END" 8).ok K,
  (He.Fa.str "DIGITS" "0123456789").ok K,
  (He.Fa.glo "LEVELS").ok K,
  He.tupB K "LEVELS" [.int 2, .int 3, .int 5, .int 7],
  (He.Fa.glo "is_integer").ok K,
  (He.Fa.glo "written_integer").ok K,
  (He.Fa.glo "bent_lamp").ok K,
  (He.Fa.glo "wrong_lamp").ok K,
  (He.Fa.glo "are_levels").ok K,
  (He.Fa.glo "text_lamp").ok K,
  (He.Fa.glo "text_round").ok K,
  (He.Fa.glo "check_levels").ok K,
  (He.Fa.glo "check_number").ok K,
  (He.Fa.glo "is_member").ok K,
  (He.Fa.glo "wrong_member").ok K,
  (He.Fa.glo "lot_lines").ok K,
  (He.Fa.glo "is_change").ok K,
  (He.Fa.glo "changed_text").ok K,
  (He.Fa.glo "text_lot").ok K,
  (He.Fa.glo "_law_begun").ok K,
  (He.Fa.glo "_law_cast").ok K,
  (He.Fa.glo "_law_any_of").ok K,
  (He.Fa.glo "_law_vast").ok K,
  (He.Fa.glo "_law_answer").ok K,
  (He.Fa.glo "_law_is_whole").ok K,
  (He.Fa.glo "_law_figure").ok K,
  (He.Fa.glo "_law_place").ok K,
  (He.Fa.glo "_law_picture").ok K,
  (He.Fa.glo "_law_parts").ok K,
  (He.Fa.glo "_law_sheet").ok K,
  (He.Fa.glo "_law_of").ok K,
  (He.Fa.glo "_law_thing").ok K,
  (He.Fa.glo "_law_bent").ok K,
  (He.Fa.glo "_law_is_levels").ok K,
  (He.Fa.glo "_law_wrong_lamps").ok K,
  (He.Fa.glo "_law_read").ok K,
  (He.Fa.glo "_law_tidy").ok K,
  (He.Fa.glo "_law_small").ok K,
  (He.Fa.glo "_law_crowd").ok K,
  (He.Fa.glo "_law_lot_sheet").ok K,
  (He.Fa.glo "_law_lot_of").ok K,
  (He.Fa.glo "_law_lot_built").ok K,
  (He.Fa.glo "_law_fits").ok K,
  (He.Fa.glo "_law_lot_read").ok K,
  (He.Fa.glo "_law_lot_told").ok K,
  (He.Fa.glo "_law_sort").ok K,
  (He.Fa.glo "_law_wrong_change").ok K,
  (He.Fa.glo "_law_some").ok K,
  (He.Fa.glo "_law_right").ok K,
  (He.Fa.glo "law").ok K,
  (He.Fa.glo "Round").ok K,
  (He.Fa.glo "Lot").ok K,
  (He.Fa.glo "InvalidChanges").ok K,
  (He.Fa.glo "InvalidText").ok K,
  (He.Fa.glo "WrongValue").ok K,
  (He.Fa.glo "WrongName").ok K,
  (He.Fa.glo "NotPossible").ok K,
  clZ K (He.ga K "Round"),
  clZ K (He.ga K "Lot"),
  slZ K (He.ga K "Round") "own_end" 0,
  slZ K (He.ga K "Round") "own_lamps" 1,
  slZ K (He.ga K "Round") "own_levels" 2,
  slZ K (He.ga K "Lot") "own_rounds" 0,
  (He.Fa.meth "Round" "__init__").ok K,
  (He.Fa.meth "Round" "__eq__").ok K,
  (He.Fa.meth "Round" "__str__").ok K,
  (He.Fa.meth "Lot" "__init__").ok K,
  (He.Fa.meth "Lot" "changed").ok K,
  (He.Fa.meth "Lot" "__eq__").ok K,
  (He.Fa.meth "Lot" "__str__").ok K,
  prZ K (He.ga K "Round") "levels",
  prZ K (He.ga K "Round") "lamps",
  prZ K (He.ga K "Round") "end",
  prZ K (He.ga K "Lot") "rounds",
  prZ K (He.ga K "Lot") "text",
  PySem.W.notFirst K (He.ga K "Round") (.ref (He.ga K "Round")),
  PySem.W.notFirst K (He.ga K "Lot") (.ref (He.ga K "Lot")),
  decide (PySem.W.kitOne K (.ref (He.ga K "Round")) (.ref (He.ga K "Round")) = some true),
  decide (PySem.W.kitOne K (.type "NoneType") (.ref (He.ga K "Round")) = some false),
  decide (PySem.W.kitOne K (.ref (He.ga K "Lot")) (.ref (He.ga K "Lot")) = some true),
  (PySem.W.readsIn K (He.ga K "Lot") (.type "type") && He.eqO (PySem.W.specialIn K (.ref (He.ga K "Lot")) "__getattribute__") (some (some (.builtin "type.__getattribute__")))),
  (He5.wrapB K (He.ga K "Lot") "classmethod" "classmethod.__get__" "read" && PySem.W.fnIn K (He5.wf K (He.ga K "Lot") "classmethod" "read")),
  xcZ K (He.ga K "InvalidChanges") "index",
  xcZ K (He.ga K "InvalidText") "given",
  exZ K (He.ga K "InvalidChanges") true false,
  exZ K (He.ga K "InvalidText") false true,
  decide (PySem.W.mroIn K (He.ga K "Lot") (.type "object") = some true),
  He.eqO (PySem.W.findIn K (.ref (He.ga K "Lot")) "__ne__") (some (some (.builtin "object.__ne__"))),
  decide ((He.cT K ("_law_right", none)).2 ≠ (He.cT K ("law", none)).2)]
def gnZ0 : List Str := ["is_integer", "written_integer", "bent_lamp", "wrong_lamp", "are_levels", "text_lamp", "text_round", "check_levels", "check_number", "is_member", "wrong_member", "lot_lines"]
def gnZ1 : List Str := ["is_change", "changed_text", "text_lot", "_law_begun", "_law_cast", "_law_any_of", "_law_vast", "_law_answer", "_law_is_whole", "_law_figure", "_law_place", "_law_picture"]
def gnZ2 : List Str := ["_law_parts", "_law_sheet", "_law_of", "_law_thing", "_law_bent", "_law_is_levels", "_law_wrong_lamps", "_law_read", "_law_tidy", "_law_small", "_law_crowd", "_law_lot_sheet"]
def gnZ3 : List Str := ["_law_lot_of", "_law_lot_built", "_law_fits", "_law_lot_read", "_law_lot_told", "_law_sort", "_law_wrong_change", "_law_some", "_law_right", "law"]
def gnZ : List Str := gnZ0 ++ (gnZ1 ++ (gnZ2 ++ (gnZ3)))
def cnZ : List Str := ["Round", "Lot", "InvalidChanges", "InvalidText", "WrongValue", "WrongName", "NotPossible"]
def tfZ : List He.Defn := [("_law_right", none), ("law", none)]
abbrev AlZ : Type := List He5.FnW × Bool
def obsK (g : Addr → Option Obj) (K : PySem.W.Frag) : AlZ := (fnZ.map fun d => He5.fnA K (d.at_ K), (faZ K).all id && ((fnZ.all fun d => d.ok K) && He.tabsB g tfZ K))
/-- where it looks: the module's names, the defs and their code objects, the classes and what they reach -/
def codeA (g : Addr → Option Obj) (f : Addr) : Addr := match g f with
  | some ⟨_, _, .func fd, _⟩ => (match fd.code with
    | .ref c => c
    | _ => 0)
  | _ => 0
def asZ (g : Addr → Option Obj) : List Addr := [mainGlobals, cStatics, He.ga (He.frG g [mainGlobals]) "LEVELS"] ++ (gnZ.map (He.ga (He.frG g [mainGlobals])) ++ (gnZ.map (fun x => codeA g (He.ga (He.frG g [mainGlobals]) x)) ++ He.growD g (He.growD g (He.growD g (He.growD g (cnZ.map (He.ga (He.frG g [mainGlobals]))))))))
def obsZ (g : Addr → Option Obj) : AlZ := obsK g (He.frT g (asZ g))
def valZ : AlZ := (fnZ.map He5.DefA.val, true)
/-- what is told -/
structure SaysZ (h : Heap) (K : PySem.W.Frag) : Prop where
  fa : (faZ K).all id = true
  fn : ∀ d ∈ fnZ, ∃ fd, L2.FunD K d.name d.qual d.params d.body d.scope (d.dvs K) (d.kws K) (d.at_ K) fd
  hd : ∀ p ∈ tfZ, PySem.W.codeHdIn K (He.cT K p).1 (He.cT K p).2 = true
  out : ∀ p ∈ tfZ, K.lookup (He.cT K p).2 = none
  empty : ∀ p ∈ tfZ, h.get? (He.cT K p).2 = some { cls := .none, data := .fields #[] }
theorem saysZ_of {h : Heap} (e : obsZ h.get? = valZ) : SaysZ h (He.frT h.get? (asZ h.get?)) := by
  have e1 : (fnZ.map fun d => He5.fnA (He.frT h.get? (asZ h.get?)) (d.at_ (He.frT h.get? (asZ h.get?)))) = fnZ.map He5.DefA.val := congrArg (fun z : AlZ => z.1) e
  have e2 : ((faZ (He.frT h.get? (asZ h.get?))).all id && ((fnZ.all fun d => d.ok (He.frT h.get? (asZ h.get?))) && He.tabsB h.get? tfZ (He.frT h.get? (asZ h.get?)))) = true := congrArg (fun z : AlZ => z.2) e
  generalize hK : He.frT h.get? (asZ h.get?) = K at e1 e2
  obtain ⟨h1, h2⟩ := He.ba e2
  obtain ⟨h2, h3⟩ := He.ba h2
  have key : ∀ p ∈ tfZ, PySem.W.codeHdIn K (He.cT K p).1 (He.cT K p).2 = true ∧ ∃ o, h.get? (He.cT K p).2 = some o ∧ He.emptyTab o = true := fun p hp => by
    obtain ⟨h4, h5⟩ := He.ba (List.all_eq_true.mp h3 p hp)
    refine ⟨h4, ?_⟩
    split at h5
    · exact ⟨_, by assumption, h5⟩
    · cases h5
  refine ⟨h1, fun d hd => ?_, fun p hp => (key p hp).1, fun p hp => ?_, fun p hp => ?_⟩
  · obtain ⟨i, hi, ei⟩ := List.mem_iff_getElem.mp hd
    have e3 : (fnZ.map fun d => He5.fnA K (d.at_ K))[i]? = (fnZ.map He5.DefA.val)[i]? := by rw [e1]
    rw [List.getElem?_map, List.getElem?_map, List.getElem?_eq_getElem hi, ei] at e3
    exact He5.DefA.funD (Option.some.inj e3) (List.all_eq_true.mp h2 d hd)
  · obtain ⟨_, o, a, b⟩ := key p hp
    subst hK
    exact He.frT_none a b
  · obtain ⟨_, o, a, b⟩ := key p hp
    rw [a, He.emptyTab_eq b]
def hookZ : PySem.W.Hook where
  α := AlZ
  obs := fun s => obsZ s.heap.get?
  val := fun _ => valZ
  says := fun _ h => ∃ K : PySem.W.Frag, K.In h ∧ SaysZ h K
  of := fun _ _ e => ⟨_, He.frT_in, saysZ_of e⟩
  keeps := fun _ _ _ ⟨K, hK, c⟩ k => ⟨K, PySem.W.Frag.In.keeps hK k, ⟨c.fa, c.fn, c.hd, c.out, fun p hp => k _ _ (c.empty p hp)⟩⟩
section
variable {h h0 : Heap} {K : PySem.W.Frag} {mg : Str → Option Value}
theorem SaysZ.at (c : SaysZ h0 K) (i : Nat) {b : Bool} (e : (faZ K)[i]? = some b := by rfl) : b = true := List.all_eq_true.mp c.fa b (List.mem_of_getElem? e)
theorem SaysZ.dfA (c : SaysZ h0 K) (i : Nat) {d : He5.DefA} {st : Stmt} (e : fnZ[i]? = some d) (e1 : d.params = defArgs st) (e2 : d.body = defBody st) (e3 : d.scope = defScope st) (e4 : d.dfl = []) : IsDef K d.name d.qual st (d.at_ K) := by
  obtain ⟨fd, F⟩ := c.fn d (List.mem_of_getElem? e)
  obtain ⟨a1, a2, a3, a4, a5, a6, a7, a8⟩ := d
  dsimp only at e1 e2 e3 e4
  subst e1 e2 e3 e4
  exact ⟨fd, He5.fun_of F⟩
theorem SaysZ.dg (c : SaysZ h0 K) (i : Nat) {x : Str} {j : Nat} (e : fnZ[i]? = some (dGz x j) := by rfl) : IsDef K x x (top j) (He.ga K x) := c.dfA i (d := dGz x j) e rfl rfl rfl rfl
theorem SaysZ.dm (c : SaysZ h0 K) (i : Nat) {C m q : Str} {j k : Nat} (e : fnZ[i]? = some (dMz C m q j k) := by rfl) : IsDef K m q (mth j k) (He.ma K (He.ga K C) m) := c.dfA i (d := dMz C m q j k) e rfl rfl rfl rfl
theorem SaysZ.dp (c : SaysZ h0 K) (i : Nat) {C m q : Str} {T : String} {j k : Nat} (e : fnZ[i]? = some (dPz C T m q j k) := by rfl) : IsDef K m q (mth j k) (He5.wf K (He.ga K C) T m) := c.dfA i (d := dPz C T m q j k) e rfl rfl rfl rfl
theorem isDefC_of {x : Str} {st : Stmt} (D : IsDef K x x st (He.ga K x)) : IsDefC K x x st (He.ga K x) (He.codeOf K (x, none)) := by
  obtain ⟨fd, F⟩ := D
  obtain ⟨oc, od, kV, doc, pm, an, cdv, ct, osl, rfl, lk, hcd⟩ := F.ex
  obtain ⟨cc, rfl⟩ := He.codeIn_ref hcd
  have e : He.codeOf K (x, none) = cc := He.codeOf_eq (p := (x, none)) lk rfl
  rw [e]
  exact ⟨oc, od, kV, doc, pm, an, ct, osl, lk, hcd, F.kp⟩
theorem txt_of (c : SaysZ h0 K) (X : K.In h) (G : h.Ns mainGlobals mg) : Txt K mg where
  f_isinstance := He.free_ok X G (x := "isinstance") (c.at 0)
  f_int := He.free_ok X G (x := "int") (c.at 1)
  f_bool := He.free_ok X G (x := "bool") (c.at 2)
  f_str := He.free_ok X G (x := "str") (c.at 3)
  f_tuple := He.free_ok X G (x := "tuple") (c.at 4)
  f_list := He.free_ok X G (x := "list") (c.at 5)
  f_dict := He.free_ok X G (x := "dict") (c.at 6)
  f_len := He.free_ok X G (x := "len") (c.at 7)
  f_all := He.free_ok X G (x := "all") (c.at 8)
  f_abs := He.free_ok X G (x := "abs") (c.at 9)
  f_max := He.free_ok X G (x := "max") (c.at 10)
  f_min := He.free_ok X G (x := "min") (c.at 11)
  f_sorted := He.free_ok X G (x := "sorted") (c.at 12)
  f_repr := He.free_ok X G (x := "repr") (c.at 13)
  f_divmod := He.free_ok X G (x := "divmod") (c.at 14)
  f_range := He.free_ok X G (x := "range") (c.at 15)
  f_enumerate := He.free_ok X G (x := "enumerate") (c.at 16)
  c_MOST_LAMPS := let ⟨t, e⟩ := He.int_ok X G (x := "MOST_LAMPS") (i := 400) (c.at 20); ⟨_, e, t, rfl⟩
  c_MOST_ROUNDS := let ⟨t, e⟩ := He.int_ok X G (x := "MOST_ROUNDS") (i := 4) (c.at 21); ⟨_, e, t, rfl⟩
  c_MOST_PLACE := let ⟨t, e⟩ := He.int_ok X G (x := "MOST_PLACE") (i := 24) (c.at 22); ⟨_, e, t, rfl⟩
  c_MOST_END := let ⟨t, e⟩ := He.int_ok X G (x := "MOST_END") (i := 8) (c.at 23); ⟨_, e, t, rfl⟩
  c_DIGITS := let ⟨t, e⟩ := He.str_ok X G (x := "DIGITS") (z := "0123456789") (c.at 24); ⟨_, e, t, rfl⟩
  c_LEVELS := ⟨_, He.glo_ok X G (x := "LEVELS") (c.at 25), rfl⟩
  levels := fun H => He.tupB_ok (vs := [.int 2, .int 3, .int 5, .int 7]) (c.at 26) H
  d_is_integer := ⟨He.glo_ok X G (x := "is_integer") (c.at 27), c.dg 0⟩
  d_written_integer := ⟨He.glo_ok X G (x := "written_integer") (c.at 28), c.dg 1⟩
  d_bent_lamp := ⟨He.glo_ok X G (x := "bent_lamp") (c.at 29), c.dg 2⟩
  d_wrong_lamp := ⟨He.glo_ok X G (x := "wrong_lamp") (c.at 30), c.dg 3⟩
  d_are_levels := ⟨He.glo_ok X G (x := "are_levels") (c.at 31), c.dg 4⟩
  d_text_lamp := ⟨He.glo_ok X G (x := "text_lamp") (c.at 32), c.dg 5⟩
  d_text_round := ⟨He.glo_ok X G (x := "text_round") (c.at 33), c.dg 6⟩
  d_check_levels := ⟨He.glo_ok X G (x := "check_levels") (c.at 34), c.dg 7⟩
  d_check_number := ⟨He.glo_ok X G (x := "check_number") (c.at 35), c.dg 8⟩
  d_is_member := ⟨He.glo_ok X G (x := "is_member") (c.at 36), c.dg 9⟩
  d_wrong_member := ⟨He.glo_ok X G (x := "wrong_member") (c.at 37), c.dg 10⟩
  d_lot_lines := ⟨He.glo_ok X G (x := "lot_lines") (c.at 38), c.dg 11⟩
  d_is_change := ⟨He.glo_ok X G (x := "is_change") (c.at 39), c.dg 12⟩
  d_changed_text := ⟨He.glo_ok X G (x := "changed_text") (c.at 40), c.dg 13⟩
  d_text_lot := ⟨He.glo_ok X G (x := "text_lot") (c.at 41), c.dg 14⟩
  d__law_begun := ⟨He.glo_ok X G (x := "_law_begun") (c.at 42), c.dg 15⟩
  d__law_cast := ⟨He.glo_ok X G (x := "_law_cast") (c.at 43), c.dg 16⟩
  d__law_any_of := ⟨He.glo_ok X G (x := "_law_any_of") (c.at 44), c.dg 17⟩
  d__law_vast := ⟨He.glo_ok X G (x := "_law_vast") (c.at 45), c.dg 18⟩
  d__law_answer := ⟨He.glo_ok X G (x := "_law_answer") (c.at 46), c.dg 19⟩
  d__law_is_whole := ⟨He.glo_ok X G (x := "_law_is_whole") (c.at 47), c.dg 20⟩
  d__law_figure := ⟨He.glo_ok X G (x := "_law_figure") (c.at 48), c.dg 21⟩
  d__law_place := ⟨He.glo_ok X G (x := "_law_place") (c.at 49), c.dg 22⟩
  d__law_picture := ⟨He.glo_ok X G (x := "_law_picture") (c.at 50), c.dg 23⟩
  d__law_parts := ⟨He.glo_ok X G (x := "_law_parts") (c.at 51), c.dg 24⟩
  d__law_sheet := ⟨He.glo_ok X G (x := "_law_sheet") (c.at 52), c.dg 25⟩
  d__law_of := ⟨He.glo_ok X G (x := "_law_of") (c.at 53), c.dg 26⟩
  d__law_thing := ⟨He.glo_ok X G (x := "_law_thing") (c.at 54), c.dg 27⟩
  d__law_bent := ⟨He.glo_ok X G (x := "_law_bent") (c.at 55), c.dg 28⟩
  d__law_is_levels := ⟨He.glo_ok X G (x := "_law_is_levels") (c.at 56), c.dg 29⟩
  d__law_wrong_lamps := ⟨He.glo_ok X G (x := "_law_wrong_lamps") (c.at 57), c.dg 30⟩
  d__law_read := ⟨He.glo_ok X G (x := "_law_read") (c.at 58), c.dg 31⟩
  d__law_tidy := ⟨He.glo_ok X G (x := "_law_tidy") (c.at 59), c.dg 32⟩
  d__law_small := ⟨He.glo_ok X G (x := "_law_small") (c.at 60), c.dg 33⟩
  d__law_crowd := ⟨He.glo_ok X G (x := "_law_crowd") (c.at 61), c.dg 34⟩
  d__law_lot_sheet := ⟨He.glo_ok X G (x := "_law_lot_sheet") (c.at 62), c.dg 35⟩
  d__law_lot_of := ⟨He.glo_ok X G (x := "_law_lot_of") (c.at 63), c.dg 36⟩
  d__law_lot_built := ⟨He.glo_ok X G (x := "_law_lot_built") (c.at 64), c.dg 37⟩
  d__law_fits := ⟨He.glo_ok X G (x := "_law_fits") (c.at 65), c.dg 38⟩
  d__law_lot_read := ⟨He.glo_ok X G (x := "_law_lot_read") (c.at 66), c.dg 39⟩
  d__law_lot_told := ⟨He.glo_ok X G (x := "_law_lot_told") (c.at 67), c.dg 40⟩
  d__law_sort := ⟨He.glo_ok X G (x := "_law_sort") (c.at 68), c.dg 41⟩
  d__law_wrong_change := ⟨He.glo_ok X G (x := "_law_wrong_change") (c.at 69), c.dg 42⟩
  d__law_some := ⟨He.glo_ok X G (x := "_law_some") (c.at 70), c.dg 43⟩
  d__law_right := ⟨He.glo_ok X G (x := "_law_right") (c.at 71), c.dg 44⟩
  d_law := ⟨He.glo_ok X G (x := "law") (c.at 72), c.dg 45⟩
  g_Round := He.glo_ok X G (x := "Round") (c.at 73)
  g_Lot := He.glo_ok X G (x := "Lot") (c.at 74)
  r_f := clZ_ok (c.at 80)
  l_f := clZ_ok (c.at 81)
  r_s0 := slZ_ok (c.at 82) (by decide)
  r_s1 := slZ_ok (c.at 83) (by decide)
  r_s2 := slZ_ok (c.at 84) (by decide)
  l_s0 := slZ_ok (c.at 85) (by decide)
  r_init := ⟨He.meth_ok (x := "Round") (m := "__init__") (c.at 86), c.dm 46⟩
  r_eq := ⟨He.meth_ok (x := "Round") (m := "__eq__") (c.at 87), c.dm 47⟩
  r_str := ⟨He.meth_ok (x := "Round") (m := "__str__") (c.at 88), c.dm 48⟩
  l_init := ⟨He.meth_ok (x := "Lot") (m := "__init__") (c.at 89), c.dm 49⟩
  l_changed := ⟨He.meth_ok (x := "Lot") (m := "changed") (c.at 90), c.dm 50⟩
  l_eq := ⟨He.meth_ok (x := "Lot") (m := "__eq__") (c.at 91), c.dm 51⟩
  l_str := ⟨He.meth_ok (x := "Lot") (m := "__str__") (c.at 92), c.dm 52⟩
  r_levels := prZ_ok (c.at 93) (c.dp 53)
  r_lamps := prZ_ok (c.at 94) (c.dp 54)
  r_end := prZ_ok (c.at 95) (c.dp 55)
  l_rounds := prZ_ok (c.at 96) (c.dp 56)
  l_text := prZ_ok (c.at 97) (c.dp 57)
  r_nf := c.at 98
  l_nf := c.at 99
  r_kr := of_decide_eq_true (c.at 100)
  r_kn := of_decide_eq_true (c.at 101)
  l_kl := of_decide_eq_true (c.at 102)
  l_cread := let ⟨a, b⟩ := He.ba (c.at 103); ⟨a, He.eqO_ok b⟩
  l_read := let ⟨a, b⟩ := He.ba (c.at 104); He5.cmet_of a b
  l_readd := c.dp 58
  x_ch := xcZ_ok (c.at 105) (He.glo_ok X G (x := "InvalidChanges") (c.at 75)) (c.dm 59)
  x_tx := xcZ_ok (c.at 106) (He.glo_ok X G (x := "InvalidText") (c.at 76)) (c.dm 60)
theorem txt2_of (c : SaysZ h0 K) (X : K.In h) (G : h.Ns mainGlobals mg) : Txt2 K mg where
  g_wv := He.glo_ok X G (x := "WrongValue") (c.at 77)
  g_wn := He.glo_ok X G (x := "WrongName") (c.at 78)
  g_np := He.glo_ok X G (x := "NotPossible") (c.at 79)
  f_ve := He.free_ok X G (x := "ValueError") (c.at 17)
  f_le := He.free_ok X G (x := "LookupError") (c.at 18)
  f_ae := He.free_ok X G (x := "ArithmeticError") (c.at 19)
  x_ch := exZ_ok (c.at 107)
  x_tx := exZ_ok (c.at 108)
theorem txt3_of (c : SaysZ h0 K) : Txt3 K where
  l_mo := of_decide_eq_true (c.at 109)
  l_ne := He.eqO_ok (c.at 110)
theorem tab_ne (c : SaysZ h0 K) : (He.cT K ("_law_right", none)).2 ≠ (He.cT K ("law", none)).2 := of_decide_eq_true (c.at 111)
theorem law_at (c : SaysZ h0 K) (X : K.In h) (G : h.Ns mainGlobals mg) : mg "law" = some (.ref (He.ga K "law")) := He.glo_ok X G (x := "law") (c.at 72)
theorem law_c (c : SaysZ h0 K) : IsDefC K "law" "law" (top 68) (He.ga K "law") (He.codeOf K ("law", none)) := isDefC_of (c.dg 45)
theorem right_c (c : SaysZ h0 K) : IsDefC K "_law_right" "_law_right" (top 67) (He.ga K "_law_right") (He.codeOf K ("_law_right", none)) := isDefC_of (c.dg 44)
end
end Lk
namespace Lk
open PySem PySem.Spec PyProof.Rows L2 Evl Lm TL LamX
/-! ### the end: the law called by the claim's own caller, no repr being under way -/
section
variable {P : Program} {w : World} {K : PySem.W.Frag} {a : Addr} {T : List Addr} {us : List Value} {ns : List Int}
def scrO (us : List Value) : Obj := { cls := .type "list", data := .seq us.toArray }
/-- what is told at the call: the tables, and the script where K knows it not -/
def hpZ (K : PySem.W.Frag) (a : Addr) (T : List Addr) (us : List Value) (ns : List Int) : Hp := fun b => if b ∈ T then some (.tbl #[]) else if b = a then (match K.lookup a with
  | none => some (.frz (scrO us) (.lst (ns.map V.int)))
  | some _ => none) else none
theorem hpZ_tab {b : Addr} (h : b ∈ T) : hpZ K a T us ns b = some (.tbl #[]) := if_pos h
theorem hpZ_off {b : Addr} (h : b ∉ T) (h2 : b ≠ a) : hpZ K a T us ns b = none := by
  unfold hpZ
  rw [if_neg h, if_neg h2]
theorem hpZ_scr (h : a ∉ T) (hk : K.lookup a = none) : hpZ K a T us ns a = some (.frz (scrO us) (.lst (ns.map V.int))) := by
  unfold hpZ
  rw [if_neg h, if_pos rfl, hk]
theorem hpZ_known (h : a ∉ T) {o : Obj} (hk : K.lookup a = some o) : hpZ K a T us ns a = none := by
  unfold hpZ
  rw [if_neg h, if_pos rfl, hk]
theorem hpZ_all (h : a ∉ T) (b : Addr) : (b ∈ T ∧ hpZ K a T us ns b = some (.tbl #[])) ∨ (b = a ∧ K.lookup a = none ∧ hpZ K a T us ns b = some (.frz (scrO us) (.lst (ns.map V.int)))) ∨ hpZ K a T us ns b = none := by
  by_cases h1 : b ∈ T
  · exact .inl ⟨h1, hpZ_tab h1⟩
  · by_cases h2 : b = a
    · subst h2
      cases hk : K.lookup b with
      | none => exact .inr (.inl ⟨rfl, rfl, hpZ_scr h1 hk⟩)
      | some o => exact .inr (.inr (hpZ_known h1 hk))
    · exact .inr (.inr (hpZ_off h1 h2))
theorem law_end {mg mb : Str → Option Value} {k : Nat} {fa : Addr} {cs : List (Addr × Addr)} {sp : Sp} {s : Shared}
    (kin : K.In s.heap) (gNs : s.heap.Ns mainGlobals mg) (bNs : s.heap.Ns builtinsNs mb) (bbs : ∀ x : Str, x ≠ "__name__" → mb x = bootBuiltins x) (lim : s.heap.NoLimit) (gens0 : s.gens = #[])
    (tabs : ∀ p ∈ cs, s.heap.get? p.2 = some { cls := .none, data := .fields #[] }) (tabsK : ∀ p ∈ cs, K.lookup p.2 = none) (codes : ∀ p ∈ cs, PySem.W.CodeHd s.heap p.1 p.2)
    (bmod : ∃ (bm : Addr) (ob : Obj), mg "__builtins__" = some (.ref bm) ∧ bm ≠ builtinsNs ∧ s.heap.get? bm = some ob ∧ ob.cls = .type "module" ∧ ob.dict = some builtinsNs ∧ ob.data = .plain)
    (scr : s.heap.get? a = some (scrO us)) (hin : IntsAre us ns) (short : ns.length ≤ sizeLine) (room : Room k callerA)
    (F : ∀ base : Heap, K.In base → base.Ns mainGlobals mg → (∀ p ∈ cs, TabB base mg p.1 p.2) → FnG P w K mg base k fa sp)
    (spec : ∀ H : Hp, (∀ p ∈ cs, H p.2 = some (.tbl #[])) → SqL K H a (ns.map V.int) → sp [.ref a] H (fun v _ => v = .bl true) fun _ _ _ => False) :
    codeAny (model P w) callerA (.call (.ref fa) ⟨[.ref a], []⟩) (fun r s' => r = .ok (.ret (.bool true)) ∧ OldK s.heap s'.heap ∧ s'.os = s.os ∧ AllBare s'.gens) s := by
  have vals := vals_ints hin
  have eqLen := hin.length
  have tabAt : ∀ b ∈ cs.map (·.2), s.heap.get? b = some { cls := .none, data := .fields #[] } := fun b hb => by
    obtain ⟨p, hp, rfl⟩ := List.mem_map.mp hb
    exact tabs p hp
  have inT : ∀ p ∈ cs, p.2 ∈ cs.map (·.2) := fun p hp => List.mem_map_of_mem hp
  have notT : a ∉ cs.map (·.2) := fun z => by
    have q := congrArg (Option.map Obj.data) ((tabAt a z).symm.trans scr)
    injection q with q
    cases q
  -- objects of another kind are not told of
  have untold : ∀ {b : Addr} {o : Obj}, s.heap.get? b = some o → (∀ its n, o.data ≠ .seq its n) → o.data ≠ .fields #[] → hpZ K a (cs.map (·.2)) us ns b = none := fun {b o} e h1 h2 => by
    refine hpZ_off (fun z => ?_) fun z => ?_
    · rw [tabAt b z] at e
      cases e
      exact h2 rfl
    · rw [z, scr] at e
      cases e
      exact h1 _ _ rfl
  have untoldD : ∀ {b : Addr} {o : Obj} {es : Array DictEntry} {n : Nat}, s.heap.get? b = some o → o.data = .dict es n → hpZ K a (cs.map (·.2)) us ns b = none := fun e hd => untold e (fun _ _ z => by rw [hd] at z; cases z) fun z => by rw [hd] at z; cases z
  have nsOf : ∀ {b : Addr} {m : Str → Option Value}, s.heap.Ns b m → (hidT s.heap (hpZ K a (cs.map (·.2)) us ns)).Ns b m := fun ⟨o, es, n, e, hd, r⟩ => ⟨o, es, n, hidT_get e (untoldD e hd), hd, r⟩
  have kinB : K.In (hidT s.heap (hpZ K a (cs.map (·.2)) us ns)) := fun b o e => hidT_get (kin b o e) (by
    rcases hpZ_all (K := K) (us := us) (ns := ns) notT b with ⟨h1, _⟩ | ⟨rfl, h1, _⟩ | h1
    · obtain ⟨p, hp, rfl⟩ := List.mem_map.mp h1
      rw [tabsK p hp] at e
      cases e
    · rw [h1] at e
      cases e
    · exact h1)
  have modB : L2.Mod K mg (hidT s.heap (hpZ K a (cs.map (·.2)) us ns)) := by
    obtain ⟨mc, l1, l2⟩ := lim
    exact ⟨kinB, nsOf gNs, ⟨mb, nsOf bNs, bbs⟩, ⟨mc, nsOf l1, l2⟩⟩
  have tabB : ∀ p ∈ cs, TabB (hidT s.heap (hpZ K a (cs.map (·.2)) us ns)) mg p.1 p.2 := fun p hp => by
    refine ⟨?_, ?_, fun z => ?_⟩
    · obtain ⟨o, fs, fl, tk1, n1, tk2, b1, n2, tk3, c1, c2, c3, c4, c5⟩ := codes p hp
      refine ⟨o, fs, fl, tk1, n1, tk2, b1, n2, tk3, hidT_get c1 (untold c1 (fun _ _ z => ?_) fun z => ?_), c2, c3, c4, c5⟩
      · rw [c3] at z; cases z
      · rw [c3] at z; cases z; simp at c4
    · obtain ⟨bm, ob, m1, m2, m3, m4, m5, m6⟩ := bmod
      refine ⟨bm, ob, m1, m2, fun z => ?_, fun z => ?_, hidT_get m3 (untold m3 (fun _ _ z => ?_) fun z => ?_), m4, m5, m6⟩
      · obtain ⟨o, es, n, e, hd, _⟩ := gNs
        rw [← z, m3] at e
        cases e
        rw [m6] at hd
        cases hd
      · rw [z, tabs p hp] at m3
        cases m3
        cases m6
      · rw [m6] at z; cases z
      · rw [m6] at z; cases z
    · obtain ⟨o, es, n, e, hd, _⟩ := gNs
      rw [z, tabs p hp] at e
      cases e
      cases hd
  have hok : HOk P w (hpZ K a (cs.map (·.2)) us ns) s.heap := fun b u e => by
    rcases hpZ_all (K := K) (us := us) (ns := ns) notT b with ⟨h1, h2⟩ | ⟨rfl, _, h2⟩ | h2
    · rw [h2] at e
      cases e
      exact tabAt b h1
    · rw [h2] at e
      cases e
      exact ⟨scr, by rw [List.length_map]; exact short, us, _, vals, scr⟩
    · rw [h2] at e
      cases e
  have hsq : SqL K (hpZ K a (cs.map (·.2)) us ns) a (ns.map V.int) := by
    cases hk : K.lookup a with
    | none => exact .inl (.inr ⟨scrO us, hpZ_scr notT hk⟩)
    | some o =>
      have e := kin a o hk
      rw [scr] at e
      cases e
      exact .inr ⟨_, us.toArray, _, hk, rfl, rfl, rfl, by rw [List.size_toArray, eqLen]; exact short, by simpa using vals⟩
  have env : Env0 P w K mg (hidT s.heap (hpZ K a (cs.map (·.2)) us ns)) callerA [] s (hpZ K a (cs.map (·.2)) us ns) :=
    { frames := rfl, mod := modB, bs := fun _ _ e => of_hidT e, bsz := Nat.le_of_eq (hidT_size _ _), funs := trivial, frf := fun b z => absurd (show b ∈ ([] : List Addr) from z) (by simp), hok := hok, bare := .of_eq gens0 }
  have tabH : ∀ p ∈ cs, hpZ K a (cs.map (·.2)) us ns p.2 = some (.tbl #[]) := fun p hp => hpZ_tab (inT p hp)
  have hrun := F _ kinB (nsOf gNs) tabB callerA [] s (hpZ K a (cs.map (·.2)) us ns) [.ref a] [.ref a] _ _ room rfl env (.cons rfl .nil) (spec _ tabH hsq)
  refine codeAny_mono hrun fun r s' hq => ?_
  cases r with
  | error e => exact (show False from hq).elim
  | ok fl =>
    cases fl with
    | next => exact False.elim hq
    | brk => exact False.elim hq
    | cont => exact False.elim hq
    | ret u =>
      obtain ⟨v, H', os, bare, un, hok', rv, q⟩ := hq
      cases (show v = .bl true from q)
      obtain rfl : u = Value.bool true := rv
      have grown : ∀ b ∈ cs.map (·.2), ∃ more : Array Value, s'.heap.get? b = some { cls := .none, data := .fields more } := fun b hb => by
        obtain ⟨more, z⟩ := un.tbls b #[] (hpZ_tab hb)
        exact ⟨_, hok' b _ z⟩
      have same : ∀ b o, b ∉ cs.map (·.2) → s.heap.get? b = some o → s'.heap.get? b = some o := fun b o nb e => by
        rcases hpZ_all (K := K) (us := us) (ns := ns) notT b with ⟨h1, _⟩ | ⟨_, _, h1⟩ | h1
        · exact absurd h1 nb
        · have e1 := (hok b _ h1).1
          have e2 := (hok' b _ (un.frzs b _ _ h1)).1
          rw [e] at e1
          cases e1
          exact e2
        · exact un.keep b o e h1 (fun z => absurd (show b ∈ ([] : List Addr) from z) (by simp)) (by simp)
      refine ⟨rfl, ⟨fun b o e => ?_, fun b o e => ?_⟩, os, bare⟩
      · by_cases hb : b ∈ cs.map (·.2)
        · obtain ⟨p, hp, rfl⟩ := List.mem_map.mp hb
          obtain ⟨more, hm⟩ := grown p.2 hb
          rw [tabs p hp] at e
          cases e
          exact .inr (.inl ⟨((codes p hp).tab (tabs p hp)).isCodeTable, rfl, #[], more, rfl, by rw [Array.empty_append]; exact hm⟩)
        · exact .inl (same b o hb e)
      · by_cases hb : b ∈ cs.map (·.2)
        · obtain ⟨more, hm⟩ := grown b hb
          exact ⟨_, hm⟩
        · exact ⟨o, same b o hb e⟩
end
end Lk
namespace Lk
open PySem PySem.Spec PyProof.Rows L2 Evl Lm TL LamX
def T0z (K : PySem.W.Frag) : List (Addr × Str) := [((He.cT K ("_law_right", none)).2, qR ++ ("<lambda>" : Str)), ((He.cT K ("law", none)).2, qL ++ ("<lambda>" : Str))]
theorem law_fin {P : Program} {w : World} {K : PySem.W.Frag} {mg mb : Str → Option Value} {fa a : Addr} {us : List Value} {ns : List Int} {s : Shared} (c : SaysZ s.heap K) (hf : fa = He.ga K "law")
    (kin : K.In s.heap) (gNs : s.heap.Ns mainGlobals mg) (bNs : s.heap.Ns builtinsNs mb) (bbs : ∀ x : Str, x ≠ "__name__" → mb x = bootBuiltins x) (lim : s.heap.NoLimit) (gens0 : s.gens = #[])
    (bmod : ∃ (bm : Addr) (ob : Obj), mg "__builtins__" = some (.ref bm) ∧ bm ≠ builtinsNs ∧ s.heap.get? bm = some ob ∧ ob.cls = .type "module" ∧ ob.dict = some builtinsNs ∧ ob.data = .plain)
    (scr : s.heap.get? a = some { cls := .type "list", data := .seq us.toArray }) (hin : IntsAre us ns) (hlen : ns.length ≤ 63) (hbits : ∀ z ∈ ns, Builtin.Int.intBits z ≤ 1048576) :
    codeAny (model P w) callerA (.call (.ref fa) ⟨[.ref a], []⟩) (fun r s' => r = .ok (.ret (.bool true)) ∧ OldK s.heap s'.heap ∧ s'.os = s.os ∧ AllBare s'.gens) s := by
  subst hf
  have mem : ∀ {p : Addr × Addr}, p ∈ tfZ.map (He.cT K) → ∃ d ∈ tfZ, He.cT K d = p := fun h => by
    obtain ⟨d, h1, h2⟩ := List.mem_map.mp h
    exact ⟨d, h1, h2⟩
  have inR : He.cT K ("_law_right", none) ∈ tfZ.map (He.cT K) := List.mem_map_of_mem List.mem_cons_self
  have inL : He.cT K ("law", none) ∈ tfZ.map (He.cT K) := List.mem_map_of_mem (List.mem_cons_of_mem _ List.mem_cons_self)
  refine law_end (cs := tfZ.map (He.cT K)) (k := 13) (sp := spLaw K (T0z K)) kin gNs bNs bbs lim gens0 (fun p hp => ?_) (fun p hp => ?_) (fun p hp => ?_) bmod scr hin (by rw [sizeLine_eq]; omega) ⟨rfl, by decide, by decide⟩ (fun base hK hN TB => ?_) fun H hH hS => ?_
  · obtain ⟨d, hd, rfl⟩ := mem hp
    exact c.empty d hd
  · obtain ⟨d, hd, rfl⟩ := mem hp
    exact c.out d hd
  · obtain ⟨d, hd, rfl⟩ := mem hp
    exact PySem.W.codeHd_of_K kin (c.hd d hd)
  · have T := txt_of c hK hN
    refine ok_law T (txt2_of c hK hN) (txt3_of c) (law_c c) (TB _ inL) (List.mem_cons_of_mem _ List.mem_cons_self) (fun p hp e => ?_) (right_c c) (TB _ inR) List.mem_cons_self (fun p hp e => ?_) T.d__law_right
    · rcases List.mem_cons.mp hp with rfl | hp
      · exact absurd e (tab_ne c)
      · rw [List.mem_singleton.mp hp]
    · rcases List.mem_cons.mp hp with rfl | hp
      · rfl
      · rw [List.mem_singleton.mp hp] at e
        exact absurd e.symm (tab_ne c)
  · refine ⟨a, ns, rfl, hS, hlen, hbits, fun p hp => ?_, fun _ => rfl⟩
    rcases List.mem_cons.mp hp with rfl | hp
    · exact TabS.nil (hH _ inR)
    · rw [List.mem_singleton.mp hp]
      exact TabS.nil (hH _ inL)
end Lk
set_option maxHeartbeats 0
namespace Lk
open PySem PySem.W PySem.Calls PyProof.Rows
abbrev Rz : OpenRow := OpenLaw.row PySem.Challenge.rw_lamprounds_k19_whole_lines_of_lots_chang
abbrev qz : Program := view Rz.prog [68]
def nz1 : List PySem.Str := ["__name__", "WrongValue", "InvalidText", "InvalidLevels", "InvalidNumber", "InvalidLamps", "InvalidRounds", "InvalidChanges", "WrongName", "NotPossible"]
def nz3 : List PySem.Str := ["LEVELS", "MOST_LAMPS", "MOST_ROUNDS", "MOST_PLACE", "MOST_END", "DIGITS", "is_integer", "written_integer", "bent_lamp", "wrong_lamp", "are_levels", "Round"]
def nz4 : List PySem.Str := ["text_lamp", "text_round", "check_levels", "check_number", "is_member", "wrong_member", "Lot", "lot_lines", "is_change", "changed_text", "text_lot"]
def nz2 : List PySem.Str := ["_law_begun", "_law_cast", "_law_any_of", "_law_vast", "_law_answer", "_law_is_whole", "_law_figure", "_law_place", "_law_picture", "_law_parts", "_law_sheet", "_law_of", "_law_thing", "_law_bent", "_law_is_levels"]
def nz5 : List PySem.Str := ["_law_wrong_lamps", "_law_read", "_law_tidy", "_law_small", "_law_crowd", "_law_lot_sheet", "_law_lot_of", "_law_lot_built", "_law_fits", "_law_lot_read", "_law_lot_told", "_law_sort", "_law_wrong_change", "_law_some", "_law_right"]
def namesZ : List PySem.Str := nz1 ++ (nz3 ++ (nz4 ++ (nz2 ++ nz5)))
def obz (s : PySem.W.SharedT) : AlZ := obsZ (HandSHeadRun.getT s)
theorem obz_eq (s : PySem.W.SharedT) : obz s = hookZ.obs s.abs := by
  have e : HandSHeadRun.getT s = s.abs.heap.get? := funext (HandSHeadRun.getT_eq s)
  show obsZ (HandSHeadRun.getT s) = obsZ s.abs.heap.get?
  rw [e]
theorem runZ (w : World) : HandSHeadRun.RunEq Rz qz hookZ obz 20000 namesZ w := by
  intro os
  kernel_rfl
end Lk
namespace Lk
open PySem PySem.Spec PyProof.Rows L2 Evl Lm TL LamX
theorem walkZ : PySem.W.WalkO qz namesZ (PySem.W.XL qz []) hookZ.says (PySem.W.OpenLaw.row PySem.Challenge.rw_lamprounds_k19_whole_lines_of_lots_chang).toRowW (HandSHeadRun.topDef Rz.prog 68) [] (fun f vs => PySem.call f vs) := by
  refine Att.attach_callB (l := PySem.Challenge.rw_lamprounds_k19_whole_lines_of_lots_chang) (n := 63) rfl (by kernel_rfl) fun w s₀ s₁ mg mb fa o pm cd doc a us ns G Y ho hd hcd hmg hobj hints hlen hbits hg => ?_
  obtain ⟨K, KX, c⟩ := Y
  have en : (HandSHeadRun.topDef Rz.prog 68).name = ("law" : PySem.Str) := by kernel_rfl
  rw [en] at hmg
  have hf : fa = He.ga K "law" := by
    have e := hmg.symm.trans (law_at c KX G.T.g)
    cases e
    rfl
  exact law_fin c hf KX G.T.g G.T.b G.T.builtins G.T.nolimit hg G.T.bmain hobj hints hlen hbits
end Lk
open PySem PySem.W PySem.Calls PyProof.Rows
theorem PySem.Challenge.cw_lamprounds_k19_whole_lines_of_lots_chang_holds : PySem.Challenge.rw_lamprounds_k19_whole_lines_of_lots_chang.Holds := by
  w_on; o_law
  refine HandSHeadRun.head_any (r := OpenLaw.row PySem.Challenge.rw_lamprounds_k19_whole_lines_of_lots_chang) (q := Lk.qz) (H := Lk.hookZ) (ob := Lk.obz) (M := 20000) (loose := Lk.namesZ) (d := HandSHeadRun.topDef Lk.Rz.prog 68) (kwd := []) Lk.obz_eq (by kernel_rfl) (fun s => by kernel_rfl) Lk.runZ (by kernel_rfl) (by kernel_rfl) (by kernel_rfl) (by rfl) (by first | assumption | decide +kernel) (by decide +kernel) ⟨rfl, rfl, rfl, rfl, rfl, by decide +kernel⟩ ?hw ?hc
  case hw => w_witness2
  case hc => exact Lk.walkZ
