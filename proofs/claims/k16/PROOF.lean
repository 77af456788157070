import PyProof.Rows.All
import Wide.All
import OpenK.AllK
import Wide.FinOn
import HandS.ForMost
import HandS.ReplaceList
import HandS.Steps
import HandS.Deep
import HandS.IsInst
import HandS.Style
import HandS.StrMore
import HandS.TupAny
import HandS.Wide
import HandS.WideBits
import HandS.Flow
import HandS.Walk
import HandS.Codes
import HandS.Iter
import KE.GoesMore
import KE.GoesEnum
import PyProof.ToksMono
import HandS.Exc
import HandS.ExcOwn
import HandS.ExcInit
import HandS.ExcField
import HandS.Defaults
import HandS.Ends
import HandS.Head2
import HandS.HeadEnd
import HandS.HeadHook1
import HandS.HeadHook2
import HandS.Zip
import HandS.RaiseMore
import PySem.Challenge.RW_builtkinds_k16_whole_texts_of_things
section
set_option Elab.async false
set_option linter.all false
set_option maxRecDepth 100000
set_option maxHeartbeats 4000000
namespace K16
open PySem TL

/-! ### signs, values, texts -/
def isLet (c : Nat) : Bool := 97 ≤ c && c ≤ 122
def isFig (c : Nat) : Bool := 48 ≤ c && c ≤ 57
def isAn (c : Nat) : Bool := isLet c || isFig c
def wordL (w : List Nat) : Bool := decide (1 ≤ w.length) && decide (w.length ≤ 8) && w.all isLet
mutual
def good : PyData → Bool
  | .int i => decide (0 ≤ i)
  | .str x => wordL (tl x)
  | .tuple xs => goods xs
  | _ => false
def goods : List PyData → Bool
  | [] => true
  | x :: xs => good x && goods xs
end
mutual
def txt : PyData → List Nat
  | .int i => numL i.toNat
  | .str x => tl x
  | .tuple xs => 40 :: (txts xs ++ [41])
  | _ => []
def txts : List PyData → List Nat
  | [] => []
  | x :: xs => txt x ++ txtr xs
def txtr : List PyData → List Nat
  | [] => []
  | x :: xs => 32 :: (txt x ++ txtr xs)
end
theorem goods_iff : ∀ xs : List PyData, goods xs = true ↔ ∀ x ∈ xs, good x = true
  | [] => by simp [goods]
  | x :: xs => by simp [goods, goods_iff xs]
theorem goods_append (xs ys : List PyData) : goods (xs ++ ys) = (goods xs && goods ys) := by
  induction xs with
  | nil => simp [goods]
  | cons x xs ih => simp [goods, ih, Bool.and_assoc]
theorem txtr_append : ∀ xs ys : List PyData, txtr (xs ++ ys) = txtr xs ++ txtr ys
  | [], ys => by simp [txtr]
  | x :: xs, ys => by simp [txtr, txtr_append xs ys]
theorem txts_snoc (xs : List PyData) (v : PyData) : txts (xs ++ [v]) = txts xs ++ (if xs = [] then [] else [32]) ++ txt v := by
  cases xs with
  | nil => simp [txts, txtr]
  | cons x xs => simp [txts, txtr_append, txtr]

/-! ### figures -/
theorem fig_of_num {n c : Nat} (h : c ∈ numL n) : isFig c = true := by
  have := numL_digits n c h
  simp [isFig, this]
theorem head_num : ∀ n : Nat, n ≠ 0 → ∃ c r, numL n = c :: r ∧ c ≠ 48 := by
  intro n
  induction n using Nat.strongRecOn with
  | _ n ih =>
    intro h0
    by_cases h : n < 10
    · exact ⟨48 + n, [], numL_lt h, by omega⟩
    · obtain ⟨c, r, e, hc⟩ := ih (n / 10) (by omega) (by omega)
      exact ⟨c, r ++ [48 + n % 10], by rw [numL_step (by omega), e]; rfl, hc⟩
theorem num_zero : numL 0 = [48] := numL_lt (by decide)
/-- figures without noughts ahead -/
def figsOk (w : List Nat) : Bool := decide (w = [48]) || decide (w.head? ≠ some 48)
theorem figsOk_num (n : Nat) : figsOk (numL n) = true := by
  by_cases h : n = 0
  · subst h; rw [num_zero]; rfl
  · obtain ⟨c, r, e, hc⟩ := head_num n h
    rw [e]
    simp [figsOk, hc]
theorem val_append (p : List Nat) (c : Nat) : NumText.digitsVal (p ++ [c]) = NumText.digitsVal p * 10 + (c - 48) := by
  unfold NumText.digitsVal
  rw [List.foldl_append]
  rfl
theorem num_of_val : ∀ (n : Nat) (w : List Nat), w.length = n → w ≠ [] → w.all isFig = true → figsOk w = true → numL (NumText.digitsVal w) = w := by
  intro n
  induction n with
  | zero => intro w h hne; exact absurd (List.length_eq_zero_iff.mp h) hne
  | succ n ih =>
    intro w hl hne hf hok
    obtain ⟨p, c, rfl⟩ : ∃ p c, w = p ++ [c] := ⟨w.dropLast, w.getLast hne, (List.dropLast_concat_getLast hne).symm⟩
    have hc : isFig c = true := List.all_eq_true.mp hf c (by simp)
    have hc' : 48 ≤ c ∧ c ≤ 57 := by simpa [isFig] using hc
    rw [val_append]
    cases p with
    | nil =>
      have e : NumText.digitsVal ([] : List Nat) = 0 := rfl
      rw [e, Nat.zero_mul, Nat.zero_add, numL_lt (by omega)]
      simp; omega
    | cons d p =>
      have hd : isFig d = true := List.all_eq_true.mp hf d (by simp)
      have hd' : 48 ≤ d ∧ d ≤ 57 := by simpa [isFig] using hd
      have hd48 : d ≠ 48 := by
        intro e
        subst e
        simp [figsOk] at hok
      have hv := ih (d :: p) (by simp at hl ⊢; omega) (by simp) (List.all_eq_true.mpr fun x hx => List.all_eq_true.mp hf x (by simp at hx ⊢; rcases hx with h | h <;> simp [h])) (by simp [figsOk, hd48])
      have hpos : 1 ≤ NumText.digitsVal (d :: p) := by
        rcases Nat.eq_zero_or_pos (NumText.digitsVal (d :: p)) with z | z
        · rw [z, num_zero] at hv
          have := List.cons.inj hv
          omega
        · exact z
      have h10 : 10 ≤ NumText.digitsVal (d :: p) * 10 + (c - 48) := by omega
      rw [numL_step h10]
      have e1 : (NumText.digitsVal (d :: p) * 10 + (c - 48)) / 10 = NumText.digitsVal (d :: p) := by omega
      have e2 : (NumText.digitsVal (d :: p) * 10 + (c - 48)) % 10 = c - 48 := by omega
      rw [e1, e2, hv]
      congr 2
      omega
theorem num_val {w : List Nat} (h1 : w ≠ []) (h2 : w.all isFig = true) (h3 : figsOk w = true) : numL (NumText.digitsVal w) = w := num_of_val _ w rfl h1 h2 h3

/-! ### the law's reader -/
structure LS where
  line : List (List PyData)
  word : List Nat
def wordOk (w : List Nat) : Bool := if (w.filter isFig).length = w.length then figsOk w else decide (w.filter isFig = []) && decide (w.length < 9)
def wordVal (w : List Nat) : PyData := if isFig (w.headD 0) then .int (NumText.digitsVal w : Nat) else .str ⟨w.toArray⟩
def flush (st : LS) : Option LS :=
  if st.word = [] then some st else if wordOk st.word = true then (match st.line with
    | top :: r => some ⟨(top ++ [wordVal st.word]) :: r, []⟩
    | [] => none) else none
/-- a sign that is no letter and no figure, behind the word -/
def lawSign (ahead : Option Nat) (c : Nat) (st : LS) : Option LS :=
  if c = 40 then
    if (ahead ≠ none ∧ ahead ≠ some 40 ∧ ahead ≠ some 32) ∨ (st.line.length = 1 ∧ (st.line.headD []).length ≠ 0) then none else some ⟨[] :: st.line, st.word⟩
  else if c = 41 then
    if st.line.length < 2 ∨ ahead = some 32 then none else (match st.line with
      | top :: nxt :: r => some ⟨(nxt ++ [.tuple top]) :: r, st.word⟩
      | _ => none)
  else if c = 32 then
    if st.line.length < 2 ∨ ahead = some 40 ∨ ahead = some 32 ∨ ahead = none then none else some st
  else none
def lawStep (ahead : Option Nat) (c : Nat) (st : LS) : Option LS :=
  if isAn c = true then (if st.word = [] ∧ ahead = some 41 then none else some ⟨st.line, st.word ++ [c]⟩)
  else (flush st).bind (lawSign ahead c)
def lawRun : Option Nat → List Nat → LS → Option LS
  | _, [], st => some st
  | a, c :: r, st => (lawStep a c st).bind (lawRun (some c) r)
def lawEnd (st : LS) : Option PyData := (flush st).bind fun st => match st.line with
  | [[v]] => some v
  | _ => none
def lawParsed (s : List Nat) : Option PyData := (lawRun none s ⟨[[]], []⟩).bind lawEnd

/-! #### words -/
theorem filter_len_all {p : Nat → Bool} : ∀ {w : List Nat}, (w.filter p).length = w.length → w.all p = true
  | [], _ => rfl
  | c :: r, h => by
    by_cases hc : p c = true
    · rw [List.filter_cons_of_pos hc] at h
      simp only [List.length_cons, Nat.add_right_cancel_iff] at h
      simp [hc, filter_len_all h]
    · rw [List.filter_cons_of_neg hc] at h
      have := List.length_filter_le p r
      simp only [List.length_cons] at h
      omega
theorem all_filter_len {p : Nat → Bool} {w : List Nat} (h : w.all p = true) : (w.filter p).length = w.length := by
  rw [List.filter_eq_self.mpr fun a ha => List.all_eq_true.mp h a ha]
theorem let_not_fig {c : Nat} (h : isLet c = true) : isFig c = false := by
  have : 97 ≤ c ∧ c ≤ 122 := by simpa [isLet] using h
  simp [isFig]; omega
theorem wordVal_ok {w : List Nat} (hne : w ≠ []) (ha : w.all isAn = true) (h : wordOk w = true) : good (wordVal w) = true ∧ txt (wordVal w) = w := by
  unfold wordOk at h
  by_cases hf : (w.filter isFig).length = w.length
  · rw [if_pos hf] at h
    have all := filter_len_all hf
    obtain ⟨c, r, rfl⟩ : ∃ c r, w = c :: r := by cases w with | nil => exact absurd rfl hne | cons c r => exact ⟨c, r, rfl⟩
    have hc : isFig c = true := List.all_eq_true.mp all c (by simp)
    have e : wordVal (c :: r) = .int (NumText.digitsVal (c :: r) : Nat) := if_pos hc
    rw [e]
    refine ⟨by simp [good], ?_⟩
    show numL _ = _
    rw [show ((NumText.digitsVal (c :: r) : Nat) : Int).toNat = NumText.digitsVal (c :: r) from Int.toNat_natCast _]
    exact num_val hne all h
  · rw [if_neg hf] at h
    have h' : w.filter isFig = [] ∧ w.length < 9 := by simpa using h
    obtain ⟨h1, h2⟩ := h'
    have nof : ∀ c ∈ w, isFig c = false := fun c hc => by
      cases q : isFig c with
      | false => rfl
      | true =>
        have : c ∈ w.filter isFig := List.mem_filter.mpr ⟨hc, q⟩
        rw [h1] at this; cases this
    have alll : w.all isLet = true := List.all_eq_true.mpr fun c hc => by
      have a := List.all_eq_true.mp ha c hc
      simpa [isAn, nof c hc] using a
    obtain ⟨c, r, rfl⟩ : ∃ c r, w = c :: r := by cases w with | nil => exact absurd rfl hne | cons c r => exact ⟨c, r, rfl⟩
    have e : wordVal (c :: r) = .str ⟨(c :: r).toArray⟩ := if_neg (by rw [show (c :: r).headD 0 = c from rfl, nof c (by simp)]; decide)
    rw [e]
    refine ⟨?_, rfl⟩
    show wordL (c :: r) = true
    unfold wordL
    rw [alll]
    simp at h2 ⊢
    omega

/-! #### what is read is some value's text -/
def pre : List (List PyData) → List Nat
  | [] => []
  | l :: r => pre r ++ txts l ++ (if l = [] then [] else [32]) ++ [40]
structure Inv (p : List Nat) (ahead : Option Nat) (st : LS) : Prop where
  ex : ∃ top rest, st.line = top :: rest ∧ ∃ sp : Bool, p = pre rest ++ txts top ++ (if sp = true then [32] else []) ++ st.word ∧
    (rest = [] → sp = false) ∧ (rest ≠ [] → rest.getLast? = some []) ∧
    (st.word = [] → sp = true → ahead = some 32 ∧ top ≠ []) ∧
    (st.word = [] → sp = false → top ≠ [] → ahead = some 41) ∧
    (st.word = [] → sp = false → top = [] → (rest = [] → ahead = none) ∧ (rest ≠ [] → ahead = some 40)) ∧
    (st.word ≠ [] → (sp = true ↔ top ≠ []) ∧ ∃ c, ahead = some c ∧ isAn c = true)
  wrd : st.word.all isAn = true
  gd : ∀ l ∈ st.line, goods l = true
theorem inv0 : Inv [] none ⟨[[]], []⟩ := by
  refine ⟨⟨[], [], rfl, false, by simp [pre, txts], fun _ => rfl, fun h => absurd rfl h, fun _ h => (by cases h), fun _ _ h => absurd rfl h, fun _ _ _ => ⟨fun _ => rfl, fun h => absurd rfl h⟩, fun h => absurd rfl h⟩, rfl, fun l hl => ?_⟩
  have : l = [] := by simpa using hl
  subst this
  rfl
/-- behind the word: what the state is then -/
structure Inv1 (p : List Nat) (ahead : Option Nat) (st : LS) : Prop where
  ex : ∃ top rest, st.line = top :: rest ∧ ∃ sp : Bool, p = pre rest ++ txts top ++ (if sp = true then [32] else []) ∧
    (rest = [] → sp = false) ∧ (rest ≠ [] → rest.getLast? = some []) ∧
    (sp = true → ahead = some 32 ∧ top ≠ []) ∧
    (sp = false → top ≠ [] → ahead = some 41 ∨ ∃ c, ahead = some c ∧ isAn c = true) ∧
    (sp = false → top = [] → (rest = [] → ahead = none) ∧ (rest ≠ [] → ahead = some 40))
  wrd : st.word = []
  gd : ∀ l ∈ st.line, goods l = true
theorem inv_flush {p : List Nat} {ahead : Option Nat} {st st' : LS} (I : Inv p ahead st) (h : flush st = some st') : Inv1 p ahead st' := by
  obtain ⟨⟨top, rest, hl, sp, hp, h1, h2, h3, h4, h5, h6⟩, hw, hg⟩ := I
  unfold flush at h
  by_cases hwd : st.word = []
  · rw [if_pos hwd] at h
    cases h
    refine ⟨⟨top, rest, hl, sp, by rw [hp, hwd, List.append_nil], h1, h2, h3 hwd, fun a b => .inl (h4 hwd a b), h5 hwd⟩, hwd, hg⟩
  · rw [if_neg hwd] at h
    by_cases hok : wordOk st.word = true
    · rw [if_pos hok, hl] at h
      cases h
      obtain ⟨g, t⟩ := wordVal_ok hwd hw hok
      obtain ⟨e6, c, ec, hc⟩ := h6 hwd
      refine ⟨⟨top ++ [wordVal st.word], rest, rfl, false, ?_, fun _ => rfl, h2, fun z => (by cases z), fun _ _ => .inr ⟨c, ec, hc⟩, fun _ z => absurd z (by simp)⟩, rfl, fun l hl' => ?_⟩
      · rw [hp, txts_snoc, t]
        by_cases ht : top = []
        · have : sp = false := by
            cases sp with
            | false => rfl
            | true => exact absurd ht (e6.mp rfl)
          subst this
          simp [ht]
        · have : sp = true := e6.mpr ht
          subst this
          simp [ht]
      · rcases List.mem_cons.mp hl' with z | z
        · rw [z, goods_append]
          have := hg top (by rw [hl]; simp)
          simp [this, goods, g]
        · exact hg l (by rw [hl]; simp [z])
    · rw [if_neg hok] at h
      cases h
theorem an_ne {c : Nat} (h : isAn c = true) : c ≠ 40 ∧ c ≠ 41 ∧ c ≠ 32 := by
  simp [isAn, isLet, isFig] at h
  omega
theorem inv_sign {p : List Nat} {ahead : Option Nat} {c : Nat} {st st' : LS} (I : Inv1 p ahead st) (h : lawSign ahead c st = some st') : Inv (p ++ [c]) (some c) st' := by
  obtain ⟨⟨top, rest, hl, sp, hp, h1, h2, h3, h4, h5⟩, hw, hg⟩ := I
  unfold lawSign at h
  by_cases c1 : c = 40
  · rw [if_pos c1] at h
    split at h
    · cases h
    · rename_i hn
      cases h
      have hn1 : ¬ (ahead ≠ none ∧ ahead ≠ some 40 ∧ ahead ≠ some 32) := fun z => hn (.inl z)
      have hn2 : ¬ (st.line.length = 1 ∧ (st.line.headD []).length ≠ 0) := fun z => hn (.inr z)
      have hst : sp = true ↔ top ≠ [] := by
        constructor
        · intro z; exact (h3 z).2
        · intro z
          cases q : sp with
          | true => rfl
          | false =>
            exfalso
            rcases h4 q z with e | ⟨d, e, hd⟩
            · exact hn1 ⟨by rw [e]; simp, by rw [e]; simp, by rw [e]; simp⟩
            · have := an_ne hd
              exact hn1 ⟨by rw [e]; simp, by rw [e]; simpa using this.1, by rw [e]; simpa using this.2.2⟩
      refine ⟨⟨[], st.line, rfl, false, ?_, fun _ => rfl, fun _ => ?_, fun _ z => (by cases z), fun _ _ z => absurd rfl z, fun _ _ _ => ⟨fun z => ?_, fun _ => by rw [c1]⟩, fun z => absurd hw z⟩, by simp [hw], fun l hl' => ?_⟩
      · rw [hp, hl, c1, hw]
        simp only [pre, txts, List.append_nil, Bool.false_eq_true, if_false]
        by_cases ht : top = []
        · have : sp = false := by cases q : sp with | false => rfl | true => exact absurd ht (hst.mp q)
          simp [ht, this]
        · have : sp = true := hst.mpr ht
          simp [ht, this]
      · rw [hl]
        by_cases hr : rest = []
        · have : top = [] := by
            by_cases ht : top = []
            · exact ht
            · exact absurd ⟨by rw [hl, hr]; rfl, by rw [hl]; simpa using ht⟩ hn2
          simp [hr, this]
        · rw [List.getLast?_cons, h2 hr]; rfl
      · rw [hl] at z; cases z
      · rcases List.mem_cons.mp hl' with z | z
        · rw [z]; rfl
        · exact hg l z
  · rw [if_neg c1] at h
    by_cases c2 : c = 41
    · rw [if_pos c2] at h
      split at h
      · cases h
      · rename_i hn
        have hn1 : ¬ st.line.length < 2 := fun z => hn (.inl z)
        have hn2 : ¬ ahead = some 32 := fun z => hn (.inr z)
        have hsp : sp = false := by
          cases q : sp with
          | false => rfl
          | true => exact absurd (h3 q).1 hn2
        cases hr : rest with
        | nil => rw [hl, hr] at hn1; simp at hn1
        | cons nxt r =>
          rw [hl, hr] at h
          cases h
          refine ⟨⟨nxt ++ [.tuple top], r, rfl, false, ?_, fun _ => rfl, fun z => ?_, fun _ z => (by cases z), fun _ _ _ => by rw [c2], fun _ _ z => absurd z (by simp), fun z => absurd hw z⟩, by simp [hw], fun l hl' => ?_⟩
          · rw [hp, hr, hw, txts_snoc, hsp, c2]
            simp [pre, txt]
          · have q := h2 (by rw [hr]; simp)
            rw [hr] at q
            cases r with
            | nil => exact absurd rfl z
            | cons a b => rw [List.getLast?_cons_cons] at q; exact q
          · rcases List.mem_cons.mp hl' with z | z
            · rw [z, goods_append]
              have g1 := hg nxt (by rw [hl, hr]; simp)
              have g2 := hg top (by rw [hl]; simp)
              simp [goods, good, g1, g2]
            · exact hg l (by rw [hl, hr]; simp [z])
    · rw [if_neg c2] at h
      by_cases c3 : c = 32
      · rw [if_pos c3] at h
        split at h
        · cases h
        · rename_i hn
          cases h
          have n1 : ¬ st.line.length < 2 := fun z => hn (.inl z)
          have n2 : ¬ ahead = some 40 := fun z => hn (.inr (.inl z))
          have n3 : ¬ ahead = some 32 := fun z => hn (.inr (.inr (.inl z)))
          have hr : rest ≠ [] := by intro z; rw [hl, z] at n1; simp at n1
          have hsp : sp = false := by
            cases q : sp with
            | false => rfl
            | true => exact absurd (h3 q).1 n3
          have ht : top ≠ [] := fun z => n2 ((h5 hsp z).2 hr)
          refine ⟨⟨top, rest, hl, true, ?_, fun z => absurd z hr, h2, fun _ _ => ⟨by rw [c3], ht⟩, fun _ z => (by cases z), fun _ z => (by cases z), fun z => absurd hw z⟩, by simp [hw], hg⟩
          rw [hp, hsp, c3, hw]
          simp
      · rw [if_neg c3] at h
        cases h
theorem inv_step {p : List Nat} {ahead : Option Nat} {c : Nat} {st st' : LS} (I : Inv p ahead st) (h : lawStep ahead c st = some st') : Inv (p ++ [c]) (some c) st' := by
  unfold lawStep at h
  by_cases ha : isAn c = true
  · rw [if_pos ha] at h
    split at h
    · cases h
    · rename_i hn
      cases h
      obtain ⟨⟨top, rest, hl, sp, hp, h1, h2, h3, h4, h5, h6⟩, hw, hg⟩ := I
      refine ⟨⟨top, rest, hl, sp, by rw [hp]; simp, h1, h2, fun z => absurd z (by simp), fun z => absurd z (by simp), fun z => absurd z (by simp), fun _ => ⟨?_, c, rfl, ha⟩⟩, by simp [hw, ha], hg⟩
      by_cases hwd : st.word = []
      · constructor
        · intro z; exact (h3 hwd z).2
        · intro z
          cases q : sp with
          | true => rfl
          | false => exact absurd ⟨hwd, h4 hwd q z⟩ hn
      · exact (h6 hwd).1
  · rw [if_neg ha] at h
    obtain ⟨st1, e1, e2⟩ := Option.bind_eq_some_iff.mp h
    exact inv_sign (inv_flush I e1) e2
theorem inv_run : ∀ (s p : List Nat) (ahead : Option Nat) (st st' : LS), Inv p ahead st → lawRun ahead s st = some st' → ∃ a, Inv (p ++ s) a st'
  | [], p, ahead, st, st', I, h => by
    cases h
    exact ⟨ahead, by rw [List.append_nil]; exact I⟩
  | c :: r, p, ahead, st, st', I, h => by
    obtain ⟨st1, e1, e2⟩ := Option.bind_eq_some_iff.mp (show (lawStep ahead c st).bind (lawRun (some c) r) = some st' from h)
    obtain ⟨a, J⟩ := inv_run r (p ++ [c]) (some c) st1 st' (inv_step I e1) e2
    exact ⟨a, by rw [List.append_assoc] at J; exact J⟩
theorem law_sound {s : List Nat} {v : PyData} (h : lawParsed s = some v) : good v = true ∧ txt v = s := by
  obtain ⟨st, e1, e2⟩ := Option.bind_eq_some_iff.mp h
  obtain ⟨a, J⟩ := inv_run s [] none _ st inv0 e1
  obtain ⟨st1, e3, e4⟩ := Option.bind_eq_some_iff.mp e2
  obtain ⟨⟨top, rest, hl, sp, hp, h1, _⟩, hw, hg⟩ := inv_flush J e3
  rw [hl] at e4
  cases rest with
  | cons a b => cases top with
    | nil => cases e4
    | cons x y => cases y <;> cases e4
  | nil =>
    cases top with
    | nil => cases e4
    | cons x y =>
      cases y with
      | cons _ _ => cases e4
      | nil =>
        cases e4
        have g := hg [v] (by rw [hl]; simp)
        rw [h1 rfl] at hp
        refine ⟨by simpa [goods] using g, ?_⟩
        simpa [pre, txts, txtr] using hp.symm

/-! #### each value's text is read -/
def isTup : PyData → Bool
  | .tuple _ => true
  | _ => false
/-- behind a value's text -/
def after (top : List PyData) (rest : List (List PyData)) (v : PyData) : LS := if isTup v then ⟨(top ++ [v]) :: rest, []⟩ else ⟨top :: rest, txt v⟩
theorem leaf_facts {v : PyData} (hg : good v = true) (ht : isTup v = false) : txt v ≠ [] ∧ (txt v).all isAn = true ∧ wordOk (txt v) = true ∧ wordVal (txt v) = v := by
  cases v with
  | int i =>
    have hi : 0 ≤ i := by simpa [good] using hg
    have hall : (numL i.toNat).all isFig = true := List.all_eq_true.mpr fun c hc => fig_of_num hc
    refine ⟨numL_ne _, List.all_eq_true.mpr fun c hc => by simp [isAn, fig_of_num hc], ?_, ?_⟩
    · show wordOk (numL i.toNat) = true
      unfold wordOk
      rw [if_pos (all_filter_len hall)]
      exact figsOk_num _
    · show wordVal (numL i.toNat) = _
      obtain ⟨c, r, e⟩ : ∃ c r, numL i.toNat = c :: r := by
        cases q : numL i.toNat with
        | nil => exact absurd q (numL_ne _)
        | cons c r => exact ⟨c, r, rfl⟩
      have hc : isFig c = true := fig_of_num (n := i.toNat) (by rw [e]; simp)
      unfold wordVal
      rw [if_pos (by rw [e]; exact hc), numL_val]
      congr 1
      omega
  | str x =>
    have h : wordL (tl x) = true := hg
    simp only [wordL, Bool.and_eq_true, decide_eq_true_eq] at h
    obtain ⟨⟨h1, h2⟩, h3⟩ := h
    have hne : tl x ≠ [] := by intro z; rw [z] at h1; simp at h1
    have nof : (tl x).filter isFig = [] := List.filter_eq_nil_iff.mpr fun c hc => by rw [let_not_fig (List.all_eq_true.mp h3 c hc)]; decide
    refine ⟨hne, List.all_eq_true.mpr fun c hc => by simp [isAn, List.all_eq_true.mp h3 c hc], ?_, ?_⟩
    · show wordOk (tl x) = true
      unfold wordOk
      rw [if_neg (by rw [nof]; simp only [List.length_nil]; omega), nof]
      exact Bool.and_eq_true_iff.mpr ⟨rfl, decide_eq_true (by omega)⟩
    · show wordVal (tl x) = _
      obtain ⟨c, r, e⟩ : ∃ c r, tl x = c :: r := by
        cases q : tl x with
        | nil => exact absurd q hne
        | cons c r => exact ⟨c, r, rfl⟩
      have hc : isFig c = false := let_not_fig (List.all_eq_true.mp h3 c (by rw [e]; simp))
      unfold wordVal
      rw [if_neg (by rw [e]; show ¬ isFig c = true; rw [hc]; decide), mk_tl]
  | tuple xs => cases ht
  | _ => cases hg
theorem lawRun_append : ∀ (a : Option Nat) (s t : List Nat) (st : LS), lawRun a (s ++ t) st = (lawRun a s st).bind (lawRun (if s = [] then a else some (s.getLastD 0)) t)
  | a, [], t, st => rfl
  | a, c :: r, t, st => by
    show (lawStep a c st).bind (lawRun (some c) (r ++ t)) = ((lawStep a c st).bind (lawRun (some c) r)).bind _
    cases lawStep a c st with
    | none => rfl
    | some st1 =>
      show lawRun (some c) (r ++ t) st1 = (lawRun (some c) r st1).bind _
      rw [lawRun_append (some c) r t st1, if_neg (List.cons_ne_nil c r)]
      cases r with
      | nil => rfl
      | cons d q =>
        rw [if_neg (List.cons_ne_nil d q)]
        rfl
theorem run_word : ∀ (w u : List Nat) (a : Option Nat) (line : List (List PyData)), w.all isAn = true → (u = [] → a ≠ some 41) → lawRun a w ⟨line, u⟩ = some ⟨line, u ++ w⟩
  | [], u, a, line, _, _ => by rw [List.append_nil]; rfl
  | c :: r, u, a, line, h, hu => by
    simp only [List.all_cons, Bool.and_eq_true] at h
    show (lawStep a c ⟨line, u⟩).bind (lawRun (some c) r) = _
    have e : lawStep a c ⟨line, u⟩ = some ⟨line, u ++ [c]⟩ := by
      unfold lawStep
      rw [if_pos h.1, if_neg fun z => hu z.1 z.2]
    rw [e]
    show lawRun (some c) r ⟨line, u ++ [c]⟩ = _
    rw [run_word r (u ++ [c]) (some c) line h.2 (fun z => absurd z (by simp)), List.append_assoc]
    rfl
theorem flush_after {top : List PyData} {rest : List (List PyData)} {v : PyData} (hg : good v = true) : flush (after top rest v) = some ⟨(top ++ [v]) :: rest, []⟩ := by
  unfold after
  cases ht : isTup v with
  | true => rfl
  | false =>
    obtain ⟨h1, _, h3, h4⟩ := leaf_facts hg ht
    show flush ⟨top :: rest, txt v⟩ = _
    unfold flush
    rw [if_neg h1, if_pos h3]
    show some (LS.mk ((top ++ [wordVal (txt v)]) :: rest) []) = _
    rw [h4]
theorem last_txt {v : PyData} (hg : good v = true) : txt v ≠ [] ∧ (txt v).getLastD 0 ≠ 40 ∧ (txt v).getLastD 0 ≠ 32 ∧ (isTup v = false → isAn ((txt v).getLastD 0) = true) := by
  cases ht : isTup v with
  | true =>
    cases v with
    | tuple xs =>
      have e : (txt (.tuple xs)).getLastD 0 = 41 := by
        show (40 :: (txts xs ++ [41])).getLastD 0 = 41
        rw [List.getLastD_cons, List.getLastD_concat]
      exact ⟨by simp [txt], by rw [e]; decide, by rw [e]; decide, fun z => (by cases z)⟩
    | _ => cases ht
  | false =>
    obtain ⟨h1, h2, _, _⟩ := leaf_facts hg ht
    have hm : (txt v).getLastD 0 ∈ txt v := by
      cases q : txt v with
      | nil => exact absurd q h1
      | cons c r => rw [List.getLastD_eq_getLast?, List.getLast?_eq_some_getLast (List.cons_ne_nil c r)]; exact List.getLast_mem _
    have ha := List.all_eq_true.mp h2 _ hm
    have := an_ne ha
    exact ⟨h1, this.1, this.2.2, fun _ => ha⟩
theorem notAn : isAn 40 = false ∧ isAn 41 = false ∧ isAn 32 = false := by decide
mutual
theorem run_val : ∀ (v : PyData) (top : List PyData) (rest : List (List PyData)) (a : Option Nat), good v = true → a ≠ some 41 → (isTup v = true → (a = none ∨ a = some 40 ∨ a = some 32) ∧ (rest = [] → top = [])) →
    lawRun a (txt v) ⟨top :: rest, []⟩ = some (after top rest v)
  | .int i, top, rest, a, hg, ha, _ => by
    rw [run_word _ [] a _ (leaf_facts hg rfl).2.1 fun _ => ha]
    rfl
  | .str x, top, rest, a, hg, ha, _ => by
    rw [run_word _ [] a _ (leaf_facts hg rfl).2.1 fun _ => ha]
    rfl
  | .tuple xs, top, rest, a, hg, ha, ht => by
    obtain ⟨h1, h2⟩ := ht rfl
    show (lawStep a 40 ⟨top :: rest, []⟩).bind (lawRun (some 40) (txts xs ++ [41])) = _
    have e : lawStep a 40 ⟨top :: rest, []⟩ = some ⟨[] :: top :: rest, []⟩ := by
      unfold lawStep
      rw [if_neg (by rw [notAn.1]; decide)]
      show lawSign a 40 ⟨top :: rest, []⟩ = _
      unfold lawSign
      rw [if_pos rfl, if_neg]
      rintro (z | ⟨z1, z2⟩)
      · rcases h1 with q | q | q
        · exact z.1 q
        · exact z.2.1 q
        · exact z.2.2 q
      · have : rest = [] := by simpa using z1
        rw [h2 this] at z2
        exact z2 rfl
    rw [e]
    show lawRun (some 40) (txts xs ++ [41]) ⟨[] :: top :: rest, []⟩ = _
    have hgs : goods xs = true := hg
    cases xs with
    | nil =>
      show (lawStep (some 40) 41 ⟨[] :: top :: rest, []⟩).bind _ = _
      unfold lawStep
      rw [if_neg (by rw [notAn.2.1]; decide)]
      show ((lawSign (some 40) 41 ⟨[] :: top :: rest, []⟩)).bind _ = _
      unfold lawSign
      rw [if_neg (by decide), if_pos rfl, if_neg (by
        rintro (z | z)
        · simp only [List.length_cons] at z; omega
        · cases z)]
      rfl
    | cons x r =>
      simp only [goods, Bool.and_eq_true] at hgs
      show lawRun (some 40) ((txt x ++ txtr r) ++ [41]) _ = _
      rw [List.append_assoc, lawRun_append, run_val x [] (top :: rest) (some 40) hgs.1 (by decide) (fun _ => ⟨.inr (.inl rfl), fun z => absurd z (by simp)⟩), if_neg (last_txt hgs.1).1]
      exact run_vals r x [] top rest hgs.1 hgs.2
  | .none, _, _, _, hg, _, _ => by cases hg
  | .bool _, _, _, _, hg, _, _ => by cases hg
  | .list _, _, _, _, hg, _, _ => by cases hg
  | .dict _, _, _, _, hg, _, _ => by cases hg
/-- the values behind one that has been read, then the end of the tuple -/
theorem run_vals : ∀ (xs : List PyData) (v : PyData) (acc top : List PyData) (rest : List (List PyData)), good v = true → goods xs = true →
    lawRun (some ((txt v).getLastD 0)) (txtr xs ++ [41]) (after acc (top :: rest) v) = some ⟨(top ++ [.tuple (acc ++ v :: xs)]) :: rest, []⟩
  | [], v, acc, top, rest, hv, _ => by
    show (lawStep (some ((txt v).getLastD 0)) 41 (after acc (top :: rest) v)).bind _ = _
    unfold lawStep
    rw [if_neg (by rw [notAn.2.1]; decide), flush_after hv]
    show ((lawSign (some ((txt v).getLastD 0)) 41 ⟨(acc ++ [v]) :: top :: rest, []⟩)).bind _ = _
    unfold lawSign
    rw [if_neg (by decide), if_pos rfl, if_neg (by
      rintro (z | z)
      · simp only [List.length_cons] at z; omega
      · exact (last_txt hv).2.2.1 (Option.some.inj z))]
    rfl
  | x :: xs, v, acc, top, rest, hv, hx => by
    simp only [goods, Bool.and_eq_true] at hx
    show (lawStep (some ((txt v).getLastD 0)) 32 (after acc (top :: rest) v)).bind (lawRun (some 32) ((txt x ++ txtr xs) ++ [41])) = _
    have e : lawStep (some ((txt v).getLastD 0)) 32 (after acc (top :: rest) v) = some ⟨(acc ++ [v]) :: top :: rest, []⟩ := by
      unfold lawStep
      rw [if_neg (by rw [notAn.2.2]; decide), flush_after hv]
      show lawSign (some ((txt v).getLastD 0)) 32 ⟨(acc ++ [v]) :: top :: rest, []⟩ = _
      unfold lawSign
      rw [if_neg (by decide), if_neg (by decide), if_pos rfl, if_neg]
      rintro (z | z | z | z)
      · simp only [List.length_cons] at z; omega
      · exact (last_txt hv).2.1 (Option.some.inj z)
      · exact (last_txt hv).2.2.1 (Option.some.inj z)
      · cases z
    rw [e]
    show lawRun (some 32) ((txt x ++ txtr xs) ++ [41]) ⟨(acc ++ [v]) :: top :: rest, []⟩ = _
    rw [List.append_assoc, lawRun_append, run_val x (acc ++ [v]) (top :: rest) (some 32) hx.1 (by decide) (fun _ => ⟨.inr (.inr rfl), fun z => absurd z (by simp)⟩), if_neg (last_txt hx.1).1]
    show lawRun (some ((txt x).getLastD 0)) (txtr xs ++ [41]) (after (acc ++ [v]) (top :: rest) x) = _
    rw [run_vals xs x (acc ++ [v]) top rest hx.1 hx.2, List.append_assoc]
    rfl
end
theorem law_complete {v : PyData} (hg : good v = true) : lawParsed (txt v) = some v := by
  unfold lawParsed
  rw [run_val v [] [] none hg (by decide) fun _ => ⟨.inl rfl, fun _ => rfl⟩]
  show lawEnd (after [] [] v) = _
  unfold lawEnd
  rw [flush_after hg]
  rfl

/-! ### the program's reader -/
def figsL (w : List Nat) : Bool := decide (w ≠ []) && w.all isFig && figsOk w
def loneIn (w : List Nat) : Option PyData := if wordL w = true then some (.str ⟨w.toArray⟩) else if figsL w = true then some (.int (NumText.digitsVal w : Nat)) else none
def stepV (st : List (List PyData)) (w : List Nat) : Option (List (List PyData)) :=
  if w = [40] then some ([] :: st)
  else if w = [41] then (match st with
    | top :: nxt :: r => some ((nxt ++ [.tuple top]) :: r)
    | _ => none)
  else (match loneIn w with
    | some d => (match st with
      | top :: r => some ((top ++ [d]) :: r)
      | [] => none)
    | none => none)
def runV : List (List Nat) → List (List PyData) → Option (List (List PyData))
  | [], st => some st
  | w :: r, st => (stepV st w).bind (runV r)
def valueIn (ws : List (List Nat)) : Option PyData := (runV ws [[]]).bind fun st => match st with
  | [[v]] => some v
  | _ => none
mutual
def toks : PyData → List (List Nat)
  | .int i => [numL i.toNat]
  | .str x => [tl x]
  | .tuple xs => [40] :: (toksA xs ++ [[41]])
  | _ => []
def toksA : List PyData → List (List Nat)
  | [] => []
  | x :: xs => toks x ++ toksA xs
end
theorem runV_append : ∀ (a b : List (List Nat)) (st : List (List PyData)), runV (a ++ b) st = (runV a st).bind (runV b)
  | [], b, st => rfl
  | w :: r, b, st => by
    show (stepV st w).bind (runV (r ++ b)) = ((stepV st w).bind (runV r)).bind (runV b)
    cases stepV st w with
    | none => rfl
    | some st1 => exact runV_append r b st1
theorem lone_leaf {v : PyData} (hg : good v = true) (ht : isTup v = false) : toks v = [txt v] ∧ loneIn (txt v) = some v ∧ txt v ≠ [40] ∧ txt v ≠ [41] := by
  obtain ⟨h1, h2, _, _⟩ := leaf_facts hg ht
  have n40 : txt v ≠ [40] ∧ txt v ≠ [41] := by
    constructor <;> intro z <;> rw [z] at h2 <;> simp [isAn, isLet, isFig] at h2
  cases v with
  | int i =>
    have hi : 0 ≤ i := by simpa [good] using hg
    refine ⟨rfl, ?_, n40⟩
    show loneIn (numL i.toNat) = _
    have hall : (numL i.toNat).all isFig = true := List.all_eq_true.mpr fun c hc => fig_of_num hc
    have nl : ¬ wordL (numL i.toNat) = true := by
      intro z
      simp only [wordL, Bool.and_eq_true, decide_eq_true_eq] at z
      obtain ⟨c, r, e⟩ : ∃ c r, numL i.toNat = c :: r := by
        cases q : numL i.toNat with
        | nil => exact absurd q (numL_ne _)
        | cons c r => exact ⟨c, r, rfl⟩
      have a := List.all_eq_true.mp z.2 c (by rw [e]; simp)
      have b := List.all_eq_true.mp hall c (by rw [e]; simp)
      rw [let_not_fig a] at b
      cases b
    unfold loneIn
    rw [if_neg nl, if_pos (by simp [figsL, numL_ne, hall, figsOk_num]), numL_val]
    congr 2
    omega
  | str x =>
    refine ⟨rfl, ?_, n40⟩
    show loneIn (tl x) = _
    unfold loneIn
    rw [if_pos (show wordL (tl x) = true from hg), mk_tl]
  | tuple xs => cases ht
  | _ => cases hg
mutual
theorem runV_toks : ∀ (v : PyData) (top : List PyData) (r : List (List PyData)), good v = true → runV (toks v) (top :: r) = some ((top ++ [v]) :: r)
  | .int i, top, r, hg => by
    obtain ⟨h1, h2, h3, h4⟩ := lone_leaf hg rfl
    rw [h1]
    show (stepV (top :: r) (txt (.int i))).bind _ = _
    unfold stepV
    rw [if_neg h3, if_neg h4, h2]
    rfl
  | .str x, top, r, hg => by
    obtain ⟨h1, h2, h3, h4⟩ := lone_leaf hg rfl
    rw [h1]
    show (stepV (top :: r) (txt (.str x))).bind _ = _
    unfold stepV
    rw [if_neg h3, if_neg h4, h2]
    rfl
  | .tuple xs, top, r, hg => by
    show runV (toksA xs ++ [[41]]) ([] :: top :: r) = _
    rw [runV_append, runV_all xs [] (top :: r) hg]
    rfl
  | .none, _, _, hg => by cases hg
  | .bool _, _, _, hg => by cases hg
  | .list _, _, _, hg => by cases hg
  | .dict _, _, _, hg => by cases hg
theorem runV_all : ∀ (xs : List PyData) (top : List PyData) (r : List (List PyData)), goods xs = true → runV (toksA xs) (top :: r) = some ((top ++ xs) :: r)
  | [], top, r, _ => by rw [List.append_nil]; rfl
  | x :: xs, top, r, h => by
    simp only [goods, Bool.and_eq_true] at h
    show runV (toks x ++ toksA xs) (top :: r) = _
    rw [runV_append, runV_toks x top r h.1]
    show runV (toksA xs) ((top ++ [x]) :: r) = _
    rw [runV_all xs _ r h.2, List.append_assoc]
    rfl
end
theorem value_complete {v : PyData} (hg : good v = true) : valueIn (toks v) = some v := by
  unfold valueIn
  rw [runV_toks v [] [] hg]
  rfl
theorem lone_good {w : List Nat} {d : PyData} (h : loneIn w = some d) : good d = true := by
  unfold loneIn at h
  split at h
  · rename_i hw
    cases h
    exact hw
  · split at h
    · cases h
      simp [good]
    · cases h
theorem stepV_good {st st' : List (List PyData)} {w : List Nat} (hs : ∀ l ∈ st, goods l = true) (h : stepV st w = some st') : ∀ l ∈ st', goods l = true := by
  unfold stepV at h
  split at h
  · cases h
    intro l hl
    rcases List.mem_cons.mp hl with z | z
    · rw [z]; rfl
    · exact hs l z
  · split at h
    · split at h
      · rename_i top nxt r
        cases h
        intro l hl
        rcases List.mem_cons.mp hl with z | z
        · rw [z, goods_append]
          simp [goods, good, hs top (by simp), hs nxt (by simp)]
        · exact hs l (by simp [z])
      · cases h
    · split at h
      · rename_i d hd
        split at h
        · rename_i top r
          cases h
          intro l hl
          rcases List.mem_cons.mp hl with z | z
          · rw [z, goods_append]
            simp [goods, lone_good hd, hs top (by simp)]
          · exact hs l (by simp [z])
        · cases h
      · cases h
theorem runV_good : ∀ (ws : List (List Nat)) (st st' : List (List PyData)), (∀ l ∈ st, goods l = true) → runV ws st = some st' → ∀ l ∈ st', goods l = true
  | [], st, st', hs, h => by cases h; exact hs
  | w :: r, st, st', hs, h => by
    obtain ⟨st1, e1, e2⟩ := Option.bind_eq_some_iff.mp (show (stepV st w).bind (runV r) = some st' from h)
    exact runV_good r st1 st' (stepV_good hs e1) e2
theorem value_good {ws : List (List Nat)} {v : PyData} (h : valueIn ws = some v) : good v = true := by
  obtain ⟨st, e1, e2⟩ := Option.bind_eq_some_iff.mp h
  have g := runV_good ws [[]] st (fun l hl => by have : l = [] := by simpa using hl
                                                 subst this; rfl) e1
  split at e2
  · cases e2
    have := g [v] (by simp)
    simpa [goods] using this
  · cases e2

/-! #### the words of a text -/
def spaced (s : List Nat) : List Nat := StrLaws.replL [41] [32, 41, 32] (StrLaws.replL [40] [32, 40, 32] s)
def wordsOf (s : List Nat) : List (List Nat) := wfin ((spaced s).foldl wstep ([], []))
theorem repl_one (c : Nat) (z : List Nat) : ∀ l : List Nat, StrLaws.replL [c] z l = l.flatMap fun d => if d = c then z else [d]
  | [] => StrLaws.replL_nil
  | d :: r => by
    by_cases h : d = c
    · rw [StrLaws.replL_hit (by simp) (by simp [h]), List.flatMap_cons, if_pos h]
      show z ++ StrLaws.replL [c] z ((d :: r).drop 1) = _
      rw [show (d :: r).drop 1 = r from rfl, repl_one c z r]
    · rw [StrLaws.replL_miss (by simpa using h), List.flatMap_cons, if_neg h, repl_one c z r]
      rfl
/-- a sign as it stands behind both -/
def sp1 (c : Nat) : List Nat := if c = 40 then [32, 40, 32] else if c = 41 then [32, 41, 32] else [c]
theorem spaced_map (s : List Nat) : spaced s = s.flatMap sp1 := by
  unfold spaced
  rw [repl_one, repl_one, List.flatMap_assoc]
  congr 1
  funext c
  unfold sp1
  by_cases h : c = 40
  · subst h; rfl
  · rw [if_neg h, if_neg h]
    by_cases h2 : c = 41
    · subst h2; rfl
    · rw [if_neg h2, List.flatMap_cons, if_neg h2]
      rfl
abbrev WS : Type := List (List Nat) × List Nat
def w1 (st : WS) (c : Nat) : WS := (sp1 c).foldl wstep st
theorem fold_w1 : ∀ (s : List Nat) (st : WS), (s.flatMap sp1).foldl wstep st = s.foldl w1 st
  | [], st => rfl
  | c :: r, st => by
    rw [List.flatMap_cons, List.foldl_append]
    exact fold_w1 r _
theorem sp_is : Unicode.isSpace 32 = true ∧ Unicode.isSpace 40 = false ∧ Unicode.isSpace 41 = false := by decide +kernel
theorem an_no_space : ∀ c, c < 128 → isAn c = true → Unicode.isSpace c = false := by decide +kernel
theorem an_lt {c : Nat} (h : isAn c = true) : c < 128 := by
  simp [isAn, isLet, isFig] at h
  omega
def done (st : WS) : List (List Nat) := wfin st
theorem w1_blank (st : WS) : w1 st 32 = (done st, []) := by
  show wstep st 32 = _
  unfold wstep done wfin
  rw [if_pos sp_is.1]
  by_cases h : st.2 = []
  · rw [if_pos h, if_pos h]
    obtain ⟨a, b⟩ := st
    simp only at h
    rw [h]
  · rw [if_neg h, if_neg h]
theorem w1_open (st : WS) : w1 st 40 = (done st ++ [[40]], []) := by
  show wstep (wstep (wstep st 32) 40) 32 = _
  have e : wstep st 32 = (done st, []) := w1_blank st
  rw [e]
  simp [wstep, sp_is.1, sp_is.2.1]
theorem w1_shut (st : WS) : w1 st 41 = (done st ++ [[41]], []) := by
  show wstep (wstep (wstep st 32) 41) 32 = _
  have e : wstep st 32 = (done st, []) := w1_blank st
  rw [e]
  simp [wstep, sp_is.1, sp_is.2.2]
theorem w1_word : ∀ (w : List Nat) (ws : List (List Nat)) (u : List Nat), w.all isAn = true → w.foldl w1 (ws, u) = (ws, u ++ w)
  | [], ws, u, _ => by rw [List.append_nil]; rfl
  | c :: r, ws, u, h => by
    simp only [List.all_cons, Bool.and_eq_true] at h
    have n := an_ne h.1
    have e : w1 (ws, u) c = (ws, u ++ [c]) := by
      unfold w1 sp1
      rw [if_neg n.1, if_neg n.2.1]
      show wstep (ws, u) c = _
      unfold wstep
      rw [if_neg (by rw [an_no_space c (an_lt h.1) h.1]; decide)]
    rw [List.foldl_cons, e, w1_word r ws (u ++ [c]) h.2, List.append_assoc]
    rfl
mutual
theorem done_txt : ∀ (v : PyData) (ws : List (List Nat)), good v = true → done ((txt v).foldl w1 (ws, [])) = ws ++ toks v
  | .int i, ws, hg => by
    obtain ⟨h1, h2, _, _⟩ := leaf_facts hg rfl
    rw [w1_word _ _ _ h2, (lone_leaf hg rfl).1]
    show wfin (ws, [] ++ txt (.int i)) = _
    rw [List.nil_append]
    unfold wfin
    rw [if_neg h1]
  | .str x, ws, hg => by
    obtain ⟨h1, h2, _, _⟩ := leaf_facts hg rfl
    rw [w1_word _ _ _ h2, (lone_leaf hg rfl).1]
    show wfin (ws, [] ++ txt (.str x)) = _
    rw [List.nil_append]
    unfold wfin
    rw [if_neg h1]
  | .tuple xs, ws, hg => by
    show done ((txts xs ++ [41]).foldl w1 (w1 (ws, []) 40)) = _
    rw [w1_open, List.foldl_append]
    have e : done (ws, ([] : List Nat)) = ws := rfl
    rw [e]
    show done (w1 ((txts xs).foldl w1 (ws ++ [[40]], [])) 41) = _
    rw [w1_shut, done_txts xs (ws ++ [[40]]) hg]
    show done ((_ : List (List Nat)), ([] : List Nat)) = _
    show (_ : List (List Nat)) = _
    simp [toks, done, wfin]
  | .none, _, hg => by cases hg
  | .bool _, _, hg => by cases hg
  | .list _, _, hg => by cases hg
  | .dict _, _, hg => by cases hg
theorem done_txts : ∀ (xs : List PyData) (ws : List (List Nat)), goods xs = true → done ((txts xs).foldl w1 (ws, [])) = ws ++ toksA xs
  | [], ws, _ => by simp [txts, toksA, done, wfin]
  | x :: xs, ws, h => by
    simp only [goods, Bool.and_eq_true] at h
    show done ((txt x ++ txtr xs).foldl w1 (ws, [])) = _
    rw [List.foldl_append, done_txtr xs _ h.2, done_txt x ws h.1, List.append_assoc]
    rfl
theorem done_txtr : ∀ (xs : List PyData) (st : WS), goods xs = true → done ((txtr xs).foldl w1 st) = done st ++ toksA xs
  | [], st, _ => by simp [txtr, toksA]
  | x :: xs, st, h => by
    simp only [goods, Bool.and_eq_true] at h
    show done ((txt x ++ txtr xs).foldl w1 (w1 st 32)) = _
    rw [w1_blank, List.foldl_append, done_txtr xs _ h.2, done_txt x _ h.1, List.append_assoc]
    rfl
end
theorem words_txt {v : PyData} (hg : good v = true) : wordsOf (txt v) = toks v := by
  unfold wordsOf
  rw [spaced_map, fold_w1]
  exact done_txt v [] hg
/-- what the program reads of a text -/
def progParsed (s : List Nat) : Option PyData := (valueIn (wordsOf s)).bind fun v => if txt v = s then some v else none
theorem same_reader (s : List Nat) : progParsed s = lawParsed s := by
  cases h : lawParsed s with
  | some v =>
    obtain ⟨g, e⟩ := law_sound h
    unfold progParsed
    rw [← e, words_txt g, value_complete g]
    show (if txt v = txt v then some v else none) = _
    rw [if_pos rfl]
  | none =>
    cases q : progParsed s with
    | none => rfl
    | some v =>
      obtain ⟨u, e1, e2⟩ := Option.bind_eq_some_iff.mp q
      split at e2
      · rename_i e
        cases e2
        have := law_complete (value_good e1)
        rw [e, h] at this
        cases this
      · cases e2
end K16
end
section
set_option Elab.async false
set_option linter.all false
set_option maxRecDepth 100000
/-! own rules for the law k16 -/
namespace K16R
open PySem PySem.Spec PyProof.Rows L2
section
variable {X : Cx}

/-! list against list: told apart by length, or both empty -/
def rNeL0 (K : PySem.W.Frag) : R2 := fun x y H Q => ∃ a b xs ys, x = .ref a ∧ y = .ref b ∧ SqL K H a xs ∧ SqL K H b ys ∧ ys = [] ∧ Q (.bl (!xs.isEmpty)) H
def rEqL0 (K : PySem.W.Frag) : R2 := fun x y H Q => ∃ a b xs ys, x = .ref a ∧ y = .ref b ∧ SqL K H a xs ∧ SqL K H b ys ∧ ys = [] ∧ Q (.bl xs.isEmpty) H
theorem op_neL0 (hu : X.A.units < cLine) : OpR X (compareOp .NotEq) (rNeL0 X.K) := by
  intro pins s σ H x y v u Q I rx ry ⟨a, b, xs, ys, ex, ey, ha, hb, e0, q⟩
  subst ex; subst ey; subst e0
  cases rx; cases ry
  obtain ⟨i1, r1, p1, _⟩ := I.list ha
  obtain ⟨i2, r2, p2, _⟩ := I.list hb
  cases r2
  cases r1 with
  | nil =>
    have z := SeqAt.RcNeAt.lists (A := X.A) (e := fun _ => true) p1.isList p2.isList rfl hu (fun j h1 _ => absurd h1 (by simp))
    exact z X.prog X.w X.xe _ ⟨.bl false, H, I, rfl, q⟩
  | cons c r =>
    have z := SeqAt.RcNeAt.lists_lengths (A := X.A) p1.isList p2.isList (by simp) hu
    exact z X.prog X.w X.xe _ ⟨.bl true, H, I, rfl, q⟩
theorem op_eqL0 (hu : X.A.units < cLine) : OpR X (compareOp .Eq) (rEqL0 X.K) := by
  intro pins s σ H x y v u Q I rx ry ⟨a, b, xs, ys, ex, ey, ha, hb, e0, q⟩
  subst ex; subst ey; subst e0
  cases rx; cases ry
  obtain ⟨i1, r1, p1, _⟩ := I.list ha
  obtain ⟨i2, r2, p2, _⟩ := I.list hb
  cases r2
  cases r1 with
  | nil =>
    have z := SeqAt.RcAt.lists (A := X.A) (e := fun _ => true) p1.isList p2.isList rfl hu (fun j h1 _ => absurd h1 (by simp))
    exact z X.prog X.w X.xe _ ⟨.bl true, H, I, rfl, q⟩
  | cons c r =>
    have z := SeqAt.RcAt.lists_lengths (A := X.A) p1.isList p2.isList (by simp) hu
    exact z X.prog X.w X.xe _ ⟨.bl false, H, I, rfl, q⟩

/-! list.extend(tuple) -/
open AutoSeq1 in
theorem ext_tup (l : Addr) (xs : Array Value) (n : Nat) (b : Addr) (ys : Array Value) (m : Nat) (dd : Option Addr) (sl : Array (Option Value)) (h0 : ¬(!xs.isEmpty && Builtin.List.listTooLong (xs.size + ys.size)) = true) (h1 : xs.size ≤ sizeLine) (h2 : xs.size + ys.size ≤ sizeLine + 1) :
    Meets (Builtin.«list.extend» ⟨[.ref l, .ref b], []⟩) (fun _ R s => s.heap.get? l = some ⟨.type "list", none, .seq xs n, #[]⟩ ∧ s.heap.get? b = some ⟨.type "tuple", dd, .seq ys m, sl⟩ ∧
      R (.ok (.ret Value.none)) { s with heap := s.heap.update l (Obj.mapSeq fun x => x ++ ys), toks := s.toks }) :=
  .of_wp fun prog w A R s h => by
    obtain ⟨hp, g, d, tk, os⟩ := s
    obtain ⟨hl, hb, h⟩ := h
    have f1 := idx_int
    have f2 := AutoSeq1.sub_tuple_tuple
    have f3 := AutoSeq1.sub_list_list
    have f4 := AutoSeq1.sub_tuple_list
    have f5 := AutoSeq1.sub_list_tuple
    have hz' : (xs ++ ys).size ≤ sizeLine + 1 := by simpa using h2
    wp_walk using (wpAny_updateSeq hl rfl (hz := h1) (_hz' := hz')), wpAny_loadPart' hl, wpAny_loadPart' hb
    exact ⟨_, rfl, h⟩
def rExtT (K : PySem.W.Frag) : V → List V → Hp → VK → Prop := fun x vs H Q => ∃ l b xs zs, x = .ref l ∧ vs = [.ref b] ∧ H l = some (.lst xs) ∧ SqT K H b zs ∧ xs.length + zs.length ≤ sizeLine ∧ Q .non (upd H l (.lst (xs ++ zs)))
theorem mt_extendT : MtM X "list.extend" (rExtT X.K) := by
  intro pins s σ H x vs v us Q I rx rv ⟨l, b, xs, zs, ex, ev, hH, hB, hz, q⟩
  subst ex; subst ev
  cases rx
  obtain ⟨u, eu, ru⟩ := rv.one
  subst eu
  cases ru
  obtain ⟨z, i1, n, r1, l1, e1⟩ := I.lstM hH
  obtain ⟨i2, r2, p2, _⟩ := I.tuple hB
  have l2 := r2.length
  obtain ⟨⟨oc, od, da, os⟩, g2, c2, n2, d2⟩ := p2
  simp only at c2 d2
  subst c2 d2
  have hsum : i1.toArray.size + i2.toArray.size ≤ sizeLine := by simp only [List.size_toArray]; omega
  have hfit : ¬ (!i1.toArray.isEmpty && Builtin.List.listTooLong (i1.toArray.size + i2.toArray.size)) = true := fun q => by
    rw [notLongL hsum, Bool.and_false] at q; cases q
  refine call_meets F.slot_list_extend ⟨_, e1, rfl⟩ F.entry_list_extend (F.args_list_extend_2 _ _) (ext_tup l i1.toArray n b i2.toArray n2 od os hfit (by omega) (by omega)) ⟨e1, g2, ?_⟩
  exact ⟨.non, _, I.lset (its' := i1 ++ i2) hH e1 (by simp) (r1.append r2) (by rw [List.length_append]; exact hz), rfl, q⟩

/-! a tuple from behind -/
section
variable {prog : Program} {w : World} {A : Around} {E : Value → Shared → Prop} {s : Shared}
theorem places_back (n : Nat) : Builtin.Slice.sliceAdjust none none (-1) (n : Int) = ((n : Int) - 1, -1) ∧ Builtin.Slice.slicePlaces ((n : Int) - 1) (-1) (-1) = n := by
  refine ⟨rfl, ?_⟩
  unfold Builtin.Slice.slicePlaces
  rw [if_neg (by decide)]
  by_cases h : n = 0
  · subst h; rfl
  · have e : ((n : Int) - 1 - -1 - 1) / (- -1) + 1 = (n : Int) := by
      have : (- -1 : Int) = 1 := rfl
      rw [this, Int.ediv_one]; omega
    rw [if_pos (by omega), e]
    rfl
theorem pick_back (xs : List Value) : (List.range xs.length).filterMap (fun (k : Nat) => xs.toArray[(((xs.length : Int) - 1) + (k : Int) * (-1)).toNat]?) = xs.reverse := by
  have e : ∀ k ∈ List.range xs.length, xs.toArray[(((xs.length : Int) - 1) + (k : Int) * (-1)).toNat]? = xs.reverse[k]? := fun k hk => by
    have hk : k < xs.length := List.mem_range.mp hk
    have e1 : (((xs.length : Int) - 1) + (k : Int) * (-1)).toNat = xs.length - 1 - k := by omega
    rw [e1, List.getElem?_reverse hk, List.getElem?_toArray]
  have e2 : (List.range xs.length).filterMap (fun (k : Nat) => xs.toArray[(((xs.length : Int) - 1) + (k : Int) * (-1)).toNat]?) = (List.range xs.length).filterMap fun k => xs.reverse[k]? := by
    generalize List.range xs.length = rs at e
    induction rs with
    | nil => rfl
    | cons c r ih =>
      rw [List.filterMap_cons, List.filterMap_cons, e c List.mem_cons_self, ih fun k hk => e k (List.mem_cons_of_mem _ hk)]
  rw [e2]
  have e3 := List.length_reverse (as := xs)
  generalize xs.reverse = ys at e3
  rw [← e3]
  clear e e2 e3
  have f : ∀ (ys : List Value) , (List.range ys.length).filterMap (fun k => ys[k]?) = ys := fun ys => by
    induction ys with
    | nil => rfl
    | cons y r ih =>
      rw [List.length_cons, List.range_succ_eq_map, List.filterMap_cons]
      simp only [List.getElem?_cons_zero, List.filterMap_map]
      exact congrArg (y :: ·) ih
  exact f ys
theorem item_back {t sl : Addr} {xs : List Value} {vs : Value} {Q : Value → Shared → Prop} (ht : IsTup s.heap t xs.toArray) (hs : s.heap.IsSliceOf sl .none .none vs) (ps : IsPart vs (some (-1)))
    (h : Q (.ref s.heap.objs.size) { s with heap := s.heap.push { cls := .type "tuple", data := .seq xs.reverse.toArray } }) (hz : xs.length ≤ sizeLine) : wpAny (model prog w) A (getItem (.ref t) (.ref sl)) Q E s := by
  obtain ⟨o1, g1, c1, d1⟩ := id hs
  have k1 : s.TypeIs (.ref sl) "slice" := ⟨o1, g1, c1⟩
  have hfit : sizeOk (.seq xs.reverse.toArray) := by
    show xs.reverse.toArray.size ≤ sizeLine
    rw [List.size_toArray, List.length_reverse]; exact hz
  unfold getItem
  try with_reducible refine wpAny_holding ?_
  first | refine wpAny_bind (wpAny_pure ?_) | skip
  refine wpAny_bind (wpAny_sequenceKey ht.typeIs (by decide) ?_)
  refine wpAny_bind (wpAny_callSpecial?_slot (name := Str.ofString "__getitem__") ht.typeIs slot_tuple_getitem (wpAny_call_entry slot_tuple_getitem ht.typeIs entry_tuple_getitem ?_ (args_tuple_getitem _ _)))
  show wpAny _ _ (Builtin.Tuple.tupleItemsOf (.ref t) >>= _) _ _ s
  refine wpAny_bind (tupleItemsOf_ ht ?_)
  refine wpAny_bind (wpAny_typeOf k1 ?_)
  rw [if_pos (by decide)]
  refine wpAny_bind (?_ : wpAny _ _ (Builtin.Slice.sliceApplied (.ref sl) (pure (xs.toArray.size : Int))) _ _ _)
  unfold Builtin.Slice.sliceApplied Builtin.Slice.sliceFields
  refine wpAny_bind (wpAny_bind (wpAny_field g1 d1 (x := .none) rfl (wpAny_bind (wpAny_field g1 d1 (x := .none) rfl (wpAny_bind (wpAny_field g1 d1 (x := vs) rfl (wpAny_pure ?_)))))))
  refine wpAny_bind (HT.slicePart_ ps ?_)
  show wpAny _ _ (if ((-1 : Int) == 0) = true then _ else _) _ _ s
  rw [if_neg (by decide)]
  refine wpAny_bind (slicePart_none (wpAny_bind (slicePart_none (wpAny_bind (wpAny_pure ?_)))))
  obtain ⟨b1, b2⟩ := places_back xs.toArray.size
  show wpAny _ _ (match Builtin.Slice.sliceAdjust none none (-1) (xs.toArray.size : Int) with | (lo, hi) => pure (lo, (-1 : Int), Builtin.Slice.slicePlaces lo hi (-1))) _ _ s
  rw [b1]
  show wpAny _ _ (pure ((xs.toArray.size : Int) - 1, (-1 : Int), Builtin.Slice.slicePlaces ((xs.toArray.size : Int) - 1) (-1) (-1))) _ _ s
  rw [b2]
  refine wpAny_pure ?_
  have hno : ¬ (((xs.toArray.size : Int) - 1 == 0 && (-1 : Int) == 1 && xs.toArray.size == xs.toArray.size) = true) := by simp
  show wpAny _ _ (if ((xs.toArray.size : Int) - 1 == 0 && (-1 : Int) == 1 && xs.toArray.size == xs.toArray.size) = true then _ else _) _ _ s
  rw [if_neg hno]
  have hp : (List.range xs.toArray.size).filterMap (fun (k : Nat) => xs.toArray[(((xs.toArray.size : Int) - 1) + (k : Int) * (-1)).toNat]?) = xs.reverse := by
    rw [List.size_toArray]; exact pick_back xs
  rw [hp]
  first
    | exact wpAny_bind (m := Builtin.Tuple.tupleExact _) (wpAny_newObj_type (wpAny_pure ⟨_, rfl, wpAny_pure h⟩) hfit)
    | exact wpAny_bind (wpAny_bind (m := Builtin.Tuple.tupleExact _) (wpAny_newObj_type (wpAny_pure (wpAny_pure ⟨_, rfl, wpAny_pure h⟩)) hfit))
    | exact wpAny_bind (wpAny_bind (m := Builtin.Tuple.tupleExact _) (wpAny_newObj_type (wpAny_pure ⟨_, rfl, wpAny_pure h⟩) hfit))
end
def tRevT (K : PySem.W.Frag) (te : TE) : TE := fun σ H Q => te σ H fun x H1 => ∃ a xs, x = .ref a ∧ SqT K H1 a xs ∧ ∀ p, H1 p = none → Q (.ref p) (upd H1 p (.tup xs.reverse))
theorem pe_revT {e : Expr} {te : TE} {k : Nat} {p1 p2 p3 pos : Pos} (he : PE X e te) : PE X (.Subscript e (.Slice none none (some (.UnaryOp .USub (.Constant (.int 1) k p1) p2)) p3) pos) (tRevT X.K te) := by
  refine ⟨fun pins s σ H Q I h => ?_⟩
  refine Subscript_ (thn (he.run pins s σ H _ I h) fun v s1 ⟨x, H1, I1, r1, a, xs, ex, hx, q⟩ => ?_)
  subst ex
  cases r1
  have third : PO X (some (.UnaryOp .USub (.Constant (.int 1) k p1) p2)) (tPart (tUn (rU fun i => .int (-i)) (tC (.int 1)))) := po_some (pe_un un_neg pe_int)
  refine wpAny_Slice ?_
  rw [evalPart_none]
  refine wpAny_pure (wpAny_pure ?_)
  refine thn (third.run pins s1 σ H1 (fun o H4 => o = some (-1) ∧ H4 = H1) I1 ⟨1, rfl, -1, rfl, rfl, rfl⟩) fun vs s4 ⟨o, H4, I4, ps, eo, e4⟩ => ?_
  subst eo; subst e4
  have I5 : Inv X pins σ H4 { s4 with heap := s4.heap.push { cls := .type "slice", data := .fields #[.none, .none, vs] } } := I4.kept (t' := s4.toks) fun b ob q => Heap.get?_push_of_some _ q
  obtain ⟨its, r, ht, hz⟩ := I5.tuple hx
  show wpAny (model X.prog X.w) X.A (subscriptTail e (.Slice none none (some (.UnaryOp .USub (.Constant (.int 1) k p1) p2)) p3) (.ref a) (.ref s4.heap.objs.size)) _ _ _
  refine tail_any (ops := [.ref a, .ref s4.heap.objs.size]) ht.typeIs slot_tuple_getitem.lookup ?_ (by with_unfolding_all rfl)
  refine item_back ht (Heap.IsSliceOf.new _ .none .none vs) ps ?_ (by rw [← r.length]; exact hz)
  refine ⟨.ref _, _, I5.laid (t' := s4.toks) (o := .tup xs.reverse) (fun b ob q => Heap.get?_push_of_some _ q) (Nat.le_refl _) ?_, rfl, q _ (I5.hok.fresh (Nat.le_refl _))⟩
  exact ⟨by rw [List.length_reverse]; exact hz, _, r.reverse, IsTup.new _ _⟩

/-! text.rjust(n, fill), text * n -/
theorem mt_rjustF : MtR X "str.rjust" (fun x xs H Q => ∃ (a f : Str) (i : Int), x = .str a ∧ xs = [.int i, .str f] ∧ PySem.PadOk i = true ∧ f.length = 1 ∧ Q (.str (Txt.rjustF a i (f.cps.getD 0 0))) H) := by
  intro pins s σ H x xs v us Q I rx rs ⟨a, f, i, e1, e2, h1, h2, q⟩
  subst e1; subst e2
  obtain ⟨ta, rfl⟩ := rx
  cases rs with
  | cons r1 rs =>
    cases rs with
    | cons r2 rs =>
      cases rs
      obtain ⟨t1, rfl⟩ := r1
      obtain ⟨t2, rfl⟩ := r2
      exact rjust_fill h1 h2 fun t' k => ⟨.str _, H, I.tok k, ⟨t', rfl⟩, q⟩
theorem op_mulS : OpR X (binaryOp .Mult) (fun x y H Q => ∃ (a : Str) (n : Int), x = .str a ∧ y = .int n ∧ PySem.MulOk a n ∧ Q (.str (Txt.mul a n)) H) := by
  intro pins s σ H x y v u Q I rx ry ⟨a, n, e1, e2, h, q⟩
  subst e1; subst e2
  obtain ⟨ta, rfl⟩ := rx
  obtain ⟨tn, rfl⟩ := ry
  exact PySem.SB.mul h fun t' k => ⟨.str _, H, I.tok k, ⟨t', rfl⟩, q⟩
end
end K16R
end
section
set_option Elab.async false
set_option linter.all false
set_option maxRecDepth 100000
namespace K16R
open PySem PySem.Spec PyProof.Rows L2
/-! enumerate(text) -/
def Jen (z : Str) : It :=
  ⟨fun i _ => i < z.cps.size, fun i H v H' => ∃ T c, v = .ref T ∧ H T = none ∧ H' = upd H T (.tup [.int (i : Nat), .str ⟨#[c]⟩]) ∧ z.cps[i]? = some c, fun i _ => z.cps.size ≤ i⟩
theorem turn_enS {P : Program} {w : World} {K : PySem.W.Frag} {elts : List Expr} {kk : Nat} {tpos : Pos} (z : Str) (t : Tok) (e it : Addr) (hne : e ≠ it) :
    Turn P w K (.Tuple elts kk tpos) (Jen z) [e, it] e (fun i h => (∃ old, IsEnum h e it ((i : Nat) : Int) old) ∧ h.IsStrIter it (strIterType z) z t i) where
  mem := by simp
  obj := fun i h ⟨⟨old, he⟩, o, ho, hc, hd⟩ b hb => by
    rcases (by simpa using hb : b = e ∨ b = it) with q | q
    · subst q; exact ⟨_, he, fun v q => nomatch q⟩
    · subst q; exact ⟨o, ho, fun v q => by rw [hd] at q; cases q⟩
  keep := fun i h h' ⟨⟨old, he⟩, o, ho, r⟩ k => ⟨⟨old, k e (by simp) _ he⟩, o, k it (by simp) o ho, r⟩
  item := by
    intro X hP hw hK hc i pins s σ H E I hf ⟨⟨old, he⟩, hit⟩ hlt
    subst hP hw hK
    have hel : e < s.heap.objs.size := Heap.lt_size he
    have hil : it < s.heap.objs.size := by obtain ⟨_, q, _⟩ := hit; exact Heap.lt_size q
    have D := Draws.text (prog := X.prog) (w := X.w) (A := X.A.in1) (I.ok.hd hc) it z t
    refine wpAny_pyNext_enum_itemD D he hit hlt hne (by simpa using hne) fun x h' tk hx ho hit' hT hsz hk => ?_
    obtain ⟨c, tc, hcx, ex⟩ := hx
    subst ex
    refine ⟨_, rfl, wpAny_letOwnedTupleGo_enum (s := { s with heap := h', toks := tk + 1 }) ho fun h2 he2 sb => ?_⟩
    have hT2 : h2.get? s.heap.objs.size = some { cls := .type "tuple", data := .seq #[.int i tk, .str ⟨#[c]⟩ tc] } := (sb.2 _ (Nat.ne_of_gt hel)).trans hT
    have new : ObjOk X.prog X.w (upd H s.heap.objs.size (.tup [.int (i : Nat), .str ⟨#[c]⟩])) h2 s.heap.objs.size (.tup [.int (i : Nat), .str ⟨#[c]⟩]) :=
      ⟨by show 2 ≤ sizeLine; decide, [.int i tk, .str ⟨#[c]⟩ tc], .cons ⟨_, rfl⟩ (.cons ⟨_, rfl⟩ .nil), ⟨_, hT2, rfl, _, rfl⟩⟩
    have I1 : Inv X pins σ (upd H s.heap.objs.size (.tup [.int (i : Nat), .str ⟨#[c]⟩])) { s with heap := h2, toks := tk + 1 } :=
      I.turnedNew (ch := [e, it]) (fun b ob hb q => (sb.2 b (fun y => hb (by simp [y]))).trans (hk b ob (fun y => hb (by simp [y])) (fun y => hb (by simp [y])) q)) hf (Nat.le_refl _) new
    refine ⟨.ref s.heap.objs.size, _, I1, rfl, ⟨_, c, rfl, I.hok.fresh (Nat.le_refl _), rfl, hcx⟩, ⟨⟨.str ⟨#[c]⟩ tc, ?_⟩, ?_⟩, fun b hb => ?_⟩
    · have e1 : ((i + 1 : Nat) : Int) = (i : Int) + 1 := by omega
      rw [e1]; exact he2
    · obtain ⟨o, go, co, d1⟩ := hit'
      exact ⟨o, (sb.2 it (Ne.symm hne)).trans go, co, d1⟩
    · have hb' : b < s.heap.objs.size := by
        rcases (by simpa using hb : b = e ∨ b = it) with q | q
        · subst q; exact hel
        · subst q; exact hil
      rw [upd_ne (Nat.ne_of_lt hb')]
      exact (hf b hb).1
  done := by
    intro X hP hw hK hc i pins s σ H E I hf ⟨⟨old, he⟩, hit⟩ hge
    subst hP hw hK
    obtain ⟨f0, f1, f2, f3, f4, f5⟩ := hf it (by simp)
    have hn : z.cps[i]? = none := Array.getElem?_eq_none hge
    unfold pyNext
    have hT : s.TypeIs (.ref e) "enumerate" := ⟨_, he, rfl⟩
    refine wpAny_bind (wpAny_attempt (wpAny_callSpecial?_slot (name := Str.ofString "__next__") hT F.slot_enumerate_next (wpAny_call_entry F.slot_enumerate_next hT F.entry_enumerate_next ?_ (F.args_enumerate_next_1 _))))
    show wpAny _ _ (field (.ref e) 2 >>= _) _ _ _
    refine wpAny_bind (wpAny_field he rfl (x := .ref it) rfl ?_)
    have hd : ∀ {Q : Value → Shared → Prop} {E : Value → Shared → Prop}, (∀ h' x, Heap.ExtBut it s.heap h' → (∃ o, h'.get? x = some o ∧ o.cls = .type "StopIteration") → E (.ref x) { s with heap := h' }) → wpAny (model X.prog X.w) X.A.in1 (Builtin.SmallTypes.nextOf (.ref it)) Q E s := by
      intro Q E hE
      unfold strIterType at hit
      cases ha : z.cps.all (· < 128)
      · rw [ha] at hit; exact wpAny_nextOf_wide_end (I.ok.hd hc) hit hn hE
      · rw [ha] at hit; exact wpAny_nextOf_ascii_end (I.ok.hd hc) hit hn hE
    refine wpAny_bind (hd fun h' x hx ho => ?_)
    obtain ⟨o, ho, hco⟩ := ho
    refine wpAny_bind (wpAny_isInstance (T := "StopIteration") (b := true) ⟨o, ho, hco⟩ isSubtype_stop ?_)
    exact wpAny_pure ⟨rfl, I.turned (t' := s.toks) (fun b o hb q => hx b o hb q) f0 f1 f3 f4 f5⟩
  self := fun A i s Q E ⟨⟨_, he⟩, _⟩ h => wpAny_pyIter_enum he h
def iEnS (ta : TA) : TI := fun σ H R => ta σ H fun vs H1 => ∃ z, vs = [.str z] ∧ R (Jen z) H1
theorem pi_enS {X : Cx} {e : Expr} {ta : TA} {p pos tpos : Pos} {elts : List Expr} {kk : Nat} (hg : Gl X "enumerate") (hm : X.mg "enumerate" = none) (ha : PA X [e] ta) (hs : starEach [e] X.env = [(false, eval e X.env)] := by rfl) :
    PI X (.Tuple elts kk tpos) (.Call (.Name "enumerate" p) [e] [] pos) (iEnS ta) := by
  refine ⟨fun pins s σ H R I h => ?_⟩
  refine Call_ (ld_blt I hg hm boot_enumerate (PyProof.Rows.callWith_type1 (thn (ha.run pos pins s σ H _ I h) fun us s1 ⟨vs, H1, I1, r1, z, ex, q⟩ => ?_) hs rfl))
  subst ex
  cases r1 with
  | cons r rr =>
    cases rr
    obtain ⟨t, rfl⟩ := r
    refine call_enumerate_str fun h' he hit hsz hk => wpAny_pyIter_enum he ?_
    have I2 : Inv X pins σ H1 { s1 with heap := h' } := I1.kept (t' := s1.toks) hk
    refine ⟨s1.heap.objs.size + 1, [s1.heap.objs.size + 1, s1.heap.objs.size], _, _, H1, rfl, I2, turn_enS z t (s1.heap.objs.size + 1) s1.heap.objs.size (Nat.succ_ne_self _), ⟨⟨.none, he⟩, hit⟩, fun b hb => ?_, q⟩
    have hle : s1.heap.objs.size ≤ b := by
      rcases (by simpa using hb : b = s1.heap.objs.size + 1 ∨ b = s1.heap.objs.size) with q | q
      · rw [q]; exact Nat.le_add_right _ _
      · rw [q]; exact Nat.le_refl _
    exact I1.fpOk hle (I1.hok.fresh hle)
theorem walk_enS {z : Str} : Walk (Jen z) z.cps.size (fun _ => True) (YPair (fun i => some (.int (i : Nat))) (fun i => z.cps[i]?.map fun c => .str ⟨#[c]⟩)) :=
  ⟨fun _ _ hi _ => hi, fun _ _ => Nat.le_refl _, fun i H v H' _ _ ⟨T, c, h1, h2, h3, h4⟩ => ⟨T, .int (i : Nat), .str ⟨#[c]⟩, h1, h2, h3, rfl, by simp [h4]⟩⟩
end K16R
end
section
set_option Elab.async false
set_option linter.all false
set_option maxRecDepth 100000
/-! walks in states that have given out n tokens at least -/
namespace K16T
open PySem PySem.Spec PyProof.Rows L2
abbrev St := L2.St
/-- what follows knows the tokens too -/
theorem keepT {α : Type} {M : Model} {A : Around} {t : Sem α} {Q Q' : α → Shared → Prop} {E : Value → Shared → Prop} {s : Shared} {n : Nat} (hn : n ≤ s.toks) (h : wpAny M A t Q E s) (k : ∀ a s', n ≤ s'.toks → Q a s' → Q' a s') : wpAny M A t Q' E s :=
  wpAny_with_toks hn (wpAny_mono h (fun a s' q l => k a s' l q) fun _ _ q _ => q)
structure EeT (n : Nat) (X : Cx) (e : Expr) (t : TE) : Prop where
  run : ∀ (pins : List (Addr × Obj)) (s : Shared) (σ : St) (H : Hp) (Q : VK), n ≤ s.toks → Inv X pins σ H s → t σ H Q → wpAny (model X.prog X.w) X.A (eval e X.env) (EP X pins σ Q) X.xe s
structure TtT (n : Nat) (X : Cx) (e : Expr) (t : TT) : Prop where
  run : ∀ (pins : List (Addr × Obj)) (s : Shared) (σ : St) (H : Hp) (Q : Bool → Hp → Prop), n ≤ s.toks → Inv X pins σ H s → t σ H Q → wpAny (model X.prog X.w) X.A (isTrue e X.env (eval e X.env)) (TP X pins σ Q) X.xe s
structure AaT (n : Nat) (X : Cx) (es : List Expr) (t : TA) : Prop where
  run : ∀ (pos : Pos) (pins : List (Addr × Obj)) (s : Shared) (σ : St) (H : Hp) (Q : List V → Hp → Prop), n ≤ s.toks → Inv X pins σ H s → t σ H Q → wpAny (model X.prog X.w) X.A (spliced (backTo pos (starEach es X.env))) (AP X pins σ Q) X.xe s
structure SsT (n : Nat) (X : Cx) (st : Stmt) (t : TS) : Prop where
  run : ∀ (pins : List (Addr × Obj)) (s : Shared) (σ : St) (H : Hp) (D : Ends), n ≤ s.toks → Inv X pins σ H s → t D σ H → wpAny (model X.prog X.w) X.A (exec st X.env) (SP X pins D) X.xe s
structure BbT (n : Nat) (X : Cx) (st : List Stmt) (t : TS) : Prop where
  run : ∀ (pins : List (Addr × Obj)) (s : Shared) (σ : St) (H : Hp) (D : Ends), n ≤ s.toks → Inv X pins σ H s → t D σ H → wpAny (model X.prog X.w) X.A (execs st X.env) (SP X pins D) X.xe s
/-- a def's promise in such states, where nothing is guarded -/
structure FnT (n : Nat) (P : Program) (w : World) (K : PySem.W.Frag) (mg : Str → Option Value) (base : Heap) (CX : CXT) (k : Nat) (f : Addr) (fd : FuncData) (ps : List Str) (sp : Sp) : Prop where
  len : ∀ vs H Q E, sp vs H Q E → vs.length = ps.length
  run : ∀ (A : Around) (outer : List Env) (s : Shared) (H : Hp) (args : Args) (us : List Value) (vs : List V) (Q : VK) (E : XK), n ≤ s.toks → A.guards = some [] → Room k A → Env0 P w K mg base A outer s H → BindsTo s fd args (ps.zip us) → Vals vs us → sp vs H Q E →
    codeAny (model P w) A (.call (.ref f) args) (CR CX outer P w H s Q E) s
section
variable {n : Nat} {X : Cx} {a b e : Expr} {es : List Expr} {ta tb te : TE} {t u : TS} {tt : TT} {tA : TA} {st : Stmt} {rest : List Stmt} {pos : Pos}
theorem EeT.of (h : PE X e te) : EeT n X e te := ⟨fun pins s σ H Q _ => h.run pins s σ H Q⟩
theorem TtT.of (h : PT X e tt) : TtT n X e tt := ⟨fun pins s σ H Q _ => h.run pins s σ H Q⟩
theorem AaT.of (h : PA X es tA) : AaT n X es tA := ⟨fun pos pins s σ H Q _ => h.run pos pins s σ H Q⟩
theorem SsT.of (h : PS X st t) : SsT n X st t := ⟨fun pins s σ H D _ => h.run pins s σ H D⟩
theorem BbT.of (h : PSs X rest t) : BbT n X rest t := ⟨fun pins s σ H D _ => h.run pins s σ H D⟩
theorem bt_cons (h1 : SsT n X st t) (h2 : BbT n X rest u) : BbT n X (st :: rest) (tSeq t u) := by
  refine ⟨fun pins s σ H D hn I h => wpAny_execs_cons (keepT hn (h1.run pins s σ H { D with nx := u D } hn I h) fun f s1 l q => ?_)⟩
  match f, q with
  | .next, ⟨σ1, H1, I1, q1⟩ => exact h2.run pins s1 σ1 H1 D l I1 q1
  | .ret _, q => exact q
  | .brk, q => exact q
  | .cont, q => exact q
theorem bt_one (h : SsT n X st t) : BbT n X [st] t := bt_cons h (.of pss_nil)
theorem at_cons (ha : EeT n X e te) (hr : AaT n X es tA) (hs : starEach (e :: es) X.env = (false, eval e X.env) :: starEach es X.env := by rfl) : AaT n X (e :: es) (tCons te tA) := by
  refine ⟨fun pos pins s σ H Q hn I h => ?_⟩
  rw [hs]
  refine Calls.spliced_cons (keepT hn (ha.run pins s σ H _ hn I h) fun v s1 l ⟨x, H1, I1, r1, q1⟩ => ?_)
  exact wpAny_mono (hr.run pos pins s1 σ H1 _ l I1 q1) (fun vs s2 ⟨xs, H2, I2, r2, q2⟩ => ⟨x :: xs, H2, I2, .cons r1 r2, q2⟩) fun _ _ z => z
theorem at_nil : AaT n X [] tNil := .of pa_nil
theorem et_tup {x1 : Nat} (h : AaT n X es tA) : EeT n X (.Tuple es x1 pos) (tTup tA) := by
  refine ⟨fun pins s σ H Q hn I hq => wpAny_Tuple_spliced (wpAny_mono (h.run pos pins s σ H _ hn I hq) (fun us s1 ⟨xs, H1, I1, r, z, q⟩ => ⟨by rw [← r.length]; exact z, ?_⟩) fun _ _ z => z)⟩
  have fr : H1 s1.heap.objs.size = none := I1.hok.fresh (Nat.le_refl _)
  exact ⟨.ref _, upd H1 s1.heap.objs.size (.tup xs), I1.laid (t' := s1.toks) (fun b u e => Heap.get?_push_of_some _ e) (Nat.le_refl _) ⟨z, us, r, ⟨_, Heap.get?_push_size _ rfl, rfl, _, rfl⟩⟩, rfl, q _ fr⟩
theorem et_ifExp (hc : PT X a tt) (h1 : EeT n X b tb) (h2 : EeT n X e te) : EeT n X (.IfExp a b e pos) (tIf tt tb te) := by
  refine ⟨fun pins s σ H Q hn I h => wpAny_IfExp (keepT hn (hc.run pins s σ H _ I h) fun d s1 l ⟨H1, I1, q1⟩ => ?_)⟩
  cases d with
  | true => exact h1.run pins s1 σ H1 Q l I1 q1
  | false => exact h2.run pins s1 σ H1 Q l I1 q1
theorem tt_not (h : TtT n X a tt) : TtT n X (.UnaryOp .Not a pos) (tNot tt) := ⟨fun pins s σ H Q hn I q => isTrue_not (h.run pins s σ H (fun c H1 => Q (!c) H1) hn I q)⟩
theorem tt_val (h : EeT n X e te) (he : ∀ whole, isTrue e X.env whole = (do let v ← whole; standAt e.pos; holding [v] (truthy v)) := by intro _; rfl) : TtT n X e (tB te) := by
  refine ⟨fun pins s σ H Q hn I hw => isTrue_plain (wpAny_mono (h.run pins s σ H _ hn I hw) (fun v s1 ⟨x, H1, I1, r1, d, ed, q1⟩ => ?_) fun _ _ z => z) (he _)⟩
  subst ed
  cases r1
  exact wpAny_truthy_bool ⟨H1, I1, q1⟩
theorem et_cmp {op : CmpOp} {r : R2} (ho : OpR X (compareOp op) r) (ha : PE X a ta) (hb : EeT n X b tb) (hm : behindInMarks op b = false) : EeT n X (.Compare a [op] [b] pos) (tOp r ta tb) := by
  refine ⟨fun pins s σ H Q hn I h => wpAny_Compare1 (keepT hn (ha.run pins s σ H _ I h) fun v s1 l ⟨x, H1, I1, r1, q1⟩ => ?_) hm⟩
  exact wpAny_mono (hb.run pins s1 σ H1 _ l I1 q1) (fun u s2 ⟨y, H2, I2, r2, q2⟩ => ho pins s2 σ H2 x y v u Q I2 r1 r2 q2) fun _ _ z => z
theorem st_ret (he : EeT n X e te) : SsT n X (.Return (some e) pos) (tRet te) :=
  ⟨fun pins s σ H D hn I h => wpAny_Return_some (wpAny_mono (he.run pins s σ H _ hn I h) (fun v s1 ⟨x, H1, I1, r1, q1⟩ => ⟨x, σ, H1, I1, r1, q1⟩) fun _ _ z => z)⟩
theorem st_if (hc : TtT n X e tt) (ha : BbT n X rest t) {r2 : List Stmt} (hb : BbT n X r2 u) : SsT n X (.If e rest r2 pos) (tIfS tt t u) := by
  refine ⟨fun pins s σ H D hn I h => wpAny_If (keepT hn (hc.run pins s σ H _ hn I h) fun d s1 l ⟨H1, I1, q1⟩ => ?_)⟩
  cases d with
  | true => exact ha.run pins s1 σ H1 D l I1 q1
  | false => exact hb.run pins s1 σ H1 D l I1 q1
theorem st_set {i : Nat} {x : Str} {p' : Pos} (hN : X.N.Nodup) (hi : X.N[i]? = some x) (hx : Loc X.env.scope x) (he : EeT n X e te) (hs : swapsWith e (some (.Name x p')) pos.line X.env = pure false := by rfl)
    (hf : X.fn x = true ∨ X.env.scope.names.lookup x = some .local := by first | exact .inl rfl | exact .inr rfl | assumption) : SsT n X (.Assign [.Name x p'] e pos) (tAsg te (gName i)) :=
  ⟨fun pins s σ H D hn I h => wpAny_Assign_Name (wpAny_mono (he.run pins s σ H _ hn I h) (fun v s1 ⟨y, H1, I1, r1, q1⟩ => store_ok I1 hN hi hx r1 (fun s2 I2 => ⟨_, H1, I2, q1⟩) hf) fun _ _ z => z) hs⟩
/-- for: the iterator is made without, the body with -/
theorem st_for {tg iter : Expr} {body : List Stmt} {wi : TI} {g : TG} {tb : TS} (hp : PassesOwn (model X.prog X.w) X.A X.env X.xe) (hc : X.calm = true) (hi : PI X tg iter wi) (hg : PG X tg g) (hb : BbT n X body tb)
    (hs : ∀ x, foldedSetIterable iter X.env x = pure x := by intro _; rfl) : SsT n X (.For tg iter body [] pos) (tFor wi g tb) := by
  refine ⟨fun pins s σ H D hn I h => ?_⟩
  refine wpAny_For (keepT hn (hi.run pins s σ H _ I h) fun v s1 l1 h1 => keepT l1 h1 fun itv s2 l2 h2 => ?_) hs
  obtain ⟨it, fp, tn, J, H2, eit, I2, T, st2, f2, W, ⟨m0, w0⟩, turn⟩ := h2
  subst eit
  have fpk : ∀ {H' : Hp}, (∀ b ∈ fp, H' b = none) → ∀ b ∈ fp, FpOk X pins H' b := fun z b hb => ⟨z b hb, (f2 b hb).2⟩
  refine codeAny_forLoop_any (fun k s' => n ≤ s'.toks ∧ ∃ i σ' H', Inv X pins σ' H' s' ∧ tn i s'.heap ∧ (∀ b ∈ fp, H' b = none) ∧ W i k σ' H') ?_ m0 ⟨l2, 0, σ, H2, I2, st2, fun b hb => (f2 b hb).1, w0⟩
  intro k s3 ⟨l3, i, σ3, H3, I3, st3, fr3, w3⟩
  rcases turn i k σ3 H3 w3 with ⟨stop, fin⟩ | ⟨go, N, hN, step⟩
  · exact wpAny_passesOwn hp (wpAny_mono (T.done X rfl rfl rfl hc i pins s3 σ3 H3 X.xe I3 (fpk fr3) st3 stop) (fun r s4 ⟨er, I4⟩ => by subst er; exact wpAny_execs_nil ⟨σ3, H3, I4, fin⟩) fun _ _ z => z)
  refine wpAny_passesOwn hp (keepT l3 (T.item X rfl rfl rfl hc i pins s3 σ3 H3 X.xe I3 (fpk fr3) st3 go) fun r s4 l4 ⟨u, er, h4⟩ => ?_)
  subst er
  refine wpAny_passesOwn hp (keepT l4 h4 fun _ s5 l5 ⟨x, H5, I5, r5, y5, st5, fr5⟩ => ?_)
  have J5 := I5.pinned (fpk fr5) (T.obj _ _ st5)
  refine wpAny_passesOwn hp (keepT l5 (hg.run _ s5 σ3 H5 x u _ J5 r5 (step x H5 y5)) fun _ s6 l6 ⟨σ6, H6, I6, q6⟩ => ?_)
  refine wpAny_passesOwn hp (keepT l6 (hb.run _ s6 σ6 H6 _ l6 I6 q6) fun f s7 l7 q7 => ?_)
  have next : ∀ {σ7 : St} {H7 : Hp}, Inv X (pins ++ pinsAt fp s5.heap) σ7 H7 s7 → N σ7 H7 → ∃ m, m < k ∧ n ≤ s7.toks ∧ ∃ i σ' H', Inv X pins σ' H' s7 ∧ tn i s7.heap ∧ (∀ b ∈ fp, H' b = none) ∧ W i m σ' H' := fun {σ7 H7} I7 n7 => by
    obtain ⟨m, hm, w7⟩ := hN σ7 H7 n7
    have pn : ∀ b ∈ fp, ∀ o, s5.heap.get? b = some o → s7.heap.get? b = some o ∧ H7 b = none := fun b hb o eo =>
      let z := I7.pin (b, o) (List.mem_append_right _ (List.mem_append_right _ (mem_pinsAt hb eo)))
      ⟨z.1, z.2.1⟩
    exact ⟨m, hm, l7, i + 1, σ7, H7, I7.unpinned, T.keep _ _ _ st5 fun b hb o eo => (pn b hb o eo).1, fun b hb => let ⟨o, eo, _⟩ := T.obj _ _ st5 b hb; (pn b hb o eo).2, w7⟩
  match f, q7 with
  | .next, ⟨_, _, I7, n7⟩ => exact next I7 n7
  | .cont, ⟨_, _, I7, n7⟩ => exact next I7 n7
  | .brk, ⟨σ7, H7, I7, q⟩ => exact ⟨σ7, H7, I7.unpinned, q⟩
  | .ret v, ⟨x7, σ7, H7, I7, r7, q⟩ => exact ⟨x7, σ7, H7, I7.unpinned, r7, q⟩
end
end K16T
end
section
set_option Elab.async false
set_option linter.all false
set_option maxRecDepth 100000
namespace K16T
open PySem PySem.Spec PyProof.Rows L2
section
variable {n : Nat} {X : Cx} {CX : CXT} {k i : Nat} {f : Addr} {fd : FuncData} {ps ks : List Str} {sp : Sp} {E : St → XK} {x : Str} {p pos : Pos} {e : Expr} {es : List Expr} {t tk : TA} {kws : List Keyword}
theorem FnT.mono {P : Program} {w : World} {K : PySem.W.Frag} {mg : Str → Option Value} {base : Heap} {j : Nat} (F : FnT n P w K mg base CX j f fd ps sp) (h : j ≤ k) : FnT n P w K mg base CX k f fd ps sp :=
  ⟨F.len, fun A outer s H args us vs Q E hn hg hr => F.run A outer s H args us vs Q E hn hg (hr.mono h)⟩
theorem FnT.of {P : Program} {w : World} {K : PySem.W.Frag} {mg : Str → Option Value} {base : Heap} (F : FnOk P w K mg base CX k f fd ps sp) : FnT n P w K mg base CX k f fd ps sp :=
  ⟨F.len, fun A outer s H args us vs Q E _ _ hr => F.run A outer s H args us vs Q E hr⟩
/-- the end of a call, for its caller -/
theorem back {pins : List (Addr × Obj)} {σ : St} {H : Hp} {s : Shared} {Q : VK} {Eσ : XK} {args : Args} {us : List Value} {kw : List (Str × Value)} (I : Inv X pins σ H s) (hx : PassesAt CX X σ Eσ)
    (h : codeAny (model X.prog X.w) X.A (.call (.ref f) ⟨us, kw⟩) (CR CX X.stack X.prog X.w H s Q Eσ) s) : wpAny (model X.prog X.w) X.A (call (.ref f) us kw) (EP X pins σ Q) X.xe s :=
  wpAny_call (codeAny_mono h fun r s' hq => match r, hq with
    | .error e, hq => hx pins H s e s' I hq
    | .ok (.ret _), hq => I.after hq
    | .ok .next, hq => hq.elim
    | .ok .brk, hq => hq.elim
    | .ok .cont, hq => hq.elim)
def tCl (sp : Sp) (E : St → XK) (t : TA) : TE := fun σ H Q => t σ H fun vs H1 => sp vs H1 Q (E σ)
theorem bindsU {K : PySem.W.Frag} {s : Shared} {us : List Value} (hb : Binds K fd ps []) (hk : K.In s.heap) (hl : us.length = ps.length) : BindsTo s fd ⟨us, []⟩ (ps.zip us) := by
  have b := hb s us hk (by rw [List.append_nil]; exact hl)
  rwa [List.append_nil] at b
/-- f(e, ..), f a def of the module -/
theorem et_call (F : FnT n X.prog X.w X.K X.mg X.base CX k f fd ps sp) (hG : X.A.guards = some []) (hr : Room k X.A) (hg : Gl X x) (hm : X.mg x = some (.ref f)) (hk : PySem.W.keepIn X.K (.ref f) = true) (hb : Binds X.K fd ps []) (hx : ∀ σ, PassesAt CX X σ (E σ))
    (ha : AaT n X (e :: es) t) (hdb : (x == ("__debug__" : Str)) = false := by decide) (he : starEach (e :: es) X.env = (false, eval e X.env) :: starEach es X.env := by rfl) (hpl : (backTo pos (starEach es X.env)).any (·.1) = false := by rfl) :
    EeT n X (.Call (.Name x p) (e :: es) [] pos) (tCl sp E t) := by
  refine ⟨fun pins s σ H Q hn I h => wpAny_Call_Name_kw (ld_glob I hg hm ?_ hdb)⟩
  refine PySem.W.callWith_K (h₀ := X.base) I.ok.mod.kin hk (keepT hn (ha.run pos pins s σ H _ hn I h) fun us s1 l ⟨vs, H1, I1, r, q⟩ => ⟨I1.kIn, ?_⟩) he hpl
  exact back (args := ⟨us, []⟩) I1 (hx σ) (F.run X.A X.stack s1 H1 ⟨us, []⟩ us vs Q (E σ) l hG hr I1.env0 (bindsU hb I1.kIn (by rw [← r.length]; exact F.len _ _ _ _ q)) r q)
/-- f(k = e, ..) -/
theorem et_callK0 {g : List Value → List Value → List Value} {gV : List V → List V → List V} (F : FnT n X.prog X.w X.K X.mg X.base CX k f fd ps sp) (hG : X.A.guards = some []) (hr : Room k X.A) (hg : Gl X x) (hm : X.mg x = some (.ref f)) (hk : PySem.W.keepIn X.K (.ref f) = true) (hb : KBinds X.K fd ps ks g gV) (hx : ∀ σ, PassesAt CX X σ (E σ))
    (hkw : PK X kws tk) (hall : (backToKw pos (keywordEach kws X.env)).all (·.1.isSome) = true := by rfl) (hks : (backToKw pos (keywordEach kws X.env)).filterMap (·.1) = ks := by rfl)
    (hdb : (x == ("__debug__" : Str)) = false := by decide) (hpl : ((backTo pos (starEach [] X.env)).any (·.1) || (backToKw pos (keywordEach kws X.env)).any (·.1.isNone)) = false := by rfl) :
    EeT n X (.Call (.Name x p) [] kws pos) (fun σ H Q => tk σ H fun zs H1 => sp (gV [] zs) H1 Q (E σ)) := by
  refine ⟨fun pins s σ H Q hn I h => wpAny_Call_Name_kw (ld_glob I hg hm ?_ hdb)⟩
  refine PySem.W.callWith_KW0 (h₀ := X.base) I.ok.mod.kin hk hall (keepT hn (hkw.run pos pins s σ H _ I h) fun ws s2 l ⟨zs, H2, I2, rz, q⟩ => ⟨I2.kIn, ?_⟩) hpl
  rw [hks]
  have r2 := hb.rel (.nil : Vals [] []) rz
  exact back (args := ⟨[], ks.zip ws⟩) I2 (hx σ) (F.run X.A X.stack s2 H2 ⟨[], ks.zip ws⟩ (g [] ws) (gV [] zs) Q (E σ) l hG hr I2.env0 (hb.to s2 [] ws I2.kIn (by rw [← r2.length]; exact F.len _ _ _ _ q)) r2 q)
/-- x(e, ..), x a local name that holds the def at f -/
theorem et_callV (F : FnT n X.prog X.w X.K X.mg X.base CX k f fd ps sp) (hG : X.A.guards = some []) (hr : Room k X.A) (hN : X.N[i]? = some x) (hv : Vis X.env.scope x) (hk : PySem.W.keepIn X.K (.ref f) = true) (hb : Binds X.K fd ps []) (hx : ∀ σ, PassesAt CX X σ (E σ))
    (ha : AaT n X (e :: es) t) (hdb : (x == ("__debug__" : Str)) = false := by decide) (hcd : (x == ("__classdict__" : Str)) = false := by decide) (he : starEach (e :: es) X.env = (false, eval e X.env) :: starEach es X.env := by rfl) (hpl : (backTo pos (starEach es X.env)).any (·.1) = false := by rfl) :
    EeT n X (.Call (.Name x p) (e :: es) [] pos) (fun σ H Q => σ[i]? = some (some (.ref f)) ∧ tCl sp E t σ H Q) := by
  refine ⟨fun pins s σ H Q hn I ⟨hs, h⟩ => ?_⟩
  refine wpAny_Call_Name_kw (keepT hn ((pe_var (pos := p) hN hv hdb hcd).run pins s σ H (fun v H1 => v = .ref f ∧ H1 = H) I ⟨.ref f, hs, rfl, rfl⟩) fun u s1 l1 ⟨v, H1, I1, r1, ev, eH⟩ => ?_)
  subst ev; subst eH
  cases r1
  refine PySem.W.callWith_K (h₀ := X.base) I.ok.mod.kin hk (keepT l1 (ha.run pos pins s1 σ _ _ l1 I1 h) fun us s2 l ⟨vs, H2, I2, r, q⟩ => ⟨I2.kIn, ?_⟩) he hpl
  exact back (args := ⟨us, []⟩) I2 (hx σ) (F.run X.A X.stack s2 H2 ⟨us, []⟩ us vs Q (E σ) l hG hr I2.env0 (bindsU hb I2.kIn (by rw [← r.length]; exact F.len _ _ _ _ q)) r q)
/-- a def's keyword call that wants no tokens -/
theorem pe_callK0 {g : List Value → List Value → List Value} {gV : List V → List V → List V} (F : FnOk X.prog X.w X.K X.mg X.base CX k f fd ps sp) (hr : Room k X.A) (hg : Gl X x) (hm : X.mg x = some (.ref f)) (hk : PySem.W.keepIn X.K (.ref f) = true) (hb : KBinds X.K fd ps ks g gV) (hx : ∀ σ, PassesAt CX X σ (E σ))
    (hkw : PK X kws tk) (hall : (backToKw pos (keywordEach kws X.env)).all (·.1.isSome) = true := by rfl) (hks : (backToKw pos (keywordEach kws X.env)).filterMap (·.1) = ks := by rfl)
    (hdb : (x == ("__debug__" : Str)) = false := by decide) (hpl : ((backTo pos (starEach [] X.env)).any (·.1) || (backToKw pos (keywordEach kws X.env)).any (·.1.isNone)) = false := by rfl) :
    PE X (.Call (.Name x p) [] kws pos) (fun σ H Q => tk σ H fun zs H1 => sp (gV [] zs) H1 Q (E σ)) := by
  refine ⟨fun pins s σ H Q I h => wpAny_Call_Name_kw (ld_glob I hg hm ?_ hdb)⟩
  refine PySem.W.callWith_KW0 (h₀ := X.base) I.ok.mod.kin hk hall (wpAny_mono (hkw.run pos pins s σ H _ I h) (fun ws s2 ⟨zs, H2, I2, rz, q⟩ => ⟨I2.kIn, ?_⟩) fun _ _ z => z) hpl
  rw [hks]
  have r2 := hb.rel (.nil : Vals [] []) rz
  exact back (args := ⟨[], ks.zip ws⟩) I2 (hx σ) (F.run X.A X.stack s2 H2 ⟨[], ks.zip ws⟩ (g [] ws) (gV [] zs) Q (E σ) hr I2.env0 (hb.to s2 [] ws I2.kIn (by rw [← r2.length]; exact F.len _ _ _ _ q)) r2 q)
/-- .. of a local name -/
theorem pe_callW (F : FnOk X.prog X.w X.K X.mg X.base CX k f fd ps sp) (hr : Room k X.A) (hN : X.N[i]? = some x) (hv : Vis X.env.scope x) (hk : PySem.W.keepIn X.K (.ref f) = true) (hb : Binds X.K fd ps []) (hx : ∀ σ, PassesAt CX X σ (E σ))
    (ha : PA X (e :: es) t) (hdb : (x == ("__debug__" : Str)) = false := by decide) (hcd : (x == ("__classdict__" : Str)) = false := by decide) (he : starEach (e :: es) X.env = (false, eval e X.env) :: starEach es X.env := by rfl) (hpl : (backTo pos (starEach es X.env)).any (·.1) = false := by rfl) :
    PE X (.Call (.Name x p) (e :: es) [] pos) (fun σ H Q => σ[i]? = some (some (.ref f)) ∧ tCl sp E t σ H Q) := by
  refine ⟨fun pins s σ H Q I ⟨hs, h⟩ => ?_⟩
  refine wpAny_Call_Name_kw (wpAny_mono ((pe_var (pos := p) hN hv hdb hcd).run pins s σ H (fun v H1 => v = .ref f ∧ H1 = H) I ⟨.ref f, hs, rfl, rfl⟩) (fun u s1 ⟨v, H1, I1, r1, ev, eH⟩ => ?_) fun _ _ z => z)
  subst ev; subst eH
  cases r1
  refine PySem.W.callWith_K (h₀ := X.base) I.ok.mod.kin hk (wpAny_mono (ha.run pos pins s1 σ _ _ I1 h) (fun us s2 ⟨vs, H2, I2, r, q⟩ => ⟨I2.kIn, ?_⟩) fun _ _ z => z) he hpl
  exact back (args := ⟨us, []⟩) I2 (hx σ) (F.run X.A X.stack s2 H2 ⟨us, []⟩ us vs Q (E σ) hr I2.env0 (bindsU hb I2.kIn (by rw [← r.length]; exact F.len _ _ _ _ q)) r q)

/-! o.replace(NAME, 'written'), o.split() -/
def tRepN (to : TE) (y z : Str) : TE := fun σ H Q => to σ H fun v H1 => ∃ x, v = .str x ∧ x.length + (x.length + 1) * z.length ≤ 16777216 ∧ Q (.str (Txt.replace x y z)) H1
theorem et_repN {o : Expr} {to : TE} {y z nm : Str} {ty : Nat} {j : Nat} {p1 c1 apos : Pos} (ho : EeT n X o to) (hg : Gl X nm) (hm : X.mg nm = some (.str y ty)) (h0 : ty ≠ 0) (hlt : ty < n) (hyz : (y == z) = false := by decide)
    (hst : starEach [.Name nm p1, .Constant (.str z) j c1] X.env = [(false, eval (.Name nm p1) X.env), (false, eval (.Constant (.str z) j c1) X.env)] := by rfl)
    (hbase : attributeBase o "replace" X.env (eval o X.env) = eval o X.env := by rfl) (hline : (apos.endLine == pos.line) = true := by rfl) (hdb : (nm == ("__debug__" : Str)) = false := by decide) :
    EeT n X (.Call (.Attribute o "replace" apos) [.Name nm p1, .Constant (.str z) j c1] [] pos) (tRepN to y z) := by
  refine ⟨fun pins s σ H Q hn I h => PySem.Call_method2 hbase hst hline (keepT hn (ho.run pins s σ H _ hn I h) fun v s1 l ⟨v', H1, I1, r1, x, e1, hb, q⟩ => ?_)⟩
  subst e1
  obtain ⟨tx, e2⟩ := r1
  subst e2
  refine ⟨"str", _, PySem.F.plainAttrs_str, PySem.F.slot_str_replace, PySem.F.type_str_replace, typeIs_str _ _ _, (fun _ e => nomatch e), Calls.callWith_builtin rfl (Calls.evalArgs_plain (Calls.spliced_cons ?_))⟩
  refine ld_glob I1 hg hm (Calls.spliced_cons (Calls.Constant_str (Calls.spliced_nil ?_))) hdb
  have l1 : ty < s1.toks := Nat.lt_of_lt_of_le hlt l
  exact PySem.SC.replace h0 (Nat.ne_of_gt (Nat.lt_of_le_of_lt (Nat.zero_le _) l1)) (Nat.ne_of_lt l1) hyz hb fun t' k => ⟨.str (Txt.replace x y z), H1, I1.tok k, ⟨t', rfl⟩, q⟩
theorem et_words {o : Expr} {to : TE} {apos : Pos} (ho : EeT n X o to) (hbase : attributeBase o "split" X.env (eval o X.env) = eval o X.env := by rfl) (hline : (apos.endLine == pos.line) = true := by rfl) :
    EeT n X (.Call (.Attribute o "split" apos) [] [] pos) (fun σ H Q => to σ H fun x H1 => ∃ a, x = .str a ∧ a.length + 2 ≤ sizeLine ∧ rNewStrs (Txt.words a) H1 Q) := by
  refine ⟨fun pins s σ H Q hn I h => PySem.Call_method0 hbase hline (wpAny_mono (ho.run pins s σ H _ hn I h) (fun v s1 ⟨x, H1, I1, r1, a, ea, hz, q1⟩ => ?_) fun _ _ z => z)⟩
  subst ea
  obtain ⟨tx, e2⟩ := id r1
  subst e2
  exact ⟨"str", _, F.plainAttrs_str, F.slot_str_split, F.type_str_split, typeIs_str _ _ _, (fun _ e => nomatch e), Calls.callWith_builtin rfl (PySem.evalArgs_none (mt_words pins s1 σ H1 _ [] _ [] Q I1 r1 .nil ⟨a, rfl, rfl, hz, q1⟩))⟩
/-- a def of plain promise, its arguments with the tokens -/
theorem et_callF (F : FnOk X.prog X.w X.K X.mg X.base CX k f fd ps sp) (hr : Room k X.A) (hg : Gl X x) (hm : X.mg x = some (.ref f)) (hk : PySem.W.keepIn X.K (.ref f) = true) (hb : Binds X.K fd ps []) (hx : ∀ σ, PassesAt CX X σ (E σ))
    (ha : AaT n X (e :: es) t) (hdb : (x == ("__debug__" : Str)) = false := by decide) (he : starEach (e :: es) X.env = (false, eval e X.env) :: starEach es X.env := by rfl) (hpl : (backTo pos (starEach es X.env)).any (·.1) = false := by rfl) :
    EeT n X (.Call (.Name x p) (e :: es) [] pos) (tCl sp E t) := by
  refine ⟨fun pins s σ H Q hn I h => wpAny_Call_Name_kw (ld_glob I hg hm ?_ hdb)⟩
  refine PySem.W.callWith_K (h₀ := X.base) I.ok.mod.kin hk (keepT hn (ha.run pos pins s σ H _ hn I h) fun us s1 l ⟨vs, H1, I1, r, q⟩ => ⟨I1.kIn, ?_⟩) he hpl
  exact back (args := ⟨us, []⟩) I1 (hx σ) (F.run X.A X.stack s1 H1 ⟨us, []⟩ us vs Q (E σ) hr I1.env0 (bindsU hb I1.kIn (by rw [← r.length]; exact F.len _ _ _ _ q)) r q)

/-! a def's body -/
theorem fnT_of {n : Nat} {CX : CXT} {P : Program} {w : World} {K : PySem.W.Frag} {mg : Str → Option Value} {base : Heap} {N ps : List Str} {k : Nat} {sp : Sp} {x qual : Str} {params : Arguments} {body : List Stmt} {scope : Scope} {f : Addr} {fd : FuncData}
    (F : FunD K x qual params body scope [] [] f fd) (S : FnScope N ps scope) (len : ∀ vs H Q E, sp vs H Q E → vs.length = ps.length)
    (hbody : ∀ (cdv : Value) (A : Around) (outer : List Env) (s : Shared) (H : Hp) (vs : List V) (Q : VK) (E : XK), A.guards = some [] → Room k (A.deeper (envOfC qual scope s.heap.objs.size f cdv)) → sp vs H Q E →
      ∃ t, BbT n (cxOf CX P w K mg base N qual scope f cdv A outer s H E) body t ∧ t { nx := fun _ H' => Q .non H', rt := Q } (start N vs) H) : FnT n P w K mg base CX (k + 1) f fd ps sp := by
  obtain ⟨oc, od, dV, kV, doc, pm, an, cdv, ct, osl, efd, lk, hcd, _, _⟩ := F.ex
  subst efd
  refine ⟨len, fun A outer s H args us vs Q E hn hG hr e0 hb r hsp => ?_⟩
  have kb : ∀ b o, base.get? b = some o → s.heap.get? b = some o := fun b o e => (e0.bs b o e).1
  have KX : K.In s.heap := e0.mod.kin.keeps kb
  have hk2 : ∀ y ∈ ps.zip us, scope.names.lookup y.1 = some .local ∨ (scope.names.lookup y.1 = some .cell ∧ ((cellsFrom (s.heap.objs.size + 1) scope.names []).lookup y.1).isSome = true) := fun y hy => by
    cases S.par y.1 (List.of_mem_zip (show (y.1, y.2) ∈ ps.zip us from hy)).1 with
    | inl q => exact .inl q
    | inr q => exact .inr ⟨q, PySem.W.cellsFrom_some _ _ _ (.inl q)⟩
  refine codeAny_call_function hr.depth (KX _ _ lk) rfl S.co S.gen rfl (PySem.W.codeRec_of KX hcd) (hb _ _ _ _ ?_)
  refine wpAny_with_toks hn (wpAny_newFunctionEnv_cells S.kind hk2 fun env he s1 z => ?_)
  subst he
  intro l1
  refine ⟨(e0.mod.nolimit.keeps kb).keeps z.toInCall.keep, codeAny_func ?_⟩
  obtain ⟨t, ht, hq⟩ := hbody cdv A outer s H vs Q E hG (hr.deeper _) hsp
  have J := inv_start (CX := CX) (P := P) (w := w) (mg := mg) (base := base) (E := E) S hr.hd e0 (len _ _ _ _ hsp) r z
  refine wpAny_mono (ht.run [] s1 (start N vs) H _ l1 J hq) (fun fl s' hs => ?_) fun _ _ z => z
  match fl, hs with
  | .ret u, ⟨v, σ', H', J', rv, q⟩ => exact ⟨v, H', J'.os, J'.bare, J'.base, J'.hok, rv, q⟩
  | .next, ⟨σ', H', J', q⟩ => exact ⟨.non, H', J'.os, J'.bare, J'.base, J'.hok, rfl, q⟩
  | .brk, ⟨_, _, _, q⟩ => exact q.elim
  | .cont, ⟨_, _, _, q⟩ => exact q.elim
end
end K16T
end
section
set_option Elab.async false
set_option linter.all false
set_option maxRecDepth 100000
set_option maxHeartbeats 2000000
namespace K16T
open PySem PySem.Spec PyProof.Rows L2
/-- what 'try: return e / except x as n' wishes of an exception of e -/
def wTr (K : PySem.W.Frag) (c : Value) (i : Nat) (ts : Addr → Value → Option Addr → TS) (R : VK) : WX := fun cls d σ H =>
  PySem.W.exmOne K cls c = some true ∧ ∀ a, H a = none → ts a cls d { nx := fun _ _ => False, bk := fun _ _ => False, ct := fun _ _ => False, rt := R } (σ.set i (some (.ref a))) H
section
variable {n : Nat} {X : Cx} {x nm : Str} {c : Value} {i : Nat} {e : Expr} {suite : List Stmt} {b0 : Stmt} {p1 np pos pos' : Pos} {te : WX → TE} {ts : Addr → Value → Option Addr → TS}
theorem st_tryRet (hs : X.stack = X.env :: X.outer) (hf : X.env.frame = some X.env.locals) (hN : X.N.Nodup) (hi : X.N[i]? = some nm) (hln : X.env.kindOf nm = some .local) (hc : Names X x c)
    (hb : ∀ (W : WX) (pn : List (Addr × Obj)) (xe : Value → Shared → Prop), Takes (X.tr pn xe) W → EeT n (X.tr pn xe) e (te W))
    (hsu : ∀ (a : Addr) (oe : Obj) (cls : Value) (d : Option Addr) (pn : List (Addr × Obj)), Zc cls d oe → (∃ vs, oe.data = .fields vs) → PSs (X.suite a ((a, oe) :: pn)) (b0 :: suite) (ts a cls d)) :
    SsT n X (.Try [.Return (some e) p1] [.ExceptHandler (some (.Name x np)) (some nm) (b0 :: suite) pos'] [] [] pos) (fun D σ H => te (wTr X.K c i ts D.rt) σ H D.rt) := by
  refine ⟨fun pins s σ H D hn I h => wpAny_Try_except ?_⟩
  have frs0 : X.A.frames = some (X.env :: X.outer) := by rw [I.ok.frames, hs]
  have body := st_ret (pos := p1) (hb (wTr X.K c i ts D.rt) (X.pn ++ pins) (fun e1 s1 => wpAny (model X.prog X.w) X.A (noteFrame e1 X.env) (fun _ s2 => wpAny (model X.prog X.w) X.A (setFlight e1 none) (fun _ s3 =>
    wpAny (model X.prog X.w) X.A (handleBy e1 X.env [.ExceptHandler (some (.Name x np)) (some nm) (b0 :: suite) pos']) (SP X pins D) X.xe s3) X.xe s2) X.xe s1) (fun u s' ⟨a, B, sI, pins2, σ2, H2, cls, d, eu, J0, nb, up, sky, na, os, ag, hmt, hgo⟩ => ?_))
  · have run := (bt_one body).run [] s σ H { nx := fun _ _ => False, bk := fun _ _ => False, ct := fun _ _ => False, rt := D.rt } hn (I.toTry _) h
    refine wpAny_mono run (fun fl s1 q => ?_) fun _ _ z => z
    match fl, q with
    | .ret u, ⟨v, σ1, H1, J1, r1, q1⟩ => exact ⟨v, σ1, H1, J1.ofTry I.ok, r1, q1⟩
    | .next, ⟨_, _, _, q1⟩ => exact q1.elim
    | .brk, ⟨_, _, _, q1⟩ => exact q1.elim
    | .cont, ⟨_, _, _, q1⟩ => exact q1.elim
  -- an exception: it is of the named class
  subst eu
  have J : Inv X pins σ2 H2 sI := J0.ofTry I.ok
  have sk : Sky B (X.env :: X.outer) a (Zc cls d) X.env.locals s'.heap := by rw [← hs]; exact sky
  refine Sky.land Zc.steady frs0 hf sk fun g3 fl3 up3 => ?_
  obtain ⟨o3, v3, get3, z3, d3⟩ := fl3.there
  have off : a ∉ frs (X.env :: X.outer) := fun hm => by
    obtain ⟨_, o4, get4, notf⟩ := fl3.2.2.1.mem hm
    rw [get3] at get4
    cases get4
    exact notf _ d3
  have offL : a ≠ X.env.locals := fun z => off (List.mem_filterMap.mpr ⟨X.env, List.mem_cons_self, by rw [hf, z]⟩)
  have offF : a ∉ X.fs := fun hm => by
    obtain ⟨e4, m4, q4⟩ := List.mem_filterMap.mp hm
    exact off (List.mem_filterMap.mpr ⟨e4, List.mem_cons_of_mem _ m4, q4⟩)
  have J3 : Inv X pins σ2 H2 { s' with heap := g3 } := J.landed nb fl3.1 (up.trans up3) os ag
  have S3 := J3.suite get3 d3 na offL offF
  refine wpAny_handleBy_cons (codeAny_handlers_test ?_) (fun q => nomatch q)
  have ty3 : PySem.W.Looks (model X.prog X.w) g3 (typeOf (.ref a)) cls := fun A Q E s k q => wpAny_typeOf_ref (k _ _ get3) (by rw [z3.1]; exact q)
  have is3 := PySem.W.exm_one (M := model X.prog X.w) J3.kIn ty3 hmt
  have name3 : ∀ {Q : Value → Shared → Prop} {E : Value → Shared → Prop}, Q c { s' with heap := g3 } → wpAny (model X.prog X.w) (X.A.mark (some (.ref a))) (eval (.Name x np) X.env) Q E { s' with heap := g3 } := fun q => by
    obtain ⟨hg, hdb, hm | ⟨hm, hv, hnn⟩⟩ := hc
    · exact ld_glob (X := X.suite a ((a, o3) :: (X.pn ++ pins))) S3 hg hm q hdb
    · exact ld_blt (X := X.suite a ((a, o3) :: (X.pn ++ pins))) S3 hg hm hv q hnn hdb
  refine name3 (is3.here (codeAny_handlers_suite_as (HandSPX.lands_againZ fl3 fun g4 fl4 up4 => ?_)))
  obtain ⟨o4, v4, get4, z4, d4⟩ := fl4.there
  have J4 : Inv X pins σ2 H2 { s' with heap := g4 } := J.landed nb fl4.1 ((up.trans up3).trans up4) os ag
  refine store_ok (X := X.suite a ((a, o4) :: (X.pn ++ pins))) (v := .ref a) (J4.suite get4 d4 na offL offF) hN hi (.inl hln) rfl (fun s5 S5 => ?_) (.inr hln)
  refine wpAny_mono ((hsu a o4 cls d (X.pn ++ pins) z4 ⟨_, d4⟩).run [] s5 _ H2 _ S5 (hgo a na)) (fun fl s6 q => ?_) fun _ _ z => z.elim
  match fl, q with
  | .ret u, ⟨v6, σ6, H6, S6, r6, q6⟩ => exact gone_ok (S6.unsuite I.ok) hN hi hln fun s7 J7 => ⟨v6, _, H6, J7, r6, q6⟩
  | .next, ⟨_, _, _, q1⟩ => exact q1.elim
  | .brk, ⟨_, _, _, q1⟩ => exact q1.elim
  | .cont, ⟨_, _, _, q1⟩ => exact q1.elim
end
end K16T
end
section
set_option Elab.async false
set_option linter.all false
set_option maxRecDepth 100000
set_option maxHeartbeats 2000000
namespace K16T
open PySem PySem.Spec PyProof.Rows L2
section
variable {n : Nat} {X : Cx}
/-- a list comprehension without tests: each turn begins with the tokens -/
theorem et_lc {elt tg iter : Expr} {scope : Scope} {own : List (Str × Nat)} {pos : Pos} {wi : TI} {g : TG} {te : TE} (hc : X.calm = true) (hN : X.N.Nodup) (hi : PI X tg iter wi) (ok : BlkOk X.N X.env.scope scope own)
    (hg : ∀ (s : Shared) (H : Hp) (C : Addr) (cl : List (Str × Addr)) (fp : List Addr), PG (X.blk s H scope (compEnvC scope cl C X.env) fp) tg g)
    (he : ∀ (s : Shared) (H : Hp) (C : Addr) (cl : List (Str × Addr)) (fp : List Addr), EeT n (X.blk s H scope (compEnvC scope cl C X.env) fp) elt te) (hs : ∀ x, foldedSetIterable iter X.env x = pure x := by intro _; rfl) :
    EeT n X (.ListComp elt [⟨tg, iter, [], 0⟩] scope pos) (tLc wi g tYes te (own.map (·.2))) := by
  refine ⟨fun pins s σ H Q hn I h => ?_⟩
  rw [eval_ListComp]
  have seen : ∀ y ∈ scope.names, y.2 = .free → ∃ c, X.env.cells.lookup y.1 = some c := fun y hy ey => (ok.free y hy ey).elim (fun z => I.ok.has _ (.inl z)) fun z => I.ok.has _ (.inr z)
  refine wpAny_comprehension_free (use := none) rfl hs (closure_ok seen) ok.kind (fun y hy ey => by rw [ok.uniq y hy, ey]) (keepT hn (hi.run pins s σ H _ I h) fun xv s1 l1 hx => keepT l1 hx fun itv s2 l2 ⟨it, fp, tn, J, H2, eit, I2, T, st2, f2, q⟩ => ?_)
  subst eit
  refine wpAny_newObj_type (newEnv_comp ?_) (by show 0 ≤ sizeLine; decide)
  generalize eD : s2.heap.objs.size = D
  have freeD : H2 D = none := I2.hok.fresh (Nat.le_of_eq eD)
  obtain ⟨W, ⟨m0, w0⟩, turn⟩ := q D freeD
  generalize e3 : ({ s2 with heap := s2.heap.push { cls := .type "list", data := .seq ([] : List Value).toArray } } : Shared) = s3
  have hp3 : s3.heap = s2.heap.push { cls := .type "list", data := .seq ([] : List Value).toArray } := by rw [← e3]
  have l3 : n ≤ s3.toks := by rw [← e3]; exact l2
  have I3 : Inv X pins σ (upd H2 D (.lst [])) s3 := by
    rw [← e3]
    exact I2.laid (t' := s2.toks) (fun b o eb => Heap.get?_push_of_some _ eb) (Nat.le_of_eq eD) ⟨Nat.zero_le _, [], 0, .nil, by rw [← eD]; exact Heap.get?_push_size _ rfl⟩
  have f3 : ∀ b ∈ fp, FpOk X pins (upd H2 D (.lst [])) b ∧ b < s3.heap.objs.size := fun b hb => by
    obtain ⟨o, eo, _⟩ := T.obj _ _ st2 b hb
    have lt := Heap.lt_size eo
    exact ⟨⟨by rw [upd_ne (by rw [← eD]; exact Nat.ne_of_lt lt)]; exact (f2 b hb).1, (f2 b hb).2⟩, by rw [hp3, Heap.size_push]; exact Nat.lt_succ_of_lt lt⟩
  have I4 := block_start I3 ok hN f3
  have pg := hg s3 (upd H2 D (.lst [])) s3.heap.objs.size (cellsFrom (s3.heap.objs.size + 1) scope.names (cloFrom X.env.cells scope.names [])) fp
  have pe := he s3 (upd H2 D (.lst [])) s3.heap.objs.size (cellsFrom (s3.heap.objs.size + 1) scope.names (cloFrom X.env.cells scope.names [])) fp
  show codeAny _ _ (.compStart (.ListComp elt [⟨tg, iter, [], 0⟩] scope pos) 0 (.ref it) (.ref D) (compEnvC scope (cellsFrom (s3.heap.objs.size + 1) scope.names (cloFrom X.env.cells scope.names [])) s3.heap.objs.size X.env)) (compPost (model X.prog X.w) X.A X.xe none _ (.ref D) s3.heap.objs.size) { s3 with heap := pushCells (s3.heap.push { cls := .type "dict", data := .dict #[] }) scope.names }
  generalize ec : compEnvC scope (cellsFrom (s3.heap.objs.size + 1) scope.names (cloFrom X.env.cells scope.names [])) s3.heap.objs.size X.env = ce at I4 pg pe ⊢
  have loc : ce.locals = s3.heap.objs.size := by rw [← ec]; rfl
  have none3 : ∀ b ∈ fp, upd H2 D (.lst []) b = none := fun b hb => (f3 b hb).1.1
  generalize eH : upd H2 D (.lst []) = H3 at I3 I4 pg pe w0 none3 f3
  generalize e4 : ({ s3 with heap := pushCells (s3.heap.push { cls := .type "dict", data := .dict #[] }) scope.names } : Shared) = s4 at I4 ⊢
  have l4 : n ≤ s4.toks := by rw [← e4]; exact l3
  have st4 : tn 0 s4.heap := T.keep _ _ _ st2 fun b _ o eo => by rw [← e4]; exact pushCells_keeps _ _ _ _ (Heap.get?_push_of_some _ (by rw [hp3]; exact Heap.get?_push_of_some _ eo))
  have fpk : ∀ {σ' : St} {H' : Hp} {s' : Shared}, Inv (X.blk s3 H3 scope ce fp) [] σ' H' s' → (∀ b ∈ fp, H' b = none) → ∀ b ∈ fp, FpOk (X.blk s3 H3 scope ce fp) [] H' b := fun {σ' H' s'} J' z b hb =>
    ⟨z b hb, (J'.ok.exf b hb).1, J'.ok.exfs b hb, .inl hb, fun x c eb => (J'.ok.exf b hb).2 x c eb, fun p hp => absurd (show p ∈ ([] : List (Addr × Obj)) ++ [] from hp) (by simp)⟩
  suffices loop : codeAny (model X.prog X.w) X.A (.compLoop (.ListComp elt [⟨tg, iter, [], 0⟩] scope pos) 0 (.ref it) (.ref D) ce) (compPost (model X.prog X.w) X.A X.xe none (EP X pins σ Q) (.ref D) s3.heap.objs.size) s4 from codeAny_compStart_list loop (T.self X.A 0 _ _ _ st4 loop)
  refine compLoop_any (fun k s' => n ≤ s'.toks ∧ ∃ i H', Inv (X.blk s3 H3 scope ce fp) [] (wipe σ (own.map (·.2))) H' s' ∧ tn i s'.heap ∧ (∀ b ∈ fp, H' b = none) ∧ W i k H') ?_ m0 ⟨l4, 0, H3, I4, st4, none3, w0⟩
  intro k s5 ⟨l5, i, H5, I5, st5, n5, w5⟩
  rcases turn i k H5 w5 with ⟨stop, fin⟩ | ⟨go, Nx, hNx, step⟩
  · refine thnF (T.done (X.blk s3 H3 scope ce fp) rfl rfl rfl hc i [] s5 _ H5 (fun _ _ => False) I5 (fpk I5 n5) st5 stop) fun r s6 ⟨er, I6⟩ => ?_
    subst er
    have I7 : Inv X pins σ H5 s6 := I3.call' (ch := fp) I6.os I6.base I6.hok I6.bare fun b hb => ⟨(f3 b hb).1.2.2.2.1, (f3 b hb).1.2.1, (f3 b hb).1.2.2.2.2.1, (f3 b hb).1.2.2.2.2.2⟩
    have gone : H5 s3.heap.objs.size = none := by rw [← loc]; exact I6.free
    obtain ⟨m, names, _⟩ := I6.loc
    have names : s6.heap.Ns ce.locals m := names
    rw [loc] at names
    refine ⟨m, names, fun g2 sb => ?_⟩
    obtain ⟨f0, f1, _, f3', f4, f5⟩ := I3.fpOk (Nat.le_refl _) gone
    exact ⟨.ref D, H5, I7.turned (t' := s6.toks) (fun b o hb eb => (sb.2 b hb).trans eb) f0 f1 f3' f4 f5, rfl, fin⟩
  refine keepT l5 (thnF (T.item (X.blk s3 H3 scope ce fp) rfl rfl rfl hc i [] s5 _ H5 (fun _ _ => False) I5 (fpk I5 n5) st5 go) fun _ _ z => z) fun r s6 l6 ⟨u, er, h6⟩ => ?_
  subst er
  refine keepT l6 (thnF h6 fun _ _ z => z) fun _ s7 l7 ⟨x, H7, I7, r7, y7, st7, n7⟩ => ?_
  refine keepT l7 (thnF (pg.run _ s7 _ H7 x u _ (I7.pinned (fpk I7 n7) (T.obj _ _ st7)) r7 (step x H7 y7)) fun _ _ z => z) fun _ s8 l8 ⟨σ8, H8, I8, same8, q8⟩ => ?_
  refine wpAny_tests_nil ?_
  show (if true = true then _ else _)
  rw [if_pos rfl]
  have q8 : te σ8 H8 fun y H4 => ∃ acc, H4 D = some (.lst acc) ∧ acc.length < sizeLine ∧ Nx (upd H4 D (.lst (acc ++ [y]))) := by
    have z : (if true = true then te σ8 H8 (fun y H4 => ∃ acc, H4 D = some (.lst acc) ∧ acc.length < sizeLine ∧ Nx (upd H4 D (.lst (acc ++ [y])))) else Nx H8) := q8
    rwa [if_pos rfl] at z
  refine keepT l8 (thnF (pe.run _ s8 σ8 H8 _ l8 I8 q8) fun _ _ z => z) fun z s9 l9 ⟨yv, H9, I9, r9, acc, at9, z9, nx⟩ => ?_
  refine keepT l9 (app_ok (X := X.blk s3 H3 scope ce fp) (Q := fun _ s10 => Inv (X.blk s3 H3 scope ce fp) ([] ++ pinsAt fp s7.heap) σ8 (upd H9 D (.lst (acc ++ [yv]))) s10) I9 at9 z9 r9 fun _ J => J) fun _ s10 l10 I10 => ?_
  obtain ⟨m, hm, w10⟩ := hNx _ nx
  have pn : ∀ b ∈ fp, ∀ o, s7.heap.get? b = some o → s10.heap.get? b = some o ∧ upd H9 D (.lst (acc ++ [yv])) b = none := fun b hb o eo =>
    let z := I10.pin (b, o) (List.mem_append_right _ (List.mem_append_right _ (mem_pinsAt hb eo)))
    ⟨z.1, z.2.1⟩
  refine ⟨m, hm, l10, i + 1, _, (I10.unpinned (pins := [])).weak (by rw [← same8, wipe_length]) (fun j v ej => ?_), T.keep _ _ _ st7 fun b hb o eo => (pn b hb o eo).1, fun b hb => let ⟨o, eo, _⟩ := T.obj _ _ st7 b hb; (pn b hb o eo).2, w10⟩
  rw [← same8] at ej
  exact (wipe_some ej).1
end
end K16T
end
section
set_option Elab.async false
set_option linter.all false
set_option maxRecDepth 100000
set_option maxHeartbeats 2000000
/-! the law's end, with the tokens that the top has given out -/
namespace K16T
section
open PySem PySem.W PySem.Calls PyProof.Rows
theorem openT {r : OpenRow} {q : Program} {loose : List Str} {H : Hook} {d : DefRec} {kwd : List (Str × Expr)} {N T0 : Nat} {Xt : Shared → Bool} {XP : (Str → Option Value) → Heap → Prop}
    (left : LeftO r.prog q loose Xt (fun s => (H.obs s, Nat.ble T0 s.toks)) (fun w => (H.val w, true)) N)
    (hX : ∀ s, Xt s = true → XP (s.heap.nsMap mainGlobals) s.heap) (hXk : ∀ mg h h', XP mg h → (∀ b o, h.get? b = some o → h'.get? b = some o) → XP mg h')
    (hdef : defOf q r.name = some (d, kwd)) (hp : r.prog.theDef r.name = some (d.params, d.body, d.scope)) (hk : kwWritten? d.params.kwonlyargs d.params.kw_defaults = some kwd) (hRf : ∀ s, Xt s = true → RecFacts r.toRowW.records s.heap) (hwr : (!r.writes || r.toRowW.records.isEmpty) = true)
    (k1 : r.wellSaid = true) (ok : (chainsOk q && opensWell r.prog && (frees r.toRowW && r.within.isEmpty)) = true) (hb : r.prog.bare) (hw : r.toRowW.promised)
    (call : ∀ (w : World) (s₀ s₁ : Shared) (mg mb : Str → Option Value), T0 ≤ s₁.toks → Ground q loose r.toRowW.records XP w s₀ mg mb s₁.heap → H.says w s₁.heap → ∀ (a : Addr) (o : Obj) (pm cd doc dV kV : Value), s₁.heap.get? a = some o →
      o.data = .func { docDef d.name d.params d.body d.scope pm cd doc with defaults := dV, kwdefaults := kV } → s₁.heap.CodeRec cd d.name → Dflts mg s₁.heap d.params kwd dV kV → mg d.name = some (.ref a) → s₁.gens = #[] →
      ∀ (args : List WData) (vals : List Value), r.toRowW.claim.pre args = true → WellAll w.params s₁.heap vals args →
        wpAny (model r.toRowW.prog w) callerA (PySem.call (.ref a) vals) (fun v s' => GoodWG r.toRowW.claim (classAt s₀.heap) (ExcName.means s₀.heap) args s₁ (.ok (.ret v)) s') (fun e s' => GoodWG r.toRowW.claim (classAt s₀.heap) (ExcName.means s₀.heap) args s₁ (.error e) s') s₁) :
    r.Holds := by
  have all := ok
  obtain ⟨ok1, fr⟩ := Bool.and_eq_true_iff.mp ok
  obtain ⟨chains, opens⟩ := Bool.and_eq_true_iff.mp ok1
  obtain ⟨fr1, fr2⟩ := Bool.and_eq_true_iff.mp fr
  obtain ⟨sameN, unt, ali, apa, mak⟩ := frees_parts fr1
  have wi : r.toRowW.claim.within = [] := List.isEmpty_iff.mp fr2
  have idf := ident_freeW unt ali apa
  have tree : ∀ (vs : List Value) (w : World) (s : Shared) (mg : Str → Option Value) (f : Value) (Q : Fin → Shared → Prop) (E : Value → Shared → Prop), s.heap.Ns mainGlobals mg → mg r.toRowW.name = some f → wpAny (model r.toRowW.prog w) callerA (PySem.call f vs) (fun v s' => Q (.done (.ret v)) s') E s →
      wpAny (model r.toRowW.prog w) callerA (do match ← nsGet mainNs r.name with
        | some f => do ret (← PySem.call f vs)
        | none => unsupported "claim.caller:no-such-global") Q E s := fun vs w s mg f Q E hg hf h =>
    wpAny_bind (wpAny_nsGet hg (by rw [show mg r.name = some f from hf]; exact wpAny_bind (wpAny_mono h (fun _ _ x => wpAny_pure x) fun _ _ x => x)))
  refine ⟨k1, hw, ⟨hb, opens, by show r.toRowW.makers.map _ = []; rw [mak]; rfl⟩, hw.witness, fun w => ⟨(left.behind hX chains w).1, fun s' hs' => ?_⟩⟩
  obtain ⟨sA, fA, gA, s, ran, asl, gs, hg, G2, y⟩ := (left.behind (XP := fun mg h => XP mg h ∧ RecFacts r.toRowW.records h) (fun s hs => ⟨hX s hs, hRf s hs⟩) chains w).2 s' hs'
  have y1 : H.obs s = H.val w := congrArg Prod.fst y
  have y2 : T0 ≤ s.toks := Nat.le_of_ble_eq_true (congrArg Prod.snd y)
  have G0 : Ground q loose [] XP w s (s.heap.nsMap mainGlobals) (s.heap.nsMap builtinsNs) s.heap := ⟨G2.T, G2.B, G2.D, G2.TE, G2.TD, G2.W, G2.X.1, G2.cls, G2.has, G2.apart, G2.once, G2.K⟩
  have RF := G2.X.2
  refine ⟨sA, fA, gA, s, ran, fun nm hnm => ?_, RF.1, RF.2.1, ?_⟩
  · obtain rfl : nm = r.name := by split at hnm <;> simp_all
    exact pinned_of_view hg G0 hdef hp hk
  have ng : s.gens = #[] := Array.eq_empty_of_size_eq_zero (beq_iff_eq.mp gs)
  have GG : Ground q loose r.toRowW.records XP w s _ _ s.heap := RF.ground G0
  refine ClaimW.callFrom_of_specG (c := r.toRowW.claim) asl ng fun args hpre hlay ord hord => ?_
  obtain ⟨⟨vs, s₁⟩, laid⟩ := Option.isSome_iff_exists.mp (layAllW_isSome (P := w.params) (ord := ord) GG.has args r.toRowW.args s (pre_splitW hpre).1)
  have kp := layAllW_keeps _ _ _ laid
  have rst := layAllW_rest _ _ _ laid
  obtain ⟨as, rd, inn, old⟩ := reads_layAllW hord _ _ _ laid hlay s₁.heap (fun _ _ e => e)
  have L : Laid r.toRowW.records w s s₁ args vs as := ⟨⟨ord, hord, laid⟩, rd, inn, old, kp, rst.1.trans ng, rst.2.2.1⟩
  have G1 := GG.keeps hXk kp
  obtain ⟨a, o, pm, cd, doc, dV, kV, h1, h2, h3, h4, h5⟩ := G1.fn hdef
  have tk : T0 ≤ s₁.toks := Nat.le_trans y2 (layAllW_grows args s (vs, s₁) laid).toks
  have h := call w s s₁ _ _ tk G1 (H.keeps _ _ _ (H.of w s y1) kp) a o pm cd doc dV kV h2 h3 h4 h5 (defOf_name hdef ▸ h1) L.gens args vs hpre L.well
  exact ⟨vs, s₁, laid, tree vs w s₁ _ (.ref a) _ _ G1.T.g h1 (wpAny_mono h (fun v s2 g => ⟨_, rfl, have z := g.laid (c := r.toRowW.claim) sameN wi idf L; ⟨z.1, z.2.1, z.2.2, fun q => ⟨namesKept_of ran hg _ kp g.2.1.old, noTable hwr q⟩⟩⟩)
    fun e s2 g => have z := g.laid (c := r.toRowW.claim) sameN wi idf L; ⟨z.1, z.2.1, z.2.2, fun q => ⟨namesKept_of ran hg _ kp g.2.1.old, noTable hwr q⟩⟩)⟩
end
end K16T
end
section
set_option Elab.async false
set_option linter.all false
set_option maxRecDepth 100000
set_option maxHeartbeats 2000000
namespace K16T
section
open PySem PySem.Spec PyProof.Rows L2
theorem law_runT {P : Program} {w : World} {K : PySem.W.Frag} {mg mb : Str → Option Value} {CX : CXT} {k T0 : Nat} {fa a : Addr} {fd : FuncData} {x : Str} {sp : Sp} {s₁ : Shared} {vs : List Value} {ns : List Int} (tk : T0 ≤ s₁.toks)
    (KX : K.In s₁.heap) (hns : s₁.heap.Ns mainGlobals mg) (hb : s₁.heap.Ns builtinsNs mb) (hbb : ∀ x : Str, x ≠ "__name__" → mb x = bootBuiltins x) (hlim : s₁.heap.NoLimit) (hg : s₁.gens = #[])
    (ha : s₁.heap.get? a = some { cls := .type "list", data := .seq vs.toArray }) (hi : IntsAre vs ns) (hl : ns.length ≤ sizeLine) (hr : Room k callerA) (F : ∀ base : Heap, K.In base → base.Ns mainGlobals mg → FnT T0 P w K mg base CX k fa fd [x] sp)
    (hbind : ∀ (s : Shared) (u : Value), BindsTo s fd ⟨[u], []⟩ [(x, u)]) (hsp : ∀ H : Hp, Only H → SqL K H a (ns.map V.int) → sp [.ref a] H (fun v _ => v = .bl true) fun _ _ _ => False) (hCX : ∀ H e s', CX [] H s₁ (fun _ _ _ => False) e s' → False) :
    codeAny (model P w) callerA (.call (.ref fa) ⟨[.ref a], []⟩) (fun r s' => r = .ok (.ret (.bool true)) ∧ OldK s₁.heap s'.heap ∧ s'.os = s₁.os ∧ AllBare s'.gens) s₁ := by
  have rv : Vals (ns.map V.int) vs := vals_ints hi
  -- over an abstract heap that holds the script at most
  have main : ∀ H : Hp, (∀ b, b ≠ a → H b = none) → (∀ u, H a = some u → K.lookup a = none ∧ ∃ o, u = .frz o (.lst (ns.map V.int))) → SqL K H a (ns.map V.int) → HOk P w H s₁.heap →
      codeAny (model P w) callerA (.call (.ref fa) ⟨[.ref a], []⟩) (fun r s' => r = .ok (.ret (.bool true)) ∧ OldK s₁.heap s'.heap ∧ s'.os = s₁.os ∧ AllBare s'.gens) s₁ := fun H off at_a hS hok => by
    have only : Only H := fun b => by
      by_cases e : b = a
      · subst e
        cases q : H b with
        | none => exact .inl rfl
        | some u => obtain ⟨_, o, eu⟩ := at_a u q; exact .inr ⟨o, _, by rw [eu]⟩
      · exact .inl (off b e)
    have stays : ∀ {b : Addr} {o : Obj}, s₁.heap.get? b = some o → (b = a → H a = none) → (hidT s₁.heap H).get? b = some o := fun {b o} e z => hidT_get e (by
      by_cases eb : b = a
      · rw [eb]; exact z eb
      · exact off b eb)
    have dct : ∀ {b : Addr} {m : Str → Option Value}, s₁.heap.Ns b m → (hidT s₁.heap H).Ns b m := fun {b m} ⟨o, es, ep, e, d, r⟩ => ⟨o, es, ep, stays e (fun eb => by
      subst eb
      rw [ha] at e
      cases e
      cases d), d, r⟩
    have kin : K.In (hidT s₁.heap H) := fun b o e => stays (KX b o e) fun eb => by
      cases q : H a with
      | none => rfl
      | some u =>
        have z := (at_a u q).1
        rw [← eb, e] at z
        cases z
    have M : Mod K mg (hidT s₁.heap H) := ⟨kin, dct hns, ⟨mb, dct hb, hbb⟩, let ⟨mc, c1, c2⟩ := hlim; ⟨mc, dct c1, c2⟩⟩
    have e0 : Env0 P w K mg (hidT s₁.heap H) callerA [] s₁ H := ⟨rfl, M, fun b o e => of_hidT e, Nat.le_of_eq (hidT_size _ _), trivial, fun b z => absurd (show b ∈ ([] : List Addr) from z) (by simp), hok, .of_eq hg⟩
    refine codeAny_mono ((F _ kin (dct hns)).run callerA [] s₁ H ⟨[.ref a], []⟩ [.ref a] [.ref a] _ _ tk rfl hr e0 (hbind s₁ (.ref a)) (.cons rfl .nil) (hsp H only hS)) fun r s2 h => ?_
    match r, h with
    | .error e, h => exact (hCX H e s2 h).elim
    | .ok .next, h => exact h.elim
    | .ok .brk, h => exact h.elim
    | .ok .cont, h => exact h.elim
    | .ok (.ret u), ⟨v, H2, os2, bare2, un, hok2, rv2, ev⟩ =>
      have ev : v = .bl true := ev
      subst ev
      obtain rfl : u = Value.bool true := rv2
      refine ⟨rfl, OldK.of_keep fun b o e => ?_, os2, bare2⟩
      cases q : H b with
      | none => exact un.keep b o e q (fun z => absurd (show b ∈ ([] : List Addr) from z) (by simp)) (by simp)
      | some u =>
        rcases only b with z | ⟨ob, xs, z⟩
        · rw [q] at z; cases z
        · obtain ⟨g1, _⟩ := hok b _ z
          obtain ⟨g2, _⟩ := hok2 b _ (un.frzs b ob _ z)
          rw [e] at g1
          cases g1
          exact g2
  cases kl : K.lookup a with
  | some o =>
    have e := KX a o kl
    rw [ha] at e
    cases e
    refine main (fun _ => none) (fun _ _ => rfl) (fun u z => nomatch z) (.inr ⟨_, vs.toArray, _, kl, rfl, rfl, rfl, ?_, by simpa using rv⟩) (fun b u z => nomatch z)
    rw [List.size_toArray, hi.length]
    exact hl
  | none =>
    have at1 : (upd (fun _ => none) a (.frz { cls := .type "list", data := .seq vs.toArray } (.lst (ns.map V.int)))) a = some (.frz { cls := .type "list", data := .seq vs.toArray } (.lst (ns.map V.int))) := upd_same
    refine main (upd (fun _ => none) a (.frz { cls := .type "list", data := .seq vs.toArray } (.lst (ns.map V.int)))) (fun b e => upd_ne e) (fun u z => ?_) (.inl (.inr ⟨_, at1⟩)) (fun b u z => ?_)
    · rw [at1] at z
      cases z
      exact ⟨kl, _, rfl⟩
    · by_cases e : b = a
      · subst e
        rw [at1] at z
        cases z
        exact ⟨ha, by rw [List.length_map]; exact hl, vs, _, rv, ha⟩
      · rw [upd_ne e] at z
        cases z
end
section
open PySem PySem.W PySem.Calls PyProof.Rows HandSHeadRun
/-- the law holds, by its def's promise in states with tokens -/
theorem lawT {l : OpenLaw} {n k T0 M : Nat} {q : Program} {H : Hook} {ob : SharedT → H.α} {loose : List Str} {d : DefRec} {CX : L2.CXT} {x : Str} (ho : ∀ s : SharedT, ob s = H.obs s.abs)
    (e : opening l.row.prog = plainProg l.row.prog.main.scope.names) (f : ∀ s, fenceModules? l.row.prog s = some s)
    (run : ∀ (w : World) (os : OsState), (endF (stepQ (denQ tabQ) l.row.prog w) M l.row.prog w os).map (fun s => (looksF l.row.prog (boot_heap w.params) s.abs, seenQ q loose (importedModules l.row.prog.main.body) (fun s => xlAt q [] s && recOk l.row.toRowW.records s) s.abs, (ob s, Nat.ble T0 s.toks))) = some (true, openGood q loose, (H.val w, true)))
    (hdef : defOf q l.row.name = some (d, [])) (hp : l.row.prog.theDef l.row.name = some (d.params, d.body, d.scope)) (hk : kwWritten? d.params.kwonlyargs d.params.kw_defaults = some [])
    (hwr : (!l.row.writes || l.row.toRowW.records.isEmpty) = true) (k1 : l.row.wellSaid = true) (ok : (chainsOk q && opensWell l.row.prog && (frees l.row.toRowW && l.row.within.isEmpty)) = true) (hb : l.row.prog.bare) (hw : l.row.toRowW.promised) (hrec : l.row.toRowW.records = [])
    (hn : l.most = some n) (hn2 : n ≤ sizeLine) (hdf : d.params.defaults = []) (hr : L2.Room k callerA)
    (F : ∀ (w : World) (mg : Str → Option Value) (fa : Addr) (h : Heap), H.says w h → h.Ns mainGlobals mg → mg d.name = some (.ref fa) →
      ∃ (K : PySem.W.Frag) (fd : FuncData) (sp : L2.Sp), K.In h ∧ (∀ (s : Shared) (u : Value), BindsTo s fd ⟨[u], []⟩ [(x, u)]) ∧
        (∀ (H : L2.Hp) (a : Addr) (ns : List Int), ns.length ≤ n → L2.Only H → L2.SqL K H a (ns.map L2.V.int) → sp [.ref a] H (fun v _ => v = .bl true) fun _ _ _ => False) ∧
        ∀ base : Heap, K.In base → base.Ns mainGlobals mg → FnT T0 l.prog w K mg base CX k fa fd [x] sp)
    (hCX : ∀ (H : L2.Hp) (s : Shared) (e : Value) (s' : Shared), CX [] H s (fun _ _ _ => False) e s' → False) : l.row.Holds := by
  have left : LeftO l.row.prog q loose (fun s => xlAt q [] s && recOk l.row.toRowW.records s) (fun s => (H.obs s, Nat.ble T0 s.toks)) (fun w => (H.val w, true)) (M + 600) true :=
    left_one (M := M) e (Nat.ble_eq_true_of_le (by omega)) f (Nat.ble_eq_true_of_le (by omega)) fun w os => by
      have z := run w os
      have eo : (fun s : SharedT => (ob s, Nat.ble T0 s.toks)) = fun s => (fun s : Shared => (H.obs s, Nat.ble T0 s.toks)) s.abs := funext fun s => by rw [ho]; rfl
      rw [show (fun s : SharedT => (looksF l.row.prog (boot_heap w.params) s.abs, seenQ q loose (importedModules l.row.prog.main.body) (fun s => xlAt q [] s && recOk l.row.toRowW.records s) s.abs, (ob s, Nat.ble T0 s.toks))) = fun s => (looksF l.row.prog (boot_heap w.params) s.abs, seenQ q loose (importedModules l.row.prog.main.body) (fun s => xlAt q [] s && recOk l.row.toRowW.records s) s.abs, (fun s : Shared => (H.obs s, Nat.ble T0 s.toks)) s.abs) from funext fun s => by rw [congrFun eo s]] at z
      simp only [endQ_eq, seenQ_eq]
      exact z
  refine openT (r := l.row) (q := q) (loose := loose) (XP := XL q []) (H := H) (d := d) (kwd := []) left (fun s z => xl_of s (Bool.and_eq_true_iff.mp z).1) XL.keeps hdef hp hk (fun s z => recFacts_of (Bool.and_eq_true_iff.mp z).2) hwr k1 ok hb hw ?_
  intro w s₀ s₁ mg mb tk G Y fa o pm cd doc dV kV ho' hd hcd hD hmg hg args vals hpre hwl
  have G' : Ground q loose [] (XL q []) w s₀ mg mb s₁.heap := by rw [hrec] at G; exact G
  obtain rfl : dV = .none := PySem.W.Dflts.none hD hdf
  obtain rfl : kV = .none := PySem.W.Dflts.noKw hD
  obtain ⟨a, vs, ns, ev, ea, hobj, hints, hlen⟩ := Att.script_of hn hpre hwl
  subst ev; subst ea
  obtain ⟨K, fd, sp, KX, hbd, hsp, hF⟩ := F w mg fa _ Y G'.T.g hmg
  refine PySem.W.enter_call (codeAny_mono (law_runT tk KX G'.T.g G'.T.b G'.T.builtins G'.T.nolimit hg hobj hints (Nat.le_trans hlen hn2) hr hF hbd (fun H hO hS => hsp H a ns hlen hO hS) fun H e s' => hCX H s₁ e s') fun r s' hq => ?_)
  obtain ⟨rfl, h2, h3, h4⟩ := hq
  exact ⟨.inl ⟨.bool true, .bool true, [], rfl, fun _ => rfl, .bool true, Att.post_true l _, fun _ => ⟨List.Pairwise.nil, fun _ hm => nomatch hm⟩⟩, h2, h3, h4⟩
end
end K16T
end
section
set_option Elab.async false
set_option linter.all false
set_option maxRecDepth 100000
set_option maxHeartbeats 0
/-! the defs of the law k16, by their places; what the top leaves -/
namespace K16D
open PySem PySem.Spec PyProof.Rows L2
def top (i : Nat) : Stmt := PySem.Challenge.pw_builtkinds_k16_whole_texts_of_things.main.body.getD i (.Pass ⟨0, 0, 0, 0⟩)
def clsB : Stmt → List Stmt
  | .ClassDef (body := b) .. => b
  | _ => []
abbrev sInvalidthingInit : Stmt := (clsB (top 2)).getD 0 (.Pass ⟨0, 0, 0, 0⟩)
abbrev nInvalidthingInit : List Str := ["self", "given"]
theorem scInvalidthingInit : FnScope nInvalidthingInit ["self", "given"] (defScope sInvalidthingInit) := ⟨rfl, rfl, rfl, by decide +kernel, rfl, by decide +kernel, by decide +kernel⟩
def dInvalidthingInit : He.DefD := ⟨("InvalidThing", some "__init__"), "__init__", "InvalidThing.__init__", defArgs sInvalidthingInit, defBody sInvalidthingInit, defScope sInvalidthingInit, [], []⟩
abbrev sIsWhole : Stmt := top 4
abbrev nIsWhole : List Str := ["value"]
theorem scIsWhole : FnScope nIsWhole ["value"] (defScope sIsWhole) := ⟨rfl, rfl, rfl, by decide +kernel, rfl, by decide +kernel, by decide +kernel⟩
def dIsWhole : He.DefD := ⟨("is_whole", none), "is_whole", "is_whole", defArgs sIsWhole, defBody sIsWhole, defScope sIsWhole, [], []⟩
abbrev sIsLetters : Stmt := top 12
abbrev nIsLetters : List Str := ["value", "sign"]
theorem scIsLetters : FnScope nIsLetters ["value"] (defScope sIsLetters) := ⟨rfl, rfl, rfl, by decide +kernel, rfl, by decide +kernel, by decide +kernel⟩
def dIsLetters : He.DefD := ⟨("is_letters", none), "is_letters", "is_letters", defArgs sIsLetters, defBody sIsLetters, defScope sIsLetters, [], []⟩
abbrev sIsFigures : Stmt := top 13
abbrev nIsFigures : List Str := ["text", "sign"]
theorem scIsFigures : FnScope nIsFigures ["text"] (defScope sIsFigures) := ⟨rfl, rfl, rfl, by decide +kernel, rfl, by decide +kernel, by decide +kernel⟩
def dIsFigures : He.DefD := ⟨("is_figures", none), "is_figures", "is_figures", defArgs sIsFigures, defBody sIsFigures, defScope sIsFigures, [], []⟩
abbrev sWholeOf : Stmt := top 14
abbrev nWholeOf : List Str := ["figures", "first", "found", "start"]
theorem scWholeOf : FnScope nWholeOf ["figures"] (defScope sWholeOf) := ⟨rfl, rfl, rfl, by decide +kernel, rfl, by decide +kernel, by decide +kernel⟩
def dWholeOf : He.DefD := ⟨("whole_of", none), "whole_of", "whole_of", defArgs sWholeOf, defBody sWholeOf, defScope sWholeOf, [], []⟩
abbrev sFiguresOf : Stmt := top 15
abbrev nFiguresOf : List Str := ["number", "pieces"]
theorem scFiguresOf : FnScope nFiguresOf ["number"] (defScope sFiguresOf) := ⟨rfl, rfl, rfl, by decide +kernel, rfl, by decide +kernel, by decide +kernel⟩
def dFiguresOf : He.DefD := ⟨("figures_of", none), "figures_of", "figures_of", defArgs sFiguresOf, defBody sFiguresOf, defScope sFiguresOf, [], []⟩
abbrev sIsLone : Stmt := top 19
abbrev nIsLone : List Str := ["value"]
theorem scIsLone : FnScope nIsLone ["value"] (defScope sIsLone) := ⟨rfl, rfl, rfl, by decide +kernel, rfl, by decide +kernel, by decide +kernel⟩
def dIsLone : He.DefD := ⟨("is_lone", none), "is_lone", "is_lone", defArgs sIsLone, defBody sIsLone, defScope sIsLone, [], []⟩
abbrev sHasText : Stmt := top 20
abbrev nHasText : List Str := ["value", "left", "here"]
theorem scHasText : FnScope nHasText ["value"] (defScope sHasText) := ⟨rfl, rfl, rfl, by decide +kernel, rfl, by decide +kernel, by decide +kernel⟩
def dHasText : He.DefD := ⟨("has_text", none), "has_text", "has_text", defArgs sHasText, defBody sHasText, defScope sHasText, [], []⟩
abbrev sSignsOf : Stmt := top 21
abbrev nSignsOf : List Str := ["value", "left", "found", "here"]
theorem scSignsOf : FnScope nSignsOf ["value"] (defScope sSignsOf) := ⟨rfl, rfl, rfl, by decide +kernel, rfl, by decide +kernel, by decide +kernel⟩
def dSignsOf : He.DefD := ⟨("signs_of", none), "signs_of", "signs_of", defArgs sSignsOf, defBody sSignsOf, defScope sSignsOf, [], []⟩
abbrev sTextOfThing : Stmt := top 22
abbrev nTextOfThing : List Str := ["value", "found", "ahead", "sign"]
theorem scTextOfThing : FnScope nTextOfThing ["value"] (defScope sTextOfThing) := ⟨rfl, rfl, rfl, by decide +kernel, rfl, by decide +kernel, by decide +kernel⟩
def dTextOfThing : He.DefD := ⟨("text_of_thing", none), "text_of_thing", "text_of_thing", defArgs sTextOfThing, defBody sTextOfThing, defScope sTextOfThing, [], []⟩
abbrev sLoneIn : Stmt := top 23
abbrev nLoneIn : List Str := ["word"]
theorem scLoneIn : FnScope nLoneIn ["word"] (defScope sLoneIn) := ⟨rfl, rfl, rfl, by decide +kernel, rfl, by decide +kernel, by decide +kernel⟩
def dLoneIn : He.DefD := ⟨("lone_in", none), "lone_in", "lone_in", defArgs sLoneIn, defBody sLoneIn, defScope sLoneIn, [], []⟩
abbrev sValueIn : Stmt := top 24
abbrev nValueIn : List Str := ["words", "open_ones", "word", "told"]
theorem scValueIn : FnScope nValueIn ["words"] (defScope sValueIn) := ⟨rfl, rfl, rfl, by decide +kernel, rfl, by decide +kernel, by decide +kernel⟩
def dValueIn : He.DefD := ⟨("value_in", none), "value_in", "value_in", defArgs sValueIn, defBody sValueIn, defScope sValueIn, [], []⟩
abbrev sReadThingBy : Stmt := top 25
abbrev nReadThingBy : List Str := ["given", "found"]
theorem scReadThingBy : FnScope nReadThingBy ["given"] (defScope sReadThingBy) := ⟨rfl, rfl, rfl, by decide +kernel, rfl, by decide +kernel, by decide +kernel⟩
def dReadThingBy : He.DefD := ⟨("read_thing_by", none), "read_thing_by", "read_thing_by", defArgs sReadThingBy, defBody sReadThingBy, defScope sReadThingBy, [], []⟩
abbrev sThingText : Stmt := top 27
abbrev nThingText : List Str := ["value"]
theorem scThingText : FnScope nThingText ["value"] (defScope sThingText) := ⟨rfl, rfl, rfl, by decide +kernel, rfl, by decide +kernel, by decide +kernel⟩
def dThingText : He.DefD := ⟨("thing_text", none), "thing_text", "thing_text", defArgs sThingText, defBody sThingText, defScope sThingText, [], []⟩
abbrev sReadThing : Stmt := top 28
abbrev nReadThing : List Str := ["given", "found"]
theorem scReadThing : FnScope nReadThing ["given"] (defScope sReadThing) := ⟨rfl, rfl, rfl, by decide +kernel, rfl, by decide +kernel, by decide +kernel⟩
def dReadThing : He.DefD := ⟨("read_thing", none), "read_thing", "read_thing", defArgs sReadThing, defBody sReadThing, defScope sReadThing, [], []⟩
abbrev sLawForge : Stmt := top 30
abbrev nLawForge : List Str := ["script", "lap", "own", "deep", "place", "cell"]
theorem scLawForge : FnScope nLawForge ["script", "lap"] (defScope sLawForge) := ⟨rfl, rfl, rfl, by decide +kernel, rfl, by decide +kernel, by decide +kernel⟩
def dLawForge : He.DefD := ⟨("_law_forge", none), "_law_forge", "_law_forge", defArgs sLawForge, defBody sLawForge, defScope sLawForge, [], []⟩
abbrev sLawStrike : Stmt := top 31
abbrev nLawStrike : List Str := ["forge", "many", "told"]
theorem scLawStrike : FnScope nLawStrike ["forge", "many"] (defScope sLawStrike) := ⟨rfl, rfl, rfl, by decide +kernel, rfl, by decide +kernel, by decide +kernel⟩
def dLawStrike : He.DefD := ⟨("_law_strike", none), "_law_strike", "_law_strike", defArgs sLawStrike, defBody sLawStrike, defScope sLawStrike, [], []⟩
abbrev sLawPick : Stmt := top 32
abbrev nLawPick : List Str := ["forge", "things"]
theorem scLawPick : FnScope nLawPick ["forge", "things"] (defScope sLawPick) := ⟨rfl, rfl, rfl, by decide +kernel, rfl, by decide +kernel, by decide +kernel⟩
def dLawPick : He.DefD := ⟨("_law_pick", none), "_law_pick", "_law_pick", defArgs sLawPick, defBody sLawPick, defScope sLawPick, [], []⟩
abbrev sLawAreSame : Stmt := top 33
abbrev nLawAreSame : List Str := ["told", "due", "one", "two"]
theorem scLawAreSame : FnScope nLawAreSame ["told", "due"] (defScope sLawAreSame) := ⟨rfl, rfl, rfl, by decide +kernel, rfl, by decide +kernel, by decide +kernel⟩
def dLawAreSame : He.DefD := ⟨("_law_are_same", none), "_law_are_same", "_law_are_same", defArgs sLawAreSame, defBody sLawAreSame, defScope sLawAreSame, [], []⟩
abbrev sLawSame : Stmt := top 34
abbrev nLawSame : List Str := ["told", "due"]
theorem scLawSame : FnScope nLawSame ["told", "due"] (defScope sLawSame) := ⟨rfl, rfl, rfl, by decide +kernel, rfl, by decide +kernel, by decide +kernel⟩
def dLawSame : He.DefD := ⟨("_law_same", none), "_law_same", "_law_same", defArgs sLawSame, defBody sLawSame, defScope sLawSame, [], []⟩
abbrev sLawAnyValue : Stmt := top 35
abbrev nLawAnyValue : List Str := ["forge", "deep", "way", "lap"]
theorem scLawAnyValue : FnScope nLawAnyValue ["forge", "deep"] (defScope sLawAnyValue) := ⟨rfl, rfl, rfl, by decide +kernel, rfl, by decide +kernel, by decide +kernel⟩
def dLawAnyValue : He.DefD := ⟨("_law_any_value", none), "_law_any_value", "_law_any_value", defArgs sLawAnyValue, defBody sLawAnyValue, defScope sLawAnyValue, [], []⟩
abbrev sLawTold : Stmt := top 36
abbrev nLawTold : List Str := ["value", "one"]
theorem scLawTold : FnScope nLawTold ["value"] (defScope sLawTold) := ⟨rfl, rfl, rfl, by decide +kernel, rfl, by decide +kernel, by decide +kernel⟩
def dLawTold : He.DefD := ⟨("_law_told", none), "_law_told", "_law_told", defArgs sLawTold, defBody sLawTold, defScope sLawTold, [], []⟩
abbrev sLawParsed : Stmt := top 37
abbrev nLawParsed : List Str := ["said", "line", "word", "at", "sign", "ahead", "done"]
theorem scLawParsed : FnScope nLawParsed ["said"] (defScope sLawParsed) := ⟨rfl, rfl, rfl, by decide +kernel, rfl, by decide +kernel, by decide +kernel⟩
def dLawParsed : He.DefD := ⟨("_law_parsed", none), "_law_parsed", "_law_parsed", defArgs sLawParsed, defBody sLawParsed, defScope sLawParsed, [], []⟩
abbrev sLawIsWord : Stmt := top 38
abbrev nLawIsWord : List Str := ["word", "figures", "sign"]
theorem scLawIsWord : FnScope nLawIsWord ["word"] (defScope sLawIsWord) := ⟨rfl, rfl, rfl, by decide +kernel, rfl, by decide +kernel, by decide +kernel⟩
def dLawIsWord : He.DefD := ⟨("_law_is_word", none), "_law_is_word", "_law_is_word", defArgs sLawIsWord, defBody sLawIsWord, defScope sLawIsWord, [], []⟩
abbrev sLawNear : Stmt := top 39
abbrev nLawNear : List Str := ["forge", "said", "at", "way", "sign"]
theorem scLawNear : FnScope nLawNear ["forge", "said"] (defScope sLawNear) := ⟨rfl, rfl, rfl, by decide +kernel, rfl, by decide +kernel, by decide +kernel⟩
def dLawNear : He.DefD := ⟨("_law_near", none), "_law_near", "_law_near", defArgs sLawNear, defBody sLawNear, defScope sLawNear, [], []⟩
abbrev sLawRefused : Stmt := top 40
abbrev nLawRefused : List Str := ["call", "value", "e"]
theorem scLawRefused : FnScope nLawRefused ["call", "value"] (defScope sLawRefused) := ⟨rfl, rfl, rfl, by decide +kernel, rfl, by decide +kernel, by decide +kernel⟩
def dLawRefused : He.DefD := ⟨("_law_refused", none), "_law_refused", "_law_refused", defArgs sLawRefused, defBody sLawRefused, defScope sLawRefused, [], []⟩
abbrev sLawRight : Stmt := top 41
abbrev nLawRight : List Str := ["forge", "lap", "value", "said", "turn", "near", "due", "told", "odd", "deep"]
theorem scLawRight : FnScope nLawRight ["forge"] (defScope sLawRight) := ⟨rfl, rfl, rfl, by decide +kernel, rfl, by decide +kernel, by decide +kernel⟩
def dLawRight : He.DefD := ⟨("_law_right", none), "_law_right", "_law_right", defArgs sLawRight, defBody sLawRight, defScope sLawRight, [], []⟩
abbrev sLaw : Stmt := top 42
abbrev nLaw : List Str := ["script", "lap"]
theorem scLaw : FnScope nLaw ["script"] (defScope sLaw) := ⟨rfl, rfl, rfl, by decide +kernel, rfl, by decide +kernel, by decide +kernel⟩
def dLaw : He.DefD := ⟨("law", none), "law", "law", defArgs sLaw, defBody sLaw, defScope sLaw, [], []⟩
def fn : List He.DefD := [dInvalidthingInit, dIsWhole, dIsLetters, dIsFigures, dWholeOf, dFiguresOf, dIsLone, dHasText, dSignsOf, dTextOfThing, dLoneIn, dValueIn, dReadThingBy, dThingText, dReadThing, dLawForge, dLawStrike, dLawPick, dLawAreSame, dLawSame, dLawAnyValue, dLawTold, dLawParsed, dLawIsWord, dLawNear, dLawRefused, dLawRight, dLaw]

abbrev fa : List He.Fa := ([.glo "InvalidThing", .glo "is_whole", .glo "is_letters", .glo "is_figures", .glo "whole_of", .glo "figures_of", .glo "is_lone", .glo "has_text", .glo "signs_of", .glo "text_of_thing", .glo "lone_in", .glo "value_in"] : List He.Fa) ++ ([.glo "read_thing_by", .glo "thing_text", .glo "read_thing", .glo "_law_forge", .glo "_law_strike", .glo "_law_pick", .glo "_law_are_same", .glo "_law_same", .glo "_law_any_value", .glo "_law_told", .glo "_law_parsed", .glo "_law_is_word"] : List He.Fa) ++ ([.glo "_law_near", .glo "_law_refused", .glo "_law_right", .glo "law", .free "isinstance", .free "int", .free "bool", .free "str", .free "tuple", .free "list", .free "len", .free "all"] : List He.Fa) ++ ([.free "range", .free "enumerate", .free "abs", .free "divmod", .free "min", .free "max", .free "zip", .free "repr", .int "MOST_LETTERS" 8, .int "PIECE" 60, .int "UNDER" (10 ^ 60), .str "BLANK" " "] : List He.Fa) ++ ([.str "LETTERS" "abcdefghijklmnopqrstuvwxyz", .str "FIGURES" "0123456789", .exm "InvalidThing" "InvalidThing" true] : List He.Fa)
abbrev T0 : Nat := 489
/-- the module's text at x and its token -/
def tokB (K : PySem.W.Frag) (x z : Str) : Bool := match PySem.W.nsIn K mainGlobals x with
  | some (some (.str y t)) => decide (y = z) && (!Nat.beq t 0 && Nat.blt t T0)
  | _ => false
theorem tokB_ok {K : PySem.W.Frag} {h : Heap} {mg : Str → Option Value} {x z : Str} (X : K.In h) (G : h.Ns mainGlobals mg) (c : tokB K x z = true) : ∃ t : Nat, mg x = some (.str z t) ∧ t ≠ 0 ∧ t < T0 := by
  unfold tokB at c
  split at c
  · rename_i y t e
    obtain ⟨c1, c2⟩ := Bool.and_eq_true_iff.mp c
    obtain ⟨c2, c3⟩ := Bool.and_eq_true_iff.mp c2
    have ey : y = z := of_decide_eq_true c1
    subst ey
    refine ⟨t, PySem.W.mg_of X G e, fun q => ?_, Nat.le_of_ble_eq_true c3⟩
    have q : (t : Nat) = 0 := q
    rw [q] at c2
    cases c2
  · cases c
/-- an own exception class with its own __init__ -/
def oexB (K : PySem.W.Frag) (C : Addr) : Bool := match K.lookup C with
  | some ⟨.type "type", _, .cls cd, sl⟩ => (match cd.mro, sl.toList with
    | .ref C' :: bm, [_, _, _, _, some (.builtin n), _] => (C' == C && (n == "ValueError.__new__" && (!cd.hasDel && (cd.hasDict && PySem.HandSPX.refsVE bm)))) && (decide (PySem.W.findIn K (.ref C) "__setattr__" = some (some (.builtin "object.__setattr__"))) &&
      (decide (PySem.W.subIn K (.ref C) (.type "BaseException") = some true) && (decide (PySem.W.typeIn K (.ref C) = some (.type "type")) && PySem.W.keepIn K (.ref C))))
    | _, _ => false)
  | _ => false
theorem oexB_ok {K : PySem.W.Frag} {C : Addr} (c : oexB K C = true) : OexC K C := by
  unfold oexB at c
  split at c
  · rename_i dd cd sl ho
    split at c
    · rename_i C' bm k0 k1 k2 k3 n k5 hm hs
      simp only [Bool.and_eq_true, beq_iff_eq, Bool.not_eq_true', decide_eq_true_eq] at c
      obtain ⟨⟨e1, e2, e3, e4, e5⟩, f1, f2, f3, f4⟩ := c
      subst e1; subst e2
      obtain ⟨nm, bs, mro, ns, qn, hd, sn, sub, ab, col, del⟩ := cd
      dsimp only at hm e3 e4
      subst hm; subst e3; subst e4
      have hsl : sl = #[k0, k1, k2, k3, some (.builtin "ValueError.__new__"), k5] := by
        obtain ⟨l⟩ := sl
        simp only at hs
        rw [hs]
      subst hsl
      exact ⟨⟨nm, qn, ns, bs, bm, sn, sub, ab, col, dd, k0, k1, k2, k3, k5, ho, e5⟩, f1, f2, f3, f4⟩
    · cases c
  · cases c
abbrev ivC (K : PySem.W.Frag) : Addr := He.ga K "InvalidThing"
abbrev ivI (K : PySem.W.Frag) : Addr := He.ma K (ivC K) "__init__"
def xtr (K : PySem.W.Frag) : Bool := tokB K "OPEN" "(" && (tokB K "SHUT" ")" && (oexB K (ivC K) && (xfB K (ivC K) && (decide (PySem.W.findIn K (.ref (ivC K)) "given" = some none) && (decide (PySem.W.findIn K (.ref (ivC K)) "__init__" = some (some (.ref (ivI K)))) &&
  decide (PySem.W.typeIn K (.ref (ivI K)) = some (.type "function")))))))
def obs (g : Addr → Option Obj) : He.AlD × Bool := (He.obsDG 4 fa fn g, xtr (He.frG g (He.asD g 4)))
def hk : PySem.W.Hook where
  α := He.AlD × Bool
  obs := fun s => obs s.heap.get?
  val := fun _ => (He.valD fn, true)
  says := fun _ h => ∃ K : PySem.W.Frag, K.In h ∧ He.SaysD fa fn K ∧ xtr K = true
  of := fun _ _ e => ⟨_, He.frG_in, congrArg Prod.fst e, congrArg Prod.snd e⟩
  keeps := fun _ _ _ ⟨K, hK, c⟩ k => ⟨K, PySem.W.Frag.In.keeps hK k, c⟩
def ob (s : PySem.W.SharedT) : He.AlD × Bool := obs (HandSHeadRun.getT s)
theorem ob_eq (s : PySem.W.SharedT) : ob s = hk.obs s.abs := congrArg obs (funext (HandSHeadRun.getT_eq s))
abbrev law : PySem.W.OpenLaw := PySem.Challenge.rw_builtkinds_k16_whole_texts_of_things
abbrev R : PySem.W.OpenRow := PySem.W.OpenLaw.row law
def loose : List Str := (["KindError", "InvalidThing", "is_whole", "BLANK", "LETTERS", "FIGURES", "MOST_LETTERS", "PIECE", "UNDER", "is_letters", "is_figures", "whole_of"] : List Str) ++ (["figures_of", "OPEN", "SHUT", "is_lone", "has_text", "signs_of", "text_of_thing", "lone_in", "value_in", "read_thing_by", "thing_text", "read_thing"] : List Str) ++ (["_law_forge", "_law_strike", "_law_pick", "_law_are_same", "_law_same", "_law_any_value", "_law_told", "_law_parsed", "_law_is_word", "_law_near", "_law_refused", "_law_right"] : List Str)
end K16D
end
section
set_option Elab.async false
set_option linter.all false
set_option maxRecDepth 100000
set_option maxHeartbeats 0
namespace K16D
open PySem PySem.W HandSHeadRun
theorem run (w : World) (os : OsState) : (endF (stepQ (denQ tabQ) law.row.prog w) 3000 law.row.prog w os).map (fun s => (looksF law.row.prog (boot_heap w.params) s.abs, seenQ (PySem.W.view R.prog [42]) loose (importedModules law.row.prog.main.body) (fun s => xlAt (PySem.W.view R.prog [42]) [] s && recOk law.row.toRowW.records s) s.abs, (ob s, Nat.ble T0 s.toks))) = some (true, openGood (PySem.W.view R.prog [42]) loose, (hk.val w, true)) := by
  kernel_rfl
end K16D
end
section
set_option Elab.async false
set_option linter.all false
set_option maxRecDepth 100000
set_option maxHeartbeats 4000000
namespace K16W
open PySem PySem.Spec PyProof.Rows L2 K16R K16T K16D TL K16
abbrev St := L2.St
abbrev LET : Str := "abcdefghijklmnopqrstuvwxyz"
abbrev FIG : Str := "0123456789"
/-- what the walks take of the module's names -/
structure Fx (mg : Str → Option Value) : Prop where
  isi : mg "isinstance" = none
  int : mg "int" = none
  bool : mg "bool" = none
  str : mg "str" = none
  tuple : mg "tuple" = none
  list : mg "list" = none
  len : mg "len" = none
  all : mg "all" = none
  range : mg "range" = none
  enum : mg "enumerate" = none
  abs : mg "abs" = none
  divmod : mg "divmod" = none
  min : mg "min" = none
  max : mg "max" = none
  zip : mg "zip" = none
  repr : mg "repr" = none
  most : ∃ t, mg "MOST_LETTERS" = some (.int 8 t)
  piece : ∃ t, mg "PIECE" = some (.int 60 t)
  under : ∃ t, mg "UNDER" = some (.int (10 ^ 60) t)
  blank : ∃ t, mg "BLANK" = some (.str " " t)
  lets : ∃ t, mg "LETTERS" = some (.str LET t)
  figs : ∃ t, mg "FIGURES" = some (.str FIG t)
  open_ : ∃ t : Nat, mg "OPEN" = some (.str "(" t) ∧ t ≠ 0 ∧ t < T0
  shut : ∃ t : Nat, mg "SHUT" = some (.str ")" t) ∧ t ≠ 0 ∧ t < T0
structure Has (P : Program) (w : World) (K : PySem.W.Frag) (mg : Str → Option Value) (base : Heap) (CX : CXT) (k : Nat) (x : Str) (ps : List Str) (sp : Sp) : Prop where
  ex : ∃ f fd, FnOk P w K mg base CX k f fd ps sp ∧ mg x = some (.ref f) ∧ PySem.W.keepIn K (.ref f) = true ∧ Binds K fd ps []
theorem p0 {X : Cx} {E : St → XK} : ∀ σ, PassesAt CX0 X σ (E σ) := fun _ _ _ _ _ _ _ z => z.elim
section
variable {X : Cx} {CX : CXT} {k : Nat} {ps : List Str} {sp : Sp} {E : St → XK} {x : Str} {p pos : Pos} {e : Expr} {es : List Expr} {t : TA}
theorem pcX (h : Has X.prog X.w X.K X.mg X.base CX k x ps sp) (hr : Room k X.A) (hx : ∀ σ, PassesAt CX X σ (E σ)) (ha : PA X (e :: es) t) (hg : Gl X x := by rfl) (hdb : (x == ("__debug__" : Str)) = false := by decide)
    (he : starEach (e :: es) X.env = (false, eval e X.env) :: starEach es X.env := by rfl) (hpl : (backTo pos (starEach es X.env)).any (·.1) = false := by rfl) : PE X (.Call (.Name x p) (e :: es) [] pos) (tCl sp E t) := by
  obtain ⟨f, fd, F, hm, hk, hb⟩ := h.ex
  refine ⟨fun pins s σ H Q I h => wpAny_Call_Name_kw (ld_glob I hg hm ?_ hdb)⟩
  refine PySem.W.callWith_K (h₀ := X.base) I.ok.mod.kin hk (wpAny_mono (ha.run pos pins s σ H _ I h) (fun us s1 ⟨vs, H1, I1, r, q⟩ => ⟨I1.kIn, ?_⟩) fun _ _ z => z) he hpl
  exact back (args := ⟨us, []⟩) I1 (hx σ) (F.run X.A X.stack s1 H1 ⟨us, []⟩ us vs Q (E σ) hr I1.env0 (bindsU hb I1.kIn (by rw [← r.length]; exact F.len _ _ _ _ q)) r q)
/-- f(e, ..) where f lets nothing out -/
theorem pc (h : Has X.prog X.w X.K X.mg X.base CX0 k x ps sp) (hr : Room k X.A) (ha : PA X (e :: es) t) (hg : Gl X x := by rfl) (hdb : (x == ("__debug__" : Str)) = false := by decide)
    (he : starEach (e :: es) X.env = (false, eval e X.env) :: starEach es X.env := by rfl) (hpl : (backTo pos (starEach es X.env)).any (·.1) = false := by rfl) : PE X (.Call (.Name x p) (e :: es) [] pos) (tCl sp (fun _ => E0) t) :=
  pcX h hr p0 ha hg hdb he hpl
/-- a built-in function, a built-in type, called -/
theorem pb {id : String} {r : List V → Hp → VK → Prop} (hc : CallR X (.builtin id) r) (hm : X.mg x = none) (ha : PA X (e :: es) t) (hg : Gl X x := by rfl) (hv : bootBuiltins x = some (.builtin id) := by decide +kernel) (hn : x ≠ "__name__" := by decide) (hdb : (x == ("__debug__" : Str)) = false := by decide)
    (he : starEach (e :: es) X.env = (false, eval e X.env) :: starEach es X.env := by rfl) (hpl : (backTo pos (starEach es X.env)).any (·.1) = false := by rfl) : PE X (.Call (.Name x p) (e :: es) [] pos) (tCB r t) := pe_callB hc hg hm hv ha hn hdb he hpl
theorem pty {T : String} {r : List V → Hp → VK → Prop} (hc : CallR X (.type T) r) (hm : X.mg x = none) (ha : PA X (e :: es) t) (hg : Gl X x := by rfl) (hv : bootBuiltins x = some (.type T) := by decide +kernel) (hn : x ≠ "__name__" := by decide) (hdb : (x == ("__debug__" : Str)) = false := by decide)
    (he : starEach (e :: es) X.env = (false, eval e X.env) :: starEach es X.env := by rfl) (hpl : (backTo pos (starEach es X.env)).any (·.1) = false := by rfl) : PE X (.Call (.Name x p) (e :: es) [] pos) (tCB r t) := pe_callTy hc hg hm hv ha hn hdb he hpl
/-- a module's text, a module's number -/
theorem pgS {z : Str} {tk : Tok} (hm : X.mg x = some (.str z tk)) (hg : Gl X x := by rfl) (hdb : (x == ("__debug__" : Str)) = false := by decide) : PE X (.Name x p) (tC (.str z)) := pe_glob hg hm ⟨_, rfl⟩ hdb
theorem pgI {i : Int} {tk : Tok} (hm : X.mg x = some (.int i tk)) (hg : Gl X x := by rfl) (hdb : (x == ("__debug__" : Str)) = false := by decide) : PE X (.Name x p) (tC (.int i)) := pe_glob hg hm ⟨_, rfl⟩ hdb
/-- comparisons, as values and as tests -/
theorem pcm {op : CmpOp} {r : R2} {a b : Expr} {ta tb : TE} (ho : OpR X (compareOp op) r) (ha : PE X a ta) (hb : PE X b tb) (hm : behindInMarks op b = false := by rfl) : PE X (.Compare a [op] [b] pos) (tOp r ta tb) := pe_cmpR ho ha hb hm
theorem tcm {op : CmpOp} {r : R2} {a b : Expr} {ta tb : TE} (ho : OpR X (compareOp op) r) (ha : PE X a ta) (hb : PE X b tb) (hm : behindInMarks op b = false := by rfl) : PT X (.Compare a [op] [b] pos) (tTest (tOp r ta tb)) := pt_cmpR ho ha hb hm
/-- isinstance(e, T), T a built-in type -/
theorem pisi {n : Str} {T : String} {p2 : Pos} {te : TE} (hi : X.mg "isinstance" = none) (hn : X.mg n = none) (he : PE X e te) (hb : bootBuiltins n = some (.type T) := by rfl) (hg : Gl X "isinstance" := by rfl) (hg2 : Gl X n := by rfl) (h1 : n ≠ "__name__" := by decide) (h2 : (n == ("__debug__" : Str)) = false := by decide)
    (hs : starEach (e :: [.Name n p2]) X.env = (false, eval e X.env) :: starEach [.Name n p2] X.env := by rfl) (hs2 : starEach [.Name n p2] X.env = (false, eval (.Name n p2) X.env) :: starEach [] X.env := by rfl) (hpl : (backTo pos (starEach [.Name n p2] X.env)).any (·.1) = false := by rfl) :
    PE X (.Call (.Name "isinstance" p) [e, .Name n p2] [] pos) (tCB (rIsi X.K) (tCons te (tCons (tC (.ty T)) tNil))) :=
  pe_callB call_isi hg hi boot_isinstance (pa_cons he (pa_cons (pe_bltn hg2 hn hb rfl h1 h2) pa_nil hs2) hs) (he := hs) (hpl := hpl)
end
section
variable {P : Program} {w : World} {K : PySem.W.Frag} {mg : Str → Option Value} {base : Heap} {f : Addr} {fd : FuncData}
abbrev FnP (K : PySem.W.Frag) (d : He.DefD) (f : Addr) (fd : FuncData) : Prop := FunD K d.name d.qual d.params d.body d.scope [] [] f fd
/-! ### a comprehension without tests whose element keeps what is tracked -/
theorem same_upd {H : Hp} {p : Addr} (h : H p = none) (o : HO) : Same H (upd H p o) := fun b u q => by rw [upd_ne (ne_of_none q h)]; exact q
theorem lcP {J : It} {n : Nat} {G : Hp → Prop} {Y : Nat → Hp → V → Hp → Prop} (wk : Walk J n G Y) {g : TG} {te : TE} {vs : List Nat} {σ : St} {H1 : Hp} {D : Addr} {Qd : Hp → Prop} (ys : Nat → V) (hD : H1 D = none) (hn : n ≤ sizeLine) (hG : ∀ H, Same H1 H → G H)
    (hs : ∀ (i : Nat) (x : V) (H H' : Hp) (Po : VK), i < n → Same H1 H → Y i H x H' → (∀ H4, Same H H4 → Po (ys i) H4) → g x (wipe σ vs) H' fun σ2 H2 => wipe σ2 vs = wipe σ vs ∧ te σ2 H2 Po)
    (hd : ∀ H, Same H1 H → H D = some (.lst ((List.range n).map ys)) → Qd H) :
    ∃ W : Nat → Nat → Hp → Prop, (∃ m, W 0 m (upd H1 D (.lst []))) ∧ ∀ i m H, W i m H →
      (J.stop i H ∧ Qd H) ∨ (J.go i H ∧ ∃ Nx : Hp → Prop, (∀ H', Nx H' → ∃ m', m' < m ∧ W (i + 1) m' H') ∧ ∀ x H', J.yld i H x H' → g x (wipe σ vs) H' fun σ2 H2 => wipe σ2 vs = wipe σ vs ∧ tYes σ2 H2 fun b H3 =>
        if b = true then te σ2 H3 fun y H4 => ∃ acc, H4 D = some (.lst acc) ∧ acc.length < sizeLine ∧ Nx (upd H4 D (.lst (acc ++ [y]))) else Nx H3) := by
  refine lc_it wk (fun i H => Same H1 H ∧ H D = some (.lst ((List.range i).map ys))) ⟨same_upd hD _, upd_same⟩ (fun i H _ p => hG H p.1) (fun i x H H' hi p y => ?_) (fun H p => hd H p.1 p.2)
  refine hs i x H H' _ hi p.1 y fun H4 k => ⟨(List.range i).map ys, k _ _ p.2, by rw [List.length_map, List.length_range]; exact Nat.lt_of_lt_of_le hi hn, fun b u q => ?_, ?_⟩
  · rw [upd_ne (ne_of_none q hD)]
    exact k _ _ (p.1 _ _ q)
  · rw [upd_same, List.range_succ, List.map_append]
    rfl
theorem range_getD {α β : Type} (l : List α) (d : α) (f : α → β) : (List.range l.length).map (fun i => f (l.getD i d)) = l.map f := by
  apply List.ext_getElem
  · simp
  · intro i h1 h2
    simp at h1
    simp [h1]
theorem mem_let (c : Nat) : decide (c ∈ (LET : Str).cps.toList) = isLet c := by
  have e : (LET : Str).cps.toList = (List.range 26).map (97 + ·) := by decide +kernel
  rw [e]
  by_cases h : isLet c = true
  · rw [h]
    have h' : 97 ≤ c ∧ c ≤ 122 := by simpa [isLet] using h
    exact decide_eq_true (List.mem_map.mpr ⟨c - 97, List.mem_range.mpr (by omega), by omega⟩)
  · have h2 : isLet c = false := by simpa using h
    rw [h2]
    refine decide_eq_false fun q => h ?_
    obtain ⟨i, hi, q⟩ := List.mem_map.mp q
    have := List.mem_range.mp hi
    simp [isLet]
    omega
theorem mem_fig (c : Nat) : decide (c ∈ (FIG : Str).cps.toList) = isFig c := by
  have e : (FIG : Str).cps.toList = (List.range 10).map (48 + ·) := by decide +kernel
  rw [e]
  by_cases h : isFig c = true
  · rw [h]
    have h' : 48 ≤ c ∧ c ≤ 57 := by simpa [isFig] using h
    exact decide_eq_true (List.mem_map.mpr ⟨c - 48, List.mem_range.mpr (by omega), by omega⟩)
  · have h2 : isFig c = false := by simpa using h
    rw [h2]
    refine decide_eq_false fun q => h ?_
    obtain ⟨i, hi, q⟩ := List.mem_map.mp q
    have := List.mem_range.mp hi
    simp [isFig]
    omega
/-- all([sign in TABLE for sign in z]): the list that stands at D -/
theorem sqAll {K : PySem.W.Frag} {H : Hp} {z : Str} {D : Addr} {f : Nat → Bool} (e : H D = some (.lst ((List.range z.cps.size).map fun i => .bl (f ((tl z).getD i 0))))) : SqL K H D (((tl z).map f).map V.bl) := by
  refine SqL.of ?_
  rw [e]
  have e2 := range_getD (tl z) 0 fun c => V.bl (f c)
  have e3 : (tl z).length = z.cps.size := by rw [← len_tl]; rfl
  rw [e3] at e2
  rw [e2, List.map_map]
  rfl
theorem allMap {l : List Nat} {f : Nat → Bool} : (l.map f).all id = l.all f := by
  rw [List.all_map]
  rfl
theorem sign_at {z : Str} {i c : Nat} (h : z.cps[i]? = some c) : (tl z).getD i 0 = c := by
  have : (tl z)[i]? = some c := by unfold tl; rw [Array.getElem?_toList]; exact h
  rw [List.getD_eq_getElem?_getD, this]
  rfl
/-! ### values by their types' names -/
inductive Knd (K : PySem.W.Frag) (H : Hp) : V → String → Prop
  | non : Knd K H .non "NoneType"
  | bl (b : Bool) : Knd K H (.bl b) "bool"
  | int (i : Int) : Knd K H (.int i) "int"
  | str (z : Str) : Knd K H (.str z) "str"
  | tup {a : Addr} {xs : List V} (h : SqT K H a xs) : Knd K H (.ref a) "tuple"
  | lst {a : Addr} {xs : List V} (h : SqL K H a xs) : Knd K H (.ref a) "list"
  | dct {a : Addr} {kvs : List (Key × V)} (h : H a = some (.dK kvs)) : Knd K H (.ref a) "dict"
abbrev Tns : List String := ["NoneType", "bool", "int", "str", "tuple", "list", "dict"]
abbrev Cns : List String := ["int", "bool", "str", "tuple", "list"]
def isT (T n : String) : Bool := T == n || (T == "bool" && n == "int")
theorem kit_all : ∀ (K : PySem.W.Frag), ∀ T ∈ Tns, ∀ n ∈ Cns, PySem.W.kitOne K (.type T) (.type n) = some (isT T n) := fun K T hT n hn => by
  apply kit_ty
  revert T n
  decide +kernel
theorem Knd.mem {H : Hp} {v : V} {T : String} (h : Knd K H v T) : T ∈ Tns := by cases h <;> decide
theorem Knd.ty {H : Hp} {v : V} {T : String} (h : Knd K H v T) : TyX K H v (.type T) := by
  cases h with
  | non => exact .base .non
  | bl b => exact .base (.bl b)
  | int i => exact .base (.int i)
  | str z => exact .base (.str z)
  | tup h =>
    rcases h with (h | ⟨o, h⟩) | ⟨o, its, n, hk, hc, _⟩
    · exact .base (.tup h)
    · exact .fTuple h
    · exact .kTuple hk hc
  | lst h =>
    rcases h with (h | ⟨o, h⟩) | ⟨o, its, n, hk, hc, _⟩
    · exact .base (.lst h)
    · exact .base (.frz h)
    · exact .kList hk hc
  | dct h => exact .base (.dK h)
theorem isi {H : Hp} {v : V} {T n : String} {q : Prop} (h : Knd K H v T) (hn : n ∈ Cns) (hq : q) : ClsV (.ty n) (.type n) ∧ TyX K H v (.type T) ∧ PySem.W.kitOne K (.type T) (.type n) = some (isT T n) ∧ q :=
  ⟨.ty n, h.ty, kit_all K T h.mem n hn, hq⟩
/-! ### is_whole -/
def isWhole : V → Bool
  | .int _ => true
  | _ => false
def spWhole (K : PySem.W.Frag) : Sp := fun vs H Q _ => ∃ v T, vs = [v] ∧ Knd K H v T ∧ Q (.bl (isWhole v)) H
theorem ok_whole (m : Fx mg) (F : FnP K dIsWhole f fd) : FnOk P w K mg base CX0 1 f fd ["value"] (spWhole K) := by
  refine F.ok scIsWhole (fun vs H Q E h => ?_) (fun cdv A outer s H vs Q E hr h => ?_)
  · obtain ⟨v, T, rfl, _⟩ := h
    rfl
  refine ⟨_, pss_one (ps_ret (pe_and (pisi m.isi m.int (pv 0)) (pe_one (pe_not (pisi m.isi m.bool (pv 0)))))), ?_⟩
  obtain ⟨v, T, rfl, ty, q⟩ := h
  refine ⟨_, rfl, _, _, _, _, _, rfl, isi ty (by decide) ⟨_, rfl, ?_⟩⟩
  cases ty with
  | int i => exact ⟨_, rfl, _, _, _, _, _, rfl, isi (.int i) (by decide) ⟨_, rfl, q⟩⟩
  | bl b => exact ⟨_, rfl, _, _, _, _, _, rfl, isi (.bl b) (by decide) ⟨_, rfl, q⟩⟩
  | _ => exact q
/-! ### is_letters -/
def spLetters (K : PySem.W.Frag) : Sp := fun vs H Q _ => ∃ v T, vs = [v] ∧ Knd K H v T ∧ (∀ z, v = .str z → z.length ≤ sizeLine) ∧ ∀ H', Same H H' → Q (.bl (match v with
  | .str z => wordL (tl z)
  | _ => false)) H'
theorem ok_letters (m : Fx mg) (F : FnP K dIsLetters f fd) : FnOk P w K mg base CX0 1 f fd ["value"] (spLetters K) := by
  refine F.ok scIsLetters (fun vs H Q E h => ?_) (fun cdv A outer s H vs Q E hr h => ?_)
  · obtain ⟨v, T, rfl, _⟩ := h
    rfl
  obtain ⟨t8, h8⟩ := m.most
  obtain ⟨tL, hL⟩ := m.lets
  refine ⟨_, pss_one (ps_ret (pe_and (pisi m.isi m.str (pv 0)) (pe_and (pe_chain op_le op_le pe_int (pb call_len_str m.len (pa_cons (pv 0) pa_nil)) (pgI h8))
    (pe_one (pb (cr_all rfl) m.all (pa_cons (pe_lc (own := [("sign", 1)]) (g := gName 1) (tt := tYes) rfl scIsLetters.nd (pi_str (pv 0)) (blkOk_by (N := nIsLetters) (sc := defScope sIsLetters) (by decide +kernel)) (fun _ _ _ _ _ => pg_name (i := 1) scIsLetters.nd rfl (Or.inl rfl)) (fun _ _ _ _ _ => pts_nil)
      (fun _ _ _ _ _ => pcm op_in_sign (pv 1) (pgS hL))) pa_nil)))))), ?_⟩
  obtain ⟨v, T, rfl, ty, hz, q⟩ := h
  refine ⟨_, rfl, _, _, _, _, _, rfl, isi ty (by decide) ⟨_, rfl, ?_⟩⟩
  cases ty with
  | str z =>
    refine ⟨_, rfl, z, rfl, hz z rfl, _, _, rfl, rfl, _, rfl, ?_⟩
    have e1 : (1 ≤ ((z.length : Nat) : Int)) ↔ 1 ≤ (tl z).length := by rw [len_tl]; omega
    have e8 : (((z.length : Nat) : Int) ≤ 8) ↔ (tl z).length ≤ 8 := by rw [len_tl]; omega
    refine ite2 (fun c1 => ?_) (fun c1 => ?_)
    · refine ⟨_, _, rfl, rfl, _, rfl, ?_⟩
      refine ite2 (fun c8 => ?_) (fun c8 => ?_)
      · refine ⟨_, rfl, z, rfl, fun D hD => lcP walk_str (fun i => .bl (isLet ((tl z).getD i 0))) hD ?_ (fun _ _ => True.intro) (fun i x H1 H' Po hi k y hp => ?_) (fun H1 k e => ?_)⟩
        · exact hz z rfl
        · obtain ⟨rfl, c, hc, rfl⟩ := y
          refine ⟨rfl, _, rfl, c, LET, rfl, rfl, ?_⟩
          have z1 := hp _ (Same.refl _)
          rw [sign_at hc, ← mem_let] at z1
          exact z1
        · refine ⟨D, _, rfl, sqAll (f := isLet) e, ?_⟩
          rw [allMap]
          have z1 := q H1 k
          have e3 : wordL (tl z) = (tl z).all isLet := by
            unfold wordL
            rw [decide_eq_true (e1.mp (of_decide_eq_true c1)), decide_eq_true (e8.mp (of_decide_eq_true c8))]
            rfl
          rw [← e3]
          exact z1
      · have z1 := q H (Same.refl H)
        have e3 : wordL (tl z) = false := by
          unfold wordL
          rw [decide_eq_false fun h => of_decide_eq_false (Bool.eq_false_iff.mpr c8) (e8.mpr h), Bool.and_false]
          rfl
        simp only [e3] at z1
        exact z1
    · have z1 := q H (Same.refl H)
      have e3 : wordL (tl z) = false := by
        unfold wordL
        rw [decide_eq_false fun h => of_decide_eq_false (Bool.eq_false_iff.mpr c1) (e1.mpr h)]
        rfl
      simp only [e3] at z1
      exact ⟨_, rfl, z1⟩
  | _ => exact q H (Same.refl H)
/-! ### is_figures -/
def spFigures (K : PySem.W.Frag) : Sp := fun vs H Q _ => ∃ z : Str, vs = [.str z] ∧ z.length ≤ sizeLine ∧ ∀ H', Same H H' → Q (.bl (figsL (tl z))) H'
theorem tl_empty {z : Str} : z = "" ↔ tl z = [] := by
  constructor
  · intro h; subst h; rfl
  · intro h; exact ext_tl (by rw [h]; rfl)
theorem ok_figures (m : Fx mg) (F : FnP K dIsFigures f fd) : FnOk P w K mg base CX0 1 f fd ["text"] (spFigures K) := by
  refine F.ok scIsFigures (fun vs H Q E h => ?_) (fun cdv A outer s H vs Q E hr h => ?_)
  · obtain ⟨z, rfl, _⟩ := h
    rfl
  obtain ⟨tF, hF⟩ := m.figs
  refine ⟨_, pss_cons (ps_if (pw_or (tcm op_eq (pv 0) pe_str) (pw_or1 (pt_not (pt_val (pb (cr_all rfl) m.all (pa_cons (pe_lc (own := [("sign", 1)]) (g := gName 1) (tt := tYes) rfl scIsFigures.nd (pi_str (pv 0)) (blkOk_by (N := nIsFigures) (sc := defScope sIsFigures) (by decide +kernel))
      (fun _ _ _ _ _ => pg_name (i := 1) scIsFigures.nd rfl (Or.inl rfl)) (fun _ _ _ _ _ => pts_nil) (fun _ _ _ _ _ => pcm op_in_sign (pv 1) (pgS hF))) pa_nil)))))).pt (pss_one (ps_ret pe_bl)) pss_nil)
    (pss_one (ps_ret (pe_or (pcm op_eq (pv 0) pe_str) (pe_one (pcm op_ne (pe_item_str (pv 0) pe_int (fun _ _ => rfl)) pe_str))))), ?_⟩
  obtain ⟨z, rfl, hz, q⟩ := h
  refine ⟨_, rfl, rfl, _, rfl, ?_⟩
  by_cases h0 : z = ""
  · subst h0
    exact q H (Same.refl H)
  · have n0 : tl z ≠ [] := fun h => h0 (tl_empty.mpr h)
    have e0 : decide (V.str z = V.str "") = false := decide_eq_false fun h => h0 (by cases h; rfl)
    rw [e0]
    refine ⟨_, rfl, z, rfl, fun D hD => lcP walk_str (fun i => .bl (isFig ((tl z).getD i 0))) hD hz (fun _ _ => True.intro) (fun i x H1 H' Po hi k y hp => ?_) (fun H1 k e => ?_)⟩
    · obtain ⟨rfl, c, hc, rfl⟩ := y
      refine ⟨rfl, _, rfl, c, FIG, rfl, rfl, ?_⟩
      have z1 := hp _ (Same.refl _)
      rw [sign_at hc, ← mem_fig] at z1
      exact z1
    · refine ⟨D, _, rfl, sqAll (f := isFig) e, _, rfl, ?_⟩
      rw [allMap]
      have z1 := q H1 k
      unfold figsL at z1
      rw [decide_eq_true n0, Bool.true_and] at z1
      cases ha : (tl z).all isFig with
      | false =>
        rw [ha] at z1
        exact z1
      | true =>
        rw [ha, Bool.true_and] at z1
        refine ⟨_, rfl, rfl, _, rfl, ?_⟩
        unfold figsOk at z1
        have e48 : decide (V.str z = V.str "0") = decide (tl z = [48]) := by
          by_cases h : tl z = [48]
          · rw [decide_eq_true h]
            exact decide_eq_true (congrArg V.str (ext_tl (show tl z = tl "0" from h)))
          · rw [decide_eq_false h]
            exact decide_eq_false fun h2 => h (by cases h2; rfl)
        rw [e48]
        cases h1 : decide (tl z = [48]) with
        | true =>
          rw [h1] at z1
          exact z1
        | false =>
          rw [h1, Bool.false_or] at z1
          obtain ⟨c, r, ec⟩ : ∃ c r, tl z = c :: r := by
            cases h2 : tl z with
            | nil => exact absurd h2 n0
            | cons c r => exact ⟨c, r, rfl⟩
          have l0 : (0 : Int) < z.length := by rw [len_tl, ec]; simp
          have g0 : z.cps[(0 : Int).toNat]? = some c := by
            have : (tl z)[0]? = some c := by rw [ec]; rfl
            unfold tl at this
            rwa [Array.getElem?_toList] at this
          refine ⟨_, rfl, z, 0, c, rfl, rfl, Int.le_refl 0, by decide, l0, g0, rfl, ?_⟩
          have e3 : (!decide (V.str ⟨#[c]⟩ = V.str "0")) = decide ((tl z).head? ≠ some 48) := by
            rw [ec]
            by_cases h : c = 48
            · subst h; rfl
            · have d1 : V.str ⟨#[c]⟩ ≠ V.str "0" := fun h2 => h (by
                injection h2 with h2
                have := congrArg tl h2
                exact List.head_eq_of_cons_eq this)
              rw [decide_eq_false d1]
              symm
              exact decide_eq_true (by simpa using h)
          rw [e3]
          exact z1
end
end K16W
end
section
set_option Elab.async false
set_option linter.all false
set_option maxRecDepth 100000
set_option maxHeartbeats 4000000
namespace K16W
open PySem PySem.Spec PyProof.Rows L2 K16R K16T K16D TL K16 SX
section
variable {P : Program} {w : World} {K : PySem.W.Frag} {mg : Str → Option Value} {base : Heap} {f : Addr} {fd : FuncData}
theorem ifT {c : Bool} {A B : Prop} (hc : c = true) (h : A) : if c = true then A else B := by rw [if_pos hc]; exact h
theorem ifF {c : Bool} {A B : Prop} (hc : c = false) (h : B) : if c = true then A else B := by rw [hc, if_neg Bool.false_ne_true]; exact h
theorem tl_S (l : List Nat) : tl (S l) = l := rfl
theorem tl_cut (z : Str) (lo hi : Option Int) : tl (cutS z lo hi) = ((tl z).drop (HT.sIx (tl z).length 0 lo)).take (HT.sIx (tl z).length (tl z).length hi - HT.sIx (tl z).length 0 lo) := by
  rw [← len_tl]
  rfl
theorem val_app (a : List Nat) : ∀ (n : Nat) (b : List Nat), b.length = n → NumText.digitsVal (a ++ b) = NumText.digitsVal a * 10 ^ b.length + NumText.digitsVal b := by
  intro n
  induction n with
  | zero =>
    intro b h
    have : b = [] := List.length_eq_zero_iff.mp h
    subst this
    simp [NumText.digitsVal]
  | succ n ih =>
    intro b h
    have hne : b ≠ [] := fun e => by rw [e] at h; cases h
    have e := List.dropLast_concat_getLast hne
    have hl : b.dropLast.length = n := by rw [List.length_dropLast, h]; rfl
    have z := ih b.dropLast hl
    rw [← e, ← List.append_assoc, val_append, z, val_append, List.length_append, List.length_singleton, Nat.pow_succ, Nat.add_mul, Nat.mul_assoc, Nat.add_assoc]
theorem SqT.mono {H H' : Hp} {a : Addr} {xs : List V} (k : Same H H') (h : SqT K H a xs) : SqT K H' a xs := by
  rcases h with (h | ⟨o, h⟩) | h
  · exact .inl (.inl (k _ _ h))
  · exact .inl (.inr ⟨o, k _ _ h⟩)
  · exact .inr h
theorem Knd.mono {H H' : Hp} {v : V} {T : String} (k : Same H H') (h : Knd K H v T) : Knd K H' v T := by
  cases h with
  | non => exact .non
  | bl b => exact .bl b
  | int i => exact .int i
  | str z => exact .str z
  | tup h => exact .tup (SqT.mono k h)
  | lst h => exact .lst (k.seq h)
  | dct h => exact .dct (k _ _ h)
theorem int_of {l : List Nat} (h : l.all isFig = true) (hne : l ≠ []) (hl : l.length ≤ 640) : PySem.intText? (S l) = some ((NumText.digitsVal l : Nat) : Int) := int_S h hne (by omega)
theorem castk (a b k : Nat) : ((a * 10 ^ k + b : Nat) : Int) = (a : Int) * 10 ^ k + (b : Int) := by push_cast; rfl
theorem val_lt : ∀ (n : Nat) (l : List Nat), l.length = n → l.all isFig = true → NumText.digitsVal l < 10 ^ l.length := by
  intro n
  induction n with
  | zero =>
    intro l h _
    have : l = [] := List.length_eq_zero_iff.mp h
    subst this
    decide
  | succ n ih =>
    intro b h hf
    have hne : b ≠ [] := fun e => by rw [e] at h; cases h
    have e := List.dropLast_concat_getLast hne
    have hl : b.dropLast.length = n := by rw [List.length_dropLast, h]; rfl
    have hf1 : b.dropLast.all isFig = true := List.all_eq_true.mpr fun x hx => List.all_eq_true.mp hf x (List.dropLast_subset b hx)
    have hc : isFig (b.getLast hne) = true := List.all_eq_true.mp hf _ (List.getLast_mem hne)
    have hc2 : 48 ≤ b.getLast hne ∧ b.getLast hne ≤ 57 := by simpa [isFig] using hc
    have z := ih b.dropLast hl hf1
    rw [← e, val_append, List.length_append, List.length_singleton, Nat.pow_succ]
    omega
/-! ### whole_of -/
def spWholeOf : Sp := fun vs H Q _ => ∃ z : Str, vs = [.str z] ∧ (tl z).all isFig = true ∧ tl z ≠ [] ∧ (tl z).length ≤ 640 ∧ Q (.int (NumText.digitsVal (tl z) : Nat)) H
theorem ok_whole_of (m : Fx mg) (F : FnP K dWholeOf f fd) : FnOk P w K mg base CX0 1 f fd ["figures"] spWholeOf := by
  refine F.ok scWholeOf (fun vs H Q E h => ?_) (fun cdv A outer s H vs Q E hr h => ?_)
  · obtain ⟨z, rfl, _⟩ := h
    rfl
  obtain ⟨tP, hP⟩ := m.piece
  obtain ⟨tU, hU⟩ := m.under
  refine ⟨_, PSs.nox (pss_cons (ps_set (i := 1) scWholeOf.nd rfl (Or.inl rfl) (pe_op op_mod (pty call_int1 m.int (pa_cons (pb call_len_str m.len (pa_cons (pv 0) pa_nil)) pa_nil)) (pgI hP)))
    (pss_cons (ps_set (i := 2) scWholeOf.nd rfl (Or.inl rfl) (pe_ifExp (tcm op_gt (pv 1) pe_int) (pty call_int_str m.int (pa_cons (pe_slice sl_str (pv 0) po_none (po_some (pv 1))) pa_nil)) pe_int))
    (pss_cons (ps_for PassesOwn.never rfl (pi_range3 (by rfl) m.range (pa_cons (pv 1) (pa_cons (pb call_len_str m.len (pa_cons (pv 0) pa_nil)) (pa_cons (pgI hP) pa_nil)))) (pg_name (i := 3) scWholeOf.nd rfl (Or.inl rfl))
      (pss_one (ps_set (i := 2) scWholeOf.nd rfl (Or.inl rfl) (pe_op op_add (pe_op op_mulW (pv 2) (pgI hU)) (pty call_int_str m.int (pa_cons (pe_slice sl_str (pv 0) (po_some (pv 3)) (po_some (pe_op op_add (pv 3) (pgI hP)))) pa_nil))))))
    (pss_one (ps_ret (pv 2)))))), ?_⟩
  obtain ⟨z, rfl, hf, hne, hl, q⟩ := h
  have zl : z.length = (tl z).length := len_tl z
  have hz : z.length ≤ sizeLine := by rw [zl, sizeLine_eq]; omega
  obtain ⟨L, hL⟩ : ∃ L, (tl z).length = L := ⟨_, rfl⟩
  rw [hL] at hl zl
  have n0 : 0 < L := by rw [← hL]; exact List.length_pos_iff.mpr hne
  have e60 : ((z.length : Nat) : Int) % 60 = ((L % 60 : Nat) : Int) := by rw [zl]; omega
  have part : ∀ a b : Nat, a ≤ b → b ≤ L → tl (cutS z (some (a : Int)) (some (b : Int))) = ((tl z).drop a).take (b - a) := fun a b h1 h2 => by
    rw [tl_cut, hL, HT.sIx_nat, HT.sIx_nat, Nat.min_eq_left h2, Nat.min_eq_left (Nat.le_trans h1 h2)]
  have head : tl (cutS z none (some (((L % 60 : Nat)) : Int))) = (tl z).take (L % 60) := by
    rw [tl_cut, hL, HT.sIx_none, HT.sIx_nat, Nat.min_eq_left (Nat.mod_le _ _)]
    rfl
  have figT : ∀ (a k : Nat), (((tl z).drop a).take k).all isFig = true := fun a k => List.all_eq_true.mpr fun x hx => List.all_eq_true.mp hf x (List.mem_of_mem_drop (List.mem_of_mem_take hx))
  have numOf : ∀ {y : Str} {l : List Nat}, tl y = l → l.all isFig = true → l ≠ [] → l.length ≤ 640 → PySem.intText? y = some ((NumText.digitsVal l : Nat) : Int) ∧ y.length ≤ 640 := fun {y l} e h1 h2 h3 => by
    have ey : y = S l := ext_tl e
    subst ey
    exact ⟨int_of h1 h2 h3, by rw [len_tl, tl_S]; exact h3⟩
  have d60 := Nat.div_add_mod L 60
  -- the loop and the end
  have loop : ∀ (g : Int), g = ((NumText.digitsVal ((tl z).take (L % 60)) : Nat) : Int) → tSeq
      (tFor (iRng3 (tCons (tVar 1) (tCons (tCB (fun xs H Q => ∃ z, xs = [V.str z] ∧ z.length ≤ sizeLine ∧ Q (V.int z.length) H) (tCons (tVar 0) tNil)) (tCons (tC (V.int 60)) tNil)))) (gName 3)
        (tAsg (tOp (rI0 fun i j => V.int (i + j)) (tOp (rI CMulW fun i j => V.int (i * j)) (tVar 2) (tC (V.int (10 ^ 60)))) (tCB (fun xs H Q => ∃ a n, xs = [V.str a] ∧ PySem.intText? a = some n ∧ a.length ≤ 640 ∧ Q (V.int n) H)
          (tCons (tSl rSlS (tVar 0) (tPart (tVar 3)) (tPart (tOp (rI0 fun i j => V.int (i + j)) (tVar 3) (tC (V.int 60))))) tNil))) (gName 2)))
      (tRet (tVar 2)) { nx := fun _ H' => Q V.non H', rt := Q } [some (V.str z), some (V.int ((L % 60 : Nat) : Int)), some (V.int g), none] H := fun g hg => by
    have rc : RgC ((L % 60 : Nat) : Int) (z.length : Nat) 60 (L / 60) := by
      rw [zl]
      have hs : Builtin.Range.rangeSize ((L % 60 : Nat) : Int) (L : Nat) 60 = (L / 60 : Nat) := by
        unfold Builtin.Range.rangeSize
        rw [if_pos (by decide)]
        split <;> omega
      have fit : ∀ x : Int, 0 ≤ x → x < 100000 → Builtin.Range.rangeFitsLong x = true := fun x h1 h2 => by
        unfold Builtin.Range.rangeFitsLong
        rw [decide_eq_true (by omega), decide_eq_true (by omega)]
        rfl
      refine ⟨by decide, by decide, ?_, hs⟩
      unfold Builtin.Range.small
      rw [hs, fit _ (by omega) (by omega), fit _ (by omega) (by omega), fit _ (by omega) (by omega), fit _ (by omega) (by omega), if_pos (by decide), fit _ (by omega) (by omega), Bool.or_true]
      rfl
    refine ⟨_, rfl, _, rfl, z, rfl, hz, _, _, _, L / 60, rfl, rc, ?_⟩
    refine for_it walk_rangeC (fun i σ H' => H' = H ∧ ∃ x, σ = [some (V.str z), some (V.int ((L % 60 : Nat) : Int)), some (V.int ((NumText.digitsVal ((tl z).take (L % 60 + 60 * i)) : Nat) : Int)), x]) ⟨rfl, none, by rw [hg]; rfl⟩ (fun _ _ _ _ _ => True.intro) (fun i x σ H1 H2 hi p y => ?_) (fun σ H1 p => ?_)
    · obtain ⟨rfl, v3, rfl⟩ := p
      obtain ⟨rfl, ex⟩ := y
      have ex : x = V.int ((L % 60 + 60 * i : Nat) : Int) := by rw [ex]; exact congrArg V.int (by omega)
      subst ex
      have le2 : L % 60 + 60 * i + 60 ≤ L := by omega
      have cut : tl (cutS z (some ((L % 60 + 60 * i : Nat) : Int)) (some (((L % 60 + 60 * i : Nat) : Int) + 60))) = ((tl z).drop (L % 60 + 60 * i)).take 60 := by
        have := part (L % 60 + 60 * i) (L % 60 + 60 * i + 60) (by omega) le2
        rw [show L % 60 + 60 * i + 60 - (L % 60 + 60 * i) = 60 by omega] at this
        exact this
      have l60 : (((tl z).drop (L % 60 + 60 * i)).take 60).length = 60 := by rw [List.length_take, List.length_drop, hL]; omega
      obtain ⟨i1, i2⟩ := numOf cut (figT _ _) (fun e => by rw [e] at l60; cases l60) (by rw [l60]; decide)
      have lt1 : NumText.digitsVal ((tl z).take (L % 60 + 60 * i)) < 10 ^ 640 := by
        have a1 : ((tl z).take (L % 60 + 60 * i)).length ≤ 640 := by rw [List.length_take]; omega
        exact Nat.lt_of_lt_of_le (val_lt _ _ rfl (List.all_eq_true.mpr fun x hx => List.all_eq_true.mp hf x (List.mem_of_mem_take hx))) (Nat.pow_le_pow_right (by decide) a1)
      have w1 : ((NumText.digitsVal ((tl z).take (L % 60 + 60 * i)) : Nat) : Int).natAbs < 2 ^ 3000 := by
        rw [Int.natAbs_natCast]
        exact Nat.lt_trans lt1 (by decide +kernel)
      refine ⟨_, rfl, _, _, rfl, rfl, wide_mul w1 (show ((10 : Int) ^ 60).natAbs < 2 ^ 300 by decide +kernel) (by decide) (by decide) (by decide), _, rfl, _, rfl, _, rfl, _, rfl, _, _, rfl, rfl, _, rfl, z, rfl, hz, _, _, rfl, i1, i2, _, _, rfl, rfl, rfl, some (V.int ((L % 60 + 60 * i : Nat) : Int)), ?_⟩
      have e2 : (tl z).take (L % 60 + 60 * (i + 1)) = (tl z).take (L % 60 + 60 * i) ++ ((tl z).drop (L % 60 + 60 * i)).take 60 := by
        rw [show L % 60 + 60 * (i + 1) = L % 60 + 60 * i + 60 by omega, List.take_add]
      have e3 : ((NumText.digitsVal ((tl z).take (L % 60 + 60 * i)) : Nat) : Int) * 10 ^ 60 + ((NumText.digitsVal (((tl z).drop (L % 60 + 60 * i)).take 60) : Nat) : Int) = ((NumText.digitsVal ((tl z).take (L % 60 + 60 * (i + 1))) : Nat) : Int) := by
        rw [e2, val_app _ _ _ rfl, l60]
        exact (castk _ _ _).symm
      rw [← e3]
      rfl
    · obtain ⟨rfl, v3, rfl⟩ := p
      refine ⟨_, rfl, ?_⟩
      have e : L % 60 + 60 * (L / 60) = (tl z).length := by omega
      rw [e, List.take_length]
      exact q
  refine ⟨_, rfl, z, rfl, hz, .inl ⟨_, rfl, _, _, rfl, rfl, (by show (0 : Int) < 60; decide), ?_⟩⟩
  show gName 1 (V.int (((z.length : Nat) : Int) % 60)) _ _ _
  rw [e60]
  refine ⟨_, rfl, _, _, rfl, rfl, _, rfl, ?_⟩
  by_cases h0 : L % 60 = 0
  · refine ifF (decide_eq_false (by rw [h0]; decide)) ?_
    refine loop 0 ?_
    rw [h0]
    rfl
  · have c : decide (((0 : Int)) < ((L % 60 : Nat) : Int)) = true := decide_eq_true (by omega)
    refine ifT c ?_
    obtain ⟨i1, i2⟩ := numOf head (figT 0 (L % 60)) (fun e => by
      have := congrArg List.length e
      rw [List.length_take, hL] at this
      simp at this
      omega) (by rw [List.length_take]; omega)
    refine ⟨_, rfl, _, rfl, _, rfl, z, rfl, hz, _, _, rfl, i1, i2, ?_⟩
    exact loop _ rfl
/-! ### figures_of -/
/-- the last k figures -/
def digs : Nat → Nat → List Nat
  | 0, _ => []
  | k + 1, a => digs k (a / 10) ++ [48 + a % 10]
theorem num_digs : ∀ (k m : Nat), 10 ^ k ≤ m → numL m = numL (m / 10 ^ k) ++ digs k (m % 10 ^ k)
  | 0, m, _ => by simp [digs]
  | k + 1, m, h => by
    have h10 : 10 ≤ m := Nat.le_trans (by rw [Nat.pow_succ]; have := Nat.pow_pos (n := k) (show 0 < 10 by decide); omega) h
    have hk : 10 ^ k ≤ m / 10 := by rw [Nat.le_div_iff_mul_le (by decide)]; rw [Nat.pow_succ] at h; exact h
    rw [numL_step h10, num_digs k (m / 10) hk, Nat.div_div_eq_div_mul, ← Nat.pow_succ']
    have e1 : m % 10 ^ (k + 1) / 10 = m / 10 % 10 ^ k := by rw [Nat.pow_succ', Nat.mod_mul_right_div_self]
    have e2 : m % 10 ^ (k + 1) % 10 = m % 10 := by rw [Nat.pow_succ', Nat.mod_mul_right_mod]
    show _ = _ ++ (digs k (m % 10 ^ (k + 1) / 10) ++ [48 + m % 10 ^ (k + 1) % 10])
    rw [e1, e2, List.append_assoc]
theorem digs_len : ∀ k a : Nat, (digs k a).length = k
  | 0, _ => rfl
  | k + 1, a => by
    show (digs k (a / 10) ++ [_]).length = _
    rw [List.length_append, digs_len k]
    rfl
theorem digs_zero : ∀ k : Nat, digs k 0 = List.replicate k 48
  | 0 => rfl
  | k + 1 => by
    show digs k 0 ++ [48] = _
    rw [digs_zero k, List.replicate_succ']
theorem digs_pad : ∀ (k a : Nat), 0 < k → a < 10 ^ k → digs k a = List.replicate (k - (numL a).length) 48 ++ numL a
  | 0, _, h, _ => absurd h (by decide)
  | k + 1, a, _, h => by
    by_cases h10 : a < 10
    · show digs k (a / 10) ++ [48 + a % 10] = _
      rw [Nat.div_eq_of_lt h10, digs_zero, numL_lt h10, Nat.mod_eq_of_lt h10]
      rfl
    · have h10 : 10 ≤ a := by omega
      have hk : 0 < k := by
        rcases Nat.eq_zero_or_pos k with z | z
        · subst z; omega
        · exact z
      show digs k (a / 10) ++ [48 + a % 10] = _
      rw [digs_pad k (a / 10) hk (by rw [Nat.div_lt_iff_lt_mul (by decide)]; rw [Nat.pow_succ] at h; exact h), numL_step h10, List.length_append, List.length_singleton, ← List.append_assoc, Nat.add_sub_add_right]
theorem joinL_nil : ∀ ls : List (List Nat), joinL [] ls = ls.flatten
  | [] => rfl
  | [x] => by simp [joinL]
  | x :: y :: r => by
    have := joinL_nil (y :: r)
    simp only [joinL, List.flatten_cons, List.nil_append] at this ⊢
    rw [this]
theorem sumS : ∀ ls : List (List Nat), (ls.map ((fun x : Str => x.length) ∘ S)).sum = ls.flatten.length
  | [] => rfl
  | x :: r => by
    rw [List.map_cons, List.sum_cons, sumS r, List.flatten_cons, List.length_append]
    rfl
theorem rjust60 {a : Nat} (h60 : a < 10 ^ 60) : Txt.rjustF (Str.ofString (toString ((a : Nat) : Int))) 60 48 = S (digs 60 a) := by
  have lx : (Str.ofString (toString ((a : Nat) : Int))).length = (numL a).length := by rw [len_tl, tl_num]
  have ll := numL_len (n := a) (k := 60) (by decide) h60
  refine ext_tl ?_
  rw [tl_S, digs_pad 60 _ (by decide) h60]
  unfold Txt.rjustF
  by_cases h : (60 : Int) ≤ (Str.ofString (toString ((a : Nat) : Int))).length
  · rw [if_pos h]
    show tl (Str.ofString (toString ((a : Nat) : Int))) = _
    rw [tl_num]
    have : 60 - (numL a).length = 0 := by omega
    rw [this]
    rfl
  · rw [if_neg h]
    show (Array.replicate (60 - (Str.ofString (toString ((a : Nat) : Int))).length) 48 ++ (Str.ofString (toString ((a : Nat) : Int))).cps ++ Array.replicate 0 48).toList = _
    rw [lx, Array.toList_append, Array.toList_append, Array.toList_replicate, Array.toList_replicate]
    show _ ++ tl (Str.ofString (toString ((a : Nat) : Int))) ++ [] = _
    rw [tl_num, List.append_nil]
def spFiguresOf : Sp := fun vs H Q _ => ∃ n : Nat, vs = [.int (n : Int)] ∧ n < 10 ^ 640 ∧ ∀ H', Same H H' → Q (.str (S (numL n))) H'
theorem ok_figures_of (m : Fx mg) (F : FnP K dFiguresOf f fd) : FnOk P w K mg base CX0 1 f fd ["number"] spFiguresOf := by
  refine F.ok scFiguresOf (fun vs H Q E h => ?_) (fun cdv A outer s H vs Q E hr h => ?_)
  · obtain ⟨n, rfl, _⟩ := h
    rfl
  obtain ⟨tP, hP⟩ := m.piece
  obtain ⟨tU, hU⟩ := m.under
  obtain ⟨tF, hF⟩ := m.figs
  refine ⟨_, PSs.nox (pss_cons (ps_set (i := 1) scFiguresOf.nd rfl (Or.inl rfl) (pe_lst pa_nil))
    (pss_cons (ps_while PassesOwn.never (tcm op_ge (pv 0) (pgI hU))
      (pss_cons (ps_expr (pe_bm PySem.F.plainAttrs_list PySem.F.slot_list_append PySem.F.type_list_append mt_append (pv 1) (pa_cons
        (pe_bm PySem.F.plainAttrs_str PySem.F.slot_str_rjust PySem.F.type_str_rjust mt_rjustF (pty call_str_int m.str (pa_cons (pe_op op_mod (pty call_int1 m.int (pa_cons (pv 0) pa_nil)) (pgI hU)) pa_nil)) (pa_cons (pgI hP) (pa_cons (pe_item_str (pgS hF) pe_int (fun _ _ => rfl)) pa_nil))) pa_nil)))
      (pss_one (ps_set (i := 0) scFiguresOf.nd rfl (Or.inl rfl) (pe_op op_fdivW (pv 0) (pgI hU))))))
    (pss_one (ps_ret (pe_op op_add_str (pty call_str_int m.str (pa_cons (pv 0) pa_nil)) (pe_join pe_str (pe_revL (pv 1)))))))), ?_⟩
  obtain ⟨n, rfl, hn, q⟩ := h
  have u0 : (0 : Int) < 10 ^ 60 := by decide
  refine ⟨(by show 0 ≤ sizeLine; decide), fun p hp => ?_⟩
  refine while_by (fun σ H' => ∃ (k : Nat) (ps : List (List Nat)), σ = [some (.int (k : Int)), some (.ref p)] ∧ Same H H' ∧ H' p = some (.lst ((ps.map S).map V.str)) ∧ k ≤ n ∧ (∀ l ∈ ps, l.length = 60) ∧ numL n = numL k ++ ps.reverse.flatten)
    (fun σ H' => match σ with
      | some (.int k) :: _ => k.toNat
      | _ => 0) ⟨n, [], rfl, same_upd hp _, upd_same, Nat.le_refl _, fun l hl => (by cases hl), by simp⟩ (fun σ H' hv => ?_) ?_
  · obtain ⟨k, ps, rfl, k1, e1, kn, h60, hnum⟩ := hv
    have flat : ∀ ls : List (List Nat), (∀ l ∈ ls, l.length = 60) → ls.flatten.length = 60 * ls.length := fun ls h => by
      induction ls with
      | nil => rfl
      | cons x r ih =>
        rw [List.flatten_cons, List.length_append, ih fun l hl => h l (List.mem_cons_of_mem _ hl), h x List.mem_cons_self, List.length_cons]
        omega
    have hps : 60 * ps.length ≤ 640 := by
      have a1 := congrArg List.length hnum
      rw [List.length_append, flat ps.reverse fun l hl => h60 l (List.mem_reverse.mp hl), List.length_reverse] at a1
      have a2 := numL_len (n := n) (k := 640) (by decide) hn
      omega
    refine ⟨_, rfl, _, _, rfl, rfl, _, rfl, ?_⟩
    refine ite2 (fun c => ?_) (fun c => ?_)
    · have c0 : (10 : Int) ^ 60 ≤ (k : Int) := of_decide_eq_true c
      have c' : 10 ^ 60 ≤ k := by
        have e : ((10 ^ 60 : Nat) : Int) = (10 : Int) ^ 60 := by decide +kernel
        omega
      have em : (k : Int) % 10 ^ 60 = ((k % 10 ^ 60 : Nat) : Int) := by
        have e : ((10 ^ 60 : Nat) : Int) = (10 : Int) ^ 60 := by decide +kernel
        rw [← e]
        rfl
      have ed : (k : Int) / 10 ^ 60 = ((k / 10 ^ 60 : Nat) : Int) := by
        have e : ((10 ^ 60 : Nat) : Int) = (10 : Int) ^ 60 := by decide +kernel
        rw [← e]
        rfl
      have lt60 : k % 10 ^ 60 < 10 ^ 60 := Nat.mod_lt _ (by decide)
      have lg : ((k : Int) % 10 ^ 60).natAbs.log2 < 1920 := by
        rw [em, Int.natAbs_natCast]
        refine Nat.lt_of_lt_of_le (PySem.Flt.log2_lt_of (k := 200) (by decide) ?_) (by decide)
        exact Nat.lt_trans lt60 (by decide +kernel)
      have piece : Txt.rjustF (Str.ofString (toString ((k : Int) % 10 ^ 60))) 60 48 = S (digs 60 (k % 10 ^ 60)) := by
        rw [em]
        exact rjust60 lt60
      refine ⟨_, rfl, .inl ⟨rfl, _, SqL.of e1⟩, ?_⟩
      refine ⟨_, rfl, .inl ⟨_, rfl, _, _, rfl, rfl, u0, _, rfl, lg, rfl, ?_⟩⟩
      refine ⟨FIG, 0, 48, rfl, rfl, by decide, by decide, by decide, rfl, ?_⟩
      refine ⟨_, _, _, rfl, rfl, by decide, rfl, ?_⟩
      refine ⟨p, _, _, rfl, rfl, e1, by rw [List.length_map, List.length_map, sizeLine_eq]; omega, ?_⟩
      refine ⟨_, rfl, _, _, rfl, rfl, wide_div u0 (show ((10 : Int) ^ 60).natAbs < 2 ^ 300 by decide +kernel) (by decide) (by decide), ?_⟩
      refine ⟨⟨k / 10 ^ 60, ps ++ [digs 60 (k % 10 ^ 60)], by rw [← ed]; rfl, fun b u z => by rw [upd_ne (ne_of_none z hp)]; exact k1 _ _ z, ?_, Nat.le_trans (Nat.div_le_self _ _) kn, fun l hl => ?_, ?_⟩, ?_⟩
      · rw [upd_same, List.map_append, List.map_append]
        exact congrArg (fun y => some (HO.lst ((ps.map S).map V.str ++ [V.str y]))) piece
      · rcases List.mem_append.mp hl with z | z
        · exact h60 l z
        · rw [List.mem_singleton.mp z, digs_len]
      · rw [hnum, num_digs 60 k c', List.reverse_append]
        simp
      · show ((k : Int) / 10 ^ 60).toNat < (k : Int).toNat
        rw [ed, Int.toNat_natCast, Int.toNat_natCast]
        exact Nat.div_lt_self (Nat.lt_of_lt_of_le (by decide) c') (by decide)
    · have c0 : ¬ (10 : Int) ^ 60 ≤ (k : Int) := of_decide_eq_false (Bool.eq_false_iff.mpr c)
      have c' : k < 10 ^ 60 := by
        have e : ((10 ^ 60 : Nat) : Int) = (10 : Int) ^ 60 := by decide +kernel
        omega
      have lg : (k : Int).natAbs.log2 < 1920 := by
        rw [Int.natAbs_natCast]
        refine Nat.lt_of_lt_of_le (PySem.Flt.log2_lt_of (k := 200) (by decide) ?_) (by decide)
        exact Nat.lt_trans c' (by decide +kernel)
      refine ⟨_, rfl, _, rfl, lg, ⟨_, rfl⟩, _, rfl, p, _, rfl, SqL.of e1, fun l hl => ⟨"", l, (ps.reverse).map S, rfl, rfl, .inl (SqL.of ?_), ?_, _, _, rfl, rfl, ?_, ?_⟩⟩
      · rw [upd_same, List.map_reverse, List.map_reverse]
      · rw [List.map_map, sumS, flat _ fun l hl => h60 l (List.mem_reverse.mp hl), List.length_reverse]
        show 60 * ps.length + _ * 0 ≤ _
        omega
      · have ej : Txt.join (S []) ((ps.reverse).map S) = S (ps.reverse.flatten) := by rw [join_S, joinL_nil]
        show (Str.ofString (toString ((k : Nat) : Int))).length + (Txt.join (S []) ((ps.reverse).map S)).length ≤ sizeLine
        have ll := numL_len (n := k) (k := 60) (by decide) c'
        rw [ej, len_tl, len_tl, tl_num, tl_S, flat _ fun l hl => h60 l (List.mem_reverse.mp hl), List.length_reverse, sizeLine_eq]
        omega
      · have e : Str.ofString (toString ((k : Nat) : Int)) ++ Txt.join (S []) ((ps.reverse).map S) = S (numL n) := by
          refine ext_tl ?_
          rw [tl_append, tl_num, join_S, tl_S, tl_S, joinL_nil, hnum]
        have z := q (upd H' l (.lst (((ps.map S).map V.str).reverse))) (k1.trans (same_upd hl _))
        rw [← e] at z
        exact z
  · exact fun σ H Q1 Q2 h ⟨v, hv, i, j, e1, e2, b, e3, z⟩ => ⟨v, hv, i, j, e1, e2, b, e3, h _ _ z⟩
/-! ### is_lone -/
def isLone : V → Bool
  | .str z => wordL (tl z)
  | .int i => decide (0 ≤ i)
  | _ => false
def spLone (K : PySem.W.Frag) : Sp := fun vs H Q _ => ∃ v T, vs = [v] ∧ Knd K H v T ∧ (∀ z, v = .str z → z.length ≤ sizeLine) ∧ ∀ H', Same H H' → Q (.bl (isLone v)) H'
theorem ok_lone (GL : Has P w K mg base CX0 1 "is_letters" ["value"] (spLetters K)) (GW : Has P w K mg base CX0 1 "is_whole" ["value"] (spWhole K)) (F : FnP K dIsLone f fd) : FnOk P w K mg base CX0 2 f fd ["value"] (spLone K) := by
  refine F.ok scIsLone (fun vs H Q E h => ?_) (fun cdv A outer s H vs Q E hr h => ?_)
  · obtain ⟨v, T, rfl, _⟩ := h
    rfl
  refine ⟨_, PSs.nox (pss_one (ps_ret (pe_or (pc GL hr (pa_cons (pv 0) pa_nil)) (pe_one (pe_and (pc GW hr (pa_cons (pv 0) pa_nil)) (pe_one (pcm op_ge (pv 0) pe_int))))))), ?_⟩
  obtain ⟨v, T, rfl, ty, hz, q⟩ := h
  refine ⟨_, rfl, _, _, rfl, ty, hz, fun H1 k1 => ⟨_, rfl, ?_⟩⟩
  have z1 := q H1 k1
  have ty1 := ty.mono k1
  cases ty with
  | str z =>
    refine ite2 (fun c => ?_) (fun c => ?_)
    · rw [show isLone (.str z) = true from c] at z1
      exact z1
    · refine ⟨_, rfl, _, _, rfl, ty1, _, rfl, ?_⟩
      rw [show isLone (.str z) = false from Bool.eq_false_iff.mpr c] at z1
      exact z1
  | int i => exact ⟨_, rfl, _, _, rfl, ty1, _, rfl, _, rfl, _, _, rfl, rfl, z1⟩
  | non => exact ⟨_, rfl, _, _, rfl, ty1, _, rfl, z1⟩
  | bl b => exact ⟨_, rfl, _, _, rfl, ty1, _, rfl, z1⟩
  | tup h => exact ⟨_, rfl, _, _, rfl, ty1, _, rfl, z1⟩
  | lst h => exact ⟨_, rfl, _, _, rfl, ty1, _, rfl, z1⟩
  | dct h => exact ⟨_, rfl, _, _, rfl, ty1, _, rfl, z1⟩
end
end K16W
end
section
set_option Elab.async false
set_option linter.all false
set_option maxRecDepth 100000
set_option maxHeartbeats 4000000
namespace K16W
open PySem PySem.Spec PyProof.Rows L2 K16R K16T K16D TL K16 SX
/-! ### data in the heap -/
abbrev dA : PyData := .dict [(.str "a", .int 1)]
/-- .. or the one dict that the law asks about -/
def Dx (K : PySem.W.Frag) (H : Hp) (v : V) (d : PyData) : Prop := Dp K H v d ∨ (d = dA ∧ ∃ a, v = .ref a ∧ H a = some (.dK [(.inr "a", .int 1)]))
mutual
theorem dp_mono {K : PySem.W.Frag} {H H' : Hp} (k : Same H H') : ∀ {v : V} {d : PyData}, Dp K H v d → Dp K H' v d
  | _, _, .non => .non
  | _, _, .bl b => .bl b
  | _, _, .int i => .int i
  | _, _, .str x => .str x
  | _, _, .lst h hs => .lst (k.seq h) (dps_mono k hs)
  | _, _, .tup h hs => .tup (SqT.mono k h) (dps_mono k hs)
theorem dps_mono {K : PySem.W.Frag} {H H' : Hp} (k : Same H H') : ∀ {vs : List V} {ds : List PyData}, DpAll K H vs ds → DpAll K H' vs ds
  | _, _, .nil => .nil
  | _, _, .cons h hs => .cons (dp_mono k h) (dps_mono k hs)
end
theorem Dx.mono {K : PySem.W.Frag} {H H' : Hp} {v : V} {d : PyData} (k : Same H H') (h : Dx K H v d) : Dx K H' v d := h.imp (dp_mono k) fun ⟨e, a, e1, e2⟩ => ⟨e, a, e1, k _ _ e2⟩
inductive DxAll (K : PySem.W.Frag) (H : Hp) : List V → List PyData → Prop
  | nil : DxAll K H [] []
  | cons {v : V} {vs : List V} {d : PyData} {ds : List PyData} : Dx K H v d → DxAll K H vs ds → DxAll K H (v :: vs) (d :: ds)
theorem dxs_of {K : PySem.W.Frag} {H : Hp} : ∀ {vs : List V} {ds : List PyData}, DpAll K H vs ds → DxAll K H vs ds
  | _, _, .nil => .nil
  | _, _, .cons h hs => .cons (.inl h) (dxs_of hs)
theorem DxAll.len {K : PySem.W.Frag} {H : Hp} : ∀ {vs : List V} {ds : List PyData}, DxAll K H vs ds → vs.length = ds.length
  | _, _, .nil => rfl
  | _, _, .cons _ hs => congrArg (· + 1) (DxAll.len hs)
theorem DxAll.append {K : PySem.W.Frag} {H : Hp} : ∀ {vs us : List V} {ds es : List PyData}, DxAll K H vs ds → DxAll K H us es → DxAll K H (vs ++ us) (ds ++ es)
  | _, _, _, _, .nil, h => h
  | _, _, _, _, .cons a b, h => .cons a (b.append h)
theorem DxAll.snoc {K : PySem.W.Frag} {H : Hp} : ∀ {vs : List V} {ds : List PyData}, DxAll K H vs ds → vs ≠ [] → ∃ v d ds', ds = ds' ++ [d] ∧ vs = vs.dropLast ++ [v] ∧ vs[vs.length - 1]? = some v ∧ Dx K H v d ∧ DxAll K H vs.dropLast ds'
  | _, _, .nil, h => absurd rfl h
  | [v], [d], .cons a .nil, _ => ⟨v, d, [], rfl, rfl, rfl, a, .nil⟩
  | v :: u :: vs, d :: e :: ds, .cons a (.cons b c), _ => by
    obtain ⟨x, y, ds', e1, e2, e3, e4, e5⟩ := DxAll.snoc (.cons b c) (by simp)
    refine ⟨x, y, d :: ds', by rw [e1]; rfl, ?_, ?_, e4, .cons a e5⟩
    · rw [List.dropLast_cons_of_ne_nil (by simp), List.cons_append, ← e2]
    · simpa using e3
theorem dps_len {K : PySem.W.Frag} {H : Hp} {vs : List V} {ds : List PyData} (h : DpAll K H vs ds) : vs.length = ds.length := (dxs_of h).len
/-- the type's name of such a value -/
theorem Dx.knd {K : PySem.W.Frag} {H : Hp} {v : V} {d : PyData} (h : Dx K H v d) : ∃ T, Knd K H v T := by
  rcases h with h | ⟨_, a, rfl, h⟩
  · cases h with
    | non => exact ⟨_, .non⟩
    | bl b => exact ⟨_, .bl b⟩
    | int i => exact ⟨_, .int i⟩
    | str x => exact ⟨_, .str x⟩
    | lst h _ => exact ⟨_, .lst h⟩
    | tup h _ => exact ⟨_, .tup h⟩
  · exact ⟨_, .dct h⟩
mutual
/-- nodes -/
def cnt : PyData → Nat
  | .tuple xs => 1 + cnts xs
  | _ => 1
def cnts : List PyData → Nat
  | [] => 0
  | x :: xs => cnt x + cnts xs
end
theorem cnts_append : ∀ xs ys : List PyData, cnts (xs ++ ys) = cnts xs + cnts ys
  | [], ys => by simp [cnts]
  | x :: xs, ys => by simp [cnts, cnts_append xs ys, Nat.add_assoc]
theorem cnt_pos : ∀ d : PyData, 1 ≤ cnt d
  | .tuple xs => by simp [cnt]
  | .none | .bool _ | .int _ | .str _ | .list _ | .dict _ => by simp [cnt]
theorem len_cnts : ∀ xs : List PyData, xs.length ≤ cnts xs
  | [] => by simp [cnts]
  | x :: xs => by
    have := len_cnts xs
    have := cnt_pos x
    simp [cnts]
    omega
mutual
/-- texts not too long -/
def stOk : PyData → Bool
  | .str z => decide (z.length ≤ sizeLine)
  | .tuple xs => stOks xs
  | _ => true
def stOks : List PyData → Bool
  | [] => true
  | x :: xs => stOk x && stOks xs
end
theorem stOks_append : ∀ xs ys : List PyData, stOks (xs ++ ys) = (stOks xs && stOks ys)
  | [], ys => by simp [stOks]
  | x :: xs, ys => by simp [stOks, stOks_append xs ys, Bool.and_assoc]
/-- a tuple of such, or a leaf -/
theorem Dx.cases {K : PySem.W.Frag} {H : Hp} {v : V} {d : PyData} (h : Dx K H v d) : (∃ a ys cs, v = .ref a ∧ d = .tuple cs ∧ SqT K H a ys ∧ DpAll K H ys cs) ∨
    (∃ T, Knd K H v T ∧ isT T "tuple" = false ∧ isLone v = good d ∧ cnt d = 1 ∧ (stOk d = true → ∀ z, v = .str z → z.length ≤ sizeLine)) := by
  rcases h with h | ⟨e, a, e2, h⟩
  · cases h with
    | non => exact .inr ⟨_, .non, rfl, rfl, rfl, fun _ z e => nomatch e⟩
    | bl b => exact .inr ⟨_, .bl b, rfl, rfl, rfl, fun _ z e => nomatch e⟩
    | int i => exact .inr ⟨_, .int i, rfl, rfl, rfl, fun _ z e => nomatch e⟩
    | str x => exact .inr ⟨_, .str x, rfl, rfl, rfl, fun h z e => by cases e; simpa [stOk] using h⟩
    | lst h _ => exact .inr ⟨_, .lst h, rfl, rfl, rfl, fun _ z e => nomatch e⟩
    | tup h hs => exact .inl ⟨_, _, _, rfl, rfl, h, hs⟩
  · subst e; subst e2
    exact .inr ⟨_, .dct h, rfl, rfl, rfl, fun _ z e => nomatch e⟩
/-- a while with what is not seen -/
theorem while_gh {α : Type} (μ : α → Nat) (Iv : α → St → Hp → Prop) {c : TT} {tb : TS} {D : Ends} {σ : St} {H : Hp} (a0 : α) (h0 : Iv a0 σ H)
    (hs : ∀ a σ H, Iv a σ H → c σ H fun b H1 => if b = true then ∃ N : St → Hp → Prop, (∀ σ' H', N σ' H' → ∃ m', m' < μ a ∧ ∃ a', m' = μ a' ∧ Iv a' σ' H') ∧ tb { D with nx := N, ct := N, bk := D.nx } σ H1 else D.nx σ H1) : tWhile c tb D σ H :=
  ⟨fun m σ H => ∃ a, m = μ a ∧ Iv a σ H, ⟨_, a0, rfl, h0⟩, fun m σ H ⟨a, e, i⟩ => by subst e; exact hs a σ H i⟩
theorem goN {α : Type} {μ : α → Nat} {Iv : α → St → Hp → Prop} {a : α} : ∀ (σ' : St) (H' : Hp), (∃ a', μ a' < μ a ∧ Iv a' σ' H') → ∃ m', m' < μ a ∧ ∃ a', m' = μ a' ∧ Iv a' σ' H' := fun _ _ ⟨a', l, i⟩ => ⟨_, l, a', rfl, i⟩
section
variable {P : Program} {w : World} {K : PySem.W.Frag} {mg : Str → Option Value} {base : Heap} {f : Addr} {fd : FuncData}
/-! ### has_text -/
def spHasText (K : PySem.W.Frag) : Sp := fun vs H Q _ => ∃ v d, vs = [v] ∧ Dx K H v d ∧ cnt d ≤ 2500000 ∧ stOk d = true ∧ ∀ H', Same H H' → Q (.bl (good d)) H'
theorem units_lt {k : Nat} {A : Around} (r : Room k A) : A.units < cLine := by have := r.un; omega
theorem ok_has_text (m : Fx mg) (GL : Has P w K mg base CX0 2 "is_lone" ["value"] (spLone K)) (F : FnP K dHasText f fd) : FnOk P w K mg base CX0 3 f fd ["value"] (spHasText K) := by
  refine F.ok scHasText (fun vs H Q E h => ?_) (fun cdv A outer s H vs Q E hr h => ?_)
  · obtain ⟨v, d, rfl, _⟩ := h
    rfl
  refine ⟨_, PSs.nox (pss_cons (ps_set (i := 1) scHasText.nd rfl (Or.inl rfl) (pe_lst (pa_cons (pv 0) pa_nil)))
    (pss_cons (ps_while PassesOwn.never (tcm (op_neL0 (units_lt hr)) (pv 1) (pe_lst pa_nil))
      (pss_cons (ps_set (i := 2) scHasText.nd rfl (Or.inl rfl) (pe_bm0 PySem.F.plainAttrs_list PySem.F.slot_list_pop PySem.F.type_list_pop mt_pop (pv 1)))
      (pss_one (ps_if (pt_val (pisi m.isi m.tuple (pv 2))) (pss_one (ps_expr (pe_bm PySem.F.plainAttrs_list PySem.F.slot_list_extend PySem.F.type_list_extend mt_extendT (pv 1) (pa_cons (pv 2) pa_nil))))
        (pss_one (ps_if (pt_not (pt_val (pc GL hr (pa_cons (pv 2) pa_nil)))) (pss_one (ps_ret pe_bl)) pss_nil))))))
    (pss_one (ps_ret pe_bl)))), ?_⟩
  obtain ⟨v, d, rfl, hd, hc, hst, q⟩ := h
  refine ⟨_, rfl, by show 1 ≤ sizeLine; decide, fun l hl => ?_⟩
  refine while_gh (fun ds : List PyData => cnts ds) (fun ds σ H' => ∃ xs x2, σ = [some v, some (.ref l), x2] ∧ Same H H' ∧ H' l = some (.lst xs) ∧ DxAll K H xs ds ∧ good d = goods ds ∧ cnts ds ≤ 2500000 ∧ stOks ds = true) [d] ⟨[v], none, rfl, same_upd hl _, upd_same, .cons hd .nil, by simp [goods], by simpa [cnts] using hc, by simpa [stOks] using hst⟩ (fun ds σ H' hi => ?_)
  obtain ⟨xs, x2, rfl, k, e, hx, hg, hcn, hss⟩ := hi
  refine ⟨_, rfl, (by show 0 ≤ sizeLine; decide), fun e0 he0 => ⟨l, e0, xs, [], rfl, rfl, SqL.of (by rw [upd_ne (ne_of_none e he0)]; exact e), SqL.of upd_same, rfl, _, rfl, ?_⟩⟩
  have k1 := k.trans (same_upd he0 (.lst []))
  have el : upd H' e0 (.lst []) l = some (.lst xs) := by rw [upd_ne (ne_of_none e he0)]; exact e
  generalize upd H' e0 (.lst []) = H1 at k1 el
  by_cases hxs : xs = []
  · subst hxs
    cases hx
    refine ifF rfl ?_
    have z := q H1 k1
    rw [hg] at z
    exact z
  · refine ifT (by cases xs with | nil => exact absurd rfl hxs | cons a b => rfl) ⟨_, goN, ?_⟩
    obtain ⟨u, c, ds', rfl, ex, eat, hu, hx'⟩ := hx.snoc hxs
    refine ⟨_, rfl, .inl ⟨rfl, _, SqL.of el⟩, l, xs, u, rfl, rfl, el, eat, ?_⟩
    have k2 : Same H (upd H1 l (.lst xs.dropLast)) := fun b o z => by rw [upd_ne (ne_of_none z hl)]; exact k1 _ _ z
    have el2 : upd H1 l (.lst xs.dropLast) l = some (.lst xs.dropLast) := upd_same
    generalize upd H1 l (.lst xs.dropLast) = H2 at k2 el2
    rw [goods_append] at hg
    rw [cnts_append] at hcn
    rw [stOks_append] at hss
    have hss1 : stOks ds' = true ∧ stOk c = true := by simpa [stOks] using hss
    rcases hu.cases with ⟨a, ys, cs, rfl, rfl, hT, hcs⟩ | ⟨T, ty, ht, hl1, hc1, hz⟩
    · refine ⟨_, rfl, _, _, _, _, _, rfl, isi (Knd.tup (SqT.mono k2 hT)) (by decide) ⟨_, rfl, ?_⟩⟩
      have n1 := len_cnts ds'
      have n2 := len_cnts cs
      have n3 := hx'.len
      have n4 := dps_len hcs
      simp only [cnts, cnt] at hcn
      refine ⟨_, rfl, .inl ⟨rfl, _, SqL.of el2⟩, _, rfl, l, a, _, ys, rfl, rfl, el2, SqT.mono k2 hT, by rw [sizeLine_eq]; omega, ?_⟩
      refine ⟨ds' ++ cs, by rw [cnts_append, cnts_append]; simp only [cnts, cnt]; omega, _, _, rfl, fun b o z => by rw [upd_ne (ne_of_none z hl)]; exact k2 _ _ z, upd_same, hx'.append (dxs_of hcs), ?_, by rw [cnts_append]; omega, by rw [stOks_append, hss1.1]; simpa [stOk] using hss1.2⟩
      rw [hg, goods_append]
      simp [goods, good]
    · refine ⟨_, rfl, _, _, _, _, _, rfl, isi (ty.mono k2) (by decide) ⟨_, rfl, ?_⟩⟩
      refine ifF ht ⟨_, rfl, _, _, rfl, ty.mono k2, hz hss1.2, fun H3 k3 => ⟨_, rfl, ?_⟩⟩
      cases hlone : isLone u with
      | false =>
        have z := q H3 (k2.trans k3)
        rw [hg, goods, ← hl1, hlone, Bool.false_and, Bool.and_false] at z
        exact z
      | true =>
        refine ⟨ds', by rw [cnts_append]; simp only [cnts, hc1]; omega, _, _, rfl, k2.trans k3, k3 _ _ el2, hx', ?_, by omega, hss1.1⟩
        rw [hg, goods, ← hl1, hlone]
        simp [goods]
end
end K16W
end
section
set_option Elab.async false
set_option linter.all false
set_option maxRecDepth 100000
set_option maxHeartbeats 4000000
namespace K16W
open PySem PySem.Spec PyProof.Rows L2 K16R K16T K16D TL K16 SX
mutual
/-- ints below 10 ^ 640 -/
def smI : PyData → Bool
  | .int i => decide (i.toNat < 10 ^ 640)
  | .tuple xs => smIs xs
  | _ => true
def smIs : List PyData → Bool
  | [] => true
  | x :: xs => smI x && smIs xs
end
/-- what is pending: a SHUT, a value -/
inductive SgAll (K : PySem.W.Frag) (H : Hp) : List V → List (Option PyData) → Prop
  | nil : SgAll K H [] []
  | shut {vs : List V} {ts : List (Option PyData)} : SgAll K H vs ts → SgAll K H (.non :: vs) (none :: ts)
  | cons {v : V} {vs : List V} {d : PyData} {ts : List (Option PyData)} : Dp K H v d → good d = true → smI d = true → stOk d = true → SgAll K H vs ts → SgAll K H (v :: vs) (some d :: ts)
def sgO : Option PyData → List (List Nat)
  | none => [[41]]
  | some d => toks d
def msO : Option PyData → Nat
  | none => 1
  | some d => 2 * cnt d
def mss (ts : List (Option PyData)) : Nat := (ts.map msO).sum
theorem sg_len {K : PySem.W.Frag} {H : Hp} {vs : List V} {ts : List (Option PyData)} (h : SgAll K H vs ts) : vs.length ≤ mss ts := by
  induction h with
  | nil => exact Nat.zero_le _
  | shut _ ih =>
    simp only [mss, List.map_cons, List.sum_cons, List.length_cons, msO] at ih ⊢
    omega
  | @cons v vs d ts _ _ _ _ _ ih =>
    have := cnt_pos d
    simp only [mss, List.map_cons, List.sum_cons, List.length_cons, msO] at ih ⊢
    omega
theorem sg_app {K : PySem.W.Frag} {H : Hp} : ∀ {vs : List V} {ds : List PyData} {us : List V} {ts : List (Option PyData)}, DpAll K H vs ds → goods ds = true → smIs ds = true → stOks ds = true → SgAll K H us ts → SgAll K H (vs ++ us) (ds.map some ++ ts)
  | _, _, _, _, .nil, _, _, _, h => h
  | _, _, _, _, .cons a b, h1, h2, h3, h => by
    simp only [goods, smIs, stOks, Bool.and_eq_true] at h1 h2 h3
    exact .cons a h1.1 h2.1 h3.1 (sg_app b h1.2 h2.2 h3.2 h)
theorem toksA_flat : ∀ ds : List PyData, (ds.map some).flatMap sgO = toksA ds
  | [] => rfl
  | d :: ds => by
    rw [List.map_cons, List.flatMap_cons, toksA_flat ds]
    rfl
theorem mss_app (ds : List PyData) (ts : List (Option PyData)) : mss (ds.map some ++ ts) = 2 * cnts ds + mss ts := by
  induction ds with
  | nil => simp [cnts]
  | cons d ds ih =>
    simp only [mss, List.map_cons, List.cons_append, List.sum_cons, msO, cnts] at ih ⊢
    omega
section
variable {P : Program} {w : World} {K : PySem.W.Frag} {mg : Str → Option Value} {base : Heap} {f : Addr} {fd : FuncData}
/-! ### signs_of -/
def strL (ls : List (List Nat)) : List V := (ls.map S).map V.str
def spSigns (K : PySem.W.Frag) : Sp := fun vs H Q _ => ∃ v d, vs = [v] ∧ Dp K H v d ∧ good d = true ∧ smI d = true ∧ stOk d = true ∧ cnt d ≤ 2500000 ∧ ∀ H' p, Same H H' → H p = none → H' p = some (.lst (strL (toks d))) → Q (.ref p) H'
theorem ok_signs (m : Fx mg) (GF : Has P w K mg base CX0 1 "figures_of" ["number"] spFiguresOf) (F : FnP K dSignsOf f fd) : FnOk P w K mg base CX0 2 f fd ["value"] (spSigns K) := by
  refine F.ok scSignsOf (fun vs H Q E h => ?_) (fun cdv A outer s H vs Q E hr h => ?_)
  · obtain ⟨v, d, rfl, _⟩ := h
    rfl
  obtain ⟨tO, hO, _, _⟩ := m.open_
  obtain ⟨tS, hS, _, _⟩ := m.shut
  refine ⟨_, PSs.nox (pss_cons (ps_par (i := 1) (j := 2) rfl scSignsOf.nd rfl rfl (by decide) rfl rfl (pa_cons (pe_lst (pa_cons (pv 0) pa_nil)) (pa_cons (pe_lst pa_nil) pa_nil)) rfl)
    (pss_cons (ps_while PassesOwn.never (tcm (op_neL0 (units_lt hr)) (pv 1) (pe_lst pa_nil))
      (pss_cons (ps_set (i := 3) scSignsOf.nd rfl (Or.inl rfl) (pe_bm0 PySem.F.plainAttrs_list PySem.F.slot_list_pop PySem.F.type_list_pop mt_pop (pv 1)))
      (pss_one (ps_if (tcm op_isN (pv 3) pe_non) (pss_one (ps_expr (pe_bm PySem.F.plainAttrs_list PySem.F.slot_list_append PySem.F.type_list_append mt_append (pv 2) (pa_cons (pgS hS) pa_nil))))
        (pss_one (ps_if (pt_val (pisi m.isi m.tuple (pv 3)))
          (pss_cons (ps_expr (pe_bm PySem.F.plainAttrs_list PySem.F.slot_list_append PySem.F.type_list_append mt_append (pv 2) (pa_cons (pgS hO) pa_nil)))
            (pss_cons (ps_expr (pe_bm PySem.F.plainAttrs_list PySem.F.slot_list_append PySem.F.type_list_append mt_append (pv 1) (pa_cons pe_non pa_nil)))
            (pss_one (ps_expr (pe_bm PySem.F.plainAttrs_list PySem.F.slot_list_extend PySem.F.type_list_extend mt_extendT (pv 1) (pa_cons (pe_revT (pv 3)) pa_nil))))))
          (pss_one (ps_expr (pe_bm PySem.F.plainAttrs_list PySem.F.slot_list_append PySem.F.type_list_append mt_append (pv 2) (pa_cons (pe_ifExp (pt_val (pisi m.isi m.str (pv 3))) (pv 3) (pc GF hr (pa_cons (pv 3) pa_nil))) pa_nil))))))))))
    (pss_one (ps_ret (pv 2))))), ?_⟩
  obtain ⟨v, d, rfl, hd, hg, hs, hst, hc, q⟩ := h
  refine ⟨_, rfl, by show 1 ≤ sizeLine; decide, fun l hl => ⟨by show 0 ≤ sizeLine; decide, fun r hr0 => ⟨_, _, rfl, ?_⟩⟩⟩
  have hlr : l ≠ r := fun e => by rw [e, upd_same] at hr0; cases hr0
  have hr1 : H r = none := by rw [← hr0, upd_ne (Ne.symm hlr)]
  have sm : ∀ {n : Nat}, n ≤ 5000001 → n ≤ sizeLine := fun h => by rw [sizeLine_eq]; omega
  refine while_gh mss (fun ts σ H' => ∃ xs done x3, σ = [some v, some (.ref l), some (.ref r), x3] ∧ Same H H' ∧ H' l = some (.lst xs) ∧ H' r = some (.lst (strL done)) ∧ SgAll K H xs.reverse ts ∧ toks d = done ++ ts.flatMap sgO ∧ done.length + mss ts ≤ 5000000) [some d]
    ⟨[v], [], none, rfl, (same_upd hl _).trans (same_upd hr0 _), by rw [upd_ne hlr, upd_same], upd_same, .cons hd hg hs hst .nil, by simp [sgO], by simp [mss, msO]; omega⟩ (fun ts σ H' hi => ?_)
  obtain ⟨xs, dn, x3, rfl, k, el, er, hx, ht, hn⟩ := hi
  refine ⟨_, rfl, (by show 0 ≤ sizeLine; decide), fun e0 he0 => ⟨l, e0, xs, [], rfl, rfl, SqL.of (by rw [upd_ne (ne_of_none el he0)]; exact el), SqL.of upd_same, rfl, _, rfl, ?_⟩⟩
  have k1 := k.trans (same_upd he0 (.lst []))
  have el1 : upd H' e0 (.lst []) l = some (.lst xs) := by rw [upd_ne (ne_of_none el he0)]; exact el
  have er1 : upd H' e0 (.lst []) r = some (.lst (strL dn)) := by rw [upd_ne (ne_of_none er he0)]; exact er
  generalize upd H' e0 (.lst []) = H1 at k1 el1 er1
  by_cases hxs : xs = []
  · subst hxs
    cases hx
    refine ifF rfl ⟨_, rfl, q _ r k1 hr1 ?_⟩
    rw [er1, ht]
    simp
  refine ifT (by cases xs with | nil => exact absurd rfl hxs | cons a b => rfl) ⟨_, goN, ?_⟩
  obtain ⟨u, ex⟩ : ∃ u, xs = xs.dropLast ++ [u] := ⟨xs.getLast hxs, (List.dropLast_concat_getLast hxs).symm⟩
  have eat : xs[xs.length - 1]? = some u := by rw [ex]; simp
  have erv : xs.reverse = u :: xs.dropLast.reverse := by
    conv => lhs; rw [ex]
    rw [List.reverse_append]
    rfl
  rw [erv] at hx
  refine ⟨_, rfl, .inl ⟨rfl, _, SqL.of el1⟩, l, xs, u, rfl, rfl, el1, eat, ?_⟩
  have kl : ∀ (o : HO), Same H (upd H1 l o) := fun o b u z => by rw [upd_ne (ne_of_none z hl)]; exact k1 _ _ z
  have er2 : upd H1 l (.lst xs.dropLast) r = some (.lst (strL dn)) := by rw [upd_ne (Ne.symm hlr)]; exact er1
  have k2 := kl (.lst xs.dropLast)
  have el2 : upd H1 l (.lst xs.dropLast) l = some (.lst xs.dropLast) := upd_same
  generalize upd H1 l (.lst xs.dropLast) = H2 at k2 el2 er2
  have kr : ∀ {H3 : Hp} (o : HO), Same H H3 → Same H (upd H3 r o) := fun o h b u z => by rw [upd_ne (ne_of_none z hr1)]; exact h _ _ z
  have kl3 : ∀ {H3 : Hp} (o : HO), Same H H3 → Same H (upd H3 l o) := fun o h b u z => by rw [upd_ne (ne_of_none z hl)]; exact h _ _ z
  have dl : (strL dn).length = dn.length := by unfold strL; rw [List.length_map, List.length_map]
  have sap : ∀ s : List Nat, strL dn ++ [V.str (S s)] = strL (dn ++ [s]) := fun s => by unfold strL; simp
  have xl : xs.dropLast.length + 1 ≤ mss ts := by
    have := sg_len hx
    rw [List.length_cons, List.length_reverse] at this
    exact this
  generalize xs.dropLast = ys at *
  cases hx with
  | shut hx =>
    refine ⟨_, rfl, rfl, _, rfl, ?_⟩
    refine ⟨_, rfl, .inl ⟨rfl, _, SqL.of er2⟩, r, _, _, rfl, rfl, er2, sm (by omega), ?_⟩
    rename_i ts
    have hm : mss (none :: ts) = 1 + mss ts := by simp [mss, msO]
    refine ⟨ts, by omega, ys, dn ++ [[41]], _, rfl, kr _ k2, by rw [upd_ne hlr]; exact el2, by rw [upd_same]; exact congrArg (fun z => some (HO.lst z)) (sap _), hx, ?_, ?_⟩
    · rw [ht]; simp [sgO]
    · rw [List.length_append]
      show _ + 1 + _ ≤ _
      omega
  | cons hu hgu hsu hstu hx =>
    rename_i c ts
    have hm : mss (some c :: ts) = 2 * cnt c + mss ts := by simp [mss, msO]
    have last : ∀ {H3 : Hp} {x : V} (s : List Nat), Same H H3 → H3 l = some (.lst ys) → toks c = [s] → cnt c = 1 → x = V.str (S s) → ∃ a', mss a' < mss (some c :: ts) ∧ ∃ xs done x3, [some v, some (V.ref l), some (V.ref r), some u] = [some v, some (V.ref l), some (V.ref r), x3] ∧ Same H (upd H3 r (.lst (strL dn ++ [x]))) ∧ upd H3 r (.lst (strL dn ++ [x])) l = some (.lst xs) ∧ upd H3 r (.lst (strL dn ++ [x])) r = some (.lst (strL done)) ∧ SgAll K H xs.reverse a' ∧ toks d = done ++ a'.flatMap sgO ∧ done.length + mss a' ≤ 5000000 := fun {H3 x} s k3 e3 e4 e5 e6 => by
      subst e6
      refine ⟨ts, by rw [hm, e5]; omega, ys, dn ++ [s], _, rfl, kr _ k3, by rw [upd_ne hlr]; exact e3, by rw [upd_same]; exact congrArg (fun z => some (HO.lst z)) (sap _), hx, ?_, ?_⟩
      · rw [ht, List.flatMap_cons, show sgO (some c) = [s] from e4, List.append_assoc]
      · rw [hm, e5] at hn
        rw [List.length_append]
        show _ + 1 + _ ≤ _
        omega
    cases hu with
    | non => cases hgu
    | bl b => cases hgu
    | lst _ _ => cases hgu
    | int i =>
      have hi : 0 ≤ i := by simpa [good] using hgu
      have hs' : i.toNat < 10 ^ 640 := by simpa [smI] using hsu
      refine ⟨_, rfl, rfl, _, rfl, ifF rfl ⟨_, rfl, _, _, _, _, _, rfl, isi (Knd.int i) (by decide) ⟨_, rfl, ifF rfl ?_⟩⟩⟩
      refine ⟨_, rfl, .inl ⟨rfl, _, SqL.of er2⟩, _, rfl, _, _, _, _, _, rfl, isi (Knd.int i) (by decide) ⟨_, rfl, ifF rfl ?_⟩⟩
      refine ⟨_, rfl, i.toNat, by rw [Int.toNat_of_nonneg hi], hs', fun H3 k3 => ?_⟩
      refine ⟨r, _, _, rfl, rfl, k3 _ _ er2, sm (by omega), ?_⟩
      exact last (numL i.toNat) (k2.trans k3) (k3 _ _ el2) rfl rfl rfl
    | str x =>
      refine ⟨_, rfl, rfl, _, rfl, ifF rfl ⟨_, rfl, _, _, _, _, _, rfl, isi (Knd.str x) (by decide) ⟨_, rfl, ifF rfl ?_⟩⟩⟩
      refine ⟨_, rfl, .inl ⟨rfl, _, SqL.of er2⟩, _, rfl, _, _, _, _, _, rfl, isi (Knd.str x) (by decide) ⟨_, rfl, ifT rfl ?_⟩⟩
      refine ⟨_, rfl, r, _, _, rfl, rfl, er2, sm (by omega), ?_⟩
      exact last (tl x) k2 el2 rfl rfl (by rw [show S (tl x) = x from mk_tl x])
    | @tup a zs cs hT hcs =>
      have g1 : goods cs = true := hgu
      have g2 : smIs cs = true := hsu
      have g3 : stOks cs = true := hstu
      have nz := dps_len hcs
      have nc := len_cnts cs
      have hc1 : cnt (.tuple cs) = 1 + cnts cs := rfl
      have xl2 := sg_len hx
      rw [List.length_reverse] at xl2
      rw [hm, hc1] at hn xl
      refine ⟨_, rfl, rfl, _, rfl, ifF rfl ⟨_, rfl, _, _, _, _, _, rfl, isi (Knd.tup (SqT.mono k2 hT)) (by decide) ⟨_, rfl, ifT rfl ?_⟩⟩⟩
      refine ⟨_, rfl, .inl ⟨rfl, _, SqL.of er2⟩, r, _, _, rfl, rfl, er2, sm (by omega), ?_⟩
      have k3 := kr (.lst (strL dn ++ [V.str "("])) k2
      have el3 : upd H2 r (.lst (strL dn ++ [V.str "("])) l = some (.lst ys) := by rw [upd_ne hlr]; exact el2
      have er3 : upd H2 r (.lst (strL dn ++ [V.str "("])) r = some (.lst (strL (dn ++ [[40]]))) := by rw [upd_same]; exact congrArg (fun z => some (HO.lst z)) (sap _)
      refine ⟨_, rfl, .inl ⟨rfl, _, SqL.of el3⟩, l, _, _, rfl, rfl, el3, sm (by omega), ?_⟩
      have k4 := kl3 (.lst (ys ++ [V.non])) k3
      have el4 : upd (upd H2 r (.lst (strL dn ++ [V.str "("]))) l (.lst (ys ++ [V.non])) l = some (.lst (ys ++ [V.non])) := upd_same
      have er4 : upd (upd H2 r (.lst (strL dn ++ [V.str "("]))) l (.lst (ys ++ [V.non])) r = some (.lst (strL (dn ++ [[40]]))) := by rw [upd_ne (Ne.symm hlr)]; exact er3
      generalize upd (upd H2 r (.lst (strL dn ++ [V.str "("]))) l (.lst (ys ++ [V.non])) = H4 at k4 el4 er4
      refine ⟨_, rfl, .inl ⟨rfl, _, SqL.of el4⟩, _, rfl, a, zs, rfl, SqT.mono k4 hT, fun p hp => ?_⟩
      have el5 : upd H4 p (.tup zs.reverse) l = some (.lst (ys ++ [V.non])) := by rw [upd_ne (ne_of_none el4 hp)]; exact el4
      refine ⟨l, p, _, zs.reverse, rfl, rfl, el5, SqT.of upd_same, sm (by rw [List.length_append, List.length_reverse]; show _ + 1 + _ ≤ _; omega), ?_⟩
      refine ⟨cs.map some ++ none :: ts, ?_, (ys ++ [V.non]) ++ zs.reverse, dn ++ [[40]], _, rfl, kl3 _ (k4.trans (same_upd hp _)), upd_same, ?_, ?_, ?_, ?_⟩
      · rw [mss_app, hm, hc1]
        simp only [mss, List.map_cons, List.sum_cons, msO]
        omega
      · rw [upd_ne (Ne.symm hlr), upd_ne (ne_of_none er4 hp)]
        exact er4
      · rw [List.reverse_append, List.reverse_append, List.reverse_reverse]
        exact sg_app hcs g1 g2 g3 (.shut hx)
      · rw [ht, List.flatMap_cons, List.flatMap_append, toksA_flat, List.flatMap_cons]
        show dn ++ (([40] :: (toksA cs ++ [[41]])) ++ _) = _
        simp [sgO]
      · rw [mss_app, List.length_append]
        simp only [mss, List.map_cons, List.sum_cons, msO] at hn ⊢
        show _ + 1 + _ ≤ _
        omega
/-! ### text_of_thing -/
def pieces : List Nat → List (List Nat) → List (List Nat)
  | _, [] => []
  | a, s :: r => (if a = [40] ∨ s = [41] then s else 32 :: s) :: pieces s r
def lastT : PyData → List Nat
  | .tuple _ => [41]
  | d => txt d
theorem pc_leaf {v : PyData} (hg : good v = true) (ht : isTup v = false) (a : List Nat) (rest : List (List Nat)) : (pieces a (toks v ++ rest)).flatten = (if a = [40] then [] else [32]) ++ txt v ++ (pieces (txt v) rest).flatten := by
  obtain ⟨h1, h2, h3, h4⟩ := lone_leaf hg ht
  rw [h1]
  show (pieces a (txt v :: rest)).flatten = _
  simp only [pieces, List.flatten_cons]
  by_cases h : a = [40]
  · rw [if_pos (.inl h), if_pos h]
    rfl
  · rw [if_neg (fun q => q.elim h h4), if_neg h]
    rfl
theorem last_ne {v : PyData} (hg : good v = true) : lastT v ≠ [40] := by
  cases v with
  | tuple xs => intro e; cases e
  | int i => exact (lone_leaf hg rfl).2.2.1
  | str x => exact (lone_leaf hg rfl).2.2.1
  | _ => cases hg
mutual
theorem pc_val : ∀ (v : PyData) (a : List Nat) (rest : List (List Nat)), good v = true → (pieces a (toks v ++ rest)).flatten = (if a = [40] then [] else [32]) ++ txt v ++ (pieces (lastT v) rest).flatten
  | .int i, a, rest, hg => pc_leaf hg rfl a rest
  | .str x, a, rest, hg => pc_leaf hg rfl a rest
  | .tuple xs, a, rest, hg => by
    show (pieces a ([40] :: ((toksA xs ++ [[41]]) ++ rest))).flatten = _
    have e : pieces a ([40] :: ((toksA xs ++ [[41]]) ++ rest)) = (if a = [40] then [40] else [32, 40]) :: pieces [40] ((toksA xs ++ [[41]]) ++ rest) := by
      simp only [pieces]
      by_cases h : a = [40]
      · rw [if_pos (.inl h), if_pos h]
      · rw [if_neg (fun q => q.elim h (by decide)), if_neg h]
    rw [e, List.flatten_cons, List.append_assoc, pc_first xs ([[41]] ++ rest) hg]
    have e2 : (pieces (if xs = [] then [40] else lastT (xs.getLastD .none)) ([[41]] ++ rest)).flatten = [41] ++ (pieces [41] rest).flatten := by
      show (pieces _ ([41] :: rest)).flatten = _
      simp only [pieces, List.flatten_cons, or_true, if_true]
    rw [e2]
    show _ = _ ++ (40 :: (txts xs ++ [41])) ++ _
    by_cases h : a = [40] <;> simp [h, lastT]
  | .none, _, _, hg => by cases hg
  | .bool _, _, _, hg => by cases hg
  | .list _, _, _, hg => by cases hg
  | .dict _, _, _, hg => by cases hg
theorem pc_first : ∀ (xs : List PyData) (rest : List (List Nat)), goods xs = true → (pieces [40] (toksA xs ++ rest)).flatten = txts xs ++ (pieces (if xs = [] then [40] else lastT (xs.getLastD .none)) rest).flatten
  | [], rest, _ => rfl
  | x :: xs, rest, h => by
    simp only [goods, Bool.and_eq_true] at h
    show (pieces [40] ((toks x ++ toksA xs) ++ rest)).flatten = _
    rw [List.append_assoc, pc_val x [40] (toksA xs ++ rest) h.1, if_pos rfl, pc_rest xs x rest h.1 h.2, if_neg (by simp)]
    show _ = (txt x ++ txtr xs) ++ _
    simp
theorem pc_rest : ∀ (xs : List PyData) (v : PyData) (rest : List (List Nat)), good v = true → goods xs = true → (pieces (lastT v) (toksA xs ++ rest)).flatten = txtr xs ++ (pieces (lastT ((v :: xs).getLastD .none)) rest).flatten
  | [], v, rest, _, _ => rfl
  | x :: xs, v, rest, hv, h => by
    simp only [goods, Bool.and_eq_true] at h
    show (pieces (lastT v) ((toks x ++ toksA xs) ++ rest)).flatten = _
    rw [List.append_assoc, pc_val x (lastT v) (toksA xs ++ rest) h.1, if_neg (last_ne hv), pc_rest xs x rest h.1 h.2]
    show _ = (32 :: (txt x ++ txtr xs)) ++ _
    simp
end
theorem pc_txt {v : PyData} (hg : good v = true) : (pieces [40] (toks v)).flatten = txt v := by
  have := pc_val v [40] [] hg
  simpa [pieces] using this
theorem pieces_app : ∀ (s : List (List Nat)) (a : List Nat) (x : List Nat), pieces a (s ++ [x]) = pieces a s ++ [if (a :: s).getLastD [] = [40] ∨ x = [41] then x else 32 :: x]
  | [], a, x => rfl
  | y :: s, a, x => by
    show _ :: pieces y (s ++ [x]) = _
    rw [pieces_app s y x]
    rfl
theorem piece_le : ∀ (l : List (List Nat)) (a s : List Nat), s ∈ l → s.length ≤ (pieces a l).flatten.length
  | [], _, _, h => by cases h
  | y :: l, a, s, h => by
    simp only [pieces, List.flatten_cons, List.length_append]
    rcases List.mem_cons.mp h with e | h
    · subst e
      split
      · omega
      · simp only [List.length_cons]; omega
    · have := piece_le l y s h
      omega
theorem pieces_len : ∀ (s : List (List Nat)) (a : List Nat), (pieces a s).length = s.length
  | [], _ => rfl
  | y :: s, a => congrArg (· + 1) (pieces_len s y)
mutual
theorem toks_len : ∀ v : PyData, (toks v).length ≤ 2 * cnt v
  | .int i => by simp [toks, cnt]
  | .str x => by simp [toks, cnt]
  | .tuple xs => by
    have := toksA_len xs
    simp only [toks, cnt, List.length_cons, List.length_append, List.length_nil]
    omega
  | .none | .bool _ | .list _ | .dict _ => by simp [toks]
theorem toksA_len : ∀ xs : List PyData, (toksA xs).length ≤ 2 * cnts xs
  | [] => by simp [toksA]
  | x :: xs => by
    have := toks_len x
    have := toksA_len xs
    simp only [toksA, cnts, List.length_append]
    omega
end
def spTextOf (K : PySem.W.Frag) : Sp := fun vs H Q _ => ∃ v d, vs = [v] ∧ Dp K H v d ∧ good d = true ∧ smI d = true ∧ stOk d = true ∧ cnt d ≤ 2500000 ∧ (txt d).length ≤ 8000000 ∧ ∀ H', Same H H' → Q (.str (S (txt d))) H'
theorem ok_text_of (m : Fx mg) (GS : Has P w K mg base CX0 2 "signs_of" ["value"] (spSigns K)) (F : FnP K dTextOfThing f fd) : FnOk P w K mg base CX0 3 f fd ["value"] (spTextOf K) := by
  refine F.ok scTextOfThing (fun vs H Q E h => ?_) (fun cdv A outer s H vs Q E hr h => ?_)
  · obtain ⟨v, d, rfl, _⟩ := h
    rfl
  obtain ⟨tO, hO, _, _⟩ := m.open_
  obtain ⟨tS, hS, _, _⟩ := m.shut
  obtain ⟨tB, hB⟩ := m.blank
  refine ⟨_, PSs.nox (pss_cons (ps_par (i := 1) (j := 2) rfl scTextOfThing.nd rfl rfl (by decide) rfl rfl (pa_cons (pe_lst pa_nil) (pa_cons (pgS hO) pa_nil)) rfl)
    (pss_cons (ps_for PassesOwn.never rfl (pi_list (pc GS hr (pa_cons (pv 0) pa_nil))) (pg_name (i := 3) scTextOfThing.nd rfl (Or.inl rfl))
      (pss_cons (ps_expr (pe_bm PySem.F.plainAttrs_list PySem.F.slot_list_append PySem.F.type_list_append mt_append (pv 1) (pa_cons
        (pe_ifExp (pw_or (tcm op_eq (pv 2) (pgS hO)) (pw_or1 (tcm op_eq (pv 3) (pgS hS)))).pt (pv 3) (pe_op op_add_str (pgS hB) (pv 3))) pa_nil)))
      (pss_one (ps_set (i := 2) scTextOfThing.nd rfl (Or.inl rfl) (pv 3)))))
    (pss_one (ps_ret (pe_join pe_str (pv 1)))))), ?_⟩
  obtain ⟨v, d, rfl, hd, hg, hs, hst, hc, hl, q⟩ := h
  refine ⟨by show 0 ≤ sizeLine; decide, fun r hr0 => ⟨_, _, rfl, ?_⟩⟩
  have k0 := same_upd hr0 (.lst [])
  refine ⟨_, rfl, v, d, rfl, dp_mono k0 hd, hg, hs, hst, hc, fun H1 p k1 hp ep => ⟨p, rfl, ⟨_, SqL.of ep⟩, ?_⟩⟩
  have k01 := k0.trans k1
  have hpr : p ≠ r := fun e => by rw [e, upd_same] at hp; cases hp
  have hn : (toks d).length ≤ 5000000 := by have := toks_len d; omega
  have ll : (strL (toks d)).length = (toks d).length := by unfold strL; rw [List.length_map, List.length_map]
  refine for_list (xs := strL (toks d)) (fun i σ H' => ∃ x3, σ = [some v, some (.ref r), some (.str (S (([40] :: (toks d).take i).getLastD []))), x3] ∧ Same H H' ∧ H' p = some (.lst (strL (toks d))) ∧ H' r = some (.lst (strL (pieces [40] ((toks d).take i)))))
    ⟨none, rfl, k01, ep, k1 _ _ upd_same⟩ (fun i σ H' _ hi => SqL.of hi.choose_spec.2.2.1) (fun i x σ H' hx hi => ?_) (fun σ H' hi => ?_)
  · obtain ⟨x3, rfl, k, e1, e2⟩ := hi
    obtain ⟨s, hs1, rfl⟩ : ∃ s, (toks d)[i]? = some s ∧ x = V.str (S s) := by
      unfold strL at hx
      rw [List.getElem?_map, List.getElem?_map] at hx
      cases h1 : (toks d)[i]? with
      | none => rw [h1] at hx; cases hx
      | some s => rw [h1] at hx; cases hx; exact ⟨s, rfl, rfl⟩
    have ilt : i < (toks d).length := (List.getElem?_eq_some_iff.mp hs1).1
    have tk : (toks d).take (i + 1) = (toks d).take i ++ [s] := by
      rw [List.take_succ, hs1]
      rfl
    have glast : ([40] :: (toks d).take (i + 1)).getLastD [] = s := by
      rw [tk]
      show (([40] :: (toks d).take i) ++ [s]).getLastD [] = s
      exact List.getLastD_concat
    have hr1 : H r = none := hr0
    have kr : ∀ (o : HO), Same H (upd H' r o) := fun o b u z => by rw [upd_ne (ne_of_none z hr1)]; exact k _ _ z
    have sz : (strL (pieces [40] ((toks d).take i))).length < sizeLine := by
      unfold strL
      rw [List.length_map, List.length_map, pieces_len, List.length_take, sizeLine_eq]
      omega
    have ne2 : ∀ o, upd H' r o p = some (.lst (strL (toks d))) := fun o => by rw [upd_ne hpr]; exact e1
    have sa : ∀ y : List Nat, strL (pieces [40] ((toks d).take i)) ++ [V.str (S y)] = strL (pieces [40] ((toks d).take i) ++ [y]) := fun y => by unfold strL; simp
    have eqs : ∀ y z : List Nat, decide (V.str (S y) = V.str (S z)) = decide (y = z) := fun y z => by
      by_cases h : y = z
      · rw [decide_eq_true h, h]
        exact decide_eq_true rfl
      · rw [decide_eq_false h]
        exact decide_eq_false fun q => h (by injection q with q; exact congrArg tl q)
    have fin : ∀ y : List Nat, y = (if ([40] :: (toks d).take i).getLastD [] = [40] ∨ s = [41] then s else 32 :: s) → upd H' r (.lst (strL (pieces [40] ((toks d).take i)) ++ [V.str (S y)])) r = some (.lst (strL (pieces [40] ((toks d).take (i + 1))))) := fun y hy => by
      rw [upd_same, sa, tk, pieces_app, hy]
    have stt : ∀ y3, [some v, some (V.ref r), some (V.str (S s)), y3] = [some v, some (V.ref r), some (V.str (S (([40] :: (toks d).take (i + 1)).getLastD []))), y3] := fun y3 => by rw [glast]
    refine ⟨_, rfl, .inl ⟨rfl, _, SqL.of e2⟩, _, rfl, rfl, _, rfl, ?_⟩
    show if decide (V.str (S (([40] :: (toks d).take i).getLastD [])) = V.str (S [40])) = true then _ else _
    rw [eqs]
    by_cases h1 : ([40] :: (toks d).take i).getLastD [] = [40]
    · refine ifT (decide_eq_true h1) (ifT rfl ⟨_, rfl, r, _, _, rfl, rfl, e2, sz, _, rfl, _, stt _, kr _, ne2 _, fin s ?_⟩)
      rw [if_pos (.inl h1)]
    · refine ifF (decide_eq_false h1) ⟨_, rfl, rfl, _, rfl, ?_⟩
      show if decide (V.str (S s) = V.str (S [41])) = true then _ else _
      rw [eqs]
      by_cases h2 : s = [41]
      · refine ifT (decide_eq_true h2) ⟨_, rfl, r, _, _, rfl, rfl, e2, sz, _, rfl, _, stt _, kr _, ne2 _, fin s ?_⟩
        rw [if_pos (.inr h2)]
      · refine ifF (decide_eq_false h2) ⟨_, rfl, _, _, rfl, rfl, ?_, r, _, _, rfl, rfl, e2, sz, _, rfl, _, stt _, kr _, ne2 _, ?_⟩
        · have hm := piece_le (toks d) [40] s (List.mem_of_getElem? hs1)
          rw [pc_txt hg] at hm
          have e1 : ((" " : Str)).length = 1 := rfl
          have e2 : (S s).length = s.length := by rw [len_tl, tl_S]
          rw [e1, e2, sizeLine_eq]
          omega
        · have z := fin (32 :: s) (by rw [if_neg (fun q => q.elim h1 h2)])
          have e : (" " : Str) ++ S s = S (32 :: s) := ext_tl (by rw [tl_append]; rfl)
          show upd H' r (.lst (strL (pieces [40] ((toks d).take i)) ++ [V.str ((" " : Str) ++ S s)])) r = _
          rw [e]
          exact z
  · obtain ⟨x3, rfl, k, e1, e2⟩ := hi
    rw [ll, List.take_length] at e2
    refine ⟨⟨_, rfl⟩, _, rfl, S [], r, (pieces [40] (toks d)).map S, rfl, rfl, .inl (SqL.of e2), ?_, ?_⟩
    · rw [List.map_map, sumS, pc_txt hg]
      show _ + _ * 0 ≤ _
      omega
    · have z := q H' k
      rw [join_S, joinL_nil, pc_txt hg]
      exact z
/-! ### lone_in -/
def optL {α : Type} : Option α → List α
  | none => []
  | some x => [x]
def spLoneIn (K : PySem.W.Frag) : Sp := fun vs H Q _ => ∃ z : Str, vs = [.str z] ∧ z.length ≤ sizeLine ∧ ((tl z).all isFig = true → (tl z).length ≤ 640) ∧ ∀ H' p xs, Same H H' → H p = none → H' p = some (.lst xs) → (∀ H2, DpAll K H2 xs (optL (loneIn (tl z)))) → Q (.ref p) H'
theorem ok_lone_in (GL : Has P w K mg base CX0 1 "is_letters" ["value"] (spLetters K)) (GF : Has P w K mg base CX0 1 "is_figures" ["text"] (spFigures K)) (GW : Has P w K mg base CX0 1 "whole_of" ["figures"] spWholeOf) (F : FnP K dLoneIn f fd) : FnOk P w K mg base CX0 2 f fd ["word"] (spLoneIn K) := by
  refine F.ok scLoneIn (fun vs H Q E h => ?_) (fun cdv A outer s H vs Q E hr h => ?_)
  · obtain ⟨z, rfl, _⟩ := h
    rfl
  refine ⟨_, PSs.nox (pss_cons (ps_if (pt_val (pc GL hr (pa_cons (pv 0) pa_nil))) (pss_one (ps_ret (pe_lst (pa_cons (pv 0) pa_nil)))) pss_nil)
    (pss_one (ps_ret (pe_ifExp (pt_val (pc GF hr (pa_cons (pv 0) pa_nil))) (pe_lst (pa_cons (pc GW hr (pa_cons (pv 0) pa_nil)) pa_nil)) (pe_lst pa_nil))))), ?_⟩
  obtain ⟨z, rfl, hz, hfl, q⟩ := h
  refine ⟨_, rfl, _, _, rfl, .str z, fun y e => (by cases e; exact hz), fun H1 k1 => ⟨_, rfl, ?_⟩⟩
  show if wordL (tl z) = true then _ else _
  have one : (1 : Nat) ≤ sizeLine := by decide
  refine ite2 (fun c => ?_) (fun c => ?_)
  · refine ⟨_, rfl, one, fun p hp => q _ p [.str z] (k1.trans (same_upd hp _)) (k1.free hp) upd_same fun H2 => ?_⟩
    unfold loneIn
    rw [if_pos c, mk_tl]
    exact .cons (.str z) .nil
  · refine ⟨_, rfl, z, rfl, hz, fun H2 k2 => ⟨_, rfl, ?_⟩⟩
    refine ite2 (fun c2 => ?_) (fun c2 => ?_)
    · have c3 : figsL (tl z) = true := c2
      unfold figsL at c3
      simp only [Bool.and_eq_true, decide_eq_true_eq] at c3
      refine ⟨_, rfl, z, rfl, c3.1.2, c3.1.1, hfl c3.1.2, one, fun p hp => q _ p _ (k1.trans (k2.trans (same_upd hp _))) (k1.free (k2.free hp)) upd_same fun H3 => ?_⟩
      unfold loneIn
      rw [if_neg c, if_pos c2]
      exact .cons (.int _) .nil
    · refine ⟨by show 0 ≤ sizeLine; decide, fun p hp => q _ p _ (k1.trans (k2.trans (same_upd hp _))) (k1.free (k2.free hp)) upd_same fun H3 => ?_⟩
      unfold loneIn
      rw [if_neg c, if_neg c2]
      exact .nil
end
end K16W
end
section
set_option Elab.async false
set_option linter.all false
set_option maxRecDepth 100000
set_option maxHeartbeats 4000000
namespace K16
open PySem TL K16W
/-! ### how great what is read is -/
def sumL (ls : List (List Nat)) : Nat := (ls.map List.length).sum
theorem sumL_app (a b : List (List Nat)) : sumL (a ++ b) = sumL a + sumL b := by simp [sumL]
def WInv (n : Nat) (st : List (List Nat) × List Nat) : Prop := sumL st.1 + st.2.length ≤ n ∧ ∀ w ∈ st.1, w ≠ []
theorem wstep_inv {n : Nat} {st : List (List Nat) × List Nat} (h : WInv n st) (c : Nat) : WInv (n + 1) (wstep st c) := by
  obtain ⟨h1, h2⟩ := h
  unfold wstep
  split
  · split
    · exact ⟨by omega, h2⟩
    · rename_i hne
      refine ⟨?_, fun w hw => ?_⟩
      · show sumL (st.1 ++ [st.2]) + 0 ≤ _
        rw [sumL_app]
        simp [sumL] at h1 ⊢
        omega
      · rcases List.mem_append.mp hw with z | z
        · exact h2 w z
        · rw [List.mem_singleton.mp z]; exact hne
  · refine ⟨?_, h2⟩
    show sumL st.1 + (st.2 ++ [c]).length ≤ _
    rw [List.length_append, List.length_singleton]
    omega
theorem wfold_inv : ∀ (s : List Nat) (n : Nat) (st : List (List Nat) × List Nat), WInv n st → WInv (n + s.length) (s.foldl wstep st)
  | [], n, st, h => h
  | c :: r, n, st, h => by
    have := wfold_inv r (n + 1) (wstep st c) (wstep_inv h c)
    rw [List.length_cons, show n + (r.length + 1) = n + 1 + r.length by omega]
    exact this
theorem words_sum (s : List Nat) : sumL (wfin (s.foldl wstep ([], []))) ≤ s.length ∧ ∀ w ∈ wfin (s.foldl wstep ([], [])), w ≠ [] := by
  have h := wfold_inv s 0 ([], []) ⟨Nat.zero_le _, fun w hw => by cases hw⟩
  generalize s.foldl wstep ([], []) = st at h
  obtain ⟨h1, h2⟩ := h
  unfold wfin
  split
  · exact ⟨by omega, h2⟩
  · rename_i hne
    refine ⟨by rw [sumL_app]; simp [sumL] at h1 ⊢; omega, fun w hw => ?_⟩
    rcases List.mem_append.mp hw with z | z
    · exact h2 w z
    · rw [List.mem_singleton.mp z]; exact hne
theorem len_sumL : ∀ ls : List (List Nat), (∀ w ∈ ls, w ≠ []) → ls.length ≤ sumL ls
  | [], _ => Nat.zero_le _
  | x :: r, h => by
    have := len_sumL r fun w hw => h w (List.mem_cons_of_mem _ hw)
    have := List.length_pos_iff.mpr (h x List.mem_cons_self)
    simp only [sumL, List.map_cons, List.sum_cons, List.length_cons] at *
    omega
theorem mem_sumL : ∀ (ls : List (List Nat)) (w : List Nat), w ∈ ls → w.length ≤ sumL ls
  | x :: r, w, h => by
    simp only [sumL, List.map_cons, List.sum_cons]
    rcases List.mem_cons.mp h with e | h
    · subst e; omega
    · have := mem_sumL r w h
      simp only [sumL] at this
      omega
theorem spaced_len (s : List Nat) : (spaced s).length ≤ 3 * s.length := by
  rw [spaced_map]
  induction s with
  | nil => simp
  | cons c r ih =>
    rw [List.flatMap_cons, List.length_append, List.length_cons]
    have : (sp1 c).length ≤ 3 := by
      unfold sp1
      split
      · decide
      · split
        · decide
        · show 1 ≤ 3
          decide
    omega
/-! #### a value's words -/
def stT : List (List PyData) → List (List Nat)
  | [] => []
  | [l] => toksA l
  | l :: r => stT r ++ [40] :: toksA l
theorem toksA_app : ∀ a b : List PyData, toksA (a ++ b) = toksA a ++ toksA b
  | [], b => rfl
  | x :: a, b => by
    show toks x ++ toksA (a ++ b) = (toks x ++ toksA a) ++ toksA b
    rw [toksA_app a b, List.append_assoc]
theorem lone_toks {w : List Nat} {d : PyData} (h : loneIn w = some d) : toks d = [w] := by
  unfold loneIn at h
  split at h
  · cases h; rfl
  · split at h
    · rename_i hf
      cases h
      unfold figsL at hf
      simp only [Bool.and_eq_true, decide_eq_true_eq] at hf
      show [numL ((NumText.digitsVal w : Nat) : Int).toNat] = _
      rw [Int.toNat_natCast, num_val hf.1.1 hf.1.2 hf.2]
    · cases h
theorem stT_snoc (top : List PyData) (r : List (List PyData)) (d : PyData) : stT ((top ++ [d]) :: r) = stT (top :: r) ++ toks d := by
  cases r with
  | nil =>
    show toksA (top ++ [d]) = toksA top ++ toks d
    rw [toksA_app]
    show _ ++ (toks d ++ []) = _
    rw [List.append_nil]
  | cons n r =>
    show stT (n :: r) ++ [40] :: toksA (top ++ [d]) = (stT (n :: r) ++ [40] :: toksA top) ++ toks d
    rw [toksA_app]
    show _ ++ [40] :: (toksA top ++ (toks d ++ [])) = _
    simp
theorem stepV_toks {st st' : List (List PyData)} {w : List Nat} (hne : st ≠ []) (h : stepV st w = some st') : st' ≠ [] ∧ stT st' = stT st ++ [w] := by
  unfold stepV at h
  split at h
  · rename_i e
    cases h
    refine ⟨by simp, ?_⟩
    cases st with
    | nil => exact absurd rfl hne
    | cons a r =>
      show stT (a :: r) ++ [40] :: toksA [] = _
      rw [e]
      rfl
  · split at h
    · rename_i e
      split at h
      · rename_i top nxt r
        cases h
        refine ⟨by simp, ?_⟩
        rw [stT_snoc, e]
        show stT (nxt :: r) ++ ([40] :: (toksA top ++ [[41]])) = (stT (nxt :: r) ++ [40] :: toksA top) ++ [[41]]
        simp
      · cases h
    · split at h
      · rename_i d hd
        split at h
        · rename_i top r
          cases h
          refine ⟨by simp, ?_⟩
          rw [stT_snoc, lone_toks hd]
        · cases h
      · cases h
theorem runV_toks' : ∀ (ws : List (List Nat)) (st st' : List (List PyData)), st ≠ [] → runV ws st = some st' → st' ≠ [] ∧ stT st' = stT st ++ ws
  | [], st, st', hne, h => by cases h; exact ⟨hne, by rw [List.append_nil]⟩
  | w :: r, st, st', hne, h => by
    obtain ⟨st1, e1, e2⟩ := Option.bind_eq_some_iff.mp (show (stepV st w).bind (runV r) = some st' from h)
    obtain ⟨n1, t1⟩ := stepV_toks hne e1
    obtain ⟨n2, t2⟩ := runV_toks' r st1 st' n1 e2
    exact ⟨n2, by rw [t2, t1, List.append_assoc]; rfl⟩
theorem value_toks {ws : List (List Nat)} {d : PyData} (h : valueIn ws = some d) : toks d = ws := by
  obtain ⟨st, e1, e2⟩ := Option.bind_eq_some_iff.mp h
  obtain ⟨_, t⟩ := runV_toks' ws [[]] st (by simp) e1
  split at e2
  · cases e2
    have t2 : toksA [d] = ws := t
    rw [← t2]
    show _ = toks d ++ []
    rw [List.append_nil]
  · cases e2
mutual
theorem cnt_toks : ∀ d : PyData, good d = true → cnt d ≤ (toks d).length
  | .int i, _ => by simp [cnt, toks]
  | .str x, _ => by simp [cnt, toks]
  | .tuple xs, h => by
    have := cnts_toks xs h
    simp only [cnt, toks, List.length_cons, List.length_append, List.length_nil]
    omega
  | .none, h => by cases h
  | .bool _, h => by cases h
  | .list _, h => by cases h
  | .dict _, h => by cases h
theorem cnts_toks : ∀ xs : List PyData, goods xs = true → cnts xs ≤ (toksA xs).length
  | [], _ => Nat.zero_le _
  | x :: xs, h => by
    simp only [goods, Bool.and_eq_true] at h
    have := cnt_toks x h.1
    have := cnts_toks xs h.2
    simp only [cnts, toksA, List.length_append]
    omega
end
theorem pieces_sum : ∀ (l : List (List Nat)) (a : List Nat), (pieces a l).flatten.length ≤ sumL l + l.length
  | [], _ => by simp [pieces]
  | y :: l, a => by
    have := pieces_sum l y
    simp only [pieces, List.flatten_cons, List.length_append, sumL, List.map_cons, List.sum_cons, List.length_cons] at this ⊢
    split
    · omega
    · simp only [List.length_cons]; omega
mutual
theorem sm_toks : ∀ d : PyData, good d = true → (∀ u ∈ toks d, u.all isFig = true → u.length ≤ 640) → smI d = true ∧ stOk d = true
  | .int i, hg, h => by
    refine ⟨?_, rfl⟩
    have hall : (numL i.toNat).all isFig = true := List.all_eq_true.mpr fun c hc => fig_of_num hc
    have hl := h (numL i.toNat) (by simp [toks]) hall
    have := val_lt _ (numL i.toNat) rfl hall
    rw [numL_val] at this
    exact decide_eq_true (Nat.lt_of_lt_of_le this (Nat.pow_le_pow_right (by decide) hl))
  | .str x, hg, h => by
    refine ⟨rfl, ?_⟩
    have hw : wordL (tl x) = true := hg
    unfold wordL at hw
    simp only [Bool.and_eq_true, decide_eq_true_eq] at hw
    refine decide_eq_true ?_
    rw [len_tl, sizeLine_eq]
    omega
  | .tuple xs, hg, h => sms_toks xs hg fun u hu => h u (by simp only [toks, List.mem_cons, List.mem_append]; exact .inr (.inl hu))
  | .none, h, _ => by cases h
  | .bool _, h, _ => by cases h
  | .list _, h, _ => by cases h
  | .dict _, h, _ => by cases h
theorem sms_toks : ∀ xs : List PyData, goods xs = true → (∀ u ∈ toksA xs, u.all isFig = true → u.length ≤ 640) → smIs xs = true ∧ stOks xs = true
  | [], _, _ => ⟨rfl, rfl⟩
  | x :: xs, hg, h => by
    simp only [goods, Bool.and_eq_true] at hg
    obtain ⟨a1, a2⟩ := sm_toks x hg.1 fun u hu => h u (List.mem_append_left _ hu)
    obtain ⟨b1, b2⟩ := sms_toks xs hg.2 fun u hu => h u (List.mem_append_right _ hu)
    simp [smIs, stOks, a1, a2, b1, b2]
end
/-- all at once, for a text of at most n signs -/
theorem read_bounds {s : List Nat} (hs : s.length ≤ 800000) : (wordsOf s).length ≤ 2400000 ∧ (∀ u ∈ wordsOf s, u.length ≤ 2400000) ∧
    ((∀ u ∈ wordsOf s, u.all isFig = true → u.length ≤ 640) → ∀ d, valueIn (wordsOf s) = some d → good d = true ∧ cnt d ≤ 2400000 ∧ smI d = true ∧ stOk d = true ∧ (txt d).length ≤ 4800000) := by
  have h3 := spaced_len s
  obtain ⟨w1, w2⟩ := words_sum (spaced s)
  have w3 := len_sumL _ w2
  refine ⟨?_, fun u hu => ?_, fun hf d hd => ?_⟩
  · show (wfin _).length ≤ _
    omega
  · have := mem_sumL _ u hu
    show u.length ≤ _
    have e : wordsOf s = wfin ((spaced s).foldl wstep ([], [])) := rfl
    rw [e] at this
    omega
  · have hg := value_good hd
    have ht := value_toks hd
    have a1 := cnt_toks d hg
    have a2 := pieces_sum (toks d) [40]
    rw [pc_txt hg, ht] at a2
    rw [ht] at a1
    have e : wordsOf s = wfin ((spaced s).foldl wstep ([], [])) := rfl
    rw [e] at a1 a2
    obtain ⟨b1, b2⟩ := sm_toks d hg (by rw [ht]; exact hf)
    exact ⟨hg, by omega, b1, b2, by omega⟩
end K16
end
section
set_option Elab.async false
set_option linter.all false
set_option maxRecDepth 100000
set_option maxHeartbeats 4000000
namespace K16W
open PySem PySem.Spec PyProof.Rows L2 K16R K16T K16D TL K16 SX
/-! ### good data, where only tuples are kept -/
def TupO : HO → Prop
  | .tup _ => True
  | .frz _ (.tup _) => True
  | _ => False
def SameT (H H' : Hp) : Prop := ∀ b o, TupO o → H b = some o → H' b = some o
theorem SameT.of {H H' : Hp} (k : Same H H') : SameT H H' := fun b o _ e => k b o e
theorem SameT.trans {H H1 H2 : Hp} (a : SameT H H1) (b : SameT H1 H2) : SameT H H2 := fun c o t h => b c o t (a c o t h)
theorem SameT.lst {H : Hp} {l : Addr} {xs : List V} (o : HO) (e : H l = some (.lst xs)) : SameT H (upd H l o) := fun b u t q => by
  by_cases h : b = l
  · subst h
    rw [e] at q
    cases q
    cases t
  · rw [upd_ne h]
    exact q
theorem SqT.monoT {K : PySem.W.Frag} {H H' : Hp} {a : Addr} {xs : List V} (k : SameT H H') (h : SqT K H a xs) : SqT K H' a xs := by
  rcases h with (h | ⟨o, h⟩) | h
  · exact .inl (.inl (k _ _ (show TupO (.tup xs) from True.intro) h))
  · exact .inl (.inr ⟨o, k _ _ (show TupO (.frz o (.tup xs)) from True.intro) h⟩)
  · exact .inr h
mutual
theorem dp_monoT' {K : PySem.W.Frag} {H H' : Hp} (k : SameT H H') : ∀ {v : V} {d : PyData}, Dp K H v d → good d = true → Dp K H' v d
  | _, _, .non, _ => .non
  | _, _, .bl b, _ => .bl b
  | _, _, .int i, _ => .int i
  | _, _, .str x, _ => .str x
  | _, _, .lst _ _, h => by cases h
  | _, _, .tup a hs, h => .tup (SqT.monoT k a) (dps_monoT' k hs h)
theorem dps_monoT' {K : PySem.W.Frag} {H H' : Hp} (k : SameT H H') : ∀ {vs : List V} {ds : List PyData}, DpAll K H vs ds → goods ds = true → DpAll K H' vs ds
  | _, _, .nil, _ => .nil
  | _, _, .cons a hs, h => by
    simp only [goods, Bool.and_eq_true] at h
    exact .cons (dp_monoT' k a h.1) (dps_monoT' k hs h.2)
end
theorem dp_monoT {K : PySem.W.Frag} {H H' : Hp} (k : SameT H H') {v : V} {d : PyData} (h : good d = true) (a : Dp K H v d) : Dp K H' v d := dp_monoT' k a h
theorem dps_monoT {K : PySem.W.Frag} {H H' : Hp} (k : SameT H H') {vs : List V} {ds : List PyData} (h : goods ds = true) (a : DpAll K H vs ds) : DpAll K H' vs ds := dps_monoT' k a h
theorem dps_app {K : PySem.W.Frag} {H : Hp} : ∀ {vs us : List V} {ds es : List PyData}, DpAll K H vs ds → DpAll K H us es → DpAll K H (vs ++ us) (ds ++ es)
  | _, _, _, _, .nil, h => h
  | _, _, _, _, .cons a b, h => .cons a (dps_app b h)
/-- the open ones, the innermost first -/
inductive Stk (K : PySem.W.Frag) (H0 H : Hp) (B : Nat) : List Addr → List (List PyData) → Prop
  | nil : Stk K H0 H B [] []
  | cons {l : Addr} {ls : List Addr} {xs : List V} {ds : List PyData} {st : List (List PyData)} : H0 l = none → H l = some (.lst xs) → DpAll K H xs ds → goods ds = true → xs.length ≤ B → l ∉ ls → Stk K H0 H B ls st → Stk K H0 H B (l :: ls) (ds :: st)
theorem Stk.mono {K : PySem.W.Frag} {H0 H H' : Hp} {B C : Nat} {ls : List Addr} {st : List (List PyData)} (h : Stk K H0 H B ls st) (bc : B ≤ C) (k : SameT H H') (kl : ∀ l ∈ ls, H' l = H l) : Stk K H0 H' C ls st := by
  induction h with
  | nil => exact .nil
  | cons a b c d e f g ih => exact .cons a (by rw [kl _ List.mem_cons_self]; exact b) (dps_monoT k d c) d (Nat.le_trans e bc) f (ih fun l hl => kl l (List.mem_cons_of_mem _ hl))
theorem Stk.len {K : PySem.W.Frag} {H0 H : Hp} {B : Nat} {ls : List Addr} {st : List (List PyData)} (h : Stk K H0 H B ls st) : ls.length = st.length := by
  induction h with
  | nil => rfl
  | cons _ _ _ _ _ _ _ ih => exact congrArg (· + 1) ih
theorem Stk.at {K : PySem.W.Frag} {H0 H : Hp} {B : Nat} {ls : List Addr} {st : List (List PyData)} (h : Stk K H0 H B ls st) : ∀ l ∈ ls, H0 l = none ∧ ∃ xs, H l = some (.lst xs) := by
  induction h with
  | nil => exact fun l hl => by cases hl
  | cons a b _ _ _ _ _ ih =>
    intro l hl
    rcases List.mem_cons.mp hl with e | e
    · subst e; exact ⟨a, _, b⟩
    · exact ih l e
def oneOf : List (List PyData) → Option PyData
  | [[v]] => some v
  | _ => none
def refs (ls : List Addr) : List V := ls.map V.ref
theorem refs_snoc (l : Addr) (ls : List Addr) : refs (l :: ls).reverse = refs ls.reverse ++ [.ref l] := by unfold refs; simp
/-- what stands at each turn -/
def Pvi (K : PySem.W.Frag) (H : Hp) (a oo : Addr) (ws : List (List Nat)) (i : Nat) (σ : St) (H' : Hp) : Prop :=
  ∃ x2 x3 ls st, σ = [some (.ref a), some (.ref oo), x2, x3] ∧ Same H H' ∧ H' oo = some (.lst (refs ls.reverse)) ∧ oo ∉ ls ∧ runV (ws.take i) [[]] = some st ∧ Stk K H H' i ls st ∧ ls.length ≤ i + 1 ∧ ls ≠ []
theorem pv_tail {K : PySem.W.Frag} {H H3 : Hp} {a oo l : Addr} {ws : List (List Nat)} {i : Nat} {y2 y3 : Option V} {ls : List Addr} {top : List PyData} {st : List (List PyData)} {xs : List V} {x : V} {d : PyData} (ho : H oo = none) (k : Same H H3) (eo : H3 oo = some (.lst (refs (l :: ls).reverse))) (hno : oo ∉ l :: ls) (hst : Stk K H H3 i (l :: ls) (top :: st))
    (el : H3 l = some (.lst xs)) (hx : Dp K H3 x d) (hg : good d = true) (run : runV (ws.take (i + 1)) [[]] = some ((top ++ [d]) :: st)) (hl : (l :: ls).length ≤ i + 2) : Pvi K H a oo ws (i + 1) [some (.ref a), some (.ref oo), y2, y3] (upd H3 l (.lst (xs ++ [x]))) := by
  have kt : SameT H3 (upd H3 l (.lst (xs ++ [x]))) := SameT.lst _ el
  cases hst with
  | cons h0 e1 hd gd hb hn hs =>
    rw [el] at e1
    cases e1
    refine ⟨y2, y3, l :: ls, _, rfl, fun b u z => by rw [upd_ne (ne_of_none z h0)]; exact k _ _ z, ?_, hno, run, .cons h0 upd_same (dps_app (dps_monoT kt gd hd) (.cons (dp_monoT kt hg hx) .nil)) ?_ ?_ hn (hs.mono (Nat.le_succ i) kt fun l' hl' => ?_), hl, by simp⟩
    · rw [upd_ne (fun e => hno (by rw [e]; exact List.mem_cons_self))]
      exact eo
    · rw [goods_append, gd]
      simp [goods, hg]
    · rw [List.length_append]
      show _ + 1 ≤ _
      omega
    · exact upd_ne (fun e => hn (by rw [← e]; exact hl'))
section
variable {P : Program} {w : World} {K : PySem.W.Frag} {mg : Str → Option Value} {base : Heap} {f : Addr} {fd : FuncData}
def spValueIn (K : PySem.W.Frag) : Sp := fun vs H Q _ => ∃ (a : Addr) (ws : List (List Nat)), vs = [.ref a] ∧ SqL K H a (strL ws) ∧ ws.length ≤ 3000000 ∧ (∀ u ∈ ws, u.length ≤ 10000000 ∧ (u.all isFig = true → u.length ≤ 640)) ∧
  ∀ H' p xs, Same H H' → H p = none → H' p = some (.lst xs) → DpAll K H' xs (optL (valueIn ws)) → Q (.ref p) H'
theorem ok_value_in (m : Fx mg) (GL : Has P w K mg base CX0 2 "lone_in" ["word"] (spLoneIn K)) (F : FnP K dValueIn f fd) : FnOk P w K mg base CX0 3 f fd ["words"] (spValueIn K) := by
  refine F.ok scValueIn (fun vs H Q E h => ?_) (fun cdv A outer s H vs Q E hr h => ?_)
  · obtain ⟨a, ws, rfl, _⟩ := h
    rfl
  obtain ⟨tO, hO, _, _⟩ := m.open_
  obtain ⟨tS, hS, _, _⟩ := m.shut
  refine ⟨_, PSs.nox (pss_cons (ps_set (i := 1) scValueIn.nd rfl (Or.inl rfl) (pe_lst (pa_cons (pe_lst pa_nil) pa_nil)))
    (pss_cons (ps_for PassesOwn.never rfl (pi_list (pv 0)) (pg_name (i := 2) scValueIn.nd rfl (Or.inl rfl))
      (pss_cons (ps_if (tcm op_eq (pv 2) (pgS hO)) (pss_cons (ps_expr (pe_bm PySem.F.plainAttrs_list PySem.F.slot_list_append PySem.F.type_list_append mt_append (pv 1) (pa_cons (pe_lst pa_nil) pa_nil))) (pss_one ps_continue)) pss_nil)
      (pss_cons (ps_if (pw_and (tcm op_eq (pv 2) (pgS hS)) (pw_and1 (tcm op_lt (pb call_len_seq m.len (pa_cons (pv 1) pa_nil)) pe_int))).pt (pss_one (ps_ret (pe_lst pa_nil))) pss_nil)
      (pss_cons (ps_set (i := 3) scValueIn.nd rfl (Or.inl rfl) (pe_ifExp (tcm op_eq (pv 2) (pgS hS)) (pe_lst (pa_cons (pty call_tuple_of m.tuple (pa_cons (pe_bm0 PySem.F.plainAttrs_list PySem.F.slot_list_pop PySem.F.type_list_pop mt_pop (pv 1)) pa_nil)) pa_nil)) (pc GL hr (pa_cons (pv 2) pa_nil))))
      (pss_cons (ps_if (tcm (op_eqL0 (units_lt hr)) (pv 3) (pe_lst pa_nil)) (pss_one (ps_ret (pe_lst pa_nil))) pss_nil)
      (pss_one (ps_expr (pe_bm PySem.F.plainAttrs_list PySem.F.slot_list_extend PySem.F.type_list_extend mt_extend (pe_ix ix_list (pv 1) (pe_un un_neg pe_int) (fun _ _ => rfl)) (pa_cons (pv 3) pa_nil)))))))))
    (pss_one (ps_ret (pe_ifExp (pw_and (tcm op_eq (pb call_len_seq m.len (pa_cons (pv 1) pa_nil)) pe_int) (pw_and1 (tcm op_eq (pb call_len_seq m.len (pa_cons (pe_ix ix_list (pv 1) pe_int (fun _ _ => rfl)) pa_nil)) pe_int))).pt
      (pe_ix ix_list (pv 1) pe_int (fun _ _ => rfl)) (pe_lst pa_nil)))))), ?_⟩
  obtain ⟨a, ws, rfl, hS0, hn, hw, q⟩ := h
  have z0 : (0 : Nat) ≤ sizeLine := Nat.zero_le _
  have z1 : (1 : Nat) ≤ sizeLine := by decide
  refine ⟨z0, fun l0 hl0 => ⟨z1, fun oo hoo => ?_⟩⟩
  have hlo : l0 ≠ oo := fun e => by rw [e, upd_same] at hoo; cases hoo
  have hoo1 : H oo = none := by rw [← hoo, upd_ne (Ne.symm hlo)]
  have sll : (strL ws).length = ws.length := by unfold strL; rw [List.length_map, List.length_map]
  have ap : ∀ i, i < ws.length → ∀ u, ws[i]? = some u → ws.take (i + 1) = ws.take i ++ [u] := fun i hi u hu => by rw [List.take_succ, hu]; rfl
  have dead : ∀ i, i ≤ ws.length → runV (ws.take i) [[]] = none → valueIn ws = none := fun i hi h => by
    unfold valueIn
    have e : runV ws [[]] = none := by
      rw [← List.take_append_drop i ws, runV_append, h]
      rfl
    rw [e]
    rfl
  have empty : valueIn ws = none → ∀ (H2 : Hp), Same H H2 → (0 : Nat) ≤ sizeLine ∧ ∀ p, H2 p = none → Q (.ref p) (upd H2 p (.lst [])) := fun e H2 k => ⟨z0, fun p hp => q _ p [] (k.trans (same_upd hp _)) (k.free hp) upd_same (by rw [e]; exact .nil)⟩
  have eqs : ∀ y z : List Nat, decide (V.str (S y) = V.str (S z)) = decide (y = z) := fun y z => by
    by_cases h : y = z
    · rw [decide_eq_true h, h]
      exact decide_eq_true rfl
    · rw [decide_eq_false h]
      exact decide_eq_false fun q => h (by injection q with q; exact congrArg tl q)
  refine ⟨_, rfl, a, rfl, ⟨_, ((same_upd hl0 _).trans (same_upd hoo _)).seq hS0⟩, ?_⟩
  refine for_list (xs := strL ws) (Pvi K H a oo ws)
    ⟨none, none, [l0], [[]], rfl, (same_upd hl0 _).trans (same_upd hoo _), upd_same, by simpa using Ne.symm hlo, rfl, .cons hl0 (by rw [upd_ne hlo, upd_same]) .nil rfl (Nat.le_refl _) (by simp) .nil, by simp, by simp⟩
    (fun i σ H' _ hi => by obtain ⟨_, _, _, _, _, k, _⟩ := hi; exact k.seq hS0) (fun i x σ H' hx hi => ?_) (fun σ H' hi => ?_)
  · obtain ⟨x2, x3, ls, st, rfl, k, eo, hno, hrun, hst, hll, hne⟩ := hi
    obtain ⟨u, hu, rfl⟩ : ∃ u, ws[i]? = some u ∧ x = V.str (S u) := by
      unfold strL at hx
      rw [List.getElem?_map, List.getElem?_map] at hx
      cases h1 : ws[i]? with
      | none => rw [h1] at hx; cases hx
      | some s => rw [h1] at hx; cases hx; exact ⟨s, rfl, rfl⟩
    have ilt : i < ws.length := (List.getElem?_eq_some_iff.mp hu).1
    have run1 : runV (ws.take (i + 1)) [[]] = stepV st u := by
      rw [ap i ilt u hu, runV_append, hrun]
      show (stepV st u).bind (runV []) = _
      cases stepV st u <;> rfl
    obtain ⟨hwl, hwf⟩ := hw u (List.mem_of_getElem? hu)
    have rl : (refs ls.reverse).length = ls.length := by unfold refs; rw [List.length_map, List.length_reverse]
    have e40 : decide (V.str (S u) = V.str "(") = decide (u = [40]) := eqs u [40]
    have e41 : decide (V.str (S u) = V.str ")") = decide (u = [41]) := eqs u [41]
    have lsl : ls.length ≤ 3000001 := by omega
    refine ⟨_, rfl, rfl, _, rfl, ?_⟩
    by_cases h40 : u = [40]
    · refine ifT (e40.trans (decide_eq_true h40)) ?_
      refine ⟨_, rfl, .inl ⟨rfl, _, SqL.of eo⟩, z0, fun l hl => ?_⟩
      have hlo2 : l ≠ oo := fun e => by rw [e, eo] at hl; cases hl
      have eo1 : upd H' l (.lst []) oo = some (.lst (refs ls.reverse)) := by rw [upd_ne (Ne.symm hlo2)]; exact eo
      refine ⟨oo, _, _, rfl, rfl, eo1, by rw [rl, sizeLine_eq]; omega, ?_⟩
      have hl1 := k.free hl
      have kt : SameT H' (upd (upd H' l (.lst [])) oo (.lst (refs ls.reverse ++ [.ref l]))) := (SameT.of (same_upd hl _)).trans (SameT.lst _ eo1)
      have lnew : ∀ l' ∈ ls, l' ≠ l := fun l' hl' e => by
        obtain ⟨_, xs, q⟩ := hst.at l' hl'
        rw [e, hl] at q
        cases q
      refine ⟨_, x3, l :: ls, [] :: st, rfl, fun b o z => ?_, ?_, ?_, ?_, .cons hl1 ?_ .nil rfl (Nat.zero_le _) (fun z => lnew l z rfl) (hst.mono (Nat.le_succ i) kt fun l' hl' => ?_), ?_, by simp⟩
      · rw [upd_ne (ne_of_none z hoo1), upd_ne (ne_of_none z hl1)]
        exact k _ _ z
      · rw [upd_same, refs_snoc]
      · intro z
        rcases List.mem_cons.mp z with e | e
        · exact hlo2 e.symm
        · exact hno e
      · rw [run1, h40]
        rfl
      · rw [upd_ne hlo2, upd_same]
      · rw [upd_ne (fun e => hno (by rw [← e]; exact hl')), upd_ne (lnew l' hl')]
      · show ls.length + 1 ≤ _
        omega
    · refine ifF (e40.trans (decide_eq_false h40)) ⟨_, rfl, rfl, _, rfl, ?_⟩
      by_cases h41 : u = [41]
      · refine ifT (e41.trans (decide_eq_true h41)) ⟨_, rfl, oo, _, rfl, .inl (SqL.of eo), _, _, rfl, rfl, _, rfl, ?_⟩
        match ls, st, hst, hne with
        | [l], [top], hst, _ =>
          refine ifT (decide_eq_true (by rw [rl]; show ((1 : Nat) : Int) < 2; decide)) (empty (dead (i + 1) (by omega) ?_) H' k)
          rw [run1, h41]
          rfl
        | l :: l2 :: ls2, top :: nxt :: st2, hst, _ =>
          refine ifF (decide_eq_false (by rw [rl]; simp only [List.length_cons]; omega)) ⟨_, rfl, rfl, _, rfl, ifT (e41.trans (decide_eq_true h41)) ?_⟩
          have eo' := eo
          rw [refs_snoc] at eo'
          cases hst with
          | @cons _ _ xs _ _ h0 el hd gd hb hn hst2 =>
            have hno2 : oo ∉ l2 :: ls2 := fun z => hno (List.mem_cons_of_mem _ z)
            have hlo2 : l ≠ oo := fun e => hno (by rw [e]; exact List.mem_cons_self)
            refine ⟨_, rfl, .inl ⟨rfl, _, SqL.of eo'⟩, oo, _, .ref l, rfl, rfl, eo', by simp, ?_⟩
            have k1 : Same H (upd H' oo (.lst (refs (l2 :: ls2).reverse ++ [V.ref l]).dropLast)) := fun b o z => by rw [upd_ne (ne_of_none z hoo1)]; exact k _ _ z
            have t1 : SameT H' (upd H' oo (.lst (refs (l2 :: ls2).reverse ++ [V.ref l]).dropLast)) := SameT.lst _ eo'
            have o1 : upd H' oo (.lst (refs (l2 :: ls2).reverse ++ [V.ref l]).dropLast) oo = some (.lst (refs (l2 :: ls2).reverse)) := by rw [upd_same, List.dropLast_concat]
            have c1 : ∀ b, b ≠ oo → upd H' oo (.lst (refs (l2 :: ls2).reverse ++ [V.ref l]).dropLast) b = H' b := fun b e => upd_ne e
            generalize upd H' oo (.lst (refs (l2 :: ls2).reverse ++ [V.ref l]).dropLast) = G1 at k1 t1 o1 c1
            refine ⟨l, xs, rfl, .inl ⟨SqL.of (by rw [c1 l hlo2]; exact el), fun t ht => ⟨z1, fun p hp => ?_⟩⟩⟩
            refine ⟨_, rfl, z0, fun e0 he0 => ?_⟩
            have s12 : Same G1 (upd (upd (upd G1 t (.tup xs)) p (.lst [V.ref t])) e0 (.lst [])) := (same_upd ht _).trans ((same_upd hp _).trans (same_upd he0 _))
            have pt : upd (upd (upd G1 t (.tup xs)) p (.lst [V.ref t])) e0 (.lst []) t = some (.tup xs) := by
              have a1 : upd G1 t (.tup xs) t = some (.tup xs) := upd_same
              have a2 := same_upd hp (.lst [V.ref t]) _ _ a1
              exact same_upd he0 (.lst []) _ _ a2
            have pp : upd (upd (upd G1 t (.tup xs)) p (.lst [V.ref t])) e0 (.lst []) p = some (.lst [V.ref t]) := same_upd he0 (.lst []) _ _ upd_same
            refine ⟨p, e0, [V.ref t], [], rfl, rfl, SqL.of pp, SqL.of upd_same, rfl, _, rfl, ifF rfl ?_⟩
            generalize upd (upd (upd G1 t (.tup xs)) p (.lst [V.ref t])) e0 (.lst []) = G2 at s12 pt pp
            have o2 := s12 _ _ o1
            have t2 := t1.trans (SameT.of s12)
            have hst3 : Stk K H G2 i (l2 :: ls2) (nxt :: st2) := hst2.mono (Nat.le_refl _) t2 fun l' hl' => by
              obtain ⟨_, ys, q⟩ := hst2.at l' hl'
              have e1 : l' ≠ oo := fun e => hno2 (by rw [← e]; exact hl')
              rw [s12 _ _ (by rw [c1 l' e1]; exact q), q]
            have o3 := o2
            rw [refs_snoc] at o3
            obtain ⟨_, xs2, el2⟩ := hst3.at l2 List.mem_cons_self
            have hb2 : xs2.length ≤ i := by
              cases hst3 with
              | cons _ e1 _ _ hb2 _ _ =>
                rw [el2] at e1
                cases e1
                exact hb2
            refine ⟨_, rfl, 1, rfl, oo, _, _, .ref l2, rfl, rfl, SqL.of o3, atI_last _ _, .inl ⟨rfl, _, SqL.of el2⟩, _, rfl, l2, p, xs2, [V.ref t], rfl, rfl, el2, pp, by rw [sizeLine_eq]; show _ + 1 ≤ _; omega, ?_⟩
            refine pv_tail hoo1 (k1.trans s12) o2 hno2 hst3 el2 (.tup (SqT.of pt) (dps_monoT t2 gd hd)) (show good (.tuple top) = true from gd) ?_ (by simp only [List.length_cons] at hll ⊢; omega)
            rw [run1, h41]
            rfl
      · refine ifF (e41.trans (decide_eq_false h41)) (ifF rfl ⟨_, rfl, rfl, _, rfl, ifF (e41.trans (decide_eq_false h41)) ?_⟩)
        have lu : (S u).length = u.length := by rw [len_tl, tl_S]
        refine ⟨_, rfl, S u, rfl, by rw [lu, sizeLine_eq]; omega, hwf, fun H1 p xs k1 hp ep hdp => ⟨_, rfl, z0, fun e0 he0 => ?_⟩⟩
        have s12 : Same H' (upd H1 e0 (.lst [])) := k1.trans (same_upd he0 _)
        have pp : upd H1 e0 (.lst []) p = some (.lst xs) := same_upd he0 (.lst []) _ _ ep
        refine ⟨p, e0, xs, [], rfl, rfl, SqL.of pp, SqL.of upd_same, rfl, _, rfl, ?_⟩
        generalize upd H1 e0 (.lst []) = G2 at s12 pp
        have hdp1 := hdp G2
        rw [show tl (S u) = u from rfl] at hdp1
        cases hlone : loneIn u with
        | none =>
          rw [hlone] at hdp1
          have exs : xs = [] := by cases hdp1; rfl
          subst exs
          refine ifT rfl (empty (dead (i + 1) (by omega) ?_) G2 (k.trans s12))
          rw [run1]
          unfold stepV
          rw [if_neg h40, if_neg h41, hlone]
        | some d =>
          rw [hlone] at hdp1
          obtain ⟨x, exs, hxd⟩ : ∃ x, xs = [x] ∧ Dp K G2 x d := by
            cases hdp1 with
            | cons h1 h2 => cases h2; exact ⟨_, rfl, h1⟩
          subst exs
          refine ifF rfl ?_
          match ls, st, hst, hne with
          | l :: ls2, top :: st2, hst, _ =>
            have o2 := s12 _ _ eo
            have hst3 : Stk K H G2 i (l :: ls2) (top :: st2) := hst.mono (Nat.le_refl _) (SameT.of s12) fun l' hl' => by
              obtain ⟨_, ys, q⟩ := hst.at l' hl'
              rw [s12 _ _ q, q]
            have o3 := o2
            rw [refs_snoc] at o3
            obtain ⟨_, xs2, el2⟩ := hst3.at l List.mem_cons_self
            have hb2 : xs2.length ≤ i := by
              cases hst3 with
              | cons _ e1 _ _ hb2 _ _ =>
                rw [el2] at e1
                cases e1
                exact hb2
            refine ⟨_, rfl, 1, rfl, oo, _, _, .ref l, rfl, rfl, SqL.of o3, atI_last _ _, .inl ⟨rfl, _, SqL.of el2⟩, _, rfl, l, p, xs2, [x], rfl, rfl, el2, pp, by rw [sizeLine_eq]; show _ + 1 ≤ _; omega, ?_⟩
            refine pv_tail hoo1 (k.trans s12) o2 hno hst3 el2 hxd (lone_good hlone) ?_ (by omega)
            rw [run1]
            unfold stepV
            rw [if_neg h40, if_neg h41, hlone]
  · obtain ⟨x2, x3, ls, st, rfl, k, eo, hno, hrun, hst, hll, hne⟩ := hi
    rw [sll, List.take_length] at hrun
    have rl : (refs ls.reverse).length = ls.length := by unfold refs; rw [List.length_map, List.length_reverse]
    have val : valueIn ws = oneOf st := by unfold valueIn; rw [hrun]; rfl
    refine ⟨_, rfl, oo, _, rfl, .inl (SqL.of eo), rfl, _, rfl, ?_⟩
    match ls, st, hst, hne with
    | [l], [top], hst, _ =>
      have eo2 : H' oo = some (.lst [V.ref l]) := eo
      cases hst with
      | @cons _ _ xs _ _ h0 el hd gd hb hn hst2 =>
        have tl2 := dps_len hd
        refine ifT (decide_eq_true (by rw [rl]; rfl)) ⟨_, rfl, oo, _, 0, .ref l, rfl, rfl, SqL.of eo2, atI_nat (j := 0) rfl, l, _, rfl, .inl (SqL.of el), rfl, _, rfl, ?_⟩
        match top, tl2, val, hd with
        | [v], tl2, val, hd =>
          refine ifT (decide_eq_true (by rw [tl2]; rfl)) ⟨_, rfl, oo, _, 0, .ref l, rfl, rfl, SqL.of eo2, atI_nat (j := 0) rfl, q H' l xs k h0 el ?_⟩
          rw [val]
          exact hd
        | [], tl2, val, hd => exact ifF (decide_eq_false (by rw [tl2]; intro h; cases h)) (empty val H' k)
        | v :: u :: r, tl2, val, hd => exact ifF (decide_eq_false (by rw [tl2]; intro h; injection h with h; simp only [List.length_cons] at h; omega)) (empty val H' k)
    | l :: l2 :: ls2, top :: nxt :: st2, hst, _ =>
      exact ifF (decide_eq_false (by rw [rl]; intro h; injection h with h; simp only [List.length_cons] at h; omega)) (ifF rfl (empty (by rw [val]; cases top with | nil => rfl | cons h t => cases t <;> rfl) H' k))
end
end K16W
end
section
set_option Elab.async false
set_option linter.all false
set_option maxRecDepth 100000
set_option maxHeartbeats 4000000
namespace K16W
open PySem PySem.Spec PyProof.Rows L2 K16R K16T K16D TL K16 SX
section
variable {P : Program} {w : World} {K : PySem.W.Frag} {mg : Str → Option Value} {base : Heap} {f : Addr} {fd : FuncData}
/-! ### the exception -/
def spInit (K : PySem.W.Frag) : Sp := fun vs H Q _ => ∃ (a : Addr) (v : V), vs = [.ref a, v] ∧ H a = some (exo a (ivC K) none) ∧ ∀ dx, H dx = none → dx ≠ a → Q .non (upd (upd H dx (exd dx [("given", v)])) a (exo a (ivC K) (some dx)))
theorem ok_init (T : OexC K (ivC K)) (hno : PySem.W.findIn K (.ref (ivC K)) "given" = some none) (F : FnP K dInvalidthingInit f fd) : FnOk P w K mg base CX0 1 f fd ["self", "given"] (spInit K) := by
  refine F.ok scInvalidthingInit (fun vs H Q E h => ?_) (fun cdv A outer s H vs Q E hr h => ?_)
  · obtain ⟨a, v, rfl, _⟩ := h
    rfl
  refine ⟨_, PSs.nox (pss_one (ps_ost (pv 0) (pv 1))), ?_⟩
  obtain ⟨a, v, rfl, ha, q⟩ := h
  exact ⟨_, rfl, _, rfl, a, _, rfl, T, hno, .inl ⟨ha, fun dx h1 h2 => q dx h1 h2⟩⟩
/-- what the walks take of the exception -/
structure Ix (P : Program) (w : World) (K : PySem.W.Frag) (mg : Str → Option Value) (base : Heap) : Prop where
  gC : mg "InvalidThing" = some (.ref (ivC K))
  T : OexC K (ivC K)
  no : PySem.W.findIn K (.ref (ivC K)) "given" = some none
  xf : XfC K (ivC K)
  iC : PySem.W.findIn K (.ref (ivC K)) "__init__" = some (some (.ref (ivI K)))
  tI : PySem.W.typeIn K (.ref (ivI K)) = some (.type "function")
  exm : PySem.W.exmOne K (.ref (ivC K)) (.ref (ivC K)) = some true
  init : ∃ fd, FnOk P w K mg base CX0 1 (ivI K) fd ["self", "given"] (spInit K) ∧ Binds K fd ["self", "given"] []
theorem exo_ne_none {H : Hp} {a b : Addr} {o : HO} (h : H a = some o) (h2 : H b = none) : a ≠ b := fun e => by rw [e, h2] at h; cases h
/-- what raise InvalidThing(v) asks, from what the def promises then -/
theorem raiseOk {v : V} {H1 : Hp} {R : Value → Option Addr → Hp → Prop} (q : ∀ H2 d, Same H1 H2 → H1 d = none → H2 d = some (.xd [("given", v)]) → R (.ref (ivC K)) (some d) H2) :
    [v].length ≤ 1000 ∧ ∀ a, H1 a = none → spInit K (.ref a :: ([v] ++ [])) (upd H1 a (exo a (ivC K) none))
      (fun v' H2 => v' = .non ∧ ∃ (d : Addr) (fs : List (Str × V)), H2 a = some (exo a (ivC K) (some d)) ∧ H2 d = some (exd d fs) ∧ H1 d = none ∧ R (.ref (ivC K)) (some d) (upd (del H2 a) d (.xd fs))) (fun _ _ _ => False) := by
  refine ⟨by show 1 ≤ 1000; decide, fun a ha => ⟨a, v, rfl, upd_same, fun dx h1 h2 => ⟨rfl, dx, [("given", v)], upd_same, by rw [upd_ne h2, upd_same], ?_, q _ _ (fun b o z => ?_) ?_ upd_same⟩⟩⟩
  · rw [upd_ne h2] at h1
    exact h1
  · have hd : H1 dx = none := by rw [upd_ne h2] at h1; exact h1
    rw [upd_ne (ne_of_none z hd), del_ne (ne_of_none z ha), upd_ne (ne_of_none z ha), upd_ne (ne_of_none z hd), upd_ne (ne_of_none z ha)]
    exact z
  · rw [upd_ne h2] at h1
    exact h1
/-- raise InvalidThing(e) -/
def tRz (K : PySem.W.Frag) (W : WX) (te : TE) : TS := fun _ σ H => tMkO (ivC K) (spInit K) [] (tCons te tNil) σ H fun cls d H' => W cls d σ H'
theorem praise {X : Cx} {W : WX} {e : Expr} {te : TE} {p p2 pos : Pos} (J : Ix X.prog X.w X.K X.mg X.base) (hc : X.calm = true) (tk : Takes X W) (hr : Room 2 X.A) (he : PE X e te) (hg : Gl X "InvalidThing" := by rfl)
    (hs : starEach (e :: []) X.env = (false, eval e X.env) :: starEach [] X.env := by rfl) (hpl : (backTo p2 (starEach [] X.env)).any (·.1) = false := by rfl) :
    PS X (.Raise (some (.Call (.Name "InvalidThing" p) [e] [] p2)) none pos) (tRz X.K W te) := by
  obtain ⟨fd, F, hb⟩ := J.init
  exact ps_raise (pos := pos) hc tk (pmk_oex J.T J.iC J.tI F hr hb .nil pass0 hg J.gC (pa_cons he pa_nil hs) (by decide) hs hpl)
/-! ### thing_text -/
def spThingText (K : PySem.W.Frag) : Sp := fun vs H Q E => ∃ v d, vs = [v] ∧ Dx K H v d ∧ cnt d ≤ 2500000 ∧ stOk d = true ∧ (good d = true → smI d = true ∧ (txt d).length ≤ 8000000 ∧ ∀ H', Same H H' → Q (.str (S (txt d))) H') ∧
  (good d = false → ∀ H' dd, Same H H' → H dd = none → H' dd = some (.xd [("given", v)]) → E (.ref (ivC K)) (some dd) H')
theorem Dx.good {H : Hp} {v : V} {d : PyData} (h : Dx K H v d) (g : good d = true) : Dp K H v d := h.elim id fun ⟨e, _⟩ => by subst e; cases g
theorem ok_thing_text (J : Ix P w K mg base) (GH : Has P w K mg base CX0 3 "has_text" ["value"] (spHasText K)) (GT : Has P w K mg base CX0 3 "text_of_thing" ["value"] (spTextOf K)) (F : FnP K dThingText f fd) : FnOk P w K mg base (L2.CX P w) 4 f fd ["value"] (spThingText K) := by
  refine F.ok scThingText (fun vs H Q E h => ?_) (fun cdv A outer s H vs Q E hr h => ?_)
  · obtain ⟨v, d, rfl, _⟩ := h
    rfl
  refine ⟨_, pss_cons (ps_if (pt_not (pt_val (pc GH hr (pa_cons (pv 0) pa_nil)))) (pss_one (praise J rfl (takes_of rfl rfl rfl rfl) (hr.mono (by decide)) (pv 0))) pss_nil)
    (pss_one (ps_ret (pc GT hr (pa_cons (pv 0) pa_nil)))), ?_⟩
  obtain ⟨v, d, rfl, hd, hc, hst, q1, q2⟩ := h
  refine ⟨_, rfl, v, d, rfl, hd, hc, hst, fun H1 k1 => ⟨_, rfl, ?_⟩⟩
  cases hg : good d with
  | false => exact ⟨_, rfl, raiseOk fun H2 dd k2 h3 h4 => q2 hg H2 dd (k1.trans k2) (k1.free h3) h4⟩
  | true =>
    obtain ⟨a1, a2, a3⟩ := q1 hg
    exact ⟨_, rfl, v, d, rfl, dp_mono k1 (hd.good hg), hg, a1, hst, hc, a2, fun H2 k2 => a3 H2 (k1.trans k2)⟩
/-! ### read_thing_by -/
def spReadBy (K : PySem.W.Frag) : Sp := fun vs H Q _ => ∃ z : Str, vs = [.str z] ∧ (tl z).length ≤ 800000 ∧ (∀ u ∈ wordsOf (tl z), u.all isFig = true → u.length ≤ 640) ∧
  ∀ H' p xs, Same H H' → H p = none → H' p = some (.lst xs) → DpAll K H' xs (optL (progParsed (tl z))) → Q (.ref p) H'
theorem ok_read_by (m : Fx mg) (GV : Has P w K mg base CX0 3 "value_in" ["words"] (spValueIn K)) (GT : Has P w K mg base CX0 3 "text_of_thing" ["value"] (spTextOf K)) (F : FnP K dReadThingBy f fd) : FnT T0 P w K mg base CX0 4 f fd ["given"] (spReadBy K) := by
  refine fnT_of F scReadThingBy (fun vs H Q E h => ?_) (fun cdv A outer s H vs Q E hG hr h => ?_)
  · obtain ⟨z, rfl, _⟩ := h
    rfl
  obtain ⟨tO, hO, nO, lO⟩ := m.open_
  obtain ⟨tS, hS, nS, lS⟩ := m.shut
  obtain ⟨f2, fd2, FV, hm2, hk2, hb2⟩ := GV.ex
  refine ⟨_, bt_cons (st_set (i := 1) scReadThingBy.nd rfl (Or.inl rfl) (et_callF FV hr rfl hm2 hk2 hb2 (E := fun _ => E0) p0 (at_cons (et_words (et_repN (et_repN (.of (pv 0)) rfl hO nO lO) rfl hS nS lS)) at_nil)))
    (.of (pss_one (ps_ret (pe_ifExp (pw_and (tcm (op_neL0 (units_lt hr)) (pv 1) (pe_lst pa_nil)) (pw_and1 (tcm op_eq (pc GT hr (pa_cons (pe_ix ix_list (pv 1) pe_int (fun _ _ => rfl)) pa_nil)) (pv 0)))).pt (pv 1) (pe_lst pa_nil))))), ?_⟩
  obtain ⟨z, rfl, hz, hf, q⟩ := h
  obtain ⟨y1, e1⟩ : ∃ y, Txt.replace z "(" " ( " = y := ⟨_, rfl⟩
  obtain ⟨y2, e2⟩ : ∃ y, Txt.replace y1 ")" " ) " = y := ⟨_, rfl⟩
  have t1 : tl y1 = StrLaws.replL [40] [32, 40, 32] (tl z) := by rw [← e1]; exact StrLaws.replace_list (by decide)
  have t2 : tl y2 = spaced (tl z) := by
    rw [← e2]
    have := StrLaws.replace_list (x := y1) (y := ")") (z := " ) ") (by decide)
    unfold tl at t1 ⊢
    rw [this, t1]
    rfl
  have ww : (Txt.words y2).map V.str = strL (wordsOf (tl z)) := by
    have := words_tl y2
    rw [t2] at this
    unfold strL K16.wordsOf
    rw [← this]
    have h2 : ∀ l : List Str, l.map V.str = (l.map (S ∘ tl)).map V.str := fun l => by
      induction l with
      | nil => rfl
      | cons a r ih => rw [List.map_cons, List.map_cons, List.map_cons, ← ih]; rfl
    exact (h2 (Txt.words y2)).trans (congrArg (List.map V.str) List.map_map.symm)
  have zl : z.length = (tl z).length := len_tl z
  have yl : y1.length ≤ 2400001 := by
    rw [len_tl, t1, repl_one]
    have : ∀ l : List Nat, (l.flatMap fun d => if d = 40 then [32, 40, 32] else [d]).length ≤ 3 * l.length := fun l => by
      induction l with
      | nil => simp
      | cons c r ih =>
        rw [List.flatMap_cons, List.length_append, List.length_cons]
        have : (if c = 40 then [32, 40, 32] else [c] : List Nat).length ≤ 3 := by
          split
          · decide
          · show 1 ≤ 3
            decide
        omega
    have := this (tl z)
    omega
  have yl2 : y2.length ≤ 2400000 := by
    rw [len_tl, t2]
    have := spaced_len (tl z)
    omega
  obtain ⟨b1, b2, b3⟩ := read_bounds hz
  refine ⟨_, rfl, z, rfl, by rw [zl]; show _ + _ * 3 ≤ _; omega, ?_⟩
  rw [e1]
  refine ⟨_, rfl, by show _ + _ * 3 ≤ _; omega, ?_⟩
  rw [e2]
  refine ⟨_, rfl, by rw [sizeLine_eq]; omega, fun a ha => ?_⟩
  rw [ww]
  refine ⟨a, wordsOf (tl z), rfl, SqL.of upd_same, by omega, fun u hu => ⟨by have := b2 u hu; omega, hf u hu⟩, fun H1 p xs k1 hp ep hd => ?_⟩
  have k01 := (same_upd ha (.lst (strL (wordsOf (tl z))))).trans k1
  have hp0 : H p = none := (same_upd ha (.lst (strL (wordsOf (tl z))))).free hp
  refine ⟨_, rfl, by show 0 ≤ sizeLine; decide, fun e0 he0 => ⟨p, e0, xs, [], rfl, rfl, SqL.of (same_upd he0 (.lst []) _ _ ep), SqL.of upd_same, rfl, _, rfl, ?_⟩⟩
  have k2 := same_upd he0 (.lst [])
  have ep2 := k2 _ _ ep
  have k02 := k01.trans k2
  have hd2 := dps_mono k2 hd
  generalize upd H1 e0 (.lst []) = H2 at k2 ep2 k02 hd2
  have none_end : progParsed (tl z) = none → ∀ H3, Same H H3 → (0 : Nat) ≤ sizeLine ∧ ∀ p, H3 p = none → Q (.ref p) (upd H3 p (.lst [])) := fun e H3 k3 => ⟨Nat.zero_le _, fun p hp => q _ p [] (k3.trans (same_upd hp _)) (k3.free hp) upd_same (by rw [e]; exact .nil)⟩
  cases hv : valueIn (wordsOf (tl z)) with
  | none =>
    rw [hv] at hd2
    have exs : xs = [] := by cases hd2; rfl
    subst exs
    exact ifF rfl (ifF rfl (none_end (by unfold progParsed; rw [hv]; rfl) H2 k02))
  | some d =>
    rw [hv] at hd2
    obtain ⟨x, exs, hxd⟩ : ∃ x, xs = [x] ∧ Dp K H2 x d := by
      cases hd2 with
      | cons h1 h2 => cases h2; exact ⟨_, rfl, h1⟩
    subst exs
    obtain ⟨c1, c2, c3, c4, c5⟩ := b3 hf d hv
    refine ifT rfl ⟨_, rfl, p, _, 0, x, rfl, rfl, SqL.of ep2, atI_nat (j := 0) rfl, x, d, rfl, hxd, c1, c3, c4, by omega, by omega, fun H3 k3 => ⟨_, rfl, rfl, _, rfl, ?_⟩⟩
    have pp : progParsed (tl z) = if txt d = tl z then some d else none := by unfold progParsed; rw [hv]; rfl
    by_cases he : txt d = tl z
    · refine ifT (decide_eq_true (show V.str (S (txt d)) = V.str z by rw [he, show S (tl z) = z from mk_tl z])) ⟨_, rfl, q H3 p [x] (k02.trans k3) hp0 (k3 _ _ ep2) ?_⟩
      rw [pp, if_pos he]
      exact .cons (dp_mono k3 hxd) .nil
    · refine ifF (decide_eq_false fun e => he (by injection e with e; exact congrArg tl e)) (none_end (by rw [pp, if_neg he]) H3 (k02.trans k3))
/-! ### read_thing -/
def resOf : V → Option PyData
  | .str z => progParsed (tl z)
  | _ => none
def spRead (K : PySem.W.Frag) : Sp := fun vs H Q E => ∃ v T, vs = [v] ∧ Knd K H v T ∧ (∀ z, v = .str z → (tl z).length ≤ 800000 ∧ (∀ u ∈ wordsOf (tl z), u.all isFig = true → u.length ≤ 640)) ∧
  (∀ d, resOf v = some d → ∀ H' u, Same H H' → Dp K H' u d → Q u H') ∧
  (resOf v = none → ∀ H' dd, Same H H' → H dd = none → H' dd = some (.xd [("given", v)]) → E (.ref (ivC K)) (some dd) H')
theorem ok_read (m : Fx mg) (J : Ix P w K mg base) (GB : ∃ f2 fd2, FnT T0 P w K mg base CX0 4 f2 fd2 ["given"] (spReadBy K) ∧ mg "read_thing_by" = some (.ref f2) ∧ PySem.W.keepIn K (.ref f2) = true ∧ Binds K fd2 ["given"] []) (F : FnP K dReadThing f fd) :
    FnT T0 P w K mg base (L2.CX P w) 5 f fd ["given"] (spRead K) := by
  refine fnT_of F scReadThing (fun vs H Q E h => ?_) (fun cdv A outer s H vs Q E hG hr h => ?_)
  · obtain ⟨v, T, rfl, _⟩ := h
    rfl
  obtain ⟨f2, fd2, FB, hm2, hk2, hb2⟩ := GB
  refine ⟨_, bt_cons (st_set (i := 1) scReadThing.nd rfl (Or.inl rfl) (et_ifExp (pt_val (pisi m.isi m.str (pv 0))) (et_call FB hG hr rfl hm2 hk2 hb2 (E := fun _ => E0) p0 (at_cons (.of (pv 0)) at_nil)) (.of (pe_lst pa_nil))))
    (.of (pss_cons (ps_if (tcm (op_eqL0 (units_lt hr)) (pv 1) (pe_lst pa_nil)) (pss_one (praise J rfl (takes_of rfl rfl rfl rfl) (hr.mono (by decide)) (pv 0))) pss_nil)
    (pss_one (ps_ret (pe_ix ix_list (pv 1) pe_int (fun _ _ => rfl)))))), ?_⟩
  obtain ⟨v, T, rfl, ty, hb, q1, q2⟩ := h
  refine ⟨_, rfl, _, _, _, _, _, rfl, isi ty (by decide) ⟨_, rfl, ?_⟩⟩
  have z0 : (0 : Nat) ≤ sizeLine := Nat.zero_le _
  have bad : resOf v = none → ∀ (p : Addr) (H2 : Hp), Same H H2 → H2 p = some (.lst []) → (tIfS (tTest (tOp (rEqL0 K) (tVar 1) (tLst tNil))) (tRz K (fun cls d _ H => E cls d H) (tVar 0)) tNext)
      { nx := fun σ' H' => (tRet (tOp (rIxL K) (tVar 1) (tC (.int 0)))) { nx := fun _ H' => Q .non H', rt := Q } σ' H', rt := Q } [some v, some (.ref p)] H2 := fun hn p H2 k ep => by
    refine ⟨_, rfl, z0, fun e0 he0 => ⟨p, e0, [], [], rfl, rfl, SqL.of (same_upd he0 (.lst []) _ _ ep), SqL.of upd_same, rfl, _, rfl, ifT rfl ⟨_, rfl, raiseOk fun H3 dd k3 h3 h4 => ?_⟩⟩⟩
    exact q2 hn H3 dd (k.trans ((same_upd he0 _).trans k3)) (k.free ((same_upd he0 (.lst [])).free h3)) h4
  cases ty with
  | str z =>
    obtain ⟨b1, b2⟩ := hb z rfl
    refine ifT rfl ⟨_, rfl, z, rfl, b1, b2, fun H1 p xs k1 hp ep hd => ?_⟩
    cases hv : progParsed (tl z) with
    | none =>
      rw [hv] at hd
      have exs : xs = [] := by cases hd; rfl
      subst exs
      exact bad hv p H1 k1 ep
    | some d =>
      rw [hv] at hd
      obtain ⟨x, exs, hxd⟩ : ∃ x, xs = [x] ∧ Dp K H1 x d := by
        cases hd with
        | cons h1 h2 => cases h2; exact ⟨_, rfl, h1⟩
      subst exs
      refine ⟨_, rfl, z0, fun e0 he0 => ⟨p, e0, [x], [], rfl, rfl, SqL.of (same_upd he0 (.lst []) _ _ ep), SqL.of upd_same, rfl, _, rfl, ifF rfl ?_⟩⟩
      exact ⟨_, rfl, p, _, 0, x, rfl, rfl, SqL.of (same_upd he0 (.lst []) _ _ ep), atI_nat (j := 0) rfl, q1 d hv _ x (k1.trans (same_upd he0 _)) (dp_mono (same_upd he0 _) hxd)⟩
  | non => exact ifF rfl ⟨z0, fun p hp => bad rfl p _ (same_upd hp _) upd_same⟩
  | bl b => exact ifF rfl ⟨z0, fun p hp => bad rfl p _ (same_upd hp _) upd_same⟩
  | int i => exact ifF rfl ⟨z0, fun p hp => bad rfl p _ (same_upd hp _) upd_same⟩
  | tup h => exact ifF rfl ⟨z0, fun p hp => bad rfl p _ (same_upd hp _) upd_same⟩
  | lst h => exact ifF rfl ⟨z0, fun p hp => bad rfl p _ (same_upd hp _) upd_same⟩
  | dct h => exact ifF rfl ⟨z0, fun p hp => bad rfl p _ (same_upd hp _) upd_same⟩
end
end K16W
end
section
set_option Elab.async false
set_option linter.all false
set_option maxRecDepth 100000
set_option maxHeartbeats 4000000
namespace K16W
open PySem PySem.Spec PyProof.Rows L2 K16R K16T K16D TL K16 SX
section
variable {P : Program} {w : World} {K : PySem.W.Frag} {mg : Str → Option Value} {base : Heap} {f : Addr} {fd : FuncData}
abbrev MM : Int := 4611686018427387847
/-- the forge at g -/
def Fg (H : Hp) (g : Addr) : Prop := ∃ x y : Int, H g = some (.lst [.int x, .int y]) ∧ 0 ≤ x ∧ 0 ≤ y ∧ y < MM
/-- all but what stands at g -/
def SameB (g : Addr) (H H' : Hp) : Prop := ∀ b o, b ≠ g → H b = some o → H' b = some o
theorem SameB.of {g : Addr} {H H' : Hp} (k : Same H H') : SameB g H H' := fun b o _ e => k b o e
theorem SameB.trans {g : Addr} {H H1 H2 : Hp} (a : SameB g H H1) (b : SameB g H1 H2) : SameB g H H2 := fun c o h e => b c o h (a c o h e)
theorem SameB.upd {g : Addr} {H : Hp} (o : HO) : SameB g H (upd H g o) := fun b u h e => by rw [upd_ne h]; exact e
theorem SameB.t {g : Addr} {H H' : Hp} (k : SameB g H H') (hg : Fg H g) : SameT H H' := fun b o t e => by
  obtain ⟨x, y, q, _⟩ := hg
  exact k b o (fun h => by rw [h, q] at e; cases e; cases t) e
theorem SameB.free {g : Addr} {H H' : Hp} (k : SameB g H H') {l : Addr} (h : H' l = none) (hl : l ≠ g) : H l = none := by
  cases q : H l with
  | none => rfl
  | some o => rw [k l o hl q] at h; cases h
theorem Fg.ne {H : Hp} {g l : Addr} (h : Fg H g) (hl : H l = none) : l ≠ g := fun e => by obtain ⟨x, y, q, _⟩ := h; rw [e, q] at hl; cases hl
theorem Fg.same {H H' : Hp} {g : Addr} (h : Fg H g) (k : Same H H') : Fg H' g := by obtain ⟨x, y, q, r⟩ := h; exact ⟨x, y, k _ _ q, r⟩
/-! ### _law_strike -/
def spStrike : Sp := fun vs H Q _ => ∃ (g : Addr) (n : Int), vs = [.ref g, .int n] ∧ Fg H g ∧ 0 < n ∧ n < 1000000000 ∧ ∀ r H', SameB g H H' → Fg H' g → 0 ≤ r → r < n → Q (.int r) H'
theorem ok_strike (m : Fx mg) (F : FnP K dLawStrike f fd) : FnOk P w K mg base CX0 1 f fd ["forge", "many"] spStrike := by
  refine F.ok scLawStrike (fun vs H Q E h => ?_) (fun cdv A outer s H vs Q E hr h => ?_)
  · obtain ⟨g, n, rfl, _⟩ := h
    rfl
  refine ⟨_, PSs.nox (pss_cons (ps_if (tcm op_gt (pe_ix ix_list (pv 0) pe_int (fun _ _ => rfl)) pe_int)
      (pss_cons (ps_asg (pb call_divmod m.divmod (pa_cons (pe_ix ix_list (pv 0) pe_int (fun _ _ => rfl)) (pa_cons (pv 1) pa_nil))) (pg_tup rfl (pgs_cons (pg_sub (pv 0) pe_int set_list) (pgs_cons (pg_name (i := 2) scLawStrike.nd rfl (Or.inl rfl)) pgs_nil))))
      (pss_one (ps_ret (pv 2)))) pss_nil)
    (pss_cons (ps_asg (pe_op op_mod (pty call_int1 m.int (pa_cons (pe_op op_add (pe_op op_mul (pe_ix ix_list (pv 0) pe_int (fun _ _ => rfl)) pe_int) pe_int) pa_nil)) pe_int) (pg_sub (pv 0) pe_int set_list))
    (pss_one (ps_ret (pe_op op_mod (pty call_int1 m.int (pa_cons (pe_op op_fdiv (pe_ix ix_list (pv 0) pe_int (fun _ _ => rfl)) pe_int) pa_nil)) (pv 1)))))), ?_⟩
  obtain ⟨g, n, rfl, ⟨x, y, eg, hx, hy, hy2⟩, n0, n1, q⟩ := h
  refine ⟨_, rfl, g, _, 0, _, rfl, rfl, SqL.of eg, atI_nat (j := 0) rfl, _, _, rfl, rfl, _, rfl, ?_⟩
  refine ite2 (fun c => ?_) (fun c => ?_)
  · have c' : 0 < x := of_decide_eq_true c
    refine ⟨_, rfl, g, _, 0, _, rfl, rfl, SqL.of eg, atI_nat (j := 0) rfl, _, rfl, _, _, rfl, ⟨n0, by omega⟩, fun t ht => ?_⟩
    have hgt : t ≠ g := fun e => by rw [e, eg] at ht; cases ht
    have eg1 : upd H t (.tup [.int (x / n), .int (x % n)]) g = some (.lst [.int x, .int y]) := by rw [upd_ne (Ne.symm hgt)]; exact eg
    refine ⟨t, _, rfl, SqT.of upd_same, rfl, _, _, rfl, ⟨_, rfl, g, _, 0, 0, rfl, rfl, eg1, rfl, ?_⟩⟩
    refine ⟨_, _, rfl, rfl, _, rfl, ?_⟩
    exact q _ _ ((SameB.of (same_upd ht _)).trans (SameB.upd _)) ⟨x / n, y, upd_same, Int.ediv_nonneg hx (by omega), hy, hy2⟩ (Int.emod_nonneg x (by omega)) (Int.emod_lt_of_pos x n0)
  · have mp : (0 : Int) < MM := by decide
    have hM : MM = 4611686018427387847 := rfl
    have y0 := Int.emod_nonneg (y * 4768777513237032717 + 3141592653589793239) (show MM ≠ 0 by decide)
    have y1 := Int.emod_lt_of_pos (y * 4768777513237032717 + 3141592653589793239) mp
    refine ⟨_, rfl, g, _, 1, _, rfl, rfl, SqL.of eg, atI_nat (j := 1) rfl, _, _, rfl, rfl, .inl ⟨by omega, by omega⟩, _, _, rfl, rfl, .inl ⟨_, rfl, _, _, rfl, rfl, mp, _, rfl, g, _, 1, 1, rfl, rfl, eg, rfl, ?_⟩⟩
    refine ⟨_, rfl, g, [.int x, .int ((y * 4768777513237032717 + 3141592653589793239) % MM)], 1, _, rfl, rfl, SqL.of upd_same, atI_nat (j := 1) rfl, _, _, rfl, rfl, ⟨by decide, by decide⟩, .inl ⟨_, rfl, _, rfl, _, _, rfl, rfl, n0, ?_⟩⟩
    exact q _ _ (SameB.upd _) ⟨x, _, upd_same, hx, y0, y1⟩ (Int.emod_nonneg _ (by omega)) (Int.emod_lt_of_pos _ n0)
/-! ### _law_pick -/
def spPick (K : PySem.W.Frag) : Sp := fun vs H Q _ => ∃ (g t : Addr) (xs : List V), vs = [.ref g, .ref t] ∧ Fg H g ∧ SqT K H t xs ∧ xs ≠ [] ∧ xs.length < 1000 ∧ ∀ x H', x ∈ xs → SameB g H H' → Fg H' g → Q x H'
theorem ok_pick (m : Fx mg) (GS : Has P w K mg base CX0 1 "_law_strike" ["forge", "many"] spStrike) (F : FnP K dLawPick f fd) : FnOk P w K mg base CX0 2 f fd ["forge", "things"] (spPick K) := by
  refine F.ok scLawPick (fun vs H Q E h => ?_) (fun cdv A outer s H vs Q E hr h => ?_)
  · obtain ⟨g, t, xs, rfl, _⟩ := h
    rfl
  refine ⟨_, PSs.nox (pss_one (ps_ret (pe_ix ix_tup (pv 1) (pc GS hr (pa_cons (pv 0) (pa_cons (pb call_len_seq m.len (pa_cons (pv 1) pa_nil)) pa_nil))) (fun _ _ => rfl)))), ?_⟩
  obtain ⟨g, t, xs, rfl, hg, ht, hne, hl, q⟩ := h
  have h0 : 0 < xs.length := List.length_pos_iff.mpr hne
  refine ⟨_, rfl, _, rfl, _, rfl, t, xs, rfl, .inr ht, g, _, rfl, hg, by omega, by omega, fun r H1 k1 g1 r0 r1 => ?_⟩
  have e : r = ((r.toNat : Nat) : Int) := by omega
  have hr2 : r.toNat < xs.length := by omega
  rw [e]
  exact ⟨t, xs, _, xs[r.toNat], rfl, rfl, SqT.monoT (k1.t hg) ht, atI_nat (by simp [hr2]), q _ H1 (List.getElem_mem _) k1 g1⟩
/-! ### _law_forge -/
def spForge (K : PySem.W.Frag) : Sp := fun vs H Q _ => ∃ (a : Addr) (ns : List Int) (lap : Nat), vs = [.ref a, .int (lap : Nat)] ∧ SqL K H a (ns.map V.int) ∧ ns.length ≤ 63 ∧ lap ≤ 3 ∧ ∀ H' p, Same H H' → H p = none → Fg H' p → Q (.ref p) H'
theorem ok_forge (m : Fx mg) (F : FnP K dLawForge f fd) : FnOk P w K mg base CX0 1 f fd ["script", "lap"] (spForge K) := by
  refine F.ok scLawForge (fun vs H Q E h => ?_) (fun cdv A outer s H vs Q E hr h => ?_)
  · obtain ⟨a, ns, lap, rfl, _⟩ := h
    rfl
  have step : ∀ {a : Expr}, True := fun {_} => True.intro
  refine ⟨_, PSs.nox (pss_cons (ps_set (i := 2) scLawForge.nd rfl (Or.inl rfl) (pe_ifExp (tcm op_lt (pv 1) (pb call_len_seq m.len (pa_cons (pv 0) pa_nil))) (pty call_int1 m.int (pa_cons (pe_ix ix_list (pv 0) (pv 1) (fun _ _ => rfl)) pa_nil)) (pe_op op_add pe_int (pe_op op_mul pe_int (pv 1)))))
    (pss_cons (ps_set (i := 3) scLawForge.nd rfl (Or.inl rfl) (pe_op op_add pe_int (pe_op op_mul pe_int (pv 1))))
    (pss_cons (ps_for PassesOwn.never rfl (pi_enum rfl m.enum (pa_cons (pe_slice sl_list (pv 0) po_none (po_some pe_int)) pa_nil)) (pg_tup rfl (pgs_cons (pg_name (i := 4) scLawForge.nd rfl (Or.inl rfl)) (pgs_cons (pg_name (i := 5) scLawForge.nd rfl (Or.inl rfl)) pgs_nil)))
      (pss_one (ps_set (i := 3) scLawForge.nd rfl (Or.inl rfl) (pe_op op_mod (pty call_int1 m.int (pa_cons (pe_op op_add (pe_op op_add (pe_op op_mul (pv 3) pe_int) (pe_op op_mul (pe_op op_mod (pty call_int1 m.int (pa_cons (pv 5) pa_nil)) pe_int) (pe_op op_add (pe_op op_mul pe_int (pv 4)) pe_int))) pe_int) pa_nil)) pe_int))))
    (pss_cons (ps_set (i := 3) scLawForge.nd rfl (Or.inl rfl) (pe_op op_mod (pty call_int1 m.int (pa_cons (pe_op op_add (pe_op op_add (pe_op op_mul (pv 3) pe_int) (pe_op op_mod (pv 2) pe_int)) pe_int) pa_nil)) pe_int))
    (pss_one (ps_ret (pe_lst (pa_cons (pe_ifExp (pw_or (tcm op_lt (pv 2) pe_int) (pw_or1 (tcm op_ge (pv 2) (pe_op op_pow pe_int pe_int)))).pt (pe_op op_mod (pty call_int1 m.int (pa_cons (pb call_abs m.abs (pa_cons (pv 2) pa_nil)) pa_nil)) (pe_op op_pow pe_int pe_int)) pe_int) (pa_cons (pv 3) pa_nil)))))))))
    , ?_⟩
  obtain ⟨a, ns, lap, rfl, hS, hn, hl, q⟩ := h
  have mp : (0 : Int) < MM := by decide
  have lap0 : (0 : Int) ≤ (lap : Int) ∧ (lap : Int) ≤ 3 := ⟨by omega, by omega⟩
  have hM : MM = 4611686018427387847 := rfl
  have cutI : ∀ x ∈ cutV (ns.map V.int) none (some 34), ∃ n : Int, x = .int n := fun x hx => by
    unfold cutV at hx
    obtain ⟨n, _, e⟩ := List.mem_map.mp (List.mem_of_mem_drop (List.mem_of_mem_take hx))
    exact ⟨n, e.symm⟩
  have p18 : CPow 10 18 := ⟨by decide, by decide, by decide⟩
  have p50 : CPow 10 50 := ⟨by decide, by decide, by decide⟩
  have fin : ∀ (v dp : Int) (H2 : Hp), Same H H2 → 0 ≤ v → 0 ≤ dp → dp < MM → ∀ p, H2 p = none → Q (.ref p) (upd H2 p (.lst [.int v, .int dp])) := fun v dp H2 k h1 h2 h3 p hp => q _ p (k.trans (same_upd hp _)) (k.free hp) ⟨v, dp, upd_same, h1, h2, h3⟩
  refine ⟨_, rfl, _, rfl, a, _, rfl, .inl hS, _, _, rfl, rfl, _, rfl, ?_⟩
  rw [List.length_map]
  refine ite2 (fun c => ?_) (fun c => ?_)
  · have c' : lap < ns.length := by have := of_decide_eq_true c; omega
    refine ⟨_, rfl, _, rfl, a, _, _, .int ns[lap], rfl, rfl, hS, atI_nat (by simp [c']), .inl ⟨_, rfl, ?_⟩⟩
    generalize ns[lap] = own
    refine ⟨_, rfl, _, _, rfl, rfl, .inl ⟨by decide, by decide⟩, _, _, rfl, rfl, ?_⟩
    refine ⟨_, rfl, _, rfl, a, _, rfl, hS, fun pl hpl => ⟨pl, _, rfl, SqL.of upd_same, ?_⟩⟩
    have k0 := same_upd hpl (.lst (cutV (ns.map V.int) none (some 34)))
    refine for_it walk_enum (fun i σ H' => ∃ dp x4 x5, σ = [some (.ref a), some (.int (lap : Nat)), some (.int own), some (.int dp), x4, x5] ∧ Same (upd H pl (.lst (cutV (ns.map V.int) none (some 34)))) H' ∧ 0 ≤ dp ∧ dp < MM) ⟨141759 + 31 * (lap : Int), none, none, rfl, Same.refl _, by omega, by omega⟩ (fun i σ H' _ hi => by obtain ⟨_, _, _, _, k, _⟩ := hi; exact SqL.of (k _ _ upd_same)) (fun i x σ H1 H2 hi hv y => ?_) (fun σ H' hv => ?_)
    · obtain ⟨dp, x4, x5, rfl, k, d0, d1⟩ := hv
      obtain ⟨T, y1, y2, rfl, hT, rfl, e1, e2⟩ := y
      cases e1
      obtain ⟨n, rfl⟩ := cutI y2 (List.mem_of_getElem? e2)
      have n0 := Int.emod_nonneg n (show (1000000009 : Int) ≠ 0 by decide)
      have n1 := Int.emod_lt_of_pos n (show (0 : Int) < 1000000009 by decide)
      refine ⟨T, _, rfl, SqT.of upd_same, rfl, _, _, rfl, _, _, rfl, rfl, ?_⟩
      refine ⟨_, rfl, _, _, rfl, rfl, .inl ⟨by omega, by omega⟩, _, rfl, .inl ⟨_, rfl, _, _, rfl, rfl, (by show (0 : Int) < 1000000009; decide), _, rfl, _, _, rfl, rfl, .inl ⟨by decide, by decide⟩, _, _, rfl, rfl, _, _, rfl, rfl, .inl ⟨by omega, by omega⟩, _, _, rfl, rfl, _, _, rfl, rfl, .inl ⟨_, rfl, _, _, rfl, rfl, mp, ?_⟩⟩⟩
      exact ⟨_, _, _, rfl, k.trans (same_upd hT _), Int.emod_nonneg _ (by decide), Int.emod_lt_of_pos _ mp⟩
    · obtain ⟨dp, x4, x5, rfl, k, d0, d1⟩ := hv
      have k1 := k0.trans k
      refine ⟨_, rfl, _, _, rfl, rfl, .inl ⟨by omega, by omega⟩, _, rfl, _, _, rfl, rfl, (by show (0 : Int) < 1000000009; decide), _, _, rfl, rfl, _, _, rfl, rfl, .inl ⟨_, rfl, _, _, rfl, rfl, mp, ?_⟩⟩
      have e0 := Int.emod_nonneg (dp * 2685821657736338717 + own % 1000000009 + 23) (show MM ≠ 0 by decide)
      have e1 := Int.emod_lt_of_pos (dp * 2685821657736338717 + own % 1000000009 + 23) mp
      have z2 : (2 : Nat) ≤ sizeLine := by decide
      have big : ∀ r : Int, 0 ≤ r % 10 ^ (50 : Int).toNat := fun r => Int.emod_nonneg r (by decide)
      refine ⟨_, rfl, _, _, rfl, rfl, _, rfl, ?_⟩
      refine ite2 (fun c1 => ?_) (fun c1 => ?_)
      · refine ifT rfl ⟨_, rfl, _, rfl, .inl ⟨_, rfl, _, _, rfl, rfl, p50, _, _, rfl, rfl, (by show (0 : Int) < 10 ^ 50; decide), _, rfl, z2, fun p hp => fin _ _ _ k1 (big _) e0 e1 p hp⟩⟩
      · refine ⟨_, rfl, _, _, rfl, rfl, p18, _, _, rfl, rfl, _, rfl, ?_⟩
        refine ite2 (fun c2 => ?_) (fun c2 => ?_)
        · refine ⟨_, rfl, _, rfl, .inl ⟨_, rfl, _, _, rfl, rfl, p50, _, _, rfl, rfl, (by show (0 : Int) < 10 ^ 50; decide), _, rfl, z2, fun p hp => fin _ _ _ k1 (big _) e0 e1 p hp⟩⟩
        · exact ⟨_, rfl, z2, fun p hp => fin 0 _ _ k1 (Int.le_refl 0) e0 e1 p hp⟩
  · refine ⟨_, rfl, _, _, rfl, rfl, .inl ⟨by decide, by decide⟩, _, _, rfl, rfl, ?_⟩
    refine ⟨_, rfl, _, _, rfl, rfl, .inl ⟨by decide, by decide⟩, _, _, rfl, rfl, ?_⟩
    refine ⟨_, rfl, _, rfl, a, _, rfl, hS, fun pl hpl => ⟨pl, _, rfl, SqL.of upd_same, ?_⟩⟩
    have k0 := same_upd hpl (.lst (cutV (ns.map V.int) none (some 34)))
    refine for_it walk_enum (fun i σ H' => ∃ dp x4 x5, σ = [some (.ref a), some (.int (lap : Nat)), some (.int (2277 + 43 * (lap : Int))), some (.int dp), x4, x5] ∧ Same (upd H pl (.lst (cutV (ns.map V.int) none (some 34)))) H' ∧ 0 ≤ dp ∧ dp < MM) ⟨141759 + 31 * (lap : Int), none, none, rfl, Same.refl _, by omega, by omega⟩ (fun i σ H' _ hi => by obtain ⟨_, _, _, _, k, _⟩ := hi; exact SqL.of (k _ _ upd_same)) (fun i x σ H1 H2 hi hv y => ?_) (fun σ H' hv => ?_)
    · obtain ⟨dp, x4, x5, rfl, k, d0, d1⟩ := hv
      obtain ⟨T, y1, y2, rfl, hT, rfl, e1, e2⟩ := y
      cases e1
      obtain ⟨n, rfl⟩ := cutI y2 (List.mem_of_getElem? e2)
      have n0 := Int.emod_nonneg n (show (1000000009 : Int) ≠ 0 by decide)
      have n1 := Int.emod_lt_of_pos n (show (0 : Int) < 1000000009 by decide)
      refine ⟨T, _, rfl, SqT.of upd_same, rfl, _, _, rfl, _, _, rfl, rfl, ?_⟩
      refine ⟨_, rfl, _, _, rfl, rfl, .inl ⟨by omega, by omega⟩, _, rfl, .inl ⟨_, rfl, _, _, rfl, rfl, (by show (0 : Int) < 1000000009; decide), _, rfl, _, _, rfl, rfl, .inl ⟨by decide, by decide⟩, _, _, rfl, rfl, _, _, rfl, rfl, .inl ⟨by omega, by omega⟩, _, _, rfl, rfl, _, _, rfl, rfl, .inl ⟨_, rfl, _, _, rfl, rfl, mp, ?_⟩⟩⟩
      exact ⟨_, _, _, rfl, k.trans (same_upd hT _), Int.emod_nonneg _ (by decide), Int.emod_lt_of_pos _ mp⟩
    · obtain ⟨dp, x4, x5, rfl, k, d0, d1⟩ := hv
      have k1 := k0.trans k
      refine ⟨_, rfl, _, _, rfl, rfl, .inl ⟨by omega, by omega⟩, _, rfl, _, _, rfl, rfl, (by show (0 : Int) < 1000000009; decide), _, _, rfl, rfl, _, _, rfl, rfl, .inl ⟨_, rfl, _, _, rfl, rfl, mp, ?_⟩⟩
      have e0 := Int.emod_nonneg (dp * 2685821657736338717 + (2277 + 43 * (lap : Int)) % 1000000009 + 23) (show MM ≠ 0 by decide)
      have e1 := Int.emod_lt_of_pos (dp * 2685821657736338717 + (2277 + 43 * (lap : Int)) % 1000000009 + 23) mp
      have z2 : (2 : Nat) ≤ sizeLine := by decide
      have big : ∀ r : Int, 0 ≤ r % 10 ^ (50 : Int).toNat := fun r => Int.emod_nonneg r (by decide)
      refine ⟨_, rfl, _, _, rfl, rfl, _, rfl, ?_⟩
      refine ite2 (fun c1 => ?_) (fun c1 => ?_)
      · refine ifT rfl ⟨_, rfl, _, rfl, .inl ⟨_, rfl, _, _, rfl, rfl, p50, _, _, rfl, rfl, (by show (0 : Int) < 10 ^ 50; decide), _, rfl, z2, fun p hp => fin _ _ _ k1 (big _) e0 e1 p hp⟩⟩
      · refine ⟨_, rfl, _, _, rfl, rfl, p18, _, _, rfl, rfl, _, rfl, ?_⟩
        refine ite2 (fun c2 => ?_) (fun c2 => ?_)
        · refine ⟨_, rfl, _, rfl, .inl ⟨_, rfl, _, _, rfl, rfl, p50, _, _, rfl, rfl, (by show (0 : Int) < 10 ^ 50; decide), _, rfl, z2, fun p hp => fin _ _ _ k1 (big _) e0 e1 p hp⟩⟩
        · exact ⟨_, rfl, z2, fun p hp => fin 0 _ _ k1 (Int.le_refl 0) e0 e1 p hp⟩
end
end K16W
end
section
set_option Elab.async false
set_option linter.all false
set_option maxRecDepth 100000
set_option maxHeartbeats 4000000
namespace K16W
open PySem PySem.Spec PyProof.Rows L2 K16R K16T K16D TL K16 SX
section
variable {K : PySem.W.Frag} {a b : Addr} {xs ys : List V}
theorem walk_zipT {n : Nat} (hn : n = min xs.length ys.length) : Walk (RZ.ItzT K a b) n (fun H => SqT K H a xs ∧ SqT K H b ys) (YPair (fun i => xs[i]?) (fun i => ys[i]?)) := by
  subst hn
  refine ⟨fun i _ hi q => ?_, fun _ q => ⟨xs, ys, q.1, q.2, by omega⟩, fun i H v H' _ q y => ?_⟩
  · have h1 : i < xs.length := by omega
    have h2 : i < ys.length := by omega
    exact ⟨xs, ys, xs[i], ys[i], q.1, q.2, by simp [h1], by simp [h2]⟩
  · obtain ⟨T, x, z, h1, h2, h3, h4, h5⟩ := y
    exact ⟨T, x, z, h1, h2, h3, h4 xs q.1, h5 ys q.2⟩
end
section
variable {X : Cx} {e : Expr} {te : TE} {p p1 p2 p3 pos : Pos} {x1 : Nat}
/-- isinstance(e, (tuple, list)) -/
theorem pisi2 (hi : X.mg "isinstance" = none) (ht : X.mg "tuple" = none) (hl : X.mg "list" = none) (he : PE X e te) (hg : Gl X "isinstance" := by rfl) (hg1 : Gl X "tuple" := by rfl) (hg2 : Gl X "list" := by rfl)
    (hs : starEach (e :: [.Tuple [.Name "tuple" p1, .Name "list" p2] x1 p3]) X.env = (false, eval e X.env) :: starEach [.Tuple [.Name "tuple" p1, .Name "list" p2] x1 p3] X.env := by rfl)
    (hs2 : starEach [.Tuple [.Name "tuple" p1, .Name "list" p2] x1 p3] X.env = (false, eval (.Tuple [.Name "tuple" p1, .Name "list" p2] x1 p3) X.env) :: starEach [] X.env := by rfl)
    (hs3 : starEach [.Name "tuple" p1, .Name "list" p2] X.env = (false, eval (.Name "tuple" p1) X.env) :: starEach [.Name "list" p2] X.env := by rfl)
    (hs4 : starEach [.Name "list" p2] X.env = (false, eval (.Name "list" p2) X.env) :: starEach [] X.env := by rfl)
    (hpl : (backTo pos (starEach [.Tuple [.Name "tuple" p1, .Name "list" p2] x1 p3] X.env)).any (·.1) = false := by rfl) :
    PE X (.Call (.Name "isinstance" p) [e, .Tuple [.Name "tuple" p1, .Name "list" p2] x1 p3] [] pos) (tCB (rIsiT X.K) (tCons te (tCons (tTup (tCons (tC (.ty "tuple")) (tCons (tC (.ty "list")) tNil))) tNil))) :=
  pe_callB call_isiT hg hi boot_isinstance (pa_cons he (pa_cons (pe_tup (pa_cons (pe_bltn hg1 ht (v := .ty "tuple") (u := .type "tuple") (by rfl) rfl) (pa_cons (pe_bltn hg2 hl (v := .ty "list") (u := .type "list") (by rfl) rfl) pa_nil hs4) hs3)) pa_nil hs2) hs) (he := hs) (hpl := hpl)
end
theorem isi2 {K : PySem.W.Frag} {H : Hp} {v : V} {T : String} {tp : Addr} {q : Prop} (h : Knd K H v T) (e : H tp = some (.tup [.ty "tuple", .ty "list"])) (hq : q) :
    H tp = some (.tup [.ty "tuple", .ty "list"]) ∧ Paired ClsV [.ty "tuple", .ty "list"] [.type "tuple", .type "list"] ∧ TyX K H v (.type T) ∧ PySem.W.kitAny K (.type T) [.type "tuple", .type "list"] = some (isT T "tuple" || isT T "list") ∧ q := by
  refine ⟨e, .cons (.ty _) (.cons (.ty _) .nil), h.ty, kitAny_cons (b := isT T "tuple") (kit_all K T h.mem "tuple" (by decide)) (fun hb => ?_) (fun hb => by rw [hb]; rfl), hq⟩
  rw [hb, Bool.false_or]
  refine kitAny_cons (b := isT T "list") (kit_all K T h.mem "list" (by decide)) (fun hb => ?_) (fun hb => hb)
  rw [hb]
  exact kitAny_nil
mutual
/-- whole numbers, texts, tuples of such -/
def plain : PyData → Bool
  | .int _ => true
  | .str _ => true
  | .tuple xs => plains xs
  | _ => false
def plains : List PyData → Bool
  | [] => true
  | x :: xs => plain x && plains xs
end
mutual
def dep : PyData → Nat
  | .tuple xs => 1 + deps xs
  | _ => 0
def deps : List PyData → Nat
  | [] => 0
  | x :: xs => max (dep x) (deps xs)
end
section
variable {P : Program} {w : World} {K : PySem.W.Frag} {mg : Str → Option Value} {base : Heap} {f f2 : Addr} {fd fd2 : FuncData}
def spSame (K : PySem.W.Frag) (m : Nat) : Sp := fun vs H Q _ => ∃ (v u : V) (d : PyData), vs = [v, u] ∧ Dp K H v d ∧ Dp K H u d ∧ plain d = true ∧ dep d < m ∧ cnt d ≤ 1000000 ∧ ∀ H', Same H H' → Q (.bl true) H'
def spAre (K : PySem.W.Frag) (m : Nat) : Sp := fun vs H Q _ => ∃ (a b : Addr) (xs ys : List V) (ds : List PyData), vs = [.ref a, .ref b] ∧ SqT K H a xs ∧ SqT K H b ys ∧ DpAll K H xs ds ∧ DpAll K H ys ds ∧ plains ds = true ∧ deps ds < m ∧ cnts ds ≤ 1000000 ∧ ∀ H', Same H H' → Q (.bl true) H'
theorem dps_get {K : PySem.W.Frag} {H : Hp} : ∀ {xs : List V} {ds : List PyData} {i : Nat} {x : V}, DpAll K H xs ds → xs[i]? = some x → ∃ d, ds[i]? = some d ∧ Dp K H x d
  | _, _, i, x, .nil, h => by simp at h
  | _, _, 0, x, .cons a _, h => by simp at h; subst h; exact ⟨_, rfl, a⟩
  | _, _, i + 1, x, .cons _ b, h => by simp at h; obtain ⟨d, e, q⟩ := dps_get b h; exact ⟨d, by simpa using e, q⟩
theorem deps_mem : ∀ {ds : List PyData} {d : PyData}, d ∈ ds → dep d ≤ deps ds
  | x :: xs, d, h => by
    simp only [deps]
    rcases List.mem_cons.mp h with e | e
    · subst e; omega
    · have := deps_mem e; omega
theorem plains_mem : ∀ {ds : List PyData} {d : PyData}, plains ds = true → d ∈ ds → plain d = true
  | x :: xs, d, hp, h => by
    simp only [plains, Bool.and_eq_true] at hp
    rcases List.mem_cons.mp h with e | e
    · subst e; exact hp.1
    · exact plains_mem hp.2 e
theorem cnts_mem : ∀ {ds : List PyData} {d : PyData}, d ∈ ds → cnt d ≤ cnts ds
  | x :: xs, d, h => by
    simp only [cnts]
    rcases List.mem_cons.mp h with e | e
    · subst e; omega
    · have := cnts_mem e; omega
theorem ok_are {n m : Nat} (mf : Fx mg) (GS : Has P w K mg base CX0 n "_law_same" ["told", "due"] (spSame K m)) (F : FnP K dLawAreSame f fd) : FnOk P w K mg base CX0 (n + 1) f fd ["told", "due"] (spAre K m) := by
  refine F.ok scLawAreSame (fun vs H Q E h => ?_) (fun cdv A outer s H vs Q E hr h => ?_)
  · obtain ⟨a, b, xs, ys, ds, rfl, _⟩ := h
    rfl
  refine ⟨_, PSs.nox (pss_cons (ps_if (pw_or (pt_not (pt_val (pisi2 mf.isi mf.tuple mf.list (pv 0)))) (pw_or1 (tcm op_ne (pb call_len_seq mf.len (pa_cons (pv 0) pa_nil)) (pb call_len_seq mf.len (pa_cons (pv 1) pa_nil))))).pt pss_never pss_nil)
    (pss_one (ps_ret (pcm op_notIn_seq pe_bl (pe_lc (own := [("one", 2), ("two", 3)]) (g := gTup K 2 (gCons (gName 2) (gCons (gName 3) gNil))) (tt := tYes) rfl scLawAreSame.nd (RZ.pi_zipA rfl mf.zip (pa_cons (pv 0) (pa_cons (pv 1) pa_nil))) (blkOk_by (N := nLawAreSame) (sc := defScope sLawAreSame) (by decide +kernel)) (fun _ _ _ _ _ => pg_tup rfl (pgs_cons (pg_name (i := 2) scLawAreSame.nd rfl (Or.inl rfl)) (pgs_cons (pg_name (i := 3) scLawAreSame.nd rfl (Or.inl rfl)) pgs_nil))) (fun _ _ _ _ _ => pts_nil)
      (fun _ _ _ _ _ => pc GS hr (pa_cons (pv 2) (pa_cons (pv 3) pa_nil)))))))), ?_⟩
  obtain ⟨a, b, xs, ys, ds, rfl, ha, hb, hx, hy, hp, hd, hl, q⟩ := h
  have lx := dps_len hx
  have ly := dps_len hy
  have z2 : (2 : Nat) ≤ sizeLine := by decide
  have ll := len_cnts ds
  refine ⟨_, rfl, z2, fun tp htp => ?_⟩
  refine ⟨_, tp, _, _, _, _, rfl, isi2 (.tup (SqT.mono (same_upd htp _) ha)) upd_same ⟨_, rfl, ?_⟩⟩
  have k0 := same_upd htp (.tup [.ty "tuple", .ty "list"])
  generalize upd H tp (.tup [.ty "tuple", .ty "list"]) = H1 at k0
  refine ifF rfl ⟨_, rfl, a, xs, rfl, .inr (SqT.mono k0 ha), _, rfl, b, ys, rfl, .inr (SqT.mono k0 hb), rfl, _, rfl, ifF (by rw [lx, ly]; simp) ?_⟩
  refine ⟨_, rfl, _, rfl, a, b, xs, ys, rfl, .inr ⟨SqT.mono k0 ha, SqT.mono k0 hb, fun D hD => ?_⟩⟩
  refine lcP (walk_zipT (xs := xs) (ys := ys) (n := ds.length) (by rw [lx, ly]; simp)) (fun _ => .bl true) hD (by rw [sizeLine_eq]; omega) (fun H2 k => ⟨SqT.mono (k0.trans k) ha, SqT.mono (k0.trans k) hb⟩) (fun i x H2 H3 Po hi k y hq => ?_) (fun H2 k e => ?_)
  · obtain ⟨T, v, u, rfl, hT, rfl, e1, e2⟩ := y
    refine ⟨T, _, rfl, SqT.of upd_same, rfl, _, _, rfl, _, _, rfl, rfl, rfl, _, rfl, _, rfl, ?_⟩
    obtain ⟨d, ed, hv⟩ := dps_get hx e1
    obtain ⟨d2, ed2, hu⟩ := dps_get hy e2
    rw [ed] at ed2
    cases ed2
    have hm := List.mem_of_getElem? ed
    have k3 := k0.trans (k.trans (same_upd hT (.tup [v, u])))
    exact ⟨v, u, d, rfl, dp_mono k3 hv, dp_mono k3 hu, plains_mem hp hm, Nat.lt_of_le_of_lt (deps_mem hm) hd, Nat.le_trans (cnts_mem hm) hl, fun H4 k4 => hq H4 ((same_upd hT _).trans k4)⟩
  · refine ⟨D, _, rfl, .inl (SqL.of e), rfl, ?_, ?_⟩
    · simp [flatV]
    · have z : inV (.bl false) ((List.range ds.length).map fun _ => V.bl true) = false := by
        simp [inV, eqV]
      rw [z]
      exact q H2 (k0.trans k)
theorem ok_same {n m : Nat} (mf : Fx mg) (GR : Has P w K mg base CX0 n "_law_are_same" ["told", "due"] (spAre K m)) (F : FnP K dLawSame f fd) : FnOk P w K mg base CX0 (n + 1) f fd ["told", "due"] (spSame K (m + 1)) := by
  refine F.ok scLawSame (fun vs H Q E h => ?_) (fun cdv A outer s H vs Q E hr h => ?_)
  · obtain ⟨v, u, d, rfl, _⟩ := h
    rfl
  refine ⟨_, PSs.nox (pss_cons (ps_if (pt_val (pisi2 mf.isi mf.tuple mf.list (pv 1))) (pss_one (ps_ret (pe_and (pcm op_eq (pisi mf.isi mf.list (pv 0)) (pisi mf.isi mf.list (pv 1))) (pe_one (pc GR hr (pa_cons (pv 0) (pa_cons (pv 1) pa_nil))))))) pss_nil)
    (pss_cons (ps_if (pw_or (tcm op_isN (pv 1) pe_non) (pw_or1 (pt_val (pisi mf.isi mf.bool (pv 1))))).pt pss_never pss_nil)
    (pss_cons (ps_if (pt_val (pisi mf.isi mf.int (pv 1))) (pss_one (ps_ret (pe_and (pisi mf.isi mf.int (pv 0)) (pe_and (pe_not (pisi mf.isi mf.bool (pv 0))) (pe_one (pcm op_eq (pv 0) (pv 1))))))) pss_nil)
    (pss_one (ps_ret (pe_and (pisi mf.isi mf.str (pv 0)) (pe_and (pisi mf.isi mf.str (pv 1)) (pe_one (pcm op_eq (pv 0) (pv 1)))))))))), ?_⟩
  obtain ⟨v, u, d, rfl, hv, hu, hp, hd, hc, q⟩ := h
  have z2 : (2 : Nat) ≤ sizeLine := by decide
  refine ⟨_, rfl, z2, fun tp htp => ?_⟩
  have k0 := same_upd htp (.tup [.ty "tuple", .ty "list"])
  have etp : upd H tp (.tup [.ty "tuple", .ty "list"]) tp = some (.tup [.ty "tuple", .ty "list"]) := upd_same
  have hv1 := dp_mono k0 hv
  have hu1 := dp_mono k0 hu
  generalize upd H tp (.tup [.ty "tuple", .ty "list"]) = H1 at k0 etp hv1 hu1
  cases hv1 with
  | int i =>
    cases hu1
    refine ⟨_, tp, _, _, _, _, rfl, isi2 (.int i) etp ⟨_, rfl, ifF rfl ⟨_, rfl, rfl, _, rfl, ifF rfl ⟨_, rfl, _, _, _, _, _, rfl, isi (.int i) (by decide) ⟨_, rfl, ifF rfl ⟨_, rfl, _, _, _, _, _, rfl, isi (.int i) (by decide) ⟨_, rfl, ifT rfl ?_⟩⟩⟩⟩⟩⟩⟩
    refine ⟨_, rfl, _, _, _, _, _, rfl, isi (.int i) (by decide) ⟨_, rfl, ifT rfl ⟨_, rfl, _, _, _, _, _, rfl, isi (.int i) (by decide) ⟨_, rfl, _, rfl, ifT rfl ⟨_, rfl, _, rfl, rfl, ?_⟩⟩⟩⟩⟩
    rw [decide_eq_true rfl]
    exact q H1 k0
  | str z =>
    cases hu1
    refine ⟨_, tp, _, _, _, _, rfl, isi2 (.str z) etp ⟨_, rfl, ifF rfl ⟨_, rfl, rfl, _, rfl, ifF rfl ⟨_, rfl, _, _, _, _, _, rfl, isi (.str z) (by decide) ⟨_, rfl, ifF rfl ⟨_, rfl, _, _, _, _, _, rfl, isi (.str z) (by decide) ⟨_, rfl, ifF rfl ?_⟩⟩⟩⟩⟩⟩⟩
    refine ⟨_, rfl, _, _, _, _, _, rfl, isi (.str z) (by decide) ⟨_, rfl, ifT rfl ⟨_, rfl, _, _, _, _, _, rfl, isi (.str z) (by decide) ⟨_, rfl, ifT rfl ⟨_, rfl, _, rfl, rfl, ?_⟩⟩⟩⟩⟩
    rw [decide_eq_true rfl]
    exact q H1 k0
  | tup ha hx =>
    cases hu1 with
    | tup hb hy =>
      refine ⟨_, tp, _, _, _, _, rfl, isi2 (.tup hb) etp ⟨_, rfl, ifT rfl ⟨_, rfl, _, _, _, _, _, rfl, isi (.tup ha) (by decide) ⟨_, rfl, _, _, _, _, _, rfl, isi (.tup hb) (by decide) ⟨rfl, _, rfl, ifT (decide_eq_true rfl) ?_⟩⟩⟩⟩⟩
      simp only [plain] at hp
      simp only [dep] at hd
      simp only [cnt] at hc
      exact ⟨_, rfl, _, rfl, _, _, _, _, _, rfl, ha, hb, hx, hy, hp, by omega, by omega, fun H' k => q H' (k0.trans k)⟩
  | non => cases hp
  | bl b => cases hp
  | lst _ _ => cases hp
/-- the two, as deep as asked -/
theorem ok_both (mf : Fx mg) (FS : FnP K dLawSame f fd) (FR : FnP K dLawAreSame f2 fd2) (hS : mg "_law_same" = some (.ref f)) (kS : PySem.W.keepIn K (.ref f) = true) (bS : Binds K fd ["told", "due"] []) (hR : mg "_law_are_same" = some (.ref f2)) (kR : PySem.W.keepIn K (.ref f2) = true) (bR : Binds K fd2 ["told", "due"] []) :
    ∀ m : Nat, FnOk P w K mg base CX0 (2 * m + 1) f fd ["told", "due"] (spSame K m)
  | 0 => ⟨fun _ _ _ _ ⟨_, _, _, _, _, _, _, h, _⟩ => absurd h (Nat.not_lt_zero _), fun _ _ _ _ _ _ _ _ _ _ _ _ _ ⟨_, _, _, _, _, _, _, h, _⟩ => absurd h (Nat.not_lt_zero _)⟩
  | m + 1 => ok_same mf ⟨f2, fd2, ok_are mf ⟨f, fd, ok_both mf FS FR hS kS bS hR kR bR m, hS, kS, bS⟩ FR, hR, kR, bR⟩ FS
end
end K16W
end
section
set_option Elab.async false
set_option linter.all false
set_option maxRecDepth 100000
set_option maxHeartbeats 4000000
namespace K16
open PySem TL K16W
/-! ### how long the words in a text are -/
def rk (B : Nat) : Nat → List Nat → Prop
  | k, [] => k ≤ B
  | k, c :: r => if isAn c = true then rk B (k + 1) r else k ≤ B ∧ rk B 0 r
theorem rk_le {B : Nat} : ∀ {l : List Nat} {k : Nat}, rk B k l → k ≤ B
  | [], _, h => h
  | c :: r, k, h => by
    unfold rk at h
    split at h
    · have := rk_le h; omega
    · exact h.1
theorem rk_less {B : Nat} : ∀ {l : List Nat} {k j : Nat}, rk B k l → j ≤ k → rk B j l
  | [], _, _, h, hj => Nat.le_trans hj h
  | c :: r, k, j, h, hj => by
    unfold rk at h ⊢
    split at h
    · rename_i hc
      rw [if_pos hc]
      exact rk_less h (by omega)
    · rename_i hc
      rw [if_neg hc]
      exact ⟨Nat.le_trans hj h.1, h.2⟩
theorem rk_more {B C : Nat} (e : Nat) (hC : B + e ≤ C) : ∀ {l : List Nat} {k : Nat}, rk B k l → rk C (k + e) l
  | [], _, h => by have : _ ≤ B := h; show _ ≤ C; omega
  | c :: r, k, h => by
    unfold rk at h ⊢
    split at h
    · rename_i hc
      rw [if_pos hc]
      have := rk_more e hC h
      rw [show k + 1 + e = k + e + 1 by omega] at this
      exact this
    · rename_i hc
      rw [if_neg hc]
      exact ⟨by omega, rk_less (rk_more e hC h.2) (Nat.zero_le _)⟩
theorem rk_app {A B : Nat} : ∀ {a b : List Nat} {k : Nat}, rk A k a → rk B 0 b → rk (A + B) k (a ++ b)
  | [], b, k, h, hb => by
    have h : k ≤ A := h
    exact rk_less (rk_more A (by omega) hb) (by omega)
  | c :: r, b, k, h, hb => by
    rw [List.cons_append]
    unfold rk at h ⊢
    split at h
    · rename_i hc
      rw [if_pos hc]
      exact rk_app h hb
    · rename_i hc
      rw [if_neg hc]
      exact ⟨by omega, rk_app h.2 hb⟩
theorem rk_left {B : Nat} : ∀ {a b : List Nat} {k : Nat}, rk B k (a ++ b) → rk B k a
  | [], _, _, h => rk_le h
  | c :: r, b, k, h => by
    rw [List.cons_append] at h
    unfold rk at h ⊢
    split at h
    · rename_i hc
      rw [if_pos hc]
      exact rk_left h
    · rename_i hc
      rw [if_neg hc]
      exact ⟨h.1, rk_left h.2⟩
theorem rk_right {B : Nat} : ∀ {a b : List Nat} {k : Nat}, rk B k (a ++ b) → rk B 0 b
  | [], _, _, h => rk_less h (Nat.zero_le _)
  | c :: r, b, k, h => by
    rw [List.cons_append] at h
    unfold rk at h
    split at h
    · exact rk_right h
    · exact rk_right h.2
theorem rk_len : ∀ (l : List Nat) (k : Nat), rk (k + l.length) k l
  | [], k => Nat.le_refl _
  | c :: r, k => by
    unfold rk
    split
    · have := rk_len r (k + 1)
      rw [show k + 1 + r.length = k + (c :: r).length by simp; omega] at this
      exact this
    · refine ⟨by simp, ?_⟩
      have := rk_more k (C := k + (c :: r).length) (by simp; omega) (rk_len r 0)
      exact rk_less this (Nat.zero_le _)
theorem rk_sep {B : Nat} : ∀ {a b : List Nat} {k : Nat}, rk B k a → (b = [] ∨ ∃ c r, b = c :: r ∧ isAn c = false) → rk B 0 b → rk B k (a ++ b)
  | [], b, k, h, hs, hb => by
    rcases hs with rfl | ⟨c, r, rfl, hc⟩
    · exact h
    · show rk B k (c :: r)
      unfold rk at hb ⊢
      rw [hc] at hb ⊢
      exact ⟨h, hb.2⟩
  | c :: r, b, k, h, hs, hb => by
    rw [List.cons_append]
    unfold rk at h ⊢
    split at h
    · rename_i hc
      rw [if_pos hc]
      exact rk_sep h hs hb
    · rename_i hc
      rw [if_neg hc]
      exact ⟨h.1, rk_sep h.2 hs hb⟩
theorem rk_up {B C k : Nat} {l : List Nat} (h : rk B k l) (hC : B ≤ C) : rk C k l := by
  have := rk_more 0 (C := C) (by omega) h
  exact this
/-- the words of a text whose words are short -/
theorem words_short {B : Nat} : ∀ (l : List Nat) (st : WS) (k : Nat), rk B k l → (∀ u ∈ st.1, u.all isFig = true → u.length ≤ B) → (st.2.all isFig = true → st.2.length ≤ k) → ∀ u ∈ done (l.foldl w1 st), u.all isFig = true → u.length ≤ B
  | [], st, k, h, h1, h2, u, hu, hf => by
    have hk : k ≤ B := h
    have hu : u ∈ wfin st := hu
    unfold wfin at hu
    split at hu
    · exact h1 u hu hf
    · rcases List.mem_append.mp hu with z | z
      · exact h1 u z hf
      · rw [List.mem_singleton.mp z] at hf ⊢
        exact Nat.le_trans (h2 hf) hk
  | c :: r, st, k, h, h1, h2, u, hu, hf => by
    have hk := rk_le h
    have hd : ∀ v ∈ done st, v.all isFig = true → v.length ≤ B := fun v hv hfv => by
      have hv : v ∈ wfin st := hv
      unfold wfin at hv
      split at hv
      · exact h1 v hv hfv
      · rcases List.mem_append.mp hv with z | z
        · exact h1 v z hfv
        · rw [List.mem_singleton.mp z] at hfv ⊢
          exact Nat.le_trans (h2 hfv) hk
    unfold rk at h
    rw [List.foldl_cons] at hu
    by_cases e40 : c = 40
    · subst e40
      rw [w1_open] at hu
      exact words_short r _ 0 h.2 (fun v hv hfv => by
        rcases List.mem_append.mp hv with z | z
        · exact hd v z hfv
        · rw [List.mem_singleton.mp z] at hfv; cases hfv) (fun _ => Nat.le_refl _) u hu hf
    by_cases e41 : c = 41
    · subst e41
      rw [w1_shut] at hu
      exact words_short r _ 0 h.2 (fun v hv hfv => by
        rcases List.mem_append.mp hv with z | z
        · exact hd v z hfv
        · rw [List.mem_singleton.mp z] at hfv; cases hfv) (fun _ => Nat.le_refl _) u hu hf
    have e1 : w1 st c = wstep st c := by
      unfold w1 sp1
      rw [if_neg e40, if_neg e41]
      rfl
    rw [e1] at hu
    by_cases hs : Unicode.isSpace c = true
    · have hna : isAn c = false := by
        cases ha : isAn c with
        | false => rfl
        | true => rw [an_no_space c (an_lt ha) ha] at hs; cases hs
      rw [hna] at h
      have e2 : wstep st c = (done st, []) := by
        unfold wstep done wfin
        rw [if_pos hs]
        split
        · rename_i z
          obtain ⟨a, b⟩ := st
          simp only at z
          rw [z]
        · rfl
      rw [e2] at hu
      exact words_short r _ 0 h.2 hd (fun _ => Nat.le_refl _) u hu hf
    · have e2 : wstep st c = (st.1, st.2 ++ [c]) := by unfold wstep; rw [if_neg hs]
      rw [e2] at hu
      split at h
      · refine words_short r (st.1, st.2 ++ [c]) (k + 1) h h1 (fun hfv => ?_) u hu hf
        rw [List.all_append, Bool.and_eq_true] at hfv
        rw [List.length_append, List.length_singleton]
        have := h2 hfv.1
        omega
      · rename_i hna
        refine words_short r (st.1, st.2 ++ [c]) 0 h.2 h1 (fun hfv => ?_) u hu hf
        rw [List.all_append, Bool.and_eq_true] at hfv
        exact absurd (show isAn c = true by unfold isAn; rw [show isFig c = true by simpa using hfv.2]; simp) hna
theorem short_words {B : Nat} {s : List Nat} (h : rk B 0 s) : ∀ u ∈ wordsOf s, u.all isFig = true → u.length ≤ B := by
  unfold wordsOf
  rw [spaced_map, fold_w1]
  exact words_short s ([], []) 0 h (fun u hu => by cases hu) (fun _ => Nat.le_refl _)

/-! ### how deep a text is -/
def dlt (c : Nat) : Int := if c = 40 then 1 else if c = 41 then -1 else 0
def bal : List Nat → Int
  | [] => 0
  | c :: r => dlt c + bal r
def nl (N : Int) : Int → List Nat → Prop
  | k, [] => k ≤ N
  | k, c :: r => k ≤ N ∧ nl N (k + dlt c) r
theorem bal_app : ∀ a b : List Nat, bal (a ++ b) = bal a + bal b
  | [], b => by simp [bal]
  | c :: r, b => by rw [List.cons_append]; simp only [bal]; rw [bal_app r b]; omega
theorem nl_app {N : Int} : ∀ {a b : List Nat} {k : Int}, nl N k (a ++ b) ↔ nl N k a ∧ nl N (k + bal a) b
  | [], b, k => by
    show nl N k b ↔ k ≤ N ∧ nl N (k + 0) b
    rw [Int.add_zero]
    refine ⟨fun h => ⟨?_, h⟩, fun h => h.2⟩
    cases b with
    | nil => exact h
    | cons c r => exact h.1
  | c :: r, b, k => by
    show k ≤ N ∧ nl N (k + dlt c) (r ++ b) ↔ (k ≤ N ∧ nl N (k + dlt c) r) ∧ nl N (k + (dlt c + bal r)) b
    rw [nl_app, Int.add_assoc, and_assoc]
theorem nl_mono {N M : Int} : ∀ {l : List Nat} {k j : Int}, nl N k l → j + (N - k) ≤ M → j ≤ M ∨ True → nl M j l
  | [], k, j, h, hm, _ => by have h : k ≤ N := h; show j ≤ M; omega
  | c :: r, k, j, h, hm, _ => ⟨by have := h.1; omega, nl_mono h.2 (by omega) (.inr True.intro)⟩
theorem dlt_le (c : Nat) : dlt c ≤ 1 ∧ -1 ≤ dlt c := by
  unfold dlt
  split
  · omega
  · split <;> omega
theorem bal_le : ∀ l : List Nat, bal l ≤ l.length ∧ -(l.length : Int) ≤ bal l
  | [] => by simp [bal]
  | c :: r => by
    have := bal_le r
    have := dlt_le c
    simp only [bal, List.length_cons]
    omega
theorem nl_len {N : Int} : ∀ {l : List Nat} {k : Int}, k + l.length ≤ N → nl N k l
  | [], k, h => by
    show k ≤ N
    simpa using h
  | c :: r, k, h => by
    have := dlt_le c
    simp only [List.length_cons] at h
    exact ⟨by omega, nl_len (by omega)⟩
theorem bal_an : ∀ {l : List Nat}, l.all isAn = true → bal l = 0 ∧ ∀ {N k : Int}, k ≤ N → nl N k l
  | [], _ => ⟨rfl, fun h => h⟩
  | c :: r, h => by
    rw [List.all_cons, Bool.and_eq_true] at h
    have hc := an_ne h.1
    have e : dlt c = 0 := by unfold dlt; rw [if_neg hc.1, if_neg hc.2.1]
    have ih := bal_an h.2
    exact ⟨by simp only [bal]; rw [e, ih.1]; rfl, fun hk => ⟨hk, by rw [e, Int.add_zero]; exact ih.2 hk⟩⟩
mutual
theorem txt_bal : ∀ d : PyData, good d = true → bal (txt d) = 0 ∧ ∀ {N k : Int}, nl N k (txt d) ↔ k + dep d ≤ N
  | .tuple xs, h => by
    have ih := txts_bal xs h
    have e : bal (txt (.tuple xs)) = 0 := by
      show dlt 40 + bal (txts xs ++ [41]) = 0
      rw [bal_app, ih.1]
      rfl
    refine ⟨e, fun {N k} => ?_⟩
    show (k ≤ N ∧ nl N (k + 1) (txts xs ++ [41])) ↔ k + ((1 + deps xs : Nat) : Int) ≤ N
    rw [nl_app, ih.2, ih.1]
    show (k ≤ N ∧ (k + 1 + (deps xs : Int) ≤ N) ∧ (k + 1 + 0 ≤ N ∧ (k + 1 + 0 + -1 ≤ N))) ↔ _
    omega
  | .int i, h => by
    have z := leaf_facts h rfl
    have y := bal_an z.2.1
    exact ⟨y.1, fun {N k} => ⟨fun q => by
      have : nl N k (txt (.int i)) := q
      have hk : k ≤ N := by cases ht : txt (.int i) with
        | nil => rw [ht] at this; exact this
        | cons c r => rw [ht] at this; exact this.1
      simpa [dep] using hk, fun q => y.2 (by simpa [dep] using q)⟩⟩
  | .str x, h => by
    have z := leaf_facts h rfl
    have y := bal_an z.2.1
    exact ⟨y.1, fun {N k} => ⟨fun q => by
      have : nl N k (txt (.str x)) := q
      have hk : k ≤ N := by cases ht : txt (.str x) with
        | nil => rw [ht] at this; exact this
        | cons c r => rw [ht] at this; exact this.1
      simpa [dep] using hk, fun q => y.2 (by simpa [dep] using q)⟩⟩
  | .none, h => by cases h
  | .bool _, h => by cases h
  | .list _, h => by cases h
  | .dict _, h => by cases h
theorem txts_bal : ∀ xs : List PyData, goods xs = true → bal (txts xs) = 0 ∧ ∀ {N k : Int}, nl N k (txts xs) ↔ k + deps xs ≤ N
  | [], _ => ⟨rfl, fun {N k} => by show k ≤ N ↔ k + ((0 : Nat) : Int) ≤ N; omega⟩
  | x :: xs, h => by
    simp only [goods, Bool.and_eq_true] at h
    have a := txt_bal x h.1
    have b := txtr_bal xs h.2
    refine ⟨by simp only [txts]; rw [bal_app, a.1, b.1]; rfl, fun {N k} => ?_⟩
    simp only [txts]
    rw [nl_app, a.2, b.2, a.1]
    show _ ↔ k + ((max (dep x) (deps xs) : Nat) : Int) ≤ N
    omega
theorem txtr_bal : ∀ xs : List PyData, goods xs = true → bal (txtr xs) = 0 ∧ ∀ {N k : Int}, nl N k (txtr xs) ↔ k + deps xs ≤ N
  | [], _ => ⟨rfl, fun {N k} => by show k ≤ N ↔ k + ((0 : Nat) : Int) ≤ N; omega⟩
  | x :: xs, h => by
    simp only [goods, Bool.and_eq_true] at h
    have a := txt_bal x h.1
    have b := txtr_bal xs h.2
    refine ⟨by simp only [txtr, bal]; rw [bal_app, a.1, b.1]; rfl, fun {N k} => ?_⟩
    show (k ≤ N ∧ nl N (k + 0) (txt x ++ txtr xs)) ↔ k + ((max (dep x) (deps xs) : Nat) : Int) ≤ N
    rw [nl_app, a.2, b.2, a.1]
    omega
end

/-! ### a text near another -/
def NearOf (s t : List Nat) : Prop := ∃ p x m q, s = p ++ x ++ q ∧ t = p ++ m ++ q ∧ x.length ≤ 2 ∧ m.length ≤ 2
theorem NearOf.rk {B : Nat} {s t : List Nat} (n : NearOf s t) (h : rk B 0 s) : rk (2 * B + 2) 0 t := by
  obtain ⟨p, x, m, q, rfl, rfl, hx, hm⟩ := n
  have h1 := rk_left (rk_left h)
  have h2 := rk_right h
  have h3 := rk_up (rk_len m 0) (show 0 + m.length ≤ 2 by omega)
  exact rk_up (rk_app (rk_app h1 h3) h2) (by omega)
theorem NearOf.nl {N : Int} {s t : List Nat} (n : NearOf s t) (h : nl N 0 s) : nl (N + 4) 0 t := by
  obtain ⟨p, x, m, q, rfl, rfl, hx, hm⟩ := n
  rw [nl_app, nl_app] at h ⊢
  obtain ⟨⟨h1, h2⟩, h3⟩ := h
  rw [bal_app] at h3 ⊢
  have bx := bal_le x
  have bm := bal_le m
  have hp : 0 + bal p ≤ N := by cases x with
    | nil => exact h2
    | cons c r => exact h2.1
  exact ⟨⟨nl_mono h1 (by omega) (.inr True.intro), nl_len (by omega)⟩, nl_mono h3 (by omega) (.inr True.intro)⟩
theorem NearOf.len {s t : List Nat} (n : NearOf s t) : t.length ≤ s.length + 2 := by
  obtain ⟨p, x, m, q, rfl, rfl, hx, hm⟩ := n
  simp only [List.length_append]
  omega

/-! ### small data -/
structure Nice (D C T : Nat) (d : PyData) : Prop where
  good : good d = true
  plain : plain d = true
  st : stOk d = true
  sm : smI d = true
  dep : dep d ≤ D
  cnt : cnt d ≤ C
  len : (txt d).length ≤ T
  rk : rk 91 0 (txt d)
structure Nices (D C T : Nat) (ds : List PyData) : Prop where
  good : goods ds = true
  plain : plains ds = true
  st : stOks ds = true
  sm : smIs ds = true
  dep : deps ds ≤ D
  cnt : cnts ds ≤ C
  len : (txts ds).length ≤ T
  lenr : (txtr ds).length ≤ T
  rk : rk 91 0 (txts ds)
  rkr : K16.rk 91 0 (txtr ds)
theorem txtr_sep (ds : List PyData) : txtr ds = [] ∨ ∃ c r, txtr ds = c :: r ∧ isAn c = false := by
  cases ds with
  | nil => exact .inl rfl
  | cons x xs => exact .inr ⟨32, _, rfl, by decide⟩
theorem Nices.nil {D C T : Nat} : Nices D C T [] := ⟨rfl, rfl, rfl, rfl, Nat.zero_le _, Nat.zero_le _, Nat.zero_le _, Nat.zero_le _, Nat.zero_le _, Nat.zero_le _⟩
theorem Nices.cons {D C T C2 T2 : Nat} {d : PyData} {ds : List PyData} (a : Nice D C T d) (b : Nices D C2 T2 ds) : Nices D (C + C2) (T + 1 + T2) (d :: ds) := by
  obtain ⟨a1, a2, a3, a4, a5, a6, a7, a8⟩ := a
  obtain ⟨b1, b2, b3, b4, b5, b6, b7, b8, b9, b10⟩ := b
  have r := rk_sep a8 (txtr_sep ds) b10
  refine ⟨by simp [goods, a1, b1], by simp [plains, a2, b2], by simp [stOks, a3, b3], by simp [smIs, a4, b4], by simp only [deps]; omega, by simp only [cnts]; omega, ?_, ?_, r, ?_⟩
  · simp only [txts, List.length_append]; omega
  · simp only [txtr, List.length_append, List.length_cons]; omega
  · show K16.rk 91 0 (32 :: (txt d ++ txtr ds))
    unfold K16.rk
    exact ⟨Nat.zero_le _, r⟩
theorem Nices.tup {D C T : Nat} {ds : List PyData} (b : Nices D C T ds) : Nice (D + 1) (C + 1) (T + 2) (.tuple ds) := by
  obtain ⟨b1, b2, b3, b4, b5, b6, b7, b8, b9, b10⟩ := b
  refine ⟨b1, b2, b3, b4, by simp only [K16W.dep]; omega, by simp only [K16W.cnt]; omega, ?_, ?_⟩
  · simp only [txt, List.length_append, List.length_cons, List.length_nil]; omega
  · show K16.rk 91 0 (40 :: (txts ds ++ [41]))
    unfold K16.rk
    refine ⟨Nat.zero_le _, rk_sep b9 (.inr ⟨41, [], rfl, by decide⟩) ?_⟩
    exact ⟨Nat.zero_le _, Nat.zero_le _⟩
theorem Nice.mono {D C T D' C' T' : Nat} {d : PyData} (a : Nice D C T d) (h1 : D ≤ D') (h2 : C ≤ C') (h3 : T ≤ T') : Nice D' C' T' d :=
  ⟨a.good, a.plain, a.st, a.sm, Nat.le_trans a.dep h1, Nat.le_trans a.cnt h2, Nat.le_trans a.len h3, a.rk⟩
theorem nice_str {z : Str} (h : wordL (tl z) = true) : Nice 0 1 8 (.str z) := by
  have h' := h
  unfold wordL at h'
  simp only [Bool.and_eq_true, decide_eq_true_eq] at h'
  refine ⟨h, rfl, decide_eq_true (by rw [len_tl, sizeLine_eq]; omega), rfl, Nat.le_refl _, Nat.le_refl _, h'.1.2, rk_up (rk_len _ 0) ?_⟩
  show 0 + (tl z).length ≤ 91
  omega
theorem nice_int {i : Int} {n : Nat} (h0 : 0 ≤ i) (hl : (numL i.toNat).length ≤ n) (hn : n ≤ 91) : Nice 0 1 n (.int i) := by
  refine ⟨decide_eq_true h0, rfl, rfl, ?_, Nat.le_refl _, Nat.le_refl _, hl, rk_up (rk_len _ 0) (show 0 + (numL i.toNat).length ≤ 91 by omega)⟩
  have hall : (numL i.toNat).all isFig = true := List.all_eq_true.mpr fun c hc => fig_of_num hc
  have := val_lt _ (numL i.toNat) rfl hall
  rw [numL_val] at this
  exact decide_eq_true (Nat.lt_of_lt_of_le this (Nat.pow_le_pow_right (by decide) (by omega)))
end K16
end
section
set_option Elab.async false
set_option linter.all false
set_option maxRecDepth 100000
set_option maxHeartbeats 4000000
namespace K16W
open PySem PySem.Spec PyProof.Rows L2 K16R K16T K16D TL K16 SX
theorem Has.mono {P : Program} {w : World} {K : PySem.W.Frag} {mg : Str → Option Value} {base : Heap} {CX : CXT} {j k : Nat} {x : Str} {ps : List Str} {sp : Sp} (h : Has P w K mg base CX j x ps sp) (hk : j ≤ k) : Has P w K mg base CX k x ps sp := by
  obtain ⟨f, fd, F, r⟩ := h
  exact ⟨f, fd, F.mono hk, r⟩
/-! ### how great the law's values are -/
def Cn : Nat → Nat
  | 0 => 1
  | n + 1 => 6 * Cn n + 1
def Tn : Nat → Nat
  | 0 => 91
  | n + 1 => 6 * (Tn n + 1) + 2
theorem Cn_pos : ∀ n, 1 ≤ Cn n
  | 0 => Nat.le_refl _
  | n + 1 => by unfold Cn; omega
theorem Tn_pos : ∀ n, 91 ≤ Tn n
  | 0 => Nat.le_refl _
  | n + 1 => by have := Tn_pos n; unfold Tn; omega
abbrev NiceL (n : Nat) (d : PyData) : Prop := Nice (n + 1) (Cn n) (Tn n) d
theorem NiceL.leaf {n a : Nat} {d : PyData} (h : Nice 0 1 a d) (ha : a ≤ 91) : NiceL n d := h.mono (Nat.zero_le _) (Cn_pos n) (Nat.le_trans ha (Tn_pos n))
theorem NiceL.empty {n : Nat} : NiceL n (.tuple []) := (Nices.nil (D := 0) (C := 0) (T := 0)).tup.mono (by omega) (Cn_pos n) (Nat.le_trans (by decide) (Tn_pos n))
/-- up to six, together -/
def NicesL (n i : Nat) (ds : List PyData) : Prop := Nices (n + 1) (i * Cn n) (i * (Tn n + 1)) ds
theorem Nices.snoc {D C T : Nat} {d : PyData} : ∀ {ds : List PyData} {C2 T2 : Nat}, Nices D C2 T2 ds → Nice D C T d → Nices D (C2 + C) (T2 + (T + 1)) (ds ++ [d]) := by
  intro ds C2 T2 b a
  obtain ⟨a1, a2, a3, a4, a5, a6, a7, a8⟩ := a
  obtain ⟨b1, b2, b3, b4, b5, b6, b7, b8, b9, b10⟩ := b
  have p1 : ∀ xs ys : List PyData, plains (xs ++ ys) = (plains xs && plains ys) := fun xs ys => by
    induction xs with
    | nil => simp [plains]
    | cons x xs ih => simp [plains, ih, Bool.and_assoc]
  have p2 : ∀ xs ys : List PyData, smIs (xs ++ ys) = (smIs xs && smIs ys) := fun xs ys => by
    induction xs with
    | nil => simp [smIs]
    | cons x xs ih => simp [smIs, ih, Bool.and_assoc]
  have p3 : ∀ xs ys : List PyData, deps (xs ++ ys) = max (deps xs) (deps ys) := fun xs ys => by
    induction xs with
    | nil => simp [deps]
    | cons x xs ih => simp [deps, ih, Nat.max_assoc]
  have r1 : rk 91 0 (txtr [d]) := by
    show rk 91 0 (32 :: (txt d ++ []))
    rw [List.append_nil]
    unfold rk
    exact ⟨Nat.zero_le _, a8⟩
  have tl1 : (txtr [d]).length = (txt d).length + 1 := by simp [txtr]
  have e1 : txts (ds ++ [d]) = if ds = [] then txt d else txts ds ++ txtr [d] := by
    cases ds with
    | nil => simp [txts, txtr]
    | cons x xs => simp [txts, txtr_append]
  refine ⟨by rw [goods_append, b1]; simp [goods, a1], by rw [p1, b2]; simp [plains, a2], by rw [stOks_append, b3]; simp [stOks, a3], by rw [p2, b4]; simp [smIs, a4], by rw [p3]; simp only [deps]; omega, by rw [cnts_append]; simp only [cnts]; omega, ?_, ?_, ?_, ?_⟩
  · rw [e1]
    split
    · omega
    · rw [List.length_append]; omega
  · rw [txtr_append, List.length_append]; omega
  · rw [e1]
    split
    · exact a8
    · exact rk_sep b9 (txtr_sep [d]) r1
  · rw [txtr_append]
    exact rk_sep b10 (txtr_sep [d]) r1
theorem NicesL.tup {n i : Nat} {ds : List PyData} (h : NicesL n i ds) (hi : i ≤ 6) : NiceL (n + 1) (.tuple ds) := by
  have c := Nat.mul_le_mul_right (Cn n) hi
  have t := Nat.mul_le_mul_right (Tn n + 1) hi
  exact (Nices.tup h).mono (Nat.le_refl _) (by show i * Cn n + 1 ≤ 6 * Cn n + 1; omega) (by show i * (Tn n + 1) + 2 ≤ 6 * (Tn n + 1) + 2; omega)
theorem NicesL.snoc {n i : Nat} {ds : List PyData} {d : PyData} (h : NicesL n i ds) (a : NiceL n d) : NicesL n (i + 1) (ds ++ [d]) := by
  have z := Nices.snoc h a
  unfold NicesL
  rw [Nat.add_mul, Nat.one_mul, Nat.add_mul, Nat.one_mul]
  exact z
/-! ### _law_any_value -/
section
variable {P : Program} {w : World} {K : PySem.W.Frag} {mg : Str → Option Value} {base : Heap} {f : Addr} {fd : FuncData}
def spAny (K : PySem.W.Frag) (m : Nat) : Sp := fun vs H Q _ => ∃ (g : Addr) (n : Nat), m = n + 1 ∧ vs = [.ref g, .int (n : Nat)] ∧ n ≤ 5 ∧ Fg H g ∧ ∀ u d H', SameB g H H' → Fg H' g → Dp K H' u d → NiceL n d → Q u H'
abbrev bigT : List Nat := 49 :: List.replicate 90 48
theorem big_tl : tl (("1" : Str) ++ Txt.mul "0" 90) = bigT := by decide +kernel
theorem big_int : PySem.intText? (("1" : Str) ++ Txt.mul "0" 90) = some ((NumText.digitsVal bigT : Nat) : Int) := by
  have e : (("1" : Str) ++ Txt.mul "0" 90) = S bigT := ext_tl (by rw [big_tl, tl_S])
  rw [e]
  exact int_of (by decide +kernel) (by decide) (by decide)
theorem big_nice : Nice 0 1 91 (.int ((NumText.digitsVal bigT : Nat) : Int)) := nice_int (Int.natCast_nonneg _) (by
  rw [Int.toNat_natCast, num_val (by decide) (by decide +kernel) (by decide)]
  decide) (Nat.le_refl _)
theorem big_mul : PySem.MulOk "0" 90 := ⟨by decide, fun _ _ => by decide, fun _ _ => by decide +kernel⟩
theorem big_len : ("1" : Str).length + (Txt.mul "0" 90).length ≤ sizeLine := by
  rw [show ("1" : Str).length + (Txt.mul "0" 90).length = 91 by decide +kernel]
  decide
theorem big_len2 : (("1" : Str) ++ Txt.mul "0" 90).length ≤ 640 := by decide +kernel
theorem dec_ne {r k : Int} (h : ¬ r = k) : decide (V.int r = V.int k) = false := decide_eq_false fun e => h (by injection e)
theorem both_strike {c : Bool} {A B Z : Prop} {g : Addr} {H : Hp} {R : Int → Hp → Prop} (hA : c = true → (∀ (r : Int) (H1 : Hp), SameB g H H1 → Fg H1 g → 0 ≤ r → (Z ∨ r < 3) → R r H1) → A) (hB : c = false → (∀ (r : Int) (H1 : Hp), SameB g H H1 → Fg H1 g → 0 ≤ r → (Z ∨ r < 3) → R r H1) → B)
    (t : ∀ (r : Int) (H1 : Hp), SameB g H H1 → Fg H1 g → 0 ≤ r → (Z ∨ r < 3) → R r H1) : if c = true then A else B := by
  cases c with
  | true => exact hA rfl t
  | false => exact hB rfl t
theorem nice_figs {w : List Nat} {i : Int} (h1 : w ≠ []) (h2 : w.all isFig = true) (h3 : figsOk w = true) (h4 : w.length ≤ 91) (e : i = ((NumText.digitsVal w : Nat) : Int)) : Nice 0 1 91 (.int i) := by
  subst e
  exact nice_int (Int.natCast_nonneg _) (by rw [Int.toNat_natCast, num_val h1 h2 h3]; exact h4) (Nat.le_refl _)
theorem strs_nice {K : PySem.W.Frag} (n : Nat) : ∀ x ∈ ([.str "a", .str "b", .str "abcdefgh", .str "row", .str "or", .str "none", .str "zz"] : List V), ∃ d, (∀ H : Hp, Dp K H x d) ∧ NiceL n d := fun x hx => by
  have one : ∀ z : Str, wordL (tl z) = true → ∃ d, (∀ H : Hp, Dp K H (.str z) d) ∧ NiceL n d := fun z h => ⟨.str z, fun _ => .str z, NiceL.leaf (nice_str h) (by decide)⟩
  simp only [List.mem_cons, List.not_mem_nil, or_false] at hx
  rcases hx with e | e | e | e | e | e | e <;> subst e <;> exact one _ (by decide +kernel)
theorem ints_nice {K : PySem.W.Frag} (n : Nat) : ∀ x ∈ ([.int 0, .int 1, .int 2, .int 10, .int 999, .int ((NumText.digitsVal bigT : Nat) : Int), .int 123456789] : List V), ∃ d, (∀ H : Hp, Dp K H x d) ∧ NiceL n d := fun x hx => by
  have one : ∀ (i : Int) (w : List Nat), w ≠ [] → w.all isFig = true → figsOk w = true → w.length ≤ 91 → i = ((NumText.digitsVal w : Nat) : Int) → ∃ d, (∀ H : Hp, Dp K H (.int i) d) ∧ NiceL n d := fun i w h1 h2 h3 h4 e => ⟨.int i, fun _ => .int i, NiceL.leaf (nice_figs h1 h2 h3 h4 e) (Nat.le_refl _)⟩
  simp only [List.mem_cons, List.not_mem_nil, or_false] at hx
  rcases hx with e | e | e | e | e | e | e <;> subst e
  · exact one 0 [48] (by decide) (by decide) (by decide) (by decide) (by decide)
  · exact one 1 [49] (by decide) (by decide) (by decide) (by decide) (by decide)
  · exact one 2 [50] (by decide) (by decide) (by decide) (by decide) (by decide)
  · exact one 10 [49, 48] (by decide) (by decide) (by decide) (by decide) (by decide)
  · exact one 999 [57, 57, 57] (by decide) (by decide) (by decide) (by decide) (by decide)
  · exact one _ bigT (by decide) (by decide +kernel) (by decide) (by decide) rfl
  · exact one 123456789 [49, 50, 51, 52, 53, 54, 55, 56, 57] (by decide) (by decide) (by decide) (by decide) (by decide +kernel)
theorem ok_any1 {k m : Nat} (mf : Fx mg) (hk : 2 ≤ k) (GS : Has P w K mg base CX0 1 "_law_strike" ["forge", "many"] spStrike) (GP : Has P w K mg base CX0 2 "_law_pick" ["forge", "things"] (spPick K)) (GA : Has P w K mg base CX0 k "_law_any_value" ["forge", "deep"] (spAny K m)) (F : FnP K dLawAnyValue f fd) : FnOk P w K mg base CX0 (k + 1) f fd ["forge", "deep"] (spAny K (m + 1)) := by
  refine F.ok scLawAnyValue (fun vs H Q E h => ?_) (fun cdv A outer s H vs Q E hr h => ?_)
  · obtain ⟨g, n, _, rfl, _⟩ := h
    rfl
  have hr1 := hr.mono (show 1 ≤ k by omega)
  have hr2 := hr.mono hk
  refine ⟨_, PSs.nox (pss_cons (ps_set (i := 2) scLawAnyValue.nd rfl (Or.inl rfl) (pc GS hr1 (pa_cons (pv 0) (pa_cons (pe_ifExp (tcm op_gt (pv 1) pe_int) pe_int pe_int) pa_nil))))
    (pss_cons (ps_if (tcm op_eq (pv 2) pe_int) (pss_one (ps_ret (pc GP hr2 (pa_cons (pv 0) (pa_cons (pe_tup (pa_cons pe_str (pa_cons pe_str (pa_cons pe_str (pa_cons pe_str (pa_cons pe_str (pa_cons pe_str (pa_cons pe_str pa_nil)))))))) pa_nil))))) pss_nil)
    (pss_cons (ps_if (tcm op_eq (pv 2) pe_int) (pss_one (ps_ret (pc GP hr2 (pa_cons (pv 0) (pa_cons (pe_tup (pa_cons pe_int (pa_cons pe_int (pa_cons pe_int (pa_cons pe_int (pa_cons pe_int (pa_cons (pty call_int_str mf.int (pa_cons (pe_op op_add_str pe_str (pe_op op_mulS pe_str pe_int)) pa_nil)) (pa_cons pe_int pa_nil)))))))) pa_nil))))) pss_nil)
    (pss_cons (ps_if (tcm op_eq (pv 2) pe_int) (pss_one (ps_ret (pe_tup pa_nil))) pss_nil)
    (pss_one (ps_ret (pty call_tuple_of mf.tuple (pa_cons (pe_lc (own := [("lap", 3)]) (g := gName 3) (tt := tYes) rfl scLawAnyValue.nd (pi_range1 rfl mf.range (pa_cons (pc GP hr2 (pa_cons (pv 0) (pa_cons (pe_tup (pa_cons pe_int (pa_cons pe_int (pa_cons pe_int (pa_cons pe_int (pa_cons pe_int (pa_cons pe_int pa_nil))))))) pa_nil))) pa_nil)) (blkOk_by (N := nLawAnyValue) (sc := defScope sLawAnyValue) (by decide +kernel)) (fun _ _ _ _ _ => pg_name (i := 3) scLawAnyValue.nd rfl (Or.inl rfl)) (fun _ _ _ _ _ => pts_nil)
      (fun _ _ _ _ _ => pc GA hr (pa_cons (pv 0) (pa_cons (pe_op op_sub (pv 1) pe_int) pa_nil)))) pa_nil)))))))), ?_⟩
  obtain ⟨g, n, hm, rfl, hn, hg, q⟩ := h
  have em : m = n := by omega
  subst em
  -- what a pick among what was just laid gives
  have pick : ∀ {H1 : Hp} {l : List V} {R : VK}, SameB g H H1 → Fg H1 g → l ≠ [] → l.length < 1000 → (∀ x ∈ l, ∀ H2, SameB g H H2 → Fg H2 g → R x H2) → ∀ p, H1 p = none → ∃ (g' t : Addr) (xs : List V), [V.ref g, V.ref p] = [.ref g', .ref t] ∧ Fg (upd H1 p (.tup l)) g' ∧ SqT K (upd H1 p (.tup l)) t xs ∧ xs ≠ [] ∧ xs.length < 1000 ∧ ∀ x H', x ∈ xs → SameB g' (upd H1 p (.tup l)) H' → Fg H' g' → R x H' :=
    fun {H1 l R} k1 g1 h1 h2 h3 p hp => ⟨g, p, l, rfl, g1.same (same_upd hp _), SqT.of upd_same, h1, h2, fun x H2 hx k2 g2 => h3 x hx H2 (k1.trans ((SameB.of (same_upd hp _)).trans k2)) g2⟩
  refine ⟨_, rfl, _, rfl, _, _, rfl, rfl, _, rfl, ?_⟩
  refine both_strike (g := g) (H := H) (Z := 0 < m) (fun c t => ⟨g, 7, rfl, hg, by decide, by decide, fun r H1 k1 g1 r0 r1 => t r H1 k1 g1 r0 (.inl (by have := of_decide_eq_true c; omega))⟩) (fun c t => ⟨g, 3, rfl, hg, by decide, by decide, fun r H1 k1 g1 r0 r1 => t r H1 k1 g1 r0 (.inr r1)⟩) (fun r H1 k1 g1 r0 hr3 => ?_)
  refine ⟨_, rfl, rfl, _, rfl, ?_⟩
  by_cases c0 : r = 0
  · refine ifT (by rw [c0]; rfl) ⟨_, rfl, (by show 7 ≤ sizeLine; decide), pick k1 g1 (by simp) (by simp) fun x hx H2 k2 g2 => ?_⟩
    obtain ⟨d, hd, nd⟩ := strs_nice (K := K) m x hx
    exact q x d H2 k2 g2 (hd H2) nd
  refine ifF (dec_ne c0) ⟨_, rfl, rfl, _, rfl, ?_⟩
  by_cases c1 : r = 1
  · refine ifT (by rw [c1]; rfl) ⟨_, rfl, _, _, rfl, rfl, big_mul, _, _, rfl, rfl, big_len, _, _, rfl, big_int, big_len2, (by show 7 ≤ sizeLine; decide), pick k1 g1 (by simp) (by simp) fun x hx H2 k2 g2 => ?_⟩
    obtain ⟨d, hd, nd⟩ := ints_nice (K := K) m x hx
    exact q x d H2 k2 g2 (hd H2) nd
  refine ifF (dec_ne c1) ⟨_, rfl, rfl, _, rfl, ?_⟩
  by_cases c2 : r = 2
  · refine ifT (by rw [c2]; rfl) ⟨Nat.zero_le _, fun p hp => q (.ref p) (.tuple []) _ (k1.trans (SameB.of (same_upd hp _))) (g1.same (same_upd hp _)) (.tup (SqT.of upd_same) .nil) NiceL.empty⟩
  refine ifF (dec_ne c2) ?_
  have m0 : 0 < m := hr3.elim id fun h => by omega
  refine ⟨_, rfl, (by show 6 ≤ sizeLine; decide), pick k1 g1 (by simp) (by simp) fun x hx H2 k2 g2 => ?_⟩
  obtain ⟨j, rfl, hj⟩ : ∃ j : Nat, x = .int (j : Nat) ∧ j ≤ 6 := by
    simp only [List.mem_cons, List.not_mem_nil, or_false] at hx
    rcases hx with e | e | e | e | e | e <;> subst e
    · exact ⟨0, rfl, by decide⟩
    · exact ⟨1, rfl, by decide⟩
    · exact ⟨1, rfl, by decide⟩
    · exact ⟨2, rfl, by decide⟩
    · exact ⟨3, rfl, by decide⟩
    · exact ⟨6, rfl, by decide⟩
  refine ⟨_, rfl, by omega, by omega, fun D hD => ?_⟩
  have gD : D ≠ g := g2.ne hD
  refine lc_it walk_range (fun i H3 => ∃ vs ds, H3 D = some (.lst vs) ∧ vs.length = i ∧ DpAll K H3 vs ds ∧ NicesL (m - 1) i ds ∧ SameB g H2 H3 ∧ Fg H3 g) ⟨[], [], upd_same, rfl, .nil, Nices.nil, SameB.of (same_upd hD _), g2.same (same_upd hD _)⟩ (fun _ _ _ _ => True.intro) (fun i x H3 H4 hi p y => ?_) (fun H3 p => ?_)
  · obtain ⟨rfl, rfl⟩ := y
    obtain ⟨vs, ds, eD, hl, hd, hn2, k3, g3⟩ := p
    have hi6 : i < 6 := by
      have := hi
      rw [Int.toNat_natCast] at this
      omega
    refine ⟨rfl, _, rfl, _, rfl, _, _, rfl, rfl, g, m - 1, by omega, congrArg (fun z : Int => [V.ref g, V.int z]) (show ((m : Nat) : Int) - 1 = ((m - 1 : Nat) : Int) by omega), by omega, g3, fun u d H5 k5 g5 hu nu => ?_⟩
    have kt : SameT H4 (upd H5 D (.lst (vs ++ [u]))) := (k5.t g3).trans (SameT.lst _ (k5 D _ gD eD))
    refine ⟨vs, k5 D _ gD eD, by rw [hl, sizeLine_eq]; omega, vs ++ [u], ds ++ [d], upd_same, by rw [List.length_append, hl]; rfl, dps_app (dps_monoT kt hn2.good hd) (.cons (dp_monoT (SameT.lst _ (k5 D _ gD eD)) nu.good hu) .nil), hn2.snoc nu, fun b o hb e => ?_, ?_⟩
    · have hbD : b ≠ D := fun e2 => by rw [e2, hD] at e; cases e
      rw [upd_ne hbD]
      exact k5 b o hb (k3 b o hb e)
    · obtain ⟨y1, y2, ey, r⟩ := g5
      exact ⟨y1, y2, by rw [upd_ne (Ne.symm gD)]; exact ey, r⟩
  · obtain ⟨vs, ds, eD, hl, hd, hn2, k3, g3⟩ := p
    rw [Int.toNat_natCast] at hn2
    refine ⟨D, vs, rfl, .inl ⟨SqL.of eD, fun l hl2 => ?_⟩⟩
    have kl := same_upd hl2 (.tup vs)
    have nt := hn2.tup hj
    rw [show m - 1 + 1 = m by omega] at nt
    exact q (.ref l) (.tuple ds) _ (k2.trans (k3.trans (SameB.of kl))) (g3.same kl) (.tup (SqT.of upd_same) (dps_mono kl hd)) nt
end
end K16W
end
section
set_option Elab.async false
set_option linter.all false
set_option maxRecDepth 100000
set_option maxHeartbeats 4000000
namespace K16
open PySem TL K16W
theorem rk_all {B : Nat} : ∀ {l : List Nat} {k : Nat}, l.all isAn = true → rk B k l → k + l.length ≤ B
  | [], k, _, h => h
  | c :: r, k, ha, h => by
    rw [List.all_cons, Bool.and_eq_true] at ha
    unfold rk at h
    rw [if_pos ha.1] at h
    have := rk_all ha.2 h
    simp only [List.length_cons]
    omega
theorem rk_txtr {B : Nat} : ∀ {ds : List PyData}, rk B 0 (txtr ds) → ∀ d ∈ ds, rk B 0 (txt d)
  | x :: xs, h, d, hd => by
    have h : rk B 0 (32 :: (txt x ++ txtr xs)) := h
    unfold rk at h
    rw [if_neg (by decide)] at h
    rcases List.mem_cons.mp hd with e | e
    · subst e; exact rk_left h.2
    · exact rk_txtr (rk_right h.2) d e
theorem rk_txts {B : Nat} : ∀ {ds : List PyData}, rk B 0 (txts ds) → ∀ d ∈ ds, rk B 0 (txt d)
  | x :: xs, h, d, hd => by
    have h : rk B 0 (txt x ++ txtr xs) := h
    rcases List.mem_cons.mp hd with e | e
    · subst e; exact rk_left h
    · exact rk_txtr (rk_right h) d e
theorem rk_tup {B : Nat} {ds : List PyData} (h : rk B 0 (txt (.tuple ds))) : rk B 0 (txts ds) := by
  have h : rk B 0 (40 :: (txts ds ++ [41])) := h
  unfold rk at h
  rw [if_neg (by decide)] at h
  exact rk_left h.2
theorem lg_of {i : Int} (h0 : 0 ≤ i) (h : rk 91 0 (txt (.int i))) : i.natAbs.log2 < 1920 := by
  have hall : (numL i.toNat).all isFig = true := List.all_eq_true.mpr fun c hc => fig_of_num hc
  have hl := rk_all (B := 91) (k := 0) (l := numL i.toNat) (List.all_eq_true.mpr fun c hc => by unfold isAn; rw [fig_of_num hc]; simp) h
  have := val_lt _ (numL i.toNat) rfl hall
  rw [numL_val] at this
  have e : i.natAbs = i.toNat := by omega
  rw [e]
  refine Nat.lt_of_lt_of_le (PySem.Flt.log2_lt_of (k := 400) (by decide) ?_) (by decide)
  refine Nat.lt_of_lt_of_le this ?_
  refine Nat.le_trans (Nat.pow_le_pow_right (by decide) (show (numL i.toNat).length ≤ 91 by omega)) ?_
  decide +kernel
theorem txts_join : ∀ ds : List PyData, joinL [32] (ds.map txt) = txts ds
  | [] => rfl
  | [x] => by simp [joinL, txts, txtr]
  | x :: y :: r => by
    have := txts_join (y :: r)
    simp only [List.map_cons, joinL, txts, txtr] at this ⊢
    rw [this]
    rfl
theorem len_txts : ∀ ds : List PyData, (ds.map fun d => (txt d).length).sum + ds.length ≤ (txts ds).length + 1
  | [] => by simp
  | [x] => by simp [txts, txtr]
  | x :: y :: r => by
    have := len_txts (y :: r)
    simp only [List.map_cons, List.sum_cons, txts, txtr, List.length_append, List.length_cons] at this ⊢
    omega
theorem len_mem_txts : ∀ {ds : List PyData} {d : PyData}, d ∈ ds → (txt d).length ≤ (txts ds).length := fun {ds d} h => by
  have h1 := len_txts ds
  have h2 : (txt d).length ≤ (ds.map fun d => (txt d).length).sum := by
    clear h1
    induction ds with
    | nil => cases h
    | cons x xs ih =>
      rw [List.map_cons, List.sum_cons]
      rcases List.mem_cons.mp h with e | e
      · subst e; omega
      · have := ih e; omega
  have h3 : 1 ≤ ds.length := List.length_pos_of_mem h
  omega
theorem goods_mem {ds : List PyData} {d : PyData} (hg : goods ds = true) (h : d ∈ ds) : good d = true := (goods_iff ds).mp hg d h
end K16
namespace K16W
open PySem PySem.Spec PyProof.Rows L2 K16R K16T K16D TL K16 SX
theorem call_strIS {X : Cx} : CallR X (.type "str") (fun xs H Q => (∃ i, xs = [.int i] ∧ i.natAbs.log2 < 1920 ∧ Q (.str (toString i)) H) ∨ ∃ a, xs = [.str a] ∧ Q (.str a) H) := by
  intro pins s σ H xs us Q I r h
  rcases h with h | h
  · exact call_str_int pins s σ H xs us Q I r h
  · exact SkE.call_str_str pins s σ H xs us Q I r h
section
variable {P : Program} {w : World} {K : PySem.W.Frag} {mg : Str → Option Value} {base : Heap} {f : Addr} {fd : FuncData}
/-! ### _law_told -/
def spTold (K : PySem.W.Frag) (m : Nat) : Sp := fun vs H Q _ => ∃ (v : V) (d : PyData), vs = [v] ∧ Dp K H v d ∧ good d = true ∧ dep d < m ∧ rk 91 0 (txt d) ∧ cnt d ≤ 1000000 ∧ (txt d).length ≤ 1000000 ∧ ∀ H', Same H H' → Q (.str (S (txt d))) H'
theorem ok_told1 {k m : Nat} (mf : Fx mg) (GT : Has P w K mg base CX0 k "_law_told" ["value"] (spTold K m)) (F : FnP K dLawTold f fd) : FnOk P w K mg base CX0 (k + 1) f fd ["value"] (spTold K (m + 1)) := by
  refine F.ok scLawTold (fun vs H Q E h => ?_) (fun cdv A outer s H vs Q E hr h => ?_)
  · obtain ⟨v, d, rfl, _⟩ := h
    rfl
  refine ⟨_, PSs.nox (pss_cons (ps_if (pt_val (pisi mf.isi mf.tuple (pv 0))) (pss_one (ps_ret (pe_op op_add_str (pe_op op_add_str pe_str (pe_join pe_str (pe_lc (own := [("one", 1)]) (g := gName 1) (tt := tYes) rfl scLawTold.nd (pi_tup (pv 0)) (blkOk_by (N := nLawTold) (sc := defScope sLawTold) (by decide +kernel)) (fun _ _ _ _ _ => pg_name (i := 1) scLawTold.nd rfl (Or.inl rfl)) (fun _ _ _ _ _ => pts_nil)
      (fun _ _ _ _ _ => pc GT hr (pa_cons (pv 1) pa_nil))))) pe_str))) pss_nil)
    (pss_one (ps_ret (pty call_strIS mf.str (pa_cons (pv 0) pa_nil))))), ?_⟩
  obtain ⟨v, d, rfl, hd, hg, hm, hk, hc, hl, q⟩ := h
  cases hd with
  | int i =>
    refine ⟨_, rfl, _, _, _, _, _, rfl, isi (.int i) (by decide) ⟨_, rfl, ifF rfl ⟨_, rfl, .inl ⟨i, rfl, lg_of (of_decide_eq_true hg) hk, ?_⟩⟩⟩⟩
    have e : (Str.ofString (toString i)) = S (txt (.int i)) := by
      have hi : i = ((i.toNat : Nat) : Int) := by have : 0 ≤ i := of_decide_eq_true hg; omega
      rw [hi]
      exact ext_tl (by rw [tl_S]; exact tl_num _)
    show Q (.str (Str.ofString (toString i))) H
    rw [e]
    exact q H (Same.refl _)
  | str z =>
    refine ⟨_, rfl, _, _, _, _, _, rfl, isi (.str z) (by decide) ⟨_, rfl, ifF rfl ⟨_, rfl, .inr ⟨z, rfl, ?_⟩⟩⟩⟩
    have y := q H (Same.refl _)
    rw [show S (txt (.str z)) = z from mk_tl z] at y
    exact y
  | tup ha hx =>
    rename_i a xs ds
    refine ⟨_, rfl, _, _, _, _, _, rfl, isi (.tup ha) (by decide) ⟨_, rfl, ifT rfl ?_⟩⟩
    have lx := dps_len hx
    have lc := len_cnts ds
    have hg' : goods ds = true := hg
    simp only [cnt] at hc
    simp only [dep] at hm
    have lt : (txt (.tuple ds)).length = (txts ds).length + 2 := by simp [txt]
    rw [lt] at hl
    have hk' := rk_txts (rk_tup hk)
    refine ⟨⟨_, rfl⟩, _, rfl, a, rfl, ⟨_, ha⟩, fun D hD => ?_⟩
    refine lcP (walk_tup (xs := xs)) (fun i => .str (S (txt (ds.getD i .none)))) hD (by rw [sizeLine_eq]; omega) (fun H2 k => SqT.mono k ha) (fun i x H2 H3 Po hi k y hq => ?_) (fun H2 k e => ?_)
    · obtain ⟨rfl, ex⟩ := y
      obtain ⟨d, ed, hv⟩ := dps_get hx ex
      have hmem := List.mem_of_getElem? ed
      have eg : ds.getD i .none = d := by rw [List.getD_eq_getElem?_getD, ed]; rfl
      have d1 := deps_mem hmem
      have c1 := cnts_mem hmem
      have l1 := len_mem_txts hmem
      refine ⟨rfl, _, rfl, x, d, rfl, dp_mono k hv, goods_mem hg' hmem, by omega, hk' d hmem, by omega, by omega, fun H4 k4 => ?_⟩
      rw [← eg]
      exact hq H4 k4
    · have e2 : H2 D = some (.lst ((ds.map fun d => S (txt d)).map V.str)) := by
        rw [e, lx, range_getD ds PyData.none fun d => V.str (S (txt d)), List.map_map]
        rfl
      have ls := len_txts ds
      have e3 : ((ds.map fun d => S (txt d)).map fun x : Str => x.length) = ds.map fun d => (txt d).length := by
        rw [List.map_map]
        exact List.map_congr_left fun d _ => by show (S (txt d)).length = _; rw [len_tl, tl_S]
      refine ⟨" ", D, ds.map fun d => S (txt d), rfl, rfl, .inl (SqL.of e2), ?_, ?_⟩
      · have e6 : ((ds.map fun d => S (txt d)).map fun x : Str => x.length).sum + (ds.map fun d => S (txt d)).length * 1 ≤ 16777216 := by
          rw [e3, List.length_map]
          rw [Nat.mul_one]
          exact Nat.le_trans ls (by omega)
        exact e6
      · have ej : Txt.join " " (ds.map fun d => S (txt d)) = S (txts ds) := by
          have : (ds.map fun d => S (txt d)) = (ds.map txt).map S := by rw [List.map_map]; rfl
          rw [this, show (" " : Str) = S [32] from rfl, join_S, txts_join]
        rw [ej]
        have lS : ∀ l : List Nat, (S l).length = l.length := fun l => by rw [len_tl, tl_S]
        have app : ∀ x y : List Nat, S x ++ S y = S (x ++ y) := fun x y => ext_tl (by rw [tl_append, tl_S, tl_S, tl_S])
        have e4 : ("(" : Str) ++ S (txts ds) = S (40 :: txts ds) := app [40] (txts ds)
        have e5 : S (40 :: txts ds) ++ (")" : Str) = S (txt (.tuple ds)) := app (40 :: txts ds) [41]
        refine ⟨_, _, rfl, rfl, ?_, _, _, rfl, rfl, ?_, ?_⟩
        · have e7 := lS (txts ds)
          show 1 + (S (txts ds)).length ≤ sizeLine
          rw [e7, sizeLine_eq]
          omega
        · rw [e4, lS, sizeLine_eq]
          show (txts ds).length + 1 + 1 ≤ _
          omega
        · rw [e4, e5]
          exact q H2 k
  | non => cases hg
  | bl b => cases hg
  | lst _ _ => cases hg
end
end K16W
end
section
set_option Elab.async false
set_option linter.all false
set_option maxRecDepth 100000
set_option maxHeartbeats 4000000
namespace K16W
open PySem PySem.Spec PyProof.Rows L2 K16R K16T K16D TL K16 SX
section
variable {P : Program} {w : World} {K : PySem.W.Frag} {mg : Str → Option Value} {base : Heap} {f : Addr} {fd : FuncData}
/-! ### _law_is_word -/
def spIsWord : Sp := fun vs H Q _ => ∃ z : Str, vs = [.str z] ∧ tl z ≠ [] ∧ z.length ≤ sizeLine ∧ ∀ H', Same H H' → Q (.bl (wordOk (tl z))) H'
/-- the signs, as texts -/
def sgs (l : List Nat) : List V := l.map fun c => V.str ⟨#[c]⟩
theorem figs_dec {z : Str} : decide (V.str z = V.str "0") = decide (tl z = [48]) := by
  by_cases h : tl z = [48]
  · rw [decide_eq_true h]
    exact decide_eq_true (congrArg V.str (ext_tl (show tl z = tl "0" from h)))
  · rw [decide_eq_false h]
    exact decide_eq_false fun h2 => h (by cases h2; rfl)
theorem head_dec {c : Nat} {r : List Nat} : (!decide (V.str ⟨#[c]⟩ = V.str "0")) = decide ((c :: r).head? ≠ some 48) := by
  by_cases h : c = 48
  · subst h; rfl
  · have d1 : V.str ⟨#[c]⟩ ≠ V.str "0" := fun h2 => h (by
      injection h2 with h2
      have := congrArg tl h2
      exact List.head_eq_of_cons_eq this)
    rw [decide_eq_false d1]
    symm
    exact decide_eq_true (by simpa using h)
theorem head_at {z : Str} (n0 : tl z ≠ []) : ∃ c r, tl z = c :: r ∧ (0 : Int) < z.length ∧ z.cps[(0 : Int).toNat]? = some c := by
  obtain ⟨c, r, ec⟩ : ∃ c r, tl z = c :: r := by
    cases h2 : tl z with
    | nil => exact absurd h2 n0
    | cons c r => exact ⟨c, r, rfl⟩
  refine ⟨c, r, ec, by rw [len_tl, ec]; simp, ?_⟩
  have : (tl z)[0]? = some c := by rw [ec]; rfl
  unfold tl at this
  rwa [Array.getElem?_toList] at this
theorem ok_is_word (mf : Fx mg) (F : FnP K dLawIsWord f fd) : FnOk P w K mg base CX0 1 f fd ["word"] spIsWord := by
  refine F.ok scLawIsWord (fun vs H Q E h => ?_) (fun cdv A outer s H vs Q E hr h => ?_)
  · obtain ⟨z, rfl, _⟩ := h
    rfl
  refine ⟨_, PSs.nox (pss_cons (ps_setLc (i := 1) (own := [("sign", 2)]) (g := gName 2) rfl scLawIsWord.nd rfl rfl (sw_true rfl rfl rfl rfl) (pi_str (pv 0)) (blkOk_by (N := nLawIsWord) (sc := defScope sLawIsWord) (by decide +kernel))
      (fun _ _ _ _ _ => pg_name (i := 2) scLawIsWord.nd rfl (Or.inl rfl)) (fun _ _ _ _ _ => pts_one (tcm op_in_sign (pv 2) pe_str)) (fun _ _ _ _ _ => pv 2))
    (pss_cons (ps_if (tcm op_eq (pb call_len_seq mf.len (pa_cons (pv 1) pa_nil)) (pb call_len_str mf.len (pa_cons (pv 0) pa_nil)))
      (pss_one (ps_ret (pe_or (pcm op_eq (pv 0) pe_str) (pe_one (pcm op_ne (pe_item_str (pv 0) pe_int (fun _ _ => rfl)) pe_str))))) pss_nil)
    (pss_one (ps_ret (pe_and (pcm (op_eqL0 (units_lt hr)) (pv 1) (pe_lst pa_nil)) (pe_one (pcm op_lt (pb call_len_str mf.len (pa_cons (pv 0) pa_nil)) pe_int))))))), ?_⟩
  obtain ⟨z, rfl, n0, hz, q⟩ := h
  have zl : z.length = (tl z).length := len_tl z
  have zs : z.cps.size = (tl z).length := by unfold tl; rw [Array.length_toList]
  refine ⟨_, rfl, z, rfl, fun D hD => ?_⟩
  refine lc_it walk_str (fun i H1 => Same H H1 ∧ H1 D = some (.lst (sgs (((tl z).take i).filter isFig)))) ⟨same_upd hD _, upd_same⟩ (fun _ _ _ _ => True.intro) (fun i x H1 H2 hi p y => ?_) (fun H1 p => ?_)
  · obtain ⟨rfl, c, hc, rfl⟩ := y
    obtain ⟨k, e⟩ := p
    have hc2 : (tl z)[i]? = some c := by unfold tl; rw [Array.getElem?_toList]; exact hc
    have tk : (tl z).take (i + 1) = (tl z).take i ++ [c] := by rw [List.take_succ, hc2]; rfl
    refine ⟨rfl, _, rfl, c, FIG, rfl, rfl, _, rfl, ?_⟩
    rw [mem_fig]
    cases hf : isFig c with
    | true =>
      refine ⟨_, rfl, _, e, ?_, fun b u h => by rw [upd_ne (ne_of_none h hD)]; exact k _ _ h, ?_⟩
      · unfold sgs
        rw [List.length_map]
        have := List.length_filter_le isFig ((tl z).take i)
        rw [List.length_take] at this
        rw [sizeLine_eq] at hz ⊢
        omega
      · rw [upd_same, tk, List.filter_append]
        unfold sgs
        rw [List.map_append]
        simp [hf]
    | false =>
      refine ⟨k, ?_⟩
      rw [tk, List.filter_append, e]
      simp [hf]
  · obtain ⟨k, e⟩ := p
    rw [zs, List.take_length] at e
    refine ⟨_, rfl, D, _, rfl, .inl (SqL.of e), _, rfl, z, rfl, hz, rfl, _, rfl, ?_⟩
    have el : (sgs ((tl z).filter isFig)).length = ((tl z).filter isFig).length := by unfold sgs; rw [List.length_map]
    rw [el, zl]
    by_cases h1 : ((tl z).filter isFig).length = (tl z).length
    · have hw : wordOk (tl z) = figsOk (tl z) := by unfold wordOk; rw [if_pos h1]
      refine ifT (decide_eq_true (congrArg (fun n : Nat => V.int (n : Int)) h1)) ⟨_, rfl, rfl, _, rfl, ?_⟩
      have z1 := q H1 k
      rw [hw] at z1
      unfold figsOk at z1
      rw [figs_dec]
      cases h2 : decide (tl z = [48]) with
      | true =>
        rw [h2, Bool.true_or] at z1
        exact z1
      | false =>
        rw [h2, Bool.false_or] at z1
        obtain ⟨c, r, ec, l0, g0⟩ := head_at n0
        refine ⟨_, rfl, z, 0, c, rfl, rfl, Int.le_refl 0, by decide, l0, g0, rfl, ?_⟩
        rw [head_dec (r := r), ← ec]
        exact z1
    · have hw : wordOk (tl z) = (decide ((tl z).filter isFig = []) && decide ((tl z).length < 9)) := by unfold wordOk; rw [if_neg h1]
      refine ifF (decide_eq_false fun h => h1 (by injection h with h; omega)) ⟨_, rfl, Nat.zero_le _, fun e0 he0 => ⟨D, e0, _, [], rfl, rfl, SqL.of (by rw [upd_ne (ne_of_none e he0)]; exact e), SqL.of upd_same, rfl, _, rfl, ?_⟩⟩
      have z1 := q _ (k.trans (same_upd he0 (.lst [])))
      rw [hw] at z1
      have e1 : (sgs ((tl z).filter isFig)).isEmpty = decide ((tl z).filter isFig = []) := by
        cases (tl z).filter isFig with
        | nil => rfl
        | cons a b => rfl
      rw [e1]
      cases h2 : decide ((tl z).filter isFig = []) with
      | false =>
        rw [h2, Bool.false_and] at z1
        exact z1
      | true =>
        rw [h2, Bool.true_and] at z1
        refine ⟨_, rfl, z, rfl, hz, _, _, rfl, rfl, ?_⟩
        have e2 : decide (((z.length : Nat) : Int) < 9) = decide ((tl z).length < 9) := by
          rw [zl]
          by_cases h : (tl z).length < 9
          · rw [decide_eq_true h]; exact decide_eq_true (by omega)
          · rw [decide_eq_false h]; exact decide_eq_false (by omega)
        rw [← e2] at z1
        exact z1
end
end K16W
end
section
set_option Elab.async false
set_option linter.all false
set_option maxRecDepth 100000
set_option maxHeartbeats 4000000
namespace K16W
open PySem PySem.Spec PyProof.Rows L2 K16R K16T K16D TL K16 SX
section
variable {P : Program} {w : World} {K : PySem.W.Frag} {mg : Str → Option Value} {base : Heap} {f : Addr} {fd : FuncData}
/-! ### _law_near -/
def spNear : Sp := fun vs H Q _ => ∃ (g : Addr) (z : Str), vs = [.ref g, .str z] ∧ Fg H g ∧ 0 < (tl z).length ∧ (tl z).length ≤ 2000000 ∧ ∀ y H', NearOf (tl z) (tl y) → SameB g H H' → Fg H' g → Q (.str y) H'
theorem tl_lo {z : Str} {a : Int} {n : Nat} (e : a = (n : Nat)) : tl (cutS z none (some a)) = (tl z).take n := by
  subst e
  rw [tl_cut, HT.sIx_none, HT.sIx_nat, List.drop_zero, Nat.sub_zero]
  by_cases h : n ≤ (tl z).length
  · rw [Nat.min_eq_left h]
  · rw [Nat.min_eq_right (by omega), List.take_of_length_le (Nat.le_refl _), List.take_of_length_le (by omega)]
theorem tl_hi {z : Str} {a : Int} {n : Nat} (e : a = (n : Nat)) : tl (cutS z (some a) none) = (tl z).drop n := by
  subst e
  rw [tl_cut, HT.sIx_none, HT.sIx_nat]
  by_cases h : n ≤ (tl z).length
  · rw [Nat.min_eq_left h, List.take_of_length_le (by simp)]
  · rw [Nat.min_eq_right (by omega), Nat.sub_self, List.take_zero, List.drop_of_length_le (by omega)]
theorem tl_mid {z : Str} {a b : Int} {n k : Nat} (e : a = (n : Nat)) (e2 : b = ((n + k : Nat) : Nat)) : tl (cutS z (some a) (some b)) = ((tl z).drop n).take k := by
  subst e; subst e2
  rw [tl_cut, HT.sIx_nat, HT.sIx_nat]
  by_cases h : n ≤ (tl z).length
  · rw [Nat.min_eq_left h]
    by_cases h2 : n + k ≤ (tl z).length
    · rw [Nat.min_eq_left h2, Nat.add_sub_cancel_left]
    · rw [Nat.min_eq_right (by omega), List.take_of_length_le (by simp), List.take_of_length_le (by rw [List.length_drop]; omega)]
  · rw [Nat.min_eq_right (by omega), Nat.min_eq_right (by omega), Nat.sub_self, List.take_zero, List.drop_of_length_le (by omega), List.take_nil]
theorem cut_len (z : Str) (lo hi : Option Int) : (cutS z lo hi).length ≤ (tl z).length := by rw [← len_tl]; exact cutS_length z lo hi
theorem ok_near (mf : Fx mg) (GS : Has P w K mg base CX0 1 "_law_strike" ["forge", "many"] spStrike) (GP : Has P w K mg base CX0 2 "_law_pick" ["forge", "things"] (spPick K)) (F : FnP K dLawNear f fd) : FnOk P w K mg base CX0 3 f fd ["forge", "said"] spNear := by
  refine F.ok scLawNear (fun vs H Q E h => ?_) (fun cdv A outer s H vs Q E hr h => ?_)
  · obtain ⟨g, z, rfl, _⟩ := h
    rfl
  have hr1 := hr.mono (show 1 ≤ 2 by omega)
  refine ⟨_, PSs.nox (pss_cons (ps_par (i := 2) (j := 3) rfl scLawNear.nd rfl rfl (by decide) rfl rfl (pa_cons (pc GS hr1 (pa_cons (pv 0) (pa_cons (pb call_len_str mf.len (pa_cons (pv 1) pa_nil)) pa_nil))) (pa_cons (pc GS hr1 (pa_cons (pv 0) (pa_cons pe_int pa_nil))) pa_nil)) rfl)
    (pss_cons (ps_set (i := 4) scLawNear.nd rfl (Or.inl rfl) (pc GP hr (pa_cons (pv 0) (pa_cons (pe_tup (pa_cons pe_str (pa_cons pe_str (pa_cons pe_str (pa_cons pe_str (pa_cons pe_str (pa_cons pe_str (pa_cons pe_str (pa_cons pe_str (pa_cons pe_str (pa_cons pe_str pa_nil))))))))))) pa_nil))))
    (pss_cons (ps_if (tcm op_eq (pv 3) pe_int) (pss_one (ps_ret (pe_op op_add_str (pe_slice sl_str (pv 1) po_none (po_some (pv 2))) (pe_slice sl_str (pv 1) (po_some (pe_op op_add (pv 2) pe_int)) po_none)))) pss_nil)
    (pss_cons (ps_if (tcm op_eq (pv 3) pe_int) (pss_one (ps_ret (pe_op op_add_str (pe_op op_add_str (pe_slice sl_str (pv 1) po_none (po_some (pv 2))) (pv 4)) (pe_slice sl_str (pv 1) (po_some (pv 2)) po_none)))) pss_nil)
    (pss_cons (ps_if (tcm op_eq (pv 3) pe_int) (pss_one (ps_ret (pe_op op_add_str (pe_op op_add_str (pe_slice sl_str (pv 1) po_none (po_some (pv 2))) (pv 4)) (pe_slice sl_str (pv 1) (po_some (pe_op op_add (pv 2) pe_int)) po_none)))) pss_nil)
    (pss_cons (ps_if (tcm op_eq (pv 3) pe_int) (pss_one (ps_ret (pe_op op_add_str (pe_op op_add_str (pe_op op_add_str (pe_slice sl_str (pv 1) po_none (po_some (pv 2))) (pe_slice sl_str (pv 1) (po_some (pe_op op_add (pv 2) pe_int)) (po_some (pe_op op_add (pv 2) pe_int)))) (pe_slice sl_str (pv 1) (po_some (pv 2)) (po_some (pe_op op_add (pv 2) pe_int)))) (pe_slice sl_str (pv 1) (po_some (pe_op op_add (pv 2) pe_int)) po_none)))) pss_nil)
    (pss_one (ps_ret (pe_op op_add_str (pv 1) (pv 4)))))))))), ?_⟩
  obtain ⟨g, z, rfl, hg, h0, hl, q⟩ := h
  have zl : z.length = (tl z).length := len_tl z
  have hz : z.length ≤ sizeLine := by rw [zl, sizeLine_eq]; omega
  refine ⟨_, rfl, _, rfl, z, rfl, hz, g, _, rfl, hg, by omega, by omega, fun r H1 k1 g1 r0 r1 => ?_⟩
  refine ⟨_, rfl, g, 5, rfl, g1, by decide, by decide, fun wy H2 k2 g2 w0 w1 => ?_⟩
  have k12 := k1.trans k2
  obtain ⟨a, ra⟩ : ∃ a : Nat, r = (a : Nat) := ⟨r.toNat, by omega⟩
  subst ra
  have ha : a < (tl z).length := by omega
  refine ⟨_, _, rfl, _, rfl, (by show 10 ≤ sizeLine; decide), fun p hp => ⟨g, p, _, rfl, g2.same (same_upd hp _), SqT.of upd_same, by simp, by simp, fun x H3 hx k3 g3 => ?_⟩⟩
  obtain ⟨y, rfl, hy⟩ : ∃ y : Str, x = .str y ∧ (tl y).length = 1 := by
    simp only [List.mem_cons, List.not_mem_nil, or_false] at hx
    rcases hx with e | e | e | e | e | e | e | e | e | e <;> exact ⟨_, e, rfl⟩
  have k03 : SameB g H H3 := k12.trans ((SameB.of (same_upd hp _)).trans k3)
  have yl : y.length = 1 := by rw [len_tl, hy]
  have c1 := cut_len z none (some (a : Int))
  have sz : ∀ {n : Nat}, n ≤ 10000000 → n ≤ sizeLine := fun h => by rw [sizeLine_eq]; omega
  have fin : ∀ t : Str, NearOf (tl z) (tl t) → Q (.str t) H3 := fun t h => q t H3 h k03 g3
  have dd : ∀ n k : Nat, ((tl z).drop n).take k ++ (tl z).drop (n + k) = (tl z).drop n := fun n k => by
    rw [← List.drop_drop]
    exact List.take_append_drop k _
  have dt : ∀ n : Nat, (tl z).take n ++ (tl z).drop n = tl z := fun n => List.take_append_drop n _
  have t1 : ∀ (l : List Nat) (k : Nat), (l.take k).length ≤ k := fun l k => by rw [List.length_take]; omega
  have lo1 : tl (cutS z none (some (a : Int))) = (tl z).take a := tl_lo rfl
  have hi0 : tl (cutS z (some (a : Int)) none) = (tl z).drop a := tl_hi rfl
  have hi1 : tl (cutS z (some ((a : Int) + 1)) none) = (tl z).drop (a + 1) := tl_hi (by omega)
  have hi2 : tl (cutS z (some ((a : Int) + 2)) none) = (tl z).drop (a + 2) := tl_hi (by omega)
  have m1 : tl (cutS z (some ((a : Int) + 1)) (some ((a : Int) + 2))) = ((tl z).drop (a + 1)).take 1 := tl_mid (by omega) (by omega)
  have m0 : tl (cutS z (some (a : Int)) (some ((a : Int) + 1))) = ((tl z).drop a).take 1 := tl_mid rfl (by omega)
  have n1 := cut_len z none (some (a : Int))
  have n2 := cut_len z (some (a : Int)) none
  have n3 := cut_len z (some ((a : Int) + 1)) none
  have n4 := cut_len z (some ((a : Int) + 2)) none
  have n5 := cut_len z (some ((a : Int) + 1)) (some ((a : Int) + 2))
  have n6 := cut_len z (some (a : Int)) (some ((a : Int) + 1))
  have la : ∀ x y : Str, (x ++ y).length = x.length + y.length := fun x y => by rw [len_tl, tl_append, List.length_append, ← len_tl, ← len_tl]
  have s1 : tl z = (tl z).take a ++ ((tl z).drop a).take 1 ++ (tl z).drop (a + 1) := by rw [List.append_assoc, dd, dt]
  have s2 : tl z = (tl z).take a ++ ((tl z).drop a).take 2 ++ (tl z).drop (a + 2) := by rw [List.append_assoc, dd, dt]
  refine ⟨_, rfl, rfl, _, rfl, ?_⟩
  by_cases c0 : wy = 0
  · refine ifT (by rw [c0]; rfl) ⟨_, rfl, _, rfl, _, rfl, z, rfl, hz, _, rfl, _, rfl, _, _, rfl, rfl, _, rfl, z, rfl, hz, _, _, rfl, rfl, sz (by omega), fin _ ?_⟩
    exact ⟨_, _, [], _, s1, by rw [tl_append, lo1, hi1, List.append_nil], Nat.le_trans (t1 _ 1) (by decide), by decide⟩
  refine ifF (dec_ne c0) ⟨_, rfl, rfl, _, rfl, ?_⟩
  by_cases c1 : wy = 1
  · refine ifT (by rw [c1]; rfl) ⟨_, rfl, _, rfl, _, rfl, z, rfl, hz, _, rfl, _, _, rfl, rfl, sz (by omega), _, rfl, _, rfl, _, rfl, z, rfl, hz, _, _, rfl, rfl, sz (by rw [la]; omega), fin _ ?_⟩
    exact ⟨(tl z).take a, [], tl y, (tl z).drop a, by rw [List.append_nil, dt], by rw [tl_append, tl_append, lo1, hi0], by decide, by rw [hy]; decide⟩
  refine ifF (dec_ne c1) ⟨_, rfl, rfl, _, rfl, ?_⟩
  by_cases c2 : wy = 2
  · refine ifT (by rw [c2]; rfl) ⟨_, rfl, _, rfl, _, rfl, z, rfl, hz, _, rfl, _, _, rfl, rfl, sz (by omega), _, rfl, _, rfl, _, _, rfl, rfl, _, rfl, z, rfl, hz, _, _, rfl, rfl, sz (by rw [la]; omega), fin _ ?_⟩
    exact ⟨_, _, tl y, _, s1, by rw [tl_append, tl_append, lo1, hi1], Nat.le_trans (t1 _ 1) (by decide), by rw [hy]; decide⟩
  refine ifF (dec_ne c2) ⟨_, rfl, rfl, _, rfl, ?_⟩
  by_cases c3 : wy = 3
  · refine ifT (by rw [c3]; rfl) ⟨_, rfl, _, rfl, _, rfl, z, rfl, hz, _, rfl, _, rfl, _, _, rfl, rfl, _, rfl, _, rfl, _, _, rfl, rfl, _, rfl, z, rfl, hz, _, _, rfl, rfl, sz (by omega), _, rfl, _, rfl, _, rfl, _, rfl, _, _, rfl, rfl, _, rfl, z, rfl, hz, _, _, rfl, rfl, sz (by rw [la]; omega), _, rfl, _, rfl, _, _, rfl, rfl, _, rfl, z, rfl, hz, _, _, rfl, rfl, sz (by rw [la, la]; omega), fin _ ?_⟩
    exact ⟨_, _, ((tl z).drop (a + 1)).take 1 ++ ((tl z).drop a).take 1, _, s2, by rw [tl_append, tl_append, tl_append, lo1, m1, m0, hi2, List.append_assoc ((tl z).take a)], t1 _ 2, by rw [List.length_append]; have := t1 ((tl z).drop (a + 1)) 1; have := t1 ((tl z).drop a) 1; omega⟩
  refine ifF (dec_ne c3) ⟨_, rfl, _, rfl, _, _, rfl, rfl, sz (by omega), fin _ ?_⟩
  exact ⟨tl z, [], tl y, [], by simp, by rw [tl_append, List.append_nil], by decide, by rw [hy]; decide⟩
end
end K16W
end
section
set_option Elab.async false
set_option linter.all false
set_option maxRecDepth 100000
set_option maxHeartbeats 4000000
namespace K16W
open PySem PySem.Spec PyProof.Rows L2 K16R K16T K16D TL K16 SX
/-! ### the law's open lists -/
def Pl (K : PySem.W.Frag) (H : Hp) (oo : Addr) (B : Nat) (line : List (List PyData)) (H' : Hp) : Prop :=
  ∃ ls, Same H H' ∧ H' oo = some (.lst (refs ls.reverse)) ∧ oo ∉ ls ∧ Stk K H H' B ls line ∧ ls.length ≤ B + 1 ∧ ls ≠ []
section
variable {K : PySem.W.Frag} {H H1 H2 : Hp} {oo : Addr} {B C : Nat} {line r : List (List PyData)} {top nxt : List PyData}
theorem Pl.same (h : Pl K H oo B line H1) : Same H H1 := by obtain ⟨_, k, _⟩ := h; exact k
theorem Pl.mono (h : Pl K H oo B line H1) (k : Same H1 H2) (hb : B ≤ C) : Pl K H oo C line H2 := by
  obtain ⟨ls, a, b, c, d, e, f⟩ := h
  exact ⟨ls, a.trans k, k _ _ b, c, d.mono hb (SameT.of k) (fun l hl => by obtain ⟨_, xs, q⟩ := d.at l hl; rw [k _ _ q, q]), by omega, f⟩
theorem Pl.len (h : Pl K H oo B line H1) : ∃ rs, H1 oo = some (.lst rs) ∧ rs.length = line.length ∧ line.length ≤ B + 1 ∧ line ≠ [] := by
  obtain ⟨ls, a, b, c, d, e, f⟩ := h
  have := d.len
  refine ⟨_, b, by unfold refs; rw [List.length_map, List.length_reverse, this], by omega, fun z => ?_⟩
  rw [z] at this
  exact f (List.length_eq_zero_iff.mp this)
theorem Pl.tops (ho : H oo = none) (h : Pl K H oo B (top :: r) H1) : ∃ rs l xs, H1 oo = some (.lst (rs ++ [.ref l])) ∧ rs.length = r.length ∧ l ≠ oo ∧ H l = none ∧ H1 l = some (.lst xs) ∧ DpAll K H1 xs top ∧ goods top = true ∧ xs.length ≤ B ∧
    ∀ x d, Dp K H1 x d → good d = true → Pl K H oo (B + 1) ((top ++ [d]) :: r) (upd H1 l (.lst (xs ++ [x]))) := by
  obtain ⟨ls, a, b, c, d, e, f⟩ := h
  cases d with
  | @cons l ls2 xs _ _ h0 el hd gd hb hn hs =>
    have hlo : l ≠ oo := fun z => c (by rw [z]; exact List.mem_cons_self)
    have b' := b
    rw [refs_snoc] at b'
    refine ⟨_, l, xs, b', by unfold refs; rw [List.length_map, List.length_reverse, hs.len], hlo, h0, el, hd, gd, hb, fun x d hx hg => ?_⟩
    have kt : SameT H1 (upd H1 l (.lst (xs ++ [x]))) := SameT.lst _ el
    refine ⟨l :: ls2, fun b u z => by rw [upd_ne (ne_of_none z h0)]; exact a _ _ z, by rw [upd_ne (Ne.symm hlo)]; exact b, c, .cons h0 upd_same (dps_app (dps_monoT kt gd hd) (.cons (dp_monoT kt hg hx) .nil)) (by rw [goods_append, gd]; simp [goods, hg]) (by rw [List.length_append]; show _ + 1 ≤ _; omega) hn (hs.mono (Nat.le_succ B) kt fun l' hl' => upd_ne (fun e => hn (by rw [← e]; exact hl'))), by omega, by simp⟩
theorem Pl.opened (ho : H oo = none) (h : Pl K H oo B line H1) {l : Addr} (hl : H1 l = none) : ∃ rs, upd H1 l (.lst []) oo = some (.lst rs) ∧ rs.length = line.length ∧ Pl K H oo (B + 1) ([] :: line) (upd (upd H1 l (.lst [])) oo (.lst (rs ++ [.ref l]))) := by
  obtain ⟨ls, k, eo, hno, hst, e, f⟩ := h
  have hlo2 : l ≠ oo := fun e => by rw [e, eo] at hl; cases hl
  have eo1 : upd H1 l (.lst []) oo = some (.lst (refs ls.reverse)) := by rw [upd_ne (Ne.symm hlo2)]; exact eo
  have hl1 := k.free hl
  have kt : SameT H1 (upd (upd H1 l (.lst [])) oo (.lst (refs ls.reverse ++ [.ref l]))) := (SameT.of (same_upd hl _)).trans (SameT.lst _ eo1)
  have lnew : ∀ l' ∈ ls, l' ≠ l := fun l' hl' e => by
    obtain ⟨_, xs, q⟩ := hst.at l' hl'
    rw [e, hl] at q
    cases q
  refine ⟨_, eo1, by unfold refs; rw [List.length_map, List.length_reverse, hst.len], l :: ls, fun b o z => ?_, ?_, ?_, .cons hl1 ?_ .nil rfl (Nat.zero_le _) (fun z => lnew l z rfl) (hst.mono (Nat.le_succ B) kt fun l' hl' => ?_), ?_, by simp⟩
  · rw [upd_ne (ne_of_none z ho), upd_ne (ne_of_none z hl1)]
    exact k _ _ z
  · rw [upd_same, refs_snoc]
  · intro z
    rcases List.mem_cons.mp z with e | e
    · exact hlo2 e.symm
    · exact hno e
  · rw [upd_ne hlo2, upd_same]
  · rw [upd_ne (fun e => hno (by rw [← e]; exact hl')), upd_ne (lnew l' hl')]
  · show ls.length + 1 ≤ _
    omega
theorem Pl.popped (ho : H oo = none) (h : Pl K H oo B (top :: nxt :: r) H1) : ∃ rs l xs, H1 oo = some (.lst (rs ++ [.ref l])) ∧ Pl K H oo B (nxt :: r) (upd H1 oo (.lst rs)) ∧ upd H1 oo (.lst rs) l = some (.lst xs) ∧ DpAll K (upd H1 oo (.lst rs)) xs top ∧ goods top = true := by
  obtain ⟨ls, k, eo, hno, hst, e, f⟩ := h
  cases hst with
  | @cons l ls2 xs _ _ h0 el hd gd hb hn hst2 =>
    have hlo2 : l ≠ oo := fun e => hno (by rw [e]; exact List.mem_cons_self)
    have hno2 : oo ∉ ls2 := fun z => hno (List.mem_cons_of_mem _ z)
    have eo' := eo
    rw [refs_snoc] at eo'
    have t1 : SameT H1 (upd H1 oo (.lst (refs ls2.reverse))) := SameT.lst _ eo'
    refine ⟨_, l, xs, eo', ⟨ls2, fun b o z => by rw [upd_ne (ne_of_none z ho)]; exact k _ _ z, upd_same, hno2, hst2.mono (Nat.le_refl _) t1 fun l' hl' => upd_ne (fun e => hno2 (by rw [← e]; exact hl')), ?_, ?_⟩, by rw [upd_ne hlo2]; exact el, dps_monoT t1 gd hd, gd⟩
    · simp only [List.length_cons] at e
      omega
    · have := hst2.len
      intro z
      rw [z] at this
      cases this
end
end K16W
end
section
set_option Elab.async false
set_option linter.all false
set_option maxRecDepth 100000
set_option maxHeartbeats 8000000
namespace K16W
open PySem PySem.Spec PyProof.Rows L2 K16R K16T K16D TL K16 SX
def aS : Option Nat → Str
  | none => ""
  | some c => ⟨#[c]⟩
theorem s1eq (c d : Nat) : decide (V.str ⟨#[c]⟩ = V.str ⟨#[d]⟩) = decide (c = d) := by
  by_cases h : c = d
  · subst h; rw [decide_eq_true rfl, decide_eq_true rfl]
  · rw [decide_eq_false h]
    exact decide_eq_false fun e => h (by
      injection e with e
      have := congrArg tl e
      exact List.head_eq_of_cons_eq this)
theorem s1nil (c : Nat) : decide (V.str ⟨#[c]⟩ = V.str "") = false := decide_eq_false fun e => by
  injection e with e
  have := congrArg tl e
  cases this
theorem aS_eq (a : Option Nat) (d : Nat) : decide (V.str (aS a) = V.str ⟨#[d]⟩) = decide (a = some d) := by
  cases a with
  | none =>
    rw [decide_eq_false (show ¬ (none : Option Nat) = some d from fun e => by cases e)]
    exact decide_eq_false fun e => by
      injection e with e
      have := congrArg tl e
      cases this
  | some c =>
    rw [show decide (some c = some d) = decide (c = d) by by_cases h : c = d <;> simp [h]]
    exact s1eq c d
theorem aS_in (a : Option Nat) : inV (.str (aS a)) [.str "", .str "(", .str " "] = decide (a = none ∨ a = some 40 ∨ a = some 32) := by
  have e : inV (.str (aS a)) [.str "", .str "(", .str " "] = (decide (a = none) || (decide (a = some 40) || decide (a = some 32))) := by
    have b : ∀ (y : Str) (p : Prop) [Decidable p], (y = aS a ↔ p) → (y == aS a) = decide p := fun y p _ h => by
      by_cases hp : p
      · rw [decide_eq_true hp, h.mpr hp]; exact beq_self_eq_true _
      · rw [decide_eq_false hp]; exact beq_eq_false_iff_ne.mpr fun e => hp (h.mp e)
    have h0 : (("" : Str) = aS a ↔ a = none) := by
      cases a with
      | none => exact ⟨fun _ => rfl, fun _ => rfl⟩
      | some c => exact ⟨fun e => (by have := congrArg tl e; cases this), fun e => (by cases e)⟩
    have h1 : ∀ d : Nat, ((⟨#[d]⟩ : Str) = aS a ↔ a = some d) := fun d => by
      cases a with
      | none => exact ⟨fun e => (by have := congrArg tl e; cases this), fun e => (by cases e)⟩
      | some c => exact ⟨fun e => (by have := congrArg tl e; rw [List.head_eq_of_cons_eq this]), fun e => (by cases e; rfl)⟩
    show ((("" : Str) == aS a) || ((("(" : Str) == aS a) || (((" " : Str) == aS a) || false))) = _
    rw [Bool.or_false, b "" _ h0, b "(" _ (h1 40), b " " _ (h1 32)]
  rw [e]
  by_cases x : a = none <;> by_cases y : a = some 40 <;> by_cases z : a = some 32 <;> simp [x, y, z]
theorem in_an (c : Nat) : decide (c ∈ ("abcdefghijklmnopqrstuvwxyz0123456789" : Str).cps.toList) = isAn c := by
  have e : ("abcdefghijklmnopqrstuvwxyz0123456789" : Str).cps.toList = (LET : Str).cps.toList ++ (FIG : Str).cps.toList := by decide +kernel
  rw [e]
  unfold isAn
  rw [← mem_let, ← mem_fig]
  by_cases x : c ∈ (LET : Str).cps.toList <;> by_cases y : c ∈ (FIG : Str).cps.toList <;> simp [x, y]
def parBody : List Stmt := match defBody sLawParsed with
  | [_, .For _ _ b _ _, _, _] => b
  | _ => []
def parFl : Stmt := parBody.getD 2 (.Pass ⟨0, 0, 0, 0⟩)
def parSg : Stmt := parBody.getD 3 (.Pass ⟨0, 0, 0, 0⟩)
def parFl2 : Stmt := match defBody sLawParsed with
  | [_, _, b, _] => b
  | _ => .Pass ⟨0, 0, 0, 0⟩
section
variable {P : Program} {w : World} {K : PySem.W.Frag} {mg : Str → Option Value} {base : Heap} {f : Addr} {fd : FuncData}
/-- what the walks of the parts promise -/
def EmptyR (H : Hp) (Q : VK) : Prop := ∀ H2, Same H H2 → ∀ p, H2 p = none → Q (.ref p) (upd H2 p (.lst []))
def FlOk (K : PySem.W.Frag) (t : TS) : Prop := ∀ (H : Hp) (oo : Addr) (B : Nat) (z u : Str) (line : List (List PyData)) (x3 x4 x5 x6 : Option V) (D : Ends) (H1 : Hp), H oo = none → Pl K H oo B line H1 → B ≤ 5000000 → (tl u).all isAn = true → (tl u).length ≤ 640 →
  (∀ st' H2, flush ⟨line, tl u⟩ = some st' → st'.word = [] → Pl K H oo (B + 1) st'.line H2 → D.nx [some (.str z), some (.ref oo), some (.str ""), x3, x4, x5, x6] H2) → (flush ⟨line, tl u⟩ = none → EmptyR H D.rt) → t D [some (.str z), some (.ref oo), some (.str u), x3, x4, x5, x6] H1
theorem ok_fl {cdv : Value} {A : Around} {outer : List Env} {s : Shared} {H0 : Hp} {E : XK} (mf : Fx mg) (GW : Has P w K mg base CX0 1 "_law_is_word" ["word"] spIsWord) (hr : Room 1 (A.deeper (envOfC dLawParsed.qual dLawParsed.scope s.heap.objs.size f cdv))) :
    (∃ t, PS (cxOf CX0 P w K mg base nLawParsed dLawParsed.qual dLawParsed.scope f cdv A outer s H0 E).nox parFl t ∧ FlOk K t) := by
  refine ⟨_, ps_if (tcm op_ne (pv 2) pe_str) (pss_cons (ps_if (pt_not (pt_val (pc GW hr (pa_cons (pv 2) pa_nil)))) (pss_one (ps_ret (pe_lst pa_nil))) pss_nil)
    (pss_cons (ps_expr (pe_bm PySem.F.plainAttrs_list PySem.F.slot_list_append PySem.F.type_list_append mt_append (pe_ix ix_list (pv 1) (pe_un un_neg pe_int) (fun _ _ => rfl)) (pa_cons
      (pe_ifExp (tcm op_in_sign (pe_item_str (pv 2) pe_int (fun _ _ => rfl)) pe_str) (pty call_int_str mf.int (pa_cons (pv 2) pa_nil)) (pv 2)) pa_nil)))
    (pss_one (ps_set (i := 2) scLawParsed.nd rfl (Or.inl rfl) pe_str)))) pss_nil, ?_⟩
  intro H oo B z u line x3 x4 x5 x6 D H1 ho hp hB ha hl q1 q2
  have ul : u.length = (tl u).length := len_tl u
  refine ⟨_, rfl, rfl, _, rfl, ?_⟩
  by_cases h0 : tl u = []
  · have eu : u = "" := ext_tl h0
    subst eu
    exact ifF rfl (q1 ⟨line, []⟩ H1 rfl rfl (hp.mono (Same.refl _) (Nat.le_succ B)))
  · refine ifT (by rw [decide_eq_false fun e => h0 (by injection e with e; rw [e]; rfl)]; rfl) ⟨_, rfl, u, rfl, h0, by rw [ul, sizeLine_eq]; omega, fun H2 k2 => ⟨_, rfl, ?_⟩⟩
    have hfl : flush ⟨line, tl u⟩ = if wordOk (tl u) = true then (match line with
      | top :: r => some ⟨(top ++ [wordVal (tl u)]) :: r, []⟩
      | [] => none) else none := by
      unfold flush
      rw [if_neg h0]
      all_goals rfl
    cases hw : wordOk (tl u) with
    | false =>
      rw [hw] at hfl
      exact ⟨Nat.zero_le _, fun p hpn => q2 hfl H2 (hp.same.trans k2) p hpn⟩
    | true =>
      rw [hw, if_pos rfl] at hfl
      have hp2 := hp.mono k2 (Nat.le_refl B)
      obtain ⟨rs, _, _, _, nn⟩ := hp2.len
      cases line with
      | nil => exact absurd rfl nn
      | cons top r =>
        obtain ⟨rs, l, xs, eo, _, hlo, h0l, el, hd, gd, hb, push⟩ := hp2.tops ho
        obtain ⟨wg, _⟩ := wordVal_ok h0 ha hw
        obtain ⟨c, rr, ec, l0, g0⟩ := head_at h0
        refine ⟨_, rfl, 1, rfl, oo, _, _, .ref l, rfl, rfl, SqL.of eo, atI_last _ _, .inl ⟨rfl, _, SqL.of el⟩, ?_⟩
        refine ⟨_, rfl, u, 0, c, rfl, rfl, Int.le_refl 0, by decide, l0, g0, c, FIG, rfl, rfl, _, rfl, ?_⟩
        rw [mem_fig]
        have bnd : xs.length < sizeLine := by rw [sizeLine_eq]; omega
        have wv : wordVal (tl u) = if isFig c = true then .int (NumText.digitsVal (tl u) : Nat) else .str ⟨(tl u).toArray⟩ := by unfold wordVal; rw [ec]; rfl
        cases hc : isFig c with
        | true =>
          rw [hc, if_pos rfl] at wv
          have hall : (tl u).all isFig = true := by
            unfold wordOk at hw
            split at hw
            · rename_i h; exact filter_len_all h
            · simp only [Bool.and_eq_true, decide_eq_true_eq] at hw
              have : c ∈ (tl u).filter isFig := List.mem_filter.mpr ⟨by rw [ec]; exact List.mem_cons_self, hc⟩
              rw [hw.1] at this
              cases this
          have ey : u = S (tl u) := (mk_tl u).symm
          refine ifT rfl ⟨_, rfl, u, _, rfl, (by rw [ey]; exact int_of hall h0 hl), by rw [ul]; exact hl, l, xs, _, rfl, rfl, el, bnd, ?_⟩
          refine q1 _ _ hfl rfl (push _ _ ?_ wg)
          rw [wv]
          exact .int _
        | false =>
          rw [hc, if_neg (by decide)] at wv
          refine ifF rfl ⟨_, rfl, l, xs, _, rfl, rfl, el, bnd, ?_⟩
          refine q1 _ _ hfl rfl (push _ _ ?_ wg)
          rw [wv]
          exact .str u
def FlOk2 (K : PySem.W.Frag) (t : TS) : Prop := ∀ (H : Hp) (oo : Addr) (B : Nat) (z u : Str) (line : List (List PyData)) (x3 x4 x5 x6 : Option V) (D : Ends) (H1 : Hp), H oo = none → Pl K H oo B line H1 → B ≤ 5000000 → (tl u).all isAn = true → (tl u).length ≤ 640 →
  (∀ st' H2, flush ⟨line, tl u⟩ = some st' → st'.word = [] → Pl K H oo (B + 1) st'.line H2 → D.nx [some (.str z), some (.ref oo), some (.str u), x3, x4, x5, x6] H2) → (flush ⟨line, tl u⟩ = none → EmptyR H D.rt) → t D [some (.str z), some (.ref oo), some (.str u), x3, x4, x5, x6] H1
theorem ok_fl2 {cdv : Value} {A : Around} {outer : List Env} {s : Shared} {H0 : Hp} {E : XK} (mf : Fx mg) (GW : Has P w K mg base CX0 1 "_law_is_word" ["word"] spIsWord) (hr : Room 1 (A.deeper (envOfC dLawParsed.qual dLawParsed.scope s.heap.objs.size f cdv))) :
    (∃ t, PS (cxOf CX0 P w K mg base nLawParsed dLawParsed.qual dLawParsed.scope f cdv A outer s H0 E).nox parFl2 t ∧ FlOk2 K t) := by
  refine ⟨_, ps_if (tcm op_ne (pv 2) pe_str) (pss_cons (ps_if (pt_not (pt_val (pc GW hr (pa_cons (pv 2) pa_nil)))) (pss_one (ps_ret (pe_lst pa_nil))) pss_nil)
    (pss_one (ps_expr (pe_bm PySem.F.plainAttrs_list PySem.F.slot_list_append PySem.F.type_list_append mt_append (pe_ix ix_list (pv 1) (pe_un un_neg pe_int) (fun _ _ => rfl)) (pa_cons
      (pe_ifExp (tcm op_in_sign (pe_item_str (pv 2) pe_int (fun _ _ => rfl)) pe_str) (pty call_int_str mf.int (pa_cons (pv 2) pa_nil)) (pv 2)) pa_nil))))) pss_nil, ?_⟩
  intro H oo B z u line x3 x4 x5 x6 D H1 ho hp hB ha hl q1 q2
  have ul : u.length = (tl u).length := len_tl u
  refine ⟨_, rfl, rfl, _, rfl, ?_⟩
  by_cases h0 : tl u = []
  · have eu : u = "" := ext_tl h0
    subst eu
    exact ifF rfl (q1 ⟨line, []⟩ H1 rfl rfl (hp.mono (Same.refl _) (Nat.le_succ B)))
  · refine ifT (by rw [decide_eq_false fun e => h0 (by injection e with e; rw [e]; rfl)]; rfl) ⟨_, rfl, u, rfl, h0, by rw [ul, sizeLine_eq]; omega, fun H2 k2 => ⟨_, rfl, ?_⟩⟩
    have hfl : flush ⟨line, tl u⟩ = if wordOk (tl u) = true then (match line with
      | top :: r => some ⟨(top ++ [wordVal (tl u)]) :: r, []⟩
      | [] => none) else none := by
      unfold flush
      rw [if_neg h0]
      all_goals rfl
    cases hw : wordOk (tl u) with
    | false =>
      rw [hw] at hfl
      exact ⟨Nat.zero_le _, fun p hpn => q2 hfl H2 (hp.same.trans k2) p hpn⟩
    | true =>
      rw [hw, if_pos rfl] at hfl
      have hp2 := hp.mono k2 (Nat.le_refl B)
      obtain ⟨rs, _, _, _, nn⟩ := hp2.len
      cases line with
      | nil => exact absurd rfl nn
      | cons top r =>
        obtain ⟨rs, l, xs, eo, _, hlo, h0l, el, hd, gd, hb, push⟩ := hp2.tops ho
        obtain ⟨wg, _⟩ := wordVal_ok h0 ha hw
        obtain ⟨c, rr, ec, l0, g0⟩ := head_at h0
        refine ⟨_, rfl, 1, rfl, oo, _, _, .ref l, rfl, rfl, SqL.of eo, atI_last _ _, .inl ⟨rfl, _, SqL.of el⟩, ?_⟩
        refine ⟨_, rfl, u, 0, c, rfl, rfl, Int.le_refl 0, by decide, l0, g0, c, FIG, rfl, rfl, _, rfl, ?_⟩
        rw [mem_fig]
        have bnd : xs.length < sizeLine := by rw [sizeLine_eq]; omega
        have wv : wordVal (tl u) = if isFig c = true then .int (NumText.digitsVal (tl u) : Nat) else .str ⟨(tl u).toArray⟩ := by unfold wordVal; rw [ec]; rfl
        cases hc : isFig c with
        | true =>
          rw [hc, if_pos rfl] at wv
          have hall : (tl u).all isFig = true := by
            unfold wordOk at hw
            split at hw
            · rename_i h; exact filter_len_all h
            · simp only [Bool.and_eq_true, decide_eq_true_eq] at hw
              have : c ∈ (tl u).filter isFig := List.mem_filter.mpr ⟨by rw [ec]; exact List.mem_cons_self, hc⟩
              rw [hw.1] at this
              cases this
          have ey : u = S (tl u) := (mk_tl u).symm
          refine ifT rfl ⟨_, rfl, u, _, rfl, (by rw [ey]; exact int_of hall h0 hl), by rw [ul]; exact hl, l, xs, _, rfl, rfl, el, bnd, ?_⟩
          refine q1 _ _ hfl rfl (push _ _ ?_ wg)
          rw [wv]
          exact .int _
        | false =>
          rw [hc, if_neg (by decide)] at wv
          refine ifF rfl ⟨_, rfl, l, xs, _, rfl, rfl, el, bnd, ?_⟩
          refine q1 _ _ hfl rfl (push _ _ ?_ wg)
          rw [wv]
          exact .str u
end
end K16W
end
section
set_option Elab.async false
set_option linter.all false
set_option maxRecDepth 100000
set_option maxHeartbeats 8000000
namespace K16W
open PySem PySem.Spec PyProof.Rows L2 K16R K16T K16D TL K16 SX
section
variable {P : Program} {w : World} {K : PySem.W.Frag} {mg : Str → Option Value} {base : Heap} {f : Addr} {fd : FuncData}
def SgOk (K : PySem.W.Frag) (t : TS) : Prop := ∀ (H : Hp) (oo : Addr) (B : Nat) (z : Str) (c : Nat) (ahead : Option Nat) (line : List (List PyData)) (x2 x3 x6 : Option V) (D : Ends) (H1 : Hp), H oo = none → Pl K H oo B line H1 → B ≤ 5000000 →
  (∀ st' H2 y6, lawSign ahead c ⟨line, []⟩ = some st' → st'.word = [] → Pl K H oo (B + 1) st'.line H2 → D.nx [some (.str z), some (.ref oo), x2, x3, some (.str ⟨#[c]⟩), some (.str (aS ahead)), y6] H2) → (lawSign ahead c ⟨line, []⟩ = none → EmptyR H D.rt) →
  t D [some (.str z), some (.ref oo), x2, x3, some (.str ⟨#[c]⟩), some (.str (aS ahead)), x6] H1
theorem ok_sg {cdv : Value} {A : Around} {outer : List Env} {s : Shared} {H0 : Hp} {E : XK} (mf : Fx mg) {k : Nat} (hr : Room k (A.deeper (envOfC dLawParsed.qual dLawParsed.scope s.heap.objs.size f cdv))) :
    (∃ t, PS (cxOf CX0 P w K mg base nLawParsed dLawParsed.qual dLawParsed.scope f cdv A outer s H0 E).nox parSg t ∧ SgOk K t) := by
  refine ⟨_, ps_if (tcm op_eq (pv 4) pe_str)
    (pss_cons (ps_if (pw_or (tcm op_notIn_seq (pv 5) (pe_tup (pa_cons pe_str (pa_cons pe_str (pa_cons pe_str pa_nil))))) (pw_or1 (pw_and (tcm op_eq (pb call_len_seq mf.len (pa_cons (pv 1) pa_nil)) pe_int) (pw_and1 (tcm (op_neL0 (units_lt hr)) (pe_ix ix_list (pv 1) pe_int (fun _ _ => rfl)) (pe_lst pa_nil)))).pt)).pt (pss_one (ps_ret (pe_lst pa_nil))) pss_nil)
      (pss_one (ps_expr (pe_bm PySem.F.plainAttrs_list PySem.F.slot_list_append PySem.F.type_list_append mt_append (pv 1) (pa_cons (pe_lst pa_nil) pa_nil)))))
    (pss_one (ps_if (tcm op_eq (pv 4) pe_str)
      (pss_cons (ps_if (pw_or (tcm op_lt (pb call_len_seq mf.len (pa_cons (pv 1) pa_nil)) pe_int) (pw_or1 (tcm op_eq (pv 5) pe_str))).pt (pss_one (ps_ret (pe_lst pa_nil))) pss_nil)
      (pss_cons (ps_set (i := 6) scLawParsed.nd rfl (Or.inl rfl) (pty call_tuple_of mf.tuple (pa_cons (pe_bm0 PySem.F.plainAttrs_list PySem.F.slot_list_pop PySem.F.type_list_pop mt_pop (pv 1)) pa_nil)))
        (pss_one (ps_expr (pe_bm PySem.F.plainAttrs_list PySem.F.slot_list_append PySem.F.type_list_append mt_append (pe_ix ix_list (pv 1) (pe_un un_neg pe_int) (fun _ _ => rfl)) (pa_cons (pv 6) pa_nil))))))
      (pss_one (ps_if (tcm op_eq (pv 4) pe_str)
        (pss_one (ps_if (pw_or (tcm op_lt (pb call_len_seq mf.len (pa_cons (pv 1) pa_nil)) pe_int) (pw_or1 (tcm op_in_seq (pv 5) (pe_tup (pa_cons pe_str (pa_cons pe_str (pa_cons pe_str pa_nil))))))).pt (pss_one (ps_ret (pe_lst pa_nil))) pss_nil))
        (pss_one (ps_ret (pe_lst pa_nil))))))), ?_⟩
  intro H oo B z c ahead line x2 x3 x6 D H1 ho hp hB q1 q2
  have z0 : (0 : Nat) ≤ sizeLine := Nat.zero_le _
  have z3 : (3 : Nat) ≤ sizeLine := by decide
  obtain ⟨rs, eo, rl, ll, nn⟩ := hp.len
  have emp : lawSign ahead c ⟨line, []⟩ = none → ∀ H2, Same H1 H2 → (0 : Nat) ≤ sizeLine ∧ ∀ p, H2 p = none → D.rt (.ref p) (upd H2 p (.lst [])) := fun e H2 k => ⟨z0, fun p hpn => q2 e H2 (hp.same.trans k) p hpn⟩
  have fl3 : ∀ x ∈ ([.str "", .str "(", .str " "] : List V), flatV x = true := fun x hx => by
    simp only [List.mem_cons, List.not_mem_nil, or_false] at hx
    rcases hx with e | e | e <;> rw [e] <;> rfl
  refine ⟨_, rfl, rfl, _, rfl, ?_⟩
  by_cases c40 : c = 40
  · subst c40
    have hl : lawSign ahead 40 ⟨line, []⟩ = if (ahead ≠ none ∧ ahead ≠ some 40 ∧ ahead ≠ some 32) ∨ (line.length = 1 ∧ (line.headD []).length ≠ 0) then none else some ⟨[] :: line, []⟩ := rfl
    refine ifT (s1eq 40 40) ⟨_, rfl, z3, fun p hpn => ⟨p, _, rfl, .inr (SqT.of upd_same), rfl, rfl, _, rfl, ?_⟩⟩
    have k1 := same_upd hpn (.tup [.str "", .str "(", .str " "])
    generalize upd H1 p (.tup [.str "", .str "(", .str " "]) = H2 at k1
    have hp2 := hp.mono k1 (Nat.le_refl B)
    show if (!inV (.str (aS ahead)) [.str "", .str "(", .str " "]) = true then _ else _
    rw [aS_in]
    by_cases ha : ahead = none ∨ ahead = some 40 ∨ ahead = some 32
    · have hn : ¬ (ahead ≠ none ∧ ahead ≠ some 40 ∧ ahead ≠ some 32) := fun ⟨a, b, c⟩ => by rcases ha with e | e | e; exact a e; exact b e; exact c e
      refine ifF (by rw [decide_eq_true ha]; rfl) ⟨_, rfl, oo, rs, rfl, .inl (SqL.of (k1 _ _ eo)), rfl, _, rfl, ?_⟩
      have opened : lawSign ahead 40 ⟨line, []⟩ = some ⟨[] :: line, []⟩ → ∀ H3, Same H2 H3 → (0 : Nat) ≤ sizeLine ∧ ∀ l, H3 l = none → ∃ (p : Addr) (ys : List V) (y : V), V.ref oo = .ref p ∧ [V.ref l] = [y] ∧ upd H3 l (.lst []) p = some (.lst ys) ∧ ys.length < sizeLine ∧ D.nx [some (.str z), some (.ref oo), x2, x3, some (.str ⟨#[40]⟩), some (.str (aS ahead)), x6] (upd (upd H3 l (.lst [])) p (.lst (ys ++ [y]))) := fun e H3 k3 => ⟨z0, fun l hl3 => by
        obtain ⟨rs2, e2, l2, hp3⟩ := (hp2.mono k3 (Nat.le_refl B)).opened ho hl3
        exact ⟨oo, rs2, _, rfl, rfl, e2, by rw [l2, sizeLine_eq]; omega, q1 _ _ x6 e rfl hp3⟩⟩
      by_cases h1 : line.length = 1
      · refine ifT (decide_eq_true (by rw [rl, h1]; rfl)) ?_
        match line, h1, hl, hp2, emp, opened with
        | [top], _, hl, hp2, emp, opened =>
          obtain ⟨rs2, l, xs, eo2, rl2, hlo, h0l, el, hd, gd, hb, _⟩ := hp2.tops ho
          have e0 : rs2 = [] := List.length_eq_zero_iff.mp rl2
          subst e0
          have xl := dps_len hd
          refine ⟨_, rfl, oo, _, 0, .ref l, rfl, rfl, SqL.of eo2, atI_nat (j := 0) rfl, z0, fun e0 he0 => ⟨l, e0, xs, [], rfl, rfl, SqL.of (same_upd he0 (.lst []) _ _ el), SqL.of upd_same, rfl, _, rfl, ?_⟩⟩
          by_cases ht : top = []
          · subst ht
            have ex : xs = [] := List.length_eq_zero_iff.mp xl
            subst ex
            refine ifF rfl ⟨_, rfl, .inl ⟨rfl, _, SqL.of (same_upd he0 (.lst []) _ _ (k1 _ _ eo))⟩, opened ?_ _ (same_upd he0 (.lst []))⟩
            rw [hl, if_neg]
            rintro (h | h)
            · exact hn h
            · exact h.2 rfl
          · have ex : xs ≠ [] := fun e => ht (List.length_eq_zero_iff.mp (by rw [← xl, e]; rfl))
            refine ifT (by cases xs with | nil => exact absurd rfl ex | cons a b => rfl) (emp ?_ _ (k1.trans (same_upd he0 _)))
            rw [hl, if_pos]
            exact .inr ⟨rfl, fun e => ht (List.length_eq_zero_iff.mp e)⟩
      · refine ifF (decide_eq_false fun e => h1 (by injection e with e; omega)) (ifF rfl ⟨_, rfl, .inl ⟨rfl, _, SqL.of (k1 _ _ eo)⟩, opened ?_ H2 (Same.refl _)⟩)
        rw [hl, if_neg]
        rintro (h | h)
        · exact hn h
        · exact h1 h.1
    · refine ifT (by rw [decide_eq_false ha]; rfl) (emp ?_ H2 k1)
      rw [hl, if_pos]
      exact .inl ⟨fun e => ha (.inl e), fun e => ha (.inr (.inl e)), fun e => ha (.inr (.inr e))⟩
  refine ifF ((s1eq c 40).trans (decide_eq_false c40)) ⟨_, rfl, rfl, _, rfl, ?_⟩
  have lt2 : decide (((rs.length : Nat) : Int) < 2) = decide (line.length < 2) := by
    rw [rl]
    by_cases h : line.length < 2
    · rw [decide_eq_true h]; exact decide_eq_true (by omega)
    · rw [decide_eq_false h]; exact decide_eq_false (by omega)
  by_cases c41 : c = 41
  · subst c41
    have hl : lawSign ahead 41 ⟨line, []⟩ = if line.length < 2 ∨ ahead = some 32 then none else (match line with
      | top :: nxt :: r => some ⟨(nxt ++ [.tuple top]) :: r, []⟩
      | _ => none) := rfl
    refine ifT (s1eq 41 41) ⟨_, rfl, oo, rs, rfl, .inl (SqL.of eo), _, _, rfl, rfl, _, rfl, ?_⟩
    by_cases h2 : line.length < 2
    · refine ifT (lt2.trans (decide_eq_true h2)) (emp ?_ H1 (Same.refl _))
      rw [hl, if_pos (.inl h2)]
    · refine ifF (lt2.trans (decide_eq_false h2)) ⟨_, rfl, rfl, _, rfl, ?_⟩
      by_cases h3 : ahead = some 32
      · refine ifT ((aS_eq ahead 32).trans (decide_eq_true h3)) (emp ?_ H1 (Same.refl _))
        rw [hl, if_pos (.inr h3)]
      · refine ifF ((aS_eq ahead 32).trans (decide_eq_false h3)) ?_
        rw [if_neg (fun h => h.elim h2 h3)] at hl
        match line, h2, hl, hp with
        | [], h2, _, _ => exact absurd (show ([] : List (List PyData)).length < 2 by decide) h2
        | [_], h2, _, _ => exact absurd (show 1 < 2 by decide) h2
        | top :: nxt :: r, _, hl, hp =>
          obtain ⟨rs2, l, xs, eo2, hp2, el, hd, gd⟩ := hp.popped ho
          refine ⟨_, rfl, .inl ⟨rfl, _, SqL.of eo2⟩, oo, _, .ref l, rfl, rfl, eo2, by simp, ?_⟩
          rw [List.dropLast_concat]
          generalize upd H1 oo (.lst rs2) = G1 at hp2 el hd
          refine ⟨l, xs, rfl, .inl ⟨SqL.of el, fun t ht => ?_⟩⟩
          have k3 := same_upd ht (.tup xs)
          have et : upd G1 t (.tup xs) t = some (.tup xs) := upd_same
          generalize upd G1 t (.tup xs) = G2 at k3 et
          obtain ⟨rs3, l2, xs2, eo3, _, hlo, h0l, el2, hd2, gd2, hb2, push⟩ := (hp2.mono k3 (Nat.le_refl B)).tops ho
          refine ⟨_, rfl, 1, rfl, oo, _, _, .ref l2, rfl, rfl, SqL.of eo3, atI_last _ _, .inl ⟨rfl, _, SqL.of el2⟩, _, rfl, l2, xs2, _, rfl, rfl, el2, by rw [sizeLine_eq]; omega, ?_⟩
          exact q1 _ _ _ hl rfl (push _ _ (.tup (SqT.of et) (dps_mono k3 hd)) gd)
  refine ifF ((s1eq c 41).trans (decide_eq_false c41)) ⟨_, rfl, rfl, _, rfl, ?_⟩
  by_cases c32 : c = 32
  · subst c32
    have hl : lawSign ahead 32 ⟨line, []⟩ = if line.length < 2 ∨ ahead = some 40 ∨ ahead = some 32 ∨ ahead = none then none else some ⟨line, []⟩ := rfl
    refine ifT (s1eq 32 32) ⟨_, rfl, oo, rs, rfl, .inl (SqL.of eo), _, _, rfl, rfl, _, rfl, ?_⟩
    by_cases h2 : line.length < 2
    · refine ifT (lt2.trans (decide_eq_true h2)) (emp ?_ H1 (Same.refl _))
      rw [hl, if_pos (.inl h2)]
    · refine ifF (lt2.trans (decide_eq_false h2)) ⟨_, rfl, z3, fun p hpn => ⟨p, _, rfl, .inr (SqT.of upd_same), rfl, rfl, _, rfl, ?_⟩⟩
      have k1 := same_upd hpn (.tup [.str "(", .str " ", .str ""])
      generalize upd H1 p (.tup [.str "(", .str " ", .str ""]) = H2 at k1
      have hp2 := hp.mono k1 (Nat.le_succ B)
      have e : inV (.str (aS ahead)) [.str "(", .str " ", .str ""] = decide (ahead = none ∨ ahead = some 40 ∨ ahead = some 32) := by
        rw [← aS_in]
        show ((("(" : Str) == aS ahead) || (((" " : Str) == aS ahead) || ((("" : Str) == aS ahead) || false))) = ((("" : Str) == aS ahead) || ((("(" : Str) == aS ahead) || (((" " : Str) == aS ahead) || false)))
        cases (("(" : Str) == aS ahead) <;> cases ((" " : Str) == aS ahead) <;> cases (("" : Str) == aS ahead) <;> rfl
      show if inV (.str (aS ahead)) [.str "(", .str " ", .str ""] = true then _ else _
      rw [e]
      by_cases ha : ahead = none ∨ ahead = some 40 ∨ ahead = some 32
      · refine ifT (decide_eq_true ha) (emp ?_ H2 k1)
        rw [hl, if_pos]
        rcases ha with h | h | h
        · exact .inr (.inr (.inr h))
        · exact .inr (.inl h)
        · exact .inr (.inr (.inl h))
      · refine ifF (decide_eq_false ha) (q1 ⟨line, []⟩ H2 x6 ?_ rfl hp2)
        rw [hl, if_neg]
        rintro (h | h | h | h)
        · exact h2 h
        · exact ha (.inr (.inl h))
        · exact ha (.inr (.inr h))
        · exact ha (.inl h)
  · refine ifF ((s1eq c 32).trans (decide_eq_false c32)) (emp ?_ H1 (Same.refl _))
    unfold lawSign
    rw [if_neg c40, if_neg c41, if_neg c32]
end
end K16W
end
section
set_option Elab.async false
set_option linter.all false
set_option maxRecDepth 100000
set_option maxHeartbeats 8000000
namespace K16W
open PySem PySem.Spec PyProof.Rows L2 K16R K16T K16D TL K16 SX
def ahd (l : List Nat) (i : Nat) : Option Nat := if l.take i = [] then none else some ((l.take i).getLastD 0)
theorem ahd_pos {l : List Nat} {i c : Nat} (h : l[i]? = some c) : ahd l (i + 1) = some c := by
  have e : l.take (i + 1) = l.take i ++ [c] := by rw [List.take_succ, h]; rfl
  unfold ahd
  rw [e, if_neg (by simp), List.getLastD_concat]
theorem ahd_zero (l : List Nat) : ahd l 0 = none := rfl
theorem law_next {l : List Nat} {i c : Nat} {st : LS} (h : l[i]? = some c) (hr : lawRun none (l.take i) ⟨[[]], []⟩ = some st) : lawRun none (l.take (i + 1)) ⟨[[]], []⟩ = lawStep (ahd l i) c st := by
  have e : l.take (i + 1) = l.take i ++ [c] := by rw [List.take_succ, h]; rfl
  rw [e, lawRun_append, hr]
  show (lawStep _ c st).bind (fun s => some s) = _
  unfold ahd
  cases lawStep (if l.take i = [] then none else some ((l.take i).getLastD 0)) c st <;> rfl
theorem law_dead {l : List Nat} {i : Nat} (h : lawRun none (l.take i) ⟨[[]], []⟩ = none) : lawParsed l = none := by
  unfold lawParsed
  have e : lawRun none l ⟨[[]], []⟩ = none := by
    conv => lhs; rw [← List.take_append_drop i l]
    rw [lawRun_append, h]
    rfl
  rw [e]
  rfl
section
variable {P : Program} {w : World} {K : PySem.W.Frag} {mg : Str → Option Value} {base : Heap} {f : Addr} {fd : FuncData}
def spParsed (K : PySem.W.Frag) : Sp := fun vs H Q _ => ∃ z : Str, vs = [.str z] ∧ (tl z).length ≤ 2000000 ∧ rk 640 0 (tl z) ∧
  ∀ H' p xs, Same H H' → H p = none → H' p = some (.lst xs) → DpAll K H' xs (optL (lawParsed (tl z))) → Q (.ref p) H'
def Ivp (K : PySem.W.Frag) (H : Hp) (oo : Addr) (z : Str) (i : Nat) (σ : St) (H' : Hp) : Prop :=
  ∃ st u x3 x4 x5 x6, σ = [some (.str z), some (.ref oo), some (.str u), x3, x4, x5, x6] ∧ tl u = st.word ∧ lawRun none ((tl z).take i) ⟨[[]], []⟩ = some st ∧ Pl K H oo (2 * i) st.line H' ∧ st.word.all isAn = true ∧ rk 640 st.word.length ((tl z).drop i)
def parRest : List Stmt := match parBody with
  | _ :: r => r
  | [] => []
def RsOk (K : PySem.W.Frag) (t : TS) : Prop := ∀ (H : Hp) (oo : Addr) (z : Str) (i c : Nat) (st : LS) (u : Str) (x6 : Option V) (D : Ends) (H1 : Hp), H oo = none → (tl z).length ≤ 2000000 → (tl z)[i]? = some c → tl u = st.word → lawRun none ((tl z).take i) ⟨[[]], []⟩ = some st → Pl K H oo (2 * i) st.line H1 → st.word.all isAn = true → rk 640 st.word.length ((tl z).drop i) →
  (∀ σ' H', Ivp K H oo z (i + 1) σ' H' → D.nx σ' H') → (∀ σ' H', Ivp K H oo z (i + 1) σ' H' → D.ct σ' H') → (lawParsed (tl z) = none → EmptyR H D.rt) → t D [some (.str z), some (.ref oo), some (.str u), some (.int (i : Nat)), some (.str ⟨#[c]⟩), some (.str (aS (ahd (tl z) i))), x6] H1
theorem ok_rs {cdv : Value} {A : Around} {outer : List Env} {s : Shared} {H0 : Hp} {E : XK} (mf : Fx mg) (GW : Has P w K mg base CX0 1 "_law_is_word" ["word"] spIsWord) (hr : Room 1 (A.deeper (envOfC dLawParsed.qual dLawParsed.scope s.heap.objs.size f cdv))) :
    (∃ t, PSs (cxOf CX0 P w K mg base nLawParsed dLawParsed.qual dLawParsed.scope f cdv A outer s H0 E).nox parRest t ∧ RsOk K t) := by
  obtain ⟨tf, hf, rf⟩ := ok_fl (cdv := cdv) (outer := outer) (s := s) (H0 := H0) (E := E) mf GW hr
  obtain ⟨ts, hs, rs⟩ := ok_sg (P := P) (w := w) (K := K) (mg := mg) (base := base) (cdv := cdv) (outer := outer) (s := s) (H0 := H0) (E := E) mf hr
  refine ⟨_, pss_cons (ps_if (tcm op_in_sign (pv 4) pe_str)
        (pss_cons (ps_if (pw_and (tcm op_eq (pv 2) pe_str) (pw_and1 (tcm op_eq (pv 5) pe_str))).pt (pss_one (ps_ret (pe_lst pa_nil))) pss_nil)
        (pss_cons (ps_set (i := 2) scLawParsed.nd rfl (Or.inl rfl) (pe_op op_add_str (pv 2) (pv 4))) (pss_one ps_continue))) pss_nil)
      (pss_cons hf (pss_one hs)), ?_⟩
  intro H oo z i c st u x6 D H1 ho hl hc eu hrun hp ha hrk hnx hct hem
  have ilt : i < (tl z).length := (List.getElem?_eq_some_iff.mp hc).1
  have hdrop : (tl z).drop i = c :: (tl z).drop (i + 1) := by
    rw [List.drop_eq_getElem_cons ilt]
    congr 1
    exact (List.getElem?_eq_some_iff.mp hc).2
  have nxt := law_next hc hrun
  have w640 := rk_le hrk
  rw [hdrop] at hrk
  unfold rk at hrk
  have ul : u.length = st.word.length := by rw [len_tl, eu]
  have emp : lawStep (ahd (tl z) i) c st = none → EmptyR H D.rt := fun e => hem (law_dead (i := i + 1) (by rw [nxt, e]))
  have ahp := ahd_pos hc
  refine ⟨_, rfl, c, _, rfl, rfl, _, rfl, ?_⟩
  show if decide (c ∈ ("abcdefghijklmnopqrstuvwxyz0123456789" : Str).cps.toList) = true then _ else _
  rw [in_an]
  cases hA : isAn c with
  | true =>
    rw [if_pos hA] at hrk
    have step : lawStep (ahd (tl z) i) c st = if st.word = [] ∧ ahd (tl z) i = some 41 then none else some ⟨st.line, st.word ++ [c]⟩ := by unfold lawStep; rw [if_pos hA]
    have go : ¬ (st.word = [] ∧ ahd (tl z) i = some 41) → (tAsg (tOp (fun x y H Q => ∃ i j, x = V.str i ∧ y = V.str j ∧ i.length + j.length ≤ sizeLine ∧ Q (.str (i ++ j)) H) (tVar 2) (tVar 4)) (gName 2)) { D with nx := D.ct } [some (.str z), some (.ref oo), some (.str u), some (.int (i : Nat)), some (.str ⟨#[c]⟩), some (.str (aS (ahd (tl z) i))), x6] H1 := fun hn => by
      refine ⟨_, rfl, _, rfl, _, _, rfl, rfl, by rw [ul, sizeLine_eq]; show _ + 1 ≤ _; omega, ?_⟩
      exact hct _ _ ⟨⟨st.line, st.word ++ [c]⟩, u ++ ⟨#[c]⟩, _, _, _, _, rfl, by rw [tl_append, eu]; first | rfl | done, by rw [nxt, step, if_neg hn], hp.mono (Same.refl _) (by omega), by rw [List.all_append, ha]; simp [hA], by rw [List.length_append]; exact hrk⟩
    refine ifT rfl ⟨_, rfl, rfl, _, rfl, ?_⟩
    by_cases h1 : st.word = []
    · have e1 : u = "" := ext_tl (eu.trans h1)
      refine ifT (by rw [e1]; rfl) ⟨_, rfl, rfl, _, rfl, ?_⟩
      by_cases h2 : ahd (tl z) i = some 41
      · refine ifT ((aS_eq _ 41).trans (decide_eq_true h2)) ⟨Nat.zero_le _, fun p hpn => emp ?_ H1 hp.same p hpn⟩
        rw [step, if_pos ⟨h1, h2⟩]
      · exact ifF ((aS_eq _ 41).trans (decide_eq_false h2)) (go fun h => h2 h.2)
    · exact ifF (decide_eq_false fun e => h1 (by injection e with e; rw [← eu, e]; rfl)) (ifF rfl (go fun h => h1 h.1))
  | false =>
    rw [if_neg (by rw [hA]; decide)] at hrk
    have step : lawStep (ahd (tl z) i) c st = (flush st).bind (lawSign (ahd (tl z) i) c) := by unfold lawStep; rw [if_neg (by rw [hA]; decide)]
    have est : (⟨st.line, tl u⟩ : LS) = st := by rw [eu]
    refine ifF rfl (rf H oo (2 * i) z u st.line _ _ _ _ _ H1 ho hp (by omega) (by rw [eu]; exact ha) (by rw [eu]; omega) (fun st' H2 e ew hp2 => ?_) (fun e => emp ?_))
    · rw [est] at e
      have est2 : (⟨st'.line, []⟩ : LS) = st' := by rw [← ew]
      refine rs H oo (2 * i + 1) z c _ st'.line _ _ _ _ H2 ho hp2 (by omega) (fun st2 H3 y6 e2 ew2 hp3 => ?_) (fun e2 => emp ?_)
      · refine hnx _ _ ⟨st2, "", _, _, _, _, rfl, by rw [ew2]; rfl, by rw [nxt, step, e, ← est2]; exact e2, hp3.mono (Same.refl _) (by omega), by rw [ew2]; rfl, by rw [ew2]; exact hrk.2⟩
      · rw [step, e, ← est2]
        exact e2
    · rw [est] at e
      rw [step, e]
      rfl
theorem ok_parsed (mf : Fx mg) (GW : Has P w K mg base CX0 1 "_law_is_word" ["word"] spIsWord) (F : FnP K dLawParsed f fd) : FnOk P w K mg base CX0 2 f fd ["said"] (spParsed K) := by
  refine F.ok scLawParsed (fun vs H Q E h => ?_) (fun cdv A outer s H vs Q E hr h => ?_)
  · obtain ⟨z, rfl, _⟩ := h
    rfl
  obtain ⟨tr, hR, rr⟩ := ok_rs (cdv := cdv) (outer := outer) (s := s) (H0 := H) (E := E) mf GW hr
  obtain ⟨tf2, hf2, rf2⟩ := ok_fl2 (cdv := cdv) (outer := outer) (s := s) (H0 := H) (E := E) mf GW hr
  refine ⟨_, PSs.nox (pss_cons (ps_par (i := 1) (j := 2) rfl scLawParsed.nd rfl rfl (by decide) rfl rfl (pa_cons (pe_lst (pa_cons (pe_lst pa_nil) pa_nil)) (pa_cons pe_str pa_nil)) rfl)
    (pss_cons (ps_for PassesOwn.never rfl (pi_enS rfl mf.enum (pa_cons (pv 0) pa_nil)) (pg_tup rfl (pgs_cons (pg_name (i := 3) scLawParsed.nd rfl (Or.inl rfl)) (pgs_cons (pg_name (i := 4) scLawParsed.nd rfl (Or.inl rfl)) pgs_nil)))
      (pss_cons (ps_set (i := 5) scLawParsed.nd rfl (Or.inl rfl) (pe_ifExp (tcm op_gt (pv 3) pe_int) (pe_item_str (pv 0) (pe_op op_sub (pv 3) pe_int) (fun _ _ => rfl)) pe_str))
      hR))
    (pss_cons hf2
    (pss_one (ps_ret (pe_ifExp (pw_and (tcm op_eq (pb call_len_seq mf.len (pa_cons (pv 1) pa_nil)) pe_int) (pw_and1 (tcm op_eq (pb call_len_seq mf.len (pa_cons (pe_ix ix_list (pv 1) pe_int (fun _ _ => rfl)) pa_nil)) pe_int))).pt
      (pe_ix ix_list (pv 1) pe_int (fun _ _ => rfl)) (pe_lst pa_nil))))))), ?_⟩
  obtain ⟨z, rfl, hl, hk, q⟩ := h
  have z0 : (0 : Nat) ≤ sizeLine := Nat.zero_le _
  have z1 : (1 : Nat) ≤ sizeLine := by decide
  have zl : z.length = (tl z).length := len_tl z
  have zs : z.cps.size = (tl z).length := by unfold tl; rw [Array.length_toList]
  have hz : z.length ≤ sizeLine := by rw [zl, sizeLine_eq]; omega
  have empty : lawParsed (tl z) = none → EmptyR H Q := fun e H2 k p hp => q _ p [] (k.trans (same_upd hp _)) (k.free hp) upd_same (by rw [e]; exact .nil)
  refine ⟨z0, fun l0 hl0 => ⟨z1, fun oo hoo => ?_⟩⟩
  have hlo : l0 ≠ oo := fun e => by rw [e, upd_same] at hoo; cases hoo
  have hoo1 : H oo = none := by rw [← hoo, upd_ne (Ne.symm hlo)]
  refine ⟨_, _, rfl, ?_⟩
  refine ⟨_, rfl, z, rfl, ?_⟩
  refine for_it walk_enS (Ivp K H oo z) ⟨⟨[[]], []⟩, "", none, none, none, none, rfl, rfl, rfl, ⟨[l0], (same_upd hl0 _).trans (same_upd hoo _), upd_same, by simpa using Ne.symm hlo, .cons hl0 (by rw [upd_ne hlo, upd_same]) .nil rfl (Nat.le_refl _) (by simp) .nil, by simp, by simp⟩, rfl, hk⟩ (fun _ _ _ _ _ => True.intro) (fun i x σ H1 H2 hi hv y => ?_) (fun σ H1 hv => ?_)
  · obtain ⟨st, u, x3, x4, x5, x6, rfl, eu, hrun, hp, ha, hrk⟩ := hv
    obtain ⟨T, y1, y2, rfl, hT, rfl, e1, e2⟩ := y
    cases e1
    obtain ⟨c, hc0, rfl⟩ : ∃ c, z.cps[i]? = some c ∧ y2 = .str ⟨#[c]⟩ := by
      have e2 : Option.map (fun c => V.str ⟨#[c]⟩) z.cps[i]? = some y2 := e2
      cases h : z.cps[i]? with
      | none => rw [h] at e2; cases e2
      | some c => rw [h] at e2; cases e2; exact ⟨c, rfl, rfl⟩
    have hc : (tl z)[i]? = some c := by unfold tl; rw [Array.getElem?_toList]; exact hc0
    have ilt : i < (tl z).length := (List.getElem?_eq_some_iff.mp hc).1
    refine ⟨T, _, rfl, SqT.of upd_same, rfl, _, _, rfl, _, _, rfl, rfl, ?_⟩
    have kT := same_upd hT (.tup [.int (i : Nat), .str ⟨#[c]⟩])
    have hp2 := hp.mono kT (Nat.le_refl _)
    generalize upd H1 T (.tup [.int (i : Nat), .str ⟨#[c]⟩]) = H2 at hp2
    refine ⟨_, rfl, _, _, rfl, rfl, _, rfl, ?_⟩
    match i, hc, ilt, hp2, hrun, hrk with
    | 0, hc, ilt, hp2, hrun, hrk =>
      exact ifF rfl (rr H oo z 0 c st u x6 _ H2 hoo1 hl hc eu hrun hp2 ha hrk (fun _ _ h => h) (fun _ _ h => h) empty)
    | j + 1, hc, ilt, hp2, hrun, hrk =>
      obtain ⟨c2, hc2⟩ : ∃ c2, (tl z)[j]? = some c2 := ⟨_, List.getElem?_eq_getElem (by omega)⟩
      have g2 : z.cps[(((j + 1 : Nat) : Int) - 1).toNat]? = some c2 := by
        rw [show (((j + 1 : Nat) : Int) - 1).toNat = j by omega]
        unfold tl at hc2
        rwa [Array.getElem?_toList] at hc2
      refine ifT (decide_eq_true (by omega)) ⟨_, rfl, _, rfl, _, _, rfl, rfl, z, _, c2, rfl, rfl, by omega, by omega, by omega, g2, ?_⟩
      have z9 := rr H oo z (j + 1) c st u x6
      rw [ahd_pos hc2] at z9
      exact z9 _ H2 hoo1 hl hc eu hrun hp2 ha hrk (fun _ _ h => h) (fun _ _ h => h) empty
  · obtain ⟨st, u, x3, x4, x5, x6, rfl, eu, hrun, hp, ha, hrk⟩ := hv
    rw [zs] at hrun hp hrk
    rw [List.take_length] at hrun
    have est : (⟨st.line, tl u⟩ : LS) = st := by rw [eu]
    have w640 := rk_le hrk
    have par : lawParsed (tl z) = lawEnd st := by unfold lawParsed; rw [hrun]; rfl
    refine rf2 H oo (2 * (tl z).length) z u st.line _ _ _ _ _ H1 hoo1 hp (by omega) (by rw [eu]; exact ha) (by rw [eu]; omega) (fun st' H2 e ew hp2 => ?_) (fun e => empty ?_)
    · rw [est] at e
      have pe2 : lawParsed (tl z) = (match st'.line with
        | [[v]] => some v
        | _ => none) := by rw [par]; unfold lawEnd; rw [e]; rfl
      obtain ⟨rs, eo, rl, ll, nn⟩ := hp2.len
      have fail : lawParsed (tl z) = none → (0 : Nat) ≤ sizeLine ∧ ∀ p, H2 p = none → Q (.ref p) (upd H2 p (.lst [])) := fun e => ⟨z0, fun p hpn => empty e H2 hp2.same p hpn⟩
      refine ⟨_, rfl, oo, rs, rfl, .inl (SqL.of eo), rfl, _, rfl, ?_⟩
      generalize hline : st'.line = line at pe2 hp2 rl nn
      match line, pe2, hp2, rl, nn with
      | [], _, _, _, nn => exact absurd rfl nn
      | top :: nxt :: r, pe2, hp2, rl, _ =>
        refine ifF (decide_eq_false (by rw [rl]; intro h; injection h with h; simp only [List.length_cons] at h; omega)) (ifF rfl (fail ?_))
        rw [pe2]
        cases top with
        | nil => rfl
        | cons a b => cases b <;> rfl
      | [top], pe2, hp2, rl, _ =>
        obtain ⟨rs2, l, xs, eo2, rl2, hlo2, h0l, el, hd, gd, hb, _⟩ := hp2.tops hoo1
        have e0 : rs2 = [] := List.length_eq_zero_iff.mp rl2
        subst e0
        have tl2 := dps_len hd
        refine ifT (decide_eq_true (by rw [rl]; rfl)) ⟨_, rfl, oo, _, 0, .ref l, rfl, rfl, SqL.of eo2, atI_nat (j := 0) rfl, l, _, rfl, .inl (SqL.of el), rfl, _, rfl, ?_⟩
        match top, tl2, pe2, hd with
        | [v], tl2, pe2, hd =>
          refine ifT (decide_eq_true (by rw [tl2]; rfl)) ⟨_, rfl, oo, _, 0, .ref l, rfl, rfl, SqL.of eo2, atI_nat (j := 0) rfl, q H2 l xs hp2.same h0l el ?_⟩
          rw [pe2]
          exact hd
        | [], tl2, pe2, hd => exact ifF (decide_eq_false (by rw [tl2]; intro h; cases h)) (fail pe2)
        | v :: u :: r, tl2, pe2, hd => exact ifF (decide_eq_false (by rw [tl2]; intro h; injection h with h; simp only [List.length_cons] at h; omega)) (fail pe2)
    · rw [est] at e
      rw [par]
      unfold lawEnd
      rw [e]
      rfl
end
end K16W
end
section
set_option Elab.async false
set_option linter.all false
set_option maxRecDepth 100000
set_option maxHeartbeats 4000000
namespace K16W
open PySem PySem.Spec PyProof.Rows L2 K16R K16T K16D TL K16 SX
section
variable {P : Program} {w : World} {K : PySem.W.Frag} {mg : Str → Option Value} {base : Heap} {f fc : Addr} {fd fdc : FuncData}
/-! ### _law_refused -/
def spRef (K : PySem.W.Frag) (fc : Addr) (sp : Sp) : Sp := fun vs H Q _ => ∃ v, vs = [.ref fc, v] ∧ sp [v] H (fun u H1 => ∀ p, H1 p = none → Q (.ref p) (upd H1 p (.tup [.str "told", u])))
  (fun cls d H1 => cls = .ref (ivC K) ∧ ∃ (dd : Addr) (gv : V), d = some dd ∧ H1 dd = some (.xd [("given", gv)]) ∧ ∀ p, H1 p = none → Q (.ref p) (upd H1 p (.tup [.str "refused", gv])))
theorem ok_refused {k : Nat} {par : Str} {sp : Sp} (J : Ix P w K mg base) (FC : FnT T0 P w K mg base (L2.CX P w) k fc fdc [par] sp) (hk : PySem.W.keepIn K (.ref fc) = true) (hb : Binds K fdc [par] [])
    (imp : ∀ v H (Q Q' : VK) (E E' : XK), (∀ u H1, Q u H1 → Q' u H1) → (∀ c d H1, E c d H1 → E' c d H1) → sp [v] H Q E → sp [v] H Q' E') (F : FnP K dLawRefused f fd) :
    FnT T0 P w K mg base CX0 (k + 1) f fd ["call", "value"] (spRef K fc sp) := by
  refine fnT_of F scLawRefused (fun vs H Q E h => ?_) (fun cdv A outer s H vs Q E hG hr h => ?_)
  · obtain ⟨v, rfl, _⟩ := h
    rfl
  refine ⟨_, bt_one (st_tryRet (i := 2) (te := fun W => tTup (tCons (tC (.str "told")) (tCons (fun σ H Q => σ[0]? = some (some (.ref fc)) ∧ tCl sp (WE W) (tCons (tVar 1) tNil) σ H Q) tNil))) rfl rfl scLawRefused.nd rfl rfl ⟨rfl, rfl, Or.inl J.gC⟩
    (fun W pn xe tk => et_tup (at_cons (.of pe_str) (at_cons (et_callV (i := 0) FC hG hr rfl (Or.inl rfl) hk hb (fun σ => passAt tk σ) (at_cons (.of (pv 1)) at_nil)) at_nil)))
    (fun a oe cls d pn hz hf => pss_one (ps_ret (pe_tup (pa_cons pe_str (pa_cons (pe_xf J.xf J.no hz hf (pv 2)) pa_nil))))))
    , ?_⟩
  obtain ⟨v, rfl, hs⟩ := h
  refine ⟨rfl, _, rfl, imp _ _ _ _ _ _ (fun u H1 q => ?_) (fun cls d H1 q => ?_) hs⟩
  · exact ⟨by show 2 ≤ sizeLine; decide, q⟩
  · obtain ⟨rfl, dd, gv, rfl, ed, q⟩ := q
    refine ⟨J.exm, fun a ha => ⟨_, rfl, rfl, rfl, dd, _, gv, rfl, ed, rfl, by show 2 ≤ sizeLine; decide, q⟩⟩
end
end K16W
end
section
set_option Elab.async false
set_option linter.all false
set_option maxRecDepth 100000
set_option maxHeartbeats 4000000
namespace K16W
open PySem PySem.Spec PyProof.Rows L2 K16R K16T K16D TL K16 SX
/-! ### repr of data -/
theorem dx_reads {X : Cx} {pins : List (Addr × Obj)} {σ : St} {H : Hp} {s : Shared} (I : Inv X pins σ H s) {v : V} {d : PyData} {u : Value} (h : Dx X.K H v d) (hd : d.hasDict = false ∨ d = dA) (r : RelV v u) : ∃ as, Reads s.heap u d as ∧ (d.hasDict = true → sysModules ∉ as) := by
  rcases h with h | ⟨rfl, a, rfl, e⟩
  · obtain ⟨as, ra⟩ := Dp.reads I d v u h r
    refine ⟨as, ra, fun hh => ?_⟩
    rcases hd with hd | hd
    · rw [hd] at hh; cases hh
    · subst hd; cases h
  · cases r
    obtain ⟨_, hsm, vs, kv, o, es, ep, h1, h2, h3, _, h5, _⟩ := dk_of I.hok e
    match vs, kv, h5 with
    | [(k, y)], .cons p .nil, h5 =>
      obtain ⟨e1, ry⟩ := p
      simp only at e1 ry
      have e1 : (Sum.inr "a" : Key) = k := e1
      subst e1
      obtain ⟨t, rfl⟩ := ry
      obtain ⟨l⟩ := es
      cases h5 with
      | cons k1 k2 k3 =>
        cases k3
        rename_i en _
        refine ⟨a :: ([] ++ []) ++ ([] ++ []), Reads.dict h1 h2.1 h3 ?_ ?_, fun _ hm => ?_⟩
        · rcases keyIs_shape (k := .inr "a") (v := en.key) k1 with ⟨i, t2, e2, _⟩ | ⟨x, t2, e2, e3⟩
          · cases e2
          · cases e2
            show ReadsAll _ [en.key] [PyData.str "a"] _
            rw [e3]
            exact .cons (.str _ _) .nil
        · show ReadsAll _ [en.val] [PyData.int 1] _
          rw [k2]
          exact .cons (.int _ _) .nil
        · simp only [List.append_nil, List.mem_singleton] at hm
          rw [hm] at hsm
          simp at hsm
def rRp (K : PySem.W.Frag) : List V → Hp → VK → Prop := fun xs H Q => ∃ (v : V) (d : PyData), xs = [v] ∧ Dx K H v d ∧ (d.hasDict = false ∨ d = dA) ∧ d.showable = true ∧ d.depth ≤ 100 ∧ d.shown.length ≤ sizeLine ∧ Q (.str d.shown) H
theorem call_reprD {X : Cx} (hG : X.A.guards = some []) (hu : X.A.units + 102 < cLine) : CallR X (.builtin "repr") (rRp X.K) := by
  intro pins s σ H xs us Q I r h
  obtain ⟨v, d, rfl, hx, hd, hs, hp, hz, q⟩ := h
  obtain ⟨u, rfl, rx⟩ := vals1 r
  obtain ⟨as, ra, hsm⟩ := dx_reads I hx hd rx
  have ref : ∀ a : Addr, u = .ref a → wpAny (model X.prog X.w) X.A (call (.builtin "repr") [u]) (EP X pins σ Q) X.xe s := fun a e => by
    subst e
    exact repr_of_reads' ra hs hsm hG (by omega) (fun _ _ e => e) (fun h' t k hk => ⟨.str _, H, I.kept (t' := k) hk, ⟨t, rfl⟩, q⟩) hz
  cases ra with
  | none => exact PySem.P.repr_of_none ⟨.str _, H, I.tok _, ⟨_, rfl⟩, q⟩
  | bool b =>
    cases b with
    | true => exact PySem.P.repr_of_bool ⟨.str "True", H, I.tok _, ⟨_, rfl⟩, q⟩
    | false => exact PySem.P.repr_of_bool ⟨.str "False", H, I.tok _, ⟨_, rfl⟩, q⟩
  | int i t => exact PySem.P.repr_of_int (of_decide_eq_true hs) ⟨.str _, H, I.tok _, ⟨_, rfl⟩, q⟩
  | str x t => exact PySem.P.repr_of_str ⟨.str _, H, I.tok _, ⟨_, rfl⟩, q⟩ hz
  | list _ _ _ _ => exact ref _ rfl
  | tuple _ _ _ _ => exact ref _ rfl
  | dict _ _ _ _ _ => exact ref _ rfl
/-! how long they are -/
mutual
def sz : PyData → Nat
  | .none | .bool _ => 5
  | .int i => (Str.ofString (toString i)).length
  | .str x => (reprText x).length
  | .list xs => 3 + szs xs
  | .tuple xs => 3 + szs xs
  | .dict _ => 8
def szs : List PyData → Nat
  | [] => 0
  | x :: xs => sz x + 2 + szs xs
end
end K16W
end
section
set_option Elab.async false
set_option linter.all false
set_option maxRecDepth 100000
set_option maxHeartbeats 4000000
namespace K16W
open PySem PySem.Spec PyProof.Rows L2 K16R K16T K16D TL K16 SX
theorem textFrom_up : ∀ (ts : List Str) (k : Nat) (acc : Str), (textFrom k acc ts).length ≤ acc.length + piled ts
  | [], k, acc => by show acc.length ≤ _; omega
  | t :: r, k, acc => by
    have h := textFrom_up r (k + 1) (acc ++ (if k > 0 then ", " else "" : String) ++ t)
    have e : (acc ++ (if k > 0 then ", " else "" : String) ++ t).length = acc.length + (if k > 0 then 2 else 0) + t.length := by
      rw [strLen_append, strLen_append]
      by_cases hk : k > 0 <;> simp [hk] <;> rfl
    rw [e] at h
    rw [piled_cons]
    show (textFrom (k + 1) (acc ++ (if k > 0 then ", " else "" : String) ++ t) r).length ≤ _
    have e2 : (if k > 0 then 2 else 0) ≤ 2 := by split <;> omega
    omega
theorem listText_up (ts : List Str) : (listText ts).length ≤ piled ts + 2 := by
  have h := textFrom_up ts 0 "["
  unfold listText
  rw [strLen_append]
  have e1 : (("[" : String) : Str).length = 1 := rfl
  have e2 : (("]" : String) : Str).length = 1 := rfl
  rw [e1] at h
  rw [e2]
  omega
theorem tupleText_up (ts : List Str) : (tupleText ts).length ≤ piled ts + 3 := by
  unfold tupleText
  rw [strLen_append, strLen_append]
  have e1 : ((("(" : String) : Str)).length = 1 := rfl
  have e3 : (((if ts.length == 1 then ",)" else ")" : String) : Str)).length ≤ 2 := by split <;> decide
  rw [e1]
  by_cases h : ts = []
  · subst h
    show 1 + 0 + _ ≤ _
    omega
  · have := join_length_add ts h
    omega
mutual
theorem shown_sz : ∀ d : PyData, d.hasDict = false → d.shown.length ≤ sz d
  | .none, _ => by decide
  | .bool true, _ => by decide
  | .bool false, _ => by decide
  | .int i, _ => by simp only [PyData.shown, sz]; exact Nat.le_refl _
  | .str x, _ => by simp only [PyData.shown, sz]; exact Nat.le_refl _
  | .list xs, h => by
    have := shown_szs xs (by simpa [PyData.hasDict] using h)
    have := listText_up (PyData.shownAll xs)
    simp only [PyData.shown, sz]
    omega
  | .tuple xs, h => by
    have := shown_szs xs (by simpa [PyData.hasDict] using h)
    have := tupleText_up (PyData.shownAll xs)
    simp only [PyData.shown, sz]
    omega
  | .dict _, h => by simp [PyData.hasDict] at h
theorem shown_szs : ∀ xs : List PyData, PyData.hasDictAll xs = false → piled (PyData.shownAll xs) ≤ szs xs
  | [], _ => by simp [PyData.shownAll, piled, szs]
  | x :: xs, h => by
    simp only [PyData.hasDictAll, Bool.or_eq_false_iff] at h
    have := shown_sz x h.1
    have := shown_szs xs h.2
    simp only [PyData.shownAll, piled_cons, szs]
    omega
end
/-- what repr asks of data that read so -/
structure Rp (n : Nat) (d : PyData) : Prop where
  nd : d.hasDict = false
  sh : d.showable = true
  dp : d.depth ≤ n
  sz : sz d ≤ 16000000
mutual
theorem good_nd : ∀ d : PyData, good d = true → d.hasDict = false
  | .int _, _ => by simp only [PyData.hasDict]
  | .str _, _ => by simp only [PyData.hasDict]
  | .tuple xs, h => by simp only [PyData.hasDict]; exact goods_nd xs h
  | .none, h => by cases h
  | .bool _, h => by cases h
  | .list _, h => by cases h
  | .dict _, h => by cases h
theorem goods_nd : ∀ xs : List PyData, goods xs = true → PyData.hasDictAll xs = false
  | [], _ => by simp only [PyData.hasDictAll]
  | x :: xs, h => by
    simp only [goods, Bool.and_eq_true] at h
    simp only [PyData.hasDictAll, good_nd x h.1, goods_nd xs h.2, Bool.or_self]
end
mutual
theorem good_dp : ∀ d : PyData, good d = true → d.depth ≤ dep d
  | .int _, _ => by simp only [PyData.depth]; omega
  | .str _, _ => by simp only [PyData.depth]; omega
  | .tuple xs, h => by
    have := goods_dp xs h
    simp only [PyData.depth, dep]
    omega
  | .none, h => by cases h
  | .bool _, h => by cases h
  | .list _, h => by cases h
  | .dict _, h => by cases h
theorem goods_dp : ∀ xs : List PyData, goods xs = true → PyData.depthAll xs ≤ deps xs
  | [], _ => by simp only [PyData.depthAll]; omega
  | x :: xs, h => by
    simp only [goods, Bool.and_eq_true] at h
    have := good_dp x h.1
    have := goods_dp xs h.2
    simp only [PyData.depthAll, deps]
    omega
end
mutual
theorem good_sh : ∀ d : PyData, good d = true → rk 91 0 (txt d) → d.showable = true
  | .int i, h, hk => by simp only [PyData.showable]; exact decide_eq_true (lg_of (of_decide_eq_true h) hk)
  | .str _, _, _ => by simp only [PyData.showable]
  | .tuple xs, h, hk => by simp only [PyData.showable]; exact goods_sh xs h (rk_txts (rk_tup hk))
  | .none, h, _ => by cases h
  | .bool _, h, _ => by cases h
  | .list _, h, _ => by cases h
  | .dict _, h, _ => by cases h
theorem goods_sh : ∀ xs : List PyData, goods xs = true → (∀ d ∈ xs, rk 91 0 (txt d)) → PyData.showableAll xs = true
  | [], _, _ => by simp only [PyData.showableAll]
  | x :: xs, h, hk => by
    simp only [goods, Bool.and_eq_true] at h
    simp only [PyData.showableAll, good_sh x h.1 (hk x List.mem_cons_self), goods_sh xs h.2 (fun d hd => hk d (List.mem_cons_of_mem _ hd)), Bool.and_self]
end
theorem reprW {x : Str} (h : (tl x).all (fun c => decide (c < 16 ^ 8)) = true) : (reprText x).length ≤ 10 * (tl x).length + 2 := by
  rw [← len_tl]
  exact StrLaws.reprText_len x fun c hc => of_decide_eq_true (List.all_eq_true.mp h c hc)
mutual
theorem good_sz : ∀ d : PyData, good d = true → sz d ≤ 10 * (txt d).length + 2
  | .int i, h => by
    have hi : i = ((i.toNat : Nat) : Int) := by have : 0 ≤ i := of_decide_eq_true h; omega
    have e : (Str.ofString (toString i)).length = (txt (.int i)).length := by
      rw [len_tl, hi, tl_num]
      rfl
    simp only [sz]
    omega
  | .str x, h => by
    have hw : wordL (tl x) = true := h
    unfold wordL at hw
    simp only [Bool.and_eq_true] at hw
    have := reprW (x := x) (List.all_eq_true.mpr fun c hc => decide_eq_true (by
      have := List.all_eq_true.mp hw.2 c hc
      have : 97 ≤ c ∧ c ≤ 122 := by simpa [isLet] using this
      have e : (16 : Nat) ^ 8 = 4294967296 := by decide
      omega))
    simp only [sz, txt]
    omega
  | .tuple xs, h => by
    have := (goods_sz xs h).1
    simp only [sz, txt, List.length_cons, List.length_append, List.length_nil]
    omega
  | .none, h => by cases h
  | .bool _, h => by cases h
  | .list _, h => by cases h
  | .dict _, h => by cases h
theorem goods_sz : ∀ xs : List PyData, goods xs = true → szs xs ≤ 10 * (txts xs).length + 10 ∧ szs xs ≤ 10 * (txtr xs).length
  | [], _ => by simp [szs]
  | x :: xs, h => by
    simp only [goods, Bool.and_eq_true] at h
    have := good_sz x h.1
    have := (goods_sz xs h.2).2
    simp only [szs, txts, txtr, List.length_append, List.length_cons]
    omega
end
theorem Nice.rp {D C T n : Nat} {d : PyData} (h : Nice D C T d) (hD : D ≤ n) (hT : T ≤ 1000000) : Rp n d := by
  have := good_sz d h.good
  have := h.len
  have := good_dp d h.good
  have := h.dep
  exact ⟨good_nd d h.good, good_sh d h.good h.rk, by omega, by omega⟩
theorem Rp.up {n : Nat} {d : PyData} (h : Rp n d) : d.shown.length ≤ sizeLine := by
  have := shown_sz d h.nd
  have := h.sz
  rw [sizeLine_eq]
  omega
end K16W
end
section
set_option Elab.async false
set_option linter.all false
set_option maxRecDepth 100000
set_option maxHeartbeats 4000000
namespace K16W
open PySem PySem.Spec PyProof.Rows L2 K16R K16T K16D TL K16 SX
/-- a def of one parameter, its argument given by name -/
theorem kb1 {K : PySem.W.Frag} {x qual p : Str} {params : Arguments} {body : List Stmt} {scope : Scope} {f : Addr} {fd : FuncData} (F : FunD K x qual params body scope [] [] f fd)
    (h0 : ∀ (kV doc pm : Value) (an : Option Addr) (cdv ct w : Value), bindArgs (PySem.W.fnOf x qual params body scope .none kV doc pm an cdv ct) ⟨[w], []⟩ = pure [(p, w)])
    (h1 : ∀ (kV doc pm : Value) (an : Option Addr) (cdv ct w : Value), bindArgs (PySem.W.fnOf x qual params body scope .none kV doc pm an cdv ct) ⟨[], [(p, w)]⟩ = pure [(p, w)]) : KBinds K fd [p] [p] (fun us ws => us ++ ws) (fun vs zs => vs ++ zs) := by
  refine ⟨fun s us ws _ hl => ?_, fun r1 r2 => r1.append r2⟩
  obtain ⟨oc, od, dV, kV, doc, pm, an, cdv, ct, osl, rfl, lk, hcd, hD, hK⟩ := F.ex
  rcases hD with ⟨_, rfl⟩ | ⟨e, _⟩
  · match us, ws, hl with
    | [w], [], _ => exact .of_eq (h0 kV doc pm an cdv ct w)
    | [], [w], _ => exact .of_eq (h1 kV doc pm an cdv ct w)
    | [], [], hl => cases hl
    | [_], _ :: _, hl => cases hl
    | [], _ :: _ :: _, hl => cases hl
    | _ :: _ :: _, _, hl => simp only [List.length_append, List.length_cons, List.length_nil] at hl; omega
  · exact absurd rfl e
section
variable {P : Program} {w : World} {K : PySem.W.Frag} {mg : Str → Option Value} {base : Heap} {f : Addr} {fd : FuncData}
theorem pN {CX0' : CXT} {X : Cx} (hX : CX0' = L2.CX X.prog X.w) : ∀ σ, PassesAt CX0' X σ (fun _ _ _ => False) := fun σ pins H s e s' I h => by
  subst hX
  obtain ⟨a, B, H', cls, d, _, _, _, _, _, _, _, z⟩ := h
  exact z.elim
/-! ### _law_any_value, at all depths asked -/
def spAnyA (K : PySem.W.Frag) : Sp := fun vs H Q _ => ∃ (g : Addr) (n : Nat), vs = [.ref g, .int (n : Nat)] ∧ n ≤ 5 ∧ Fg H g ∧ ∀ u d H', SameB g H H' → Fg H' g → Dp K H' u d → NiceL 5 d → Q u H'
theorem ok_any (mf : Fx mg) (GS : Has P w K mg base CX0 1 "_law_strike" ["forge", "many"] spStrike) (GP : Has P w K mg base CX0 2 "_law_pick" ["forge", "things"] (spPick K)) (F : FnP K dLawAnyValue f fd) (hA : mg "_law_any_value" = some (.ref f)) (kA : PySem.W.keepIn K (.ref f) = true) (bA : Binds K fd ["forge", "deep"] []) :
    ∀ m : Nat, FnOk P w K mg base CX0 (m + 2) f fd ["forge", "deep"] (spAny K m)
  | 0 => ⟨fun _ _ _ _ ⟨_, _, h, _⟩ => absurd h (by omega), fun _ _ _ _ _ _ _ _ _ _ _ _ _ ⟨_, _, h, _⟩ => absurd h (by omega)⟩
  | m + 1 => ok_any1 mf (by omega) GS GP ⟨f, fd, ok_any mf GS GP F hA kA bA m, hA, kA, bA⟩ F
theorem nice5 {n : Nat} {d : PyData} (hn : n ≤ 5) (h : NiceL n d) : NiceL 5 d := by
  have : n = 0 ∨ n = 1 ∨ n = 2 ∨ n = 3 ∨ n = 4 ∨ n = 5 := by omega
  rcases this with e | e | e | e | e | e <;> subst e <;> exact h.mono (by decide) (by decide) (by decide)
theorem ok_anyA (h : ∀ m : Nat, FnOk P w K mg base CX0 (m + 2) f fd ["forge", "deep"] (spAny K m)) : FnOk P w K mg base CX0 8 f fd ["forge", "deep"] (spAnyA K) := by
  refine ⟨fun vs H Q E ⟨g, n, e, _⟩ => by subst e; rfl, fun A outer s H args us vs Q E hr e0 hb r sp => ?_⟩
  obtain ⟨g, n, e, hn, hg, q⟩ := sp
  exact (h (n + 1)).run A outer s H args us vs Q E (hr.mono (by omega)) e0 hb r ⟨g, n, rfl, e, hn, hg, fun u d H' a b c nd => q u d H' a b c (nice5 hn nd)⟩
theorem ok_told (mf : Fx mg) (F : FnP K dLawTold f fd) (hA : mg "_law_told" = some (.ref f)) (kA : PySem.W.keepIn K (.ref f) = true) (bA : Binds K fd ["value"] []) :
    ∀ m : Nat, FnOk P w K mg base CX0 (m + 1) f fd ["value"] (spTold K m)
  | 0 => ⟨fun _ _ _ _ ⟨_, _, _, _, _, h, _⟩ => absurd h (Nat.not_lt_zero _), fun _ _ _ _ _ _ _ _ _ _ _ _ _ ⟨_, _, _, _, _, h, _⟩ => absurd h (Nat.not_lt_zero _)⟩
  | m + 1 => ok_told1 mf ⟨f, fd, ok_told mf F hA kA bA m, hA, kA, bA⟩ F
/-- a def that the law calls, by its promise -/
structure HasT (P : Program) (w : World) (K : PySem.W.Frag) (mg : Str → Option Value) (base : Heap) (CX : CXT) (k : Nat) (x : Str) (f : Addr) (ps : List Str) (sp : Sp) : Prop where
  ex : ∃ fd, FnT T0 P w K mg base CX k f fd ps sp ∧ mg x = some (.ref f) ∧ PySem.W.keepIn K (.ref f) = true ∧ Binds K fd ps [] ∧ (∀ p, ps = [p] → KBinds K fd [p] [p] (fun us ws => us ++ ws) (fun vs zs => vs ++ zs))
structure Lx (P : Program) (w : World) (K : PySem.W.Frag) (mg : Str → Option Value) (base : Heap) (ft fr : Addr) : Prop where
  GA : Has P w K mg base CX0 8 "_law_any_value" ["forge", "deep"] (spAnyA K)
  GP : Has P w K mg base CX0 2 "_law_pick" ["forge", "things"] (spPick K)
  GT : Has P w K mg base CX0 11 "_law_told" ["value"] (spTold K 10)
  GS : Has P w K mg base CX0 221 "_law_same" ["told", "due"] (spSame K 110)
  GN : Has P w K mg base CX0 3 "_law_near" ["forge", "said"] spNear
  GR : Has P w K mg base CX0 2 "_law_parsed" ["said"] (spParsed K)
  TT : Has P w K mg base (L2.CX P w) 4 "thing_text" ["value"] (spThingText K)
  HT : HasT P w K mg base (L2.CX P w) 4 "thing_text" ft ["value"] (spThingText K)
  HR : HasT P w K mg base (L2.CX P w) 5 "read_thing" fr ["given"] (spRead K)
  RT : ∃ f, HasT P w K mg base CX0 6 "_law_refused" f ["call", "value"] (spRef K ft (spThingText K))
  RR : ∃ f, HasT P w K mg base CX0 6 "_law_refused" f ["call", "value"] (spRef K fr (spRead K))
section
variable {X : Cx} {CX : CXT} {k : Nat} {ps : List Str} {sp : Sp} {x : Str} {p pos : Pos} {e : Expr} {es : List Expr} {t tk : TA} {fa : Addr} {kws : List Keyword}
theorem tcl (h : HasT X.prog X.w X.K X.mg X.base CX k x fa ps sp) (hG : X.A.guards = some []) (hr : Room k X.A) {E : L2.St → XK} (hx : ∀ σ, PassesAt CX X σ (E σ)) (ha : AaT T0 X (e :: es) t) (hg : Gl X x := by rfl) (hdb : (x == ("__debug__" : Str)) = false := by decide)
    (he : starEach (e :: es) X.env = (false, eval e X.env) :: starEach es X.env := by rfl) (hpl : (backTo pos (starEach es X.env)).any (·.1) = false := by rfl) : EeT T0 X (.Call (.Name x p) (e :: es) [] pos) (tCl sp E t) := by
  obtain ⟨fd, F, hm, hk, hb, _⟩ := h.ex
  exact et_call F hG hr hg hm hk hb hx ha hdb he hpl
theorem tck {q : Str} (h : HasT X.prog X.w X.K X.mg X.base CX k x fa [q] sp) (hG : X.A.guards = some []) (hr : Room k X.A) {E : L2.St → XK} (hx : ∀ σ, PassesAt CX X σ (E σ)) (hkw : PK X kws tk) (hg : Gl X x := by rfl)
    (hall : (backToKw pos (keywordEach kws X.env)).all (·.1.isSome) = true := by rfl) (hks : (backToKw pos (keywordEach kws X.env)).filterMap (·.1) = [q] := by rfl)
    (hdb : (x == ("__debug__" : Str)) = false := by decide) (hpl : ((backTo pos (starEach [] X.env)).any (·.1) || (backToKw pos (keywordEach kws X.env)).any (·.1.isNone)) = false := by rfl) :
    EeT T0 X (.Call (.Name x p) [] kws pos) (fun σ H Q => tk σ H fun zs H1 => sp ([] ++ zs) H1 Q (E σ)) := by
  obtain ⟨fd, F, hm, hk, _, hb⟩ := h.ex
  exact et_callK0 F hG hr hg hm hk (hb q rfl) hx hkw hall hks hdb hpl
/-- a def of the module, as a value -/
theorem pgF (h : HasT X.prog X.w X.K X.mg X.base CX k x fa ps sp) (hg : Gl X x := by rfl) (hdb : (x == ("__debug__" : Str)) = false := by decide) : PE X (.Name x p) (tC (.ref fa)) := by
  obtain ⟨fd, F, hm, _⟩ := h.ex
  exact pe_glob hg hm rfl hdb
end
end
end K16W
end
section
set_option Elab.async false
set_option linter.all false
set_option maxRecDepth 100000
set_option maxHeartbeats 8000000
namespace K16W
open PySem PySem.Spec PyProof.Rows L2 K16R K16T K16D TL K16 SX
theorem bt_nox {n : Nat} {X : Cx} {st : List Stmt} {t : TS} (h : BbT n X.nox st t) : BbT n X st t := ⟨fun pins s σ H D hn I hw => wpAny_mono (h.run pins s σ H D hn (I.wish _) hw) (fun _ _ q => q.unwish) fun _ _ z => False.elim z⟩
def riBody : List Stmt := match defBody sLawRight with
  | [.For _ _ b _ _, _, _, _] => b
  | _ => []
def riTurn : Stmt := match riBody with
  | [_, _, _, a, _, _] => a
  | _ => .Pass ⟨0, 0, 0, 0⟩
def riOdd1 : Stmt := match riBody with
  | [_, _, _, _, a, _] => a
  | _ => .Pass ⟨0, 0, 0, 0⟩
def riOdd2 : Stmt := match riBody with
  | [_, _, _, _, _, a] => a
  | _ => .Pass ⟨0, 0, 0, 0⟩
mutual
theorem cnt_txt : ∀ d : PyData, good d = true → cnt d ≤ (txt d).length
  | .int i, h => by
    have := (leaf_facts h rfl).1
    have := List.length_pos_iff.mpr this
    simp only [cnt]; omega
  | .str x, h => by
    have := (leaf_facts h rfl).1
    have := List.length_pos_iff.mpr this
    simp only [cnt]; omega
  | .tuple xs, h => by
    have := cnts_txt xs h
    simp only [cnt, txt, List.length_cons, List.length_append, List.length_nil]
    omega
  | .none, h => by cases h
  | .bool _, h => by cases h
  | .list _, h => by cases h
  | .dict _, h => by cases h
theorem cnts_txt : ∀ xs : List PyData, goods xs = true → cnts xs ≤ (txts xs).length ∧ cnts xs ≤ (txtr xs).length
  | [], _ => by simp [cnts]
  | x :: xs, h => by
    simp only [goods, Bool.and_eq_true] at h
    have := cnt_txt x h.1
    have := (cnts_txt xs h.2).2
    simp only [cnts, txts, txtr, List.length_append, List.length_cons]
    omega
end
mutual
theorem good_plain : ∀ d : PyData, good d = true → plain d = true
  | .int _, _ => rfl
  | .str _, _ => rfl
  | .tuple xs, h => goods_plain xs h
  | .none, h => by cases h
  | .bool _, h => by cases h
  | .list _, h => by cases h
  | .dict _, h => by cases h
theorem goods_plain : ∀ xs : List PyData, goods xs = true → plains xs = true
  | [], _ => rfl
  | x :: xs, h => by
    simp only [goods, Bool.and_eq_true] at h
    simp only [plains, good_plain x h.1, goods_plain xs h.2, Bool.and_self]
end
/-- what a text near a value's text is read as -/
theorem near_facts {d : PyData} (hd : NiceL 5 d) {s : List Nat} (hn : NearOf (txt d) s) : s.length ≤ 720058 ∧ rk 640 0 s ∧ (∀ u ∈ wordsOf s, u.all isFig = true → u.length ≤ 640) ∧
    ∀ e, lawParsed s = some e → good e = true ∧ txt e = s ∧ dep e ≤ 10 ∧ cnt e ≤ 720058 ∧ stOk e = true ∧ smI e = true := by
  have hl := hn.len
  have h1 : (txt d).length ≤ 720056 := Nat.le_trans hd.len (by decide)
  have hr : rk 640 0 s := rk_up (hn.rk hd.rk) (by decide)
  have hf := short_words hr
  refine ⟨by omega, hr, hf, fun e he => ?_⟩
  obtain ⟨ge, te⟩ := law_sound he
  have h6 : nl 6 0 (txt d) := (txt_bal d hd.good).2.mpr (by have := hd.dep; omega)
  have h10 : nl 10 0 s := hn.nl h6
  rw [← te] at h10
  have hde := (txt_bal e ge).2.mp h10
  have hce := cnt_txt e ge
  rw [te] at hce
  have hv : valueIn (wordsOf s) = some e := by rw [← te, words_txt ge]; exact value_complete ge
  obtain ⟨_, _, sm, st, _⟩ := (read_bounds (s := s) (by omega)).2.2 hf e hv
  exact ⟨ge, te, by omega, by omega, st, sm⟩
section
variable {P : Program} {w : World} {K : PySem.W.Frag} {mg : Str → Option Value} {base : Heap} {f ft fr : Addr} {fd : FuncData}
def TnOk (K : PySem.W.Frag) (t : TS) : Prop := ∀ (g : Addr) (v : V) (d : PyData) (x1 x4 x5 x6 x7 x8 x9 : Option V) (D : Ends) (H : Hp), Fg H g → Dp K H v d → NiceL 5 d →
  (∀ y4 y5 y6 y7 H', SameB g H H' → Fg H' g → D.nx [some (.ref g), x1, some v, some (.str (S (txt d))), y4, y5, y6, y7, x8, x9] H') → t D [some (.ref g), x1, some v, some (.str (S (txt d))), x4, x5, x6, x7, x8, x9] H
theorem ok_turn {cdv : Value} {A : Around} {outer : List Env} {s : Shared} {H0 : Hp} {E : XK} (m : Fx mg) (L : Lx P w K mg base ft fr) (hG : A.guards = some []) (hr : Room 221 (A.deeper (envOfC dLawRight.qual dLawRight.scope s.heap.objs.size f cdv))) :
    (∃ t, SsT T0 (cxOf CX0 P w K mg base nLawRight dLawRight.qual dLawRight.scope f cdv A outer s H0 E).nox riTurn t ∧ TnOk K t) := by
  obtain ⟨fR, RR⟩ := L.RR
  have r2 := hr.mono (show 2 ≤ 221 by decide)
  have r3 := hr.mono (show 3 ≤ 221 by decide)
  have r4 := hr.mono (show 4 ≤ 221 by decide)
  have r6 := hr.mono (show 6 ≤ 221 by decide)
  refine ⟨_, st_for PassesOwn.never rfl (pi_range1 rfl m.range (pa_cons pe_int pa_nil)) (pg_name (i := 4) scLawRight.nd rfl (Or.inl rfl))
    (bt_cons (.of (ps_set (i := 5) scLawRight.nd rfl (Or.inl rfl) (pc L.GN r3 (pa_cons (pv 0) (pa_cons (pv 3) pa_nil)))))
    (bt_cons (.of (ps_set (i := 6) scLawRight.nd rfl (Or.inl rfl) (pc L.GR r2 (pa_cons (pv 5) pa_nil))))
    (bt_cons (st_set (i := 7) scLawRight.nd rfl (Or.inl rfl) (tcl RR hG r6 (E := fun _ => E0) p0 (at_cons (.of (pgF L.HR)) (at_cons (.of (pv 5)) at_nil))))
    (.of (pss_cons (ps_if (pt_not (pt_val (pc L.GS hr (pa_cons (pv 7) (pa_cons (pe_ifExp (tcm (op_neL0 (units_lt hr)) (pv 6) (pe_lst pa_nil)) (pe_tup (pa_cons pe_str (pa_cons (pe_ix ix_list (pv 6) pe_int (fun _ _ => rfl)) pa_nil))) (pe_tup (pa_cons pe_str (pa_cons (pv 5) pa_nil)))) pa_nil))))) (pss_one (ps_ret pe_bl)) pss_nil)
    (pss_one (ps_if (pw_and (tcm (op_neL0 (units_lt hr)) (pv 6) (pe_lst pa_nil)) (pw_and1 (tcm op_ne (pcX L.TT r4 (E := fun _ _ _ _ => False) (pN rfl) (pa_cons (pe_ix ix_list (pv 6) pe_int (fun _ _ => rfl)) pa_nil)) (pv 5)))).pt (pss_one (ps_ret pe_bl)) pss_nil))))))), ?_⟩
  intro g v d x1 x4 x5 x6 x7 x8 x9 D H hg hv hd q
  have z0 : (0 : Nat) ≤ sizeLine := Nat.zero_le _
  have z2 : (2 : Nat) ≤ sizeLine := by decide
  refine ⟨_, rfl, by decide, by decide, ?_⟩
  refine for_it walk_range (n := 8) (fun i σ H' => ∃ y4 y5 y6 y7, σ = [some (.ref g), x1, some v, some (.str (S (txt d))), y4, y5, y6, y7, x8, x9] ∧ SameB g H H' ∧ Fg H' g) ⟨_, _, _, _, rfl, SameB.of (Same.refl _), hg⟩ (fun _ _ _ _ _ => True.intro) (fun i x σ H1 H1' hi hv1 y => ?_) (fun σ H1 hv1 => ?_)
  · obtain ⟨y4, y5, y6, y7, rfl, k1, g1⟩ := hv1
    obtain ⟨rfl, rfl⟩ := y
    refine ⟨_, rfl, _, rfl, g, _, rfl, g1, List.length_pos_iff.mpr (last_txt hd.good).1, Nat.le_trans hd.len (by decide), fun y H2 hn k2 g2 => ?_⟩
    have hn : NearOf (txt d) (tl y) := hn
    obtain ⟨yl, yr, yf, ye⟩ := near_facts hd hn
    have k02 := k1.trans k2
    refine ⟨_, rfl, y, rfl, by omega, yr, fun H3 p xs k3 hp ep hdp => ?_⟩
    have rs : resOf (.str y) = lawParsed (tl y) := same_reader (tl y)
    refine ⟨_, rfl, .str y, rfl, .str y, _, rfl, .str y, fun z e => by cases e; exact ⟨by omega, yf⟩, ?_⟩
    have done : ∀ {H6 : Hp} {y7}, Same H3 H6 → ∃ y4 y5 y6 y7', [some (V.ref g), x1, some v, some (.str (S (txt d))), some (.int (0 + (i : Nat))), some (.str y), some (.ref p), y7, x8, x9] = [some (.ref g), x1, some v, some (.str (S (txt d))), y4, y5, y6, y7', x8, x9] ∧ SameB g H H6 ∧ Fg H6 g :=
      fun {H6 y7} k => ⟨_, _, _, _, rfl, k02.trans (SameB.of (k3.trans k)), g2.same (k3.trans k)⟩
    cases hlp : lawParsed (tl y) with
    | none =>
      rw [hlp] at hdp rs
      have exs : xs = [] := by cases hdp; rfl
      subst exs
      refine ⟨fun d' e => (by rw [rs] at e; cases e), fun _ H4 dd k4 _ edd => ⟨rfl, dd, .str y, rfl, edd, fun p4 hp4 => ?_⟩⟩
      have k5 := k4.trans (same_upd hp4 (.tup [.str "refused", .str y]))
      have ep5 := k5 _ _ ep
      have et : upd H4 p4 (.tup [.str "refused", .str y]) p4 = some (.tup [.str "refused", .str y]) := upd_same
      generalize upd H4 p4 (.tup [.str "refused", .str y]) = H5 at k5 ep5 et
      refine ⟨_, rfl, _, rfl, z0, fun e0 he0 => ⟨p, e0, [], [], rfl, rfl, SqL.of (same_upd he0 (.lst []) _ _ ep5), SqL.of upd_same, rfl, _, rfl, ifF rfl ⟨_, rfl, z2, fun p5 hp5 => ?_⟩⟩⟩
      have k6 := (same_upd he0 (.lst [])).trans (same_upd hp5 (.tup [.str "refused", .str y]))
      refine ⟨.ref p4, .ref p5, .tuple [.str "refused", .str y], rfl, .tup (SqT.of (k6 _ _ et)) (.cons (.str _) (.cons (.str _) .nil)), .tup (SqT.of upd_same) (.cons (.str _) (.cons (.str _) .nil)), rfl, by simp only [dep, deps]; omega, by simp only [cnt, cnts]; omega, fun H6 k7 => ⟨_, rfl, ifF rfl ?_⟩⟩
      have k8 := k5.trans (k6.trans k7)
      have ep6 := k8 _ _ ep
      refine ⟨_, rfl, z0, fun e1 he1 => ⟨p, e1, [], [], rfl, rfl, SqL.of (same_upd he1 (.lst []) _ _ ep6), SqL.of upd_same, rfl, _, rfl, ifF rfl (ifF rfl (done (k8.trans (same_upd he1 _))))⟩⟩
    | some e =>
      rw [hlp] at hdp rs
      obtain ⟨ge, te, de, ce, se, me⟩ := ye e hlp
      obtain ⟨x, exs, hxd⟩ : ∃ x, xs = [x] ∧ Dp K H3 x e := by
        cases hdp with
        | cons h1 h2 => cases h2; exact ⟨_, rfl, h1⟩
      subst exs
      refine ⟨fun d' e' H4 u k4 hu p4 hp4 => ?_, fun e' => (by rw [rs] at e'; cases e')⟩
      rw [rs] at e'
      cases e'
      have ku := same_upd hp4 (.tup [.str "told", u])
      have k5 := k4.trans ku
      have hu5 := dp_mono ku hu
      have ep5 := k5 _ _ ep
      have et : upd H4 p4 (.tup [.str "told", u]) p4 = some (.tup [.str "told", u]) := upd_same
      generalize upd H4 p4 (.tup [.str "told", u]) = H5 at k5 ep5 et hu5
      refine ⟨_, rfl, _, rfl, z0, fun e0 he0 => ⟨p, e0, [x], [], rfl, rfl, SqL.of (same_upd he0 (.lst []) _ _ ep5), SqL.of upd_same, rfl, _, rfl, ifT rfl ⟨_, rfl, p, _, 0, x, rfl, rfl, SqL.of (same_upd he0 (.lst []) _ _ ep5), atI_nat (j := 0) rfl, z2, fun p5 hp5 => ?_⟩⟩⟩
      have k6 := (same_upd he0 (.lst [])).trans (same_upd hp5 (.tup [.str "told", x]))
      refine ⟨.ref p4, .ref p5, .tuple [.str "told", e], rfl, .tup (SqT.of (k6 _ _ et)) (.cons (.str _) (.cons (dp_mono k6 hu5) .nil)), .tup (SqT.of upd_same) (.cons (.str _) (.cons (dp_mono (k5.trans k6) hxd) .nil)), by simp [plain, plains, good_plain e ge], by simp only [dep, deps]; omega, by simp only [cnt, cnts]; omega, fun H6 k7 => ⟨_, rfl, ifF rfl ?_⟩⟩
      have k8 := k5.trans (k6.trans k7)
      have ep6 := k8 _ _ ep
      refine ⟨_, rfl, z0, fun e1 he1 => ?_⟩
      have k9 := same_upd he1 (.lst [])
      refine ⟨p, e1, [x], [], rfl, rfl, SqL.of (k9 _ _ ep6), SqL.of upd_same, rfl, _, rfl, ifT rfl ⟨_, rfl, p, _, 0, x, rfl, rfl, SqL.of (k9 _ _ ep6), atI_nat (j := 0) rfl, x, e, rfl, .inl (dp_mono (k8.trans k9) hxd), by omega, se, fun _ => ⟨me, by rw [te]; omega, fun H7 k10 => ?_⟩, fun hf => by rw [ge] at hf; cases hf⟩⟩
      refine ⟨_, rfl, rfl, _, rfl, ifF (by rw [te, show S (tl y) = y from mk_tl y, decide_eq_true rfl]; rfl) (done (k8.trans (k9.trans k10)))⟩
  · obtain ⟨y4, y5, y6, y7, rfl, k1, g1⟩ := hv1
    exact q _ _ _ _ H1 k1 g1
end
end K16W
end
section
set_option Elab.async false
set_option linter.all false
set_option maxRecDepth 100000
set_option maxHeartbeats 8000000
namespace K16W
open PySem PySem.Spec PyProof.Rows L2 K16R K16T K16D TL K16 SX
/-- small for repr -/
structure Ms (D S : Nat) (d : PyData) : Prop where
  nd : d.hasDict = false
  sh : d.showable = true
  dp : d.depth ≤ D
  sz : sz d ≤ S
theorem Ms.mono {D S D' S' : Nat} {d : PyData} (h : Ms D S d) (h1 : D ≤ D') (h2 : S ≤ S') : Ms D' S' d := ⟨h.nd, h.sh, Nat.le_trans h.dp h1, Nat.le_trans h.sz h2⟩
theorem Ms.tup1 {D S : Nat} {a : PyData} (h : Ms D S a) : Ms (D + 1) (S + 5) (.tuple [a]) := by
  obtain ⟨h1, h2, h3, h4⟩ := h
  refine ⟨by simp [PyData.hasDict, PyData.hasDictAll, h1], by simp [PyData.showable, PyData.showableAll, h2], by simp only [PyData.depth, PyData.depthAll]; omega, by simp only [K16W.sz, szs]; omega⟩
theorem Ms.lst1 {D S : Nat} {a : PyData} (h : Ms D S a) : Ms (D + 1) (S + 5) (.list [a]) := by
  obtain ⟨h1, h2, h3, h4⟩ := h
  refine ⟨by simp [PyData.hasDict, PyData.hasDictAll, h1], by simp [PyData.showable, PyData.showableAll, h2], by simp only [PyData.depth, PyData.depthAll]; omega, by simp only [K16W.sz, szs]; omega⟩
theorem Ms.tup2 {D S T : Nat} {a b : PyData} (h : Ms D S a) (g : Ms D T b) : Ms (D + 1) (S + T + 7) (.tuple [a, b]) := by
  obtain ⟨h1, h2, h3, h4⟩ := h
  obtain ⟨g1, g2, g3, g4⟩ := g
  refine ⟨by simp [PyData.hasDict, PyData.hasDictAll, h1, g1], by simp [PyData.showable, PyData.showableAll, h2, g2], by simp only [PyData.depth, PyData.depthAll]; omega, by simp only [K16W.sz, szs]; omega⟩
theorem Ms.rp {D S : Nat} {d : PyData} (h : Ms D S d) (h1 : D ≤ 100) (h2 : S ≤ 16000000) : Rp 100 d := ⟨h.nd, h.sh, Nat.le_trans h.dp h1, Nat.le_trans h.sz h2⟩
theorem ms_non {D : Nat} : Ms D 5 .none := ⟨by simp only [PyData.hasDict], by simp only [PyData.showable], by simp only [PyData.depth]; omega, by simp only [sz]; omega⟩
theorem ms_bl {D : Nat} (b : Bool) : Ms D 5 (.bool b) := ⟨by simp only [PyData.hasDict], by simp only [PyData.showable], by simp only [PyData.depth]; omega, by simp only [sz]; omega⟩
theorem ms_int {D : Nat} (i : Int) (h : i.natAbs.log2 < 1920) (h2 : (Str.ofString (toString i)).length ≤ 100) : Ms D 100 (.int i) := ⟨by simp only [PyData.hasDict], by simp only [PyData.showable]; exact decide_eq_true h, by simp only [PyData.depth]; omega, by simp only [sz]; exact h2⟩
theorem ms_str {D : Nat} (x : Str) (h : (tl x).all (fun c => decide (c < 16 ^ 8)) = true) (h2 : (tl x).length ≤ 100) : Ms D 1002 (.str x) := ⟨by simp only [PyData.hasDict], by simp only [PyData.showable], by simp only [PyData.depth]; omega, by simp only [sz]; have := reprW h; omega⟩
theorem NiceL.ms {d : PyData} (h : NiceL 5 d) : Ms 10 8000000 d := by
  have a1 := good_sz d h.good
  have a2 : (txt d).length ≤ 720056 := Nat.le_trans h.len (by decide)
  have a3 := good_dp d h.good
  have a4 := h.dep
  exact ⟨good_nd d h.good, good_sh d h.good h.rk, by omega, by omega⟩
section
variable {P : Program} {w : World} {K : PySem.W.Frag} {mg : Str → Option Value} {base : Heap} {f ft fr : Addr} {fd : FuncData}
/-- what repr asks of a value -/
def RpV (K : PySem.W.Frag) (H : Hp) (v : V) (d : PyData) : Prop := Dx K H v d ∧ (d.hasDict = false ∨ d = dA) ∧ d.showable = true ∧ d.depth ≤ 100 ∧ d.shown.length ≤ sizeLine
theorem RpV.mono {H H' : Hp} {v : V} {d : PyData} (k : Same H H') (h : RpV K H v d) : RpV K H' v d := ⟨h.1.mono k, h.2⟩
theorem rpV {H : Hp} {v : V} {d : PyData} (h : Dp K H v d) (r : Rp 100 d) : RpV K H v d := ⟨.inl h, .inl r.nd, r.sh, r.dp, r.up⟩
/-- what thing_text refuses -/
def Od1 (K : PySem.W.Frag) (H : Hp) (v : V) : Prop := ∃ d, RpV K H v d ∧ good d = false ∧ cnt d ≤ 2500000 ∧ stOk d = true
theorem Od1.mono {H H' : Hp} {v : V} (k : Same H H') (h : Od1 K H v) : Od1 K H' v := by obtain ⟨d, a, b⟩ := h; exact ⟨d, a.mono k, b⟩
/-- the loop over what is odd: its law -/
def OdOk (K : PySem.W.Frag) (t : TS) : Prop := ∀ (g : Addr) (v : V) (d : PyData) (x1 x3 x4 x5 x6 x7 x8 x9 : Option V) (D : Ends) (H : Hp), Dp K H v d → NiceL 5 d →
  (∀ y7 y8 H', Same H H' → D.nx [some (.ref g), x1, some v, x3, x4, x5, x6, y7, y8, x9] H') → t D [some (.ref g), x1, some v, x3, x4, x5, x6, x7, x8, x9] H
theorem ok_odd1 {cdv : Value} {A : Around} {outer : List Env} {s : Shared} {H0 : Hp} {E : XK} (m : Fx mg) (L : Lx P w K mg base ft fr) (hG : A.guards = some []) (hr : Room 221 (A.deeper (envOfC dLawRight.qual dLawRight.scope s.heap.objs.size f cdv))) :
    (∃ t, SsT T0 (cxOf CX0 P w K mg base nLawRight dLawRight.qual dLawRight.scope f cdv A outer s H0 E).nox riOdd1 t ∧ OdOk K t) := by
  obtain ⟨fR, RT⟩ := L.RT
  have r6 := hr.mono (show 6 ≤ 221 by decide)
  have hu : (A.deeper (envOfC dLawRight.qual dLawRight.scope s.heap.objs.size f cdv)).units + 102 < cLine := by have := hr.un; omega
  refine ⟨_, st_for PassesOwn.never rfl (pi_tup (pe_tup (pa_cons pe_non (pa_cons pe_bl (pa_cons (pe_un un_neg pe_int) (pa_cons pe_str (pa_cons pe_str (pa_cons pe_str (pa_cons pe_str (pa_cons pe_str (pa_cons (pe_lst (pa_cons (pv 2) pa_nil))
      (pa_cons (pe_tup (pa_cons (pv 2) (pa_cons pe_non pa_nil))) (pa_cons (pe_tup (pa_cons (pv 2) (pa_cons pe_bl pa_nil))) (pa_cons (pe_tup (pa_cons (pv 2) (pa_cons (pe_un un_neg pe_int) pa_nil)))
      (pa_cons (pe_tup (pa_cons (pe_tup (pa_cons (pv 2) (pa_cons pe_str pa_nil))) pa_nil)) (pa_cons (pe_tup (pa_cons (pv 2) (pa_cons (pe_lst (pa_cons pe_int pa_nil)) pa_nil)))
      (pa_cons (pe_disp (pps_cons pe_str pe_int pps_nil) rfl rfl (by simp) (by decide)) (pa_cons (pe_tup (pa_cons pe_str (pa_cons (pv 2) pa_nil))) pa_nil)))))))))))))))))) (pg_name (i := 8) scLawRight.nd rfl (Or.inl rfl))
    (bt_cons (st_set (i := 7) scLawRight.nd rfl (Or.inl rfl) (tcl RT hG r6 (E := fun _ => E0) p0 (at_cons (.of (pgF L.HT)) (at_cons (.of (pv 8)) at_nil))))
    (.of (pss_one (ps_if (pw_or (tcm op_ne (pe_ix ix_tup (pv 7) pe_int (fun _ _ => rfl)) pe_str) (pw_or1 (tcm op_ne (pb (call_reprD hG hu) m.repr (pa_cons (pe_ix ix_tup (pv 7) pe_int (fun _ _ => rfl)) pa_nil)) (pb (call_reprD hG hu) m.repr (pa_cons (pv 8) pa_nil))))).pt (pss_one (ps_ret pe_bl)) pss_nil)))), ?_⟩
  intro g v d x1 x3 x4 x5 x6 x7 x8 x9 D H hv hd q
  have z1 : (1 : Nat) ≤ sizeLine := by decide
  have z2 : (2 : Nat) ≤ sizeLine := by decide
  have z16 : (16 : Nat) ≤ sizeLine := by decide
  refine ⟨1, rfl, _, rfl, z1, fun p1 h1 => ?_⟩
  have k1 := same_upd h1 (.lst [v])
  have e1 : upd H p1 (.lst [v]) p1 = some (.lst [v]) := upd_same
  generalize upd H p1 (.lst [v]) = H1 at k1 e1 ⊢
  refine ⟨_, rfl, z2, fun p2 h2 => ?_⟩
  have k2 := same_upd h2 (.tup [v, .non])
  have e2 : upd H1 p2 (.tup [v, .non]) p2 = some (.tup [v, .non]) := upd_same
  generalize upd H1 p2 (.tup [v, .non]) = H2 at k2 e2 ⊢
  refine ⟨_, rfl, z2, fun p3 h3 => ?_⟩
  have k3 := same_upd h3 (.tup [v, .bl true])
  have e3 : upd H2 p3 (.tup [v, .bl true]) p3 = some (.tup [v, .bl true]) := upd_same
  generalize upd H2 p3 (.tup [v, .bl true]) = H3 at k3 e3 ⊢
  refine ⟨_, rfl, 1, rfl, z2, fun p4 h4 => ?_⟩
  have k4 := same_upd h4 (.tup [v, .int (-1)])
  have e4 : upd H3 p4 (.tup [v, .int (-1)]) p4 = some (.tup [v, .int (-1)]) := upd_same
  generalize upd H3 p4 (.tup [v, .int (-1)]) = H4 at k4 e4 ⊢
  refine ⟨_, rfl, z2, fun p5 h5 => ?_⟩
  have k5 := same_upd h5 (.tup [v, .str "a-"])
  have e5 : upd H4 p5 (.tup [v, .str "a-"]) p5 = some (.tup [v, .str "a-"]) := upd_same
  generalize upd H4 p5 (.tup [v, .str "a-"]) = H5 at k5 e5 ⊢
  refine ⟨z1, fun p6 h6 => ?_⟩
  have k6 := same_upd h6 (.tup [.ref p5])
  have e6 : upd H5 p6 (.tup [.ref p5]) p6 = some (.tup [.ref p5]) := upd_same
  generalize upd H5 p6 (.tup [.ref p5]) = H6 at k6 e6 ⊢
  refine ⟨_, rfl, z1, fun p7 h7 => ?_⟩
  have k7 := same_upd h7 (.lst [.int 1])
  have e7 : upd H6 p7 (.lst [.int 1]) p7 = some (.lst [.int 1]) := upd_same
  generalize upd H6 p7 (.lst [.int 1]) = H7 at k7 e7 ⊢
  refine ⟨z2, fun p8 h8 => ?_⟩
  have k8 := same_upd h8 (.tup [v, .ref p7])
  have e8 : upd H7 p8 (.tup [v, .ref p7]) p8 = some (.tup [v, .ref p7]) := upd_same
  generalize upd H7 p8 (.tup [v, .ref p7]) = H8 at k8 e8 ⊢
  refine fun p9 h9 => ⟨upd_same, [(.inr "a", .int 1)], rfl, by decide, ?_⟩
  have k9 : Same H8 (upd (upd H8 p9 (.dK [])) p9 (.dK [(.inr "a", .int 1)])) := fun b o z => by rw [upd_ne (ne_of_none z h9), upd_ne (ne_of_none z h9)]; exact z
  have e9 : upd (upd H8 p9 (.dK [])) p9 (.dK [(.inr "a", .int 1)]) p9 = some (.dK [(.inr "a", .int 1)]) := upd_same
  change tCons _ _ _ (upd (upd H8 p9 (.dK [])) p9 (.dK [(.inr "a", .int 1)])) _
  generalize upd (upd H8 p9 (.dK [])) p9 (.dK [(.inr "a", .int 1)]) = H9 at k9 e9 ⊢
  refine ⟨_, rfl, z2, fun p10 h10 => ?_⟩
  have k10 := same_upd h10 (.tup [.str "", v])
  have e10 : upd H9 p10 (.tup [.str "", v]) p10 = some (.tup [.str "", v]) := upd_same
  generalize upd H9 p10 (.tup [.str "", v]) = H10 at k10 e10 ⊢
  refine ⟨z16, fun p11 h11 => ?_⟩
  have k1t := k2.trans (k3.trans (k4.trans (k5.trans (k6.trans (k7.trans (k8.trans (k9.trans k10)))))))
  have k0t := k1.trans k1t
  have hvX := dp_mono k0t hv
  have f1 := k1t _ _ e1
  have f2 := (k3.trans (k4.trans (k5.trans (k6.trans (k7.trans (k8.trans (k9.trans k10))))))) _ _ e2
  have f3 := (k4.trans (k5.trans (k6.trans (k7.trans (k8.trans (k9.trans k10)))))) _ _ e3
  have f4 := (k5.trans (k6.trans (k7.trans (k8.trans (k9.trans k10))))) _ _ e4
  have f5 := (k6.trans (k7.trans (k8.trans (k9.trans k10)))) _ _ e5
  have f6 := (k7.trans (k8.trans (k9.trans k10))) _ _ e6
  have f7 := (k8.trans (k9.trans k10)) _ _ e7
  have f8 := (k9.trans k10) _ _ e8
  have f9 := k10 _ _ e9
  have wa : wordL (tl "a-") = false := by decide +kernel
  have we : wordL (tl "") = false := by decide +kernel
  have la : ("a-" : Str).length ≤ sizeLine := by decide +kernel
  have le : ("" : Str).length ≤ sizeLine := by decide +kernel
  have cd : cnt d ≤ 9331 := Nat.le_trans hd.cnt (by decide)
  have M := hd.ms
  have one : ∀ (u : V) (c : PyData), Dp K H10 u c → Ms 20 15000000 c → good c = false → cnt c ≤ 2500000 → stOk c = true → Od1 K H10 u := fun u c a b g n st => ⟨c, rpV a (b.rp (by decide) (by decide)), g, n, st⟩
  have str : ∀ x : Str, (tl x).all (fun c => decide (c < 16 ^ 8)) = true → (tl x).length ≤ 100 → wordL (tl x) = false → Od1 K H10 (.str x) := fun x a b c => one _ (.str x) (.str x) ((ms_str (D := 0) x a b).mono (by decide) (by decide)) c (by simp only [cnt]; omega) (by simp only [stOk]; exact decide_eq_true (by rw [len_tl, sizeLine_eq]; omega))
  have all : ∀ x ∈ ([.non, .bl true, .int (-1), .str "", .str "A", .str "abcdefghi", .str "a1", .str "a b", .ref p1, .ref p2, .ref p3, .ref p4, .ref p6, .ref p8, .ref p9, .ref p10] : List V), Od1 K H10 x := fun x hx => by
    simp only [List.mem_cons, List.not_mem_nil, or_false] at hx
    rcases hx with e | e | e | e | e | e | e | e | e | e | e | e | e | e | e | e <;> subst e
    · exact one _ .none .non (ms_non.mono (Nat.zero_le _) (by decide)) rfl (by decide) rfl
    · exact one _ (.bool true) (.bl true) ((ms_bl (D := 0) true).mono (Nat.zero_le _) (by decide)) rfl (by decide) rfl
    · exact one _ (.int (-1)) (.int (-1)) ((ms_int (D := 0) (-1) (by decide) (by decide)).mono (Nat.zero_le _) (by decide)) (by decide) (by decide) rfl
    · exact str "" (by decide +kernel) (by decide +kernel) (by decide +kernel)
    · exact str "A" (by decide +kernel) (by decide +kernel) (by decide +kernel)
    · exact str "abcdefghi" (by decide +kernel) (by decide +kernel) (by decide +kernel)
    · exact str "a1" (by decide +kernel) (by decide +kernel) (by decide +kernel)
    · exact str "a b" (by decide +kernel) (by decide +kernel) (by decide +kernel)
    · exact one _ (.list [d]) (.lst (SqL.of f1) (.cons hvX .nil)) (M.lst1.mono (by decide) (by decide)) rfl (by simp only [cnt]; omega) rfl
    · exact one _ (.tuple [d, .none]) (.tup (SqT.of f2) (.cons hvX (.cons .non .nil))) ((M.tup2 ms_non).mono (by decide) (by decide)) (by simp [good, goods]) (by simp only [cnt, cnts]; omega) (by simp [stOk, stOks, hd.st])
    · exact one _ (.tuple [d, .bool true]) (.tup (SqT.of f3) (.cons hvX (.cons (.bl true) .nil))) ((M.tup2 (ms_bl true)).mono (by decide) (by decide)) (by simp [good, goods]) (by simp only [cnt, cnts]; omega) (by simp [stOk, stOks, hd.st])
    · exact one _ (.tuple [d, .int (-1)]) (.tup (SqT.of f4) (.cons hvX (.cons (.int (-1)) .nil))) ((M.tup2 (ms_int (-1) (by decide) (by decide))).mono (by decide) (by decide)) (by simp [good, goods]) (by simp only [cnt, cnts]; omega) (by simp [stOk, stOks, hd.st])
    · exact one _ (.tuple [.tuple [d, .str "a-"]]) (.tup (SqT.of f6) (.cons (.tup (SqT.of f5) (.cons hvX (.cons (.str "a-") .nil))) .nil)) (((M.tup2 (ms_str "a-" (by decide +kernel) (by decide +kernel))).tup1).mono (by decide) (by decide))
        (by simp [good, goods, wa]) (by simp only [cnt, cnts]; omega) (by simp [stOk, stOks, hd.st, la])
    · exact one _ (.tuple [d, .list [.int 1]]) (.tup (SqT.of f8) (.cons hvX (.cons (.lst (SqL.of f7) (.cons (.int 1) .nil)) .nil))) ((M.tup2 ((ms_int (D := 9) 1 (by decide) (by decide)).lst1)).mono (by decide) (by decide)) (by simp [good, goods]) (by simp only [cnt, cnts]; omega) (by simp [stOk, stOks, hd.st])
    · exact ⟨dA, ⟨.inr ⟨rfl, p9, rfl, f9⟩, .inr rfl, by decide +kernel, by decide +kernel, by decide +kernel⟩, rfl, by decide, rfl⟩
    · exact one _ (.tuple [.str "", d]) (.tup (SqT.of e10) (.cons (.str "") (.cons hvX .nil))) (((ms_str (D := 10) "" (by decide +kernel) (by decide +kernel)).tup2 M).mono (by decide) (by decide))
        (by simp [good, goods, we]) (by simp only [cnt, cnts]; omega) (by simp [stOk, stOks, hd.st, le])
  have kX := same_upd h11 (.tup [.non, .bl true, .int (-1), .str "", .str "A", .str "abcdefghi", .str "a1", .str "a b", .ref p1, .ref p2, .ref p3, .ref p4, .ref p6, .ref p8, .ref p9, .ref p10])
  have eX : upd H10 p11 (.tup [.non, .bl true, .int (-1), .str "", .str "A", .str "abcdefghi", .str "a1", .str "a b", .ref p1, .ref p2, .ref p3, .ref p4, .ref p6, .ref p8, .ref p9, .ref p10]) p11 = some (.tup [.non, .bl true, .int (-1), .str "", .str "A", .str "abcdefghi", .str "a1", .str "a b", .ref p1, .ref p2, .ref p3, .ref p4, .ref p6, .ref p8, .ref p9, .ref p10]) := upd_same
  refine ⟨p11, rfl, ⟨_, SqT.of eX⟩, ?_⟩
  have k0X := k0t.trans kX
  have allX := fun x hx => (all x hx).mono kX
  generalize upd H10 p11 (.tup [.non, .bl true, .int (-1), .str "", .str "A", .str "abcdefghi", .str "a1", .str "a b", .ref p1, .ref p2, .ref p3, .ref p4, .ref p6, .ref p8, .ref p9, .ref p10]) = HX at eX k0X allX ⊢
  refine for_it (walk_tup (K := K) (a := p11) (xs := [.non, .bl true, .int (-1), .str "", .str "A", .str "abcdefghi", .str "a1", .str "a b", .ref p1, .ref p2, .ref p3, .ref p4, .ref p6, .ref p8, .ref p9, .ref p10])) (fun i σ H' => ∃ y7 y8, σ = [some (.ref g), x1, some v, x3, x4, x5, x6, y7, y8, x9] ∧ Same HX H') ⟨_, _, rfl, Same.refl _⟩ (fun i σ H' _ hi => by obtain ⟨_, _, _, k⟩ := hi; exact SqT.of (k _ _ eX)) (fun i x σ H1 H1' hi hv1 y => ?_) (fun σ H1 hv1 => ?_)
  · obtain ⟨y7, y8, rfl, k⟩ := hv1
    obtain ⟨rfl, hx⟩ := y
    obtain ⟨c, rp, gc, cc, sc⟩ := (allX x (List.mem_of_getElem? hx)).mono k
    refine ⟨_, rfl, x, rfl, x, c, rfl, rp.1, cc, sc, fun h => (by rw [gc] at h; cases h), fun _ H2 dd k2 _ edd => ⟨rfl, dd, x, rfl, edd, fun p hp => ?_⟩⟩
    have kp := same_upd hp (.tup [.str "refused", x])
    have ep : upd H2 p (.tup [.str "refused", x]) p = some (.tup [.str "refused", x]) := upd_same
    have k3 := k2.trans kp
    generalize upd H2 p (.tup [.str "refused", x]) = H3 at ep k3
    have rp3 := rp.mono k3
    refine ⟨_, rfl, p, _, 0, .str "refused", rfl, rfl, SqT.of ep, atI_nat (j := 0) rfl, rfl, _, rfl, ifF rfl ⟨_, rfl, p, _, 1, x, rfl, rfl, SqT.of ep, atI_nat (j := 1) rfl, x, c, rfl, rp3.1, rp3.2.1, rp3.2.2.1, rp3.2.2.2.1, rp3.2.2.2.2, _, rfl, x, c, rfl, rp3.1, rp3.2.1, rp3.2.2.1, rp3.2.2.2.1, rp3.2.2.2.2, rfl, _, rfl, ifF (by rw [decide_eq_true rfl]; rfl) ?_⟩⟩
    exact ⟨_, _, rfl, k.trans k3⟩
  · obtain ⟨y7, y8, rfl, k⟩ := hv1
    exact q _ _ H1 (k0X.trans k)
end
end K16W
end
section
set_option Elab.async false
set_option linter.all false
set_option maxRecDepth 100000
set_option maxHeartbeats 8000000
namespace K16W
open PySem PySem.Spec PyProof.Rows L2 K16R K16T K16D TL K16 SX
section
variable {P : Program} {w : World} {K : PySem.W.Frag} {mg : Str → Option Value} {base : Heap} {f ft fr : Addr} {fd : FuncData}
/-- what read_thing refuses -/
def Od2 (K : PySem.W.Frag) (H : Hp) (v : V) : Prop := ∃ T d, Knd K H v T ∧ RpV K H v d ∧ (∀ z, v = .str z → (tl z).length ≤ 640) ∧ resOf v = none
theorem Od2.mono {H H' : Hp} {v : V} (k : Same H H') (h : Od2 K H v) : Od2 K H' v := by obtain ⟨T, d, a, b, c⟩ := h; exact ⟨T, d, a.mono k, b.mono k, c⟩
theorem od2_str {H : Hp} (x : Str) (a : (tl x).all (fun c => decide (c < 16 ^ 8)) = true) (b : (tl x).length ≤ 100) (c : (lawParsed (tl x)).isNone = true) : Od2 K H (.str x) := by
  refine ⟨_, .str x, .str x, rpV (.str x) ((ms_str (D := 0) x a b).rp (by decide) (by decide)), fun z e => by cases e; omega, ?_⟩
  show progParsed (tl x) = none
  rw [same_reader]
  exact Option.isNone_iff_eq_none.mp c
theorem ok_odd2 {cdv : Value} {A : Around} {outer : List Env} {s : Shared} {H0 : Hp} {E : XK} (m : Fx mg) (L : Lx P w K mg base ft fr) (hG : A.guards = some []) (hr : Room 221 (A.deeper (envOfC dLawRight.qual dLawRight.scope s.heap.objs.size f cdv))) :
    (∃ t, SsT T0 (cxOf CX0 P w K mg base nLawRight dLawRight.qual dLawRight.scope f cdv A outer s H0 E).nox riOdd2 t ∧ OdOk K t) := by
  obtain ⟨fR, RR⟩ := L.RR
  have r6 := hr.mono (show 6 ≤ 221 by decide)
  have hu : (A.deeper (envOfC dLawRight.qual dLawRight.scope s.heap.objs.size f cdv)).units + 102 < cLine := by have := hr.un; omega
  refine ⟨_, st_for PassesOwn.never rfl (pi_tup (pe_tup (pa_cons pe_non (pa_cons pe_int (pa_cons (pe_tup (pa_cons pe_str pa_nil)) (pa_cons pe_str (pa_cons pe_str (pa_cons pe_str (pa_cons pe_str (pa_cons pe_str (pa_cons pe_str (pa_cons pe_str (pa_cons pe_str (pa_cons pe_str (pa_cons pe_str (pa_cons pe_str (pa_cons pe_str (pa_cons pe_str (pa_cons pe_str (pa_cons pe_str (pa_cons pe_str (pa_cons pe_str pa_nil)))))))))))))))))))))) (pg_name (i := 8) scLawRight.nd rfl (Or.inl rfl))
    (bt_cons (st_set (i := 7) scLawRight.nd rfl (Or.inl rfl) (tcl RR hG r6 (E := fun _ => E0) p0 (at_cons (.of (pgF L.HR)) (at_cons (.of (pv 8)) at_nil))))
    (.of (pss_one (ps_if (pw_or (tcm op_ne (pe_ix ix_tup (pv 7) pe_int (fun _ _ => rfl)) pe_str) (pw_or1 (tcm op_ne (pb (call_reprD hG hu) m.repr (pa_cons (pe_ix ix_tup (pv 7) pe_int (fun _ _ => rfl)) pa_nil)) (pb (call_reprD hG hu) m.repr (pa_cons (pv 8) pa_nil))))).pt (pss_one (ps_ret pe_bl)) pss_nil)))), ?_⟩
  intro g v d x1 x3 x4 x5 x6 x7 x8 x9 D H hv hd q
  have z1 : (1 : Nat) ≤ sizeLine := by decide
  have z20 : (20 : Nat) ≤ sizeLine := by decide
  refine ⟨z1, fun p1 h1 => ?_⟩
  have k1 := same_upd h1 (.tup [.str "a"])
  have e1 : upd H p1 (.tup [.str "a"]) p1 = some (.tup [.str "a"]) := upd_same
  generalize upd H p1 (.tup [.str "a"]) = H1 at k1 e1 ⊢
  refine ⟨z20, fun p11 h11 => ?_⟩
  have kX := same_upd h11 (.tup [.non, .int 5, .ref p1, .str "", .str " ", .str "( )", .str "(a )", .str "( a)", .str "(a  b)", .str "()()", .str "a b", .str "(a", .str "a)", .str "01", .str "(00)", .str "(a,b)", .str "-1", .str "(a (b)c)", .str "abcdefghi", .str ")("])
  have eX : upd H1 p11 (.tup [.non, .int 5, .ref p1, .str "", .str " ", .str "( )", .str "(a )", .str "( a)", .str "(a  b)", .str "()()", .str "a b", .str "(a", .str "a)", .str "01", .str "(00)", .str "(a,b)", .str "-1", .str "(a (b)c)", .str "abcdefghi", .str ")("]) p11 = some (.tup [.non, .int 5, .ref p1, .str "", .str " ", .str "( )", .str "(a )", .str "( a)", .str "(a  b)", .str "()()", .str "a b", .str "(a", .str "a)", .str "01", .str "(00)", .str "(a,b)", .str "-1", .str "(a (b)c)", .str "abcdefghi", .str ")("]) := upd_same
  refine ⟨p11, rfl, ⟨_, SqT.of eX⟩, ?_⟩
  have k0X := k1.trans kX
  have f1 := kX _ _ e1
  generalize upd H1 p11 (.tup [.non, .int 5, .ref p1, .str "", .str " ", .str "( )", .str "(a )", .str "( a)", .str "(a  b)", .str "()()", .str "a b", .str "(a", .str "a)", .str "01", .str "(00)", .str "(a,b)", .str "-1", .str "(a (b)c)", .str "abcdefghi", .str ")("]) = HX at eX k0X f1 ⊢
  have allX : ∀ x ∈ ([.non, .int 5, .ref p1, .str "", .str " ", .str "( )", .str "(a )", .str "( a)", .str "(a  b)", .str "()()", .str "a b", .str "(a", .str "a)", .str "01", .str "(00)", .str "(a,b)", .str "-1", .str "(a (b)c)", .str "abcdefghi", .str ")("] : List V), Od2 K HX x := fun x hx => by
    simp only [List.mem_cons, List.not_mem_nil, or_false] at hx
    rcases hx with e | e | e | e | e | e | e | e | e | e | e | e | e | e | e | e | e | e | e | e <;> subst e
    · exact ⟨_, .none, .non, rpV .non (ms_non.rp (D := 0) (by decide) (by decide)), fun z e => (by cases e), rfl⟩
    · exact ⟨_, .int 5, .int 5, rpV (.int 5) ((ms_int (D := 0) 5 (by decide) (by decide)).rp (by decide) (by decide)), fun z e => (by cases e), rfl⟩
    · exact ⟨_, .tuple [.str "a"], .tup (SqT.of f1), rpV (.tup (SqT.of f1) (.cons (.str "a") .nil)) ((ms_str (D := 0) "a" (by decide +kernel) (by decide +kernel)).tup1.rp (by decide) (by decide)), fun z e => (by cases e), rfl⟩
    all_goals exact od2_str _ (by decide +kernel) (by decide +kernel) (by decide +kernel)
  refine for_it (walk_tup (K := K) (a := p11) (xs := [.non, .int 5, .ref p1, .str "", .str " ", .str "( )", .str "(a )", .str "( a)", .str "(a  b)", .str "()()", .str "a b", .str "(a", .str "a)", .str "01", .str "(00)", .str "(a,b)", .str "-1", .str "(a (b)c)", .str "abcdefghi", .str ")("])) (fun i σ H' => ∃ y7 y8, σ = [some (.ref g), x1, some v, x3, x4, x5, x6, y7, y8, x9] ∧ Same HX H') ⟨_, _, rfl, Same.refl _⟩ (fun i σ H' _ hi => by obtain ⟨_, _, _, k⟩ := hi; exact SqT.of (k _ _ eX)) (fun i x σ H1 H1' hi hv1 y => ?_) (fun σ H1 hv1 => ?_)
  · obtain ⟨y7, y8, rfl, k⟩ := hv1
    obtain ⟨rfl, hx⟩ := y
    obtain ⟨T, c, kn, rp, ln, rn⟩ := (allX x (List.mem_of_getElem? hx)).mono k
    refine ⟨_, rfl, x, rfl, x, T, rfl, kn, fun z e => ⟨by have := ln z e; omega, short_words (rk_up (rk_len _ 0) (by have := ln z e; omega))⟩, fun d' e => (by rw [rn] at e; cases e), fun _ H2 dd k2 _ edd => ⟨rfl, dd, x, rfl, edd, fun p hp => ?_⟩⟩
    have kp := same_upd hp (.tup [.str "refused", x])
    have ep : upd H2 p (.tup [.str "refused", x]) p = some (.tup [.str "refused", x]) := upd_same
    have k3 := k2.trans kp
    generalize upd H2 p (.tup [.str "refused", x]) = H3 at ep k3
    have rp3 := rp.mono k3
    refine ⟨_, rfl, p, _, 0, .str "refused", rfl, rfl, SqT.of ep, atI_nat (j := 0) rfl, rfl, _, rfl, ifF rfl ⟨_, rfl, p, _, 1, x, rfl, rfl, SqT.of ep, atI_nat (j := 1) rfl, x, c, rfl, rp3.1, rp3.2.1, rp3.2.2.1, rp3.2.2.2.1, rp3.2.2.2.2, _, rfl, x, c, rfl, rp3.1, rp3.2.1, rp3.2.2.1, rp3.2.2.2.1, rp3.2.2.2.2, rfl, _, rfl, ifF (by rw [decide_eq_true rfl]; rfl) ?_⟩⟩
    exact ⟨_, _, rfl, k.trans k3⟩
  · obtain ⟨y7, y8, rfl, k⟩ := hv1
    exact q _ _ H1 (k0X.trans k)
end
end K16W
end
section
set_option Elab.async false
set_option linter.all false
set_option maxRecDepth 100000
set_option maxHeartbeats 8000000
namespace K16W
open PySem PySem.Spec PyProof.Rows L2 K16R K16T K16D TL K16 SX
section
variable {P : Program} {w : World} {K : PySem.W.Frag} {mg : Str → Option Value} {base : Heap} {f ft fr : Addr} {fd : FuncData}
theorem tcF {X : Cx} {CX : CXT} {k : Nat} {ps : List Str} {sp : Sp} {x : Str} {p pos : Pos} {e : Expr} {es : List Expr} {t : TA} (h : Has X.prog X.w X.K X.mg X.base CX k x ps sp) (hr : Room k X.A) {E : L2.St → XK} (hx : ∀ σ, PassesAt CX X σ (E σ)) (ha : AaT T0 X (e :: es) t) (hg : Gl X x := by rfl) (hdb : (x == ("__debug__" : Str)) = false := by decide)
    (he : starEach (e :: es) X.env = (false, eval e X.env) :: starEach es X.env := by rfl) (hpl : (backTo pos (starEach es X.env)).any (·.1) = false := by rfl) : EeT T0 X (.Call (.Name x p) (e :: es) [] pos) (tCl sp E t) := by
  obtain ⟨f, fd, F, hm, hk, hb⟩ := h.ex
  exact et_callF F hr hg hm hk hb hx ha hdb he hpl
theorem num_short {n : Nat} (h : n < 100) : (numL n).length ≤ 91 := by
  by_cases h1 : n < 10
  · rw [numL_lt h1]; show 1 ≤ 91; decide
  · rw [numL_step (by omega), numL_lt (by omega)]; show 2 ≤ 91; decide
abbrev dE : PyData := .tuple [.tuple [], .tuple [.int 0, .tuple [.str "b"]], .str "a"]
theorem txtE : txt dE = tl "(() (0 (b)) a)" := by
  simp only [txt, txts, txtr]
  rw [show (0 : Int).toNat = 0 from rfl, num_zero]
  decide +kernel
theorem niceE : Nice 10 100 1000 dE := by
  have a := nice_str (z := "a") (by decide +kernel)
  have b := nice_str (z := "b") (by decide +kernel)
  have z := nice_int (i := 0) (n := 91) (by decide) (num_short (by decide)) (by decide)
  have n0 : ∀ D, Nices D 0 0 [] := fun D => Nices.nil
  have b1 := (Nices.cons b (n0 0)).tup
  have z1 := (Nices.cons (z.mono (D' := 1) (by decide) (Nat.le_refl _) (Nat.le_refl _)) (Nices.cons b1 (n0 1))).tup
  have e := ((n0 1)).tup
  exact (Nices.cons e (Nices.cons z1 (Nices.cons (a.mono (D' := 2) (by decide) (Nat.le_refl _) (Nat.le_refl _)) (n0 2)))).tup.mono (by decide) (by decide) (by decide)
def spRight : Sp := fun vs H Q _ => ∃ g : Addr, vs = [.ref g] ∧ Fg H g ∧ ∀ H', SameB g H H' → Q (.bl true) H'
theorem ok_right (m : Fx mg) (L : Lx P w K mg base ft fr) (F : FnP K dLawRight f fd) : FnT T0 P w K mg base CX0 222 f fd ["forge"] spRight := by
  refine fnT_of F scLawRight (fun vs H Q E h => ?_) (fun cdv A outer s H vs Q E hG hr h => ?_)
  · obtain ⟨g, rfl, _⟩ := h
    rfl
  obtain ⟨tT, hT, rT⟩ := ok_turn (cdv := cdv) (outer := outer) (s := s) (H0 := H) (E := E) m L hG hr
  obtain ⟨t1, hO1, rO1⟩ := ok_odd1 (cdv := cdv) (outer := outer) (s := s) (H0 := H) (E := E) m L hG hr
  obtain ⟨t2, hO2, rO2⟩ := ok_odd2 (cdv := cdv) (outer := outer) (s := s) (H0 := H) (E := E) m L hG hr
  have r2 := hr.mono (show 2 ≤ 221 by decide)
  have r4 := hr.mono (show 4 ≤ 221 by decide)
  have r5 := hr.mono (show 5 ≤ 221 by decide)
  have r8 := hr.mono (show 8 ≤ 221 by decide)
  have r11 := hr.mono (show 11 ≤ 221 by decide)
  refine ⟨_, bt_nox (bt_cons (st_for PassesOwn.never rfl (pi_range1 rfl m.range (pa_cons pe_int pa_nil)) (pg_name (i := 1) scLawRight.nd rfl (Or.inl rfl))
      (bt_cons (.of (ps_set (i := 2) scLawRight.nd rfl (Or.inl rfl) (pc L.GA r8 (pa_cons (pv 0) (pa_cons (pc L.GP r2 (pa_cons (pv 0) (pa_cons (pe_tup (pa_cons pe_int (pa_cons pe_int (pa_cons pe_int (pa_cons pe_int pa_nil))))) pa_nil))) pa_nil)))))
      (bt_cons (.of (ps_set (i := 3) scLawRight.nd rfl (Or.inl rfl) (pc L.GT r11 (pa_cons (pv 2) pa_nil))))
      (bt_cons (st_if (tt_not (tt_val (tcF L.GS hr (E := fun _ => E0) p0 (at_cons (et_tup (at_cons (.of (pcX L.TT r4 (E := fun _ _ _ _ => False) (pN rfl) (pa_cons (pv 2) pa_nil))) (at_cons (tck L.HT hG r4 (E := fun _ _ _ _ => False) (pN rfl) (pk_cons (pv 2) pk_nil)) (at_cons (tcl L.HR hG r5 (E := fun _ _ _ _ => False) (pN rfl) (at_cons (.of (pv 3)) at_nil)) (at_cons (tck L.HR hG r5 (E := fun _ _ _ _ => False) (pN rfl) (pk_cons (pv 3) pk_nil)) at_nil)))))
          (at_cons (.of (pe_tup (pa_cons (pv 3) (pa_cons (pv 3) (pa_cons (pv 2) (pa_cons (pv 2) pa_nil)))))) at_nil))))) (.of (pss_one (ps_ret pe_bl))) (.of pss_nil))
      (bt_cons hT (bt_cons hO1 (bt_one hO2)))))))
    (bt_cons (.of (ps_set (i := 9) scLawRight.nd rfl (Or.inl rfl) (pe_tup pa_nil)))
    (bt_cons (.of (ps_for PassesOwn.never rfl (pi_range1 rfl m.range (pa_cons pe_int pa_nil)) (pg_name (i := 1) scLawRight.nd rfl (Or.inl rfl)) (pss_one (ps_set (i := 9) scLawRight.nd rfl (Or.inl rfl) (pe_ifExp (tcm op_eq (pe_op op_mod (pty call_int1 m.int (pa_cons (pv 1) pa_nil)) pe_int) pe_int) (pe_tup (pa_cons (pv 9) pa_nil)) (pe_tup (pa_cons pe_str (pa_cons (pv 9) (pa_cons (pv 1) pa_nil)))))))))
    (bt_one (st_ret (tcF L.GS hr (E := fun _ => E0) p0 (at_cons (et_tup (at_cons (tcl L.HR hG r5 (E := fun _ _ _ _ => False) (pN rfl) (at_cons (.of (pcX L.TT r4 (E := fun _ _ _ _ => False) (pN rfl) (pa_cons (pv 9) pa_nil))) at_nil)) (at_cons (.of (pcX L.TT r4 (E := fun _ _ _ _ => False) (pN rfl) (pa_cons (pe_tup (pa_cons (pe_tup pa_nil) (pa_cons (pe_tup (pa_cons pe_int (pa_cons (pe_tup (pa_cons pe_str pa_nil)) pa_nil))) (pa_cons pe_str pa_nil)))) pa_nil))) at_nil)))
        (at_cons (.of (pe_tup (pa_cons (pv 9) (pa_cons pe_str pa_nil)))) at_nil))))))))
    , ?_⟩
  obtain ⟨g, rfl, hg, q⟩ := h
  have z0 : (0 : Nat) ≤ sizeLine := Nat.zero_le _
  have z1 : (1 : Nat) ≤ sizeLine := by decide
  have z2 : (2 : Nat) ≤ sizeLine := by decide
  have z3 : (3 : Nat) ≤ sizeLine := by decide
  have z4 : (4 : Nat) ≤ sizeLine := by decide
  refine ⟨_, rfl, by decide, by decide, ?_⟩
  refine for_it walk_range (n := 10) (fun i σ H' => ∃ x1 x2 x3 x4 x5 x6 x7 x8 x9, σ = [some (.ref g), x1, x2, x3, x4, x5, x6, x7, x8, x9] ∧ SameB g H H' ∧ Fg H' g) ⟨_, _, _, _, _, _, _, _, _, rfl, SameB.of (Same.refl _), hg⟩ (fun _ _ _ _ _ => True.intro) (fun i x σ H1 H1' hi hv1 y => ?_) (fun σ H1 hv1 => ?_)
  · obtain ⟨x1, x2, x3, x4, x5, x6, x7, x8, x9, rfl, k1, g1⟩ := hv1
    obtain ⟨rfl, rfl⟩ := y
    refine ⟨_, rfl, _, rfl, z4, fun p hp => ⟨g, p, _, rfl, g1.same (same_upd hp _), SqT.of upd_same, by simp, by simp, fun x H2 hx k2 g2 => ?_⟩⟩
    obtain ⟨n, rfl, hn⟩ : ∃ n : Nat, x = .int (n : Nat) ∧ n ≤ 5 := by
      simp only [List.mem_cons, List.not_mem_nil, or_false] at hx
      rcases hx with e | e | e | e <;> subst e
      · exact ⟨0, rfl, by decide⟩
      · exact ⟨2, rfl, by decide⟩
      · exact ⟨3, rfl, by decide⟩
      · exact ⟨5, rfl, by decide⟩
    have k2' : SameB g H H2 := k1.trans ((SameB.of (same_upd hp _)).trans k2)
    refine ⟨g, n, rfl, hn, g2, fun u d H3 k3 g3 hu nd => ?_⟩
    have k3' := k2'.trans k3
    have dd : dep d ≤ 6 := nd.dep
    have cd : cnt d ≤ 9331 := Nat.le_trans nd.cnt (by decide)
    have ld : (txt d).length ≤ 720056 := Nat.le_trans nd.len (by decide)
    refine ⟨_, rfl, u, d, rfl, hu, nd.good, by omega, nd.rk, by omega, by omega, fun H4 k4 => ?_⟩
    have rd : resOf (.str (S (txt d))) = some d := by
      show progParsed (txt d) = some d
      rw [same_reader]
      exact law_complete nd.good
    have bd : ∀ z, V.str (S (txt d)) = .str z → (tl z).length ≤ 800000 ∧ ∀ u ∈ wordsOf (tl z), u.all isFig = true → u.length ≤ 640 := fun z e => by
      cases e
      exact ⟨by show (txt d).length ≤ _; omega, short_words (rk_up nd.rk (by decide))⟩
    have nb : good d = false → False := fun h => by rw [nd.good] at h; cases h
    have hu4 := dp_mono k4 hu
    refine ⟨_, rfl, u, d, rfl, .inl hu4, by omega, nd.st, fun _ => ⟨nd.sm, by omega, fun H5 k5 => ?_⟩, fun hf => (nb hf).elim⟩
    have hu5 := dp_mono k5 hu4
    refine ⟨_, rfl, u, d, rfl, .inl hu5, by omega, nd.st, fun _ => ⟨nd.sm, by omega, fun H6 k6 => ?_⟩, fun hf => (nb hf).elim⟩
    refine ⟨_, rfl, .str (S (txt d)), _, rfl, .str _, bd, fun d' e H7 u2 k7 hu2 => ?_, fun e => (by rw [rd] at e; cases e)⟩
    rw [rd] at e
    cases e
    refine ⟨_, rfl, .str (S (txt d)), _, rfl, .str _, bd, fun d' e H8 u3 k8 hu3 => ?_, fun e => (by rw [rd] at e; cases e)⟩
    rw [rd] at e
    cases e
    refine ⟨z4, fun p1 hp1 => ?_⟩
    have k9 := same_upd hp1 (.tup [.str (S (txt d)), .str (S (txt d)), u2, u3])
    have e9 : upd H8 p1 (.tup [.str (S (txt d)), .str (S (txt d)), u2, u3]) p1 = some (.tup [.str (S (txt d)), .str (S (txt d)), u2, u3]) := upd_same
    generalize upd H8 p1 (.tup [.str (S (txt d)), .str (S (txt d)), u2, u3]) = H9 at k9 e9 ⊢
    refine ⟨_, rfl, _, rfl, _, rfl, _, rfl, z4, fun p2 hp2 => ?_⟩
    have k10 := same_upd hp2 (.tup [.str (S (txt d)), .str (S (txt d)), u, u])
    have k49 := k5.trans (k6.trans (k7.trans (k8.trans (k9.trans k10))))
    refine ⟨.ref p1, .ref p2, .tuple [.str (S (txt d)), .str (S (txt d)), d, d], rfl, .tup (SqT.of (k10 _ _ e9)) (.cons (.str _) (.cons (.str _) (.cons (dp_mono (k8.trans (k9.trans k10)) hu2) (.cons (dp_mono (k9.trans k10) hu3) .nil)))), .tup (SqT.of upd_same) (.cons (.str _) (.cons (.str _) (.cons (dp_mono k49 hu4) (.cons (dp_mono k49 hu4) .nil)))), by simp [plain, plains, nd.plain], by simp only [dep, deps]; omega, by simp only [cnt, cnts]; omega, fun H11 k11 => ⟨_, rfl, ifF rfl ?_⟩⟩
    have kAll := k49.trans k11
    refine rT g u d _ _ _ _ _ _ _ _ H11 (g3.same (k4.trans kAll)) (dp_mono kAll hu4) nd (fun y4 y5 y6 y7 H12 k12 g12 => ?_)
    have hu12 : Dp K H12 u d := dp_monoT (k12.t (g3.same (k4.trans kAll))) nd.good (dp_mono kAll hu4)
    refine rO1 g u d _ _ _ _ _ _ _ _ _ H12 hu12 nd (fun y7' y8' H13 k13 => ?_)
    refine rO2 g u d _ _ _ _ _ _ _ _ _ H13 (dp_mono k13 hu12) nd (fun y7'' y8'' H14 k14 => ?_)
    exact ⟨_, _, _, _, _, _, _, _, _, rfl, k3'.trans ((SameB.of (k4.trans kAll)).trans (k12.trans (SameB.of (k13.trans k14)))), g12.same (k13.trans k14)⟩
  · obtain ⟨x1, x2, x3, x4, x5, x6, x7, x8, x9, rfl, k1, g1⟩ := hv1
    refine ⟨z0, fun q0 hq0 => ?_⟩
    have k2 := same_upd hq0 (.tup [])
    have e2 : upd H1 q0 (.tup []) q0 = some (.tup []) := upd_same
    generalize upd H1 q0 (.tup []) = H2 at k2 e2 ⊢
    refine ⟨_, rfl, by decide, by decide, ?_⟩
    refine for_it walk_range (n := 100) (fun i σ H' => ∃ x1 v d, σ = [some (.ref g), x1, x2, x3, x4, x5, x6, x7, x8, some v] ∧ Same H1 H' ∧ Dp K H' v d ∧ Nice (i + 1) (4 * i + 1) (120 * i + 2) d) ⟨_, .ref q0, .tuple [], rfl, k2, .tup (SqT.of e2) .nil, (Nices.nil (D := 0) (C := 0) (T := 0)).tup⟩ (fun _ _ _ _ _ => True.intro) (fun i x σ H3 H3' hi hv1 y => ?_) (fun σ H3 hv1 => ?_)
    · obtain ⟨x1', v, d, rfl, k3, hv, nd⟩ := hv1
      obtain ⟨rfl, rfl⟩ := y
      have hi : i < 100 := hi
      refine ⟨_, rfl, .inl ⟨_, rfl, _, _, rfl, rfl, (by show (0 : Int) < 2; decide), rfl, _, rfl, ?_⟩⟩
      refine ite2 (fun c => ?_) (fun c => ?_)
      · refine ⟨_, rfl, z1, fun p hp => ⟨_, _, .tuple [d], rfl, k3.trans (same_upd hp _), .tup (SqT.of upd_same) (.cons (dp_mono (same_upd hp _) hv) .nil), (Nices.cons nd (Nices.nil (C := 0) (T := 0))).tup.mono (by omega) (by omega) (by omega)⟩⟩
      · refine ⟨_, rfl, _, rfl, z3, fun p hp => ⟨_, _, .tuple [.str "a", d, .int (0 + (i : Nat))], rfl, k3.trans (same_upd hp _), .tup (SqT.of upd_same) (.cons (.str "a") (.cons (dp_mono (same_upd hp _) hv) (.cons (.int _) .nil))), ?_⟩⟩
        have a := (nice_str (z := "a") (by decide +kernel)).mono (D' := i + 1) (by omega) (Nat.le_refl _) (Nat.le_refl _)
        have b := (nice_int (i := 0 + (i : Nat)) (n := 91) (by omega) (num_short (by omega)) (by decide)).mono (D' := i + 1) (by omega) (Nat.le_refl _) (Nat.le_refl _)
        exact (Nices.cons a (Nices.cons nd (Nices.cons b (Nices.nil (C := 0) (T := 0))))).tup.mono (by omega) (by omega) (by omega)
    · obtain ⟨x1', v, d, rfl, k3, hv, nd⟩ := hv1
      have dd : dep d ≤ 101 := nd.dep
      have cd : cnt d ≤ 401 := nd.cnt
      have ld : (txt d).length ≤ 12002 := nd.len
      have rd : resOf (.str (S (txt d))) = some d := by
        show progParsed (txt d) = some d
        rw [same_reader]
        exact law_complete nd.good
      have bd : ∀ z, V.str (S (txt d)) = .str z → (tl z).length ≤ 800000 ∧ ∀ u ∈ wordsOf (tl z), u.all isFig = true → u.length ≤ 640 := fun z e => by
        cases e
        exact ⟨by show (txt d).length ≤ _; omega, short_words (rk_up nd.rk (by decide))⟩
      refine ⟨_, rfl, v, d, rfl, .inl hv, by omega, nd.st, fun _ => ⟨nd.sm, by omega, fun H4 k4 => ?_⟩, fun hf => (by rw [nd.good] at hf; cases hf)⟩
      refine ⟨.str (S (txt d)), _, rfl, .str _, bd, fun d' e H5 u k5 hu => ?_, fun e => (by rw [rd] at e; cases e)⟩
      rw [rd] at e
      cases e
      refine ⟨z0, fun a1 ha1 => ?_⟩
      have k6 := same_upd ha1 (.tup [])
      have e6 : upd H5 a1 (.tup []) a1 = some (.tup []) := upd_same
      generalize upd H5 a1 (.tup []) = H6 at k6 e6 ⊢
      refine ⟨z1, fun a2 ha2 => ?_⟩
      have k7 := same_upd ha2 (.tup [.str "b"])
      have e7 : upd H6 a2 (.tup [.str "b"]) a2 = some (.tup [.str "b"]) := upd_same
      generalize upd H6 a2 (.tup [.str "b"]) = H7 at k7 e7 ⊢
      refine ⟨z2, fun a3 ha3 => ?_⟩
      have k8 := same_upd ha3 (.tup [.int 0, .ref a2])
      have e8 : upd H7 a3 (.tup [.int 0, .ref a2]) a3 = some (.tup [.int 0, .ref a2]) := upd_same
      generalize upd H7 a3 (.tup [.int 0, .ref a2]) = H8 at k8 e8 ⊢
      refine ⟨z3, fun a4 ha4 => ?_⟩
      have k9 := same_upd ha4 (.tup [.ref a1, .ref a3, .str "a"])
      have e9 : upd H8 a4 (.tup [.ref a1, .ref a3, .str "a"]) a4 = some (.tup [.ref a1, .ref a3, .str "a"]) := upd_same
      generalize upd H8 a4 (.tup [.ref a1, .ref a3, .str "a"]) = H9 at k9 e9 ⊢
      have hE : Dp K H9 (.ref a4) dE := .tup (SqT.of e9) (.cons (.tup (SqT.of ((k7.trans (k8.trans k9)) _ _ e6)) .nil) (.cons (.tup (SqT.of (k9 _ _ e8)) (.cons (.int 0) (.cons (.tup (SqT.of ((k8.trans k9) _ _ e7)) (.cons (.str "b") .nil)) .nil))) (.cons (.str "a") .nil)))
      refine ⟨.ref a4, dE, rfl, .inl hE, Nat.le_trans niceE.cnt (by decide), niceE.st, fun _ => ⟨niceE.sm, Nat.le_trans niceE.len (by decide), fun H10 k10 => ?_⟩, fun hf => (by rw [niceE.good] at hf; cases hf)⟩
      rw [txtE, show S (tl "(() (0 (b)) a)") = "(() (0 (b)) a)" from mk_tl _]
      refine ⟨z2, fun p1 hp1 => ?_⟩
      have k11 := same_upd hp1 (.tup [u, .str "(() (0 (b)) a)"])
      have e11 : upd H10 p1 (.tup [u, .str "(() (0 (b)) a)"]) p1 = some (.tup [u, .str "(() (0 (b)) a)"]) := upd_same
      generalize upd H10 p1 (.tup [u, .str "(() (0 (b)) a)"]) = H11 at k11 e11 ⊢
      refine ⟨_, rfl, z2, fun p2 hp2 => ?_⟩
      have k12 := same_upd hp2 (.tup [v, .str "(() (0 (b)) a)"])
      have k5t := k6.trans (k7.trans (k8.trans (k9.trans (k10.trans (k11.trans k12)))))
      refine ⟨.ref p1, .ref p2, .tuple [d, .str "(() (0 (b)) a)"], rfl, .tup (SqT.of (k12 _ _ e11)) (.cons (dp_mono k5t hu) (.cons (.str _) .nil)), .tup (SqT.of upd_same) (.cons (dp_mono (k4.trans (k5.trans k5t)) hv) (.cons (.str _) .nil)), by simp [plain, plains, nd.plain], by simp only [dep, deps]; omega, by simp only [cnt, cnts]; omega, fun H13 k13 => ?_⟩
      exact q H13 (k1.trans (SameB.of (k3.trans (k4.trans (k5.trans (k5t.trans k13))))))
end
end K16W
end
section
set_option Elab.async false
set_option linter.all false
set_option maxRecDepth 100000
set_option maxHeartbeats 8000000
namespace K16W
open PySem PySem.Spec PyProof.Rows L2 K16R K16T K16D TL K16 SX
section
variable {P : Program} {w : World} {K : PySem.W.Frag} {mg : Str → Option Value} {base : Heap} {f fg : Addr} {fd : FuncData}
def spLaw (K : PySem.W.Frag) : Sp := fun vs H Q _ => ∃ (a : Addr) (ns : List Int), vs = [.ref a] ∧ ns.length ≤ 63 ∧ SqL K H a (ns.map V.int) ∧ ∀ H', Q (.bl true) H'
theorem SqL.monoB {H H' : Hp} {g a : Addr} {xs : List V} (k : SameB g H H') (hg : H g = none) (h : SqL K H a xs) : SqL K H' a xs := by
  refine Same.seq (H := H) (fun b o e => k b o (fun z => by rw [z, hg] at e; cases e) e) h
theorem ok_law (m : Fx mg) (GF : Has P w K mg base CX0 1 "_law_forge" ["script", "lap"] (spForge K)) (GR : HasT P w K mg base CX0 222 "_law_right" fg ["forge"] spRight) (F : FnP K dLaw f fd) : FnT T0 P w K mg base CX0 223 f fd ["script"] (spLaw K) := by
  refine fnT_of F scLaw (fun vs H Q E h => ?_) (fun cdv A outer s H vs Q E hG hr h => ?_)
  · obtain ⟨a, ns, rfl, _⟩ := h
    rfl
  have r1 := hr.mono (show 1 ≤ 222 by decide)
  refine ⟨_, bt_nox (bt_one (st_ret (et_cmp op_notIn_seq pe_bl (et_lc (own := [("lap", 1)]) (g := gName 1) rfl scLaw.nd
    (pi_range1 rfl m.range (pa_cons (pb (call_max2 rfl) m.max (pa_cons pe_int (pa_cons (pb (call_min2 rfl) m.min (pa_cons (pb call_len_seq m.len (pa_cons (pv 0) pa_nil)) (pa_cons pe_int pa_nil))) pa_nil))) pa_nil))
    (blkOk_by (N := nLaw) (sc := defScope sLaw) (by decide +kernel)) (fun _ _ _ _ _ => pg_name (i := 1) scLaw.nd rfl (Or.inl rfl))
    (fun _ _ _ _ _ => tcl GR hG hr (E := fun _ => E0) p0 (at_cons (.of (pc GF r1 (pa_cons (pv 0) (pa_cons (pv 1) pa_nil)))) at_nil))) rfl))), ?_⟩
  obtain ⟨a, ns, rfl, hn, hs, q⟩ := h
  refine ⟨_, rfl, a, _, rfl, .inl hs, _, _, rfl, _, _, rfl, ?_⟩
  rw [List.length_map]
  generalize hj : (if (if (3 : Int) < ((ns.length : Nat) : Int) then (3 : Int) else ((ns.length : Nat) : Int)) > 2 then (if (3 : Int) < ((ns.length : Nat) : Int) then (3 : Int) else ((ns.length : Nat) : Int)) else 2) = j
  have hj2 : 0 ≤ j ∧ j ≤ 3 := by
    rw [← hj]
    split <;> split <;> omega
  refine ⟨j, rfl, by omega, by omega, fun D hD => ?_⟩
  refine lc_it walk_range (fun i H' => Same H H' ∧ H' D = some (.lst (List.replicate i (.bl true)))) ⟨same_upd hD _, upd_same⟩ (fun _ _ _ _ => True.intro) (fun i x H1 H1' hi p y => ?_) (fun H1 p => ?_)
  · obtain ⟨rfl, rfl⟩ := y
    obtain ⟨k, e⟩ := p
    refine ⟨rfl, _, rfl, _, rfl, a, ns, i, congrArg (fun z : Int => [V.ref a, V.int z]) (Int.zero_add _), k.seq hs, hn, by omega, fun H2 p k2 hp g2 => ?_⟩
    refine ⟨p, rfl, g2, fun H3 k3 => ?_⟩
    have hDp : D ≠ p := fun z => by rw [← z, e] at hp; cases hp
    have e3 := k3 D _ hDp (k2 _ _ e)
    refine ⟨_, e3, by rw [List.length_replicate, sizeLine_eq]; omega, fun b o z => ?_, ?_⟩
    · have hb : b ≠ D := fun z2 => by rw [z2, hD] at z; cases z
      rw [upd_ne hb]
      exact k3 b o (fun z2 => by have := k b o z; rw [z2, hp] at this; cases this) (k2 b o (k b o z))
    · rw [upd_same, List.replicate_succ']
  · obtain ⟨k, e⟩ := p
    refine ⟨D, _, rfl, .inl (SqL.of e), rfl, ?_, ?_⟩
    · simp [flatV]
    · have z : inV (.bl false) (List.replicate j.toNat (V.bl true)) = false := by
        unfold inV
        rw [List.any_eq_false]
        intro x hx
        rw [List.eq_of_mem_replicate hx]
        decide
      rw [z]
      exact q H1
end
end K16W
end
section
set_option Elab.async false
set_option linter.all false
set_option maxRecDepth 100000
set_option maxHeartbeats 8000000
namespace K16W
open PySem PySem.Spec PyProof.Rows L2 K16R K16T K16D TL K16 SX
theorem mkHas {P : Program} {w : World} {K : PySem.W.Frag} {mg : Str → Option Value} {base : Heap} {CX : CXT} {k : Nat} {d : He.DefD} {f : Addr} {fd : FuncData} {x : Str} {ps : List Str} {sp : Sp} (F : FnP K d f fd) (ok : FnOk P w K mg base CX k f fd ps sp) (hm : mg x = some (.ref f)) (hb : Binds K fd ps []) : Has P w K mg base CX k x ps sp := ⟨f, fd, ok, hm, F.kp, hb⟩
section
variable {K : PySem.W.Frag} {mg : Str → Option Value} {h : Heap}
theorem fx_of (hK : K.In h) (hn : h.Ns mainGlobals mg) (c : He.SaysD fa fn K) (hx : xtr K = true) : Fx mg := by
  unfold xtr at hx
  simp only [Bool.and_eq_true] at hx
  exact ⟨He.free_ok hK hn (c.fact 28), He.free_ok hK hn (c.fact 29), He.free_ok hK hn (c.fact 30), He.free_ok hK hn (c.fact 31), He.free_ok hK hn (c.fact 32), He.free_ok hK hn (c.fact 33), He.free_ok hK hn (c.fact 34), He.free_ok hK hn (c.fact 35), He.free_ok hK hn (c.fact 36), He.free_ok hK hn (c.fact 37), He.free_ok hK hn (c.fact 38), He.free_ok hK hn (c.fact 39), He.free_ok hK hn (c.fact 40), He.free_ok hK hn (c.fact 41), He.free_ok hK hn (c.fact 42), He.free_ok hK hn (c.fact 43), He.int_ok hK hn (c.fact 44), He.int_ok hK hn (c.fact 45), He.int_ok hK hn (c.fact 46), He.str_ok hK hn (c.fact 47), He.str_ok hK hn (c.fact 48), He.str_ok hK hn (c.fact 49), tokB_ok hK hn hx.1, tokB_ok hK hn hx.2.1⟩
end
end K16W
end
section
set_option Elab.async false
set_option linter.all false
set_option maxRecDepth 100000
set_option maxHeartbeats 8000000
namespace K16W
open PySem PySem.Spec PyProof.Rows L2 K16R K16T K16D TL K16 SX
theorem imp_text {K : PySem.W.Frag} : ∀ v H (Q Q' : VK) (E E' : XK), (∀ u H1, Q u H1 → Q' u H1) → (∀ c d H1, E c d H1 → E' c d H1) → spThingText K [v] H Q E → spThingText K [v] H Q' E' := fun v H Q Q' E E' hQ hE ⟨u, d, e, a, b, c, q1, q2⟩ =>
  ⟨u, d, e, a, b, c, fun hg => ⟨(q1 hg).1, (q1 hg).2.1, fun H' k => hQ _ _ ((q1 hg).2.2 H' k)⟩, fun hg H' dd k h1 h2 => hE _ _ _ (q2 hg H' dd k h1 h2)⟩
theorem imp_read {K : PySem.W.Frag} : ∀ v H (Q Q' : VK) (E E' : XK), (∀ u H1, Q u H1 → Q' u H1) → (∀ c d H1, E c d H1 → E' c d H1) → spRead K [v] H Q E → spRead K [v] H Q' E' := fun v H Q Q' E E' hQ hE ⟨u, T, e, a, b, q1, q2⟩ =>
  ⟨u, T, e, a, b, fun d hd H' x k hx => hQ _ _ (q1 d hd H' x k hx), fun hn H' dd k h1 h2 => hE _ _ _ (q2 hn H' dd k h1 h2)⟩
section
variable {K : PySem.W.Frag}
theorem bn0 {f : Addr} {fd : FuncData} (F : FnP K dInvalidthingInit f fd) : Binds K fd ["self", "given"] [] := F.bindsN (fun kV doc pm an cdv ct us hl => by
  match us, hl with
  | [u, v], _ => rfl)
theorem bn1 {f : Addr} {fd : FuncData} (F : FnP K dIsWhole f fd) : Binds K fd ["value"] [] := F.bindsN (fun kV doc pm an cdv ct us hl => by
  match us, hl with
  | [u], _ => rfl)
theorem bn2 {f : Addr} {fd : FuncData} (F : FnP K dIsLetters f fd) : Binds K fd ["value"] [] := F.bindsN (fun kV doc pm an cdv ct us hl => by
  match us, hl with
  | [u], _ => rfl)
theorem bn3 {f : Addr} {fd : FuncData} (F : FnP K dIsFigures f fd) : Binds K fd ["text"] [] := F.bindsN (fun kV doc pm an cdv ct us hl => by
  match us, hl with
  | [u], _ => rfl)
theorem bn4 {f : Addr} {fd : FuncData} (F : FnP K dWholeOf f fd) : Binds K fd ["figures"] [] := F.bindsN (fun kV doc pm an cdv ct us hl => by
  match us, hl with
  | [u], _ => rfl)
theorem bn5 {f : Addr} {fd : FuncData} (F : FnP K dFiguresOf f fd) : Binds K fd ["number"] [] := F.bindsN (fun kV doc pm an cdv ct us hl => by
  match us, hl with
  | [u], _ => rfl)
theorem bn6 {f : Addr} {fd : FuncData} (F : FnP K dIsLone f fd) : Binds K fd ["value"] [] := F.bindsN (fun kV doc pm an cdv ct us hl => by
  match us, hl with
  | [u], _ => rfl)
theorem bn7 {f : Addr} {fd : FuncData} (F : FnP K dHasText f fd) : Binds K fd ["value"] [] := F.bindsN (fun kV doc pm an cdv ct us hl => by
  match us, hl with
  | [u], _ => rfl)
theorem bn8 {f : Addr} {fd : FuncData} (F : FnP K dSignsOf f fd) : Binds K fd ["value"] [] := F.bindsN (fun kV doc pm an cdv ct us hl => by
  match us, hl with
  | [u], _ => rfl)
theorem bn9 {f : Addr} {fd : FuncData} (F : FnP K dTextOfThing f fd) : Binds K fd ["value"] [] := F.bindsN (fun kV doc pm an cdv ct us hl => by
  match us, hl with
  | [u], _ => rfl)
theorem bn10 {f : Addr} {fd : FuncData} (F : FnP K dLoneIn f fd) : Binds K fd ["word"] [] := F.bindsN (fun kV doc pm an cdv ct us hl => by
  match us, hl with
  | [u], _ => rfl)
theorem bn11 {f : Addr} {fd : FuncData} (F : FnP K dValueIn f fd) : Binds K fd ["words"] [] := F.bindsN (fun kV doc pm an cdv ct us hl => by
  match us, hl with
  | [u], _ => rfl)
theorem bn12 {f : Addr} {fd : FuncData} (F : FnP K dReadThingBy f fd) : Binds K fd ["given"] [] := F.bindsN (fun kV doc pm an cdv ct us hl => by
  match us, hl with
  | [u], _ => rfl)
theorem bn13 {f : Addr} {fd : FuncData} (F : FnP K dThingText f fd) : Binds K fd ["value"] [] := F.bindsN (fun kV doc pm an cdv ct us hl => by
  match us, hl with
  | [u], _ => rfl)
theorem bn14 {f : Addr} {fd : FuncData} (F : FnP K dReadThing f fd) : Binds K fd ["given"] [] := F.bindsN (fun kV doc pm an cdv ct us hl => by
  match us, hl with
  | [u], _ => rfl)
theorem bn15 {f : Addr} {fd : FuncData} (F : FnP K dLawForge f fd) : Binds K fd ["script", "lap"] [] := F.bindsN (fun kV doc pm an cdv ct us hl => by
  match us, hl with
  | [u, v], _ => rfl)
theorem bn16 {f : Addr} {fd : FuncData} (F : FnP K dLawStrike f fd) : Binds K fd ["forge", "many"] [] := F.bindsN (fun kV doc pm an cdv ct us hl => by
  match us, hl with
  | [u, v], _ => rfl)
theorem bn17 {f : Addr} {fd : FuncData} (F : FnP K dLawPick f fd) : Binds K fd ["forge", "things"] [] := F.bindsN (fun kV doc pm an cdv ct us hl => by
  match us, hl with
  | [u, v], _ => rfl)
theorem bn18 {f : Addr} {fd : FuncData} (F : FnP K dLawAreSame f fd) : Binds K fd ["told", "due"] [] := F.bindsN (fun kV doc pm an cdv ct us hl => by
  match us, hl with
  | [u, v], _ => rfl)
theorem bn19 {f : Addr} {fd : FuncData} (F : FnP K dLawSame f fd) : Binds K fd ["told", "due"] [] := F.bindsN (fun kV doc pm an cdv ct us hl => by
  match us, hl with
  | [u, v], _ => rfl)
theorem bn20 {f : Addr} {fd : FuncData} (F : FnP K dLawAnyValue f fd) : Binds K fd ["forge", "deep"] [] := F.bindsN (fun kV doc pm an cdv ct us hl => by
  match us, hl with
  | [u, v], _ => rfl)
theorem bn21 {f : Addr} {fd : FuncData} (F : FnP K dLawTold f fd) : Binds K fd ["value"] [] := F.bindsN (fun kV doc pm an cdv ct us hl => by
  match us, hl with
  | [u], _ => rfl)
theorem bn22 {f : Addr} {fd : FuncData} (F : FnP K dLawParsed f fd) : Binds K fd ["said"] [] := F.bindsN (fun kV doc pm an cdv ct us hl => by
  match us, hl with
  | [u], _ => rfl)
theorem bn23 {f : Addr} {fd : FuncData} (F : FnP K dLawIsWord f fd) : Binds K fd ["word"] [] := F.bindsN (fun kV doc pm an cdv ct us hl => by
  match us, hl with
  | [u], _ => rfl)
theorem bn24 {f : Addr} {fd : FuncData} (F : FnP K dLawNear f fd) : Binds K fd ["forge", "said"] [] := F.bindsN (fun kV doc pm an cdv ct us hl => by
  match us, hl with
  | [u, v], _ => rfl)
theorem bn25 {f : Addr} {fd : FuncData} (F : FnP K dLawRefused f fd) : Binds K fd ["call", "value"] [] := F.bindsN (fun kV doc pm an cdv ct us hl => by
  match us, hl with
  | [u, v], _ => rfl)
theorem bn26 {f : Addr} {fd : FuncData} (F : FnP K dLawRight f fd) : Binds K fd ["forge"] [] := F.bindsN (fun kV doc pm an cdv ct us hl => by
  match us, hl with
  | [u], _ => rfl)
theorem bn27 {f : Addr} {fd : FuncData} (F : FnP K dLaw f fd) : Binds K fd ["script"] [] := F.bindsN (fun kV doc pm an cdv ct us hl => by
  match us, hl with
  | [u], _ => rfl)
theorem kb13 {f : Addr} {fd : FuncData} (F : FnP K dThingText f fd) : KBinds K fd ["value"] ["value"] (fun us ws => us ++ ws) (fun vs zs => vs ++ zs) := kb1 F (fun _ _ _ _ _ _ _ => rfl) (fun _ _ _ _ _ _ _ => rfl)
theorem kb14 {f : Addr} {fd : FuncData} (F : FnP K dReadThing f fd) : KBinds K fd ["given"] ["given"] (fun us ws => us ++ ws) (fun vs zs => vs ++ zs) := kb1 F (fun _ _ _ _ _ _ _ => rfl) (fun _ _ _ _ _ _ _ => rfl)
end
theorem chain {P : Program} {w : World} {K : PySem.W.Frag} {mg : Str → Option Value} {h : Heap} (hK : K.In h) (hn : h.Ns mainGlobals mg) (c : He.SaysD fa fn K) (hx : xtr K = true) : ∃ fd, Binds K fd ["script"] [] ∧ (∀ (s : Shared) (u : Value), BindsTo s fd ⟨[u], []⟩ [("script", u)]) ∧ ∀ base : Heap, FnT T0 P w K mg base CX0 223 (He.ga K "law") fd ["script"] (spLaw K) := by
  have m := fx_of hK hn c hx
  unfold xtr at hx
  simp only [Bool.and_eq_true, decide_eq_true_eq] at hx
  obtain ⟨_, _, x1, x2, x3, x4, x5⟩ := hx
  obtain ⟨fd0, F0⟩ := c.def_ 0
  obtain ⟨fd1, F1⟩ := c.def_ 1
  obtain ⟨fd2, F2⟩ := c.def_ 2
  obtain ⟨fd3, F3⟩ := c.def_ 3
  obtain ⟨fd4, F4⟩ := c.def_ 4
  obtain ⟨fd5, F5⟩ := c.def_ 5
  obtain ⟨fd6, F6⟩ := c.def_ 6
  obtain ⟨fd7, F7⟩ := c.def_ 7
  obtain ⟨fd8, F8⟩ := c.def_ 8
  obtain ⟨fd9, F9⟩ := c.def_ 9
  obtain ⟨fd10, F10⟩ := c.def_ 10
  obtain ⟨fd11, F11⟩ := c.def_ 11
  obtain ⟨fd12, F12⟩ := c.def_ 12
  obtain ⟨fd13, F13⟩ := c.def_ 13
  obtain ⟨fd14, F14⟩ := c.def_ 14
  obtain ⟨fd15, F15⟩ := c.def_ 15
  obtain ⟨fd16, F16⟩ := c.def_ 16
  obtain ⟨fd17, F17⟩ := c.def_ 17
  obtain ⟨fd18, F18⟩ := c.def_ 18
  obtain ⟨fd19, F19⟩ := c.def_ 19
  obtain ⟨fd20, F20⟩ := c.def_ 20
  obtain ⟨fd21, F21⟩ := c.def_ 21
  obtain ⟨fd22, F22⟩ := c.def_ 22
  obtain ⟨fd23, F23⟩ := c.def_ 23
  obtain ⟨fd24, F24⟩ := c.def_ 24
  obtain ⟨fd25, F25⟩ := c.def_ 25
  obtain ⟨fd26, F26⟩ := c.def_ 26
  obtain ⟨fd27, F27⟩ := c.def_ 27
  have g1 : mg "is_whole" = some (.ref (He.ga K "is_whole")) := He.glo_ok hK hn (c.fact 1)
  have g2 : mg "is_letters" = some (.ref (He.ga K "is_letters")) := He.glo_ok hK hn (c.fact 2)
  have g3 : mg "is_figures" = some (.ref (He.ga K "is_figures")) := He.glo_ok hK hn (c.fact 3)
  have g4 : mg "whole_of" = some (.ref (He.ga K "whole_of")) := He.glo_ok hK hn (c.fact 4)
  have g5 : mg "figures_of" = some (.ref (He.ga K "figures_of")) := He.glo_ok hK hn (c.fact 5)
  have g6 : mg "is_lone" = some (.ref (He.ga K "is_lone")) := He.glo_ok hK hn (c.fact 6)
  have g7 : mg "has_text" = some (.ref (He.ga K "has_text")) := He.glo_ok hK hn (c.fact 7)
  have g8 : mg "signs_of" = some (.ref (He.ga K "signs_of")) := He.glo_ok hK hn (c.fact 8)
  have g9 : mg "text_of_thing" = some (.ref (He.ga K "text_of_thing")) := He.glo_ok hK hn (c.fact 9)
  have g10 : mg "lone_in" = some (.ref (He.ga K "lone_in")) := He.glo_ok hK hn (c.fact 10)
  have g11 : mg "value_in" = some (.ref (He.ga K "value_in")) := He.glo_ok hK hn (c.fact 11)
  have g12 : mg "read_thing_by" = some (.ref (He.ga K "read_thing_by")) := He.glo_ok hK hn (c.fact 12)
  have g13 : mg "thing_text" = some (.ref (He.ga K "thing_text")) := He.glo_ok hK hn (c.fact 13)
  have g14 : mg "read_thing" = some (.ref (He.ga K "read_thing")) := He.glo_ok hK hn (c.fact 14)
  have g15 : mg "_law_forge" = some (.ref (He.ga K "_law_forge")) := He.glo_ok hK hn (c.fact 15)
  have g16 : mg "_law_strike" = some (.ref (He.ga K "_law_strike")) := He.glo_ok hK hn (c.fact 16)
  have g17 : mg "_law_pick" = some (.ref (He.ga K "_law_pick")) := He.glo_ok hK hn (c.fact 17)
  have g18 : mg "_law_are_same" = some (.ref (He.ga K "_law_are_same")) := He.glo_ok hK hn (c.fact 18)
  have g19 : mg "_law_same" = some (.ref (He.ga K "_law_same")) := He.glo_ok hK hn (c.fact 19)
  have g20 : mg "_law_any_value" = some (.ref (He.ga K "_law_any_value")) := He.glo_ok hK hn (c.fact 20)
  have g21 : mg "_law_told" = some (.ref (He.ga K "_law_told")) := He.glo_ok hK hn (c.fact 21)
  have g22 : mg "_law_parsed" = some (.ref (He.ga K "_law_parsed")) := He.glo_ok hK hn (c.fact 22)
  have g23 : mg "_law_is_word" = some (.ref (He.ga K "_law_is_word")) := He.glo_ok hK hn (c.fact 23)
  have g24 : mg "_law_near" = some (.ref (He.ga K "_law_near")) := He.glo_ok hK hn (c.fact 24)
  have g25 : mg "_law_refused" = some (.ref (He.ga K "_law_refused")) := He.glo_ok hK hn (c.fact 25)
  have g26 : mg "_law_right" = some (.ref (He.ga K "_law_right")) := He.glo_ok hK hn (c.fact 26)
  have g27 : mg "law" = some (.ref (He.ga K "law")) := He.glo_ok hK hn (c.fact 27)
  refine ⟨fd27, bn27 F27, fun s u => FunD.bindsA (ps := ["script"]) F27 (fun kV doc pm an cdv ct us hl => by
    match us, hl with
    | [u], _ => rfl) s [u] rfl, fun base => ?_⟩
  have J : Ix P w K mg base := ⟨He.glo_ok hK hn (c.fact 0), oexB_ok x1, x3, xfB_ok x2, x4, x5, He.exm_ok (c.fact 50), fd0, ok_init (oexB_ok x1) x3 F0, bn0 F0⟩
  have h1 := mkHas (w := w) (P := P) (base := base) F1 (ok_whole m F1) g1 (bn1 F1)
  have h2 := mkHas (w := w) (P := P) (base := base) F2 (ok_letters m F2) g2 (bn2 F2)
  have h3 := mkHas (w := w) (P := P) (base := base) F3 (ok_figures m F3) g3 (bn3 F3)
  have h4 := mkHas (w := w) (P := P) (base := base) F4 (ok_whole_of m F4) g4 (bn4 F4)
  have h5 := mkHas (w := w) (P := P) (base := base) F5 (ok_figures_of m F5) g5 (bn5 F5)
  have h6 := mkHas (w := w) (P := P) (base := base) F6 (ok_lone h2 h1 F6) g6 (bn6 F6)
  have h7 := mkHas (w := w) (P := P) (base := base) F7 (ok_has_text m h6 F7) g7 (bn7 F7)
  have h8 := mkHas (w := w) (P := P) (base := base) F8 (ok_signs m h5 F8) g8 (bn8 F8)
  have h9 := mkHas (w := w) (P := P) (base := base) F9 (ok_text_of m h8 F9) g9 (bn9 F9)
  have h10 := mkHas (w := w) (P := P) (base := base) F10 (ok_lone_in h2 h3 h4 F10) g10 (bn10 F10)
  have h11 := mkHas (w := w) (P := P) (base := base) F11 (ok_value_in m h10 F11) g11 (bn11 F11)
  have t12 := ok_read_by m h11 h9 F12
  have h13 := mkHas (w := w) (P := P) (base := base) F13 (ok_thing_text J h7 h9 F13) g13 (bn13 F13)
  have t14 := ok_read m J ⟨_, _, t12, g12, F12.kp, bn12 F12⟩ F14
  have h15 := mkHas (w := w) (P := P) (base := base) F15 (ok_forge m F15) g15 (bn15 F15)
  have h16 := mkHas (w := w) (P := P) (base := base) F16 (ok_strike m F16) g16 (bn16 F16)
  have h17 := mkHas (w := w) (P := P) (base := base) F17 (ok_pick m h16 F17) g17 (bn17 F17)
  have h19 := mkHas (w := w) (P := P) (base := base) F19 (ok_both m F19 F18 g19 F19.kp (bn19 F19) g18 F18.kp (bn18 F18) 110) g19 (bn19 F19)
  have h20 := mkHas (w := w) (P := P) (base := base) F20 (ok_anyA (ok_any m h16 h17 F20 g20 F20.kp (bn20 F20))) g20 (bn20 F20)
  have h21 := mkHas (w := w) (P := P) (base := base) F21 (ok_told m F21 g21 F21.kp (bn21 F21) 10) g21 (bn21 F21)
  have h23 := mkHas (w := w) (P := P) (base := base) F23 (ok_is_word m F23) g23 (bn23 F23)
  have h22 := mkHas (w := w) (P := P) (base := base) F22 (ok_parsed m h23 F22) g22 (bn22 F22)
  have h24 := mkHas (w := w) (P := P) (base := base) F24 (ok_near m h16 h17 F24) g24 (bn24 F24)
  have T13 := FnT.of (n := T0) (ok_thing_text (P := P) (w := w) (base := base) J h7 h9 F13)
  have R1 := ok_refused J T13 F13.kp (bn13 F13) imp_text F25
  have R2 := ok_refused J t14 F14.kp (bn14 F14) imp_read F25
  have nob : ∀ {fd : FuncData} {a b : Str} (p : Str), ([a, b] : List Str) = [p] → KBinds K fd [p] [p] (fun us ws => us ++ ws) (fun vs zs => vs ++ zs) := fun p e => by cases e
  have L : Lx P w K mg base (He.ga K "thing_text") (He.ga K "read_thing") := ⟨h20, h17, h21, h19, h24, h22, h13, ⟨fd13, T13, g13, F13.kp, bn13 F13, fun p e => (by cases e; exact kb13 F13)⟩, ⟨fd14, t14, g14, F14.kp, bn14 F14, fun p e => (by cases e; exact kb14 F14)⟩,
    ⟨_, fd25, R1.mono (by decide), g25, F25.kp, bn25 F25, nob⟩, ⟨_, fd25, R2, g25, F25.kp, bn25 F25, nob⟩⟩
  have t26 := ok_right m L F26
  exact ok_law m h15 (fg := He.ga K "_law_right") ⟨fd26, t26, g26, F26.kp, bn26 F26, fun p e => (by cases e; exact kb1 F26 (fun _ _ _ _ _ _ _ => rfl) (fun _ _ _ _ _ _ _ => rfl))⟩ F27
end K16W
end
section
set_option Elab.async false
set_option linter.all false
set_option maxRecDepth 100000
set_option maxHeartbeats 0
namespace K16J
open PySem PySem.W PySem.Calls HandSHeadRun PySem.Spec PyProof.Rows L2 K16R K16T K16D TL K16 SX K16W
abbrev dd := HandSHeadRun.topDef K16D.R.prog 42
abbrev qq : Program := PySem.W.view K16D.R.prog [42]
theorem p_e : PySem.W.opening K16D.R.prog = PySem.W.plainProg K16D.R.prog.main.scope.names := by kernel_rfl
theorem p_f (s : Shared) : fenceModules? K16D.R.prog s = some s := by kernel_rfl
theorem p_def : PySem.W.defOf qq K16D.R.name = some (dd, []) := by kernel_rfl
theorem p_p : K16D.R.prog.theDef K16D.R.name = some (dd.params, dd.body, dd.scope) := by kernel_rfl
theorem p_k : PySem.W.kwWritten? dd.params.kwonlyargs dd.params.kw_defaults = some [] := by kernel_rfl
theorem p_wr : (!K16D.R.writes || K16D.R.toRowW.records.isEmpty) = true := by kernel_rfl
theorem p_k1 : K16D.R.wellSaid = true := by kernel_rfl
theorem p_ok : (PySem.W.chainsOk qq && PySem.W.opensWell K16D.R.prog && (PySem.W.frees K16D.R.toRowW && K16D.R.within.isEmpty)) = true := by kernel_rfl
theorem p_name : dd.name = ("law" : PySem.Str) := by kernel_rfl
theorem p_rec : K16D.R.toRowW.records = [] := by rfl
theorem p_most : K16D.law.most = some 63 := by rfl
theorem p_dfl : dd.params.defaults = [] := by kernel_rfl
theorem p_F (w : World) (mg : Str → Option Value) (fa : Addr) (h : Heap) (says : K16D.hk.says w h) (hn : h.Ns mainGlobals mg) (hm : mg dd.name = some (.ref fa)) :
    ∃ (K : PySem.W.Frag) (fd : FuncData) (sp : Sp), K.In h ∧ (∀ (s : Shared) (u : Value), BindsTo s fd ⟨[u], []⟩ [("script", u)]) ∧
      (∀ (H : Hp) (a : Addr) (ns : List Int), ns.length ≤ 63 → Only H → SqL K H a (ns.map V.int) → sp [.ref a] H (fun v _ => v = .bl true) fun _ _ _ => False) ∧
      ∀ base : Heap, K.In base → base.Ns mainGlobals mg → FnT K16D.T0 K16D.law.prog w K mg base CX0 223 fa fd ["script"] sp := by
  obtain ⟨K, hK, c, hx⟩ := says
  obtain ⟨fd, _, hb, hF⟩ := chain (P := K16D.law.prog) (w := w) hK hn c hx
  have g27 : mg "law" = some (.ref (He.ga K "law")) := He.glo_ok hK hn (c.fact 27)
  have e : fa = He.ga K "law" := by
    rw [p_name, g27] at hm
    injection hm with hm
    injection hm with hm
    exact hm.symm
  subst e
  exact ⟨K, fd, spLaw K, hK, hb, fun H a ns hl _ hs => ⟨a, ns, rfl, hl, hs, fun _ => rfl⟩, fun base _ _ => hF base⟩
theorem p_bare : K16D.law.row.prog.bare := ⟨rfl, rfl, rfl, rfl, rfl, by decide +kernel⟩
theorem p_hw : K16D.law.row.toRowW.promised := by w_witness2
end K16J
end
section
set_option Elab.async false
set_option linter.all false
set_option maxRecDepth 100000
set_option maxHeartbeats 0
namespace K16J
open PySem PySem.W PySem.Calls HandSHeadRun PySem.Spec PyProof.Rows L2 K16R K16T K16D TL K16 SX K16W
theorem join : K16D.law.row.Holds :=
  lawT (l := K16D.law) (n := 63) (k := 223) (T0 := K16D.T0) (M := 3000) (q := qq) (H := K16D.hk) (ob := K16D.ob) (loose := K16D.loose) (d := dd) (CX := L2.CX0) (x := "script") K16D.ob_eq
    p_e p_f K16D.run p_def p_p p_k p_wr p_k1 p_ok p_bare p_hw p_rec p_most (by decide) p_dfl ⟨rfl, by decide, by decide⟩ p_F (fun _ _ _ _ z => z)
end K16J
end
set_option Elab.async false
set_option linter.all false
set_option maxRecDepth 100000
set_option maxHeartbeats 0
theorem PySem.Challenge.cw_builtkinds_k16_whole_texts_of_things_holds : PySem.Challenge.rw_builtkinds_k16_whole_texts_of_things.Holds := by
  w_on
  o_law
  exact K16J.join
