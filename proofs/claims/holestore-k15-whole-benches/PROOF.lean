import PyProof.Rows.All
import Wide.All
import OpenK.AllK
import Wide.FinOn
import HandS.ForMost
import HandS.Walk
import HandS.Exc
import KE.KDictKeyed
import KE.KDictDisplayH
import KE.GoesNewDict
import KE.GoesDict
import KE.SortData
import KE.SortKeyHeap
import KE.LtData
import HandS.AnyAll
import HandS.Nested
import HandS.IsInst
import PyProof.GenCompD
import PyProof.IsiPairs
import HandS.Zip
import PyProof.Rows.GenSrcTup
import HandS.WordsExc
import HandS.More
import KE.DataFind
import PyProof.SeqIndex
import HandS.TupAny
import PyProof.TupleOfSeq
import HandS.SortKw
import HandS.ExcOwn
import KE.KDictCopyH
import HandS.TryMany
import HandS.Small
import HandS.TupSets
import HandS.DictComp
import HandS.Property
import HandS.Conv
import HandS.Keys
import HandS.EndOwn
import KE.KNestM
import PySem.Challenge.RW_holestore_k15_whole_benches
set_option autoImplicit false
set_option linter.unusedVariables false
/-! The plain law: standings, slides, words; the two searches for the least of the shortest words agree. -/
namespace K15
abbrev Sd := List (Option Nat)
abbrev Sl := Nat × Nat
abbrev Wd := List Sl
abbrev Fd := List (Sd × Wd)

def sortN (l : List Nat) : List Nat := l.mergeSort (fun a b => decide (a ≤ b))
def nearL (ties : List Sl) (p : Nat) : List Nat := (ties.filter (fun t => t.2 == p)).map (·.1) ++ (ties.filter (fun t => t.1 == p)).map (·.2)
def near (ties : List Sl) (p : Nat) : List Nat := sortN (nearL ties p)
def isHole (st : Sd) (o : Nat) : Bool := st.getD o none == none
def slidesAt (ties : List Sl) (st : Sd) (p : Nat) : List Sl := if isHole st p then [] else ((near ties p).filter (isHole st)).map (fun o => (p, o))
def slidesOf (ties : List Sl) (st : Sd) : List Sl := (List.range st.length).flatMap (slidesAt ties st)
def slid (st : Sd) (s : Sl) : Sd := (st.set s.1 none).set s.2 (st.getD s.1 none)

theorem sortN_perm (l : List Nat) : (sortN l).Perm l := List.mergeSort_perm l _
theorem sortN_pw (l : List Nat) : (sortN l).Pairwise (· ≤ ·) := by
  have h := List.pairwise_mergeSort (le := fun a b : Nat => decide (a ≤ b)) (by intro a b c h1 h2; simp at *; omega) (by intro a b; simp; omega) l
  exact h.imp (by intro a b h; simpa using h)
theorem sorted_unique : ∀ {l m : List Nat}, l.Perm m → l.Pairwise (· ≤ ·) → m.Pairwise (· ≤ ·) → l = m
  | [], m, hp, _, _ => (List.Perm.nil_eq hp)
  | a :: l, m, hp, h1, h2 => by
    cases m with
    | nil => exact absurd hp.symm (by intro h; exact absurd (h.length_eq) (by simp))
    | cons b m =>
      rw [List.pairwise_cons] at h1 h2
      have ha : a ∈ b :: m := hp.subset (List.mem_cons_self ..)
      have hb : b ∈ a :: l := hp.symm.subset (List.mem_cons_self ..)
      have e : a = b := by
        rcases List.mem_cons.mp ha with e | ha
        · exact e
        · rcases List.mem_cons.mp hb with e | hb
          · exact e.symm
          · exact Nat.le_antisymm (h1.1 b hb) (h2.1 a ha)
      subst e
      rw [sorted_unique ((List.perm_cons a).mp hp) h1.2 h2.2]
theorem sortN_of {l m : List Nat} (hp : m.Perm l) (hs : m.Pairwise (· ≤ ·)) : m = sortN l :=
  sorted_unique (hp.trans (sortN_perm l).symm) hs (sortN_pw l)
theorem mem_nearL {ties : List Sl} {p o : Nat} : o ∈ nearL ties p ↔ (o, p) ∈ ties ∨ (p, o) ∈ ties := by
  unfold nearL
  simp only [List.mem_append, List.mem_map, List.mem_filter, beq_iff_eq]
  constructor
  · rintro (⟨t, ⟨h1, h2⟩, rfl⟩ | ⟨t, ⟨h1, h2⟩, rfl⟩)
    · left; rw [← h2]; exact h1
    · right; rw [← h2]; exact h1
  · rintro (h | h)
    · exact .inl ⟨_, ⟨h, rfl⟩, rfl⟩
    · exact .inr ⟨_, ⟨h, rfl⟩, rfl⟩
theorem mem_near {ties : List Sl} {p o : Nat} : o ∈ near ties p ↔ (o, p) ∈ ties ∨ (p, o) ∈ ties := by
  unfold near
  rw [(sortN_perm _).mem_iff, mem_nearL]

/-- ties between places below n -/
def TiesOk (n : Nat) (ties : List Sl) : Prop := ∀ t ∈ ties, t.1 < t.2 ∧ t.2 < n
theorem near_lt {n : Nat} {ties : List Sl} (h : TiesOk n ties) {p o : Nat} (ho : o ∈ near ties p) : o < n := by
  rcases mem_near.mp ho with q | q
  · have := h _ q; omega
  · have := h _ q; omega
theorem near_ne {n : Nat} {ties : List Sl} (h : TiesOk n ties) {p o : Nat} (ho : o ∈ near ties p) : o ≠ p := by
  rcases mem_near.mp ho with q | q
  · have := h _ q; simp at this; omega
  · have := h _ q; simp at this; omega
theorem mem_slidesOf {ties : List Sl} {st : Sd} {s : Sl} : s ∈ slidesOf ties st ↔ s.1 < st.length ∧ isHole st s.1 = false ∧ s.2 ∈ near ties s.1 ∧ isHole st s.2 = true := by
  unfold slidesOf slidesAt
  simp only [List.mem_flatMap, List.mem_range]
  constructor
  · rintro ⟨p, hp, h⟩
    split at h
    · cases h
    · rename_i hh
      simp only [List.mem_map, List.mem_filter] at h
      obtain ⟨o, ⟨h1, h2⟩, rfl⟩ := h
      exact ⟨hp, by simpa using hh, h1, h2⟩
  · rintro ⟨h1, h2, h3, h4⟩
    refine ⟨s.1, h1, ?_⟩
    rw [if_neg (by rw [h2]; simp)]
    exact List.mem_map.mpr ⟨s.2, List.mem_filter.mpr ⟨h3, h4⟩, rfl⟩
theorem slid_length (st : Sd) (s : Sl) : (slid st s).length = st.length := by unfold slid; simp

/-! ### words as numbers -/
def dig (s : Sl) : Nat := 8 * s.1 + s.2
def code (w : Wd) : Nat := w.foldl (fun c s => 64 * c + dig s) 1
def SlOk (s : Sl) : Prop := s.1 < 8 ∧ s.2 < 8
def WdOk (w : Wd) : Prop := ∀ s ∈ w, SlOk s
theorem dig_lt {s : Sl} (h : SlOk s) : dig s < 64 := by unfold dig; have := h.1; have := h.2; omega
theorem dig_inj {s t : Sl} (h : SlOk s) (h' : SlOk t) (e : dig s = dig t) : s = t := by
  unfold dig at e
  have := h.1; have := h.2; have := h'.1; have := h'.2
  exact Prod.ext (by omega) (by omega)
theorem code_snoc (w : Wd) (s : Sl) : code (w ++ [s]) = 64 * code w + dig s := by unfold code; rw [List.foldl_append]; rfl
theorem code_nil : code [] = 1 := rfl
theorem WdOk.snoc {w : Wd} {s : Sl} (h : WdOk w) (h' : SlOk s) : WdOk (w ++ [s]) := fun t ht => by
  rcases List.mem_append.mp ht with q | q
  · exact h t q
  · rw [List.mem_singleton.mp q]; exact h'
theorem WdOk.of_snoc {w : Wd} {s : Sl} (h : WdOk (w ++ [s])) : WdOk w ∧ SlOk s := ⟨fun t ht => h t (List.mem_append_left _ ht), h s (List.mem_append_right _ (List.mem_singleton.mpr rfl))⟩
/-- induction from the back -/
theorem snoc_induction {α : Type} {P : List α → Prop} (h0 : P []) (h1 : ∀ l a, P l → P (l ++ [a])) (l : List α) : P l := by
  have h : ∀ m : List α, P m.reverse := by
    intro m
    induction m with
    | nil => exact h0
    | cons a m ih => rw [List.reverse_cons]; exact h1 _ _ ih
  have := h l.reverse
  rwa [List.reverse_reverse] at this
theorem code_pos (w : Wd) : 1 ≤ code w := by
  induction w using snoc_induction with
  | h0 => exact Nat.le_refl 1
  | h1 l a ih => rw [code_snoc]; omega
theorem code_bounds (w : Wd) : WdOk w → 64 ^ w.length ≤ code w ∧ code w < 2 * 64 ^ w.length := by
  induction w using snoc_induction with
  | h0 => intro _; exact ⟨Nat.le_refl 1, by decide⟩
  | h1 l a ih =>
    intro h
    obtain ⟨h1, h2⟩ := ih h.of_snoc.1
    have hd := dig_lt h.of_snoc.2
    rw [code_snoc, List.length_append, List.length_singleton, Nat.pow_succ]
    constructor <;> omega
theorem code_len {u v : Wd} (hu : WdOk u) (hv : WdOk v) (h : u.length < v.length) : code u < code v := by
  have h1 := (code_bounds u hu).2
  have h2 := (code_bounds v hv).1
  have h3 : 64 ^ (u.length + 1) ≤ 64 ^ v.length := Nat.pow_le_pow_right (by decide) h
  rw [Nat.pow_succ] at h3
  omega
theorem code_inj : ∀ (n : Nat) (u v : Wd), u.length = n → WdOk u → WdOk v → code u = code v → u = v := by
  intro n
  induction n with
  | zero =>
    intro u v hl hu hv e
    have hu0 : u = [] := List.length_eq_zero_iff.mp hl
    subst hu0
    cases v with
    | nil => rfl
    | cons b v => have := code_len (u := []) (v := b :: v) (fun _ h => nomatch h) hv (by simp); omega
  | succ n ih =>
    intro u v hl hu hv e
    have hlv : v.length = u.length := by
      rcases Nat.lt_trichotomy u.length v.length with q | q | q
      · have := code_len hu hv q; omega
      · exact q.symm
      · have := code_len hv hu q; omega
    have hu1 : u ≠ [] := by intro z; rw [z] at hl; cases hl
    have hv1 : v ≠ [] := by intro z; rw [z, hl] at hlv; cases hlv
    have eu := List.dropLast_concat_getLast hu1
    have ev := List.dropLast_concat_getLast hv1
    generalize u.getLast hu1 = a at eu
    generalize v.getLast hv1 = b at ev
    have lu : u.dropLast.length = n := by rw [List.length_dropLast, hl]; rfl
    rw [← eu] at hu e ⊢
    rw [← ev] at hv e ⊢
    rw [code_snoc, code_snoc] at e
    have da := dig_lt hu.of_snoc.2
    have db := dig_lt hv.of_snoc.2
    have hd : dig a = dig b := by omega
    have hc : code u.dropLast = code v.dropLast := by omega
    rw [ih _ _ lu hu.of_snoc.1 hv.of_snoc.1 hc, dig_inj hu.of_snoc.2 hv.of_snoc.2 hd]
theorem code_inj' {u v : Wd} (hu : WdOk u) (hv : WdOk v) (e : code u = code v) : u = v := code_inj _ u v rfl hu hv e

/-! ### runs -/
inductive Rn (ties : List Sl) (st : Sd) : Wd → Sd → Prop
  | nil : Rn ties st [] st
  | snoc {w : Wd} {t : Sd} {s : Sl} : Rn ties st w t → s ∈ slidesOf ties t → Rn ties st (w ++ [s]) (slid t s)
theorem Rn.inv {ties : List Sl} {st t' : Sd} {w : Wd} (h : Rn ties st w t') : (w = [] ∧ t' = st) ∨ ∃ u t s, w = u ++ [s] ∧ Rn ties st u t ∧ s ∈ slidesOf ties t ∧ t' = slid t s := by
  cases h with
  | nil => exact .inl ⟨rfl, rfl⟩
  | snoc h1 h2 => exact .inr ⟨_, _, _, rfl, h1, h2, rfl⟩
theorem Rn.inv_snoc {ties : List Sl} {st t' : Sd} {w : Wd} {s : Sl} (h : Rn ties st (w ++ [s]) t') : ∃ t, Rn ties st w t ∧ s ∈ slidesOf ties t ∧ t' = slid t s := by
  rcases h.inv with ⟨e, _⟩ | ⟨u, t, s', e, h1, h2, h3⟩
  · exact absurd e (by simp)
  · obtain ⟨e1, e2⟩ := List.append_inj' e rfl
    have e3 : s = s' := by simpa using e2
    subst e1 e3
    exact ⟨t, h1, h2, h3⟩
theorem Rn.det {ties : List Sl} {st : Sd} {w : Wd} : ∀ {t t' : Sd}, Rn ties st w t → Rn ties st w t' → t = t' := by
  induction w using snoc_induction with
  | h0 =>
    intro t t' h h'
    rcases h.inv with ⟨_, e⟩ | ⟨u, _, _, e, _⟩
    · rcases h'.inv with ⟨_, e'⟩ | ⟨u, _, _, e', _⟩
      · rw [e, e']
      · exact absurd e' (by simp)
    · exact absurd e (by simp)
  | h1 l a ih =>
    intro t t' h h'
    obtain ⟨u, h1, _, e⟩ := h.inv_snoc
    obtain ⟨u', h1', _, e'⟩ := h'.inv_snoc
    rw [e, e', ih h1 h1']
theorem Rn.len {ties : List Sl} {st : Sd} {w : Wd} {t : Sd} (h : Rn ties st w t) : t.length = st.length := by
  induction h with
  | nil => rfl
  | snoc _ _ ih => rw [slid_length, ih]
/-- a yard's data: n places at most 7, ties among them, standings of n places -/
structure YOk (n : Nat) (ties : List Sl) (st : Sd) : Prop where
  n8 : n ≤ 7
  len : st.length = n
  ties : TiesOk n ties
theorem slOk_of {n : Nat} {ties : List Sl} {st : Sd} (h : YOk n ties st) {s : Sl} (hs : s ∈ slidesOf ties st) : SlOk s := by
  obtain ⟨h1, _, h3, _⟩ := mem_slidesOf.mp hs
  have := near_lt h.ties h3
  have := h.n8
  have := h.len
  exact ⟨by omega, by omega⟩
theorem YOk.run {n : Nat} {ties : List Sl} {st t : Sd} {w : Wd} (h : YOk n ties st) (r : Rn ties st w t) : YOk n ties t := ⟨h.n8, r.len.trans h.len, h.ties⟩
theorem Rn.ok {n : Nat} {ties : List Sl} {st t : Sd} {w : Wd} (h : YOk n ties st) (r : Rn ties st w t) : WdOk w := by
  induction r with
  | nil => exact fun _ q => nomatch q
  | snoc r1 hs ih => exact ih.snoc (slOk_of (h.run r1) hs)

/-- w is the least of the shortest words to t -/
def Best (ties : List Sl) (st : Sd) (t : Sd) (w : Wd) : Prop := Rn ties st w t ∧ ∀ w', Rn ties st w' t → code w ≤ code w'
theorem Best.uniq {n : Nat} {ties : List Sl} {st t : Sd} {w w' : Wd} (h : YOk n ties st) (b : Best ties st t w) (b' : Best ties st t w') : w = w' :=
  code_inj' (b.1.ok h) (b'.1.ok h) (Nat.le_antisymm (b.2 _ b'.1) (b'.2 _ b.1))
theorem Best.exists {ties : List Sl} {st t : Sd} : ∀ (c : Nat) (w : Wd), code w ≤ c → Rn ties st w t → ∃ w', Best ties st t w' ∧ code w' ≤ code w := by
  intro c
  induction c with
  | zero => intro w h; have := code_pos w; omega
  | succ c ih =>
    intro w h r
    by_cases q : ∃ w', Rn ties st w' t ∧ code w' < code w
    · obtain ⟨w', r', l⟩ := q
      obtain ⟨w2, b, l2⟩ := ih w' (by omega) r'
      exact ⟨w2, b, by omega⟩
    · refine ⟨w, ⟨r, fun w' r' => ?_⟩, Nat.le_refl _⟩
      rcases Nat.lt_or_ge (code w') (code w) with z | z
      · exact absurd ⟨w', r', z⟩ q
      · exact z

/-! ### the found lists -/
def hasK (L : Fd) (t : Sd) : Bool := L.any (fun e => e.1 == t)
theorem hasK_iff {L : Fd} {t : Sd} : hasK L t = true ↔ t ∈ L.map (·.1) := by
  unfold hasK
  rw [List.any_eq_true]
  constructor
  · rintro ⟨e, h1, h2⟩
    exact List.mem_map.mpr ⟨e, h1, by simpa using h2⟩
  · intro h
    obtain ⟨e, h1, h2⟩ := List.mem_map.mp h
    exact ⟨e, h1, by simpa using h2⟩
theorem key_uniq {β : Type} : ∀ {L : List (Sd × β)} {t : Sd} {w w' : β}, (L.map (·.1)).Nodup → (t, w) ∈ L → (t, w') ∈ L → w = w'
  | [], _, _, _, _, h, _ => nomatch h
  | e :: L, t, w, w', hn, h, h' => by
    rw [List.map_cons, List.nodup_cons] at hn
    rcases List.mem_cons.mp h with q | q
    · rcases List.mem_cons.mp h' with q' | q'
      · rw [← q] at q'
        exact (congrArg Prod.snd q').symm
      · exact absurd (List.mem_map.mpr ⟨(t, w'), q', by rw [← q]⟩) hn.1
    · rcases List.mem_cons.mp h' with q' | q'
      · exact absurd (List.mem_map.mpr ⟨(t, w), q, by rw [← q']⟩) hn.1
      · exact key_uniq hn.2 q q'

/-! ### the law's search: a queue -/
def addL (one : Sd) (w : Wd) (L : Fd) (s : Sl) : Fd := if hasK L (slid one s) then L else L ++ [(slid one s, w ++ [s])]
def stepL (ties : List Sl) (L : Fd) (i : Nat) : Fd := match L[i]? with
  | none => L
  | some e => (slidesOf ties e.1).foldl (addL e.1 e.2) L
def lawW (ties : List Sl) (st : Sd) : Nat → Fd
  | 0 => [(st, [])]
  | i + 1 => stepL ties (lawW ties st i) i
/-- what holds while entry i is worked at, its slides pre being done -/
structure LInv (ties : List Sl) (st : Sd) (i : Nat) (one : Sd) (w : Wd) (pre : List Sl) (L : Fd) : Prop where
  nd : (L.map (·.1)).Nodup
  pw : L.Pairwise (fun a b => code a.2 < code b.2)
  rn : ∀ e ∈ L, Rn ties st e.2 e.1
  hd : (st, []) ∈ L
  dn : ∀ j e, j < i → L[j]? = some e → ∀ s ∈ slidesOf ties e.1, ∃ w', (slid e.1 s, w') ∈ L ∧ code w' ≤ code (e.2 ++ [s])
  dp : ∀ s ∈ pre, ∃ w', (slid one s, w') ∈ L ∧ code w' ≤ code (w ++ [s])
  fr : ∀ e ∈ L, e.2 = [] ∨ (∃ (j : Nat) (u : Sd × Wd) (s : Sl), j < i ∧ L[j]? = some u ∧ SlOk s ∧ e.2 = u.2 ++ [s]) ∨ ∃ s ∈ pre, e.2 = w ++ [s]
theorem get_app {α : Type} {L : List α} {x : α} {j : Nat} {e : α} (h : L[j]? = some e) : (L ++ [x])[j]? = some e := by
  rw [List.getElem?_append_left (List.getElem?_eq_some_iff.mp h).1]; exact h
theorem pw_get {L : Fd} (h : L.Pairwise (fun a b => code a.2 < code b.2)) {i j : Nat} {a b : Sd × Wd} (hi : L[i]? = some a) (hj : L[j]? = some b) (hij : i < j) : code a.2 < code b.2 := by
  obtain ⟨h1, e1⟩ := List.getElem?_eq_some_iff.mp hi
  obtain ⟨h2, e2⟩ := List.getElem?_eq_some_iff.mp hj
  have := List.pairwise_iff_getElem.mp h i j h1 h2 hij
  rw [e1, e2] at this
  exact this
theorem LInv.step {n : Nat} {ties : List Sl} {st one : Sd} {w : Wd} {i : Nat} {pre : List Sl} {s : Sl} {L : Fd} (Y : YOk n ties st) (I : LInv ties st i one w pre L)
    (hi : L[i]? = some (one, w)) (hs : s ∈ slidesOf ties one) (hp : ∀ s' ∈ pre, s' ∈ slidesOf ties one ∧ dig s' ≤ dig s) :
    LInv ties st i one w (pre ++ [s]) (addL one w L s) ∧ (addL one w L s)[i]? = some (one, w) := by
  have hrw : Rn ties st w one := I.rn (one, w) (List.mem_of_getElem? hi)
  have Y1 : YOk n ties one := Y.run hrw
  have hsok := slOk_of Y1 hs
  unfold addL
  by_cases hk : hasK L (slid one s) = true
  · rw [if_pos hk]
    refine ⟨⟨I.nd, I.pw, I.rn, I.hd, I.dn, fun s' hs' => ?_, fun e he => ?_⟩, hi⟩
    · rcases List.mem_append.mp hs' with q | q
      · exact I.dp s' q
      · rw [List.mem_singleton.mp q]
        obtain ⟨e, he, hek⟩ := List.mem_map.mp (hasK_iff.mp hk)
        refine ⟨e.2, by rw [← hek]; exact he, ?_⟩
        rcases I.fr e he with z | ⟨j, u, s2, hj, hu, hs2, z⟩ | ⟨s2, hs2, z⟩
        · rw [z, code_nil]; exact code_pos _
        · have h9 : code u.2 < code w := pw_get I.pw hu hi hj
          rw [z, code_snoc, code_snoc]
          have := dig_lt hs2
          omega
        · rw [z, code_snoc, code_snoc]
          have := (hp s2 hs2).2
          omega
    · rcases I.fr e he with z | z | ⟨s2, hs2, z⟩
      · exact .inl z
      · exact .inr (.inl z)
      · exact .inr (.inr ⟨s2, List.mem_append_left _ hs2, z⟩)
  · rw [if_neg hk]
    have hk' : slid one s ∉ L.map (·.1) := fun z => hk (hasK_iff.mpr z)
    have hlt : ∀ e ∈ L, code e.2 < code (w ++ [s]) := by
      intro e he
      rw [code_snoc]
      rcases I.fr e he with z | ⟨j, u, s2, hj, hu, hs2, z⟩ | ⟨s2, hs2, z⟩
      · rw [z, code_nil]; have := code_pos w; omega
      · have h9 : code u.2 < code w := pw_get I.pw hu hi hj
        rw [z, code_snoc]
        have := dig_lt hs2
        omega
      · rw [z, code_snoc]
        have h1 := (hp s2 hs2).2
        have h2 : dig s2 ≠ dig s := fun q => by
          have e1 := dig_inj (slOk_of Y1 (hp s2 hs2).1) hsok q
          obtain ⟨w', hm, _⟩ := I.dp s2 hs2
          rw [e1] at hm
          exact hk' (List.mem_map.mpr ⟨_, hm, rfl⟩)
        omega
    refine ⟨⟨?_, ?_, fun e he => ?_, List.mem_append_left _ I.hd, fun j e hj he s' hs' => ?_, fun s' hs' => ?_, fun e he => ?_⟩, get_app hi⟩
    · rw [List.map_append, List.map_cons, List.map_nil]
      refine List.nodup_append.mpr ⟨I.nd, List.nodup_cons.mpr ⟨by simp, List.nodup_nil⟩, fun a ha b hb => ?_⟩
      have hb' : b = slid one s := List.mem_singleton.mp hb
      intro q
      rw [q, hb'] at ha
      exact hk' ha
    · refine List.pairwise_append.mpr ⟨I.pw, List.pairwise_singleton _ _, fun a ha b hb => ?_⟩
      rw [List.mem_singleton.mp hb]
      exact hlt a ha
    · rcases List.mem_append.mp he with q | q
      · exact I.rn e q
      · rw [List.mem_singleton.mp q]
        exact .snoc hrw hs
    · have hjl : L[j]? = some e := by
        have : j < L.length := Nat.lt_trans hj (List.getElem?_eq_some_iff.mp hi).1
        rw [List.getElem?_append_left this] at he
        exact he
      obtain ⟨w', h1, h2⟩ := I.dn j e hj hjl s' hs'
      exact ⟨w', List.mem_append_left _ h1, h2⟩
    · rcases List.mem_append.mp hs' with q | q
      · obtain ⟨w', h1, h2⟩ := I.dp s' q
        exact ⟨w', List.mem_append_left _ h1, h2⟩
      · rw [List.mem_singleton.mp q]
        exact ⟨w ++ [s], List.mem_append_right _ (List.mem_singleton.mpr rfl), Nat.le_refl _⟩
    · rcases List.mem_append.mp he with q | q
      · rcases I.fr e q with z | ⟨j, u, s2, hj, hu, hs2, z⟩ | ⟨s2, hs2, z⟩
        · exact .inl z
        · exact .inr (.inl ⟨j, u, s2, hj, get_app hu, hs2, z⟩)
        · exact .inr (.inr ⟨s2, List.mem_append_left _ hs2, z⟩)
      · rw [List.mem_singleton.mp q]
        exact .inr (.inr ⟨s, List.mem_append_right _ (List.mem_singleton.mpr rfl), rfl⟩)
theorem LInv.fold {n : Nat} {ties : List Sl} {st one : Sd} {w : Wd} {i : Nat} (Y : YOk n ties st) : ∀ (post pre : List Sl) (L : Fd), LInv ties st i one w pre L → L[i]? = some (one, w) → (∀ s ∈ pre ++ post, s ∈ slidesOf ties one) → (pre ++ post).Pairwise (fun a b => dig a ≤ dig b) →
    LInv ties st i one w (pre ++ post) (post.foldl (addL one w) L) ∧ (post.foldl (addL one w) L)[i]? = some (one, w)
  | [], pre, L, I, hi, _, _ => by rw [List.append_nil]; exact ⟨I, hi⟩
  | s :: post, pre, L, I, hi, hm, hp => by
    have h1 := I.step Y (s := s) hi (hm s (List.mem_append_right _ (List.mem_cons_self ..))) fun s' hs' => ⟨hm s' (List.mem_append_left _ hs'), (List.pairwise_append.mp hp).2.2 s' hs' s (List.mem_cons_self ..)⟩
    have e : pre ++ s :: post = (pre ++ [s]) ++ post := by simp
    rw [e] at hm hp ⊢
    exact LInv.fold Y post (pre ++ [s]) _ h1.1 h1.2 hm hp
theorem pw_flat {f : Nat → List Sl} (h1 : ∀ p, (f p).Pairwise (fun a b => dig a ≤ dig b)) (h2 : ∀ p q a b, p < q → a ∈ f p → b ∈ f q → dig a ≤ dig b) : ∀ l : List Nat, l.Pairwise (· < ·) → (l.flatMap f).Pairwise (fun a b => dig a ≤ dig b)
  | [], _ => by simp
  | p :: l, h => by
    rw [List.pairwise_cons] at h
    rw [List.flatMap_cons]
    refine List.pairwise_append.mpr ⟨h1 p, pw_flat h1 h2 l h.2, fun a ha b hb => ?_⟩
    obtain ⟨q, hq, hb'⟩ := List.mem_flatMap.mp hb
    exact h2 p q a b (h.1 q hq) ha hb'
theorem slidesOf_pw {n : Nat} {ties : List Sl} {st : Sd} (Y : YOk n ties st) : (slidesOf ties st).Pairwise (fun a b => dig a ≤ dig b) := by
  unfold slidesOf
  refine pw_flat (fun p => ?_) (fun p q a b hpq ha hb => ?_) _ List.pairwise_lt_range
  · unfold slidesAt
    split
    · exact List.Pairwise.nil
    · rw [List.pairwise_map]
      refine List.Pairwise.imp ?_ (List.Pairwise.filter _ (sortN_pw _))
      intro a b h
      unfold dig
      simp only
      omega
  · unfold slidesAt at ha hb
    split at ha
    · cases ha
    · split at hb
      · cases hb
      · simp only [List.mem_map, List.mem_filter] at ha hb
        obtain ⟨x, ⟨hx, _⟩, rfl⟩ := ha
        obtain ⟨y, ⟨hy, _⟩, rfl⟩ := hb
        have := near_lt Y.ties hx
        have := Y.n8
        unfold dig
        simp only
        omega
/-- between two entries -/
structure LMid (ties : List Sl) (st : Sd) (i : Nat) (L : Fd) : Prop where
  nd : (L.map (·.1)).Nodup
  pw : L.Pairwise (fun a b => code a.2 < code b.2)
  rn : ∀ e ∈ L, Rn ties st e.2 e.1
  hd : (st, []) ∈ L
  dn : ∀ j e, j < i → L[j]? = some e → ∀ s ∈ slidesOf ties e.1, ∃ w', (slid e.1 s, w') ∈ L ∧ code w' ≤ code (e.2 ++ [s])
  fr : ∀ e ∈ L, e.2 = [] ∨ (∃ (j : Nat) (u : Sd × Wd) (s : Sl), j < i ∧ L[j]? = some u ∧ SlOk s ∧ e.2 = u.2 ++ [s])
theorem LMid.start {ties : List Sl} {st : Sd} : LMid ties st 0 [(st, [])] where
  nd := by simp
  pw := List.pairwise_singleton _ _
  rn := fun e he => by rw [List.mem_singleton.mp he]; exact .nil
  hd := List.mem_singleton.mpr rfl
  dn := fun j e hj => absurd hj (Nat.not_lt_zero _)
  fr := fun e he => by rw [List.mem_singleton.mp he]; exact .inl rfl
theorem LMid.next {n : Nat} {ties : List Sl} {st : Sd} {i : Nat} {L : Fd} (Y : YOk n ties st) (M : LMid ties st i L) : LMid ties st (i + 1) (stepL ties L i) := by
  unfold stepL
  cases hi : L[i]? with
  | none =>
    have hlen := List.getElem?_eq_none_iff.mp hi
    dsimp only
    refine ⟨M.nd, M.pw, M.rn, M.hd, fun j e hj he => M.dn j e ?_ he, fun e he => ?_⟩
    · have := (List.getElem?_eq_some_iff.mp he).1
      omega
    · rcases M.fr e he with z | ⟨j, u, s, hj, r⟩
      · exact .inl z
      · exact .inr ⟨j, u, s, by omega, r⟩
  | some x =>
    obtain ⟨one, w⟩ := x
    have Y1 : YOk n ties one := Y.run (M.rn (one, w) (List.mem_of_getElem? hi))
    have I0 : LInv ties st i one w [] L := ⟨M.nd, M.pw, M.rn, M.hd, M.dn, (fun _ h => nomatch h), fun e he => (M.fr e he).elim Or.inl fun z => Or.inr (Or.inl z)⟩
    obtain ⟨I, hi2⟩ := I0.fold Y (slidesOf ties one) [] L hi (fun s hs => by simpa using hs) (by simpa using slidesOf_pw Y1)
    rw [List.nil_append] at I
    refine ⟨I.nd, I.pw, I.rn, I.hd, fun j e hj he s hs => ?_, fun e he => ?_⟩
    · rcases Nat.lt_succ_iff_lt_or_eq.mp hj with q | q
      · exact I.dn j e q he s hs
      · subst q
        rw [hi2] at he
        cases he
        exact I.dp s hs
    · rcases I.fr e he with z | ⟨j, u, s, hj, r⟩ | ⟨s, hs, z⟩
      · exact .inl z
      · exact .inr ⟨j, u, s, by omega, r⟩
      · exact .inr ⟨i, (one, w), s, Nat.lt_succ_self _, hi2, slOk_of Y1 hs, z⟩
theorem lawW_mid {n : Nat} {ties : List Sl} {st : Sd} (Y : YOk n ties st) : ∀ i, LMid ties st i (lawW ties st i)
  | 0 => .start
  | i + 1 => (lawW_mid Y i).next Y

/-! ### how many standings there are -/
def Low (m : Nat) (t : Sd) : Prop := ∀ o ∈ t, ∀ b, o = some b → b < m
def enc1 (o : Option Nat) : Nat := match o with | none => 0 | some b => b + 1
def encS (t : Sd) : Nat := t.foldr (fun o c => enc1 o + 5 * c) 0
theorem encS_lt : ∀ {t : Sd}, Low 4 t → encS t < 5 ^ t.length
  | [], _ => by decide
  | o :: t, h => by
    have h1 := encS_lt (t := t) fun o' ho => h o' (List.mem_cons_of_mem _ ho)
    have h2 : enc1 o < 5 := by
      cases o with
      | none => decide
      | some b => have := h (some b) (List.mem_cons_self ..) b rfl; show b + 1 < 5; omega
    have h3 : encS (o :: t) = enc1 o + 5 * encS t := rfl
    rw [h3, List.length_cons, Nat.pow_succ]
    omega
theorem encS_inj : ∀ {t u : Sd}, t.length = u.length → Low 4 t → Low 4 u → encS t = encS u → t = u
  | [], [], _, _, _, _ => rfl
  | o :: t, q :: u, hl, h, h', e => by
    have h2 : ∀ {o : Option Nat} {t : Sd}, Low 4 (o :: t) → enc1 o < 5 := by
      intro o t h
      cases o with
      | none => decide
      | some b => have := h (some b) (List.mem_cons_self ..) b rfl; show b + 1 < 5; omega
    have a1 := h2 h
    have a2 := h2 h'
    have e' : enc1 o + 5 * encS t = enc1 q + 5 * encS u := e
    have e1 : enc1 o = enc1 q := by omega
    have e2 : encS t = encS u := by omega
    rw [encS_inj (Nat.succ.inj hl) (fun o' ho => h o' (List.mem_cons_of_mem _ ho)) (fun o' ho => h' o' (List.mem_cons_of_mem _ ho)) e2]
    congr 1
    cases o <;> cases q <;> simp [enc1] at e1 ⊢
    exact e1
theorem nodup_bound : ∀ (m : Nat) (l : List Nat), l.Nodup → (∀ x ∈ l, x < m) → l.length ≤ m
  | 0, [], _, _ => Nat.le_refl _
  | 0, x :: _, _, h => absurd (h x (List.mem_cons_self ..)) (Nat.not_lt_zero _)
  | m + 1, l, hn, hl => by
    have h1 := nodup_bound m (l.erase m) (hn.erase m) fun x hx => by
      obtain ⟨h2, h3⟩ := (hn.mem_erase_iff).mp hx
      have := hl x h3
      omega
    rw [List.length_erase] at h1
    split at h1 <;> omega
theorem Low.slid {m : Nat} {t : Sd} (h : Low m t) (s : Sl) : Low m (slid t s) := by
  intro o ho b e
  subst e
  unfold K15.slid at ho
  rcases List.mem_or_eq_of_mem_set ho with q | q
  · rcases List.mem_or_eq_of_mem_set q with z | z
    · exact h _ z b rfl
    · cases z
  · rw [List.getD_eq_getElem?_getD] at q
    cases g : t[s.1]? with
    | none => rw [g] at q; cases q
    | some o' =>
      rw [g] at q
      exact h o' (List.mem_of_getElem? g) b q.symm
theorem Low.run {m : Nat} {ties : List Sl} {st t : Sd} {w : Wd} (h : Low m st) (r : Rn ties st w t) : Low m t := by
  induction r with
  | nil => exact h
  | snoc _ _ ih => exact ih.slid _
theorem found_bound {ties : List Sl} {st : Sd} (h5 : st.length ≤ 5) (hl : Low 4 st) {L : Fd} (hn : (L.map (·.1)).Nodup) (hr : ∀ e ∈ L, Rn ties st e.2 e.1) : L.length ≤ 3125 := by
  have h1 : ((L.map (·.1)).map encS).Nodup := by
    refine (List.pairwise_map).mpr (List.Pairwise.imp_of_mem ?_ hn)
    intro a b ha hb hab e
    obtain ⟨x, hx, rfl⟩ := List.mem_map.mp ha
    obtain ⟨y, hy, rfl⟩ := List.mem_map.mp hb
    exact hab (encS_inj ((hr x hx).len.trans (hr y hy).len.symm) (hl.run (hr x hx)) (hl.run (hr y hy)) e)
  have h2 := nodup_bound 3125 _ h1 fun c hc => by
    obtain ⟨t, ht, rfl⟩ := List.mem_map.mp hc
    obtain ⟨x, hx, rfl⟩ := List.mem_map.mp ht
    have e1 := encS_lt (hl.run (hr x hx))
    have e2 : 5 ^ x.1.length ≤ 5 ^ 5 := Nat.pow_le_pow_right (by decide) (by rw [(hr x hx).len]; exact h5)
    have e3 : (5 : Nat) ^ 5 = 3125 := by decide
    omega
  rw [List.length_map, List.length_map] at h2
  exact h2
/-- the law's words: every standing that comes, with its best word -/
theorem LMid.all {n : Nat} {ties : List Sl} {st : Sd} {i : Nat} {L : Fd} (Y : YOk n ties st) (M : LMid ties st i L) (hi : L.length ≤ i) : ∀ {w t}, Rn ties st w t → ∃ w', (t, w') ∈ L ∧ code w' ≤ code w := by
  intro w t r
  induction r with
  | nil => exact ⟨[], M.hd, Nat.le_refl _⟩
  | @snoc w t s r1 hs ih =>
    obtain ⟨w0, hm, hc⟩ := ih
    obtain ⟨j, hj⟩ := List.mem_iff_getElem?.mp hm
    obtain ⟨w1, h1, h2⟩ := M.dn j _ (Nat.lt_of_lt_of_le (List.getElem?_eq_some_iff.mp hj).1 hi) hj s hs
    refine ⟨w1, h1, Nat.le_trans h2 ?_⟩
    rw [code_snoc, code_snoc]
    dsimp only
    omega
theorem LMid.best {n : Nat} {ties : List Sl} {st : Sd} {i : Nat} {L : Fd} (Y : YOk n ties st) (M : LMid ties st i L) (hi : L.length ≤ i) {t : Sd} {w : Wd} : (t, w) ∈ L ↔ Best ties st t w := by
  constructor
  · intro h
    refine ⟨M.rn _ h, fun w' r => ?_⟩
    obtain ⟨w0, h0, hc⟩ := M.all Y hi r
    rw [key_uniq M.nd h h0]
    exact hc
  · intro b
    obtain ⟨w0, h0, hc⟩ := M.all Y hi b.1
    have b0 : Best ties st t w0 := ⟨M.rn _ h0, fun w' r => Nat.le_trans hc (b.2 w' r)⟩
    rw [b.uniq Y b0]
    exact h0
theorem lawW_bound {n : Nat} {ties : List Sl} {st : Sd} (Y : YOk n ties st) (h5 : n ≤ 5) (hl : Low 4 st) (i : Nat) : (lawW ties st i).length ≤ 3125 :=
  found_bound (by rw [Y.len]; exact h5) hl (lawW_mid Y i).nd (lawW_mid Y i).rn
theorem lawW_best {n : Nat} {ties : List Sl} {st : Sd} (Y : YOk n ties st) (h5 : n ≤ 5) (hl : Low 4 st) {t : Sd} {w : Wd} : (t, w) ∈ lawW ties st 6000 ↔ Best ties st t w :=
  (lawW_mid Y 6000).best Y (Nat.le_trans (lawW_bound Y h5 hl 6000) (by decide))
end K15
set_option autoImplicit false
set_option linter.unusedVariables false
/-! The plain law, continued: the program's search by layers; the least way; hanging; drawn yards and standings. -/
namespace K15
/-! ### the program's search: layers -/
def getW (L : Fd) (t : Sd) : Option Wd := (L.find? (fun e => e.1 == t)).map (·.2)
def putW (L : Fd) (t : Sd) (w : Wd) : Fd := if hasK L t then L.map (fun e => if e.1 = t then (e.1, w) else e) else L ++ [(t, w)]
def lesser (way old : Wd) : Wd := if code old < code way then old else way
def addP (found : Fd) (one : Sd) (w : Wd) (later : Fd) (s : Sl) : Fd :=
  if hasK found (slid one s) then later else putW later (slid one s) (lesser (w ++ [s]) ((getW later (slid one s)).getD (w ++ [s])))
def layerP (ties : List Sl) (found later : Fd) (one : Sd) : Fd := (slidesOf ties one).foldl (addP found one ((getW found one).getD [])) later

theorem getW_some {L : Fd} {t : Sd} {w : Wd} (hn : (L.map (·.1)).Nodup) : getW L t = some w ↔ (t, w) ∈ L := by
  unfold getW
  constructor
  · intro h
    cases e : L.find? (fun e => e.1 == t) with
    | none => rw [e] at h; cases h
    | some x =>
      rw [e] at h
      have h1 := List.mem_of_find?_eq_some e
      have h2 : x.1 = t := by simpa using List.find?_some e
      have h3 : x.2 = w := Option.some.inj h
      rw [← h2, ← h3]
      exact h1
  · intro h
    cases e : L.find? (fun e => e.1 == t) with
    | none =>
      have := List.find?_eq_none.mp e (t, w) h
      simp at this
    | some x =>
      have h1 := List.mem_of_find?_eq_some e
      have h2 : x.1 = t := by simpa using List.find?_some e
      have h3 : (t, x.2) ∈ L := by rw [← h2]; exact h1
      rw [Option.map_some, key_uniq hn h3 h]
theorem getW_none {L : Fd} {t : Sd} (h : hasK L t = false) : getW L t = none := by
  unfold getW
  cases e : L.find? (fun e => e.1 == t) with
  | none => rfl
  | some x =>
    have h1 := List.mem_of_find?_eq_some e
    have h2 : x.1 = t := by simpa using List.find?_some e
    have : hasK L t = true := hasK_iff.mpr (List.mem_map.mpr ⟨x, h1, h2⟩)
    rw [h] at this
    cases this
theorem getW_has {L : Fd} {t : Sd} (h : hasK L t = true) : ∃ w, getW L t = some w := by
  cases e : getW L t with
  | some w => exact ⟨w, rfl⟩
  | none =>
    obtain ⟨x, h1, h2⟩ := List.mem_map.mp (hasK_iff.mp h)
    unfold getW at e
    have := List.find?_eq_none.mp (Option.map_eq_none_iff.mp e) x h1
    simp [h2] at this
theorem putW_keys {L : Fd} {t : Sd} {w : Wd} : (putW L t w).map (·.1) = if hasK L t then L.map (·.1) else L.map (·.1) ++ [t] := by
  unfold putW
  split
  · rw [List.map_map]
    refine List.map_congr_left fun e _ => ?_
    show (if e.1 = t then (e.1, w) else e).1 = e.1
    split <;> rfl
  · rw [List.map_append]; rfl
theorem putW_nodup {L : Fd} {t : Sd} {w : Wd} (hn : (L.map (·.1)).Nodup) : ((putW L t w).map (·.1)).Nodup := by
  rw [putW_keys]
  split
  · exact hn
  · rename_i h
    refine List.nodup_append.mpr ⟨hn, by simp, fun a ha b hb => ?_⟩
    rw [List.mem_singleton] at hb
    intro q
    rw [q, hb] at ha
    exact h (hasK_iff.mpr ha)
theorem mem_putW {L : Fd} {t : Sd} {w : Wd} {x : Sd × Wd} (h : x ∈ putW L t w) : x = (t, w) ∨ (x ∈ L ∧ x.1 ≠ t) := by
  unfold putW at h
  split at h
  · obtain ⟨e, he, q⟩ := List.mem_map.mp h
    by_cases z : e.1 = t
    · rw [if_pos z] at q
      exact .inl (by rw [← q, z])
    · rw [if_neg z] at q
      rw [← q]
      exact .inr ⟨he, z⟩
  · rename_i hk
    rcases List.mem_append.mp h with q | q
    · exact .inr ⟨q, fun z => hk (hasK_iff.mpr (List.mem_map.mpr ⟨x, q, z⟩))⟩
    · exact .inl (List.mem_singleton.mp q)
theorem putW_self {L : Fd} {t : Sd} {w : Wd} : (t, w) ∈ putW L t w := by
  unfold putW
  split
  · rename_i h
    obtain ⟨e, he, q⟩ := List.mem_map.mp (hasK_iff.mp h)
    exact List.mem_map.mpr ⟨e, he, by rw [if_pos q, q]⟩
  · exact List.mem_append_right _ (List.mem_singleton.mpr rfl)
theorem putW_other {L : Fd} {t : Sd} {w : Wd} {x : Sd × Wd} (h : x ∈ L) (hx : x.1 ≠ t) : x ∈ putW L t w := by
  unfold putW
  split
  · exact List.mem_map.mpr ⟨x, h, if_neg hx⟩
  · exact List.mem_append_left _ h

/-- what holds of later when the pairs of C (of a standing and a slide) are done -/
structure TInv (found : Fd) (C : Sd → Sl → Prop) (later : Fd) : Prop where
  nd : (later.map (·.1)).Nodup
  fr : ∀ t w, (t, w) ∈ later → hasK found t = false ∧ ∃ one u s, C one s ∧ (one, u) ∈ found ∧ w = u ++ [s] ∧ slid one s = t
  dn : ∀ one s u, C one s → (one, u) ∈ found → hasK found (slid one s) = true ∨ ∃ w, (slid one s, w) ∈ later ∧ code w ≤ code (u ++ [s])
theorem TInv.step {found : Fd} {C : Sd → Sl → Prop} {later : Fd} {one : Sd} {u : Wd} {s : Sl} (I : TInv found C later) (hf : (found.map (·.1)).Nodup) (hu : (one, u) ∈ found) :
    TInv found (fun a b => C a b ∨ (a = one ∧ b = s)) (addP found one u later s) := by
  unfold addP
  by_cases hk : hasK found (slid one s) = true
  · rw [if_pos hk]
    refine ⟨I.nd, fun t w h => ?_, fun a b v hc hv => ?_⟩
    · obtain ⟨h1, a, v, b, h2, h3⟩ := I.fr t w h
      exact ⟨h1, a, v, b, .inl h2, h3⟩
    · rcases hc with hc | ⟨e1, e2⟩
      · exact I.dn a b v hc hv
      · rw [e1, e2]; exact .inl hk
  · rw [if_neg hk]
    have hk' : hasK found (slid one s) = false := by simpa using hk
    have hle : code (lesser (u ++ [s]) ((getW later (slid one s)).getD (u ++ [s]))) ≤ code (u ++ [s]) := by
      unfold lesser
      split <;> omega
    refine ⟨putW_nodup I.nd, fun t w h => ?_, fun a b v hc hv => ?_⟩
    · rcases mem_putW h with q | ⟨q, _⟩
      · obtain ⟨q1, q2⟩ := Prod.mk.inj q
        rw [q1]
        refine ⟨hk', ?_⟩
        unfold lesser at q2
        split at q2
        · cases e : getW later (slid one s) with
          | none => rw [e] at q2; exact ⟨one, u, s, .inr ⟨rfl, rfl⟩, hu, q2, rfl⟩
          | some w' =>
            rw [e] at q2
            obtain ⟨_, a, v, b, h2, h3, h4, h5⟩ := I.fr _ _ ((getW_some I.nd).mp e)
            exact ⟨a, v, b, .inl h2, h3, q2.trans h4, h5⟩
        · exact ⟨one, u, s, .inr ⟨rfl, rfl⟩, hu, q2, rfl⟩
      · obtain ⟨h1, a, v, b, h2, h3⟩ := I.fr t w q
        exact ⟨h1, a, v, b, .inl h2, h3⟩
    · rcases hc with hc | ⟨e1, e2⟩
      · rcases I.dn a b v hc hv with z | ⟨w, z, hz⟩
        · exact .inl z
        · by_cases e : slid a b = slid one s
          · refine .inr ⟨_, by rw [e]; exact putW_self, Nat.le_trans ?_ hz⟩
            rw [e] at z
            rw [(getW_some I.nd).mpr z]
            unfold lesser
            show code (if code w < code (u ++ [s]) then w else u ++ [s]) ≤ code w
            split <;> omega
          · exact .inr ⟨w, putW_other z e, hz⟩
      · rw [e1, e2]
        rw [e1] at hv
        have ev := key_uniq hf hv hu
        rw [ev]
        exact .inr ⟨_, putW_self, hle⟩
theorem TInv.imp {found : Fd} {C D : Sd → Sl → Prop} {later : Fd} (I : TInv found C later) (h : ∀ a b, C a b ↔ D a b) : TInv found D later :=
  ⟨I.nd, fun t w q => let ⟨h1, a, v, b, h2, h3⟩ := I.fr t w q; ⟨h1, a, v, b, (h a b).mp h2, h3⟩, fun a b v hc hv => I.dn a b v ((h a b).mpr hc) hv⟩
theorem TInv.fold {found : Fd} {one : Sd} {u : Wd} (hf : (found.map (·.1)).Nodup) (hu : (one, u) ∈ found) : ∀ (l : List Sl) (C : Sd → Sl → Prop) (later : Fd), TInv found C later →
    TInv found (fun a b => C a b ∨ (a = one ∧ b ∈ l)) (l.foldl (addP found one u) later)
  | [], C, later, I => I.imp fun a b => ⟨.inl, fun h => h.elim id fun z => nomatch z.2⟩
  | s :: l, C, later, I => (TInv.fold hf hu l _ _ (I.step (s := s) hf hu)).imp fun a b => by
    constructor
    · rintro ((h | ⟨e1, e2⟩) | ⟨e1, e2⟩)
      · exact .inl h
      · exact .inr ⟨e1, by rw [e2]; exact List.mem_cons_self ..⟩
      · exact .inr ⟨e1, List.mem_cons_of_mem _ e2⟩
    · rintro (h | ⟨e1, e2⟩)
      · exact .inl (.inl h)
      · rcases List.mem_cons.mp e2 with q | q
        · exact .inl (.inr ⟨e1, q⟩)
        · exact .inr ⟨e1, q⟩
theorem TInv.layers {ties : List Sl} {found : Fd} (hf : (found.map (·.1)).Nodup) : ∀ (layer : List Sd) (C : Sd → Sl → Prop) (later : Fd), TInv found C later → (∀ t ∈ layer, hasK found t = true) →
    TInv found (fun a b => C a b ∨ (a ∈ layer ∧ b ∈ slidesOf ties a)) (layer.foldl (layerP ties found) later)
  | [], C, later, I, _ => I.imp fun a b => ⟨.inl, fun h => h.elim id fun z => nomatch z.1⟩
  | one :: layer, C, later, I, hl => by
    obtain ⟨u, e⟩ := getW_has (hl one (List.mem_cons_self ..))
    have hu : (one, u) ∈ found := (getW_some hf).mp e
    have I1 : TInv found (fun a b => C a b ∨ (a = one ∧ b ∈ slidesOf ties one)) (layerP ties found later one) := by
      unfold layerP
      rw [e]
      exact I.fold hf hu (slidesOf ties one) C later
    refine (TInv.layers hf layer _ _ I1 fun t ht => hl t (List.mem_cons_of_mem _ ht)).imp fun a b => ?_
    constructor
    · rintro ((h | ⟨e1, e2⟩) | ⟨e1, e2⟩)
      · exact .inl h
      · exact .inr ⟨by rw [e1]; exact List.mem_cons_self .., by rw [e1]; exact e2⟩
      · exact .inr ⟨List.mem_cons_of_mem _ e1, e2⟩
    · rintro (h | ⟨e1, e2⟩)
      · exact .inl (.inl h)
      · rcases List.mem_cons.mp e1 with q | q
        · exact .inl (.inr ⟨q, by rw [← q]; exact e2⟩)
        · exact .inr ⟨q, e2⟩
/-- at level d -/
structure PInv (ties : List Sl) (st : Sd) (d : Nat) (found : Fd) (layer : List Sd) : Prop where
  nd : (found.map (·.1)).Nodup
  fd : ∀ t w, (t, w) ∈ found ↔ Best ties st t w ∧ w.length ≤ d
  ly : ∀ t, t ∈ layer ↔ ∃ w, Best ties st t w ∧ w.length = d
theorem PInv.start {ties : List Sl} {st : Sd} : PInv ties st 0 [(st, [])] [st] where
  nd := by simp
  fd := fun t w => by
    constructor
    · intro h
      obtain ⟨e1, e2⟩ := Prod.mk.inj (List.mem_singleton.mp h)
      rw [e1, e2]
      exact ⟨⟨.nil, fun w' _ => by rw [code_nil]; exact code_pos _⟩, Nat.le_refl _⟩
    · rintro ⟨b, hl⟩
      have hw : w = [] := List.length_eq_zero_iff.mp (Nat.le_zero.mp hl)
      subst hw
      rw [b.1.det .nil]
      exact List.mem_singleton.mpr rfl
  ly := fun t => by
    constructor
    · intro h
      rw [List.mem_singleton.mp h]
      exact ⟨[], ⟨.nil, fun w' _ => by rw [code_nil]; exact code_pos _⟩, rfl⟩
    · rintro ⟨w, b, hl⟩
      have hw : w = [] := List.length_eq_zero_iff.mp hl
      subst hw
      rw [b.1.det .nil]
      exact List.mem_singleton.mpr rfl
theorem code_le_len {u v : Wd} (hu : WdOk u) (hv : WdOk v) (h : code u ≤ code v) : u.length ≤ v.length := by
  rcases Nat.lt_or_ge v.length u.length with q | q
  · have := code_len hv hu q; omega
  · exact q
/-- the way ahead of a best word's last slide is as short as can be -/
theorem Best.parent {n : Nat} {ties : List Sl} {st t : Sd} {b : Wd} {d : Nat} (Y : YOk n ties st) (h : Best ties st t b) (hl : b.length = d + 1) :
    ∃ one u0 u s, Best ties st one u0 ∧ u0.length = d ∧ s ∈ slidesOf ties one ∧ slid one s = t ∧ b = u ++ [s] ∧ code u0 ≤ code u := by
  rcases h.1.inv with ⟨e, _⟩ | ⟨u, one, s, e, r, hs, et⟩
  · rw [e] at hl; cases hl
  · obtain ⟨u0, hb, hc⟩ := Best.exists _ u (Nat.le_refl _) r
    have l1 : u.length = d := by rw [e, List.length_append, List.length_singleton] at hl; omega
    have l2 := code_le_len (hb.1.ok Y) (r.ok Y) hc
    have r2 : Rn ties st (u0 ++ [s]) t := by rw [et]; exact .snoc hb.1 hs
    have l3 := code_le_len (h.1.ok Y) (r2.ok Y) (h.2 _ r2)
    rw [List.length_append, List.length_singleton, hl] at l3
    exact ⟨one, u0, u, s, hb, by omega, hs, et.symm, e, hc⟩
theorem PInv.later {n : Nat} {ties : List Sl} {st : Sd} {d : Nat} {found : Fd} {layer : List Sd} (Y : YOk n ties st) (I : PInv ties st d found layer) :
    ((layer.foldl (layerP ties found) []).map (·.1)).Nodup ∧ ∀ t w, (t, w) ∈ layer.foldl (layerP ties found) [] ↔ Best ties st t w ∧ w.length = d + 1 := by
  have hl : ∀ t ∈ layer, hasK found t = true := fun t ht => by
    obtain ⟨w, b, e⟩ := (I.ly t).mp ht
    exact hasK_iff.mpr (List.mem_map.mpr ⟨(t, w), (I.fd t w).mpr ⟨b, Nat.le_of_eq e⟩, rfl⟩)
  have T := TInv.layers (ties := ties) I.nd layer (fun _ _ => False) [] ⟨by simp, (fun _ _ h => nomatch h), (fun _ _ _ h => h.elim)⟩ hl
  generalize layer.foldl (layerP ties found) [] = later at T
  have wl : ∀ one u, one ∈ layer → (one, u) ∈ found → Best ties st one u ∧ u.length = d := fun one u h1 h2 => by
    obtain ⟨w, b, e⟩ := (I.ly one).mp h1
    obtain ⟨b2, _⟩ := (I.fd one u).mp h2
    rw [b2.uniq Y b]
    exact ⟨b, e⟩
  -- for every best word of length d + 1 there is an entry, no greater
  have ex : ∀ t b, Best ties st t b → b.length = d + 1 → hasK found t = false → ∃ w, (t, w) ∈ later ∧ code w ≤ code b := fun t b hb hlb hk => by
    obtain ⟨one, u0, u, s, h1, h2, h3, h4, h5, h6⟩ := hb.parent Y hlb
    have h7 : (one, u0) ∈ found := (I.fd one u0).mpr ⟨h1, Nat.le_of_eq h2⟩
    have h8 : one ∈ layer := (I.ly one).mpr ⟨u0, h1, h2⟩
    rcases T.dn one s u0 (.inr ⟨h8, h3⟩) h7 with z | ⟨w, z, hz⟩
    · rw [h4, hk] at z; cases z
    · rw [h4] at z
      refine ⟨w, z, Nat.le_trans hz ?_⟩
      rw [h5, code_snoc, code_snoc]
      omega
  refine ⟨T.nd, fun t w => ⟨fun h => ?_, fun ⟨b, hlb⟩ => ?_⟩⟩
  · obtain ⟨hk, one, u, s, hc, hu, e, et⟩ := T.fr t w h
    obtain ⟨h8, hs⟩ := hc.resolve_left id
    obtain ⟨bo, lo⟩ := wl one u h8 hu
    have rw_ : Rn ties st w t := by rw [e, ← et]; exact .snoc bo.1 hs
    have lw : w.length = d + 1 := by rw [e, List.length_append, List.length_singleton, lo]
    obtain ⟨b, hb, hcb⟩ := Best.exists _ w (Nat.le_refl _) rw_
    have lb1 := code_le_len (hb.1.ok Y) (rw_.ok Y) hcb
    have lb : b.length = d + 1 := by
      by_cases q : b.length ≤ d
      · have := hasK_iff.mpr (List.mem_map.mpr ⟨(t, b), (I.fd t b).mpr ⟨hb, q⟩, rfl⟩)
        rw [hk] at this
        cases this
      · omega
    obtain ⟨w', hw', hc'⟩ := ex t b hb lb hk
    have e1 := key_uniq T.nd h hw'
    subst e1
    exact ⟨⟨rw_, fun v rv => Nat.le_trans hc' (hb.2 v rv)⟩, lw⟩
  · have hk : hasK found t = false := by
      cases q : hasK found t with
      | false => rfl
      | true =>
        obtain ⟨x, hx, ex'⟩ := List.mem_map.mp (hasK_iff.mp q)
        have hx' : (t, x.2) ∈ found := by rw [← ex']; exact hx
        obtain ⟨b2, l2⟩ := (I.fd t x.2).mp hx'
        rw [b.uniq Y b2] at hlb
        omega
    obtain ⟨w', hw', hc'⟩ := ex t w b hlb hk
    obtain ⟨_, one, u, s, hc, hu, e, et⟩ := T.fr t w' hw'
    obtain ⟨h8, hs⟩ := hc.resolve_left id
    obtain ⟨bo, lo⟩ := wl one u h8 hu
    have r' : Rn ties st w' t := by rw [e, ← et]; exact .snoc bo.1 hs
    have : w' = w := code_inj' (r'.ok Y) (b.1.ok Y) (Nat.le_antisymm hc' (b.2 _ r'))
    rw [← this]
    exact hw'
theorem PInv.next {n : Nat} {ties : List Sl} {st : Sd} {d : Nat} {found : Fd} {layer layer' : List Sd} (Y : YOk n ties st) (I : PInv ties st d found layer)
    (hp : layer'.Perm ((layer.foldl (layerP ties found) []).map (·.1))) : PInv ties st (d + 1) (found ++ layer.foldl (layerP ties found) []) layer' := by
  obtain ⟨h1, h2⟩ := I.later Y
  refine ⟨?_, fun t w => ?_, fun t => ?_⟩
  · rw [List.map_append]
    refine List.nodup_append.mpr ⟨I.nd, h1, fun a ha b hb e => ?_⟩
    obtain ⟨x, hx, ex⟩ := List.mem_map.mp ha
    obtain ⟨y, hy, ey⟩ := List.mem_map.mp hb
    obtain ⟨bx, lx⟩ := (I.fd x.1 x.2).mp hx
    obtain ⟨by_, ly⟩ := (h2 y.1 y.2).mp hy
    have e' : x.1 = y.1 := ex.trans (e.trans ey.symm)
    rw [e'] at bx
    rw [bx.uniq Y by_] at lx
    omega
  · rw [List.mem_append, I.fd, h2]
    constructor
    · rintro (⟨b, l⟩ | ⟨b, l⟩)
      · exact ⟨b, by omega⟩
      · exact ⟨b, by omega⟩
    · rintro ⟨b, l⟩
      by_cases q : w.length ≤ d
      · exact .inl ⟨b, q⟩
      · exact .inr ⟨b, by omega⟩
  · rw [hp.mem_iff, List.mem_map]
    constructor
    · rintro ⟨x, hx, e⟩
      rw [← e]
      exact ⟨x.2, (h2 x.1 x.2).mp hx⟩
    · rintro ⟨w, b⟩
      exact ⟨(t, w), (h2 t w).mpr b, rfl⟩
theorem PInv.done {n : Nat} {ties : List Sl} {st : Sd} {d : Nat} {found : Fd} (Y : YOk n ties st) (I : PInv ties st d found []) {t : Sd} {w : Wd} : (t, w) ∈ found ↔ Best ties st t w := by
  rw [I.fd]
  refine ⟨fun h => h.1, fun b => ⟨b, ?_⟩⟩
  rcases Nat.lt_or_ge d w.length with q | q
  · exfalso
    have key : ∀ k t w, Best ties st t w → w.length = d + k → False := by
      intro k
      induction k with
      | zero =>
        intro t w b e
        exact absurd ((I.ly t).mpr ⟨w, b, e⟩) (by simp)
      | succ k ih =>
        intro t w b e
        obtain ⟨one, u0, _, _, h1, h2, _⟩ := b.parent (d := d + k) Y (by omega)
        exact ih one u0 h1 h2
    exact key (w.length - d) t w b (by omega)
  · exact q
theorem PInv.bound {n : Nat} {ties : List Sl} {st : Sd} {d : Nat} {found : Fd} {layer : List Sd} (Y : YOk n ties st) (h5 : n ≤ 5) (hl : Low 4 st) (I : PInv ties st d found layer) : found.length ≤ 3125 :=
  found_bound (by rw [Y.len]; exact h5) hl I.nd fun e he => ((I.fd e.1 e.2).mp he).1.1
theorem PInv.wordOk {n : Nat} {ties : List Sl} {st : Sd} {d : Nat} {found : Fd} {layer : List Sd} (Y : YOk n ties st) (I : PInv ties st d found layer) {t : Sd} {w : Wd} (h : (t, w) ∈ found) : WdOk w ∧ Rn ties st w t :=
  ⟨((I.fd t w).mp h).1.1.ok Y, ((I.fd t w).mp h).1.1⟩

/-! ### a run, slide by slide -/
theorem Rn.fold {ties : List Sl} {st t : Sd} {w : Wd} (r : Rn ties st w t) : t = w.foldl slid st := by
  induction r with
  | nil => rfl
  | snoc _ _ ih => rw [List.foldl_append, ← ih]; rfl
theorem Rn.prefix {ties : List Sl} {st : Sd} {u : Wd} : ∀ {v : Wd} {t : Sd}, Rn ties st (u ++ v) t → ∃ t', Rn ties st u t' := by
  intro v
  induction v using snoc_induction with
  | h0 => intro t r; exact ⟨t, by rw [List.append_nil] at r; exact r⟩
  | h1 l a ih =>
    intro t r
    rw [← List.append_assoc] at r
    obtain ⟨t', r', _⟩ := r.inv_snoc
    exact ih r'
theorem Rn.at {ties : List Sl} {st t : Sd} {w : Wd} (r : Rn ties st w t) {i : Nat} {s : Sl} (h : w[i]? = some s) : s ∈ slidesOf ties ((w.take i).foldl slid st) ∧ Rn ties st (w.take i) ((w.take i).foldl slid st) := by
  have e : w = (w.take i ++ [s]) ++ w.drop (i + 1) := by
    have h1 := (List.getElem?_eq_some_iff.mp h)
    obtain ⟨hi, e1⟩ := h1
    rw [List.append_assoc, List.singleton_append, ← e1, List.getElem_cons_drop, List.take_append_drop]
  rw [e] at r
  obtain ⟨t', r'⟩ := r.prefix
  obtain ⟨t0, r0, hs, _⟩ := r'.inv_snoc
  have e0 := r0.fold
  rw [← e0]
  exact ⟨hs, r0⟩
theorem slide_tie {n : Nat} {ties : List Sl} {st : Sd} (Y : YOk n ties st) {s : Sl} (h : s ∈ slidesOf ties st) : (if s.1 ≤ s.2 then (s.1, s.2) else (s.2, s.1)) ∈ ties := by
  obtain ⟨_, _, h3, _⟩ := mem_slidesOf.mp h
  rcases mem_near.mp h3 with q | q
  · have := Y.ties _ q
    dsimp only at this
    rw [if_neg (by omega)]
    exact q
  · have := Y.ties _ q
    dsimp only at this
    rw [if_pos (by omega)]
    exact q
end K15
set_option autoImplicit false
set_option linter.all false
set_option Elab.async false
set_option maxRecDepth 100000
set_option maxHeartbeats 2000000
/-! Rules of our own, first part: dicts whose keys are standings (tuples of whole numbers and None) and whose values are objects. -/
namespace K15
open PySem PySem.Spec PyProof.Rows L2
/-! ### the kind of the keys -/
def ov : Option Nat → V
  | none => .non
  | some b => .int (b : Int)
def okLeaf : Option Nat → Leaf
  | none => .none
  | some b => .num (b : Int)
theorem okLeaf_inj {a b : Option Nat} (h : okLeaf a = okLeaf b) : a = b := by
  cases a <;> cases b
  · rfl
  · exact nomatch h
  · exact nomatch h
  · injection h with h
    rw [Int.ofNat.inj h]
def okKind (P : Program) (w : World) : KeyKind P w (Option Nat) where
  is := fun k v => (leafKind P w).is (okLeaf k) v
  hash := fun k => (leafKind P w).hash (okLeaf k)
  inj := fun v a b ha hb => okLeaf_inj ((leafKind P w).inj v _ _ ha hb)
  byValue := fun k v h => (leafKind P w).byValue _ _ h
  pyHash := fun hv h => (leafKind P w).pyHash hv h
  eqBool := fun {A E s a b u v Q} hu hv h => (leafKind P w).eqBool hu hv (by
    have e : decide (okLeaf a = okLeaf b) = decide (a = b) := by
      by_cases q : a = b
      · rw [decide_eq_true q, decide_eq_true (congrArg okLeaf q)]
      · rw [decide_eq_false q, decide_eq_false fun z => q (okLeaf_inj z)]
    rw [e]
    exact h)
  «strs» := fun k x t v h => by
    cases k with
    | none => exact absurd h Bool.false_ne_true
    | some b => exact absurd h Bool.false_ne_true
theorem okKind_of {P : Program} {w : World} {o : Option Nat} {u : Value} (r : RelV (ov o) u) : (okKind P w).is o u = true := by
  cases o with
  | none =>
    obtain rfl : u = Value.none := r
    rfl
  | some b =>
    obtain ⟨t, rfl⟩ := r
    exact decide_eq_true rfl
theorem items_ok {P : Program} {w : World} : ∀ {t : Sd} {us : List Value}, Vals (t.map ov) us → ItemsAre (okKind P w) t us
  | [], _, .nil => .nil
  | _ :: _, _, .cons r q => .cons (okKind_of r) (items_ok q)
abbrev stKind (P : Program) (w : World) : HeapKind P w Sd := tupleKind (okKind P w)
/-- a tuple, locked or not -/
def TupH (H : Hp) (a : Addr) (xs : List V) : Prop := H a = some (.tup xs) ∨ ∃ o, H a = some (.frz o (.tup xs))
theorem TupH.sq {K : PySem.W.Frag} {H : Hp} {a : Addr} {xs : List V} (h : TupH H a xs) : SqT K H a xs := .inl h
theorem TupH.ok {P : Program} {w : World} {H : Hp} {h : Heap} {a : Addr} {xs : List V} (e : TupH H a xs) (ok : HOk P w H h) : ∃ its : List Value, Vals xs its ∧ h.IsTuple a its.toArray := by
  rcases e with e | ⟨o, e⟩
  · obtain ⟨_, its, r, o, ho, hc, n, hd⟩ := ok a _ e
    exact ⟨its, r, o, ho, hc, n, hd⟩
  · obtain ⟨_, _, its, r, o, ho, hc, n, hd⟩ := ok a _ e
    exact ⟨its, r, o, ho, hc, n, hd⟩
theorem TupH.ne {H : Hp} {a d : Addr} {xs : List V} {φ : Heap → Prop} (h : TupH H a xs) (e : H d = some (.ext φ)) : a ≠ d := fun z => by
  rw [z] at h
  rcases h with h | ⟨o, h⟩ <;> rw [e] at h <;> cases h
theorem TupH.to {H H' : Hp} {a : Addr} {xs : List V} (h : TupH H a xs) (e : H' a = H a) : TupH H' a xs := by
  unfold TupH at *
  rw [e]; exact h
theorem TupH.ext {H H' : Hp} {a : Addr} {xs : List V} (h : TupH H a xs) (e : ∀ o, H a = some o → H' a = some o) : TupH H' a xs := by
  rcases h with h | ⟨o, h⟩
  · exact .inl (e _ h)
  · exact .inr ⟨o, e _ h⟩
theorem TupH.some {H : Hp} {a : Addr} {xs : List V} (h : TupH H a xs) : ∃ o, H a = some o ∧ ∀ ps, o ≠ .tbl ps := by
  rcases h with h | ⟨o, h⟩
  · exact ⟨_, h, fun ps z => by cases z⟩
  · exact ⟨_, h, fun ps z => by cases z⟩
theorem key_is {P : Program} {w : World} {H : Hp} {h : Heap} {a : Addr} {t : Sd} (ok : HOk P w H h) (e : TupH H a (t.map ov)) : (stKind P w).is h t a := by
  obtain ⟨its, r, o, ho, hc, n, hd⟩ := e.ok ok
  exact ⟨o, its.toArray, n, ho, hc, hd, by simpa using items_ok r⟩
/-! ### what stands at a dict's address -/
abbrev Ent := Sd × Addr × Addr
def entOf (P : Program) (w : World) (e : Ent) : DictEntry := ⟨(stKind P w).hash e.1, .ref e.2.1, .ref e.2.2⟩
def x3 (e : Ent) : Sd × Addr × Value := (e.1, e.2.1, .ref e.2.2)
theorem entOf_x3 (P : Program) (w : World) (e : Ent) : entryOfKey (stKind P w) (x3 e) = entOf P w e := rfl
def DMo (P : Program) (w : World) (d : Addr) (ks : List Ent) (ep : Nat) : HO := .ext fun h => (d == sysModules) = false ∧ h.DictRaw d (ks.map (entOf P w)).toArray ep
structure DMAt (P : Program) (w : World) (H : Hp) (d : Addr) (ks : List Ent) : Prop where
  at_ : ∃ ep, H d = some (DMo P w d ks ep)
  key : ∀ e ∈ ks, TupH H e.2.1 (e.1.map ov)
  nd : (ks.map (·.1)).Nodup
  sz : ks.length ≤ 4000
def atM (ks : List Ent) (t : Sd) : Option (Addr × Addr) := (ks.find? (fun e => decide (e.1 = t))).map (·.2)
def hasM (ks : List Ent) (t : Sd) : Bool := (atM ks t).isSome
def putM (ks : List Ent) (t : Sd) (a v : Addr) : List Ent := if hasM ks t then ks.map (fun e => if e.1 = t then (e.1, e.2.1, v) else e) else ks ++ [(t, a, v)]
theorem atKey_x3 (ks : List Ent) (t : Sd) : atKey (ks.map x3) t = (atM ks t).map (fun p => (p.1, Value.ref p.2)) := by
  induction ks with
  | nil => rfl
  | cons e ks ih =>
    unfold atKey atM at *
    rw [List.map_cons, List.find?_cons, List.find?_cons]
    by_cases q : e.1 = t
    · have q' : (x3 e).1 = t := q
      rw [decide_eq_true q, decide_eq_true q']
      rfl
    · have q' : ¬ (x3 e).1 = t := q
      rw [decide_eq_false q, decide_eq_false q']
      exact ih
theorem storedH_x3 (ks : List Ent) (t : Sd) (a v : Addr) : storedH (ks.map x3) t a (.ref v) = (putM ks t a v).map x3 := by
  unfold storedH putM hasM
  rw [atKey_x3, Option.isSome_map]
  split
  · rw [List.map_map, List.map_map]
    refine List.map_congr_left fun e _ => ?_
    show putAt t (.ref v) (x3 e) = x3 (if e.1 = t then (e.1, e.2.1, v) else e)
    unfold putAt
    by_cases q : e.1 = t
    · rw [if_pos q, if_pos (show (x3 e).1 = t from q)]; rfl
    · rw [if_neg q, if_neg (show ¬ (x3 e).1 = t from q)]
  · rw [List.map_append]; rfl
theorem putM_len (ks : List Ent) (t : Sd) (a v : Addr) : (putM ks t a v).length ≤ ks.length + 1 := by
  unfold putM
  split
  · rw [List.length_map]; exact Nat.le_succ _
  · rw [List.length_append]; exact Nat.le_refl _
section
variable {X : Cx} {pins : List (Addr × Obj)} {σ : L2.St} {H : Hp} {s : Shared} {d : Addr} {ks : List Ent}
theorem dm_raw (I : Inv X pins σ H s) {ep : Nat} (h : H d = some (DMo X.prog X.w d ks ep)) : (d == sysModules) = false ∧ s.heap.DictRaw d (ks.map (entOf X.prog X.w)).toArray ep := by
  obtain ⟨q, _, _⟩ := I.hok d _ h
  exact q
theorem dm_of (I : Inv X pins σ H s) (D : DMAt X.prog X.w H d ks) : (d == sysModules) = false ∧ s.heap.DictOfH (stKind X.prog X.w) d (ks.map x3) := by
  obtain ⟨ep, h⟩ := D.at_
  obtain ⟨hs, o, ho, hx, hd⟩ := dm_raw I h
  refine ⟨hs, o, _, ep, ho, hx, hd, ?_, fun x hx' => ?_, ?_⟩
  · rw [List.map_map, List.toList_toArray]
    exact List.map_congr_left fun e _ => (entOf_x3 X.prog X.w e).symm
  · obtain ⟨e, he, rfl⟩ := List.mem_map.mp hx'
    exact key_is I.hok (D.key e he)
  · rw [List.map_map]; exact D.nd
theorem dm_ok {h : Heap} {P : Program} {w : World} {H' : Hp} (hs : (d == sysModules) = false) {ep : Nat} (hr : h.DictRaw d (ks.map (entOf P w)).toArray ep) : ObjOk P w H' h d (DMo P w d ks ep) :=
  ⟨⟨hs, hr⟩, let ⟨o, ho, _⟩ := hr; ⟨o, ho⟩, fun h1 h2 ⟨a, b⟩ k => ⟨a, b.at k⟩⟩
theorem raw_of {h : Heap} {P : Program} {w : World} (hm : h.DictOfH (stKind P w) d (ks.map x3)) : ∃ ep, h.DictRaw d (ks.map (entOf P w)).toArray ep := by
  obtain ⟨o, es, ep, ho, hx, hd, he, _⟩ := hm
  refine ⟨ep, o, ho, hx, ?_⟩
  have e1 : es.toList = ks.map (entOf P w) := by
    rw [he, List.map_map]; rfl
  have e2 : es = (ks.map (entOf P w)).toArray := by rw [← e1]
  rw [hd, e2]
theorem dm_room (hu : X.A.units + 1 < cLine) : (stKind X.prog X.w).room X.A.in1 := tupleKind_room_in1 hu
/-- a dict of ours is written: the dict's object alone changes -/
theorem dm_write (I : Inv X pins σ H s) (D : DMAt X.prog X.w H d ks) {ks' : List Ent} {h' : Heap} {tk : Nat} (hm : h'.DictOfH (stKind X.prog X.w) d (ks'.map x3)) (hb : Heap.SameBut d s.heap h') :
    ∃ ep, Inv X pins σ (upd H d (DMo X.prog X.w d ks' ep)) { s with heap := h', toks := tk } := by
  obtain ⟨ep0, h0⟩ := D.at_
  obtain ⟨hs, _⟩ := dm_raw I h0
  obtain ⟨ep, hr⟩ := raw_of hm
  exact ⟨ep, I.write (x := d) (e := d) (by rw [h0]; exact True.intro) (.inl rfl) (fun b u hbd e => (hb.2 b hbd).trans e) (let ⟨o, ho, _⟩ := hr; ⟨o, ho⟩) (dm_ok hs hr)⟩
/-! ### operators -/
def rInM (P : Program) (w : World) (neg : Bool) : R2 := fun x y H Q => ∃ (a d : Addr) (t : Sd) (ks : List Ent), x = .ref a ∧ y = .ref d ∧ DMAt P w H d ks ∧ TupH H a (t.map ov) ∧ Q (.bl (if neg then !hasM ks t else hasM ks t)) H
theorem op_inM (hu : X.A.units + 1 < cLine) : OpR X (compareOp .In) (rInM X.prog X.w false) := by
  intro p0 s0 v0 H0 x y v u Q J rx ry q
  obtain ⟨a, d, t, ks, rfl, rfl, D, ha, q⟩ := q
  cases rx
  cases ry
  obtain ⟨hs, hm⟩ := dm_of J D
  refine wpAny_in_heap (dm_room hu) (key_is J.hok ha) hs hm ?_
  rw [atKey_x3, Option.isSome_map]
  exact ⟨V.bl _, H0, J.tok _, rfl, q⟩
theorem op_notInM (hu : X.A.units + 1 < cLine) : OpR X (compareOp .NotIn) (rInM X.prog X.w true) := by
  intro p0 s0 v0 H0 x y v u Q J rx ry q
  obtain ⟨a, d, t, ks, rfl, rfl, D, ha, q⟩ := q
  cases rx
  cases ry
  obtain ⟨hs, hm⟩ := dm_of J D
  show wpAny _ _ (do return Value.bool (!(← contains (.ref d) (.ref a)))) _ _ s0
  refine wpAny_bind (wpAny_contains_heap (dm_room hu) (key_is J.hok ha) hs hm (wpAny_pure ?_))
  rw [atKey_x3, Option.isSome_map]
  exact ⟨V.bl _, H0, J.tok _, rfl, q⟩
def rIxM (P : Program) (w : World) : R2 := fun x y H Q => ∃ (d a : Addr) (t : Sd) (ks : List Ent) (p : Addr × Addr), x = .ref d ∧ y = .ref a ∧ DMAt P w H d ks ∧ TupH H a (t.map ov) ∧ atM ks t = some p ∧ Q (.ref p.2) H
theorem get_M (hu : X.A.units + 1 < cLine) : OpR X getItem (rIxM X.prog X.w) := by
  intro p0 s0 v0 H0 x y v u Q J rx ry q
  obtain ⟨d, a, t, ks, p, rfl, rfl, D, ha, hp, q⟩ := q
  cases rx
  cases ry
  obtain ⟨hs, hm⟩ := dm_of J D
  exact wpAny_getItem_heap (p := (p.1, .ref p.2)) (dm_room hu) (key_is J.hok ha) hm (by rw [atKey_x3, hp]; rfl) ⟨.ref p.2, H0, J.tok _, rfl, q⟩
def rSetM (P : Program) (w : World) : TSet := fun o i v H Q => ∃ (d a va : Addr) (t : Sd) (ks : List Ent), o = .ref d ∧ i = .ref a ∧ v = .ref va ∧ DMAt P w H d ks ∧ ks.length < 4000 ∧ TupH H a (t.map ov) ∧
  ∀ ep, Q (upd H d (DMo P w d (putM ks t a va) ep))
theorem set_M (hu : X.A.units + 1 < cLine) : PSet X (rSetM X.prog X.w) := by
  intro p0 s0 v0 H0 o i v ovv iv u Q J ro ri rv q
  obtain ⟨d, a, va, t, ks, rfl, rfl, rfl, D, hl, ha, q⟩ := q
  cases ro
  cases ri
  cases rv
  obtain ⟨hs, hm⟩ := dm_of J D
  refine wpAny_setItem_heap (dm_room hu) (key_is J.hok ha) hm (fun h' hm' hb => ?_) (by rw [List.length_map, sizeLine_eq]; omega)
  rw [storedH_x3] at hm'
  obtain ⟨ep, J'⟩ := dm_write J D hm' hb
  exact ⟨_, J', q ep⟩
end
/-- what stands behind a store -/
theorem DMAt.put {P : Program} {w : World} {H : Hp} {d a va : Addr} {t : Sd} {ks : List Ent} {ep : Nat} (D : DMAt P w H d ks) (hl : ks.length < 4000) (ha : TupH H a (t.map ov)) : DMAt P w (upd H d (DMo P w d (putM ks t a va) ep)) d (putM ks t a va) := by
  obtain ⟨ep0, h0⟩ := D.at_
  have ne : ∀ {b : Addr} {xs : List V}, TupH H b xs → b ≠ d := fun hb => hb.ne h0
  have hmem : ∀ e ∈ putM ks t a va, TupH H e.2.1 (e.1.map ov) := fun e he => by
    unfold putM at he
    split at he
    · obtain ⟨e0, h1, rfl⟩ := List.mem_map.mp he
      have := D.key e0 h1
      split <;> exact this
    · rcases List.mem_append.mp he with q | q
      · exact D.key e q
      · rw [List.mem_singleton.mp q]; exact ha
  refine ⟨⟨ep, upd_same⟩, fun e he => ?_, ?_, ?_⟩
  · exact (hmem e he).to (upd_ne (ne (hmem e he)))
  · unfold putM
    split
    · rw [List.map_map]
      have e1 : ((fun e : Ent => e.1) ∘ fun e : Ent => if e.1 = t then (e.1, e.2.1, va) else e) = fun e => e.1 := by
        funext e
        show (if e.1 = t then ((e.1, e.2.1, va) : Ent) else e).1 = e.1
        split <;> rfl
      rw [e1]
      exact D.nd
    · rename_i hh
      rw [List.map_append]
      refine List.nodup_append.mpr ⟨D.nd, by simp, fun b hb c hc z => ?_⟩
      have hc' : c = t := by simpa using hc
      rw [z, hc'] at hb
      obtain ⟨e, he, q⟩ := List.mem_map.mp hb
      apply hh
      unfold hasM atM
      rw [Option.isSome_map, List.find?_isSome]
      exact ⟨e, he, decide_eq_true q⟩
  · have := putM_len ks t a va
    omega
/-- an extension keeps it -/
theorem DMAt.ext {P : Program} {w : World} {H H' : Hp} {d : Addr} {ks : List Ent} (D : DMAt P w H d ks) (hd : H' d = H d) (ht : ∀ b xs, TupH H b xs → TupH H' b xs) : DMAt P w H' d ks :=
  ⟨let ⟨ep, e⟩ := D.at_; ⟨ep, hd.trans e⟩, fun e he => ht _ _ (D.key e he), D.nd, D.sz⟩
/-- what the entries tell: standings and words, by the words' addresses -/
def wdV (H : Hp) (a : Addr) (w : Wd) : Prop := ∃ as : List Addr, H a = some (.tup (as.map V.ref)) ∧ as.length = w.length ∧ ∀ (i : Nat) (b : Addr) (s : Sl), as[i]? = some b → w[i]? = some s → H b = some (.tup [.int (s.1 : Int), .int (s.2 : Int)])
end K15
set_option autoImplicit false
set_option linter.all false
set_option Elab.async false
set_option maxRecDepth 100000
set_option maxHeartbeats 2000000
/-! Rules of our own, second part: displays, methods and walks of such dicts; enumerate over a tuple. -/
namespace K15
open PySem PySem.Spec PyProof.Rows L2
section
variable {X : Cx} {pos : Pos}
/-- {k: v}, k a standing, v an object -/
def tDispM (P : Program) (w : World) (tk tv : TE) : TE := fun σ H Q => ∀ p, H p = none → tk σ (upd H p (DMo P w p [] 0)) fun x H1 => tv σ H1 fun y H2 =>
  ∃ (a va : Addr) (t : Sd), x = .ref a ∧ y = .ref va ∧ H2 p = some (DMo P w p [] 0) ∧ TupH H2 a (t.map ov) ∧ ∀ ep, Q (.ref p) (upd H2 p (DMo P w p [(t, a, va)] ep))
theorem dm_new {P : Program} {w : World} {H' : Hp} (h : Heap) (hb : sysModules < h.objs.size) : ObjOk P w H' (h.push { cls := .type "dict", data := .dict #[] }) h.objs.size (DMo P w h.objs.size [] 0) :=
  dm_ok (beq_eq_false_iff_ne.mpr (Ne.symm (Nat.ne_of_lt hb))) ⟨_, Heap.get?_push_size _ rfl, ⟨rfl, rfl, rfl⟩, rfl⟩
/-- {} for such keys -/
def tNewM (P : Program) (w : World) : TE := fun _ H Q => ∀ p, H p = none → Q (.ref p) (upd H p (DMo P w p [] 0))
theorem pe_newM : PE X (.Dict [] [] pos) (tNewM X.prog X.w) := ⟨fun pins s σ H Q I h =>
  wpAny_Dict_empty ⟨V.ref s.heap.objs.size, _, I.laid (a := s.heap.objs.size) (t' := s.toks) (fun _ _ q => Heap.get?_push_of_some _ q) (Nat.le_refl _) (dm_new s.heap I.big), rfl, h _ (I.hok.fresh (Nat.le_refl _))⟩⟩
theorem pe_dispM {k v : Expr} {tk tv : TE} (hu : X.A.units < cLine) (hk : PE X k tk) (hv : PE X v tv) : PE X (.Dict [some k] [v] pos) (tDispM X.prog X.w tk tv) := by
  refine ⟨fun pins s σ H Q I q => ?_⟩
  have hn := I.hok.fresh (Nat.le_refl s.heap.objs.size)
  have I1 := I.laid (a := s.heap.objs.size) (o := DMo X.prog X.w s.heap.objs.size [] 0) (h' := s.heap.push { cls := .type "dict", data := .dict #[] }) (t' := s.toks) (fun _ _ z => Heap.get?_push_of_some _ z) (Nat.le_refl _) (dm_new s.heap I.big)
  have q0 := q _ hn
  have hP : PPs X pos [some k] [v] [(tk, tv)] := pps_cons hk hv pps_nil
  rw [arm_eval_Dict, zip_pairTrees [some k] [v] X.env pos rfl rfl, dictDisplay_pairs (pairTrees [some k] [v] X.env pos) (by intro z; cases z) (by show 1 < 17; decide)]
  refine wpAny_bind (wpAny_standAt (wpAny_bind (wpAny_subDictH (knd := stKind X.prog X.w) hu (by show 1 ≤ 15; decide) ?_)))
  refine thn (hP.run pins _ σ _ (fun ps H2 => match ps with
    | [(x, y)] => ∃ (a va : Addr) (t : Sd), x = .ref a ∧ y = .ref va ∧ H2 s.heap.objs.size = some (DMo X.prog X.w s.heap.objs.size [] 0) ∧ TupH H2 a (t.map ov) ∧ ∀ ep, Q (.ref s.heap.objs.size) (upd H2 s.heap.objs.size (DMo X.prog X.w s.heap.objs.size [(t, a, va)] ep))
    | _ => False) I1 q0) ?_
  · rintro ws s2 ⟨ps, H2, I2, rel, qq⟩
    obtain ⟨x, y, rfl⟩ : ∃ x y, ps = [(x, y)] := by
      match ps, qq with
      | [(x, y)], _ => exact ⟨x, y, rfl⟩
    obtain ⟨a, va, t, rfl, rfl, ep, ha, q2⟩ := qq
    cases rel with
    | cons r rest =>
      cases rest
      rename_i u
      obtain ⟨u1, u2⟩ := u
      obtain ⟨r1, r2⟩ := r
      have e1 : u1 = Value.ref a := r1
      have e2 : u2 = Value.ref va := r2
      subst e1 e2
      have D0 : DMAt X.prog X.w H2 s.heap.objs.size [] := ⟨⟨0, ep⟩, (fun _ z => nomatch z), List.nodup_nil, Nat.zero_le _⟩
      refine ⟨[x3 (t, a, va)], ⟨rfl, rfl, key_is I2.hok ha, trivial⟩, (dm_of I2 D0).2, fun h' tk hm hb => ?_⟩
      obtain ⟨ep', J⟩ := dm_write (ks' := [(t, a, va)]) (tk := tk) I2 D0 hm hb
      exact wpAny_pure ⟨V.ref _, _, J, rfl, q2 ep'⟩
/-! ### methods -/
def tBMM (P : Program) (w : World) (r : V → List V → Hp → VK → Prop) (to : TE) (t : TA) : TE := fun σ H Q => to σ H fun x H1 => (∃ d ks, x = .ref d ∧ DMAt P w H1 d ks) ∧ t σ H1 fun xs H2 => r x xs H2 Q
variable {o e : Expr} {es : List Expr} {to : TE} {t : TA} {name : Str} {apos cpos : Pos} {id : String} {r : V → List V → Hp → VK → Prop}
theorem pe_bmM (slot : Slot "dict" name id) (hty : typeOf (.builtin id) = pure (.type "method_descriptor")) (hm : MtR X id r) (ho : PE X o to) (ha : PA X (e :: es) t)
    (hbase : attributeBase o name X.env (eval o X.env) = eval o X.env := by rfl)
    (hfew : ((backTo cpos (starEach (e :: es) X.env)).all (fun x => !x.1) && (backToKw cpos (keywordEach [] X.env)).all (fun x => x.1.isSome)
      && decide ((e :: es).length + ([] : List Keyword).length + (if ([] : List Keyword).isEmpty then 0 else 1) < 30)) = true := by rfl)
    (hline : (apos.endLine == cpos.line) = true := by rfl) (hs : starEach (e :: es) X.env = (false, eval e X.env) :: starEach es X.env := by rfl) (hplain : (backTo cpos (starEach es X.env)).any (·.1) = false := by rfl) :
    PE X (.Call (.Attribute o name apos) (e :: es) [] cpos) (tBMM X.prog X.w r to t) := by
  refine ⟨fun pins s σ H Q I h => ?_⟩
  refine wpAny_Call_method_late hbase hfew hline rfl (thn (ho.run pins s σ H _ I h) fun v s1 ⟨x, H1, I1, r1, ⟨d, ks, ex, D⟩, q1⟩ => ?_)
  subst ex
  cases r1
  obtain ⟨ep, h0⟩ := D.at_
  obtain ⟨_, hr⟩ := dm_raw I1 h0
  refine ⟨"dict", id, PySem.F.plainAttrs_dict, slot, hty, hr.typeIs, fun a ea => ?_, ?_⟩
  · cases ea
    obtain ⟨ob, hob, hx, _⟩ := hr
    exact ⟨ob, hob, hx.2.1⟩
  have hA := ha.run cpos pins s1 σ H1 _ I1 q1
  rw [hs] at hA ⊢
  refine Calls.callWith_builtin (by show (false || (backTo cpos (starEach es X.env)).any (·.1)) = false; rw [hplain] <;> rfl) (Calls.evalArgs_plain ?_)
  exact thn hA fun us s2 ⟨vs, H2, I2, r2, q2⟩ => hm pins s2 σ H2 (.ref d) vs (.ref d) us Q I2 rfl r2 q2
def rGetM (P : Program) (w : World) : V → List V → Hp → VK → Prop := fun x xs H Q => ∃ (d a : Addr) (df : V) (t : Sd) (ks : List Ent), x = .ref d ∧ xs = [.ref a, df] ∧ DMAt P w H d ks ∧ TupH H a (t.map ov) ∧
  Q (match atM ks t with | some p => .ref p.2 | none => df) H
theorem mt_getM (hu : X.A.units + 1 < cLine) : MtR X "dict.get" (rGetM X.prog X.w) := by
  intro p0 s0 v0 H0 x xs v us Q J rx rxs q
  obtain ⟨d, a, df, t, ks, rfl, rfl, D, ha, q⟩ := q
  cases rx
  obtain ⟨u1, u2, rfl, r1, r2⟩ := vals2 rxs
  cases r1
  obtain ⟨hs, hm⟩ := dm_of J D
  refine call_meetsIn PySem.F.slot_dict_get hm.typeIs PySem.F.entry_dict_get (PySem.F.args_dict_get_3 _ _ _) (meetsH_dict_get_default (stKind X.prog X.w) d a hs u2) ⟨dm_room hu, t, _, key_is J.hok ha, hm, ?_⟩
  rw [atKey_x3]
  cases e : atM ks t with
  | none =>
    rw [e] at q
    exact ⟨df, H0, J.tok _, r2, q⟩
  | some p =>
    rw [e] at q
    exact ⟨.ref p.2, H0, J.tok _, rfl, q⟩
def rUpdM (P : Program) (w : World) : V → List V → Hp → VK → Prop := fun x xs H Q => ∃ (d d2 : Addr) (ks ks2 : List Ent), x = .ref d ∧ xs = [.ref d2] ∧ d ≠ d2 ∧ DMAt P w H d ks ∧ DMAt P w H d2 ks2 ∧ ks ≠ [] ∧ ((ks ++ ks2).map (·.1)).Nodup ∧
  ∀ ep, Q .non (upd H d (DMo P w d (ks ++ ks2) ep))
theorem mt_updM (hu : X.A.units + 1 < cLine) : MtR X "dict.update" (rUpdM X.prog X.w) := by
  intro p0 s0 v0 H0 x xs v us Q J rx rxs q
  obtain ⟨d, d2, ks, ks2, rfl, rfl, ne, D, D2, h0, hn, q⟩ := q
  cases rx
  obtain ⟨u, rfl, r1⟩ := vals1 rxs
  cases r1
  obtain ⟨hs, hm⟩ := dm_of J D
  obtain ⟨hs2, hm2⟩ := dm_of J D2
  have hl := D.sz
  have hl2 := D2.sz
  refine call_update_dictH (dm_room hu) ne hs2 hm hm2 (.inl fun z => h0 (List.map_eq_nil_iff.mp z)) (by rw [List.length_map, List.length_map, sizeLine_eq]; omega) fun h' hm' _ hb => ?_
  rw [storedAllH_append_of_fresh _ _ (by rw [← List.map_append, List.map_map]; exact hn), ← List.map_append] at hm'
  obtain ⟨ep, J'⟩ := dm_write (ks' := ks ++ ks2) (tk := s0.toks) J D hm' hb
  exact ⟨.non, _, J', rfl, q ep⟩
end
/-! ### walks -/
/-- a walk over a source that stands in H: own, the iterator's cells; in each turn a Goes for it as things stand -/
structure Src (P : Program) (w : World) (K : PySem.W.Frag) (tg : Expr) (J : It) (own : List Addr) (it : Addr) (tn : Nat → Heap → Prop) : Prop where
  mem : it ∈ own
  obj : ∀ i h, tn i h → ∀ b ∈ own, ∃ o, h.get? b = some o ∧ ∀ v, o.data ≠ .cell v
  keep : ∀ i h h', tn i h → (∀ b ∈ own, ∀ o, h.get? b = some o → h'.get? b = some o) → tn i h'
  go : ∀ (X : Cx), X.prog = P → X.w = w → X.K = K → X.calm = true → ∀ (i : Nat) (pins : List (Addr × Obj)) (s : Shared) (σ : L2.St) (H : Hp), Inv X pins σ H s → tn i s.heap → (J.go i H ∨ J.stop i H) →
    ∃ (fp : List Addr) (n : Nat) (Y : Nat → Heap → Value → Heap → Prop) (Sc : Nat → Heap → Prop), GoesN P w X.A tg it fp own n Y Sc ∧ Sc i s.heap ∧ (J.go i H → i < n) ∧ (J.stop i H → i = n) ∧ (∀ j h, Sc j h → tn j h) ∧
      ∀ v h', J.go i H → Y i s.heap v h' → (∀ b o, b ∉ own → s.heap.get? b = some o → h'.get? b = some o) →
        (∃ x, RelV x v ∧ J.yld i H x H) ∨ (∃ (T : Addr) (xs : List V) (us : List Value), v = .ref T ∧ s.heap.objs.size ≤ T ∧ h'.IsTuple T us.toArray ∧ Vals xs us ∧ xs.length ≤ sizeLine ∧ (H T = none → J.yld i H (.ref T) (upd H T (.tup xs))))
  self : ∀ (A : Around) (i : Nat) (s : Shared) (Q : Value → Shared → Prop) (E : Value → Shared → Prop), tn i s.heap → Q (.ref it) s → wpAny (model P w) A (pyIter (.ref it)) Q E s
theorem Src.turn {P : Program} {w : World} {K : PySem.W.Frag} {tg : Expr} {J : It} {own : List Addr} {it : Addr} {tn : Nat → Heap → Prop} (S : Src P w K tg J own it tn) : Turn P w K tg J own it tn where
  mem := S.mem
  obj := S.obj
  keep := S.keep
  item := by
    intro X hP hw hK hc i pins s σ H E I hf st hg
    obtain ⟨fp, n, Y, Sc, W, sc, h1, _, h3, h4⟩ := S.go X hP hw hK hc i pins s σ H I st (.inl hg)
    refine thn (W.goes i s (fun v s' => ∃ x H', Inv X pins σ H' s' ∧ RelV x v ∧ J.yld i H x H' ∧ tn (i + 1) s'.heap ∧ ∀ b ∈ own, H' b = none) E (h1 hg) sc fun v h' tk hY sc' hk _ => ?_) fun _ _ z => z
    rcases h4 v h' hg hY hk with ⟨x, rx, hy⟩ | ⟨T, xs, us, rfl, hT, ht, rv, hl, hy⟩
    · exact ⟨x, H, I.turnedL hk hf, rx, hy, h3 _ _ sc', fun b hb => (hf b hb).1⟩
    · have hn : H T = none := I.hok.fresh hT
      refine ⟨.ref T, upd H T (.tup xs), I.turnedNew hk hf hT ⟨hl, us, rv, ht⟩, rfl, hy hn, h3 _ _ sc', fun b hb => ?_⟩
      obtain ⟨ob, hob, _⟩ := S.obj _ _ st b hb
      rw [upd_ne (Nat.ne_of_lt (Nat.lt_of_lt_of_le (Heap.lt_size hob) hT))]
      exact (hf b hb).1
  done := by
    intro X hP hw hK hc i pins s σ H E I hf st hg
    obtain ⟨fp, n, Y, Sc, W, sc, _, h2, _, _⟩ := S.go X hP hw hK hc i pins s σ H I st (.inr hg)
    have e := h2 hg
    subst e
    exact W.stops s _ E sc fun h' tk hk _ => I.turnedL hk hf
  self := S.self
/-! the keys of a dict of ours, in their order: the key's own tuple -/
def ItkM (P : Program) (w : World) (d : Addr) (ks : List Ent) (ep : Nat) : It :=
  ⟨fun i H => H d = some (DMo P w d ks ep) ∧ i < ks.length, fun i H x H' => H' = H ∧ ∃ e, ks[i]? = some e ∧ x = .ref e.2.1, fun i H => H d = some (DMo P w d ks ep) ∧ i = ks.length⟩
theorem ents_get (P : Program) (w : World) (ks : List Ent) {i : Nat} (hi : i < (ks.map (entOf P w)).toArray.size) : ∃ e, ks[i]? = some e ∧ (ks.map (entOf P w)).toArray[i] = entOf P w e := by
  have hl : i < ks.length := by simpa using hi
  exact ⟨ks[i], by simp [hl], by simp⟩
theorem ents_size (P : Program) (w : World) (ks : List Ent) : (ks.map (entOf P w)).toArray.size = ks.length := by simp
theorem src_keysM {P : Program} {w : World} {K : PySem.W.Frag} {tg : Expr} {d it : Addr} {ks : List Ent} {ep : Nat} (hne : d ≠ it) : Src P w K tg (ItkM P w d ks ep) [it] it (fun i h => h.IsKeyIter it d i ks.length ep) where
  mem := by simp
  obj := fun i h st b hb => by
    obtain rfl : b = it := by simpa using hb
    obtain ⟨oi, e, c, dd⟩ := st
    exact ⟨oi, e, fun v z => by rw [dd] at z; cases z⟩
  keep := fun i h h' st k => st.at fun oi e => k it (by simp) oi e
  go := by
    intro X hP hw hK hc i pins s σ H I st hg
    subst hP hw
    have hd : H d = some (DMo X.prog X.w d ks ep) := hg.elim (·.1) (·.1)
    obtain ⟨_, hr⟩ := dm_raw I hd
    refine ⟨_, _, _, _, (Goes.rawKeys (target := tg) (I.ok.hd hc) it d hne (ks.map (entOf X.prog X.w)).toArray ep).toN, ⟨by rw [ents_size]; exact st, hr⟩, fun g => by rw [ents_size]; exact g.2, fun g => by rw [ents_size]; exact g.2, fun j h z => by rw [← ents_size X.prog X.w]; exact z.1, fun v h' g hY _ => ?_⟩
    obtain ⟨hi, rfl⟩ := hY
    obtain ⟨e, he, e2⟩ := ents_get X.prog X.w ks hi
    rw [e2]
    exact .inl ⟨.ref e.2.1, rfl, rfl, e, he, rfl⟩
  self := fun A i s Q E st h => by
    refine wpAny_pyIter_slot st.typeIs PySem.F.slot_dict_keyiterator_iter (wpAny_call_entry PySem.F.slot_dict_keyiterator_iter st.typeIs PySem.F.entry_dict_keyiterator_iter ?_ (PySem.F.args_dict_keyiterator_iter_1 _))
    exact wpAny_pure ⟨_, rfl, "dict_keyiterator", _, st.typeIs, PySem.F.slot_dict_keyiterator_next.lookup, h⟩
/-! the pairs, each a new tuple -/
def ItiM (P : Program) (w : World) (d : Addr) (ks : List Ent) (ep : Nat) : It :=
  ⟨fun i H => H d = some (DMo P w d ks ep) ∧ i < ks.length, fun i H x H' => ∃ T e, ks[i]? = some e ∧ x = .ref T ∧ H T = none ∧ H' = upd H T (.tup [.ref e.2.1, .ref e.2.2]), fun i H => H d = some (DMo P w d ks ep) ∧ i = ks.length⟩
theorem src_itemsM {P : Program} {w : World} {K : PySem.W.Frag} {elts : List Expr} {kk : Nat} {tpos : Pos} {d it : Addr} {ks : List Ent} {ep : Nat} (hne : d ≠ it) :
    Src P w K (.Tuple elts kk tpos) (ItiM P w d ks ep) [it] it (fun i h => ∃ ok ov, IsItemIter h it d i ks.length ep ok ov) where
  mem := by simp
  obj := fun i h st b hb => by
    obtain rfl : b = it := by simpa using hb
    obtain ⟨ok, ov, e⟩ := st
    exact ⟨_, e, fun v z => nomatch z⟩
  keep := fun i h h' st k => let ⟨ok, ov, e⟩ := st; ⟨ok, ov, k it (by simp) _ e⟩
  go := by
    intro X hP hw hK hc i pins s σ H I st hg
    subst hP hw
    have hd : H d = some (DMo X.prog X.w d ks ep) := hg.elim (·.1) (·.1)
    obtain ⟨_, hr⟩ := dm_raw I hd
    refine ⟨_, _, _, _, GoesN.rawItems (elts := elts) (x1 := kk) (pos := tpos) (I.ok.hd hc) it d hne (ks.map (entOf X.prog X.w)).toArray ep, ⟨by rw [ents_size]; exact st, hr⟩, fun g => by rw [ents_size]; exact g.2, fun g => by rw [ents_size]; exact g.2, fun j h z => by rw [← ents_size X.prog X.w]; exact z.1, fun v h' g hY _ => ?_⟩
    obtain ⟨T, hi, rfl, hT, ht⟩ := hY
    obtain ⟨e, he, e2⟩ := ents_get X.prog X.w ks hi
    rw [e2] at ht
    exact .inr ⟨T, [.ref e.2.1, .ref e.2.2], [.ref e.2.1, .ref e.2.2], rfl, hT, ht, .cons rfl (.cons rfl .nil), by show 2 ≤ sizeLine; decide, fun hn => ⟨T, e, he, rfl, hn, rfl⟩⟩
  self := fun A i s Q E st h => let ⟨_, _, e⟩ := st; PySem.W.kcp_self e h
/-! enumerate over a tuple -/
def IteT (K : PySem.W.Frag) (a : Addr) (xs : List V) : It :=
  ⟨fun i H => SqT K H a xs ∧ i < xs.length, fun i H v H' => ∃ T x, v = .ref T ∧ H T = none ∧ H' = upd H T (.tup [.int (i : Nat), x]) ∧ xs[i]? = some x, fun i H => SqT K H a xs ∧ i = xs.length⟩
theorem src_enumT {P : Program} {w : World} {K : PySem.W.Frag} {elts : List Expr} {kk : Nat} {tpos : Pos} {a e it : Addr} {xs : List V} (h1 : e ≠ it) (h2 : e ≠ a) (h3 : a ≠ it) :
    Src P w K (.Tuple elts kk tpos) (IteT K a xs) [e, it] e (fun i h => (∃ old, IsEnum h e it ((i : Nat) : Int) old) ∧ h.IsTupleIter it a i) where
  mem := by simp
  obj := fun i h st b hb => by
    obtain ⟨⟨old, he⟩, ⟨o, ho, hc, hd⟩⟩ := st
    have e' : b = e ∨ b = it := by simpa using hb
    rcases e' with z | z
    · rw [z]; exact ⟨_, he, fun v q => nomatch q⟩
    · rw [z]; exact ⟨o, ho, fun v q => by rw [hd] at q; cases q⟩
  keep := fun i h h' st k => let ⟨⟨old, he⟩, hi⟩ := st; ⟨⟨old, k e (by simp) _ he⟩, hi.at fun o q => k it (by simp) o q⟩
  go := by
    intro X hP hw hK hc i pins s σ H I st hg
    subst hP hw hK
    have hq : SqT X.K H a xs := hg.elim (·.1) (·.1)
    obtain ⟨its, rv, ht, hz⟩ := I.tuple hq
    have hl : its.toArray.size = xs.length := by simpa using rv.length.symm
    have D := Draws.tuple (prog := X.prog) (w := X.w) (A := X.A.in1) (I.ok.hd hc) it a h3 its.toArray
    refine ⟨_, _, _, _, GoesN.enumFrom (elts := elts) (x1 := kk) (pos := tpos) 0 D e h1 (by simp [h1, h2]) (by simp), ⟨?_, st.2, ht⟩, fun g => by rw [hl]; exact g.2, fun g => by rw [hl]; exact g.2, fun j h z => ⟨?_, z.2.1⟩, fun v h' g hY _ => ?_⟩
    · rw [Int.zero_add]; exact st.1
    · have z1 := z.1
      rw [Int.zero_add] at z1
      exact z1
    · obtain ⟨T, t, x, rfl, hT, hx, hp⟩ := hY
      have hx' : its[i]? = some x := by simpa using hx
      obtain ⟨y, hy, ry⟩ : ∃ y, xs[i]? = some y ∧ RelV y x := by
        have g2 : i < xs.length := g.2
        obtain ⟨u, hu, ru⟩ := rv.get (List.getElem?_eq_getElem g2)
        rw [hx'] at hu
        cases hu
        exact ⟨_, List.getElem?_eq_getElem g2, ru⟩
      rw [Int.zero_add] at hp
      exact .inr ⟨T, [.int (i : Nat), y], [.int (i : Nat) t, x], rfl, hT, hp, .cons ⟨_, rfl⟩ (.cons ry .nil), by show 2 ≤ sizeLine; decide, fun hn => ⟨T, y, rfl, hn, rfl, hy⟩⟩
  self := fun A i s Q E st h => let ⟨⟨_, he⟩, _⟩ := st; wpAny_pyIter_enum he h
section
variable {X : Cx} {tg e : Expr} {td : TE} {apos cpos : Pos}
def iKeysMM (P : Program) (w : World) (td : TE) : TI := fun σ H R => td σ H fun x H1 => ∃ d ks ep, x = .ref d ∧ H1 d = some (DMo P w d ks ep) ∧ R (ItkM P w d ks ep) H1
theorem pi_keysMM (he : PE X e td) : PI X tg e (iKeysMM X.prog X.w td) := by
  refine ⟨fun pins s σ H R I h => ?_⟩
  refine thn (he.run pins s σ H _ I h) fun u s1 ⟨x, H1, I1, rx, d, ks, ep, ex, hd, q⟩ => ?_
  subst ex
  obtain rfl : u = Value.ref d := rx
  obtain ⟨hs, hr⟩ := dm_raw I1 hd
  have hlt : d < s1.heap.objs.size := hr.lt_size
  refine wpAny_pyIter_dict_raw hs hr (pi_one (tk := s1.toks) I1 _ (src_keysM (Nat.ne_of_lt hlt)).turn ?_ q)
  rw [ents_size]
  exact ⟨_, Heap.get?_push_size _ rfl, rfl, rfl⟩
def iItemsMM (P : Program) (w : World) (td : TE) : TI := fun σ H R => td σ H fun x H1 => ∃ d ks ep, x = .ref d ∧ H1 d = some (DMo P w d ks ep) ∧ R (ItiM P w d ks ep) H1
theorem pi_itemsMM {elts : List Expr} {kk : Nat} {tpos : Pos} (he : PE X e td) (hbase : attributeBase e "items" X.env (eval e X.env) = eval e X.env := by rfl) (hline : (apos.endLine == cpos.line) = true := by rfl) :
    PI X (.Tuple elts kk tpos) (.Call (.Attribute e "items" apos) [] [] cpos) (iItemsMM X.prog X.w td) := by
  refine ⟨fun pins s σ H R I h => ?_⟩
  refine wpAny_Call_method (T := "dict") (id := "dict.items") hbase rfl hline PySem.F.plainAttrs_dict PySem.F.slot_dict_items PySem.F.type_dict_items (thn (he.run pins s σ H _ I h) fun u s1 ⟨x, H1, I1, rx, d, ks, ep, ex, hd, q⟩ => ?_)
  subst ex
  obtain rfl : u = Value.ref d := rx
  obtain ⟨hs, hr⟩ := dm_raw I1 hd
  have hlt : d < s1.heap.objs.size := hr.lt_size
  have noD : ∀ a, Value.ref d = .ref a → ∃ ob, s1.heap.get? a = some ob ∧ ob.dict = none := fun a ea => by
    cases ea
    obtain ⟨ob, hob, hx, _⟩ := hr
    exact ⟨ob, hob, hx.2.1⟩
  refine ⟨hr.typeIs, noD, ?_⟩
  have I2 : Inv X pins σ H1 { s1 with heap := s1.heap.push { cls := .type "dict_items", data := .fields #[.ref d] } } := I1.kept (t' := s1.toks) fun b ob z => Heap.get?_push_of_some _ z
  have fin : wpAny (model X.prog X.w) X.A (pyIter (.ref s1.heap.objs.size)) (PIE X pins σ (.Tuple elts kk tpos) R) X.xe { s1 with heap := s1.heap.push { cls := .type "dict_items", data := .fields #[.ref d] } } := by
    refine wpAny_pyIter_items_raw (d := d) ⟨_, Heap.get?_push_size _ rfl, rfl, rfl⟩ (hr.push _) (pi_one (tk := s1.toks) I2 _ (src_itemsM (Nat.ne_of_lt (Nat.lt_of_lt_of_le hlt (by rw [Heap.size_push]; exact Nat.le_succ _)))).turn ⟨.none, .none, ?_⟩ q)
    rw [ents_size]
    exact Heap.get?_push_size _ rfl
  show wpAny _ _ (callWith cpos (.builtin "dict.items") [.ref d] [] []) _ X.xe s1
  exact method_meetsIn PySem.F.slot_dict_items PySem.F.entry_dict_items rfl (PySem.evalArgs_none ⟨rfl, hr.typeIs, PySem.F.args_dict_items_1 _, _, meets_dict_items_raw d hs, ⟨_, _, hr⟩, fin⟩)
def iEnumT (K : PySem.W.Frag) (ta : TA) : TI := fun σ H R => ta σ H fun vs H1 => ∃ a xs, vs = [.ref a] ∧ SqT K H1 a xs ∧ R (IteT K a xs) H1
end
theorem walk_keysM {P : Program} {w : World} {d : Addr} {ks : List Ent} {ep : Nat} : Walk (ItkM P w d ks ep) ks.length (fun H => H d = some (DMo P w d ks ep)) (fun i H x H' => H' = H ∧ ∃ e, ks[i]? = some e ∧ x = .ref e.2.1) :=
  ⟨fun _ _ hi q => ⟨q, hi⟩, fun _ q => ⟨q, rfl⟩, fun _ _ _ _ _ _ y => y⟩
theorem walk_itemsM {P : Program} {w : World} {d : Addr} {ks : List Ent} {ep : Nat} : Walk (ItiM P w d ks ep) ks.length (fun H => H d = some (DMo P w d ks ep)) (fun i H x H' => ∃ T e, ks[i]? = some e ∧ x = .ref T ∧ H T = none ∧ H' = upd H T (.tup [.ref e.2.1, .ref e.2.2])) :=
  ⟨fun _ _ hi q => ⟨q, hi⟩, fun _ q => ⟨q, rfl⟩, fun _ _ _ _ _ _ y => y⟩
theorem walk_enumT {K : PySem.W.Frag} {a : Addr} {xs : List V} : Walk (IteT K a xs) xs.length (fun H => SqT K H a xs) (YPair (fun i => some (.int (i : Nat))) (fun i => xs[i]?)) :=
  ⟨fun _ _ hi q => ⟨q, hi⟩, fun _ q => ⟨q, rfl⟩, fun i H v H' _ q y => let ⟨T, x, h1, h2, h3, h4⟩ := y; ⟨T, .int (i : Nat), x, h1, h2, h3, rfl, h4⟩⟩
end K15
namespace K15
open PySem PySem.Spec PyProof.Rows L2
set_option maxHeartbeats 4000000 in
theorem meets_enum1 {v : Value} {o : Obj} {S : Heap → Prop} (B : Begins v o S) :
    Meets (Builtin.«enumerate.__new__» ⟨[.type "enumerate", v], []⟩) (fun _ R s => S s.heap ∧
      R (.ok (.ret (.ref (s.heap.push o).objs.size))) { s with heap := (s.heap.push o).push { cls := .type "enumerate", data := .fields #[.none, .bool false, .ref s.heap.objs.size, rawInt 0, .none, .none] } }) :=
  .of_wp fun prog w A R s hh => by
    obtain ⟨hp, g, d, tk, os⟩ := s
    obtain ⟨h1, hR⟩ := hh
    have hsub := sub_enumerate
    have q1 : ∀ {A' : Around} {E : Value → Shared → Prop} {Q : Value → Shared → Prop}, Q (.ref hp.objs.size) ⟨hp.push o, g, d, tk, os⟩ → wpAny (model prog w) A' (pyIter v) Q E ⟨hp, g, d, tk, os⟩ :=
      fun q => B.iter prog w _ _ ⟨hp, g, d, tk, os⟩ _ h1 q
    wp_walk using q1
    refine wpAny_stack_any fun st => wpAny_pure ?_
    split
    · rename_i c _ _ _ _ _
      cases (c == Value.type "enumerate")
      · wp_walk using q1
        exact ⟨_, rfl, hR⟩
      · wp_walk using q1
        exact ⟨_, rfl, hR⟩
    · wp_walk using q1
      exact ⟨_, rfl, hR⟩
theorem call_enum_tup {prog : Program} {w : World} {A : Around} {E : Value → Shared → Prop} {s : Shared} {a : Addr} {items : Array Value} {Q : Value → Shared → Prop} (ht : s.heap.IsTuple a items)
    (h : ∀ h', IsEnum h' (s.heap.objs.size + 1) s.heap.objs.size 0 .none → h'.IsTupleIter s.heap.objs.size a 0 → (∀ b o, s.heap.get? b = some o → h'.get? b = some o) → Q (.ref (s.heap.objs.size + 1)) { s with heap := h' }) :
    wpAny (model prog w) A (call (.type "enumerate") [.ref a]) Q E s := by
  have B := begins_tuple a items
  refine callType_new PySem.F.called_enumerate (by decide) (PySem.F.typeCall_enumerate_1 _) (PySem.F.newCall_enumerate_1 _) (fun obj => PySem.F.args_object_init_2 obj _) PySem.F.entry_enumerate_new (meets_enum1 B) ⟨ht, ?_⟩
  generalize ho : ({ cls := .type "tuple_iterator", data := .fields #[.ref a, .int 0 0] } : Obj) = o
  have hz : (s.heap.push o).objs.size = s.heap.objs.size + 1 := Heap.size_push ..
  show _ ∧ _
  rw [hz]
  have he : IsEnum ((s.heap.push o).push { cls := .type "enumerate", data := .fields #[.none, .bool false, .ref s.heap.objs.size, rawInt 0, .none, .none] }) (s.heap.objs.size + 1) s.heap.objs.size 0 .none := by
    have q := Heap.get?_push_size (s.heap.push o) (o := { cls := .type "enumerate", data := .fields #[.none, .bool false, .ref s.heap.objs.size, rawInt 0, .none, .none] }) rfl
    rw [hz] at q
    exact q
  refine ⟨⟨_, he, rfl⟩, h _ he ⟨o, Heap.get?_push_of_some _ (Heap.get?_push_size _ (by rw [← ho]; rfl)), by rw [← ho], by rw [← ho]; rfl⟩ fun b u x => Heap.get?_push_of_some _ (Heap.get?_push_of_some _ x)⟩
theorem pi_enumT {X : Cx} {e : Expr} {ta : TA} {p pos tpos : Pos} {elts : List Expr} {kk : Nat} (hg : Gl X "enumerate") (hm : X.mg "enumerate" = none) (ha : PA X [e] ta) (hs : starEach [e] X.env = [(false, eval e X.env)] := by rfl) :
    PI X (.Tuple elts kk tpos) (.Call (.Name "enumerate" p) [e] [] pos) (iEnumT X.K ta) := by
  refine ⟨fun pins s σ H R I h => ?_⟩
  refine Call_ (ld_blt I hg hm boot_enumerate (PyProof.Rows.callWith_type1 (thn (ha.run pos pins s σ H _ I h) fun us s1 ⟨vs, H1, I1, r1, q1⟩ => ?_) hs rfl))
  obtain ⟨a, xs, ex, hq, q⟩ := q1
  subst ex
  obtain ⟨u, rfl, ru⟩ := vals1 r1
  cases ru
  obtain ⟨its, rv, ht, hz⟩ := I1.tuple hq
  have hlt : a < s1.heap.objs.size := ht.lt
  refine call_enum_tup (items := its.toArray) ht fun h' he hit hk => wpAny_pyIter_enum he ?_
  have I2 : Inv X pins σ H1 { s1 with heap := h' } := I1.kept (t' := s1.toks) hk
  refine ⟨s1.heap.objs.size + 1, [s1.heap.objs.size + 1, s1.heap.objs.size], _, _, H1, rfl, I2, (src_enumT (xs := xs) (Nat.succ_ne_self _) (Nat.ne_of_gt (Nat.lt_succ_of_lt hlt)) (Nat.ne_of_lt hlt)).turn, ⟨⟨.none, he⟩, hit⟩, fun b hb => ?_, q⟩
  have e' : b = s1.heap.objs.size + 1 ∨ b = s1.heap.objs.size := by simpa using hb
  have hle : s1.heap.objs.size ≤ b := by
    rcases e' with z | z
    · rw [z]; exact Nat.le_succ _
    · rw [z]; exact Nat.le_refl _
  exact I1.fpOk hle (I1.hok.fresh hle)
end K15
set_option autoImplicit false
set_option linter.all false
set_option Elab.async false
set_option maxRecDepth 100000
set_option maxHeartbeats 2000000
/-! Rules of our own, third part: least and sorted of nested tuples. -/
namespace K15
open PySem PySem.Spec PyProof.Rows
/-! ### min over things that the heap tells apart -/
section
variable {prog : Program} {w : World} {A : Around} {R : Result → Shared → Prop} {I : Addr} {fp wr : List Addr} {n : Nat} {P : Nat → Value → Prop} {St : Nat → Heap → Prop}
/-- the comparison of the things at two places, while G holds of the heap -/
def LessBy (prog : Program) (w : World) (A : Around) (G : Heap → Prop) (P : Nat → Value → Prop) (bt : Nat → Nat → Bool) : Prop :=
  ∀ i j vi vj (s : Shared) (Q : Value → Shared → Prop) (E : Value → Shared → Prop), G s.heap → P i vi → P j vj → Q (.bool (bt i j)) s → wpAny (model prog w) A (richCompare .Lt vi vj) Q E s
/-- G outlives the cells of wr and S -/
def Outlives (G : Heap → Prop) (wr : List Addr) (S : Addr) : Prop := ∀ h h' : Heap, G h → (∀ b o, b ∉ wr → b ≠ S → h.get? b = some o → h'.get? b = some o) → G h'
theorem least_loop {G : Heap → Prop} (W : Walks prog w A.in1 I fp wr n P St) (bt : Nat → Nat → Bool) (cm : LessBy prog w A.in1 G P bt) (S : Addr) (hSf : S ∉ fp) (og : Outlives G wr S) :
    ∀ (k j : Nat) (s : Shared) (vb : Value) (c : Nat), n - (j + 1) = k → j + 1 ≤ n → St (j + 1) s.heap → G s.heap → P (argBest bt j) vb →
    s.heap.get? S = some { cls := .type "list", dict := none, data := .seq #[vb, vb] c, slots := #[] } →
    (∀ v h' tk, P (argBest bt (n - 1)) v → (∀ b o, b ∉ wr → b ≠ S → s.heap.get? b = some o → h'.get? b = some o) → R (.ok (.ret v)) { s with heap := h', toks := tk }) →
    codeAny (model prog w) A (.builtin "min.loop" ⟨[.ref I, .none, .ref S], []⟩) R s := by
  have nSw : S ∉ wr := fun z => hSf (W.sub _ z)
  have nm : (toString "min" ++ toString ".loop" : String) = "min.loop" := by decide
  intro k
  induction k with
  | zero =>
    intro j s vb c hk hj st g pb oS fin
    have last : j + 1 = n := by omega
    refine codeAny_builtin PySem.F.entry_min_loop ?_
    rw [Around.under_plainId PySem.F.plain_min_loop _]
    show wpAny _ A.in1 (seqItems? (.ref S) >>= _) _ _ s
    refine wpAny_bind (wpAny_seqItems oS rfl ?_)
    show wpAny _ A.in1 (tryCatch (pyNext (.ref I)) _ >>= _) _ _ s
    refine wpAny_bind (wpAny_tryCatch (W.done s _ _ (last ▸ st) fun h1 tk k1 => ?_))
    have oS1 := k1 S _ nSw oS
    show wpAny _ A.in1 (updateSeq S (fun _ => #[]) >>= _) _ _ _
    refine wpAny_bind (wpAny_updateSeq oS1 rfl (wpAny_bind (wpAny_letGo (wpAny_pure ?_))))
    exact fin vb _ tk (by rw [← last]; exact pb) fun b o n1 n2 e => (Heap.get?_update_other _ _ (Ne.symm n2)).trans (k1 b o n1 e)
  | succ k ih =>
    intro j s vb c hk hj st g pb oS fin
    have more : j + 1 < n := by omega
    refine codeAny_builtin PySem.F.entry_min_loop ?_
    rw [Around.under_plainId PySem.F.plain_min_loop _]
    show wpAny _ A.in1 (seqItems? (.ref S) >>= _) _ _ s
    refine wpAny_bind (wpAny_seqItems oS rfl ?_)
    show wpAny _ A.in1 (tryCatch (pyNext (.ref I)) _ >>= _) _ _ s
    refine wpAny_bind (wpAny_tryCatch (W.item (j + 1) s _ _ more st fun v h1 tk pv st1 k1 => ?_))
    have oS1 := k1 S _ nSw oS
    have g1 : G h1 := og _ _ g fun b o n1 _ e => k1 b o n1 e
    show wpAny _ A.in1 (tryCatch (holding [v, v] (richCompare .Lt v vb >>= _)) _ >>= _) _ _ _
    refine wpAny_bind (wpAny_tryCatch (wpAny_holding (wpAny_bind (cm (j + 1) (argBest bt j) v vb _ _ _ g1 pv pb ?_))))
    refine wpAny_bind (wpAny_holding (wpAny_truthy_bool (wpAny_bind (wpAny_letGo (wpAny_pure ?_)))))
    cases hb : bt (j + 1) (argBest bt j) with
    | true =>
      simp only [if_true]
      refine wpAny_bind (wpAny_updateSeq oS1 rfl (wpAny_bind (wpAny_letGo ?_)))
      rw [nm]
      refine wpAny_pure ⟨plainId_quiet PySem.F.plain_min_loop _, ih (j + 1) _ v _ (by omega) more (W.frame _ _ _ st1 fun b hbf o e => ?_) (og _ _ g1 fun b o _ n2 e => (Heap.get?_update_other _ _ (Ne.symm n2)).trans e) (by simp only [argBest, hb, if_true]; exact pv) (Heap.get?_update_self _ oS1 rfl) fun v2 h2 tk2 p2 k2 => ?_⟩
      · exact (Heap.get?_update_other _ _ (fun z : S = b => hSf (by rw [z]; exact hbf))).trans e
      · exact fin v2 h2 tk2 p2 fun b o n1 n2 e => k2 b o n1 n2 ((Heap.get?_update_other _ _ (Ne.symm n2)).trans (k1 b o n1 e))
    | false =>
      simp only [Bool.false_eq_true, if_false]
      refine wpAny_bind (wpAny_letGo ?_)
      rw [nm]
      refine wpAny_pure ⟨plainId_quiet PySem.F.plain_min_loop _, ih (j + 1) _ vb c (by omega) more st1 g1 (by simp only [argBest, hb, Bool.false_eq_true, if_false]; exact pb) oS1 fun v2 h2 tk2 p2 k2 => ?_⟩
      exact fin v2 h2 tk2 p2 fun b o n1 n2 e => k2 b o n1 n2 (k1 b o n1 e)
theorem least_first {G : Heap → Prop} (W : Walks prog w A.in1 I fp wr n P St) (bt : Nat → Nat → Bool) (cm : LessBy prog w A.in1 G P bt) (S : Addr) (hSf : S ∉ fp) (og : Outlives G wr S) (hn : 0 < n) {s : Shared} {c : Nat} (st : St 0 s.heap) (g : G s.heap)
    (oS : s.heap.get? S = some { cls := .type "list", dict := none, data := .seq #[] c, slots := #[] })
    (fin : ∀ v h' tk, P (argBest bt (n - 1)) v → (∀ b o, b ∉ wr → b ≠ S → s.heap.get? b = some o → h'.get? b = some o) → R (.ok (.ret v)) { s with heap := h', toks := tk }) :
    codeAny (model prog w) A (.builtin "min.loop" ⟨[.ref I, .none, .ref S], []⟩) R s := by
  have nSw : S ∉ wr := fun z => hSf (W.sub _ z)
  have nm : (toString "min" ++ toString ".loop" : String) = "min.loop" := by decide
  refine codeAny_builtin PySem.F.entry_min_loop ?_
  rw [Around.under_plainId PySem.F.plain_min_loop _]
  show wpAny _ A.in1 (seqItems? (.ref S) >>= _) _ _ s
  refine wpAny_bind (wpAny_seqItems oS rfl ?_)
  show wpAny _ A.in1 (tryCatch (pyNext (.ref I)) _ >>= _) _ _ s
  refine wpAny_bind (wpAny_tryCatch (W.item 0 s _ _ hn st fun v h1 tk pv st1 k1 => ?_))
  have oS1 := k1 S _ nSw oS
  have g1 : G h1 := og _ _ g fun b o n1 _ e => k1 b o n1 e
  show wpAny _ A.in1 (updateSeq S (fun _ => #[v, v]) >>= _) _ _ _
  refine wpAny_bind (wpAny_updateSeq oS1 rfl ?_)
  rw [nm]
  refine wpAny_pure ⟨plainId_quiet PySem.F.plain_min_loop _, least_loop W bt cm S hSf og _ 0 _ v _ rfl hn (W.frame _ _ _ st1 fun b hbf o e => ?_) (og _ _ g1 fun b o _ n2 e => (Heap.get?_update_other _ _ (Ne.symm n2)).trans e) pv (Heap.get?_update_self _ oS1 rfl) fun v2 h2 tk2 p2 k2 => ?_⟩
  · exact (Heap.get?_update_other _ _ (fun z : S = b => hSf (by rw [z]; exact hbf))).trans e
  · exact fin v2 h2 tk2 p2 fun b o n1 n2 e => k2 b o n1 n2 ((Heap.get?_update_other _ _ (Ne.symm n2)).trans (k1 b o n1 e))
variable {E : Value → Shared → Prop} {s : Shared}
/-- min(x) -/
theorem call_least {x : Value} {Q : Value → Shared → Prop} {G : Heap → Prop}
    (h : wpAny (model prog w) A.in1 (pyIter x) (fun it s2 => ∃ I fp wr n P St bt, it = .ref I ∧ Walks prog w A.in1 I fp wr n P St ∧ St 0 s2.heap ∧ (∀ b ∈ fp, b < s2.heap.objs.size) ∧ 0 < n ∧ (∀ S, s2.heap.objs.size ≤ S → Outlives G wr S) ∧ G s2.heap ∧ LessBy prog w A.in1 G P bt ∧
      ∀ v h' tk, P (argBest bt (n - 1)) v → (∀ b o, b ∉ wr → s2.heap.get? b = some o → h'.get? b = some o) → Q v { s2 with heap := h', toks := tk }) E s) :
    wpAny (model prog w) A (call (.builtin "min") [x]) Q E s := by
  have nm : (toString "min" ++ toString ".loop" : String) = "min.loop" := by decide
  refine call_function_tree PySem.F.kind_min PySem.F.plain_min PySem.F.entry_min (PySem.F.args_min1 _) ?_
  show wpAny _ A.in1 (Builtin.Builtins.bindParams "min" ["key", "default"] 0 ⟨[], []⟩ >>= _) _ _ s
  refine wpAny_bind (wpAny_of_eq (show Builtin.Builtins.bindParams "min" ["key", "default"] 0 ⟨[], []⟩ = pure [none, none] from rfl) (wpAny_bind (wpAny_pure ?_)))
  refine wpAny_bind (wpAny_mono h (fun it s2 h2 => ?_) fun _ _ e => e)
  obtain ⟨I, fp, wr, n, P, St, bt, rfl, W, st, hfp, hn, og2, g, cm, hQ⟩ := h2
  refine wpAny_bind (wpAny_newObj_type ?_)
  have hSf : s2.heap.objs.size ∉ fp := fun hm => Nat.lt_irrefl _ (hfp _ hm)
  rw [nm]
  have kp : ∀ {o : Obj} b u, s2.heap.get? b = some u → (s2.heap.push o).get? b = some u := fun b u e => Heap.get?_push_of_some _ e
  refine wpAny_pure ⟨plainId_quiet PySem.F.plain_min_loop _, least_first W bt cm s2.heap.objs.size hSf (og2 _ (Nat.le_refl _)) hn (W.frame _ _ _ st fun b _ o e => kp b o e) (og2 _ (Nat.le_refl _) _ _ g fun b o _ _ e => kp b o e) (Heap.get?_push_size _ rfl) fun v h' tk hP hk => ?_⟩
  exact hQ v h' tk hP fun b o hbw e => hk b o hbw (Nat.ne_of_lt (Heap.lt_size e)) (kp b o e)
/-- min(a, b) -/
theorem call_least2 {a b : Value} {Q : Value → Shared → Prop} {G : Heap → Prop}
    (h : wpAny (model prog w) A.in1 (pyIter (.ref s.heap.objs.size)) (fun it s2 => ∃ I fp wr n P St bt, it = .ref I ∧ Walks prog w A.in1 I fp wr n P St ∧ St 0 s2.heap ∧ (∀ b ∈ fp, b < s2.heap.objs.size) ∧ 0 < n ∧ (∀ S, s2.heap.objs.size ≤ S → Outlives G wr S) ∧ G s2.heap ∧ LessBy prog w A.in1 G P bt ∧
      ∀ v h' tk, P (argBest bt (n - 1)) v → (∀ b o, b ∉ wr → s2.heap.get? b = some o → h'.get? b = some o) → Q v { s2 with heap := h', toks := tk }) E
      { s with heap := s.heap.push { cls := .type "tuple", data := .seq #[a, b] } }) :
    wpAny (model prog w) A (call (.builtin "min") [a, b]) Q E s := by
  have nm : (toString "min" ++ toString ".loop" : String) = "min.loop" := by decide
  refine call_function_tree PySem.F.kind_min PySem.F.plain_min PySem.F.entry_min (PySem.F.args_min2 _ _) ?_
  show wpAny _ A.in1 (Builtin.Builtins.bindParams "min" ["key", "default"] 0 ⟨[], []⟩ >>= _) _ _ s
  refine wpAny_bind (wpAny_of_eq (show Builtin.Builtins.bindParams "min" ["key", "default"] 0 ⟨[], []⟩ = pure [none, none] from rfl) ?_)
  show wpAny _ A.in1 (newTuple [a, b] >>= _) _ _ s
  refine wpAny_bind (wpAny_newObj_type (wpAny_bind (wpAny_mono h (fun it s2 h2 => ?_) fun _ _ e => e)))
  obtain ⟨I, fp, wr, n, P, St, bt, rfl, W, st, hfp, hn, og2, g, cm, hQ⟩ := h2
  refine wpAny_bind (wpAny_newObj_type ?_)
  have hSf : s2.heap.objs.size ∉ fp := fun hm => Nat.lt_irrefl _ (hfp _ hm)
  rw [nm]
  have kp : ∀ {o : Obj} b u, s2.heap.get? b = some u → (s2.heap.push o).get? b = some u := fun b u e => Heap.get?_push_of_some _ e
  refine wpAny_pure ⟨plainId_quiet PySem.F.plain_min_loop _, least_first W bt cm s2.heap.objs.size hSf (og2 _ (Nat.le_refl _)) hn (W.frame _ _ _ st fun b _ o e => kp b o e) (og2 _ (Nat.le_refl _) _ _ g fun b o _ _ e => kp b o e) (Heap.get?_push_size _ rfl) fun v h' tk hP hk => ?_⟩
  exact hQ v h' tk hP fun b o hbw e => hk b o hbw (Nat.ne_of_lt (Heap.lt_size e)) (kp b o e)
end
end K15
set_option autoImplicit false
set_option linter.all false
set_option Elab.async false
set_option maxRecDepth 100000
set_option maxHeartbeats 2000000
/-! Rules of our own: all(..) of generator expressions whose element calls a def. -/
namespace K15
open PySem PySem.Spec PyProof.Rows L2
/-! ### the program's text -/
def top (i : Nat) : Stmt := PySem.Challenge.pw_holestore_k15_whole_benches.main.body.getD i (.Pass ⟨0, 0, 0, 0⟩)
abbrev sIsNum : Stmt := top 11
/-! ### a pure piece of code in a frame of which little is known -/
/-- of h1 all is kept but P -/
def KpB (h1 : Heap) (P : Addr) (h : Heap) : Prop := ∀ b o, b ≠ P → h1.get? b = some o → h.get? b = some o
def IsI (n : Int) (v : Value) : Prop := ∃ t, v = .int n t
/-- e gives a value of which R holds; all is kept -/
def EvR (prog : Program) (w : World) (h1 : Heap) (P : Addr) (D : Nat) (env : Env) (m : Str → Option Value) (e : Expr) (R : Value → Prop) : Prop :=
  ∀ (A : Around) (E : Value → Shared → Prop) (s : Shared) (Q : Value → Shared → Prop), A.handled = none → A.depth ≤ D → KpB h1 P s.heap → s.heap.Ns env.locals m → (∀ v s', R v → Keeps s s' → Q v s') → wpAny (model prog w) A (eval e env) Q E s
theorem k_tr {a b c : Shared} (x : Keeps a b) (y : Keeps b c) : Keeps a c := by
  obtain ⟨h1, t1, rfl, k1⟩ := x
  obtain ⟨h2, t2, rfl, k2⟩ := y
  exact ⟨h2, t2, rfl, fun b o e => k2 b o (k1 b o e)⟩
theorem k_kp {a b : Shared} {h1 : Heap} {P : Addr} (x : Keeps a b) (k : KpB h1 P a.heap) : KpB h1 P b.heap := by
  obtain ⟨h2, t2, rfl, k2⟩ := x
  exact fun b o n e => k2 b o (k b o n e)
theorem k_ns {a b : Shared} {L : Addr} {m : Str → Option Value} (x : Keeps a b) (n : a.heap.Ns L m) : b.heap.Ns L m := by
  obtain ⟨h2, t2, rfl, k2⟩ := x
  exact n.keeps k2
section
variable {prog : Program} {w : World} {h1 : Heap} {P : Addr} {D : Nat} {env : Env} {m : Str → Option Value}
theorem ev_int {n : Int} {j : Nat} {pos : Pos} : EvR prog w h1 P D env m (.Constant (.int n) j pos) (IsI n) := fun A E s Q _ _ _ _ h =>
  wpAny_Constant_int (h _ _ ⟨_, rfl⟩ (GxR.keeps_tok s _))
theorem ev_loc {x : Str} {v : Value} {pos : Pos} (hk : env.scope.kind = .function) (hl : env.kindOf x = some .local) (hm : m x = some v) (hd : (x == ("__debug__" : Str)) = false := by decide) : EvR prog w h1 P D env m (.Name x pos) (fun u => u = v) := fun A E s Q _ _ _ hn h =>
  wpAny_Name (wpAny_loadName_local hk hl hn hm (h _ _ rfl (GxR.keeps_refl s))) hd
theorem ev_free {x : Str} {v : Value} {c : Addr} {pos : Pos} (hk : env.scope.kind = .function) (hl : env.kindOf x = some .free) (hc : env.cells.lookup x = some c) (hv : h1.IsCell c (some v)) (hP : c ≠ P) (hd : (x == ("__debug__" : Str)) = false := by decide)
    (hn : (x == ("__classdict__" : Str)) = false := by decide) : EvR prog w h1 P D env m (.Name x pos) (fun u => u = v) := fun A E s Q _ _ kp hn' h => by
  obtain ⟨o, ho, r⟩ := hv
  exact wpAny_Name (wpAny_loadName_free hk hl hc ⟨o, kp _ _ hP ho, r⟩ (h _ _ rfl (GxR.keeps_refl s)) hn) hd
theorem ev_sub {a b : Expr} {i j : Int} {pos : Pos} (ha : EvR prog w h1 P D env m a (IsI i)) (hb : EvR prog w h1 P D env m b (IsI j)) : EvR prog w h1 P D env m (.BinOp a .Sub b pos) (IsI (i - j)) := fun A E s Q hh hD kp hn h => by
  refine wpAny_BinOp (ha A E s _ hh hD kp hn fun v s1 ⟨t, ev⟩ k1 => hb A E s1 _ hh hD (k_kp k1 kp) (k_ns k1 hn) fun u s2 ⟨t', eu⟩ k2 => ?_)
  subst ev eu
  exact PySem.P.sub_int (h _ _ ⟨_, rfl⟩ (k_tr (k_tr k1 k2) (GxR.keeps_tok s2 _)))
/-- t[k], t a tuple -/
theorem ev_ix {a b : Expr} {T : Addr} {its : Array Value} {k : Nat} {x : Value} {pos : Pos} (ha : EvR prog w h1 P D env m a (fun u => u = .ref T)) (hb : EvR prog w h1 P D env m b (IsI k)) (hT : h1.IsTuple T its) (hP : T ≠ P) (hx : its[k]? = some x) (hs : its.size ≤ sizeLine) (hpl : PlainIx b) :
    EvR prog w h1 P D env m (.Subscript a b pos) (fun u => u = x) := fun A E s Q hh hD kp hn h => by
  refine Subscript_ (ha A E s _ hh hD kp hn fun v s1 ev k1 => hb A E s1 _ hh hD (k_kp k1 kp) (k_ns k1 hn) fun u s2 ⟨t', eu⟩ k2 => ?_)
  subst ev eu
  have k12 := k_tr k1 k2
  have hT2 : s2.heap.IsTuple T its := let ⟨o, ho, r⟩ := hT; ⟨o, k_kp k12 kp _ _ hP ho, r⟩
  have hl : k < its.size := by
    rcases Nat.lt_or_ge k its.size with q | q
    · exact q
    · rw [Array.getElem?_eq_none q] at hx; cases hx
  have hn := line63
  refine subscriptTail_builtinR (x := x) (T := "tuple") (let ⟨o, ho, r⟩ := hT2; ⟨o, ho, r.1⟩) slot_tuple_getitem.lookup
    (getItem_tuple (j := k) (Q := fun r s' => r = x ∧ Q r s') hT2 (by omega) (by omega) ?_ hx ⟨rfl, h _ _ rfl k12⟩) (hpl _ _)
  rw [seqIndex_of (by omega) (by omega)]
  rfl
/-- len(xs), xs a list -/
theorem ev_len {a : Expr} {p pos : Pos} {T : Addr} {its : Array Value} {mg : Str → Option Value} {K : PySem.W.Frag} {base : Heap} (M : Mod K mg base) (bk : ∀ b o, base.get? b = some o → h1.get? b = some o ∧ b ≠ P) (hgl : env.globals = mainGlobals) (hbl : env.builtins = builtinsNs)
    (hk : env.scope.kind = .function) (hx : env.kindOf "len" = some .globalImplicit) (hm : mg "len" = none) (ha : EvR prog w h1 P D env m a (fun u => u = .ref T)) (hT : h1.IsList T its) (hP : T ≠ P) (hs : its.size ≤ sizeLine)
    (he : starEach [a] env = (false, eval a env) :: starEach [] env := by rfl) :
    EvR prog w h1 P D env m (.Call (.Name "len" p) [a] [] pos) (IsI its.size) := fun A E s Q hh hD kp hn h => by
  obtain ⟨mb, b1, b2⟩ := M.blt
  refine wpAny_Call_Name_kw (Calls.Name_function_global hk hx (Calls.loadGlobal_builtin (mg := mg) (by rw [hgl]; exact M.glob.keeps fun b o e => kp b o (bk b o e).2 (bk b o e).1) hm (by rw [hbl]; exact b1.keeps fun b o e => kp b o (bk b o e).2 (bk b o e).1) ((b2 "len" (by decide)).trans boot_len) ?_) (by decide))
  refine PyProof.Rows.callWith_builtin1 ?_ he (by rfl)
  rw [he]
  refine Calls.spliced_cons (ha A E s _ hh hD kp hn fun v s1 ev k1 => Calls.spliced_nil ?_)
  subst ev
  have hT2 : s1.heap.IsList T its := let ⟨o, ho, r⟩ := hT; ⟨o, k_kp k1 kp _ _ hP ho, r⟩
  have hn63 := line63
  exact Calls.call_len_list hT2 (by omega) (h _ _ ⟨_, rfl⟩ (k_tr k1 (GxR.keeps_tok s1 _)))

/-- what is kept of the base under h1 -/
structure Bs (h1 : Heap) (P : Addr) (K : PySem.W.Frag) (mg : Str → Option Value) (base : Heap) : Prop where
  mod : Mod K mg base
  bk : ∀ b o, base.get? b = some o → h1.get? b = some o ∧ b ≠ P
theorem Bs.up {h1 h : Heap} {P : Addr} {K : PySem.W.Frag} {mg : Str → Option Value} {base : Heap} (B : Bs h1 P K mg base) (kp : KpB h1 P h) : ∀ b o, base.get? b = some o → h.get? b = some o := fun b o e => kp b o (B.bk b o e).2 (B.bk b o e).1
/-- isinstance(x, T) of a whole number: T is int, or bool -/
theorem ev_isi {x T : Str} {Tn : String} {c : Bool} {p q1 q2 pos : Pos} {n : Int} {t : Tok} {mg : Str → Option Value} {K : PySem.W.Frag} {base : Heap} (B : Bs h1 P K mg base) (hgl : env.globals = mainGlobals) (hbl : env.builtins = builtinsNs)
    (hk : env.scope.kind = .function) (hi : env.kindOf "isinstance" = some .globalImplicit) (mi : mg "isinstance" = none) (hT : env.kindOf T = some .globalImplicit) (mT : mg T = none) (bT : bootBuiltins T = some (.type Tn)) (nT : T ≠ "__name__") (dT : (T == ("__debug__" : Str)) = false)
    (hl : env.kindOf x = some .local) (hm : m x = some (.int n t)) (hd : (x == ("__debug__" : Str)) = false)
    (isi : ∀ (A : Around) (E : Value → Shared → Prop) (s : Shared) (Q : Value → Shared → Prop), (∀ s', Keeps s s' → Q (.bool c) s') → wpAny (model prog w) A (call (.builtin "isinstance") [.int n t, .type Tn]) Q E s) :
    EvR prog w h1 P D env m (.Call (.Name "isinstance" p) [.Name x q1, .Name T q2] [] pos) (fun u => u = .bool c) := fun A E s Q hh hD kp hn h => by
  obtain ⟨mb, b1, b2⟩ := B.mod.blt
  refine wpAny_Call_Name_kw (Calls.Name_function_global hk hi (Calls.loadGlobal_builtin (mg := mg) (by rw [hgl]; exact B.mod.glob.keeps (B.up kp)) mi (by rw [hbl]; exact b1.keeps (B.up kp)) ((b2 "isinstance" (by decide)).trans PyProof.Rows.boot_isinstance) ?_) (by decide))
  refine PyProof.Rows.callWith_builtin1 ?_ (by rfl) (by rfl)
  show wpAny _ _ (spliced ((false, eval (.Name x q1) env) :: (false, eval (.Name T q2) env) :: [])) _ _ s
  refine Calls.spliced_cons (wpAny_Name (wpAny_loadName_local hk hl hn hm ?_) hd)
  refine Calls.spliced_cons (Calls.Name_function_global hk hT (Calls.loadGlobal_builtin (mg := mg) (by rw [hgl]; exact B.mod.glob.keeps (B.up kp)) mT (by rw [hbl]; exact b1.keeps (B.up kp)) ((b2 T nT).trans bT) ?_) dT)
  refine Calls.spliced_nil ?_
  exact isi _ _ _ _ fun s' k => h _ _ rfl k
theorem ev_and {a b : Expr} {es : List Expr} {pos : Pos} {R : Value → Prop} (ha : EvR prog w h1 P D env m a (fun u => u = .bool true)) (hb : EvR prog w h1 P D env m (.BoolOp .And (b :: es) pos) R) : EvR prog w h1 P D env m (.BoolOp .And (a :: b :: es) pos) R := fun A E s Q hh hD kp hn h => by
  refine BoolOp_and (ha A E s _ hh hD kp hn fun v s1 ev k1 => ?_)
  subst ev
  refine wpAny_truthy_bool ?_
  show wpAny _ _ _ _ _ s1
  exact hb A E s1 _ hh hD (k_kp k1 kp) (k_ns k1 hn) fun u s2 hr k2 => h u s2 hr (k_tr k1 k2)
theorem ev_one {a : Expr} {pos : Pos} {op : BoolOp} {R : Value → Prop} (ha : EvR prog w h1 P D env m a R) : EvR prog w h1 P D env m (.BoolOp op [a] pos) R := fun A E s Q hh hD kp hn h => BoolOp_one (ha A E s Q hh hD kp hn h)
theorem ev_not {a : Expr} {pos : Pos} {c : Bool} (ha : EvR prog w h1 P D env m a (fun u => u = .bool c)) : EvR prog w h1 P D env m (.UnaryOp .Not a pos) (fun u => u = .bool (!c)) := fun A E s Q hh hD kp hn h => by
  refine UnaryOp_ (ha A E s _ hh hD kp hn fun v s1 ev k1 => ?_)
  subst ev
  exact not_of (wpAny_truthy_bool (h _ _ rfl k1))
/-- a <= b <= c -/
theorem ev_le2 {a b c : Expr} {i j k : Int} {pos : Pos} (ha : EvR prog w h1 P D env m a (IsI i)) (hb : EvR prog w h1 P D env m b (IsI j)) (hc : EvR prog w h1 P D env m c (IsI k))
    (hm : lastMarks [.LtE, .LtE] [b, c] = false := by with_unfolding_all rfl) : EvR prog w h1 P D env m (.Compare a [.LtE, .LtE] [b, c] pos) (fun u => u = .bool (decide (i ≤ j ∧ j ≤ k))) := fun A E s Q hh hD kp hn h => by
  refine Compare_chain (ha A E s _ hh hD kp hn fun v s1 ⟨t1, ev⟩ k1 => chain_link (hb A E s1 _ hh hD (k_kp k1 kp) (k_ns k1 hn) fun u s2 ⟨t2, eu⟩ k2 => ?_)) hm
  subst ev eu
  have k12 := k_tr k1 k2
  refine PySem.P.le_int (wpAny_truthy_bool ?_)
  by_cases q : i ≤ j
  · rw [decide_eq_true q]
    show wpAny _ _ _ _ _ s2
    refine chain_last (hc A E s2 _ hh hD (k_kp k12 kp) (k_ns k12 hn) fun z s3 ⟨t3, ez⟩ k3 => ?_)
    subst ez
    refine PySem.P.le_int (h _ _ ?_ (k_tr k12 k3))
    by_cases q2 : j ≤ k
    · rw [decide_eq_true q2, decide_eq_true ⟨q, q2⟩]
    · rw [decide_eq_false q2, decide_eq_false fun z => q2 z.2]
  · rw [decide_eq_false q]
    show Q _ s2
    exact h _ _ (by rw [decide_eq_false fun z => q z.1]) k12
end
/-! ### is_number, called in such a frame -/
structure TN (mg : Str → Option Value) (f : Addr) : Prop where
  mgf : mg "is_number" = some (.ref f)
  mi : mg "isinstance" = none
  mint : mg "int" = none
  mbool : mg "bool" = none
def isE (a : Stmt) : Option Expr := match a with
  | .Return (some e) _ => some e
  | _ => none
section
variable {prog : Program} {w : World} {h1 : Heap} {P : Addr} {D : Nat} {env : Env} {m : Str → Option Value} {K : PySem.W.Frag} {mg : Str → Option Value} {base : Heap}
theorem isnum_body {f L : Addr} {fd : FuncData} {n lo hi : Int} {t1 t2 t3 : Tok} (B : Bs h1 P K mg base) (T : TN mg f) (hsc : fd.scope = defScope sIsNum) (hgl : (callEnv fd L f).globals = mainGlobals) (hbl : (callEnv fd L f).builtins = builtinsNs)
    (h0 : m "value" = some (.int n t1)) (h2 : m "low" = some (.int lo t2)) (h3 : m "high" = some (.int hi t3)) :
    ∃ e pos, defBody sIsNum = [.Return (some e) pos] ∧ EvR prog w h1 P D (callEnv fd L f) m e (fun u => u = .bool (decide (lo ≤ n ∧ n ≤ hi))) := by
  have hk : (callEnv fd L f).scope.kind = .function := by show fd.scope.kind = _; rw [hsc]; rfl
  have kd : ∀ x k, (defScope sIsNum).names.lookup x = some k → (callEnv fd L f).kindOf x = some k := fun x k e => by show fd.scope.names.lookup x = _; rw [hsc]; exact e
  refine ⟨_, _, rfl, ?_⟩
  refine ev_and (ev_isi (c := true) (Tn := "int") B hgl hbl hk (kd _ _ (by decide +kernel)) T.mi (kd _ _ (by decide +kernel)) T.mint PyProof.Rows.boot_int (by decide) (by decide) (kd _ _ (by decide +kernel)) h0 (by decide) (fun A E s Q h => PySem.IsiPair.int_int (h _ (GxR.keeps_refl s))))
    (ev_and (ev_not (c := false) (ev_isi (Tn := "bool") B hgl hbl hk (kd _ _ (by decide +kernel)) T.mi (kd _ _ (by decide +kernel)) T.mbool PyProof.Rows.boot_bool (by decide) (by decide) (kd _ _ (by decide +kernel)) h0 (by decide) (fun A E s Q h => PySem.IsiPair.int_bool (h _ (GxR.keeps_tok s _)))))
      (ev_one (ev_le2 ?_ ?_ ?_)))
  · exact fun A E s Q hh hD kp hn h => ev_loc hk (kd _ _ (by decide +kernel)) h2 (by decide) A E s Q hh hD kp hn fun v s' ev => h v s' ⟨_, ev⟩
  · exact fun A E s Q hh hD kp hn h => ev_loc hk (kd _ _ (by decide +kernel)) h0 (by decide) A E s Q hh hD kp hn fun v s' ev => h v s' ⟨_, ev⟩
  · exact fun A E s Q hh hD kp hn h => ev_loc hk (kd _ _ (by decide +kernel)) h3 (by decide) A E s Q hh hD kp hn fun v s' ev => h v s' ⟨_, ev⟩
theorem ev_isnum {f : Addr} {fd : FuncData} {a b c : Expr} {n lo hi : Int} {p pos : Pos} (B : Bs h1 P K mg base) (T : TN mg f) (F : Fun K "is_number" "is_number" sIsNum f fd) (bb : L2.Binds K fd ["value", "low", "high"] []) (hgl : env.globals = mainGlobals) (hD : D < recursionLimit)
    (hk : env.scope.kind = .function) (hx : env.kindOf "is_number" = some .globalImplicit) (ha : EvR prog w h1 P D env m a (IsI n)) (hb : EvR prog w h1 P D env m b (IsI lo)) (hc : EvR prog w h1 P D env m c (IsI hi))
    (hs : starEach [a, b, c] env = (false, eval a env) :: starEach [b, c] env := by rfl) (hs2 : starEach [b, c] env = [(false, eval b env), (false, eval c env)] := by rfl) :
    EvR prog w h1 P D env m (.Call (.Name "is_number" p) [a, b, c] [] pos) (fun u => u = .bool (decide (lo ≤ n ∧ n ≤ hi))) := fun A E s Q hh hdp kp hn h => by
  refine wpAny_Call_Name_kw (Calls.Name_function_global hk hx (Calls.loadGlobal_global (mg := mg) (by rw [hgl]; exact B.mod.glob.keeps (B.up kp)) T.mgf ?_) (by decide))
  refine PySem.W.callWith_K (h₀ := base) B.mod.kin F.kp ?_ hs (by rw [hs2]; rfl)
  rw [hs, hs2]
  show wpAny _ _ (spliced ((false, eval a env) :: (false, eval b env) :: (false, eval c env) :: [])) _ _ s
  refine Calls.spliced_cons (ha A E s _ hh hdp kp hn fun v1 s1 ⟨t1, e1⟩ k1 => Calls.spliced_cons (hb A E s1 _ hh hdp (k_kp k1 kp) (k_ns k1 hn) fun v2 s2 ⟨t2, e2⟩ k2 => Calls.spliced_cons (hc A E s2 _ hh hdp (k_kp k2 (k_kp k1 kp)) (k_ns k2 (k_ns k1 hn)) fun v3 s3 ⟨t3, e3⟩ k3 => Calls.spliced_nil ?_)))
  subst e1 e2 e3
  have k123 := k_tr (k_tr k1 k2) k3
  have kp3 := k_kp k123 kp
  have X3 : K.In s3.heap := B.mod.kin.keeps (B.up kp3)
  refine ⟨X3, ?_⟩
  have bd := bb s3 [.int n t1, .int lo t2, .int hi t3] X3 rfl
  obtain ⟨oc, od, kV, doc, pm, an, cdv, ct, osl, rfl, lk, hcd⟩ := F.ex
  refine wpAny_call (PySem.codeAny_call_def (by omega) (X3 _ _ lk) rfl (B.mod.nolimit.keeps (B.up kp3)) (PySem.W.codeRec_of X3 hcd) rfl bd (by show ∀ x ∈ (defScope sIsNum).names, _; decide +kernel) (fun x hx => by
    have hz : (x.1 = "value" ∨ x.1 = "low") ∨ x.1 = "high" := by
      rcases List.mem_cons.mp hx with z | z
      · exact .inl (.inl (by rw [z]))
      · rcases List.mem_cons.mp z with z | z
        · exact .inl (.inr (by rw [z]))
        · rcases List.mem_cons.mp z with z | z
          · exact .inr (by rw [z])
          · cases z
    show (defScope sIsNum).names.lookup x.1 = _
    rcases hz with (z | z) | z <;> rw [z] <;> decide +kernel) (fun h0 hns hk0 => ?_) rfl rfl rfl)
  have kp4 : KpB h1 P h0 := fun b o n e => hk0 b o (kp3 b o n e)
  obtain ⟨e, pos', eb, hev⟩ := isnum_body (prog := prog) (w := w) (D := D + 1) (L := s3.heap.objs.size) (m := fun x => ([("value", Value.int n t1), ("low", Value.int lo t2), ("high", Value.int hi t3)] : List (Str × Value)).reverse.lookup x) (lo := lo) (hi := hi) (n := n) (t1 := t1) (t2 := t2) (t3 := t3) (fd := PySem.W.fnOf "is_number" "is_number" (defArgs sIsNum) (defBody sIsNum) (defScope sIsNum) .none kV doc pm an cdv ct) B T rfl rfl rfl rfl rfl rfl
  rw [eb]
  refine wpAny_execs_cons (wpAny_Return_some (hev _ _ _ _ hh (Nat.succ_le_succ hdp) kp4 hns fun v s5 ev k5 => ?_))
  subst ev
  obtain ⟨h5, tk5, rfl, k5⟩ := k5
  exact h _ _ rfl (k_tr k123 ⟨h5, tk5, rfl, fun b o e => k5 b o (hk0 b o e)⟩)
end
end K15
set_option autoImplicit false
set_option linter.all false
set_option Elab.async false
set_option maxRecDepth 100000
set_option maxHeartbeats 2000000
/-! Rules of our own: all(..) of generator expressions over lists and tuples. -/
namespace K15
open PySem PySem.Spec PyProof.Rows L2
/-- a list or a tuple -/
def SqA (K : PySem.W.Frag) (H : Hp) (a : Addr) (xs : List V) : Prop := SqL K H a xs ∨ SqT K H a xs
/-- the object behind it -/
def IsSq (h : Heap) (a : Addr) (its : Array Value) : Prop := h.IsList a its ∨ h.IsTuple a its
section
variable {X : Cx} {pins : List (Addr × Obj)} {σ : L2.St} {H : Hp} {s : Shared}
theorem sqA_at (I : Inv X pins σ H s) {a : Addr} {xs : List V} (h : SqA X.K H a xs) : ∃ its : List Value, Vals xs its ∧ IsSq s.heap a its.toArray ∧ its.length ≤ sizeLine := by
  rcases h with h | h
  · obtain ⟨its, r, pl, hz⟩ := I.list h
    exact ⟨its, r, .inl pl.isList, r.length ▸ hz⟩
  · obtain ⟨its, r, pl, hz⟩ := I.tuple h
    exact ⟨its, r, .inr pl, r.length ▸ hz⟩
/-- its iterator -/
theorem sq_iter {prog : Program} {w : World} {A : Around} {E : Value → Shared → Prop} {Q : Value → Shared → Prop} {a : Addr} {its : Array Value} (hs : IsSq s.heap a its)
    (h : ∀ (o : Obj) (St : Nat → Heap → Prop), (∀ A' : Around, A'.handled = none → Walks prog w A' s.heap.objs.size [s.heap.objs.size, a] [s.heap.objs.size] its.size (fun i v => its[i]? = some v) St) → St 0 (s.heap.push o) → Q (.ref s.heap.objs.size) { s with heap := s.heap.push o }) :
    wpAny (model prog w) A (pyIter (.ref a)) Q E s := by
  rcases hs with hl | hl
  · have hlt : a < s.heap.objs.size := by obtain ⟨_, e, _⟩ := hl; exact Heap.lt_size e
    exact wpAny_pyIter_list hl (h _ _ (fun A' hA => Walks.list hA _ _ (Nat.ne_of_lt hlt) its) ⟨⟨_, Heap.get?_push_size _ rfl, rfl, rfl⟩, hl.push _⟩)
  · have hlt : a < s.heap.objs.size := by obtain ⟨_, e, _⟩ := hl; exact Heap.lt_size e
    exact wpAny_pyIter_tuple hl (h _ _ (fun A' hA => Walks.tuple hA _ _ (Nat.ne_of_lt hlt) its) ⟨⟨_, Heap.get?_push_size _ rfl, rfl, rfl⟩, hl.push _⟩)
/-- the generator g, ready to be walked -/
def ReadyN (X : Cx) (pins : List (Addr × Obj)) (σ : L2.St) (H1 : Hp) (P : Addr) (n : Nat) (tr : Nat → Bool) (g : Addr) (s5 : Shared) : Prop :=
  ∃ (fp wr : List Addr) (G : Array GenState → Array GenState → Prop) (F : Nat → Value → Prop) (St : Nat → Shared → Prop),
    WalksS X.prog X.w X.A.in1 g fp wr G n F St ∧ St 0 s5 ∧ TruthOf X.prog X.w X.A.in1 F tr ∧ ∀ s', Moved wr G s5 s' → ∃ H2, GxR.Tabbed P H1 H2 ∧ Inv X pins σ H2 s'
/-- the element's answer at the i-th item -/
def EltS (X : Cx) (P : Addr) (s1 : Shared) (scope : Scope) (x : Str) (elt : Expr) (us : List Value) (tr : Nat → Bool) : Prop :=
  ∀ (C : Addr) (code : Value) (m : Str → Option Value) (i : Nat) (v : Value), us[i]? = some v → m x = some v →
    EvR X.prog X.w s1.heap P (X.A.depth + 1) (genEnv scope (cloFrom X.env.cells scope.names []) C code builtinsNs X.env) m elt (fun u => u = .bool (tr i))
theorem gen_sq {c P : Addr} {elt iter : Expr} {x : Str} {px gpos : Pos} {scope : Scope} {te : TE} {k : Nat} {Q' : Value → Shared → Prop} {R : Addr → List V → (Nat → Bool) → Hp → Prop}
    (hr : Room k X.A) (TB : GxR.TabB X.base X.mg c P) (hcode : X.env.code = .ref c) (S : GxR.GenS X.env scope x) (hi : PE X iter te)
    (hs : ∀ v, genFold iter X.env v = pure v) (I : Inv X pins σ H s)
    (h : te σ H fun v H1 => ∃ (a : Addr) (xs : List V) (tr : Nat → Bool), v = .ref a ∧ SqA X.K H1 a xs ∧ GxR.TabG H1 P ∧ (∀ (pins : List (Addr × Obj)) (s1 : Shared) (us : List Value), Inv X pins σ H1 s1 → Vals xs us → EltS X P s1 scope x elt us tr) ∧ R a xs tr H1)
    (hQ : ∀ a xs tr H1 g s5, R a xs tr H1 → ReadyN X pins σ H1 P xs.length tr g s5 → Q' (.ref g) s5) :
    wpAny (model X.prog X.w) X.A (eval (.GeneratorExp elt [⟨.Name x px, iter, [], 0⟩] scope gpos) X.env) Q' X.xe s := by
  refine wpAny_GeneratorExp_walksQD hr.hd S.co (closure_ok S.free) S.cell S.dot S.loc S.kind (by have := hr.dp; omega) ?_ hs
  refine thn (hi.run pins s σ H _ I h) fun xv s1 ⟨v, H1, I1, r1, q1⟩ => ?_
  obtain ⟨a, xs, tr, rfl, hsq, ⟨ps, hP, ht⟩, hel, q1⟩ := q1
  obtain rfl : xv = Value.ref a := r1
  obtain ⟨us, rv, hsq1, hlen⟩ := sqA_at I1 hsq
  refine sq_iter hsq1 fun o St W hst => ?_
  have hPs : s1.heap.get? P = some { cls := .none, data := .fields ps } := I1.hok P _ hP
  have hPlt : P < s1.heap.objs.size := Heap.lt_size hPs
  have halt : a < s1.heap.objs.size := by rcases hsq1 with ⟨_, e, _⟩ | ⟨_, e, _⟩ <;> exact Heap.lt_size e
  have haP : a ≠ P := fun z => by
    rcases hsq1 with ⟨o', e, c1, _⟩ | ⟨o', e, c1, _⟩ <;> rw [z, hPs] at e <;> cases e <;> exact absurd c1 (by simp)
  have hP2 : (s1.heap.push o).get? P = some { cls := .none, data := .fields ps } := Heap.get?_push_of_some _ hPs
  have cd : PySem.W.CodeHd (s1.heap.push o) c P := TB.code.keeps fun b u e => Heap.get?_push_of_some _ (I1.bk b u e)
  have lim2 : (s1.heap.push o).NoLimit := I1.nolimit.push o
  have cont : ∀ (code : Value) (h3 : Heap) (tk : Nat) (ps' : Array Value), Heap.ExtBut P (s1.heap.push o) h3 → (s1.heap.push o).objs.size ≤ h3.objs.size → h3.get? P = some { cls := .none, data := .fields ps' } → (∃ more, ps' = ps ++ more) → TriplesOk ps'.toList →
      wpAny (model X.prog X.w) X.A (builtinsFor X.env.globals X.env.builtins) (fun bi s₄ =>
        ∃ Ia fp wr n₀ Pf St₀ pz F, Value.ref s1.heap.objs.size = .ref Ia ∧ (∀ A' : Around, A'.handled = none → Walks X.prog X.w A' Ia fp wr n₀ Pf St₀) ∧ St₀ 0 s₄.heap ∧ (∀ b ∈ fp, b < s₄.heap.objs.size) ∧ s₄.heap.NoLimit ∧ cStatics ∉ wr ∧
          (∀ href : Heap, (∀ b o, s₄.heap.get? b = some o → href.get? b = some o) →
            QuietGenD X.prog X.w (genEnv scope (cloFrom X.env.cells scope.names []) s₄.heap.objs.size code bi X.env) x [] elt (List.range s₄.heap.objs.size) wr Pf pz F href (X.A.depth + 1) (X.A.units + 8)) ∧
          (∀ a h₅ tk gs, gs.bare = true → s₄.heap.objs.size < a → h₅.objs.size = a + 1 → (∀ b o, s₄.heap.get? b = some o → h₅.get? b = some o) →
            WalksS X.prog X.w X.A.in4 a (a :: s₄.heap.objs.size :: List.range s₄.heap.objs.size) (s₄.heap.objs.size :: wr) (GenOnlyQ s₄.gens.size) (passing pz n₀ 0).length
              (fun j y => ∃ i, (passing pz n₀ 0)[j]? = some i ∧ F i y) (GenAt X.prog X.w X.A.in4 a s₄.gens.size s₄.heap.objs.size (List.range s₄.heap.objs.size) wr pz n₀ F) →
            GenAt X.prog X.w X.A.in4 a s₄.gens.size s₄.heap.objs.size (List.range s₄.heap.objs.size) wr pz n₀ F 0 { s₄ with gens := s₄.gens.push gs, toks := tk, heap := h₅ } →
            Q' (.ref a) { s₄ with gens := s₄.gens.push gs, toks := tk, heap := h₅ })) X.xe { s1 with heap := h3, toks := tk } := by
    intro code h3 tk ps' hx hsz hP3 hmore ht3
    obtain ⟨bm, ob, e1, e2, e3, e4, e5, e6, e7, e8⟩ := TB.bm
    have hcP : cStatics ≠ P := fun e => by
      obtain ⟨_, hns, _⟩ := I1.nolimit
      obtain ⟨o', es, ep, ho, hd, _⟩ := hns
      rw [e, hPs] at ho
      cases ho
      cases hd
    have hcl : cStatics < s1.heap.objs.size := let ⟨_, hns, _⟩ := I1.nolimit; hns.lt
    have sz2 : (s1.heap.push o).objs.size = s1.heap.objs.size + 1 := Heap.size_push ..
    have keep3 : ∀ b u, b ≠ P → s1.heap.get? b = some u → h3.get? b = some u := fun b u hb e => hx b u hb (Heap.get?_push_of_some _ e)
    refine wpAny_builtinsFor (m := X.mg) (by rw [I1.ok.glob]; exact ((I1.mod.glob.keeps I1.bk).push o).extBut hx TB.gP) e1 e2 (keep3 _ _ e4 (I1.bk _ _ e5)) e6 e7 e8 ?_
    refine ⟨s1.heap.objs.size, [s1.heap.objs.size, a], [s1.heap.objs.size], us.toArray.size, (fun i v => us.toArray[i]? = some v), St, (fun _ => true), (fun i y => ∃ v, us[i]? = some v ∧ y = .bool (tr i)), rfl, W, ?_, ?_, lim2.extBut hx hcP, ?_, ?_, ?_⟩
    · refine (W X.A hr.hd).frame _ _ _ hst fun b hb u e => hx b u (fun z => ?_) e
      rcases List.mem_cons.mp hb with z2 | z2
      · exact Nat.ne_of_lt hPlt (z.symm.trans z2)
      · rcases List.mem_cons.mp z2 with z2 | z2
        · exact haP (z2.symm.trans z)
        · cases z2
    · intro b hb
      show b < h3.objs.size
      have hle : s1.heap.objs.size + 1 ≤ h3.objs.size := by omega
      rcases List.mem_cons.mp hb with z | z
      · rw [z]; exact hle
      · rcases List.mem_cons.mp z with z | z
        · rw [z]; exact Nat.lt_of_lt_of_le halt (Nat.le_of_succ_le hle)
        · cases z
    · intro z
      rcases List.mem_cons.mp z with z | z
      · exact Nat.ne_of_lt hcl z
      · cases z
    · intro href hhref
      refine ⟨fun A' E' i v s₂ m₂ hA _ _ hPv hn hm hk => ?_, fun A' E' i v s₂ m₂ hA hD _ hPv hp hn hm hk => ?_⟩
      · simp only [List.forIn_nil]
        exact wpAny_pure ⟨rfl, GxR.keeps_refl _⟩
      · have hv : us[i]? = some v := by simpa using hPv
        refine hel pins s1 us I1 rv _ _ m₂ i v hv hm A' E' s₂ _ hA hD (fun b u hb e => hk b ?_ ?_ u (hhref b u (keep3 b u hb e))) hn fun y s3 ey k3 => ⟨⟨v, hv, ey⟩, k3⟩
        · exact List.mem_range.mpr (Nat.lt_of_lt_of_le (Heap.lt_size e) (show s1.heap.objs.size ≤ h3.objs.size by omega))
        · intro z
          rcases List.mem_cons.mp z with z | z
          · rw [z] at e; exact Nat.lt_irrefl _ (Heap.lt_size e)
          · cases z
    · intro g h5 tk5 gs hgb hag hsz5 hk5 W5 hat
      simp only [GxR.passing_true, List.length_range] at W5
      have hsz' : us.toArray.size = xs.length := by rw [List.size_toArray, rv.length]
      rw [hsz'] at W5 hat
      refine hQ a xs tr H1 g _ q1 ⟨_, _, _, _, _, W5.in4_1, hat, ?_, fun s' hm => ?_⟩
      · intro j y sj Qj Ej hy hQj
        obtain ⟨i, hij, v, hv, rfl⟩ := hy
        obtain ⟨hj, ej⟩ := List.getElem?_eq_some_iff.mp hij
        rw [List.getElem_range] at ej
        subst ej
        exact wpAny_truthy_bool hQj
      · obtain ⟨more, em⟩ := hmore
        have nwr : ∀ b u, s1.heap.get? b = some u → b ∉ h3.objs.size :: [s1.heap.objs.size] := fun b u e hb => by
          have hl := Heap.lt_size e
          rcases List.mem_cons.mp hb with z | z
          · rw [z] at hl
            have h9 : (h3.objs.size : Nat) < s1.heap.objs.size := hl
            omega
          · rcases List.mem_cons.mp z with z | z
            · rw [z] at hl
              exact Nat.lt_irrefl _ hl
            · cases z
        have J := GxR.inv_tab (more := more) (h' := s'.heap) (g' := s'.gens) (d' := s'.drawn) (t' := s'.toks) I1 hP (fun b u hb e => hm.heap b u (nwr b u e) (hk5 b u (keep3 b u hb e)))
          (by rw [← em]; exact hm.heap P _ (nwr P _ hPs) (hk5 P _ hP3)) (AllBare.movedS (I1.bare.push hgb) hm)
        rw [GxR.sh_eta s1 s' hm.os] at J
        refine ⟨upd H1 P (.tbl (ps ++ more)), ⟨⟨ps ++ more, upd_same, by rw [← em]; exact ht3⟩, fun b hb => upd_ne hb⟩, J⟩
  refine ⟨lim2, ?_⟩
  cases hf : codeAmong gpos ps.toList with
  | none =>
    refine wpAny_genexprCodeX hcode (cd.code hP2 ht) (cd.tab hP2) hf fun c' h' tk hx hge hlt hco' _ htab' _ => ?_
    obtain ⟨o1, vs, f1, tf, fl, tg, inF, tx, tt, op, _, _, _, _, _, _, _, _, _, htr, _⟩ := hco'
    exact cont _ h' tk _ hx (Nat.le_trans hge (Nat.le_of_lt hlt)) htab'.2 ⟨_, rfl⟩ htr
  | some cv =>
    refine wpAny_genexprCode_hit hcode (cd.code hP2 ht) hf ?_
    exact cont cv (s1.heap.push o) s1.toks ps (Heap.ExtBut.refl _ _) (Nat.le_refl _) hP2 ⟨#[], by simp⟩ ht

/-- the generator expression's own scope with two names -/
structure GenS2 (env : Env) (scope : Scope) (xa xb : Str) : Prop where
  kind : scope.kind = .function
  co : scope.isCoroutine = false
  cell : ∀ y ∈ scope.names, y.2 ≠ .cell
  dot : scope.names.lookup (".0" : Str) = some NameKind.local
  la : scope.names.lookup xa = some .local
  lb : scope.names.lookup xb = some .local
  ne : xa ≠ xb
  free : ∀ y ∈ scope.names, y.2 = .free → ∃ c, env.cells.lookup y.1 = some c
/-- one < other, both tuples of whole numbers -/
theorem gen_zipLt {c P : Addr} {e1 e2 : Expr} {xa xb : Str} {pa pb pt gpos pz0 pz1 qa q2 q3 : Pos} {kt : Nat} {scope : Scope} {ta : TA} {k : Nat} {Q' : Value → Shared → Prop} {R : List (List Int) → List (List Int) → Hp → Prop}
    (hr : Room k X.A) (TB : GxR.TabB X.base X.mg c P) (hcode : X.env.code = .ref c) (S : GenS2 X.env scope xa xb) (hg : Gl X "zip") (hm : X.mg "zip" = none) (hi : PA X [e1, e2] ta)
    (hda : (xa == ("__debug__" : Str)) = false) (hdb : (xb == ("__debug__" : Str)) = false)
    (hs : ∀ v, genFold (.Call (.Name "zip" pz0) [e1, e2] [] pz1) X.env v = pure v) (I : Inv X pins σ H s)
    (h : ta σ H fun vs H1 => ∃ (a b : Addr) (xs ys : List V) (nss mss : List (List Int)), vs = [.ref a, .ref b] ∧ SqT X.K H1 a xs ∧ SqT X.K H1 b ys ∧ xs.length = nss.length ∧ ys.length = mss.length ∧ GxR.TabG H1 P ∧
      (∀ (i : Nat) (x : V) (ns : List Int), xs[i]? = some x → nss[i]? = some ns → ∃ T, x = .ref T ∧ H1 T = some (.tup (ns.map V.int))) ∧ (∀ (i : Nat) (x : V) (ns : List Int), ys[i]? = some x → mss[i]? = some ns → ∃ T, x = .ref T ∧ H1 T = some (.tup (ns.map V.int))) ∧ R nss mss H1)
    (hQ : ∀ nss mss H1 g s5, R nss mss H1 → ReadyN X pins σ H1 P (min nss.length mss.length) (fun i => HT.lexLt (nss.getD i []) (mss.getD i [])) g s5 → Q' (.ref g) s5)
    (hss : starEach [e1, e2] X.env = (false, eval e1 X.env) :: starEach [e2] X.env := by rfl) (hpl : (backTo pz1 (starEach [e2] X.env)).any (·.1) = false := by rfl) :
    wpAny (model X.prog X.w) X.A (eval (.GeneratorExp (.Compare (.Name xa qa) [.Lt] [.Name xb q2] q3) [⟨.Tuple [.Name xa pa, .Name xb pb] kt pt, .Call (.Name "zip" pz0) [e1, e2] [] pz1, [], 0⟩] scope gpos) X.env) Q' X.xe s := by
  refine wpAny_GeneratorExp_walksQTD hr.hd S.co (closure_ok S.free) S.cell S.dot S.la S.lb S.ne S.kind (by have := hr.dp; omega) ?_ hs
  refine Call_ (ld_blt I hg hm PyProof.Rows.boot_zip (PyProof.Rows.callWith_type1 (thn (hi.run pz1 pins s σ H _ I h) fun us s1 ⟨vs, H1, I1, r1, q1⟩ => ?_) hss hpl))
  obtain ⟨a, b, xs, ys, nss, mss, rfl, hqx, hqy, lx, ly, ⟨ps, hP, ht⟩, tx, ty, q1⟩ := q1
  obtain ⟨u1, u2, rfl, ru1, ru2⟩ := vals2 r1
  obtain rfl : u1 = Value.ref a := ru1
  obtain rfl : u2 = Value.ref b := ru2
  obtain ⟨its, rv, p1, _⟩ := I1.tuple hqx
  obtain ⟨its2, rv2, p2, _⟩ := I1.tuple hqy
  have la : a < s1.heap.objs.size := let ⟨_, e, _⟩ := p1; Heap.lt_size e
  have lb : b < s1.heap.objs.size := let ⟨_, e, _⟩ := p2; Heap.lt_size e
  have hPs : s1.heap.get? P = some { cls := .none, data := .fields ps } := I1.hok P _ hP
  have hPlt : P < s1.heap.objs.size := Heap.lt_size hPs
  refine RZ.call_zipT p1 p2 fun h0 hz hTI hTO h1 h2 hsz hk => wpAny_pyIter_zip hz ?_
  have cd : PySem.W.CodeHd h0 c P := TB.code.keeps fun b u e => hk _ _ (I1.bk b u e)
  have lim2 : h0.NoLimit := I1.nolimit.keeps hk
  have hP2 : h0.get? P = some { cls := .none, data := .fields ps } := hk _ _ hPs
  refine ⟨lim2, ?_⟩
  have D := PySem.W.ktu_apart s1.heap.objs.size a b la lb
  have Sp : ZipSep2 (s1.heap.objs.size + 4) (s1.heap.objs.size + 2) (s1.heap.objs.size + 3) s1.heap.objs.size (s1.heap.objs.size + 1) [s1.heap.objs.size, a] [s1.heap.objs.size + 1, b] :=
    ⟨D.TIz, D.TOz, D.TITO, D.TIi1, by simp, by simp [D.i1z.symm, D.l1z.symm], by simp [D.TOi1, D.l1TO.symm], D.TIi2, by simp, by simp [D.i2z.symm, D.l2z.symm], by simp [D.TOi2, D.l2TO.symm], by simp [D.i12, D.l2i1.symm], by simp [D.i12.symm, D.l1i2.symm]⟩
  have W := fun (A' : Around) (hA : A'.handled = none) => (WalksT.zipD2 (prog := X.prog) (w := X.w) (A := A') Sp (Draws.tuple (A := A'.in1) hA s1.heap.objs.size a (Nat.ne_of_lt la) its.toArray) (Draws.tuple (A := A'.in1) hA (s1.heap.objs.size + 1) b (Nat.ne_of_lt (Nat.lt_succ_of_lt lb)) its2.toArray)).toU
  have cont : ∀ (code : Value) (h3 : Heap) (tk : Nat) (ps' : Array Value), Heap.ExtBut P h0 h3 → h0.objs.size ≤ h3.objs.size → h3.get? P = some { cls := .none, data := .fields ps' } → (∃ more, ps' = ps ++ more) → TriplesOk ps'.toList →
      wpAny (model X.prog X.w) X.A (builtinsFor X.env.globals X.env.builtins) (fun bi s₄ =>
        ∃ Ia fp wr n₀ Pt St₀ Mid pz F, Value.ref (s1.heap.objs.size + 4) = .ref Ia ∧ (∀ A' : Around, A'.handled = none → WalksU X.prog X.w A' Ia fp wr n₀ Pt St₀ Mid) ∧ (∀ i vals, Pt i vals → ∃ va vb, vals = #[va, vb]) ∧ St₀ 0 s₄.heap ∧ (∀ b ∈ fp, b < s₄.heap.objs.size) ∧ s₄.heap.NoLimit ∧ cStatics ∉ wr ∧
          (∀ href : Heap, (∀ b o, s₄.heap.get? b = some o → href.get? b = some o) →
            QuietGenTD X.prog X.w (genEnv scope (cloFrom X.env.cells scope.names []) s₄.heap.objs.size code bi X.env) xa xb [] (.Compare (.Name xa qa) [.Lt] [.Name xb q2] q3) (List.range s₄.heap.objs.size) wr Pt pz F href (X.A.depth + 1) (X.A.units + 8)) ∧
          (∀ a h₅ tk gs, gs.bare = true → s₄.heap.objs.size < a → h₅.objs.size = a + 1 → (∀ b o, s₄.heap.get? b = some o → h₅.get? b = some o) →
            WalksS X.prog X.w X.A.in4 a (a :: s₄.heap.objs.size :: List.range s₄.heap.objs.size) (s₄.heap.objs.size :: wr) (GenOnlyQ s₄.gens.size) (passing pz n₀ 0).length
              (fun j y => ∃ i, (passing pz n₀ 0)[j]? = some i ∧ F i y) (GenAt X.prog X.w X.A.in4 a s₄.gens.size s₄.heap.objs.size (List.range s₄.heap.objs.size) wr pz n₀ F) →
            GenAt X.prog X.w X.A.in4 a s₄.gens.size s₄.heap.objs.size (List.range s₄.heap.objs.size) wr pz n₀ F 0 { s₄ with gens := s₄.gens.push gs, toks := tk, heap := h₅ } →
            Q' (.ref a) { s₄ with gens := s₄.gens.push gs, toks := tk, heap := h₅ })) X.xe { s1 with heap := h3, toks := tk } := by
    intro code h3 tk ps' hx hsz3 hP3 hmore ht3
    obtain ⟨bm, ob, e1, e2, e3, e4, e5, e6, e7, e8⟩ := TB.bm
    have hcP : cStatics ≠ P := fun e => by
      obtain ⟨_, hns, _⟩ := I1.nolimit
      obtain ⟨o', es, ep, ho, hd, _⟩ := hns
      rw [e, hPs] at ho
      cases ho
      cases hd
    have hcl : cStatics < s1.heap.objs.size := let ⟨_, hns, _⟩ := I1.nolimit; hns.lt
    have keep3 : ∀ b u, b ≠ P → s1.heap.get? b = some u → h3.get? b = some u := fun b u hb e => hx b u hb (hk _ _ e)
    have hle : s1.heap.objs.size + 5 ≤ h3.objs.size := by rw [← hsz]; exact hsz3
    refine wpAny_builtinsFor (m := X.mg) (by rw [I1.ok.glob]; exact ((I1.mod.glob.keeps I1.bk).keeps hk).extBut hx TB.gP) e1 e2 (keep3 _ _ e4 (I1.bk _ _ e5)) e6 e7 e8 ?_
    have aP : a ≠ P := fun z => by
      obtain ⟨o', e, c1, _⟩ := p1
      rw [z, hPs] at e; cases e; exact absurd c1 (by simp)
    have bP : b ≠ P := fun z => by
      obtain ⟨o', e, c1, _⟩ := p2
      rw [z, hPs] at e; cases e; exact absurd c1 (by simp)
    have nP : ∀ j, s1.heap.objs.size + j ≠ P := fun j z => by
      rw [← z] at hPlt; exact absurd hPlt (Nat.not_lt.mpr (Nat.le_add_right _ _))
    have nP0 : s1.heap.objs.size ≠ P := nP 0
    have kk : ∀ b o, b ≠ P → h0.get? b = some o → h3.get? b = some o := fun b o n e => hx b o n e
    refine ⟨_, _, _, _, _, _, _, (fun _ => true), (fun i y => y = .bool (HT.lexLt (nss.getD i []) (mss.getD i []))), rfl, W, ?_, ⟨kk _ _ (nP 4) hz, kk _ _ (nP 2) hTI, ⟨_, _, kk _ _ (nP 3) hTO⟩, ⟨h1.at fun o e => kk _ o nP0 e, Heap.IsTuple.at p1 fun o e => keep3 _ o aP e⟩, ⟨h2.at fun o e => kk _ o (nP 1) e, Heap.IsTuple.at p2 fun o e => keep3 _ o bP e⟩⟩, ?_, lim2.extBut hx hcP, ?_, ?_, ?_⟩
    · rintro i vals ⟨x1, x2, _, _, rfl⟩
      exact ⟨x1, x2, rfl⟩
    · intro b' hb
      show b' < h3.objs.size
      have e' : b' = s1.heap.objs.size + 4 ∨ b' = s1.heap.objs.size + 2 ∨ b' = s1.heap.objs.size + 3 ∨ b' = s1.heap.objs.size ∨ b' = a ∨ b' = s1.heap.objs.size + 1 ∨ b' = b := by simpa using hb
      rcases e' with z | z | z | z | z | z | z
      · rw [z]; exact hle
      · rw [z]; exact Nat.lt_of_lt_of_le (Nat.add_lt_add_left (by decide) _) hle
      · rw [z]; exact Nat.lt_of_lt_of_le (Nat.add_lt_add_left (by decide) _) hle
      · rw [z]; exact Nat.lt_of_lt_of_le (Nat.lt_add_of_pos_right (by decide)) hle
      · rw [z]; exact Nat.lt_of_lt_of_le la (Nat.le_trans (Nat.le_add_right _ _) hle)
      · rw [z]; exact Nat.lt_of_lt_of_le (Nat.add_lt_add_left (by decide) _) hle
      · rw [z]; exact Nat.lt_of_lt_of_le lb (Nat.le_trans (Nat.le_add_right _ _) hle)
    · intro z
      have e' : cStatics = s1.heap.objs.size + 4 ∨ cStatics = s1.heap.objs.size + 3 ∨ cStatics = s1.heap.objs.size ∨ cStatics = s1.heap.objs.size + 1 := by simpa using z
      rcases e' with z | z | z | z <;> rw [z] at hcl <;> first | exact Nat.lt_irrefl _ hcl | exact absurd hcl (Nat.not_lt.mpr (Nat.le_add_right _ _))
    · intro href hhref
      refine ⟨fun A' E' i va vb s₂ m₂ hA _ _ hPv hn hm1 hm2 hk2 => ?_, fun A' E' i va vb s₂ m₂ hA hD hU hPv hp hn hm1 hm2 hk2 => ?_⟩
      · simp only [List.forIn_nil]
        exact wpAny_pure ⟨rfl, GxR.keeps_refl _⟩
      · obtain ⟨x1, x2, hx1, hx2, ev⟩ := hPv
        obtain ⟨rfl, rfl⟩ : va = x1 ∧ vb = x2 := by
          have := congrArg Array.toList ev
          simp at this
          exact this
        have g1 : its[i]? = some va := by simpa using hx1
        have g2 : its2[i]? = some vb := by simpa using hx2
        have li : i < its.length := (List.getElem?_eq_some_iff.mp g1).1
        have li2 : i < its2.length := (List.getElem?_eq_some_iff.mp g2).1
        have lxs : i < xs.length := by rw [rv.length]; exact li
        have lys : i < ys.length := by rw [rv2.length]; exact li2
        obtain ⟨w1, ew1, rw1⟩ := rv.get (List.getElem?_eq_getElem lxs)
        obtain ⟨w2, ew2, rw2⟩ := rv2.get (List.getElem?_eq_getElem lys)
        rw [g1] at ew1
        rw [g2] at ew2
        cases ew1
        cases ew2
        obtain ⟨T1, eT1, hT1⟩ := tx i _ _ (List.getElem?_eq_getElem lxs) (List.getElem?_eq_getElem (lx ▸ lxs))
        obtain ⟨T2, eT2, hT2⟩ := ty i _ _ (List.getElem?_eq_getElem lys) (List.getElem?_eq_getElem (ly ▸ lys))
        rw [eT1] at rw1
        rw [eT2] at rw2
        obtain rfl : va = Value.ref T1 := rw1
        obtain rfl : vb = Value.ref T2 := rw2
        obtain ⟨j1, rj1, pj1, _⟩ := I1.tuple (SqT.of (K := X.K) hT1)
        obtain ⟨j2, rj2, pj2, _⟩ := I1.tuple (SqT.of (K := X.K) hT2)
        have nT : ∀ {T : Addr} {zs : List V}, H1 T = some (.tup zs) → T ≠ P := fun e z => by rw [z, hP] at e; cases e
        have up : ∀ (T : Addr) (o : Obj), T ≠ P → s1.heap.get? T = some o → s₂.heap.get? T = some o := fun T o n e => hk2 T (List.mem_range.mpr (Nat.lt_of_lt_of_le (Heap.lt_size e) (Nat.le_trans (Nat.le_add_right _ _) hle))) (fun z => by
          have hl := Heap.lt_size e
          have e' : T = s1.heap.objs.size + 4 ∨ T = s1.heap.objs.size + 3 ∨ T = s1.heap.objs.size ∨ T = s1.heap.objs.size + 1 := by simpa using z
          rcases e' with z | z | z | z <;> rw [z] at hl <;> first | exact Nat.lt_irrefl _ hl | exact absurd hl (Nat.not_lt.mpr (Nat.le_add_right _ _))) o (hhref _ _ (keep3 _ _ n e))
        refine wpAny_Compare1 (wpAny_Name (wpAny_loadName_local S.kind S.la hn hm1 (wpAny_Name (wpAny_loadName_local S.kind S.lb hn hm2 ?_) hdb)) hda)
        have := hr.units
        refine HT.lt_tupInts (Heap.IsTuple.at pj1 fun o e => up _ o (nT hT1) e) (Heap.IsTuple.at pj2 fun o e => up _ o (nT hT2) e) (intsAre_of rj1) (intsAre_of rj2) (by omega) ⟨?_, GxR.keeps_refl _⟩
        rw [List.getD_eq_getElem?_getD, List.getD_eq_getElem?_getD, List.getElem?_eq_getElem (lx ▸ lxs), List.getElem?_eq_getElem (ly ▸ lys)]
        rfl
    · intro g h5 tk5 gs hgb hag hsz5 hk5 W5 hat
      simp only [GxR.passing_true, List.length_range] at W5
      have hsz' : min its.toArray.size its2.toArray.size = min nss.length mss.length := by rw [List.size_toArray, List.size_toArray, ← rv.length, ← rv2.length, lx, ly]
      rw [hsz'] at W5 hat
      refine hQ nss mss H1 g _ q1 ⟨_, _, _, _, _, W5.in4_1, hat, ?_, fun s' hm => ?_⟩
      · intro j y sj Qj Ej hy hQj
        obtain ⟨i, hij, rfl⟩ := hy
        obtain ⟨hj, ej⟩ := List.getElem?_eq_some_iff.mp hij
        rw [List.getElem_range] at ej
        subst ej
        exact wpAny_truthy_bool hQj
      · obtain ⟨more, em⟩ := hmore
        have nwr : ∀ b u, s1.heap.get? b = some u → b ∉ h3.objs.size :: [s1.heap.objs.size + 4, s1.heap.objs.size + 3, s1.heap.objs.size, s1.heap.objs.size + 1] := fun b u e hb => by
          have hl := Heap.lt_size e
          have e' : b = h3.objs.size ∨ b = s1.heap.objs.size + 4 ∨ b = s1.heap.objs.size + 3 ∨ b = s1.heap.objs.size ∨ b = s1.heap.objs.size + 1 := by simpa using hb
          rcases e' with z | z | z | z | z <;> rw [z] at hl <;> first | exact Nat.lt_irrefl _ hl | exact absurd hl (Nat.not_lt.mpr (Nat.le_add_right _ _)) | exact absurd hl (Nat.not_lt.mpr (Nat.le_trans (Nat.le_add_right _ _) hle))
        have J := GxR.inv_tab (more := more) (h' := s'.heap) (g' := s'.gens) (d' := s'.drawn) (t' := s'.toks) I1 hP (fun b u hb e => hm.heap b u (nwr b u e) (hk5 b u (keep3 b u hb e)))
          (by rw [← em]; exact hm.heap P _ (nwr P _ hPs) (hk5 P _ hP3)) (AllBare.movedS (I1.bare.push hgb) hm)
        rw [GxR.sh_eta s1 s' hm.os] at J
        refine ⟨upd H1 P (.tbl (ps ++ more)), ⟨⟨ps ++ more, upd_same, by rw [← em]; exact ht3⟩, fun b hb => upd_ne hb⟩, J⟩
  cases hf : codeAmong gpos ps.toList with
  | none =>
    refine wpAny_genexprCodeX hcode (cd.code hP2 ht) (cd.tab hP2) hf fun c' h' tk hx hge hlt hco' _ htab' _ => ?_
    obtain ⟨o1, vs, f1, tf, fl, tg, inF, tx, tt, op, _, _, _, _, _, _, _, _, _, htr, _⟩ := hco'
    exact cont _ h' tk _ hx (Nat.le_trans hge (Nat.le_of_lt hlt)) htab'.2 ⟨_, rfl⟩ htr
  | some cv =>
    refine wpAny_genexprCode_hit hcode (cd.code hP2 ht) hf ?_
    exact cont cv h0 s1.toks ps (Heap.ExtBut.refl _ _) (Nat.le_refl _) hP2 ⟨#[], by simp⟩ ht

/-! ### all(..) -/
theorem boot_all_ : bootBuiltins "all" = some (.builtin "all") := by decide +kernel
def tAllN (X : Cx) (P : Addr) (scope : Scope) (x : Str) (elt : Expr) (te : TE) : TE := fun σ H Q => te σ H fun v H1 => ∃ (a : Addr) (xs : List V) (tr : Nat → Bool), v = .ref a ∧ SqA X.K H1 a xs ∧ GxR.TabG H1 P ∧
  (∀ (pins : List (Addr × Obj)) (s1 : Shared) (us : List Value), Inv X pins σ H1 s1 → Vals xs us → EltS X P s1 scope x elt us tr) ∧ ∀ H2, GxR.Tabbed P H1 H2 → Q (.bl ((List.range xs.length).all tr)) H2
theorem pe_allN {c P : Addr} {elt iter : Expr} {x : Str} {px p pos gpos : Pos} {scope : Scope} {te : TE} {k : Nat} (hr : Room k X.A) (hg : Gl X "all") (hm : X.mg "all" = none) (TB : GxR.TabB X.base X.mg c P) (hcode : X.env.code = .ref c)
    (S : GxR.GenS X.env scope x) (hi : PE X iter te) (hs : ∀ v, genFold iter X.env v = pure v)
    (he : starEach [.GeneratorExp elt [⟨.Name x px, iter, [], 0⟩] scope gpos] X.env = (false, eval (.GeneratorExp elt [⟨.Name x px, iter, [], 0⟩] scope gpos) X.env) :: starEach [] X.env := by rfl) :
    PE X (.Call (.Name "all" p) [.GeneratorExp elt [⟨.Name x px, iter, [], 0⟩] scope gpos] [] pos) (tAllN X P scope x elt te) := by
  refine ⟨fun pins s σ H Q I h => ?_⟩
  refine wpAny_Call_Name_kw (ld_blt I hg hm boot_all_ ?_)
  refine PyProof.Rows.callWith_builtin1 ?_ he (by rfl)
  rw [he]
  show wpAny _ _ (spliced ((false, eval (.GeneratorExp elt [⟨.Name x px, iter, [], 0⟩] scope gpos) X.env) :: backTo pos (starEach [] X.env))) _ _ s
  refine Calls.spliced_cons (gen_sq (R := fun a xs tr H1 => ∀ H2, GxR.Tabbed P H1 H2 → Q (.bl ((List.range xs.length).all tr)) H2) hr TB hcode S hi hs I h fun a xs tr H1 g s5 hR hG => ?_)
  obtain ⟨fp, wr, G, F, St, W, hst, htr, hI⟩ := hG
  refine Calls.spliced_nil ?_
  refine call_all_walkS (W.self 0 _ _ _ hst ⟨g, fp, wr, G, _, F, St, _, rfl, W, hst, htr, fun s' hmv => ?_⟩)
  obtain ⟨H2, hT, J⟩ := hI s' hmv
  exact ⟨.bl _, H2, J, rfl, hR H2 hT⟩
def tAllZ (X : Cx) (P : Addr) (ta : TA) : TE := fun σ H Q => ta σ H fun vs H1 => ∃ (a b : Addr) (xs ys : List V) (nss mss : List (List Int)), vs = [.ref a, .ref b] ∧ SqT X.K H1 a xs ∧ SqT X.K H1 b ys ∧ xs.length = nss.length ∧ ys.length = mss.length ∧ GxR.TabG H1 P ∧
  (∀ (i : Nat) (x : V) (ns : List Int), xs[i]? = some x → nss[i]? = some ns → ∃ T, x = .ref T ∧ H1 T = some (.tup (ns.map V.int))) ∧ (∀ (i : Nat) (x : V) (ns : List Int), ys[i]? = some x → mss[i]? = some ns → ∃ T, x = .ref T ∧ H1 T = some (.tup (ns.map V.int))) ∧
  ∀ H2, GxR.Tabbed P H1 H2 → Q (.bl ((List.range (min nss.length mss.length)).all fun i => HT.lexLt (nss.getD i []) (mss.getD i []))) H2
theorem pe_allZ {c P : Addr} {e1 e2 : Expr} {xa xb : Str} {p pos pa pb pt gpos pz0 pz1 qa q2 q3 : Pos} {kt : Nat} {scope : Scope} {ta : TA} {k : Nat} (hr : Room k X.A) (hga : Gl X "all") (hma : X.mg "all" = none) (TB : GxR.TabB X.base X.mg c P) (hcode : X.env.code = .ref c)
    (S : GenS2 X.env scope xa xb) (hg : Gl X "zip") (hm : X.mg "zip" = none) (hi : PA X [e1, e2] ta) (hs : ∀ v, genFold (.Call (.Name "zip" pz0) [e1, e2] [] pz1) X.env v = pure v)
    (hda : (xa == ("__debug__" : Str)) = false := by decide) (hdb : (xb == ("__debug__" : Str)) = false := by decide)
    (hss : starEach [e1, e2] X.env = (false, eval e1 X.env) :: starEach [e2] X.env := by rfl) (hpl : (backTo pz1 (starEach [e2] X.env)).any (·.1) = false := by rfl)
    (he : starEach [.GeneratorExp (.Compare (.Name xa qa) [.Lt] [.Name xb q2] q3) [⟨.Tuple [.Name xa pa, .Name xb pb] kt pt, .Call (.Name "zip" pz0) [e1, e2] [] pz1, [], 0⟩] scope gpos] X.env = (false, eval (.GeneratorExp (.Compare (.Name xa qa) [.Lt] [.Name xb q2] q3) [⟨.Tuple [.Name xa pa, .Name xb pb] kt pt, .Call (.Name "zip" pz0) [e1, e2] [] pz1, [], 0⟩] scope gpos) X.env) :: starEach [] X.env := by rfl) :
    PE X (.Call (.Name "all" p) [.GeneratorExp (.Compare (.Name xa qa) [.Lt] [.Name xb q2] q3) [⟨.Tuple [.Name xa pa, .Name xb pb] kt pt, .Call (.Name "zip" pz0) [e1, e2] [] pz1, [], 0⟩] scope gpos] [] pos) (tAllZ X P ta) := by
  refine ⟨fun pins s σ H Q I h => ?_⟩
  refine wpAny_Call_Name_kw (ld_blt I hga hma boot_all_ ?_)
  refine PyProof.Rows.callWith_builtin1 ?_ he (by rfl)
  rw [he]
  show wpAny _ _ (spliced ((false, eval (.GeneratorExp (.Compare (.Name xa qa) [.Lt] [.Name xb q2] q3) [⟨.Tuple [.Name xa pa, .Name xb pb] kt pt, .Call (.Name "zip" pz0) [e1, e2] [] pz1, [], 0⟩] scope gpos) X.env) :: backTo pos (starEach [] X.env))) _ _ s
  refine Calls.spliced_cons (gen_zipLt (R := fun nss mss H1 => ∀ H2, GxR.Tabbed P H1 H2 → Q (.bl ((List.range (min nss.length mss.length)).all fun i => HT.lexLt (nss.getD i []) (mss.getD i []))) H2) hr TB hcode S hg hm hi hda hdb hs I h (fun nss mss H1 g s5 hR hG => ?_) hss hpl)
  obtain ⟨fp, wr, G, F, St, W, hst, htr, hI⟩ := hG
  refine Calls.spliced_nil ?_
  refine call_all_walkS (W.self 0 _ _ _ hst ⟨g, fp, wr, G, _, F, St, _, rfl, W, hst, htr, fun s' hmv => ?_⟩)
  obtain ⟨H2, hT, J⟩ := hI s' hmv
  exact ⟨.bl _, H2, J, rfl, hR H2 hT⟩
end
end K15
set_option autoImplicit false
set_option linter.all false
set_option Elab.async false
set_option maxRecDepth 100000
set_option maxHeartbeats 2000000
/-! The program's defs, first part. -/
namespace K15
open PySem PySem.Spec PyProof.Rows L2
/-- a def that may be called: its promise, its name -/
structure Dn (P : Program) (w : World) (K : PySem.W.Frag) (mg : Str → Option Value) (base : Heap) (CX : CXT) (k : Nat) (x : Str) (ps : List Str) (sp : Sp) (f : Addr) (fd : FuncData) : Prop where
  ok : FnOk P w K mg base CX k f fd ps sp
  mgf : mg x = some (.ref f)
  kp : PySem.W.keepIn K (.ref f) = true
  b : L2.Binds K fd ps []
/-- the names of built-ins, as the module leaves them -/
structure Bl (mg : Str → Option Value) : Prop where
  isi : mg "isinstance" = none
  int : mg "int" = none
  bool : mg "bool" = none
  str : mg "str" = none
  tuple : mg "tuple" = none
  list : mg "list" = none
  len : mg "len" = none
  all : mg "all" = none
  zip : mg "zip" = none
  sorted : mg "sorted" = none
  set : mg "set" = none
  enum : mg "enumerate" = none
  min : mg "min" = none
  range : mg "range" = none
section
variable {P : Program} {w : World} {K : PySem.W.Frag} {mg : Str → Option Value} {base : Heap}
/-! ### is_number -/
def numb (x : V) (lo hi : Int) : Bool := match x with
  | .int n => decide (lo ≤ n ∧ n ≤ hi)
  | _ => false
def isFlat3 : V → Bool
  | .int _ => true
  | .non => true
  | .bl _ => true
  | _ => false
def spNum : Sp := fun vs H Q _ => ∃ (x : V) (lo hi : Int), vs = [x, .int lo, .int hi] ∧ isFlat3 x = true ∧ Q (.bl (numb x lo hi)) H
theorem scNum : FnScope ["value", "low", "high"] ["value", "low", "high"] (defScope sIsNum) := ⟨rfl, rfl, rfl, by decide +kernel, rfl, by decide +kernel, by decide +kernel⟩
theorem ok_isnum {f : Addr} {fd : FuncData} (F : Fun K "is_number" "is_number" sIsNum f fd) (B : Bl mg) : FnOk P w K mg base CX0 1 f fd ["value", "low", "high"] spNum := by
  refine F.ok scNum (fun vs H Q E h => ?_) (fun cdv A outer s H vs Q E hr h => ?_)
  · obtain ⟨x, lo, hi, rfl, _⟩ := h
    rfl
  · obtain ⟨x, lo, hi, rfl, hx, q⟩ := h
    refine ⟨_, pss_one (ps_ret (pe_and (pe_callB call_isi (by rfl) B.isi PyProof.Rows.boot_isinstance (pa_cons (pv 0) (pa_cons (pe_bltn (v := .ty "int") (by rfl) B.int PyProof.Rows.boot_int rfl) pa_nil)))
      (pe_and (pe_not (pe_callB call_isi (by rfl) B.isi PyProof.Rows.boot_isinstance (pa_cons (pv 0) (pa_cons (pe_bltn (v := .ty "bool") (by rfl) B.bool PyProof.Rows.boot_bool rfl) pa_nil))))
        (pe_one (pe_chain op_le op_le (pv 1) (pv 0) (pv 2)))))), ?_⟩
    have ty : ∀ x : V, isFlat3 x = true → ∃ t : String, TyX K H x (.type t) ∧ (t = "int" ∧ (∃ n, x = .int n) ∨ t = "NoneType" ∧ x = .non ∨ t = "bool" ∧ ∃ b, x = .bl b) := fun x hx => by
      cases x with
      | int n => exact ⟨"int", .base (.int n), .inl ⟨rfl, n, rfl⟩⟩
      | non => exact ⟨"NoneType", .base .non, .inr (.inl ⟨rfl, rfl⟩)⟩
      | bl b => exact ⟨"bool", .base (.bl b), .inr (.inr ⟨rfl, b, rfl⟩)⟩
      | _ => exact absurd hx Bool.false_ne_true
    obtain ⟨t, hty, hc⟩ := ty x hx
    rcases hc with ⟨rfl, n, rfl⟩ | ⟨rfl, rfl⟩ | ⟨rfl, b, rfl⟩
    · refine ⟨_, rfl, _, _, _, _, true, rfl, .ty "int", hty, kit_ty (by decide +kernel), true, rfl, ?_⟩
      refine ⟨_, rfl, _, _, _, _, false, rfl, .ty "bool", hty, kit_ty (by decide +kernel), false, rfl, true, rfl, ?_⟩
      refine ⟨_, rfl, _, rfl, _, _, rfl, rfl, _, rfl, ?_⟩
      refine ite2 (fun h1 => ?_) (fun h1 => ?_)
      · refine ⟨_, rfl, _, _, rfl, rfl, ?_⟩
        have e : numb (.int n) lo hi = decide (n ≤ hi) := by
          unfold numb
          by_cases q2 : n ≤ hi
          · rw [decide_eq_true q2]; exact decide_eq_true ⟨of_decide_eq_true h1, q2⟩
          · rw [decide_eq_false q2]; exact decide_eq_false fun z => q2 z.2
        rw [e] at q
        exact q
      · have e : numb (.int n) lo hi = false := decide_eq_false fun z => h1 (decide_eq_true z.1)
        rw [e] at q
        exact q
    · refine ⟨_, rfl, _, _, _, _, false, rfl, .ty "int", hty, kit_ty (by decide +kernel), false, rfl, ?_⟩
      exact q
    · refine ⟨_, rfl, _, _, _, _, true, rfl, .ty "int", hty, kit_ty (by decide +kernel), true, rfl, ?_⟩
      refine ⟨_, rfl, _, _, _, _, true, rfl, .ty "bool", hty, kit_ty (by decide +kernel), true, rfl, false, rfl, ?_⟩
      exact q
end
end K15
set_option autoImplicit false
set_option linter.all false
set_option Elab.async false
set_option maxRecDepth 100000
set_option maxHeartbeats 2000000
/-! The program's defs, second part: near, hanging. -/
namespace K15
open PySem PySem.Spec PyProof.Rows L2
/-! ### data in the heap -/
def iv (n : Nat) : V := .int (n : Int)
theorem same_new {H : Hp} {p : Addr} (o : HO) (hp : H p = none) : Same H (upd H p o) := fun b u e => by rw [upd_ne (ne_of_none e hp)]; exact e
theorem same_seqT {K : PySem.W.Frag} {H H' : Hp} {a : Addr} {xs : List V} (e : Same H H') (h : SqT K H a xs) : SqT K H' a xs := by
  rcases h with (h | ⟨o, h⟩) | h
  · exact .inl (.inl (e _ _ h))
  · exact .inl (.inr ⟨o, e _ _ h⟩)
  · exact .inr h
/-- pairs of numbers at addresses -/
def PrsAt (H : Hp) (as : List Addr) (ps : List Sl) : Prop := as.length = ps.length ∧ ∀ (i : Nat) (a : Addr) (p : Sl), as[i]? = some a → ps[i]? = some p → H a = some (.tup [iv p.1, iv p.2])
/-- a tuple of pairs of numbers -/
def WdAt (H : Hp) (a : Addr) (w : Wd) : Prop := ∃ as : List Addr, H a = some (.tup (as.map V.ref)) ∧ PrsAt H as w
def StAt (H : Hp) (a : Addr) (t : Sd) : Prop := TupH H a (t.map ov)
theorem PrsAt.ext {H H' : Hp} {as : List Addr} {ps : List Sl} (h : PrsAt H as ps) (e : ∀ b xs, H b = some (.tup xs) → H' b = some (.tup xs)) : PrsAt H' as ps := ⟨h.1, fun i a p h1 h2 => e _ _ (h.2 i a p h1 h2)⟩
theorem WdAt.ext {H H' : Hp} {a : Addr} {w : Wd} (h : WdAt H a w) (e : ∀ b xs, H b = some (.tup xs) → H' b = some (.tup xs)) : WdAt H' a w := let ⟨as, h1, h2⟩ := h; ⟨as, e _ _ h1, h2.ext e⟩
theorem WdAt.same {H H' : Hp} {a : Addr} {w : Wd} (h : WdAt H a w) (s : Same H H') : WdAt H' a w := h.ext fun b xs e => s b _ e
theorem StAt.same {H H' : Hp} {a : Addr} {t : Sd} (h : StAt H a t) (s : Same H H') : StAt H' a t := TupH.ext h fun o e => s _ o e
theorem take_succ {α : Type} {l : List α} {i : Nat} {x : α} (h : l[i]? = some x) : l.take (i + 1) = l.take i ++ [x] := by
  rw [List.take_add_one, h]; rfl
theorem ints_map (l : List Nat) : (l.map fun n => ((n : Nat) : Int)).map V.int = l.map iv := by rw [List.map_map]; rfl
/-! ### comprehensions with a test, whose element makes no object -/
section
variable {K : PySem.W.Frag} {a : Addr} {xs : List V} {g : TG} {tt : TT} {te : TE} {vs : List Nat} {σ : L2.St} {H : Hp} {D : Addr} {Qd : Hp → Prop} {α : Type}
theorem lc_fltT (l : List α) (c : α → Bool) (f : α → V) (hq : SqT K H a xs) (hl : xs.length = l.length) (hz : l.length ≤ 4000) (hD : H D = none)
    (hs : ∀ (i : Nat) (x : V) (y : α) (H' : Hp) (acc : List V) (Nx : Hp → Prop), xs[i]? = some x → l[i]? = some y → Same H H' → H' D = some (.lst acc) → acc.length < sizeLine → (c y = true → Nx (upd H' D (.lst (acc ++ [f y])))) → (c y = false → Nx H') →
      g x (wipe σ vs) H' fun σ2 H2 => wipe σ2 vs = wipe σ vs ∧ tt σ2 H2 fun b H3 => if b = true then te σ2 H3 fun y H4 => ∃ acc, H4 D = some (.lst acc) ∧ acc.length < sizeLine ∧ Nx (upd H4 D (.lst (acc ++ [y]))) else Nx H3)
    (hd : ∀ H', Same H H' → H' D = some (.lst ((l.filter c).map f)) → Qd H') :
    ∃ W : Nat → Nat → Hp → Prop, (∃ m, W 0 m (upd H D (.lst []))) ∧ ∀ i m H, W i m H →
      ((Itt K a).stop i H ∧ Qd H) ∨ ((Itt K a).go i H ∧ ∃ Nx : Hp → Prop, (∀ H', Nx H' → ∃ m', m' < m ∧ W (i + 1) m' H') ∧ ∀ x H', (Itt K a).yld i H x H' → g x (wipe σ vs) H' fun σ2 H2 => wipe σ2 vs = wipe σ vs ∧ tt σ2 H2 fun b H3 =>
        if b = true then te σ2 H3 fun y H4 => ∃ acc, H4 D = some (.lst acc) ∧ acc.length < sizeLine ∧ Nx (upd H4 D (.lst (acc ++ [y]))) else Nx H3) := by
  refine lc_tup (xs := xs) (fun i H' => Same H H' ∧ H' D = some (.lst (((l.take i).filter c).map f))) ⟨same_new _ hD, by rw [upd_same]; rfl⟩ (fun i H' _ h => same_seqT h.1 hq) (fun i x H' hx ⟨h1, h2⟩ => ?_) (fun H' ⟨h1, h2⟩ => hd H' h1 (by rw [h2, hl, List.take_length]))
  have hi : i < l.length := by rw [← hl]; exact (List.getElem?_eq_some_iff.mp hx).1
  have hy := List.getElem?_eq_getElem hi
  have hlen : (((l.take i).filter c).map f).length ≤ i := by
    rw [List.length_map]
    exact Nat.le_trans (List.length_filter_le _ _) (by rw [List.length_take]; omega)
  refine hs i x _ H' _ _ hx hy h1 h2 (by rw [sizeLine_eq]; omega) (fun hc => ⟨fun b o e => ?_, ?_⟩) (fun hc => ⟨h1, ?_⟩)
  · rw [upd_ne (ne_of_none e hD)]; exact h1 b o e
  · rw [upd_same, take_succ hy, List.filter_append, List.map_append]
    simp [hc]
  · rw [h2, take_succ hy, List.filter_append, List.map_append]
    simp [hc]
end
theorem iv_inj {a b : Nat} (h : iv a = iv b) : a = b := by
  injection h with h
  exact Int.ofNat.inj h
theorem dec_iv (a b : Nat) : decide (iv a = iv b) = (a == b) := by
  by_cases q : a = b
  · rw [q]; simp
  · have n : ¬ iv a = iv b := fun z => q (iv_inj z)
    rw [decide_eq_false n]; simp [q]
theorem get_ref {as : List Addr} {i : Nat} {x : V} (hx : (as.map V.ref)[i]? = some x) : ∃ ad, as[i]? = some ad ∧ x = V.ref ad := by
  rw [List.getElem?_map] at hx
  cases e : as[i]? with
  | none => rw [e] at hx; cases hx
  | some u => rw [e] at hx; exact ⟨u, rfl, (Option.some.inj hx).symm⟩
theorem sortN_ints {ns : List Int} {l : List Nat} (hp : ns.Perm (l.map fun n : Nat => (n : Int))) (hs : ns.Pairwise (· ≤ ·)) : ns.map V.int = (sortN l).map iv := by
  have e : ns = (sortN l).map fun n : Nat => (n : Int) := by
    have h1 : ns.map Int.toNat = sortN l := by
      refine sortN_of ?_ ?_
      · have := hp.map Int.toNat
        rw [List.map_map] at this
        have e2 : (Int.toNat ∘ fun n : Nat => (n : Int)) = id := by funext n; simp
        rw [e2, List.map_id] at this
        exact this
      · exact List.pairwise_map.mpr (hs.imp fun {a b} h => by omega)
    rw [← h1, List.map_map]
    have : ∀ x ∈ ns, ((fun n : Nat => (n : Int)) ∘ Int.toNat) x = x := fun x hx => by
      obtain ⟨n, _, rfl⟩ := List.mem_map.mp (hp.mem_iff.mp hx)
      simp
    conv => lhs; rw [← List.map_id ns]
    exact List.map_congr_left fun x hx => (this x hx).symm
  rw [e, List.map_map]
  rfl
abbrev sNear : Stmt := top 14
def spNear : Sp := fun vs H Q _ => ∃ (t : Addr) (p : Nat) (ties : List Sl), vs = [.ref t, iv p] ∧ WdAt H t ties ∧ ties.length ≤ 30 ∧ ∀ (l : Addr) (H' : Hp), Same H H' → H l = none → H' l = some (.lst ((near ties p).map iv)) → Q (.ref l) H'
section
variable {P : Program} {w : World} {K : PySem.W.Frag} {mg : Str → Option Value} {base : Heap}
theorem scNear : FnScope ["ties", "place", "found", "one", "other"] ["ties", "place"] (defScope sNear) := ⟨rfl, rfl, rfl, by decide +kernel, rfl, by decide +kernel, by decide +kernel⟩
theorem ok_near {f : Addr} {fd : FuncData} (F : Fun K "near" "near" sNear f fd) (B : Bl mg) : FnOk P w K mg base CX0 1 f fd ["ties", "place"] spNear := by
  refine F.ok scNear (fun vs H Q E h => ?_) (fun cdv A outer s H vs Q E hr h => ?_)
  · obtain ⟨t, p, ties, rfl, _⟩ := h
    rfl
  · obtain ⟨t, p, ties, rfl, hw, hlen, k⟩ := h
    refine ⟨_, pss_cons (ps_set (i := 2) scNear.nd rfl (Or.inl rfl) (pe_op op_cat
      (pe_lc (own := [("one", 3), ("other", 4)]) (g := gTup _ 2 (gCons (gName 3) (gCons (gName 4) gNil))) rfl scNear.nd (pi_tup (pv 0)) (blkOk_by (N := ["ties", "place", "found", "one", "other"]) (sc := defScope sNear) (by decide +kernel))
        (fun _ _ _ _ _ => pg_tup rfl (pgs_cons (pg_name (i := 3) scNear.nd rfl (Or.inl rfl)) (pgs_cons (pg_name (i := 4) scNear.nd rfl (Or.inl rfl)) pgs_nil))) (fun _ _ _ _ _ => pts_one (pt_cmpR op_eq (pv 4) (pv 1) (nomark _))) (fun _ _ _ _ _ => pv 3))
      (pe_lc (own := [("one", 3), ("other", 4)]) (g := gTup _ 2 (gCons (gName 3) (gCons (gName 4) gNil))) rfl scNear.nd (pi_tup (pv 0)) (blkOk_by (N := ["ties", "place", "found", "one", "other"]) (sc := defScope sNear) (by decide +kernel))
        (fun _ _ _ _ _ => pg_tup rfl (pgs_cons (pg_name (i := 3) scNear.nd rfl (Or.inl rfl)) (pgs_cons (pg_name (i := 4) scNear.nd rfl (Or.inl rfl)) pgs_nil))) (fun _ _ _ _ _ => pts_one (pt_cmpR op_eq (pv 3) (pv 1) (nomark _))) (fun _ _ _ _ _ => pv 4))))
      (pss_one (ps_ret (pe_callB cr_sorted (by rfl) B.sorted (by decide +kernel) (pa_cons (pv 2) pa_nil)))), ?_⟩
    refine ⟨_, rfl, t, rfl, ?_⟩
    obtain ⟨as, ht, hp⟩ := id hw
    have hq : SqT K H t (as.map V.ref) := SqT.of ht
    refine ⟨⟨_, hq⟩, fun D1 hD1 => lc_fltT (K := K) ties (fun s => s.2 == p) (fun s => iv s.1) hq (by rw [List.length_map]; exact hp.1) (by omega) hD1 (fun i x y H1 acc Nx hx hy s1 hacc hz n1 n2 => ?_) (fun H1 s1 hD => ?_)⟩
    · obtain ⟨ad, had, rfl⟩ : ∃ ad, as[i]? = some ad ∧ x = V.ref ad := by
        rw [List.getElem?_map] at hx
        cases e : as[i]? with
        | none => rw [e] at hx; cases hx
        | some u => rw [e] at hx; exact ⟨u, rfl, (Option.some.inj hx).symm⟩
      have hpr := hp.2 i ad y had hy
      refine ⟨ad, _, rfl, SqT.of (s1 _ _ hpr), rfl, _, _, rfl, _, _, rfl, rfl, rfl, ?_⟩
      refine ⟨_, rfl, _, rfl, rfl, _, rfl, ?_⟩
      rw [dec_iv]
      refine ite2 (fun hb => ⟨_, rfl, acc, hacc, hz, n1 hb⟩) (fun hb => n2 (by simpa using hb))
    · have hq1 : SqT K H1 t (as.map V.ref) := same_seqT s1 hq
      refine ⟨_, rfl, t, rfl, ⟨_, hq1⟩, fun D2 hD2 => lc_fltT (K := K) ties (fun s => s.1 == p) (fun s => iv s.2) hq1 (by rw [List.length_map]; exact hp.1) (by omega) hD2 (fun i x y H2 acc Nx hx hy s2 hacc hz n1 n2 => ?_) (fun H2 s2 hE => ?_)⟩
      · obtain ⟨ad, had, rfl⟩ := get_ref hx
        have hpr := hp.2 i ad y had hy
        refine ⟨ad, _, rfl, SqT.of (s2 _ _ (s1 _ _ hpr)), rfl, _, _, rfl, _, _, rfl, rfl, rfl, ?_⟩
        refine ⟨_, rfl, _, rfl, rfl, _, rfl, ?_⟩
        rw [dec_iv]
        refine ite2 (fun hb => ⟨_, rfl, acc, hacc, hz, n1 hb⟩) (fun hb => n2 (by simpa using hb))
      · have hl : ∀ c : Sl → Bool, (ties.filter c).length ≤ 30 := fun c => Nat.le_trans (List.length_filter_le _ _) hlen
        have h1 := hl (fun s => s.2 == p)
        have h2 := hl (fun s => s.1 == p)
        refine ⟨D1, D2, _, _, rfl, rfl, s2 _ _ hD, hE, by simp only [List.length_map]; rw [sizeLine_eq]; omega, fun D3 hD3 => ?_⟩
        refine ⟨_, rfl, D3, (nearL ties p).map (fun n : Nat => (n : Int)), rfl, .inl (.inl (by rw [upd_same, ints_map]; unfold nearL; rw [List.map_append, List.map_map, List.map_map]; rfl)), by rw [List.length_map]; unfold nearL; rw [List.length_append, List.length_map, List.length_map]; omega, fun ns' l hpm hst hl => ?_⟩
        have s3 : Same H (upd H2 D3 _) := (s1.trans s2).trans (same_new (HO.lst (List.map (fun s => iv s.fst) (List.filter (fun s => s.snd == p) ties) ++ List.map (fun s => iv s.snd) (List.filter (fun s => s.fst == p) ties))) hD3)
        refine k l _ (s3.trans (same_new _ hl)) (s3.free hl) ?_
        rw [upd_same, sortN_ints hpm hst]
        rfl
end
end K15
set_option autoImplicit false
set_option linter.all false
/-! The plain law, third part: which places hang together. -/
namespace K15
def Conn (n : Nat) (ties : List Sl) : Prop := ∀ p, 0 < p → p < n → ∃ q, q < p ∧ (q, p) ∈ ties
theorem nodup_sub : ∀ {l m : List Nat}, l.Nodup → (∀ x ∈ l, x ∈ m) → l.length ≤ m.length
  | [], _, _, _ => Nat.zero_le _
  | a :: l, m, hn, hs => by
    have h1 := List.nodup_cons.mp hn
    have h2 : l.length ≤ (m.erase a).length := nodup_sub h1.2 fun x hx => (List.mem_erase_of_ne (fun e => h1.1 (by rw [← e]; exact hx))).mpr (hs x (List.mem_cons_of_mem _ hx))
    have h3 := List.length_erase_of_mem (hs a List.mem_cons_self)
    have h4 : 0 < m.length := List.length_pos_of_mem (hs a List.mem_cons_self)
    rw [List.length_cons]
    omega
structure HInv (ties : List Sl) (n : Nat) (found layer : List Nat) : Prop where
  nd : found.Nodup
  lt : ∀ x ∈ found, x < n
  zero : 0 ∈ found
  sub : ∀ x ∈ layer, x ∈ found
  cl : ∀ x ∈ found, x ∉ layer → ∀ y ∈ near ties x, y ∈ found
theorem HInv.start {ties : List Sl} {n : Nat} (h : 0 < n) : HInv ties n [0] [0] :=
  ⟨by simp, fun x hx => by simp at hx; omega, by simp, fun x hx => hx, fun x hx h => absurd hx h⟩
theorem HInv.done {ties : List Sl} {n : Nat} {found : List Nat} (I : HInv ties n found []) (C : Conn n ties) : found.length = n := by
  have all : ∀ p, p < n → p ∈ found := by
    intro p
    induction p using Nat.strongRecOn with
    | _ p ih =>
      intro hp
      by_cases h0 : p = 0
      · rw [h0]; exact I.zero
      · obtain ⟨q, hq, ht⟩ := C p (by omega) hp
        exact I.cl q (ih q hq (by omega)) (by simp) p (mem_near.mpr (.inr ht))
  have h1 : found.length ≤ n := nodup_bound n found I.nd I.lt
  have h2 : n ≤ found.length := by
    have : (List.range n).length ≤ found.length := by
      exact nodup_sub List.nodup_range fun x hx => all x (List.mem_range.mp hx)
    simpa using this
  omega
structure HMid (ties : List Sl) (n : Nat) (found0 pre nr found later : List Nat) : Prop where
  nd : found.Nodup
  lt : ∀ x ∈ found, x < n
  ext : found = found0 ++ later
  cl : ∀ x ∈ pre, ∀ y ∈ near ties x, y ∈ found
  nr : ∀ y ∈ nr, y ∈ found
theorem HMid.start {ties : List Sl} {n : Nat} {found layer : List Nat} (I : HInv ties n found layer) : HMid ties n found [] [] found [] := ⟨I.nd, I.lt, by simp, by simp, by simp⟩
theorem HMid.skip {ties : List Sl} {n : Nat} {found0 pre nr found later : List Nat} {y : Nat} (I : HMid ties n found0 pre nr found later) (h : y ∈ found) : HMid ties n found0 pre (nr ++ [y]) found later :=
  ⟨I.nd, I.lt, I.ext, I.cl, fun z hz => by
    rcases List.mem_append.mp hz with q | q
    · exact I.nr z q
    · rw [List.mem_singleton.mp q]; exact h⟩
theorem HMid.add {ties : List Sl} {n : Nat} {found0 pre nr found later : List Nat} {y : Nat} (I : HMid ties n found0 pre nr found later) (h : y ∉ found) (hy : y < n) : HMid ties n found0 pre (nr ++ [y]) (found ++ [y]) (later ++ [y]) where
  nd := List.nodup_append.mpr ⟨I.nd, by simp, fun a ha b hb e => by rw [List.mem_singleton.mp hb] at e; rw [e] at ha; exact h ha⟩
  lt := fun x hx => by
    rcases List.mem_append.mp hx with q | q
    · exact I.lt x q
    · rw [List.mem_singleton.mp q]; exact hy
  ext := by rw [I.ext]; simp
  cl := fun x hx z hz => List.mem_append_left _ (I.cl x hx z hz)
  nr := fun z hz => by
    rcases List.mem_append.mp hz with q | q
    · exact List.mem_append_left _ (I.nr z q)
    · exact List.mem_append_right _ q
theorem HMid.turn {ties : List Sl} {n : Nat} {found0 pre found later : List Nat} {x : Nat} (I : HMid ties n found0 pre (near ties x) found later) : HMid ties n found0 (pre ++ [x]) [] found later :=
  ⟨I.nd, I.lt, I.ext, fun z hz y hy => by
    rcases List.mem_append.mp hz with q | q
    · exact I.cl z q y hy
    · rw [List.mem_singleton.mp q] at hy; exact I.nr y hy, by simp⟩
theorem HMid.next {ties : List Sl} {n : Nat} {found0 layer found later : List Nat} (I0 : HInv ties n found0 layer) (I : HMid ties n found0 layer [] found later) : HInv ties n found later where
  nd := I.nd
  lt := I.lt
  zero := by rw [I.ext]; exact List.mem_append_left _ I0.zero
  sub := fun x hx => by rw [I.ext]; exact List.mem_append_right _ hx
  cl := fun x hx hl y hy => by
    rw [I.ext] at hx
    rcases List.mem_append.mp hx with q | q
    · by_cases h : x ∈ layer
      · exact I.cl x h y hy
      · rw [I.ext]; exact List.mem_append_left _ (I0.cl x q h y hy)
    · exact absurd q hl
def hmeas (n : Nat) (found layer : List Nat) : Nat := 2 * (n - found.length) + (if layer = [] then 0 else 1)
theorem HMid.less {ties : List Sl} {n : Nat} {found0 layer found later : List Nat} (hl : layer ≠ []) (I : HMid ties n found0 layer [] found later) : hmeas n found later < hmeas n found0 layer := by
  have h1 : found.length ≤ n := nodup_bound n found I.nd I.lt
  have h2 : found.length = found0.length + later.length := by rw [I.ext, List.length_append]
  unfold hmeas
  rw [if_neg hl]
  by_cases h : later = []
  · rw [if_pos h, h2, h]; simp
  · rw [if_neg h]
    have : 0 < later.length := List.length_pos_iff.mpr h
    omega
end K15
set_option autoImplicit false
set_option linter.all false
set_option Elab.async false
set_option maxRecDepth 100000
set_option maxHeartbeats 2000000
/-! The program's defs, third part: hanging. -/
namespace K15
open PySem PySem.Spec PyProof.Rows L2
abbrev sHang : Stmt := top 15
def dkv (l : List Nat) : List (Key × V) := l.map fun n : Nat => (Sum.inl (n : Int), .bl true)
theorem dkv_any (l : List Nat) (y : Nat) : ((dkv l).any fun kv => decide (kv.1 = (Sum.inl (y : Int) : Key))) = decide (y ∈ l) := by
  unfold dkv
  rw [List.any_map, Bool.eq_iff_iff, List.any_eq_true, decide_eq_true_eq]
  constructor
  · rintro ⟨n, hn, h⟩
    have h2 : (Sum.inl (n : Int) : Key) = Sum.inl (y : Int) := of_decide_eq_true h
    injection h2 with h2
    have : n = y := Int.ofNat.inj h2
    rw [← this]; exact hn
  · intro h
    exact ⟨y, h, decide_eq_true rfl⟩
theorem dkv_val (l : List Nat) (y : Nat) : (valV (dkv l) (Sum.inl (y : Int))).isSome = decide (y ∈ l) := by rw [← valV_any, dkv_any]
theorem dkv_put (l : List Nat) (y : Nat) (h : y ∉ l) : putK (dkv l) (Sum.inl (y : Int)) (.bl true) = dkv (l ++ [y]) := by
  unfold putK
  rw [dkv_any, decide_eq_false h, if_neg Bool.false_ne_true]
  unfold dkv
  rw [List.map_append]; rfl
def spHang : Sp := fun vs H Q _ => ∃ (t e : Addr) (n : Nat) (ties : List Sl), vs = [iv n, .ref t, .int 0, .ref e] ∧ WdAt H t ties ∧ H e = some (.tup []) ∧ ties.length ≤ 30 ∧ TiesOk n ties ∧ 0 < n ∧ n ≤ 7 ∧ Conn n ties ∧
  ∀ (l : Addr) (xs : List V) (H' : Hp), Same H H' → H' l = some (.lst xs) → xs.length = n → Q (.ref l) H'
section
variable {P : Program} {w : World} {K : PySem.W.Frag} {mg : Str → Option Value} {base : Heap}
theorem scHang : FnScope ["places", "ties", "place", "without", "found", "layer", "later", "one", "other"] ["places", "ties", "place", "without"] (defScope sHang) := ⟨rfl, rfl, rfl, by decide +kernel, rfl, by decide +kernel, by decide +kernel⟩
theorem ok_hang {f fN : Addr} {fd fdN : FuncData} (F : Fun K "hanging" "hanging" sHang f fd) (B : Bl mg) (N : Dn P w K mg base CX0 1 "near" ["ties", "place"] spNear fN fdN) : FnOk P w K mg base CX0 2 f fd ["places", "ties", "place", "without"] spHang := by
  refine F.ok scHang (fun vs H Q E h => ?_) (fun cdv A outer s H vs Q E hr h => ?_)
  · obtain ⟨t, e, n, ties, rfl, _⟩ := h
    rfl
  · obtain ⟨t, e, n, ties, rfl, hw, he, hlen, hT, hn0, hn7, hC, k⟩ := h
    refine ⟨_, pss_cons (ps_par (i := 4) (j := 5) rfl scHang.nd rfl rfl (by decide) rfl rfl (pa_cons (pe_disp (pps_cons (pv 2) pe_bl pps_nil) rfl rfl (fun z => nomatch z) (by decide)) (pa_cons (pe_lst (pa_cons (pv 2) pa_nil)) pa_nil)) (by rfl))
      (pss_cons (ps_while PassesOwn.never (pt_truth (pv 5) (by intro _; rfl))
        (pss_cons (ps_set (i := 6) scHang.nd rfl (Or.inl rfl) (pe_lst pa_nil))
          (pss_cons (ps_for PassesOwn.never rfl (pi_list (pv 5)) (pg_name (i := 7) scHang.nd rfl (Or.inl rfl))
            (pss_one (ps_for PassesOwn.never rfl (pi_list (pe_call N.ok hr rfl N.mgf N.kp N.b .nil pass0 (pa_cons (pv 1) (pa_cons (pv 7) pa_nil)))) (pg_name (i := 8) scHang.nd rfl (Or.inl rfl))
              (pss_one (ps_if (PW.pt (pw_and (pt_cmpR op_notIn_seq (pv 8) (pv 3) (by rfl)) (pw_and1 (pt_cmp (pc_dnotin (hu_of hr) (pv 8) (pv 4))))))
                (pss_cons (ps_dput (hu_of hr) (pv 4) (pv 8) pe_bl rfl) (pss_one (ps_expr (pe_bm PySem.F.plainAttrs_list PySem.F.slot_list_append PySem.F.type_list_append mt_append (pv 6) (pa_cons (pv 8) pa_nil))))) pss_nil)))))
            (pss_one (ps_set (i := 5) scHang.nd rfl (Or.inl rfl) (pv 6))))))
        (pss_one (ps_ret (pe_callB (call_sortedDI rfl) (by rfl) B.sorted (by decide +kernel) (pa_cons (pv 4) pa_nil))))), ?_⟩
    refine fun d hd => ?_
    refine ⟨_, rfl, upd_same, [(Sum.inl 0, .bl true)], rfl, by decide, ?_⟩
    refine ⟨_, rfl, by show 1 ≤ sizeLine; decide, fun L hL => ?_⟩
    have hLd : L ≠ d := fun z => by rw [z, upd_same] at hL; cases hL
    have hL0 : H L = none := by rw [upd_ne hLd, upd_ne hLd] at hL; exact hL
    refine ⟨_, _, rfl, ?_⟩
    let St0 : Addr → Option V → Option V → Option V → L2.St := fun L v6 v7 v8 => [some (iv n), some (.ref t), some (.int 0), some (.ref e), some (.ref d), some (.ref L), v6, v7, v8]
    refine ⟨fun m σ H' => ∃ (found layer : List Nat) (L : Addr) (v6 v7 v8 : Option V), σ = St0 L v6 v7 v8 ∧ m = hmeas n found layer ∧ Same H H' ∧ H' d = some (.dK (dkv found)) ∧ H' L = some (.lst (layer.map iv)) ∧ H L = none ∧ HInv ties n found layer,
      ⟨_, [0], [0], L, none, none, none, rfl, rfl, fun b u eb => (by rw [upd_ne (ne_of_none eb hL0), upd_ne (ne_of_none eb hd), upd_ne (ne_of_none eb hd)]; exact eb), ?_, upd_same, hL0, HInv.start hn0⟩, ?_⟩
    · rw [upd_ne hLd.symm, upd_same]; rfl
    rintro m σ H' ⟨found, layer, L, v6, v7, v8, rfl, rfl, s0, hd1, hL1, hL2, I⟩
    have hfl : found.length ≤ n := nodup_bound n found I.nd I.lt
    refine ⟨_, rfl, _, .inl ⟨_, .inl (.inl hL1), rfl⟩, ?_⟩
    refine ite2 (fun hb => ?_) (fun hb => ?_)
    · have hlay : layer ≠ [] := fun z => by rw [z] at hb; exact Bool.false_ne_true hb
      refine ⟨fun σ' H'' => ∃ m', m' < hmeas n found layer ∧ ∃ (found layer : List Nat) (L : Addr) (v6 v7 v8 : Option V), σ' = St0 L v6 v7 v8 ∧ m' = hmeas n found layer ∧ Same H H'' ∧ H'' d = some (.dK (dkv found)) ∧ H'' L = some (.lst (layer.map iv)) ∧ H L = none ∧ HInv ties n found layer, fun σ' H'' z => z, ?_⟩
      -- later = []
      refine ⟨Nat.zero_le _, fun R hR => ?_⟩
      have hR0 : H R = none := s0.free hR
      have hRd : R ≠ d := fun z => by rw [z, hd1] at hR; cases hR
      have hRL : R ≠ L := fun z => by rw [z, hL1] at hR; cases hR
      have hdL : d ≠ L := fun z => by rw [z, hL1] at hd1; cases hd1
      -- for one in layer
      refine ⟨_, rfl, L, rfl, ⟨_, .inl (.inl (by rw [upd_ne hRL.symm]; exact hL1))⟩, for_list (K := K) (a := L) (xs := layer.map iv)
        (fun i σ H'' => ∃ (fd' later : List Nat) (v7 v8 : Option V), σ = St0 L (some (.ref R)) v7 v8 ∧ Same H H'' ∧ H'' d = some (.dK (dkv fd')) ∧ H'' L = some (.lst (layer.map iv)) ∧ H'' R = some (.lst (later.map iv)) ∧ HMid ties n found (layer.take i) [] fd' later)
        ⟨found, [], v7, v8, rfl, s0.trans (same_new _ hR), by rw [upd_ne hRd.symm]; exact hd1, by rw [upd_ne hRL.symm]; exact hL1, upd_same, HMid.start I⟩ (fun i σ H'' _ ⟨_, _, _, _, _, _, _, q, _⟩ => .inl (.inl q)) ?_ ?_⟩
      · rintro i y σ H1 hi ⟨fd', later, v7, v8, rfl, s1, hd2, hL3, hR2, M⟩
        obtain ⟨x, hx, rfl⟩ : ∃ x, layer[i]? = some x ∧ y = iv x := by
          rw [List.getElem?_map] at hi
          cases e : layer[i]? with
          | none => rw [e] at hi; cases hi
          | some u => rw [e] at hi; exact ⟨u, rfl, (Option.some.inj hi).symm⟩
        -- for other in near(ties, one)
        refine ⟨_, rfl, _, rfl, t, x, ties, rfl, hw.same s1, hlen, fun l H2 s2 hl0 hl2 => ?_⟩
        have hlF : H l = none := s1.free hl0
        have hld : l ≠ d := fun z => by rw [z, hd2] at hl0; cases hl0
        have hlL : l ≠ L := fun z => by rw [z, hL3] at hl0; cases hl0
        have hlR : l ≠ R := fun z => by rw [z, hR2] at hl0; cases hl0
        refine ⟨l, rfl, ⟨_, .inl (.inl hl2)⟩, for_list (K := K) (a := l) (xs := (near ties x).map iv)
          (fun j σ H'' => ∃ (fd' later : List Nat) (v8 : Option V), σ = St0 L (some (.ref R)) (some (iv x)) v8 ∧ Same H H'' ∧ H'' d = some (.dK (dkv fd')) ∧ H'' L = some (.lst (layer.map iv)) ∧ H'' R = some (.lst (later.map iv)) ∧ H'' l = some (.lst ((near ties x).map iv)) ∧ HMid ties n found (layer.take i) ((near ties x).take j) fd' later)
          ⟨fd', later, v8, rfl, s1.trans s2, s2 _ _ hd2, s2 _ _ hL3, s2 _ _ hR2, hl2, M⟩ (fun i σ H'' _ ⟨_, _, _, _, _, _, _, _, q, _⟩ => .inl (.inl q)) ?_ ?_⟩
        · rintro j y σ H3 hj ⟨fd', later, v8, rfl, s3, hd3, hL4, hR3, hl3, M⟩
          obtain ⟨o, ho, rfl⟩ : ∃ o, (near ties x)[j]? = some o ∧ y = iv o := by
            rw [List.getElem?_map] at hj
            cases e : (near ties x)[j]? with
            | none => rw [e] at hj; cases hj
            | some u => rw [e] at hj; exact ⟨u, rfl, (Option.some.inj hj).symm⟩
          have hon : o < n := near_lt hT (List.mem_of_getElem? ho)
          have hf7 : fd'.length ≤ n := nodup_bound n fd' M.nd M.lt
          have hlat : later.length ≤ fd'.length := by rw [M.ext, List.length_append]; omega
          refine ⟨_, rfl, _, rfl, e, [], rfl, .inr (SqT.of (s3 _ _ he)), rfl, rfl, true, rfl, iteT ?_⟩
          refine ⟨_, rfl, _, rfl, d, _, rfl, DGet.k (k := Sum.inl (o : Int)) hd3, _, rfl, ?_⟩
          rw [dkv_val]
          by_cases hof : o ∈ fd'
          · rw [decide_eq_true hof]
            refine iteF ⟨fd', later, _, rfl, s3, hd3, hL4, hR3, hl3, ?_⟩
            rw [take_succ ho]
            exact M.skip hof
          · rw [decide_eq_false hof]
            refine iteT ?_
            refine ⟨_, rfl, _, rfl, d, _, rfl, DPut.k (k := Sum.inl (o : Int)) hd3 (by unfold dkv; rw [List.length_map, sizeLine_eq]; omega), ?_⟩
            rw [dkv_put _ _ hof]
            have hR4 : upd H3 d (.dK (dkv (fd' ++ [o]))) R = some (.lst (later.map iv)) := by rw [upd_ne hRd]; exact hR3
            refine ⟨_, rfl, .inl ⟨rfl, _, .inl (.inl hR4)⟩, _, rfl, R, _, _, rfl, rfl, hR4, by rw [List.length_map, sizeLine_eq]; omega, ?_⟩
            refine ⟨fd' ++ [o], later ++ [o], _, rfl, fun b u eb => ?_, ?_, ?_, ?_, ?_, ?_⟩
            · rw [upd_ne (ne_of_none eb hR0), upd_ne (ne_of_none eb hd)]; exact s3 b u eb
            · rw [upd_ne hRd.symm, upd_same]
            · rw [upd_ne hRL.symm, upd_ne hdL.symm]; exact hL4
            · rw [upd_same, List.map_append]; rfl
            · rw [upd_ne hlR, upd_ne hld]; exact hl3
            · rw [take_succ ho]; exact M.add hof hon
        · rintro σ H3 ⟨fd', later, v8, rfl, s3, hd3, hL4, hR3, hl3, M⟩
          rw [List.length_map, List.take_length] at M
          exact ⟨fd', later, _, _, rfl, s3, hd3, hL4, hR3, by rw [take_succ hx]; exact M.turn⟩
      · rintro σ H1 ⟨fd', later, v7, v8, rfl, s1, hd2, hL3, hR2, M⟩
        rw [List.length_map, List.take_length] at M
        exact ⟨_, rfl, _, M.less hlay, fd', later, R, _, _, _, rfl, rfl, s1, hd2, hR2, hR0, M.next I⟩
    · have hlay : layer = [] := by
        cases layer with
        | nil => rfl
        | cons a b => exact absurd rfl hb
      subst hlay
      have hfin := I.done hC
      refine ⟨_, rfl, d, dkv found, found.map (fun n : Nat => (n : Int)), rfl, .inl hd1, ?_, by rw [List.length_map]; omega, fun ys p hpm hst hp => ?_⟩
      · unfold dkv; rw [List.map_map, List.map_map]; rfl
      · refine k p _ _ (s0.trans (same_new _ hp)) upd_same ?_
        rw [List.length_map, hpm.length_eq, List.length_map]
        exact hfin
end
end K15
set_option autoImplicit false
set_option linter.all false
set_option Elab.async false
set_option maxRecDepth 100000
/-! The order of words as data is the order of their codes. -/
namespace K15
open PySem PySem.W
def slD (s : Sl) : PyData := .tuple [.int (s.1 : Int), .int (s.2 : Int)]
def wD (w : Wd) : PyData := .tuple (w.map slD)
def prD (w : Wd) : PyData := .tuple [.int (w.length : Int), wD w]
theorem eqv_int (a b : Int) : PyData.eqv (.int a) (.int b) = decide (a = b) := by
  simp only [PyData.eqv]
  by_cases h : a = b <;> simp [h]
theorem eqv_tup (xs ys : List PyData) : PyData.eqv (.tuple xs) (.tuple ys) = PyData.eqvAll xs ys := by simp only [PyData.eqv]
theorem eqvAll_nil : PyData.eqvAll [] [] = true := by simp only [PyData.eqvAll]
theorem eqvAll_cons (x y : PyData) (xs ys : List PyData) : PyData.eqvAll (x :: xs) (y :: ys) = (PyData.eqv x y && PyData.eqvAll xs ys) := by simp only [PyData.eqvAll]
theorem sl_alike (s t : Sl) : alike (slD s) (slD t) = true := by unfold slD; simp [alike, alikeAll]
theorem ws_alike : ∀ (u v : Wd), alikeAll (u.map slD) (v.map slD) = true
  | [], _ => by simp [alikeAll]
  | _ :: _, [] => by simp [alikeAll]
  | s :: u, t :: v => by
    show alikeAll (slD s :: u.map slD) (slD t :: v.map slD) = true
    rw [alikeAll, sl_alike, ws_alike u v]; rfl
theorem w_alike (u v : Wd) : alike (wD u) (wD v) = true := by unfold wD; rw [alike]; exact ws_alike u v
theorem pr_alike (u v : Wd) : alike (prD u) (prD v) = true := by
  unfold prD
  rw [alike, alikeAll, alikeAll, w_alike]
  simp [alike, alikeAll]
theorem sl_eqv (s t : Sl) : PyData.eqv (slD s) (slD t) = decide (s = t) := by
  unfold slD
  rw [eqv_tup, eqvAll_cons, eqvAll_cons, eqvAll_nil, eqv_int, eqv_int, Bool.and_true]
  by_cases h : s = t
  · rw [h]; simp
  · rw [decide_eq_false h]
    by_cases h1 : (s.1 : Int) = (t.1 : Int)
    · have h2 : ¬ (s.2 : Int) = (t.2 : Int) := fun z => h (Prod.ext (by omega) (by omega))
      rw [decide_eq_false h2, Bool.and_false]
    · rw [decide_eq_false h1, Bool.false_and]
theorem sl_lt {s t : Sl} (hs : SlOk s) (ht : SlOk t) (hn : s ≠ t) : dataLt (slD s) (slD t) = decide (dig s < dig t) := by
  have h8 := hs.2; have h8' := ht.2
  unfold slD dig
  rw [dataLt_tuple]
  by_cases h1 : s.1 = t.1
  · rw [h1, dataLt_all_yes (by simp [alike]) (by rw [eqv_int]; simp)]
    have h2 : ¬ (s.2 : Int) = (t.2 : Int) := fun z => hn (Prod.ext h1 (by omega))
    rw [dataLt_all_no (by simp [alike]) (by rw [eqv_int]; exact decide_eq_false h2), dataLt_int]
    rw [decide_eq_decide]; omega
  · rw [dataLt_all_no (by simp [alike]) (by rw [eqv_int]; exact decide_eq_false (by omega)), dataLt_int]
    rw [decide_eq_decide]; omega
/-- the code from c on -/
def codeF (c : Nat) (w : Wd) : Nat := w.foldl (fun c s => 64 * c + dig s) c
theorem codeF_cons (c : Nat) (s : Sl) (w : Wd) : codeF c (s :: w) = codeF (64 * c + dig s) w := rfl
theorem codeF_lt : ∀ (u v : Wd) (c c' : Nat), u.length = v.length → WdOk u → WdOk v → c < c' → codeF c u < codeF c' v
  | [], [], c, c', _, _, _, h => h
  | s :: u, t :: v, c, c', hl, hu, hv, h => by
    rw [codeF_cons, codeF_cons]
    refine codeF_lt u v _ _ (by simpa using hl) (fun x hx => hu x (List.mem_cons_of_mem _ hx)) (fun x hx => hv x (List.mem_cons_of_mem _ hx)) ?_
    have := dig_lt (hu s List.mem_cons_self)
    have := dig_lt (hv t List.mem_cons_self)
    omega
  | [], _ :: _, _, _, hl, _, _, _ => absurd hl (by simp)
  | _ :: _, [], _, _, hl, _, _, _ => absurd hl (by simp)
theorem ws_lt : ∀ (u v : Wd) (c : Nat), u.length = v.length → WdOk u → WdOk v → PyProof.Rows.lexLt PyProof.Rows.itemOrd (keyToksAll (u.map slD)) (keyToksAll (v.map slD)) = decide (codeF c u < codeF c v)
  | [], [], c, _, _, _ => by
    have e : PyProof.Rows.lexLt PyProof.Rows.itemOrd (keyToksAll ([] : List PyData)) (keyToksAll []) = false := PyProof.Rows.lex_irrefl (O := PyProof.Rows.itemOrd) _
    show PyProof.Rows.lexLt PyProof.Rows.itemOrd (keyToksAll []) (keyToksAll []) = _
    rw [e]
    simp [codeF]
  | s :: u, t :: v, c, hl, hu, hv => by
    show PyProof.Rows.lexLt PyProof.Rows.itemOrd (keyToksAll (slD s :: u.map slD)) (keyToksAll (slD t :: v.map slD)) = _
    have hs := hu s List.mem_cons_self
    have ht := hv t List.mem_cons_self
    have hu' : WdOk u := fun x hx => hu x (List.mem_cons_of_mem _ hx)
    have hv' : WdOk v := fun x hx => hv x (List.mem_cons_of_mem _ hx)
    have hl' : u.length = v.length := by simpa using hl
    rw [codeF_cons, codeF_cons]
    by_cases h : s = t
    · subst h
      rw [dataLt_all_yes (sl_alike s s) (by rw [sl_eqv]; simp)]
      exact ws_lt u v _ hl' hu' hv'
    · rw [dataLt_all_no (sl_alike s t) (by rw [sl_eqv]; exact decide_eq_false h), sl_lt hs ht h, decide_eq_decide]
      have hd : dig s ≠ dig t := fun z => h (dig_inj hs ht z)
      constructor
      · intro q
        exact codeF_lt u v _ _ hl' hu' hv' (by omega)
      · intro q
        rcases Nat.lt_or_ge (dig s) (dig t) with z | z
        · exact z
        · have := codeF_lt v u (64 * c + dig t) (64 * c + dig s) hl'.symm hv' hu' (by omega)
          omega
  | [], _ :: _, _, hl, _, _ => absurd hl (by simp)
  | _ :: _, [], _, hl, _, _ => absurd hl (by simp)
theorem w_lt {u v : Wd} (hl : u.length = v.length) (hu : WdOk u) (hv : WdOk v) : dataLt (wD u) (wD v) = decide (code u < code v) := by
  unfold wD
  rw [dataLt_tuple]
  exact ws_lt u v 1 hl hu hv
theorem ws_eqv : ∀ (u v : Wd), u.length = v.length → PyData.eqvAll (u.map slD) (v.map slD) = decide (u = v)
  | [], [], _ => by show PyData.eqvAll [] [] = _; rw [eqvAll_nil]; simp
  | s :: u, t :: v, hl => by
    show PyData.eqvAll (slD s :: u.map slD) (slD t :: v.map slD) = _
    rw [eqvAll_cons, sl_eqv, ws_eqv u v (by simpa using hl)]
    by_cases h : s = t <;> by_cases h2 : u = v <;> simp [h, h2]
  | [], _ :: _, hl => absurd hl (by simp)
  | _ :: _, [], hl => absurd hl (by simp)
theorem pr_lt {u v : Wd} (hu : WdOk u) (hv : WdOk v) : dataLt (prD u) (prD v) = decide (code u < code v) := by
  unfold prD
  rw [dataLt_tuple]
  by_cases h : u.length = v.length
  · rw [h, dataLt_all_yes (by simp [alike]) (by rw [eqv_int]; simp)]
    by_cases e : u = v
    · subst e
      rw [PyProof.Rows.lex_irrefl (O := PyProof.Rows.itemOrd)]
      simp
    · rw [dataLt_all_no (w_alike u v) (by unfold wD; rw [eqv_tup, ws_eqv u v h]; exact decide_eq_false e)]
      exact w_lt h hu hv
  · rw [dataLt_all_no (by simp [alike]) (by rw [eqv_int]; exact decide_eq_false (by omega)), dataLt_int, decide_eq_decide]
    constructor
    · intro q; exact code_len hu hv (by omega)
    · intro q
      rcases Nat.lt_or_ge u.length v.length with z | z
      · omega
      · have := code_len hv hu (by omega)
        omega
theorem wD_depth (w : Wd) : (wD w).depth ≤ 3 := by
  have h1 : ∀ u : Wd, PyData.depthAll (u.map slD) ≤ 2 := fun u => by
    induction u with
    | nil => simp [PyData.depthAll]
    | cons s u ih =>
      rw [List.map_cons, PyData.depthAll]
      have : (slD s).depth ≤ 2 := by unfold slD; simp [PyData.depth, PyData.depthAll]
      omega
  unfold wD
  have := h1 w
  simp only [PyData.depth]
  omega
theorem prD_depth (w : Wd) : (prD w).depth ≤ 4 := by
  have := wD_depth w
  unfold prD
  simp only [PyData.depth, PyData.depthAll]
  omega
end K15
set_option autoImplicit false
set_option linter.all false
set_option Elab.async false
set_option maxRecDepth 100000
set_option maxHeartbeats 2000000
/-! Rules of our own, fourth part: tuples locked, their methods; least and sorted of data. -/
namespace K15
open PySem PySem.Spec PyProof.Rows L2
/-- a locked tuple whose object has no dict -/
def FzAt (H : Hp) (a : Addr) (xs : List V) : Prop := ∃ o : Obj, H a = some (.frz o (.tup xs)) ∧ o.cls = .type "tuple" ∧ o.dict = none
theorem FzAt.tup {H : Hp} {a : Addr} {xs : List V} (h : FzAt H a xs) : TupH H a xs := let ⟨o, e, _⟩ := h; .inr ⟨o, e⟩
theorem FzAt.same {H H' : Hp} {a : Addr} {xs : List V} (h : FzAt H a xs) (e : ∀ o, H a = some o → H' a = some o) : FzAt H' a xs := let ⟨o, q, r⟩ := h; ⟨o, e _ q, r⟩
section
variable {X : Cx} {pos : Pos}
/-- tuple(xs): locked at once -/
theorem call_tuple_fz : CallR X (.type "tuple") (fun xs H Q => ∃ p ys, xs = [.ref p] ∧ SqL X.K H p ys ∧ ∀ (l : Addr) (H' : Hp), H l = none → Same H H' → FzAt H' l ys → Q (.ref l) H') := by
  intro pins s σ H xs us Q I r h
  obtain ⟨p, ys, rfl, hq, q⟩ := h
  obtain ⟨u, rfl, rx⟩ := vals1 r
  cases rx
  obtain ⟨its, r', pl, hz⟩ := I.list hq
  have hlen := r'.length
  refine call_tuple_list pl.isList (fun h' kp => ?_) (by simp only [List.size_toArray] <;> omega)
  have I1 : Inv X pins σ H { s with heap := h' } := I.kept (t' := s.toks) kp
  have hn := I1.hok.fresh (Nat.le_refl _)
  have I2 : Inv X pins σ (upd H h'.objs.size (.frz { cls := .type "tuple", data := .seq its.toArray } (.tup ys))) { s with heap := h'.push { cls := .type "tuple", data := .seq its.toArray } } :=
    I1.laid (t' := s.toks) (fun b o e => Heap.get?_push_of_some _ e) (Nat.le_refl _) (show ObjOk X.prog X.w _ _ _ (.frz _ (.tup ys)) from ⟨Heap.get?_push_size _ rfl, hz, its, r', IsTup.new _ _⟩)
  exact ⟨.ref h'.objs.size, _, I2, rfl, q _ _ hn (same_new _ hn) ⟨_, upd_same, rfl, rfl⟩⟩
/-! ### methods of a locked tuple -/
def tBMT (r : V → List V → Hp → VK → Prop) (to : TE) (t : TA) : TE := fun σ H Q => to σ H fun x H1 => (∃ p ys, x = .ref p ∧ FzAt H1 p ys) ∧ t σ H1 fun xs H2 => r x xs H2 Q
theorem pe_bmT {o e : Expr} {es : List Expr} {to : TE} {t : TA} {name : Str} {apos cpos : Pos} {id : String} {r : V → List V → Hp → VK → Prop} (slot : Slot "tuple" name id) (hty : typeOf (.builtin id) = pure (.type "method_descriptor")) (hm : MtR X id r) (ho : PE X o to) (ha : PA X (e :: es) t)
    (hbase : attributeBase o name X.env (eval o X.env) = eval o X.env := by rfl)
    (hfew : ((backTo cpos (starEach (e :: es) X.env)).all (fun x => !x.1) && (backToKw cpos (keywordEach [] X.env)).all (fun x => x.1.isSome)
      && decide ((e :: es).length + ([] : List Keyword).length + (if ([] : List Keyword).isEmpty then 0 else 1) < 30)) = true := by rfl)
    (hline : (apos.endLine == cpos.line) = true := by rfl) (hs : starEach (e :: es) X.env = (false, eval e X.env) :: starEach es X.env := by rfl) (hplain : (backTo cpos (starEach es X.env)).any (·.1) = false := by rfl) :
    PE X (.Call (.Attribute o name apos) (e :: es) [] cpos) (tBMT r to t) := by
  refine ⟨fun pins s σ H Q I h => ?_⟩
  refine wpAny_Call_method_late hbase hfew hline rfl (thn (ho.run pins s σ H _ I h) fun v s1 ⟨x, H1, I1, r1, ⟨p, ys, ex, ob, hob, hcl, hdi⟩, q1⟩ => ?_)
  subst ex
  cases r1
  obtain ⟨h0, _⟩ := I1.hok p _ hob
  refine ⟨"tuple", id, PySem.F.plainAttrs_tuple, slot, hty, ⟨ob, h0, hcl⟩, fun a ea => ?_, ?_⟩
  · cases ea
    exact ⟨ob, h0, hdi⟩
  have hA := ha.run cpos pins s1 σ H1 _ I1 q1
  rw [hs] at hA ⊢
  refine Calls.callWith_builtin (by show (false || (backTo cpos (starEach es X.env)).any (·.1)) = false; rw [hplain] <;> rfl) (Calls.evalArgs_plain ?_)
  exact thn hA fun us s2 ⟨vs, H2, I2, r2, q2⟩ => hm pins s2 σ H2 (.ref p) vs (.ref p) us Q I2 rfl r2 q2
/-! standings as data -/
def oD : Option Nat → PyData
  | none => .none
  | some b => .int (b : Int)
theorem sd_dp {K : PySem.W.Frag} {H : Hp} : ∀ t : Sd, DpAll K H (t.map ov) (t.map oD)
  | [] => .nil
  | none :: t => .cons .non (sd_dp t)
  | some b :: t => .cons (.int _) (sd_dp t)
theorem sd_plain : ∀ t : Sd, PyData.plainAll (t.map oD) = true
  | [] => rfl
  | none :: t => by rw [List.map_cons, PyData.plainAll, sd_plain t]; rfl
  | some b :: t => by rw [List.map_cons, PyData.plainAll, sd_plain t]; rfl
theorem oD_eqv (o : Option Nat) : PyData.eqv (oD o) .none = (o == none) := by cases o <;> simp [oD, PyData.eqv]
theorem sd_count (t : Sd) : (t.map oD).countP (fun y => PyData.eqv y .none) = t.count none := by
  rw [List.countP_map]
  unfold List.count
  exact List.countP_congr fun o _ => by rw [Function.comp, oD_eqv]
theorem sd_flat (t : Sd) : (t.map ov).all flatV = true := by
  rw [List.all_eq_true]
  intro x hx
  obtain ⟨o, _, rfl⟩ := List.mem_map.mp hx
  cases o <;> rfl
def rCountN (K : PySem.W.Frag) : V → List V → Hp → VK → Prop := fun x xs H Q => ∃ (p : Addr) (t : Sd), x = .ref p ∧ xs = [.non] ∧ TupH H p (t.map ov) ∧ Q (.int (t.count none : Nat)) H
theorem mt_countN (hu : X.A.units + 65 < cLine) : MtR X "tuple.count" (rCountN X.K) := by
  intro p0 s0 v0 H0 x xs v us Q J rx rxs q
  obtain ⟨p, t, rfl, rfl, ht, q⟩ := q
  cases rx
  obtain ⟨u, rfl, r1⟩ := vals1 rxs
  cases r1
  obtain ⟨its, rv, pl, _⟩ := J.tuple (ht.sq (K := X.K))
  obtain ⟨as, ra⟩ := Dp.readsAll J _ _ _ (sd_dp t) rv
  refine SeqAt.count_tuple_data (d := .none) (xs := t.map oD) (bs := []) pl (by simpa using ra) Reads.none (sd_plain t) rfl (by simp only [PyData.depth]; omega) ?_
  rw [sd_count]
  exact ⟨.int _, H0, J.tok _, ⟨_, rfl⟩, q⟩
def rIndexN (K : PySem.W.Frag) : V → List V → Hp → VK → Prop := fun x xs H Q => ∃ (p : Addr) (t : Sd), x = .ref p ∧ xs = [.non] ∧ TupH H p (t.map ov) ∧ none ∈ t ∧ ∀ j : Nat, t[j]? = some none → Q (.int (j : Nat)) H
theorem mt_indexN : MtR X "tuple.index" (rIndexN X.K) := by
  intro p0 s0 v0 H0 x xs v us Q J rx rxs q
  obtain ⟨p, t, rfl, rfl, ht, hm, q⟩ := q
  cases rx
  obtain ⟨u, rfl, r1⟩ := vals1 rxs
  cases r1
  obtain ⟨its, rv, pl, _⟩ := J.tuple (ht.sq (K := X.K))
  have hl : its.length = t.length := by rw [← rv.length, List.length_map]
  refine SeqAt.call_tuple_index (k := (none : Option Nat)) (ks := t) (vs := its) pl ⟨hl, fun j h1 h2 => ?_⟩ hm ⟨.int _, H0, J.tok _, ⟨_, rfl⟩, q _ ?_⟩
  rotate_left
  · have hlt := @List.idxOf_lt_length_of_mem (Option Nat) none instBEqOfDecidableEq _ t hm
    exact (List.getElem?_eq_getElem hlt).trans (congrArg some (@List.getElem_idxOf (Option Nat) instBEqOfDecidableEq _ none t hlt))
  have hx : (t.map ov)[j]? = some (ov t[j]) := by rw [List.getElem?_map, List.getElem?_eq_getElem h2]; rfl
  obtain ⟨w1, ew, rw1⟩ := rv.get hx
  rw [List.getElem?_eq_getElem h1] at ew
  have ew := Option.some.inj ew
  have e := mem_eqAt (A := X.A.in1) (s := s0) (x := .non) (v := Value.none) rfl rfl rv (sd_flat t) its[j] (List.getElem_mem h1)
  have e2 : eqU .non its[j] = decide (t[j] = none) := by
    rw [ew]
    cases e3 : t[j] with
    | none => rw [e3] at rw1; obtain rfl : w1 = Value.none := rw1; rfl
    | some b => rw [e3] at rw1; obtain ⟨tk, rfl⟩ := rw1; rfl
  rw [e2] at e
  exact e
/-- x not in t, t a tuple of data -/
def rNotInT (K : PySem.W.Frag) : R2 := fun x y H Q => ∃ d ds, Dp K H x d ∧ Dp K H y (.tuple ds) ∧ SeqAt.shaped d = true ∧ SeqAt.shaped (.tuple ds) = true ∧ Q (.bl (!ds.any fun z => PyData.eqv z d)) H
theorem op_notInT (hu : X.A.units + 65 < cLine) : OpR X (compareOp .NotIn) (rNotInT X.K) := by
  intro pins s σ H x y v u Q I rx ry h
  obtain ⟨d, ds, hd, he, sd, se, q⟩ := h
  obtain ⟨as, r1⟩ := Dp.reads I d x v hd rx
  obtain ⟨bs, r2⟩ := Dp.reads I (.tuple ds) y u he ry
  exact SeqAt.notIn_tuple_reads r2 r1 (SeqAt.canLay_of_shaped se) (SeqAt.canLay_of_shaped sd) (room_in_shaped sd hu) ⟨.bl _, H, I, rfl, q⟩
end
end K15
set_option autoImplicit false
set_option linter.all false
set_option Elab.async false
set_option maxRecDepth 100000
set_option maxHeartbeats 2000000
/-! Rules of our own, fifth part: sorted of a tuple, least and sorted of data. -/
namespace K15
open PySem PySem.Spec PyProof.Rows L2
section
variable {X : Cx} {pos : Pos}
/-- sorted(t), t a tuple of whole numbers -/
theorem cr_sortedTI : CallR X (.builtin "sorted") (fun vs H Q => ∃ (a : Addr) (ns : List Int), vs = [V.ref a] ∧ SqT X.K H a (ns.map V.int) ∧ ns.length < 64 ∧
    ∀ (ns' : List Int) (p : Addr), ns'.Perm ns → ns'.Pairwise (· ≤ ·) → H p = none → Q (.ref p) (upd H p (.lst (ns'.map V.int)))) := by
  intro pins s σ H vs us Q I r h
  obtain ⟨a, ns, rfl, hs, h64, q⟩ := h
  obtain ⟨its, rv, pl, hz⟩ := I.tuple hs
  rw [Vals.ref1 r]
  have hi := rv.ints
  have hal : its.length = ns.length := by rw [← rv.length, List.length_map]
  obtain ⟨o, ho, hc, n, hd⟩ := id pl
  refine Calls.call_function_entry PyProof.Rows.kind_sorted PyProof.Rows.plain_sorted PyProof.Rows.entry_sorted (PyProof.Rows.args_sorted1 _) ?_
  unfold Builtin.«sorted»
  refine wpAny_bind (m := checkCount "sorted" 1 1 _) (wpAny_pure ?_)
  refine wpAny_bind (wpAny_collect_seq (T := "tuple") a (.inr rfl) ho hc hd (fun h' hk => ?_) (by rw [List.size_toArray, hal, sizeLine_eq]; omega))
  have I1 : Inv X pins σ H { s with heap := h' } := I.kept (t' := s.toks) hk
  refine wpAny_bind (wpAny_newList ?_ (by rw [hal, sizeLine_eq]; omega))
  have hoL : (h'.push (seqObj "list" its.toArray 0)).get? h'.objs.size = some (seqObj "list" its.toArray 0) := Heap.get?_push_size _ rfl
  show wpAny _ _ _ _ _ { s with heap := h'.push (seqObj "list" its.toArray 0) }
  refine wpAny_bind (wpAny_holding (wpAny_call_entry PyProof.Rows.slot_list_sort ⟨_, hoL, rfl⟩ PyProof.Rows.entry_list_sort
    (PyProof.Rows.list_sort_tree (s := { s with heap := h'.push (seqObj "list" its.toArray 0) }) hoL hi (by rw [hal]; exact h64) fun out ys g1 g2 g3 => ⟨_, rfl, ?_⟩) (PyProof.Rows.args_list_sort _)))
  obtain ⟨e', he'⟩ := PyProof.Rows.sortedHeap_at (vs := its) (out := out) hoL
  have hlen : (ys.map V.int).length ≤ sizeLine := by
    rw [List.length_map, g2.length_eq]
    exact Nat.le_trans (Nat.le_of_lt h64) (by decide)
  refine wpAny_pure ⟨_, rfl, .ref h'.objs.size, upd H h'.objs.size (.lst (ys.map V.int)), I1.laid (t' := s.toks) (fun b u e => ?_) (Nat.le_refl _)
    (show ObjOk X.prog X.w _ _ _ (.lst (ys.map V.int)) from ⟨hlen, out.toList, e', vals_of_ints g1, by rw [Array.toArray_toList]; exact he'⟩), rfl, q ys _ g2 g3 (I1.hok.fresh (Nat.le_refl _))⟩
  have hb : b < h'.objs.size := Heap.lt_size e
  rw [PyProof.Rows.sortedHeap_old (Nat.ne_of_lt hb) (by rw [size_push']; exact Nat.lt_succ_of_lt hb)]
  exact Heap.get?_push_of_some _ e
/-! ### min of data -/
/-- data that are tuples, told apart by a number -/
theorem lessBy_data {prog : Program} {w : World} {A : Around} {G : Heap → Prop} {P : Nat → Value → Prop} (ds : Nat → PyData) (num : Nat → Nat) (hG : ∀ h i v, G h → P i v → ∃ as, Reads h v (ds i) as) (hal : ∀ i v j u, P i v → P j u → PySem.W.alike (ds i) (ds j) = true)
    (hn : ∀ i v, P i v → ds i ≠ .none) (hlt : ∀ i v j u, P i v → P j u → PySem.W.dataLt (ds i) (ds j) = decide (num i < num j)) (hd : ∀ i v, P i v → A.units + (ds i).depth < cLine) : LessBy prog w A G P (fun i j => decide ((num i : Int) < (num j : Int))) := by
  intro i j vi vj s Q E g pi pj q
  obtain ⟨as, r1⟩ := hG _ _ _ g pi
  obtain ⟨bs, r2⟩ := hG _ _ _ g pj
  refine PySem.W.rcLt_alike _ _ _ _ _ _ _ _ r1 r2 (hal _ _ _ _ pi pj) (hn _ _ pi) (Nat.lt_of_le_of_lt (Nat.add_le_add_left (Nat.min_le_left _ _) _) (hd _ _ pi)) prog w E Q ?_
  rw [hlt _ _ _ _ pi pj]
  have e : decide ((num i : Int) < (num j : Int)) = decide (num i < num j) := by rw [decide_eq_decide]; omega
  have q : Q (Value.bool (decide ((num i : Int) < (num j : Int)))) s := q
  rw [e] at q
  exact q
/-- what the data of a min must be -/
structure MinOk (ds : List PyData) (num : Nat → Nat) : Prop where
  al : ∀ (i j : Nat) (d e : PyData), ds[i]? = some d → ds[j]? = some e → PySem.W.alike d e = true
  ne : ∀ (i : Nat) (d : PyData), ds[i]? = some d → d ≠ .none
  lt : ∀ (i j : Nat) (d e : PyData), ds[i]? = some d → ds[j]? = some e → PySem.W.dataLt d e = decide (num i < num j)
  dp : ∀ (i : Nat) (d : PyData), ds[i]? = some d → d.depth ≤ 60
theorem reads_at {h : Heap} : ∀ {vs : List Value} {ds : List PyData} {as : List Addr}, ReadsAll h vs ds as → ∀ {i : Nat} {v : Value}, vs[i]? = some v → ∃ d bs, ds[i]? = some d ∧ Reads h v d bs
  | _, _, _, .nil, i, v, e => by cases e
  | _, _, _, .cons r rs, 0, v, e => ⟨_, _, rfl, by cases e; exact r⟩
  | _, _, _, .cons r rs, i + 1, v, e => reads_at rs (i := i) e
theorem min_core {s : Shared} {its : List Value} {ds : List PyData} {as : List Addr} {num : Nat → Nat} (M : MinOk ds num) (ra : ReadsAll s.heap its ds as) {A : Around} (hu : A.units + 61 < cLine) (prog : Program) (w : World) :
    LessBy prog w A (fun h => ∀ b o, s.heap.get? b = some o → h.get? b = some o) (fun i v => its[i]? = some v) (fun i j => decide ((num i : Int) < (num j : Int))) := by
  have rd : ∀ i v, its[i]? = some v → ∃ d bs, ds[i]? = some d ∧ Reads s.heap v d bs := fun i v e => reads_at ra e
  have gd : ∀ i v d, its[i]? = some v → ds[i]? = some d → ds.getD i .none = d := fun i v d _ e => by rw [List.getD_eq_getElem?_getD, e]; rfl
  refine lessBy_data (fun i => ds.getD i .none) num (fun h i v g e => ?_) (fun i v j u e1 e2 => ?_) (fun i v e => ?_) (fun i v j u e1 e2 => ?_) (fun i v e => ?_)
  · obtain ⟨d, bs, h1, h2⟩ := rd i v e
    show ∃ as, Reads h v (ds.getD i .none) as
    rw [gd i v d e h1]
    exact ⟨bs, PyProof.Rows.Reads.keeps (fun _ _ => g _ _) h2⟩
  · obtain ⟨d, _, h1, _⟩ := rd i v e1
    obtain ⟨d2, _, h2, _⟩ := rd j u e2
    rw [gd i v d e1 h1, gd j u d2 e2 h2]
    exact M.al i j d d2 h1 h2
  · obtain ⟨d, _, h1, _⟩ := rd i v e
    rw [gd i v d e h1]
    exact M.ne i d h1
  · obtain ⟨d, _, h1, _⟩ := rd i v e1
    obtain ⟨d2, _, h2, _⟩ := rd j u e2
    rw [gd i v d e1 h1, gd j u d2 e2 h2]
    exact M.lt i j d d2 h1 h2
  · obtain ⟨d, _, h1, _⟩ := rd i v e
    rw [gd i v d e h1]
    have := M.dp i d h1
    omega
/-- min(xs), xs a list of data -/
theorem call_min1D (hc : X.calm = true) (hu : X.A.units + 64 < cLine) : CallR X (.builtin "min") (fun vs H Q => ∃ (a : Addr) (xs : List V) (ds : List PyData) (num : Nat → Nat), vs = [V.ref a] ∧ SqL X.K H a xs ∧ DpAll X.K H xs ds ∧ MinOk ds num ∧ 0 < xs.length ∧
    ∀ (i : Nat) (x : V), xs[i]? = some x → (∀ j, j < xs.length → num i ≤ num j) → Q x H) := by
  intro pins s σ H vs us Q I r h
  obtain ⟨a, xs, ds, num, rfl, hs, hd, M, h0, q⟩ := h
  obtain ⟨its, rv, pl, hz⟩ := I.list hs
  rw [Vals.ref1 r]
  obtain ⟨as, ra⟩ := Dp.readsAll I _ _ _ hd rv
  have hl := rv.length
  have hA : X.A.in1.handled = none := I.ok.hd hc
  have hlt : a < s.heap.objs.size := pl.lt
  refine call_least (G := fun h => ∀ b o, s.heap.get? b = some o → h.get? b = some o) (wpAny_pyIter_list pl.isList ⟨s.heap.objs.size, _, _, _, _, _, (fun i j => decide ((num i : Int) < (num j : Int))), rfl, Walks.list hA s.heap.objs.size a (Nat.ne_of_lt hlt) its.toArray, ⟨⟨_, Heap.get?_push_size _ rfl, rfl, rfl⟩, pl.isList.push _⟩, ?_, ?_, ?_, fun b o e => Heap.get?_push_of_some _ e, ?_, ?_⟩)
  · intro b hb
    show b < (s.heap.push _).objs.size
    rw [Heap.size_push]
    rcases List.mem_cons.mp hb with rfl | hb
    · exact Nat.lt_succ_self _
    · rcases List.mem_cons.mp hb with rfl | hb
      · exact Nat.lt_succ_of_lt hlt
      · cases hb
  · rw [List.size_toArray, ← hl]; exact h0
  · intro S hS h h' g k b o e
    have hb : b < s.heap.objs.size := Heap.lt_size e
    have hz2 : (s.heap.push { cls := .type "list_iterator", data := .fields #[.ref a, .int 0 0] } : Heap).objs.size = s.heap.objs.size + 1 := Heap.size_push ..
    refine k b o (fun z => ?_) (fun z => ?_) (g b o e)
    · rcases List.mem_cons.mp z with z | z
      · rw [z] at hb; exact Nat.lt_irrefl _ hb
      · cases z
    · have hS' : s.heap.objs.size + 1 ≤ S := by rw [← hz2]; exact hS
      rw [z] at hb
      exact absurd hb (Nat.not_lt.mpr (Nat.le_of_succ_le hS'))
  · have := min_core (A := X.A.in1) M ra (by show X.A.units + 1 + 61 < cLine; omega) X.prog X.w
    intro i j vi vj s' Q' E' g pi pj q'
    exact this i j vi vj s' Q' E' g (by simpa using pi) (by simpa using pj) q'
  · intro v h' tk pv hk
    obtain ⟨m1, m2⟩ := argBest_lt (fun i => (num i : Int)) (its.toArray.size - 1)
    rw [List.size_toArray] at m1 m2 pv
    have hm : argBest (fun i j => decide ((num i : Int) < (num j : Int))) (its.length - 1) < xs.length := by omega
    have hv : its[argBest (fun i j => decide ((num i : Int) < (num j : Int))) (its.length - 1)]? = some v := by simpa using pv
    obtain ⟨w1, ew, rw1⟩ := rv.get (List.getElem?_eq_getElem hm)
    rw [hv] at ew
    cases ew
    have I1 : Inv X pins σ H { s with heap := h', toks := tk } := I.kept fun b o e => hk b o (fun z => by
      rcases List.mem_cons.mp z with z | z
      · rw [z] at e; exact Nat.lt_irrefl _ (Heap.lt_size e)
      · cases z) (Heap.get?_push_of_some _ e)
    refine ⟨_, H, I1, rw1, q _ _ (List.getElem?_eq_getElem hm) fun j hj => ?_⟩
    have := m2 j (by omega)
    omega
/-- min(a, b), data: the second where it is less -/
theorem call_min2D (hc : X.calm = true) (hu : X.A.units + 64 < cLine) : CallR X (.builtin "min") (fun vs H Q => ∃ (x y : V) (dx dy : PyData) (nx ny : Nat), vs = [x, y] ∧ Dp X.K H x dx ∧ Dp X.K H y dy ∧ MinOk [dx, dy] (fun i => if i = 0 then nx else ny) ∧
    Q (if ny < nx then y else x) H) := by
  intro pins s σ H vs us Q I r h
  obtain ⟨x, y, dx, dy, nx, ny, rfl, hx, hy, M, q⟩ := h
  obtain ⟨u1, u2, rfl, r1, r2⟩ := vals2 r
  obtain ⟨as, ra⟩ := Dp.reads I _ _ _ hx r1
  obtain ⟨bs, rb⟩ := Dp.reads I _ _ _ hy r2
  have hA : X.A.in1.handled = none := I.ok.hd hc
  have hT : (s.heap.push { cls := .type "tuple", data := .seq #[u1, u2] } : Heap).IsTuple s.heap.objs.size #[u1, u2] := IsTup.new _ _
  have hz1 : (s.heap.push { cls := .type "tuple", data := .seq #[u1, u2] } : Heap).objs.size = s.heap.objs.size + 1 := Heap.size_push ..
  refine call_least2 (G := fun h => ∀ b o, s.heap.get? b = some o → h.get? b = some o) (wpAny_pyIter_tuple hT ⟨_, _, _, _, _, _, (fun i j => decide (((if i = 0 then nx else ny : Nat) : Int) < ((if j = 0 then nx else ny : Nat) : Int))), rfl, Walks.tuple hA _ s.heap.objs.size (by rw [hz1]; exact Nat.ne_of_lt (Nat.lt_succ_self _)) #[u1, u2], ⟨⟨_, Heap.get?_push_size _ rfl, rfl, rfl⟩, hT.push _⟩, ?_, (by show 0 < 2; decide), ?_, fun b o e => Heap.get?_push_of_some _ (Heap.get?_push_of_some _ e), ?_, ?_⟩)
  · intro b hb
    show b < ((s.heap.push _).push _).objs.size
    rw [Heap.size_push]
    rcases List.mem_cons.mp hb with rfl | hb
    · exact Nat.lt_succ_self _
    · rcases List.mem_cons.mp hb with rfl | hb
      · rw [hz1]; exact Nat.lt_succ_of_lt (Nat.lt_succ_self _)
      · cases hb
  · intro S hS h h' g k b o e
    have hb : b < s.heap.objs.size := Heap.lt_size e
    have hz2 : ((s.heap.push { cls := .type "tuple", data := .seq #[u1, u2] } : Heap).push { cls := .type "tuple_iterator", data := .fields #[.ref s.heap.objs.size, .int 0 0] } : Heap).objs.size = s.heap.objs.size + 1 + 1 := by rw [Heap.size_push, hz1]
    refine k b o (fun z => ?_) (fun z => ?_) (g b o e)
    · rcases List.mem_cons.mp z with z | z
      · rw [z, hz1] at hb; exact absurd hb (Nat.not_lt.mpr (Nat.le_succ _))
      · cases z
    · have hS' : s.heap.objs.size + 1 + 1 ≤ S := by rw [← hz2]; exact hS
      rw [z] at hb
      exact absurd hb (Nat.not_lt.mpr (Nat.le_of_succ_le (Nat.le_of_succ_le hS')))
  · have := min_core (s := s) (its := [u1, u2]) (A := X.A.in1) M (ReadsAll.cons ra (ReadsAll.cons rb ReadsAll.nil)) (by show X.A.units + 1 + 61 < cLine; omega) X.prog X.w
    intro i j vi vj s' Q' E' g pi pj q'
    exact this i j vi vj s' Q' E' g (by simpa using pi) (by simpa using pj) q'
  · intro v h' tk pv hk
    have I1 : Inv X pins σ H { s with heap := h', toks := tk } := I.kept fun b o e => hk b o (fun z => by
      rcases List.mem_cons.mp z with z | z
      · rw [z, hz1] at e; exact absurd (Heap.lt_size e) (Nat.not_lt.mpr (Nat.le_succ _))
      · cases z) (Heap.get?_push_of_some _ (Heap.get?_push_of_some _ e))
    have e1 : argBest (fun i j => decide (((if i = 0 then nx else ny : Nat) : Int) < ((if j = 0 then nx else ny : Nat) : Int))) ((#[u1, u2] : Array Value).size - 1) = if ny < nx then 1 else 0 := by
      show argBest _ 1 = _
      simp only [argBest]
      by_cases c : ny < nx
      · simp [c]
      · simp [c]
    rw [e1] at pv
    by_cases c : ny < nx
    · rw [if_pos c] at pv q
      have : u2 = v := by simpa using pv
      subst this
      exact ⟨y, H, I1, r2, q⟩
    · rw [if_neg c] at pv q
      have : u1 = v := by simpa using pv
      subst this
      exact ⟨x, H, I1, r1, q⟩
/-! ### sorted of data -/
inductive Each {α β : Type} (R : α → β → Prop) : List α → List β → Prop
  | nil : Each R [] []
  | cons {a : α} {b : β} {as : List α} {bs : List β} : R a b → Each R as bs → Each R (a :: as) (b :: bs)
theorem each_zip {h : Heap} {xs : List V} : ∀ {vs : List Value} {ds : List PyData} {as : List Addr}, ReadsAll h vs ds as → ∀ {zs : List V}, Vals zs vs → PySem.W.EachIs (fun (v : Value) (p : V × PyData) => RelV p.1 v ∧ ∃ as, Reads h v p.2 as) vs (zs.zip ds)
  | _, _, _, .nil, _, .nil => .nil
  | _, _, _, .cons r rs, _, .cons q qs => .cons ⟨q, _, r⟩ (each_zip (xs := xs) rs qs)
theorem each_rel {P : PyData → Value → Prop} : ∀ {out : List Value} {zs : List (V × PyData)}, PySem.W.EachIs (fun (v : Value) (p : V × PyData) => RelV p.1 v ∧ P p.2 v) out zs → Vals (zs.map (·.1)) out
  | _, _, .nil => .nil
  | _, _, .cons q qs => .cons q.1 (each_rel qs)
theorem each_imp {α β : Type} {R S : α → β → Prop} (h : ∀ a b, R a b → S a b) : ∀ {as : List α} {bs : List β}, PySem.W.EachIs R as bs → PySem.W.EachIs S as bs
  | _, _, .nil => .nil
  | _, _, .cons q qs => .cons (h _ _ q) (each_imp h qs)
/-- sorted(xs), xs a list of tuples of data: a list of the same, by their order -/
theorem cr_sortedD (hu : X.A.units + 64 < cLine) : CallR X (.builtin "sorted") (fun vs H Q => ∃ (a : Addr) (xs : List V) (ds : List PyData), vs = [V.ref a] ∧ SqL X.K H a xs ∧ DpAll X.K H xs ds ∧ PySem.W.AllAlike ds ∧ PySem.W.Sortable ds ∧ (∀ d ∈ ds, d.depth ≤ 60) ∧ xs.length = ds.length ∧
    ∀ (p : Addr), H p = none → Q (.ref p) (upd H p (.lst (((xs.zip ds).mergeSort (PySem.W.dataLe false (fun p : V × PyData => p.2))).map (·.1))))) := by
  intro pins s σ H vs us Q I r h
  obtain ⟨a, xs, ds, rfl, hs, hd, h1, h2, h3, hl, q⟩ := h
  obtain ⟨its, rv, pl, hz⟩ := I.list hs
  rw [Vals.ref1 r]
  obtain ⟨as, ra⟩ := Dp.readsAll I _ _ _ hd rv
  have hzip : (xs.zip ds).map (·.2) = ds := by rw [List.map_snd_zip (by omega)]
  have hzl : (xs.zip ds).length = xs.length := by rw [List.length_zip]; omega
  have ee := each_zip (xs := xs) ra rv
  refine PySem.W.sorted_data (R := fun (v : Value) (p : V × PyData) => RelV p.1 v ∧ ∃ as, Reads s.heap v p.2 as) (enc := fun p : V × PyData => p.2) pl.isList ee (each_imp (fun _ _ q => q.2) ee) (by rw [hzip]; exact h1) (by rw [hzip]; exact h2) (by rw [hzl]; exact hz) (fun b hb => ?_) fun out ho eo => ?_
  · have : b.2 ∈ ds := by rw [← hzip]; exact List.mem_map.mpr ⟨b, hb, rfl⟩
    have := h3 _ this
    omega
  · obtain ⟨ep, he'⟩ := PyProof.Rows.sortedAll_at s.heap its (List.toArray out)
    have rv2 := each_rel (P := fun d v => ∃ as, Reads s.heap v d as) eo
    have hlen : (((xs.zip ds).mergeSort (PySem.W.dataLe false (fun p : V × PyData => p.2))).map (·.1)).length ≤ sizeLine := by rw [List.length_map, List.length_mergeSort, hzl]; exact hz
    exact ⟨.ref _, _, I.laid (t' := s.toks) (fun _ _ => PyProof.Rows.sortedAll_old) (Nat.le_succ _) (show ObjOk X.prog X.w _ _ _ (.lst _) from ⟨hlen, out, ep, rv2, by simpa using he'⟩), rfl, q _ (I.hok.fresh (Nat.le_succ _))⟩
end
end K15
set_option autoImplicit false
set_option linter.all false
set_option Elab.async false
set_option maxRecDepth 100000
set_option maxHeartbeats 2000000
/-! Rules of our own: lambdas that are kept and called later, with defaults. -/
namespace K15
open PySem PySem.Spec PyProof.Rows L2 LamX NdefX
/-- a lambda's function -/
structure LF where
  params : Arguments
  body : Expr
  scope : Scope
  cl : List (Str × Addr)
  qual : Str
  c : Addr
  dv : Value
abbrev LF.fd (F : LF) (pm ctv : Value) : FuncData := { name := "<lambda>", qualname := F.qual, params := F.params, body := .expr F.body, scope := F.scope, globals := mainGlobals, closure := F.cl, defaults := F.dv, kwdefaults := .none, doc := .none, pyModule := pm, annotations := none, code := .ref F.c, closureTuple := ctv, builtins := builtinsNs }
abbrev LF.nf (F : LF) : NF := ⟨"<lambda>", F.qual, F.params, [], F.scope, F.cl, F.c⟩
def LamO (f : Addr) (F : LF) : HO := .ext fun h => ∃ pm ctv, h.get? f = some { cls := .type "function", data := .func (F.fd pm ctv) }
theorem lamO_ne {f : Addr} {F : LF} (ps : Array Value) : LamO f F ≠ .tbl ps := fun z => by
  unfold LamO at z
  cases z
theorem lamO_at {P : Program} {w : World} {H : Hp} {h : Heap} {f : Addr} {F : LF} (hok : HOk P w H h) (e : H f = some (LamO f F)) : ∃ pm ctv, h.get? f = some { cls := .type "function", data := .func (F.fd pm ctv) } := by
  obtain ⟨z, _, _⟩ := hok f _ e
  exact z
section
variable {M : Model} {A : Around} {E : Value → Shared → Prop} {s : Shared} {params : Arguments} {body : Expr} {scope : Scope} {env : Env} {c P : Addr} {ps : Array Value} {pos : Pos} {firstLine : Nat} {mg : Str → Option Value} {qual : Str} {clos : List (Str × Addr)} {dV : Value} {Q : Value → Shared → Prop}
/-- the code object: new, or among those that the maker's code object tells -/
def CodeNew (h h' : Heap) (P : Addr) (ps : Array Value) (pos : Pos) (qual : Str) (cv : Value) : Prop :=
  (codeAmong pos ps.toList = some cv ∧ (∀ b o, h.get? b = some o → h'.get? b = some o)) ∨
  (codeAmong pos ps.toList = none ∧ ∃ c', cv = .ref c' ∧ h.objs.size ≤ c' ∧ c' < h'.objs.size ∧ Heap.ExtBut P h h' ∧ h'.CodeRec (.ref c') qual ∧ h'.get? P = some { cls := .none, data := .fields (ps ++ #[rawInt pos.line, rawInt pos.col, .ref c']) })
theorem code_step {fb : FuncBody} {name : Str} (hcode : env.code = .ref c) (C : PySem.W.CodeHd s.heap c P) (hP : s.heap.get? P = some { cls := .none, data := .fields ps }) (ht : TriplesOk ps.toList)
    (h : ∀ cv h' tk, CodeNew s.heap h' P ps pos qual cv → Q cv { s with heap := h', toks := tk }) : wpAny M A (functionCode env pos firstLine name qual params scope fb) Q E s := by
  cases hf : codeAmong pos ps.toList with
  | none => exact wpAny_functionCodeX hcode (C.code hP ht) (C.tab hP) hf fun c' h' tk hx hge hlt _ hrec htb _ => h _ h' tk (.inr ⟨hf, c', rfl, hge, hlt, hx, hrec, htb.2⟩)
  | some cv => exact wpAny_functionCode_hit hcode (C.code hP ht) hf (h cv s.heap s.toks (.inl ⟨hf, fun _ _ e => e⟩))
theorem CodeNew.but {h h' : Heap} {cv : Value} (n : CodeNew h h' P ps pos qual cv) : Heap.ExtBut P h h' := by
  rcases n with ⟨_, k⟩ | ⟨_, _, _, _, _, k, _⟩
  · exact fun b o _ e => k b o e
  · exact k
theorem lam_tail (hcl : closureFor scope env = pure clos) (hge0 : env.globals = mainGlobals) (hg : s.heap.Ns mainGlobals mg) (hcode : env.code = .ref c) (C : PySem.W.CodeHd s.heap c P) (hP : s.heap.get? P = some { cls := .none, data := .fields ps }) (ht : TriplesOk ps.toList)
    (hgP : mainGlobals ≠ P) (hb : s.heap.BuiltinsAt mg P)
    (h : ∀ (cv pm ctv : Value) (h0 h' : Heap) (tk : Nat), (∀ b o, s.heap.get? b = some o → h0.get? b = some o) → s.heap.objs.size ≤ h0.objs.size → CodeNew h0 h' P ps pos qual cv →
      Q (.ref h'.objs.size) { s with heap := h'.push { cls := .type "function", data := .func { name := "<lambda>", qualname := qual, params := params, body := .expr body, scope := scope, globals := mainGlobals, closure := clos, defaults := dV, kwdefaults := .none, doc := .none, pyModule := pm, annotations := none, code := cv, closureTuple := ctv, builtins := builtinsNs } }, toks := tk }) :
    wpAny M A (makeTail "<lambda>" qual params (.expr body) scope env dV .none none pos firstLine) Q E s := by
  obtain ⟨bm, ob, hbm, hne0, _, hneP, hbo, hcls, hdict, hdata⟩ := hb
  unfold makeTail
  rw [hcl, hge0]
  refine wpAny_bind (wpAny_pure ?_)
  have rest : ∀ (ctv : Value) (h0 : Heap) (tk0 : Nat), (∀ b o, s.heap.get? b = some o → h0.get? b = some o) → s.heap.objs.size ≤ h0.objs.size →
      wpAny M A (do
        let code ← functionCode env pos firstLine "<lambda>" qual params scope (.expr body)
        let bi ← builtinsFor mainGlobals env.builtins
        let pmv ← nsGet mainGlobals "__name__"
        let doc ← (pure Value.none : Sem Value)
        newObj (.type "function") (.func { name := "<lambda>", qualname := qual, params := params, body := .expr body, scope := scope, globals := mainGlobals, closure := clos, closureTuple := ctv, code := code, builtins := bi, defaults := dV, kwdefaults := .none, annotations := none, pyModule := pmv.getD .none, doc := doc })) Q E { s with heap := h0, toks := tk0 } := fun ctv h0 tk0 k0 hz => by
    refine wpAny_bind (code_step (s := { s with heap := h0, toks := tk0 }) hcode (C.keeps k0) (k0 _ _ hP) ht fun cv h' tk n => ?_)
    have hx := n.but
    have hg' := (hg.keeps k0).extBut hx hgP
    refine wpAny_bind (wpAny_builtinsFor hg' hbm hne0 (hx _ _ hneP (k0 _ _ hbo)) hcls hdict hdata ?_)
    refine wpAny_bind (wpAny_nsGet hg' ?_)
    exact wpAny_bind (wpAny_pure (wpAny_newObj_type (h cv _ ctv h0 h' tk k0 hz n) (by size_fits)))
  by_cases he : clos.isEmpty = true
  · rw [if_pos he]
    exact wpAny_bind (wpAny_pure (rest _ s.heap s.toks (fun _ _ e => e) (Nat.le_refl _)))
  · rw [if_neg he]
    refine wpAny_bind (wpAny_newTextTuple (rest _ _ s.toks (fun b o e => Heap.get?_push_of_some _ e) ?_))
    show s.heap.objs.size ≤ (s.heap.push _).objs.size
    rw [Heap.size_push]
    exact Nat.le_succ _
end
/-- all but what stands at P -/
def ButT (P : Addr) (H H' : Hp) : Prop := ∀ b o, b ≠ P → H b = some o → H' b = some o
section
variable {X : Cx} {pins : List (Addr × Obj)} {σ : L2.St} {H : Hp} {s : Shared}
theorem lam_make3 {nm : Nat → Nat → Str} {c P : Addr} {params : Arguments} {body : Expr} {scope : Scope} {pos : Pos} {dV : Value} {E : Value → Shared → Prop} {Q : Value → Shared → Prop} (I : Inv X pins σ H s) (TB : LamX.TabB X.base X.mg c P) (hcode : X.env.code = .ref c)
    (hT : TabN H P nm) (hn : nm pos.line pos.col = X.env.qual ++ "<lambda>") (hfree : ∀ y ∈ scope.names, y.2 = .free → ∃ c, X.env.cells.lookup y.1 = some c)
    (h : ∀ (f c' : Addr) (H1 : Hp) (s' : Shared), Inv X pins σ H1 s' → ButT P H H1 → TabN H1 P nm → H f = none → H1 f = some (LamO f ⟨params, body, scope, cloFrom X.env.cells scope.names [], X.env.qual ++ "<lambda>", c', dV⟩) → H1 c' = some (CodeO c' (X.env.qual ++ "<lambda>")) → Q (.ref f) s') :
    wpAny (model X.prog X.w) X.A (makeTail "<lambda>" (X.env.qual ++ "<lambda>") params (.expr body) scope X.env dV .none none pos pos.line) Q E s := by
  obtain ⟨ps, hP, ht, ha⟩ := id hT
  have bP : s.heap.BuiltinsAt X.mg P := TB.bm.keeps I.bk
  have hP' : s.heap.get? P = some { cls := .none, data := .fields ps } := I.hok P _ hP
  refine lam_tail (mg := X.mg) (c := c) (P := P) (ps := ps) (closure_ok hfree) I.ok.glob (I.mod.glob.keeps I.bk) hcode (TB.code.keeps I.bk) hP' ht TB.gP bP fun cv pm ctv h0 h' tk k0 hz n => ?_
  rcases n with ⟨hf, k1⟩ | ⟨hf, c', rfl, hge, hlt, hx, hrec, htb⟩
  · obtain ⟨c', rfl, hco⟩ := ha pos cv hf
    rw [hn] at hco
    have I1 : Inv X pins σ H { s with heap := h', toks := tk } := I.kept fun b o e => k1 b o (k0 b o e)
    have nF : H h'.objs.size = none := I1.hok.fresh (Nat.le_refl _)
    have hget : ∀ ob : Obj, ob.cls = .type "function" → True := fun _ _ => trivial
    have I2 : Inv X pins σ (upd H h'.objs.size (LamO h'.objs.size ⟨params, body, scope, cloFrom X.env.cells scope.names [], X.env.qual ++ "<lambda>", c', dV⟩)) { s with heap := h'.push _, toks := tk } :=
      I1.laid (t' := tk) (fun b o e => Heap.get?_push_of_some _ e) (Nat.le_refl _) (show ObjOk X.prog X.w _ _ _ (LamO _ _) from ⟨⟨pm, ctv, Heap.get?_push_size _ rfl⟩, ⟨_, Heap.get?_push_size _ rfl⟩, fun h1 h2 ⟨a, b, e⟩ k => ⟨a, b, k _ e⟩⟩)
    exact h h'.objs.size c' _ _ I2 (fun b o _ e => by rw [upd_ne (ne_of_none e nF)]; exact e) (hT.ext fun b o e => by rw [upd_ne (ne_of_none e nF)]; exact e) nF upd_same (by rw [upd_ne (ne_of_none hco nF)]; exact hco)
  · obtain ⟨c2, oc, vs, t, e2, hoc, hd, hv⟩ := hrec
    cases e2
    have hge' : s.heap.objs.size ≤ c' := Nat.le_trans hz hge
    have nC : H c' = none := I.hok.fresh hge'
    have I1 := LamX.inv_table (q := X.env.qual ++ "<lambda>") (t' := tk) (more := #[rawInt pos.line, rawInt pos.col, .ref c']) (h' := h') I hP (fun b o hb e => hx b o hb (k0 b o e)) htb hge' ⟨oc, vs, t, hoc, hd, hv⟩
    have nF := I1.hok.fresh (Nat.le_refl _)
    have I2 : Inv X pins σ (upd (upd (upd H P (.tbl (ps ++ #[rawInt pos.line, rawInt pos.col, .ref c']))) c' (CodeO c' (X.env.qual ++ "<lambda>"))) h'.objs.size (LamO h'.objs.size ⟨params, body, scope, cloFrom X.env.cells scope.names [], X.env.qual ++ "<lambda>", c', dV⟩)) { s with heap := h'.push _, toks := tk } :=
      I1.laid (t' := tk) (fun b o e => Heap.get?_push_of_some _ e) (Nat.le_refl _) (show ObjOk X.prog X.w _ _ _ (LamO _ _) from ⟨⟨pm, ctv, Heap.get?_push_size _ rfl⟩, ⟨_, Heap.get?_push_size _ rfl⟩, fun h1 h2 ⟨a, b, e⟩ k => ⟨a, b, k _ e⟩⟩)
    have hB : ButT P H (upd (upd H P (.tbl (ps ++ #[rawInt pos.line, rawInt pos.col, .ref c']))) c' (CodeO c' (X.env.qual ++ "<lambda>"))) := fun b o hb e => by
      rw [upd_ne (ne_of_none e nC), upd_ne hb]; exact e
    have eL : (ps ++ #[rawInt pos.line, rawInt pos.col, .ref c']).toList = ps.toList ++ [rawInt pos.line, rawInt pos.col, .ref c'] := by simp
    have T1 : TabN (upd (upd H P (.tbl (ps ++ #[rawInt pos.line, rawInt pos.col, .ref c']))) c' (CodeO c' (X.env.qual ++ "<lambda>"))) P nm := by
      refine ⟨_, by rw [upd_ne (ne_of_none hP nC), upd_same], by rw [eL]; exact PySem.TriplesOk_snoc _ _ _ _ ht, fun p' cv hcv => ?_⟩
      rw [eL] at hcv
      rcases among_app2 _ ht hcv with z | ⟨z, z1, z2⟩
      · obtain ⟨c0, e1, e2⟩ := ha p' cv z
        refine ⟨c0, e1, hB _ _ (fun z => ?_) e2⟩
        rw [z, hP] at e2
        exact codeO_ne _ (Option.some.inj e2).symm
      · refine ⟨c', z, ?_⟩
        rw [← z1, ← z2, hn]
        exact upd_same
    refine h h'.objs.size c' _ _ I2 (fun b o hb e => ?_) (T1.ext fun b o e => ?_) ?_ upd_same ?_
    · have e1 := hB b o hb e
      exact (upd_ne (ne_of_none e1 nF)).trans e1
    · exact (upd_ne (ne_of_none e nF)).trans e
    · exact I.hok.fresh (Nat.le_trans hge' (Nat.le_of_lt hlt))
    · exact (upd_ne (Nat.ne_of_lt hlt)).trans upd_same
/-- lambda ..: body (no default) -/
def tLam0 (P : Addr) (nm : Nat → Nat → Str) (mk : Addr → Value → LF) : TE := fun σ H Q => TabN H P nm ∧ ∀ (f c' : Addr) (H1 : Hp), ButT P H H1 → TabN H1 P nm → H f = none → H1 f = some (LamO f (mk c' .none)) → H1 c' = some (CodeO c' (mk c' .none).qual) → Q (.ref f) H1
theorem pe_lam0 {nm : Nat → Nat → Str} {c P : Addr} {params : Arguments} {body : Expr} {scope : Scope} {pos : Pos} (TB : LamX.TabB X.base X.mg c P) (hcode : X.env.code = .ref c) (hn : nm pos.line pos.col = X.env.qual ++ "<lambda>")
    (hfree : ∀ y ∈ scope.names, y.2 = .free → X.env.scope.names.lookup y.1 = some .cell ∨ X.env.scope.names.lookup y.1 = some .free) (hdef : defaultsOf params X.env = ([], [])) :
    PE X (.Lambda params body scope pos) (tLam0 P nm fun c' dv => ⟨params, body, scope, cloFrom X.env.cells scope.names [], X.env.qual ++ "<lambda>", c', dv⟩) := by
  refine ⟨fun pins s σ H Q I h => ?_⟩
  obtain ⟨hT, h⟩ := h
  refine PySem.W.kla_eval hdef ?_
  rw [makeFunction_eq]
  simp only [List.zip_nil_right, List.filterMap_nil, List.isEmpty_nil, if_true, pure_bind]
  exact lam_make3 I TB hcode hT hn (fun y hy e => (hfree y hy e).elim (fun z => I.ok.has _ (.inl z)) fun z => I.ok.has _ (.inr z)) fun f c' H1 s' I1 b1 T1 f0 f1 c1 => ⟨.ref f, H1, I1, rfl, h f c' H1 b1 T1 f0 f1 c1⟩
/-- lambda x=d: body, d a written whole number -/
def tLam1 (P : Addr) (nm : Nat → Nat → Str) (d : Int) (mk : Addr → Value → LF) : TE := fun σ H Q => TabN H P nm ∧ ∀ (f c' T : Addr) (H1 : Hp), ButT P H H1 → TabN H1 P nm → H f = none → H1 f = some (LamO f (mk c' (.ref T))) → H1 c' = some (CodeO c' (mk c' (.ref T)).qual) → H1 T = some (.tup [.int d]) → Q (.ref f) H1
theorem pe_lam1 {nm : Nat → Nat → Str} {c P : Addr} {params : Arguments} {body : Expr} {scope : Scope} {pos : Pos} {d : Int} {j : Nat} {dpos : Pos} (TB : LamX.TabB X.base X.mg c P) (hcode : X.env.code = .ref c) (hn : nm pos.line pos.col = X.env.qual ++ "<lambda>")
    (hfree : ∀ y ∈ scope.names, y.2 = .free → X.env.scope.names.lookup y.1 = some .cell ∨ X.env.scope.names.lookup y.1 = some .free) (hdef : defaultsOf params X.env = ([eval (.Constant (.int d) j dpos) X.env], [])) :
    PE X (.Lambda params body scope pos) (tLam1 P nm d fun c' dv => ⟨params, body, scope, cloFrom X.env.cells scope.names [], X.env.qual ++ "<lambda>", c', dv⟩) := by
  refine ⟨fun pins s σ H Q I h => ?_⟩
  obtain ⟨hT, h⟩ := h
  rw [arm_eval_Lambda, hdef]
  show wpAny _ _ (do let dv ← evalAll [eval (.Constant (.int d) j dpos) X.env]; let kdv ← holding dv (evalAllOpt []); makeFunction "<lambda>" (X.env.qual ++ "<lambda>") params (.expr body) scope X.env dv kdv [] pos pos.line) _ _ s
  refine wpAny_bind (wpAny_evalAll_cons (wpAny_Constant_int (wpAny_evalAll_nil ?_)))
  refine wpAny_bind (wpAny_holding (wpAny_pure ?_))
  rw [makeFunction_eq]
  simp only [List.zip_nil_right, List.filterMap_nil, List.isEmpty_nil, if_true, pure_bind]
  show wpAny _ _ (do let defaultsV ← newTextTuple [.int d s.toks]; makeTail "<lambda>" (X.env.qual ++ "<lambda>") params (.expr body) scope X.env defaultsV .none none pos pos.line) _ _ _
  have I0 : Inv X pins σ H { s with toks := s.toks + 1 } := I.tok _
  have nT := I0.hok.fresh (Nat.le_refl _)
  refine wpAny_bind (wpAny_newTextTuple ?_)
  have I1 : Inv X pins σ (upd H s.heap.objs.size (.tup [.int d])) { s with heap := s.heap.push { cls := .type "tuple", data := .seq [Value.int d s.toks].toArray }, toks := s.toks + 1 } :=
    I0.laid (t' := s.toks + 1) (fun b o e => Heap.get?_push_of_some _ e) (Nat.le_refl _) (show ObjOk X.prog X.w _ _ _ (.tup _) from ⟨by show 1 ≤ sizeLine; decide, [.int d s.toks], .cons ⟨_, rfl⟩ .nil, IsTup.new _ _⟩)
  have sm : ∀ b o, H b = some o → upd H s.heap.objs.size (.tup [.int d]) b = some o := fun b o e => by rw [upd_ne (ne_of_none e nT)]; exact e
  refine lam_make3 I1 TB hcode (hT.ext sm) hn (fun y hy e => (hfree y hy e).elim (fun z => I.ok.has _ (.inl z)) fun z => I.ok.has _ (.inr z)) fun f c' H1 s' I2 b1 T1 f0 f1 c1 => ⟨.ref f, H1, I2, rfl, h f c' s.heap.objs.size H1 (fun b o hb e => b1 b o hb (sm b o e)) T1 (NdefX.upd_none f0) f1 c1 (b1 _ _ (fun z => ?_) upd_same)⟩
  obtain ⟨ps, hP, _⟩ := hT
  rw [← z, nT] at hP
  cases hP
end
end K15
set_option autoImplicit false
set_option linter.all false
set_option Elab.async false
set_option maxRecDepth 100000
set_option maxHeartbeats 2000000
/-! Rules of our own: calls of lambdas that are kept. -/
namespace K15
open PySem PySem.Spec PyProof.Rows L2 LamX NdefX
/-- the lambda F at f, called without arguments, keeps the promise sp (ws: what it captured) -/
structure LOk (P : Program) (w : World) (K : PySem.W.Frag) (mg : Str → Option Value) (base : Heap) (CX : CXT) (k : Nat) (f : Addr) (F : LF) (fr : List Str) (sp : List (Option V) → Hp → VK → XK → Prop) : Prop where
  run : ∀ (A : Around) (outer : List Env) (s : Shared) (H : Hp) (ws : List (Option V)) (Q : VK) (E : XK), Room k A → Env0 P w K mg base A outer s H → H f = some (LamO f F) → H F.c = some (CodeO F.c F.qual) →
    CellsAt F.cl fr ws s.heap H → sp ws H Q E → codeAny (model P w) A (.call (.ref f) ⟨[], []⟩) (CR CX outer P w H s Q E) s
section
variable {CX : CXT} {P : Program} {w : World} {K : PySem.W.Frag} {mg : Str → Option Value} {base : Heap} {N ps fr : List Str} {F : LF} {f : Addr} {k j : Nat} {sp : List (Option V) → Hp → VK → XK → Prop}
/-- how it binds: with no parameter, or one that has a whole number as its default -/
inductive LBind (F : LF) (H : Hp) : List Str → List V → Prop
  | none (h : ∀ pm ctv, bindArgs (F.fd pm ctv) ⟨[], []⟩ = pure []) : LBind F H [] []
  | one (x : Str) (d : Int) (T : Addr) (hT : H T = some (.tup [.int d])) (hd : F.dv = .ref T) (h : ∀ pm ctv, ∃ kk : Option (Array Value) → Sem (List (Str × Value)), bindArgs (F.fd pm ctv) ⟨[], []⟩ = seqItems? F.dv >>= kk ∧ ∀ u, kk (some #[u]) = pure [(x, u)]) : LBind F H [x] [.int d]
theorem LBind.to {H : Hp} {ps : List Str} {vs : List V} (b : LBind F H ps vs) {s : Shared} (hok : HOk P w H s.heap) (pm ctv : Value) : ∃ us, Vals vs us ∧ BindsTo s (F.fd pm ctv) ⟨[], []⟩ (ps.zip us) := by
  cases b with
  | none h => exact ⟨[], .nil, .of_eq (h pm ctv)⟩
  | one x d T hT hd h =>
    obtain ⟨_, its, rv, o, ho, hc, n, hdt⟩ := hok T _ hT
    obtain ⟨kk, h1, h2⟩ := h pm ctv
    cases rv with
    | cons r rs =>
      cases rs
      rename_i u
      exact ⟨[u], .cons r .nil, BindsTo.of_defaults (fd := F.fd pm ctv) (T := T) (o := o) (items := #[u]) (n := n) hd ho hdt h1 (h2 u)⟩
theorem lok_of (S : NScope N ps fr F.scope) (hbody : ∀ (A : Around) (outer : List Env) (s : Shared) (H : Hp) (ws : List (Option V)) (Q : VK) (E : XK), Room k (A.deeper (envF F.nf f s.heap.objs.size)) → ws.length = fr.length → sp ws H Q E →
      ∃ vs t, LBind F H ps vs ∧ PE (ncx CX P w K mg base N F.nf f A outer s H E) F.body t ∧ t (startF N vs ws) H Q) : LOk P w K mg base CX (k + 1) f F fr sp := by
  refine ⟨fun A outer s H ws Q E hr e0 hf hc C hsp => ?_⟩
  have lim : s.heap.NoLimit := e0.mod.nolimit.keeps fun b o e => (e0.bs b o e).1
  obtain ⟨pm, ctv, ho⟩ := lamO_at e0.hok hf
  obtain ⟨vs, t, lb, ht, hq⟩ := hbody A outer s H ws Q E (hr.deeper _) C.len hsp
  obtain ⟨us, r, bd⟩ := lb.to e0.hok pm ctv
  have hl : vs.length = ps.length := by cases lb <;> rfl
  have co := codeO_at e0.hok hc
  refine PySem.W.kla_callFunE hr.depth ho rfl S.co S.gen rfl co (bd _ _ _ _ ?_)
  refine wpAny_newFunctionEnv S.nocell (fun ⟨n, _⟩ hy => S.par n (List.of_mem_zip hy).1) (fun h₁ hns hsb => ⟨lim.fresh _ hsb, ?_⟩) S.kind
  show codeAny _ _ (.expr F.body (envF F.nf f s.heap.objs.size)) _ _
  have kp : ∀ b o, s.heap.get? b = some o → h₁.get? b = some o := fun b o e => hsb.extBut b o (Nat.ne_of_lt (Heap.lt_size e)) (Heap.get?_push_of_some _ e)
  have I : Inv (ncx CX P w K mg base N F.nf f A outer s H E) [] (startF N vs ws) H { s with heap := h₁, toks := s.toks + (ps.zip us).length } := inv_startN S hr.hd e0 hl r C hns kp
  refine PySem.W.kla_codeExpr (wpAny_mono (ht.run [] _ (startF N vs ws) H Q I hq) (fun v s' hs => ?_) fun e s' hs => hs)
  obtain ⟨w', H', J', rv, q⟩ := hs
  exact ⟨w', H', J'.os, J'.bare, J'.base, J'.hok, rv, q⟩
end
section
variable {X : Cx} {CX : CXT}
/-- x(), x a name whose slot holds a lambda: the reading says which -/
def tCallL (X : Cx) (CX : CXT) (k : Nat) (i : Nat) (E : L2.St → XK) : TE := fun σ H Q => ∃ (f : Addr) (F : LF) (fr : List Str) (js : List Nat) (sp : List (Option V) → Hp → VK → XK → Prop), σ[i]? = some (some (.ref f)) ∧ H f = some (LamO f F) ∧ H F.c = some (CodeO F.c F.qual) ∧
  LOk X.prog X.w X.K X.mg X.base CX k f F fr sp ∧ (X.Ok → Caps X F.cl fr js) ∧ sp (js.map (slotAt σ)) H Q (E σ)
theorem pe_calll {k i : Nat} {x : Str} {p pos : Pos} {E : L2.St → XK} (hr : Room k X.A) (hx : ∀ σ, PassesAt CX X σ (E σ)) (hN : X.N[i]? = some x := by rfl) (hv : Vis X.env.scope x := by first | exact Or.inl rfl | exact Or.inr (Or.inl rfl) | exact Or.inr (Or.inr rfl))
    (hd : (x == ("__debug__" : Str)) = false := by decide) (hcd : (x == ("__classdict__" : Str)) = false := by decide) : PE X (.Call (.Name x p) [] [] pos) (tCallL X CX k i E) := by
  refine ⟨fun pins s σ H Q I h => ?_⟩
  obtain ⟨f, F, fr, js, sp, hs, hf, hc, ok, cp, q⟩ := h
  refine wpAny_Call_Name_kw (thn ((pe_var (pos := p) hN hv hd hcd).run pins s σ H (fun v H1 => v = .ref f ∧ H1 = H) I ⟨.ref f, hs, rfl, rfl⟩) fun u s1 ⟨v, H1, I1, r1, q1⟩ => ?_)
  obtain ⟨ev, eH⟩ := q1
  subst ev
  rw [eH] at I1
  obtain rfl : u = Value.ref f := r1
  obtain ⟨pm, ctv, ho⟩ := lamO_at I1.hok hf
  refine PySem.W.callWith_F0 (first := []) ⟨_, _, _, _, ho⟩ ?_
  show wpAny _ _ (call (.ref f) []) _ _ _
  refine wpAny_call (codeAny_mono (ok.run X.A X.stack s1 H _ Q (E σ) hr I1.env0 hf hc (cells_of I1 (cp I1.ok)) q) fun r s' hq => ?_)
  cases r with
  | error e => exact hx σ pins H s1 e s' I1 hq
  | ok fl =>
    cases fl with
    | ret u => exact I1.after hq
    | next => exact False.elim hq
    | brk => exact False.elim hq
    | cont => exact False.elim hq
end
end K15
set_option autoImplicit false
set_option linter.all false
set_option Elab.async false
set_option maxRecDepth 100000
set_option maxHeartbeats 2000000
/-! Rules of our own: subscripts of dicts of standings; sorted(d, key=lambda x: e[x]). -/
namespace K15
open PySem PySem.Spec PyProof.Rows L2 LamX NdefX
section
variable {X : Cx} {pos : Pos}
/-- d[k] -/
theorem pe_dgetM {o i : Expr} {td ty : TE} (hu : X.A.units + 1 < cLine) (ho : PE X o td) (hi : PE X i ty) (hs : NoSl i := by exact fun _ _ => rfl) : PE X (.Subscript o i pos) (tOp (rIxM X.prog X.w) td ty) := by
  refine ⟨fun pins s σ H Q I h => ?_⟩
  refine subD_of PySem.F.slot_dict_getitem.lookup hs (thn (ho.run pins s σ H _ I h) fun u s1 ⟨x, H1, I1, rx, q1⟩ => thn (hi.run pins s1 σ H1 _ I1 q1) fun iv s2 ⟨y, H2, I2, ry, q2⟩ => ?_)
  obtain ⟨d, a, t, ks, p, rfl, ey, D, ha, hp, q⟩ := id q2
  obtain rfl : u = Value.ref d := rx
  obtain ⟨ep, h0⟩ := D.at_
  obtain ⟨_, hr⟩ := dm_raw I2 h0
  exact ⟨hr.typeIs, get_M hu pins s2 σ H2 (.ref d) y _ _ Q I2 rfl ry q2⟩
end
section
variable {prog : Program} {w : World} {h1 : Heap} {P : Addr} {D : Nat} {env : Env} {m : Str → Option Value}
/-- the key lambda's body: f[x], in a frame of which little is known -/
theorem ev_dget {a b : Expr} {d k : Addr} {t : Sd} {xs : List (Sd × Addr × Value)} {pp : Addr × Value} {pos : Pos} {U : Nat} (hnd : d ≠ P) (hs : NoSl b) (hU : U + 2 < cLine)
    (hd : ∀ h : Heap, KpB h1 P h → h.DictOfH (stKind prog w) d xs) (hk : ∀ h : Heap, KpB h1 P h → (stKind prog w).is h t k) (hp : atKey xs t = some pp) :
    ∀ (A : Around) (E : Value → Shared → Prop) (s : Shared) (Q : Value → Shared → Prop), A.handled = none → A.depth ≤ D → A.units ≤ U → KpB h1 P s.heap → s.heap.Ns env.locals m →
      EvR prog w h1 P D env m a (fun u => u = .ref d) → EvR prog w h1 P D env m b (fun u => u = .ref k) → (∀ s', Keeps s s' → Q pp.2 s') → wpAny (model prog w) A (eval (.Subscript a b pos) env) Q E s := by
  intro A E s Q hh hD hu kp hn ha hb h
  refine subD_of PySem.F.slot_dict_getitem.lookup hs (ha A E s _ hh hD kp hn fun v s1 ev k1 => hb A E s1 _ hh hD (k_kp k1 kp) (k_ns k1 hn) fun u s2 eu k2 => ?_)
  subst ev eu
  have kp2 := k_kp k2 (k_kp k1 kp)
  have hm := hd _ kp2
  refine ⟨?_, wpAny_getItem_heap (p := pp) (tupleKind_room_in1 (by omega)) (hk _ kp2) hm hp (h _ (k_tr k1 (k_tr k2 (GxR.keeps_tok s2 _))))⟩
  obtain ⟨o, es, ep, ho, hx, _⟩ := hm
  exact ⟨o, ho, hx.1⟩
end
theorem ints_reads0 {h : Heap} {vs : List Value} {i j : Int} {as : List Addr} (r4 : ReadsAll h vs [.int i, .int j] as) : as = [] := by
  cases r4 with
  | cons q1 q2 =>
    cases q1
    cases q2 with
    | cons q3 q4 =>
      cases q3
      cases q4
      rfl
theorem sl_reads0 {h : Heap} {v : Value} {s : Sl} {as : List Addr} (r : Reads h v (slD s) as) : as = [] := by
  unfold slD at r
  cases r with
  | tuple _ _ _ r4 => exact ints_reads0 r4
theorem reads_nolist {h : Heap} : ∀ {u : Wd} {vs : List Value} {as : List Addr}, ReadsAll h vs (u.map slD) as → as = []
  | [], _, _, r => by
    cases r
    rfl
  | s :: u, _, _, r => by
    rw [List.map_cons] at r
    cases r with
    | cons r rs =>
      rw [sl_reads0 r, reads_nolist (u := u) rs]
      rfl
theorem wd_reads0 {h : Heap} {v : Value} {w : Wd} {as : List Addr} (r : Reads h v (wD w) as) : as = [] := by
  unfold wD at r
  cases r with
  | tuple _ _ _ r4 => exact reads_nolist r4
/-- a word in the heap reads as its data -/
theorem wd_dp {K : PySem.W.Frag} {H : Hp} {a : Addr} {w : Wd} (h : WdAt H a w) : Dp K H (.ref a) (wD w) := by
  obtain ⟨as, h1, h2, h3⟩ := h
  refine .tup (SqT.of h1) ?_
  have : ∀ (as : List Addr) (w : Wd), as.length = w.length → (∀ (i : Nat) (a : Addr) (p : Sl), as[i]? = some a → w[i]? = some p → H a = some (.tup [iv p.1, iv p.2])) → DpAll K H (as.map V.ref) (w.map slD) := by
    intro as
    induction as with
    | nil => intro w hl _; cases w with
      | nil => exact .nil
      | cons _ _ => simp at hl
    | cons a as ih =>
      intro w hl hp
      cases w with
      | nil => simp at hl
      | cons s w =>
        refine .cons (.tup (SqT.of (hp 0 a s rfl rfl)) (.cons (.int _) (.cons (.int _) .nil))) (ih w (by simpa using hl) fun i b p e1 e2 => hp (i + 1) b p e1 e2)
  exact this as w h2 h3
theorem each_ref {bs : List Ent} : ∀ {out : List Value}, PySem.W.EachIs (fun (v : Value) (e : Ent) => v = .ref e.2.1) out bs → out = bs.map fun e => Value.ref e.2.1 := by
  intro out h
  induction h with
  | nil => rfl
  | cons r _ ih => rw [List.map_cons, r, ih]
theorem each_refs : ∀ (bs : List Ent), PySem.W.EachIs (fun (v : Value) (e : Ent) => v = .ref e.2.1) (bs.map fun e => Value.ref e.2.1) bs
  | [] => .nil
  | _ :: bs => .cons rfl (each_refs bs)
section
variable {X : Cx}
/-- sorted(d, key=lambda x: f[x]) -/
def tSortKey (X : Cx) (j : Nat) (x y : Str) (body : Expr) (td tl : TA) : TE := fun σ H Q => td σ H fun vs H1 => tl σ H1 fun zs H2 => ∃ (d dF f : Addr) (ks kF : List Ent) (F : LF) (wf : Ent → Wd), vs = [.ref d] ∧ zs = [.ref f] ∧ DMAt X.prog X.w H2 d ks ∧ DMAt X.prog X.w H2 dF kF ∧ σ[j]? = some (some (.ref dF)) ∧
  H2 f = some (LamO f F) ∧ H2 F.c = some (CodeO F.c F.qual) ∧ F.body = body ∧ (X.Ok → Caps X F.cl [x] [j]) ∧ NScope [y, x] [y] [x] F.scope ∧ (∀ pm ctv u, bindArgs (F.fd pm ctv) ⟨[u], []⟩ = pure [(y, u)]) ∧
  (∀ e ∈ ks, ∃ p, atM kF e.1 = some p ∧ WdAt H2 p.2 (wf e) ∧ wf e ≠ []) ∧
  ∀ (p : Addr) (ks' : List Ent), ks'.Perm ks → H2 p = none → Q (.ref p) (upd H2 p (.lst (ks'.map fun e => V.ref e.2.1)))
theorem pe_sortKey {k j : Nat} {x y : Str} {e1 : Expr} {td tl : TA} {lp : Arguments} {scope : Scope} {p q1 q2 q3 lpos kpos pos : Pos} (hc : X.calm = true) (hr : Room k X.A) (hg : Gl X "sorted") (hm : X.mg "sorted" = none) (hd : PA X [e1] td)
    (hl : PK X [⟨some "key", .Lambda lp (.Subscript (.Name x q1) (.Name y q2) q3) scope lpos, kpos⟩] tl) (hdx : (x == ("__debug__" : Str)) = false := by decide) (hcx : (x == ("__classdict__" : Str)) = false := by decide) (hdy : (y == ("__debug__" : Str)) = false := by decide)
    (he : backTo pos (starEach [e1] X.env) = (false, eval e1 X.env) :: backTo pos (starEach [] X.env) := by rfl) (hpl : (backTo pos (starEach [e1] X.env)).any (·.1) = false := by rfl)
    (hall : (backToKw pos (keywordEach [⟨some "key", .Lambda lp (.Subscript (.Name x q1) (.Name y q2) q3) scope lpos, kpos⟩] X.env)).all (·.1.isSome) = true := by rfl) (hnone : (backToKw pos (keywordEach [⟨some "key", .Lambda lp (.Subscript (.Name x q1) (.Name y q2) q3) scope lpos, kpos⟩] X.env)).any (·.1.isNone) = false := by rfl)
    (hks : (backToKw pos (keywordEach [⟨some "key", .Lambda lp (.Subscript (.Name x q1) (.Name y q2) q3) scope lpos, kpos⟩] X.env)).filterMap (·.1) = [("key" : Str)] := by rfl) :
    PE X (.Call (.Name "sorted" p) [e1] [⟨some "key", .Lambda lp (.Subscript (.Name x q1) (.Name y q2) q3) scope lpos, kpos⟩] pos) (tSortKey X j x y (.Subscript (.Name x q1) (.Name y q2) q3) td tl) := by
  refine ⟨fun pins s σ H Q I h => ?_⟩
  refine wpAny_Call_Name_kw (ld_blt I hg hm PyProof.Rows.boot_sorted ?_)
  refine PyProof.Rows.callWith_kw (thn (hd.run pos pins s σ H _ I h) fun us s1 ⟨vs, H1, I1, r1, q1'⟩ => thn (hl.run pos pins s1 σ H1 _ I1 q1') fun ws s2 ⟨zs, H2, I2, r2, q2'⟩ => ?_) he hpl hall hnone
  rw [hks]
  obtain ⟨d, dF, f, ks, kF, F, wf, rfl, rfl, Dd, DF, hσ, hf, hcO, hbody, hcaps, hS, hbind, hwf, q⟩ := q2'
  obtain rfl := Vals.ref1 r1
  obtain rfl := Vals.ref1 r2
  show wpAny _ _ (call (.builtin "sorted") [.ref d] [(Str.ofString "key", .ref f)]) _ _ s2
  obtain ⟨ep, h0⟩ := Dd.at_
  obtain ⟨lo, hraw⟩ := dm_raw I2 h0
  have hA2 : X.A.in1.handled = none := I2.ok.hd hc
  have hlen := Dd.sz
  refine call_function_entry_kw kind_sorted plain_sorted entry_sorted (ksk_s1 _ _) ?_
  unfold Builtin.«sorted»
  refine wpAny_bind (m := checkCount "sorted" 1 1 _) (wpAny_pure ?_)
  refine wpAny_bind (PySem.W.kdu_collect (A := X.A.in1) (KdlSrc.rawDict lo) hA2 hraw (by simp; rw [sizeLine_eq]; omega) fun h' tk acc hk hacc => ?_)
  have hacl : acc.toList = ks.map fun e => Value.ref e.2.1 := by
    refine List.ext_getElem? fun i => ?_
    obtain ⟨ha1, ha2⟩ := hacc
    have hsz : acc.size = ks.length := by rw [ha1]; simp
    rw [Array.getElem?_toList, List.getElem?_map]
    by_cases hi : i < ks.length
    · rw [Array.getElem?_eq_getElem (by omega)]
      obtain ⟨hj, ev⟩ := ha2 i _ (Array.getElem?_eq_getElem (by omega))
      obtain ⟨e, he1, he2⟩ := ents_get X.prog X.w ks hj
      rw [ev, he2, he1]
      rfl
    · rw [Array.getElem?_eq_none (by omega), List.getElem?_eq_none (by omega)]
      rfl
  rw [hacl]
  have I3 : Inv X pins σ H2 { s2 with heap := h', toks := tk } := I2.kept hk
  have hL : (ks.map fun e => Value.ref e.2.1).length ≤ sizeLine := by rw [List.length_map, sizeLine_eq]; omega
  refine wpAny_bind (wpAny_newList ?_ hL)
  have hoL : (h'.push (seqObj "list" (ks.map fun e => Value.ref e.2.1).toArray 0)).get? h'.objs.size = some (seqObj "list" (ks.map fun e => Value.ref e.2.1).toArray 0) := Heap.get?_push_size _ rfl
  show wpAny _ _ _ _ _ { s2 with heap := h'.push (seqObj "list" (ks.map fun e => Value.ref e.2.1).toArray 0), toks := tk }
  have hun := hr.units
  have hdp := hr.dp
  refine wpAny_bind (wpAny_holding (wpAny_call_entry_kw slot_list_sort ⟨_, hoL, rfl⟩ entry_list_sort ?_ (ksk_l1 _ _)))
  rw [ksk_t1]
  refine PySem.W.keyH_tree (s := { s2 with heap := h'.push (seqObj "list" (ks.map fun e => Value.ref e.2.1).toArray 0), toks := tk }) (kz := ks.map fun e => wD (wf e)) hoL (by rw [List.length_map, List.length_map]) hL ?_ ?_ ?_ (PySem.W.keyH_turns (R := fun (v : Value) (e : Ent) => v = .ref e.2.1) (k := fun e => wD (wf e)) (each_refs ks) ?_) ?_
  · intro d1 m1 d2 m2
    obtain ⟨e1, _, rfl⟩ := List.mem_map.mp m1
    obtain ⟨e2, _, rfl⟩ := List.mem_map.mp m2
    exact w_alike _ _
  · refine .inl fun d1 m1 => ?_
    obtain ⟨e1, he1, rfl⟩ := List.mem_map.mp m1
    obtain ⟨_, _, _, hne⟩ := hwf e1 he1
    cases hw : wf e1 with
    | nil => exact absurd hw hne
    | cons a b => exact ⟨_, _, rfl⟩
  · intro d1 m1
    obtain ⟨e1, _, rfl⟩ := List.mem_map.mp m1
    have := wD_depth (wf e1)
    show X.A.units + 1 + 1 + (wD (wf e1)).depth < cLine
    omega
  · -- the key function's call
    rintro v e rfl he g tk' kb
    obtain ⟨pp, hat, hwd, hne⟩ := hwf e he
    -- what is kept
    have hup : ∀ b o, h'.get? b = some o → g.get? b = some o := fun b o eb => kb b o (Nat.ne_of_lt (Heap.lt_size eb)) (Heap.get?_push_of_some _ eb)
    have Ig : Inv X pins σ H2 { s2 with heap := g, toks := tk' } := I3.kept (t' := tk') hup
    obtain ⟨pm, ctv, ho⟩ := lamO_at Ig.hok hf
    have co := codeO_at Ig.hok hcO
    have C := cells_of Ig (hcaps Ig.ok)
    have lim : g.NoLimit := Ig.nolimit
    refine wpAny_call (PySem.W.kla_callFunE (by show X.A.depth < _; omega) ho rfl hS.co hS.gen rfl co ?_)
    rw [hbind]
    refine wpAny_pure (wpAny_newFunctionEnv hS.nocell (fun z hz => by rw [List.mem_singleton.mp hz]; exact hS.par y (by simp)) (fun h₁ hns hsb => ⟨lim.fresh _ hsb, ?_⟩) hS.kind)
    have kpg : ∀ b o, g.get? b = some o → h₁.get? b = some o := fun b o eb => hsb.extBut b o (Nat.ne_of_lt (Heap.lt_size eb)) (Heap.get?_push_of_some _ eb)
    show codeAny _ _ (.expr F.body (envF F.nf f g.objs.size)) _ _
    rw [hbody]
    -- the captured name's cell
    obtain ⟨cc, hcc, hcv⟩ := C.has 0 x rfl
    obtain ⟨ur, rur, hcell⟩ := hcv (.ref dF) (by show some (slotAt σ j) = _; rw [slotAt_of hσ])
    obtain rfl : ur = Value.ref dF := rur
    obtain ⟨epF, hF0⟩ := DF.at_
    obtain ⟨loF, hrawF⟩ := dm_raw Ig hF0
    have hsz : g.objs.size ≤ h₁.objs.size := by rw [hsb.1, Heap.size_push]; exact Nat.le_succ _
    have hgx : ∀ {b : Addr} {o : Obj}, g.get? b = some o → b ≠ g.objs.size := fun eb => Nat.ne_of_lt (Heap.lt_size eb)
    have kf : (envF F.nf f g.objs.size).scope.kind = .function := hS.kind
    have hDo : ∀ h : Heap, KpB g g.objs.size h → h.DictOfH (stKind X.prog X.w) dF (kF.map x3) := fun hh kk => by
      have hm := (dm_of Ig DF).2
      obtain ⟨o, es, ep2, ho2, hx2, hd2, he2, hk2, hn2⟩ := hm
      refine ⟨o, es, ep2, kk _ _ (hgx ho2) ho2, hx2, hd2, he2, fun z hz => ?_, hn2⟩
      obtain ⟨e2, m2, rfl⟩ := List.mem_map.mp hz
      have tk := key_is Ig.hok (DF.key e2 m2)
      obtain ⟨o3, its3, n3, a1, a2, a3, a4⟩ := tk
      exact ⟨o3, its3, n3, kk _ _ (hgx a1) a1, a2, a3, a4⟩
    have hKi : ∀ h : Heap, KpB g g.objs.size h → (stKind X.prog X.w).is h e.1 e.2.1 := fun hh kk => by
      obtain ⟨o3, its3, n3, a1, a2, a3, a4⟩ := key_is Ig.hok (Dd.key e he)
      exact ⟨o3, its3, n3, kk _ _ (hgx a1) a1, a2, a3, a4⟩
    refine PySem.W.kla_codeExpr (ev_dget (prog := X.prog) (w := X.w) (h1 := g) (P := g.objs.size) (D := X.A.depth + 1) (U := X.A.units + 5) (env := envF F.nf f g.objs.size) (m := fun z => [(y, Value.ref e.2.1)].reverse.lookup z) (d := dF) (k := e.2.1) (t := e.1) (xs := kF.map x3) (pp := (pp.1, .ref pp.2))
      (let ⟨o, ho', _⟩ := hrawF; hgx ho') (fun _ _ => rfl) (by omega) hDo hKi (by rw [atKey_x3, hat]; rfl) _ _ _ _ hA2 (Nat.le_refl _) (Nat.le_refl _) (fun b o _ eb => kpg b o eb) hns ?_ ?_ fun s' ks' => ?_)
    · obtain ⟨oc, hoc, rc⟩ := hcell
      exact ev_free kf (hS.frk x (by simp)) hcc ⟨oc, hoc, rc⟩ (hgx hoc) hdx hcx
    · exact ev_loc kf (hS.par y (by simp)) (by simp [List.lookup]) hdy
    · obtain ⟨h5, tk5, rfl, k5⟩ := ks'
      have kall : ∀ b o, g.get? b = some o → h5.get? b = some o := fun b o eb => k5 b o (kpg b o eb)
      refine ⟨h5, tk5, rfl, kall, ?_⟩
      obtain ⟨as2, rd⟩ := Dp.reads Ig _ _ (.ref pp.2) (wd_dp (K := X.K) hwd) rfl
      rw [wd_reads0 rd] at rd
      exact PyProof.Rows.Reads.keeps kall rd
  · -- behind the sort
    intro h3 tk3 out c kp hout ko
    have eo := PySem.W.keyedOut_each (R := fun (v : Value) (e : Ent) => v = .ref e.2.1) (bs := ks) (fun e => wD (wf e)) ko (each_refs ks)
    have e1 := each_ref eo
    have hup : ∀ b o, h'.get? b = some o → h3.get? b = some o := fun b o eb => kp b o (Nat.ne_of_lt (Heap.lt_size eb)) (Heap.get?_push_of_some _ eb)
    refine ⟨_, rfl, wpAny_pure ⟨_, rfl, .ref h'.objs.size, _, I3.laid (t' := tk3) hup (Nat.le_refl _) (show ObjOk X.prog X.w _ _ _ (.lst ((ks.mergeSort (PySem.W.dataLe false fun e => wD (wf e))).map fun e => V.ref e.2.1)) from ⟨by rw [List.length_map, List.length_mergeSort, sizeLine_eq]; omega, out, c, ?_, hout⟩), rfl, q _ _ (List.mergeSort_perm _ _) (I3.hok.fresh (Nat.le_refl _))⟩⟩
    rw [e1]
    have : ∀ l : List Ent, Vals (l.map fun e => V.ref e.2.1) (l.map fun e => Value.ref e.2.1) := fun l => by
      induction l with
      | nil => exact .nil
      | cons a l ih => exact .cons rfl ih
    exact this _
end
end K15
set_option autoImplicit false
set_option linter.all false
set_option Elab.async false
set_option maxRecDepth 100000
set_option maxHeartbeats 2000000
/-! Rules of our own: an own error without arguments; several except clauses, each with a name. -/
namespace K15
open PySem PySem.Spec PyProof.Rows L2
section
variable {X : Cx} {C : Addr} {bmB : List Value} {B newId initId : String}
/-- X() -/
theorem pmk_own0 {x : Str} {p pos : Pos} (F : ExcBaseFacts B newId initId bmB) (q : PySem.W.excIn X.K C bmB newId = true) (gC : X.mg x = some (.ref C)) (kC : PySem.W.keepIn X.K (.ref C) = true) (r : Raises X (.ref C)) (hg : Gl X x)
    (hdb : (x == ("__debug__" : Str)) = false := by decide) : PMk X (.Call (.Name x p) [] [] pos) (fun _ H Q => Q (.ref C) none H) := by
  intro pins s σ H Q I h
  refine wpAny_Call_Name_kw (ld_glob I hg gC ?_ hdb)
  refine PySem.W.callWith_K0 (first := []) I.kIn kC ?_
  show wpAny _ _ (call (.ref C) []) _ _ _
  obtain ⟨bm, N, nm, qn, bs, hdct, sn, sub, ab, col, dd, k0, k1, k2, k3, k5, mN, hC, hN, hni, T⟩ := exc_obj I.kIn q
  refine wpAny_call_exc_subT F T hC hN hni (fun h' e hm => ?_) (Nat.zero_le _)
  exact mk_of I hm r h (I.hok.gone hm.new)
end
/-- what the clauses 'except x as n' wish of an exception of the body, one after the other; slot i is n's -/
def wManyAs (K : PySem.W.Frag) (i : Nat) (Wout : WX) (D : Ends) : List (Value × (Addr → Value → Option Addr → TS)) → WX
  | [] => Wout
  | (c, ts) :: r => fun cls d σ H => ∃ b, PySem.W.exmOne K cls c = some b ∧
      (b = true → ∀ a, H a = none → ts a cls d { nx := fun σ' H' => D.nx (σ'.set i none) H', rt := D.rt, bk := fun σ' H' => D.bk (σ'.set i none) H', ct := fun σ' H' => D.ct (σ'.set i none) H' } (σ.set i (some (.ref a))) H) ∧ (b = false → wManyAs K i Wout D r cls d σ H)
inductive HdsAs (X : Cx) (n : Str) : List ExceptHandler → List (Value × (Addr → Value → Option Addr → TS)) → Prop
  | nil : HdsAs X n [] []
  | cons {x : Str} {c : Value} {ts : Addr → Value → Option Addr → TS} {b₀ : Stmt} {suite : List Stmt} {np pos' : Pos} {hds : List ExceptHandler} {l : List (Value × (Addr → Value → Option Addr → TS))} (hc : Names X x c)
      (hsu : ∀ (a : Addr) (oe : Obj) (cls : Value) (d : Option Addr) (pn : List (Addr × Obj)), Zc cls d oe → (∃ vs, oe.data = .fields vs) → PSs (X.suite a ((a, oe) :: pn)) (b₀ :: suite) (ts a cls d)) (r : HdsAs X n hds l) :
      HdsAs X n (.ExceptHandler (some (.Name x np)) (some n) (b₀ :: suite) pos' :: hds) ((c, ts) :: l)
section
variable {X : Cx} {body : List Stmt} {h₀ : ExceptHandler} {hds : List ExceptHandler} {l : List (Value × (Addr → Value → Option Addr → TS))} {pos : Pos} {tb : WX → TS} {Wout : WX} {n : Str} {i : Nat}
theorem ps_try_manyAs (hs : X.stack = X.env :: X.outer) (hf : X.env.frame = some X.env.locals) (hN : X.N.Nodup) (hi : X.N[i]? = some n) (hln : X.env.kindOf n = some .local) (tk : Takes X Wout)
    (hb : ∀ (W : WX) (pn : List (Addr × Obj)) (xe : Value → Shared → Prop), Takes (X.tr pn xe) W → PassesOwn (model X.prog X.w) X.A X.env xe → PSs (X.tr pn xe) body (tb W))
    (hh : HdsAs X n (h₀ :: hds) l) : PS X (.Try body (h₀ :: hds) [] [] pos) (fun D σ H => tb (wManyAs X.K i Wout D l) D σ H) := by
  refine ⟨fun pins s σ H D I h => ?_⟩
  have ok := I.ok
  have hfr : X.A.frames = some (X.env :: X.outer) := by rw [ok.frames, hs]
  have hloc : Loc X.env.scope n := .inl hln
  refine wpAny_Try_except ?_
  refine wpAny_mono ((hb (wManyAs X.K i Wout D l) (X.pn ++ pins) (fun e s₁ => wpAny (model X.prog X.w) X.A (noteFrame e X.env) (fun _ s₂ => wpAny (model X.prog X.w) X.A (setFlight e none) (fun _ s₃ =>
    wpAny (model X.prog X.w) X.A (handleBy e X.env (h₀ :: hds)) (SP X pins D) X.xe s₃) X.xe s₂) X.xe s₁) (fun u s' xx => ?_) PassesOwn.looking).run [] s σ H D (I.toTry _) h) (fun f s1 hsp => ?_) (fun e s1 he => he)
  · obtain ⟨a, B, sI, pins', σ', H', cls, d, rfl, J', nb, up, sky, na, os, ag, w⟩ := xx
    have J : Inv X pins σ' H' sI := J'.ofTry ok
    have sky' : Sky B (X.env :: X.outer) a (Zc cls d) X.env.locals s'.heap := by rw [← hs]; exact sky
    show wpAny (model X.prog X.w) X.A (noteFrame (.ref a) X.env) _ _ _
    refine Sky.land Zc.steady hfr hf sky' fun h3 fl3 up3 => ?_
    have J3 : Inv X pins σ' H' { s' with heap := h3 } := J.landed nb fl3.1 (up.trans up3) os ag
    obtain ⟨oe3, vs3, he3, hz3, hd3⟩ := fl3.there
    have notFr : ∀ {h : Heap} {o : Obj} {vs : Array Value}, h.FunFrames B (X.env :: X.outer) → h.get? a = some o → o.data = .fields vs → a ∉ frs (X.env :: X.outer) := fun {h o vs} ff e dd hm => by
      obtain ⟨_, o', e', hnf⟩ := ff.mem hm
      rw [e] at e'; cases e'
      exact hnf _ dd
    have nfr := notFr fl3.2.2.1 he3 hd3
    have nL : a ≠ X.env.locals := fun z => nfr (List.mem_filterMap.mpr ⟨X.env, List.mem_cons_self, by rw [hf, z]⟩)
    have nF : a ∉ X.fs := fun hm => by
      obtain ⟨e, he, q⟩ := List.mem_filterMap.mp hm
      exact nfr (List.mem_filterMap.mpr ⟨e, List.mem_cons_of_mem _ he, q⟩)
    have S3 := J3.suite he3 hd3 na nL nF
    have go : ∀ {hds' : List ExceptHandler} {l' : List (Value × (Addr → Value → Option Addr → TS))}, HdsAs X n hds' l' → wManyAs X.K i Wout D l' cls d σ' H' →
        wpAny (model X.prog X.w) X.A (handleBy (.ref a) X.env hds') (SP X pins D) X.xe { s' with heap := h3 } := by
      intro hds' l' hk
      induction hk with
      | nil =>
        intro w
        refine wpAny_handleBy_nil ?_
        obtain ⟨k1, k2, k3, oe, vs, T, oT, ts', he, hz, hd, h1, hr⟩ := id fl3
        unfold PySem.passOn
        refine wpAny_bind (wpAny_field he hd h1 ?_)
        rw [if_neg (show ¬ ((Value.ref T == Value.none) = true) from by simp)]
        have fin : wpAny (model X.prog X.w) X.A (setFlight (.ref a) X.env.frame) (fun _ s4 => wpAny (model X.prog X.w) X.A (throw (.ref a) : Sem Flow) (SP X pins D) X.xe s4) X.xe { s' with heap := h3 } := by
          rw [hf]
          refine HandSPX.setFlight_upZ fl3 fun h4 hh4 up4 => wpAny_throw (tk _ _ ?_)
          exact ⟨a, B, sI, pins, σ', H', cls, d, rfl, J, nb, (up.trans up3).trans up4, .inr (.inr (by rw [hs]; exact hh4)), na, os, ag, w⟩
        first
          | exact wpAny_bind (wpAny_pure (wpAny_bind fin))
          | exact wpAny_bind fin
      | @cons x c ts b₀ suite np pos' hds2 l2 hc hsu r ih =>
        intro w
        obtain ⟨b, hb1, hyes, hno⟩ := w
        refine wpAny_handleBy_cons (codeAny_handlers_test ?_) (by intro q; cases q)
        have LT : PySem.W.Looks (model X.prog X.w) h3 (typeOf (.ref a)) cls := fun A Q E s k q => wpAny_typeOf_ref (k _ _ he3) (by rw [hz3.1]; exact q)
        have LM := PySem.W.exm_one (M := model X.prog X.w) (J3.kIn) LT hb1
        have test : ∀ {Q : Value → Shared → Prop} {E : Value → Shared → Prop}, Q c { s' with heap := h3 } → wpAny (model X.prog X.w) (X.A.mark (some (.ref a))) (eval (.Name x np) X.env) Q E { s' with heap := h3 } := fun {Q E} q => by
          obtain ⟨hg, hdbg, hm | ⟨hm, hv, hnn⟩⟩ := hc
          · exact ld_glob (X := X.suite a ((a, oe3) :: (X.pn ++ pins))) S3 hg hm q hdbg
          · exact ld_blt (X := X.suite a ((a, oe3) :: (X.pn ++ pins))) S3 hg hm hv q hnn hdbg
        refine test (LM.here ?_)
        cases b with
        | true =>
          refine codeAny_handlers_suite_as ?_
          refine HandSPX.lands_againZ fl3 fun h4 fl4 up4 => ?_
          have J4 : Inv X pins σ' H' { s' with heap := h4 } := J.landed nb fl4.1 ((up.trans up3).trans up4) os ag
          obtain ⟨oe4, vs4, he4, hz4, hd4⟩ := fl4.there
          have S4 := J4.suite he4 hd4 na nL nF
          refine store_ok (X := X.suite a ((a, oe4) :: (X.pn ++ pins))) (v := .ref a) S4 hN hi hloc rfl (fun s5 S5 => ?_) (.inr hln)
          refine wpAny_mono ((hsu a oe4 cls d (X.pn ++ pins) hz4 ⟨_, hd4⟩).run [] s5 _ H' _ S5 (hyes rfl a na)) (fun f s6 hsp => ?_) (fun _ _ z => False.elim z)
          have end_ : ∀ {σ6 : L2.St} {H6 : Hp} {Q : Shared → Prop}, Inv (X.suite a ((a, oe4) :: (X.pn ++ pins))) [] σ6 H6 s6 → (∀ s7, Inv X pins (σ6.set i none) H6 s7 → Q s7) →
              wpAny (model X.prog X.w) X.A (do bindName X.env n .none; unbindBehindTheSuite X.env n pos') (fun _ s7 => Q s7) X.xe s6 := fun {σ6 H6 Q} S6 hq => gone_ok (S6.unsuite ok) hN hi hln hq
          cases f with
          | next =>
            obtain ⟨σ6, H6, S6, q6⟩ := hsp
            exact end_ S6 fun s7 J7 => ⟨_, _, J7, q6⟩
          | brk =>
            obtain ⟨σ6, H6, S6, q6⟩ := hsp
            exact end_ S6 fun s7 J7 => ⟨_, _, J7, q6⟩
          | cont =>
            obtain ⟨σ6, H6, S6, q6⟩ := hsp
            exact end_ S6 fun s7 J7 => ⟨_, _, J7, q6⟩
          | ret u =>
            obtain ⟨v6, σ6, H6, S6, r6, q6⟩ := hsp
            exact end_ S6 fun s7 J7 => ⟨_, _, _, J7, r6, q6⟩
        | false =>
          show wpAny _ X.A (handleBy (.ref a) X.env hds2) _ _ _
          exact ih (hno rfl)
    exact go hh w
  · cases f with
    | next =>
      obtain ⟨σ', H', J', q⟩ := hsp
      exact wpAny_execs_nil ⟨σ', H', J'.ofTry ok, q⟩
    | brk =>
      obtain ⟨σ', H', J', q⟩ := hsp
      exact ⟨σ', H', J'.ofTry ok, q⟩
    | cont =>
      obtain ⟨σ', H', J', q⟩ := hsp
      exact ⟨σ', H', J'.ofTry ok, q⟩
    | ret u =>
      obtain ⟨v, σ', H', J', r, q⟩ := hsp
      exact ⟨v, σ', H', J'.ofTry ok, r, q⟩
end
end K15
set_option autoImplicit false
set_option linter.all false
set_option Elab.async false
set_option maxRecDepth 100000
set_option maxHeartbeats 2000000
/-! The program's defs, fourth part: slid, can_slide, need_book, slides_of. -/
namespace K15
open PySem PySem.Spec PyProof.Rows L2
abbrev sSlid : Stmt := top 21
abbrev sCan : Stmt := top 19
abbrev sBook : Stmt := top 18
abbrev sSlides : Stmt := top 22
def SlAt (H : Hp) (a : Addr) (s : Sl) : Prop := H a = some (.tup [iv s.1, iv s.2])
theorem ov_get {t : Sd} {i : Nat} (h : i < t.length) : (t.map ov)[i]? = some (ov (t.getD i none)) := by
  rw [List.getElem?_map, List.getElem?_eq_getElem h, List.getD_eq_getElem?_getD, List.getElem?_eq_getElem h]; rfl
theorem ov_atI {t : Sd} {i : Nat} (h : i < t.length) : atI (t.map ov) (i : Int) = some (ov (t.getD i none)) := atI_nat (by rw [ov_get h])
theorem ov_none {o : Option Nat} : decide (ov o = V.non) = (o == none) := by
  cases o with
  | none => exact decide_eq_true rfl
  | some b => exact decide_eq_false (fun z => nomatch z)
theorem ixn {n j : Nat} (hj : j < n) : ixN n (j : Int) = some j := by
  unfold ixN
  rw [if_pos (by omega), if_pos (by omega)]
  simp
theorem slid_map (t : Sd) (s : Sl) : ((t.map ov).set s.1 V.non).set s.2 (ov (t.getD s.1 none)) = (slid t s).map ov := by
  unfold slid
  rw [List.map_set, List.map_set]
  rfl
def spSlid : Sp := fun vs H Q _ => ∃ (a b : Addr) (t : Sd) (s : Sl), vs = [.ref a, .ref b] ∧ StAt H a t ∧ SlAt H b s ∧ s.1 < t.length ∧ s.2 < t.length ∧ t.length ≤ 100 ∧ ∀ (p : Addr) (H' : Hp), Same H H' → H p = none → StAt H' p (slid t s) → Q (.ref p) H'
section
variable {P : Program} {w : World} {K : PySem.W.Frag} {mg : Str → Option Value} {base : Heap}
theorem scSlid : FnScope ["standing", "slide", "found"] ["standing", "slide"] (defScope sSlid) := ⟨rfl, rfl, rfl, by decide +kernel, rfl, by decide +kernel, by decide +kernel⟩
theorem ok_slid {f : Addr} {fd : FuncData} (F : Fun K "slid" "slid" sSlid f fd) (B : Bl mg) : FnOk P w K mg base CX0 1 f fd ["standing", "slide"] spSlid := by
  refine F.ok scSlid (fun vs H Q E h => ?_) (fun cdv A outer s H vs Q E hr h => ?_)
  · obtain ⟨a, b, t, s, rfl, _⟩ := h
    rfl
  · obtain ⟨a, b, t, sl, rfl, ha, hb, h1, h2, hz, k⟩ := h
    refine ⟨_, pss_cons (ps_set (i := 2) scSlid.nd rfl (Or.inl rfl) (pe_callTy call_list_of (by rfl) B.list (by decide +kernel) (pa_cons (pv 0) pa_nil)))
      (pss_cons (ps_asg (pe_tup (pa_cons pe_non (pa_cons (pe_ix ix_tup (pv 0) (pe_ix ix_tup (pv 1) pe_int (fun _ _ => rfl)) (fun _ _ => rfl)) pa_nil)))
        (pg_tup rfl (pgs_cons (pg_sub (pv 2) (pe_ix ix_tup (pv 1) pe_int (fun _ _ => rfl)) set_list) (pgs_cons (pg_sub (pv 2) (pe_ix ix_tup (pv 1) pe_int (fun _ _ => rfl)) set_list) pgs_nil))))
        (pss_one (ps_ret (pe_callTy call_tuple_of (by rfl) B.tuple (by decide +kernel) (pa_cons (pv 2) pa_nil))))), ?_⟩
    have hne : ∀ {c : Addr} {o : HO}, H c = none → ∀ {d : Addr}, H d = some o → d ≠ c := fun hc _ hd => ne_of_none hd hc
    refine ⟨_, rfl, a, _, rfl, .inr ha.sq, fun L hL => ?_⟩
    have ha1 : TupH (upd H L (.lst (t.map ov))) a (t.map ov) := ha.ext fun o e => same_new _ hL _ _ e
    have hb1 : SqT K (upd H L (.lst (t.map ov))) b [iv sl.1, iv sl.2] := SqT.of (same_new _ hL _ _ hb)
    refine ⟨_, rfl, _, rfl, b, _, _, _, rfl, rfl, hb1, rfl, a, _, _, _, rfl, rfl, ha1.sq, ov_atI h1, by show 2 ≤ sizeLine; decide, fun T hT => ?_⟩
    have hTL : T ≠ L := fun z => by rw [z, upd_same] at hT; cases hT
    have hT0 : H T = none := by rw [upd_ne hTL] at hT; exact hT
    refine ⟨T, _, rfl, SqT.of upd_same, rfl, _, _, rfl, ?_⟩
    have hb2 : SqT K (upd (upd H L (.lst (t.map ov))) T (.tup [V.non, ov (t.getD sl.1 none)])) b [iv sl.1, iv sl.2] := same_seqT (same_new _ hT) hb1
    refine ⟨_, rfl, _, rfl, b, _, _, _, rfl, rfl, hb2, rfl, L, _, _, sl.1, rfl, rfl, Eq.trans (upd_ne hTL.symm) upd_same, ixn (by rw [List.length_map]; exact h1), ?_⟩
    have hLb : ∀ {o o2 o3 : HO}, SqT K (upd (upd (upd H L o) T o2) L o3) b [iv sl.1, iv sl.2] := SqT.of (by rw [upd_ne (ne_of_none hb hL), upd_ne (ne_of_none hb hT0), upd_ne (ne_of_none hb hL)]; exact hb)
    refine ⟨_, _, rfl, _, rfl, _, rfl, b, _, _, _, rfl, rfl, hLb, rfl, L, _, _, sl.2, rfl, rfl, upd_same, ixn (by rw [List.length_set, List.length_map]; exact h2), rfl, ?_⟩
    rw [slid_map]
    refine ⟨_, rfl, L, _, rfl, .inl ⟨.inl (.inl upd_same), fun R hR => ?_⟩⟩
    have hRL : R ≠ L := fun z => by rw [z, upd_same] at hR; cases hR
    rw [upd_ne hRL, upd_ne hRL] at hR
    have hR0 : H R = none := (same_new _ hL).trans (same_new _ hT) |>.free hR
    refine k R _ (fun c o e => ?_) hR0 (.inl upd_same)
    rw [upd_ne (ne_of_none e hR0), upd_ne (ne_of_none e hL), upd_ne (ne_of_none e hL), upd_ne (ne_of_none e hT0), upd_ne (ne_of_none e hL)]
    exact e
end
end K15
set_option autoImplicit false
set_option linter.all false
set_option Elab.async false
set_option maxRecDepth 100000
set_option maxHeartbeats 2000000
/-! The program's defs, fifth part: can_slide, need_book. -/
namespace K15
open PySem PySem.Spec PyProof.Rows L2
/-- an own error class of the program: over StoreError, over ValueError -/
structure ExC (K : PySem.W.Frag) (mg : Str → Option Value) (x : Str) (C : Addr) : Prop where
  g : mg x = some (.ref C)
  x : PySem.W.excIn K C [.type "ValueError", .type "Exception", .type "BaseException", .type "object"] "ValueError.__new__" = true
  k : PySem.W.keepIn K (.ref C) = true
  b : PySem.W.subIn K (.ref C) (.type "BaseException") = some true
  t : PySem.W.typeIn K (.ref C) = some (.type "type")
/-! the pair of a slide, ascending -/
def asc (s : Sl) : Sl := if s.1 ≤ s.2 then (s.1, s.2) else (s.2, s.1)
def canB (ties : List Sl) (t : Sd) (s : Sl) : Bool := decide (asc s ∈ ties) && (!isHole t s.1 && isHole t s.2)
theorem sortN_two (a b : Nat) : sortN [a, b] = [(asc (a, b)).1, (asc (a, b)).2] := by
  unfold asc
  by_cases h : a ≤ b
  · rw [if_pos h]
    exact (sortN_of (List.Perm.refl _) (by simp [h])).symm
  · rw [if_neg h]
    exact (sortN_of (List.Perm.swap _ _ _) (by simp; omega)).symm
theorem ties_any (ties : List Sl) (s : Sl) : (ties.map slD).any (fun z => PyData.eqv z (slD s)) = decide (s ∈ ties) := by
  rw [List.any_map, Bool.eq_iff_iff, List.any_eq_true, decide_eq_true_eq]
  constructor
  · rintro ⟨t, ht, h⟩
    have h2 : PyData.eqv (slD t) (slD s) = true := h
    rw [sl_eqv] at h2
    rw [← of_decide_eq_true h2]
    exact ht
  · intro h
    exact ⟨s, h, by show PyData.eqv (slD s) (slD s) = true; rw [sl_eqv]; simp⟩
theorem slD_lay (s : Sl) : (slD s).canLay0 = true := by simp [slD, PyData.canLay0, PyData.canLayAll0]
theorem slsD_lay : ∀ w : Wd, PyData.canLayAll0 (w.map slD) = true
  | [] => by simp [PyData.canLayAll0]
  | s :: w => by rw [List.map_cons, PyData.canLayAll0, slD_lay, slsD_lay w]; rfl
theorem slD_shaped (s : Sl) : SeqAt.shaped (slD s) = true := by
  unfold SeqAt.shaped
  rw [slD_lay]
  have : (slD s).depth ≤ 64 := by unfold slD; simp [PyData.depth, PyData.depthAll]
  simp [this]
theorem wD_shaped (w : Wd) : SeqAt.shaped (wD w) = true := by
  unfold SeqAt.shaped
  have h1 : (wD w).canLay0 = true := by unfold wD; rw [PyData.canLay0]; exact slsD_lay w
  have := wD_depth w
  rw [h1, decide_eq_true (by omega)]
  rfl
theorem sl_dp {K : PySem.W.Frag} {H : Hp} {a : Addr} {s : Sl} (h : SqT K H a [iv s.1, iv s.2]) : Dp K H (.ref a) (slD s) := .tup h (.cons (.int _) (.cons (.int _) .nil))
/-- a yard -/
def YdAt (H : Hp) (y : Addr) (n : Nat) (t : Addr) (g : Nat) : Prop := H y = some (.tup [iv n, .ref t, iv g])
theorem inV_sd (st : Sd) (b : Nat) : inV (iv b) (st.map ov) = decide (some b ∈ st) := by
  unfold inV
  rw [List.any_map, Bool.eq_iff_iff, List.any_eq_true, decide_eq_true_eq]
  have e1 : ∀ o : Option Nat, eqV (ov o) (iv b) = true ↔ o = some b := fun o => by
    cases o with
    | none => exact ⟨fun z => absurd z (by simp [ov, eqV, iv]), fun z => nomatch z⟩
    | some c =>
      constructor
      · intro z
        have : (c : Int) = (b : Int) := by simpa [ov, eqV, iv] using z
        rw [Int.ofNat.inj this]
      · intro z
        cases z
        simp [ov, eqV, iv]
  constructor
  · rintro ⟨o, ho, h⟩
    have := (e1 o).mp h
    rw [← this]; exact ho
  · intro h
    exact ⟨some b, h, (e1 _).mpr rfl⟩
def spCan : Sp := fun vs H Q _ => ∃ (y t a b : Addr) (n g : Nat) (ties : List Sl) (st : Sd) (s : Sl), vs = [.ref y, .ref a, .ref b] ∧ YdAt H y n t g ∧ WdAt H t ties ∧ StAt H a st ∧ SlAt H b s ∧ s.1 < st.length ∧ s.2 < st.length ∧
  ∀ H' : Hp, Same H H' → Q (.bl (canB ties st s)) H'
def spBook (C : Addr) : Sp := fun vs H Q E => ∃ (a : Addr) (b : Nat) (st : Sd), vs = [.ref a, iv b] ∧ StAt H a st ∧ st.length ≤ 100 ∧ b < st.length ∧ (some b ∈ st → Q .non H) ∧ (¬ some b ∈ st → E (.ref C) none H)
section
variable {P : Program} {w : World} {K : PySem.W.Frag} {mg : Str → Option Value} {base : Heap}
theorem scCan : FnScope ["yard", "standing", "slide", "one", "other"] ["yard", "standing", "slide"] (defScope sCan) := ⟨rfl, rfl, rfl, by decide +kernel, rfl, by decide +kernel, by decide +kernel⟩
theorem ok_can {f : Addr} {fd : FuncData} (F : Fun K "can_slide" "can_slide" sCan f fd) (B : Bl mg) : FnOk P w K mg base CX0 1 f fd ["yard", "standing", "slide"] spCan := by
  refine F.ok scCan (fun vs H Q E h => ?_) (fun cdv A outer s H vs Q E hr h => ?_)
  · obtain ⟨y, t, a, b, n, g, ties, st, s, rfl, _⟩ := h
    rfl
  · obtain ⟨y, t, a, b, n, g, ties, st, sl, rfl, hy, ht, ha, hb, h1, h2, k⟩ := h
    have hu65 : A.units + 3 + 65 < cLine := by have := hr.un; show _; have h9 : (A.deeper (envOfC "can_slide" (defScope sCan) s.heap.objs.size f cdv)).units = A.units + 3 := rfl; omega
    refine ⟨_, pss_cons (ps_asg (pv 2) (pg_tup rfl (pgs_cons (pg_name (i := 3) scCan.nd rfl (Or.inl rfl)) (pgs_cons (pg_name (i := 4) scCan.nd rfl (Or.inl rfl)) pgs_nil))))
      (pss_cons (ps_if (pt_cmpR (op_notInT hu65) (pe_callTy call_tuple_of (by rfl) B.tuple (by decide +kernel) (pa_cons (pe_callB cr_sortedTI (by rfl) B.sorted PyProof.Rows.boot_sorted (pa_cons (pv 2) pa_nil)) pa_nil)) (pe_ix ix_tup (pv 0) pe_int (fun _ _ => rfl)) (by rfl)) (pss_one (ps_ret pe_bl)) pss_nil)
        (pss_one (ps_ret (pe_and (pe_cmpR op_notN (pe_ix ix_tup (pv 1) (pv 3) (fun _ _ => rfl)) pe_non (nomark _)) (pe_one (pe_cmpR op_isN (pe_ix ix_tup (pv 1) (pv 4) (fun _ _ => rfl)) pe_non (nomark _))))))), ?_⟩
    refine ⟨_, rfl, b, _, rfl, SqT.of hb, rfl, _, _, rfl, _, _, rfl, rfl, ?_⟩
    refine ⟨_, rfl, b, [(sl.1 : Int), (sl.2 : Int)], rfl, SqT.of hb, by show 2 < 64; decide, fun ns' L hp hs hL => ?_⟩
    have en : ns'.map V.int = [iv (asc sl).1, iv (asc sl).2] := by
      rw [sortN_ints (l := [sl.1, sl.2]) hp hs, sortN_two]; rfl
    rw [en]
    refine ⟨L, _, rfl, .inl ⟨.inl (.inl upd_same), fun T hT => ?_⟩⟩
    have hTL : T ≠ L := fun z => by rw [z, upd_same] at hT; cases hT
    have s2 : Same H (upd (upd H L (.lst [iv (asc sl).1, iv (asc sl).2])) T (.tup [iv (asc sl).1, iv (asc sl).2])) := (same_new _ hL).trans (same_new _ hT)
    have ha2 := ha.same s2
    refine ⟨_, rfl, y, _, _, .ref t, rfl, rfl, SqT.of (s2 _ _ hy), rfl, slD (asc sl), ties.map slD, sl_dp (SqT.of upd_same), wd_dp (ht.same s2), slD_shaped _, wD_shaped ties, _, rfl, ?_⟩
    rw [ties_any]
    by_cases hm : asc sl ∈ ties
    · rw [decide_eq_true hm]
      refine iteF ?_
      refine ⟨_, rfl, _, rfl, a, _, _, _, rfl, rfl, ha2.sq, ov_atI h1, rfl, _, rfl, ?_⟩
      rw [ov_none]
      have e1 : (st.getD sl.1 none == none) = isHole st sl.1 := rfl
      rw [e1]
      have eC : canB ties st sl = (!isHole st sl.1 && isHole st sl.2) := by unfold canB; rw [decide_eq_true hm, Bool.true_and]
      cases hh : isHole st sl.1 with
      | true =>
        have := k _ s2
        rw [eC, hh] at this
        exact this
      | false =>
        refine ⟨_, rfl, _, rfl, a, _, _, _, rfl, rfl, ha2.sq, ov_atI h2, rfl, ?_⟩
        rw [ov_none]
        have := k _ s2
        rw [eC, hh] at this
        exact this
    · rw [decide_eq_false hm]
      refine iteT ?_
      have := k _ s2
      unfold canB at this
      rw [decide_eq_false hm, Bool.false_and] at this
      exact this
theorem scBook : FnScope ["standing", "value"] ["standing", "value"] (defScope sBook) := ⟨rfl, rfl, rfl, by decide +kernel, rfl, by decide +kernel, by decide +kernel⟩
theorem ok_book {f fN C : Addr} {fd fdN : FuncData} (F : Fun K "need_book" "need_book" sBook f fd) (B : Bl mg) (X1 : ExC K mg "BadBook" C) (N : Dn P w K mg base CX0 1 "is_number" ["value", "low", "high"] spNum fN fdN) : FnOk P w K mg base (L2.CX P w) 2 f fd ["standing", "value"] (spBook C) := by
  refine F.okX scBook (fun vs H Q E h => ?_) (fun cdv A outer s H vs Q E hr h => ?_)
  · obtain ⟨a, b, st, rfl, _⟩ := h
    rfl
  · obtain ⟨a, b, st, rfl, ha, hz, hb, k1, k2⟩ := h
    refine ⟨_, pss_one (ps_if (PW.pt (pw_or (pt_not (pt_val (pe_call N.ok hr rfl N.mgf N.kp N.b .nil pass0 (pa_cons (pv 1) (pa_cons pe_int (pa_cons (pe_op op_sub (pe_callB call_len_seq (by rfl) B.len PySem.boot_len (pa_cons (pv 0) pa_nil)) pe_int) pa_nil)))))) (pw_or1 (pt_cmpR op_notIn_seq (pv 1) (pv 0) (by rfl)))))
      (pss_one (ps_raise rfl (takes_of rfl rfl rfl rfl) (pmk_own0 PySem.F.excBase_ValueError X1.x X1.g X1.k (raises_own X1.b X1.t) rfl))) pss_nil), ?_⟩
    refine ⟨_, rfl, _, rfl, _, _, rfl, .inr ha.sq, _, _, rfl, rfl, _, _, _, rfl, rfl, _, rfl, ?_⟩
    have hn : numb (iv b) 0 (((st.map ov).length : Nat) - 1 : Int) = true := by
      rw [List.length_map]
      exact decide_eq_true ⟨by omega, by omega⟩
    show (if (!numb (iv b) 0 (((st.map ov).length : Nat) - 1 : Int)) = true then _ else _)
    rw [hn]
    refine iteF ?_
    refine ⟨_, rfl, _, rfl, a, _, rfl, .inr ha.sq, rfl, sd_flat st, _, rfl, ?_⟩
    rw [inV_sd]
    by_cases hm : some b ∈ st
    · rw [decide_eq_true hm]
      exact iteF (k1 hm)
    · rw [decide_eq_false hm]
      exact iteT (k2 hm)
end
end K15
set_option autoImplicit false
set_option linter.all false
set_option Elab.async false
set_option maxRecDepth 100000
set_option maxHeartbeats 2000000
/-! The program's defs, sixth part: slides_of. -/
namespace K15
open PySem PySem.Spec PyProof.Rows L2
/-- a list of pairs of numbers -/
def LsAt (H : Hp) (l : Addr) (ps : List Sl) : Prop := ∃ as : List Addr, H l = some (.lst (as.map V.ref)) ∧ PrsAt H as ps
theorem PrsAt.same {H H' : Hp} {as : List Addr} {ps : List Sl} (h : PrsAt H as ps) (s : Same H H') : PrsAt H' as ps := h.ext fun b xs e => s b _ e
theorem PrsAt.upd {H : Hp} {as : List Addr} {ps : List Sl} {F : Addr} {xs : List V} {o : HO} (h : PrsAt H as ps) (hF : H F = some (.lst xs)) : PrsAt (L2.upd H F o) as ps :=
  h.ext fun b ys e => by rw [upd_ne (fun z => by rw [z, hF] at e; cases e)]; exact e
theorem PrsAt.new {H : Hp} {as : List Addr} {ps : List Sl} {p : Addr} {o : HO} (h : PrsAt H as ps) (hp : H p = none) : PrsAt (L2.upd H p o) as ps := h.same (same_new _ hp)
theorem PrsAt.app {H : Hp} {as bs : List Addr} {ps qs : List Sl} (h : PrsAt H as ps) (h' : PrsAt H bs qs) : PrsAt H (as ++ bs) (ps ++ qs) := by
  refine ⟨by rw [List.length_append, List.length_append, h.1, h'.1], fun i a p e1 e2 => ?_⟩
  by_cases hi : i < as.length
  · rw [List.getElem?_append_left hi] at e1
    rw [List.getElem?_append_left (by rw [← h.1]; exact hi)] at e2
    exact h.2 i a p e1 e2
  · rw [List.getElem?_append_right (by omega)] at e1
    rw [List.getElem?_append_right (by rw [← h.1]; omega), ← h.1] at e2
    exact h'.2 _ a p e1 e2
theorem PrsAt.nil (H : Hp) : PrsAt H [] [] := ⟨rfl, fun i a p e => by cases e⟩
theorem PrsAt.one {H : Hp} {a : Addr} {s : Sl} (h : H a = some (.tup [iv s.1, iv s.2])) : PrsAt H [a] [s] := ⟨rfl, fun i b p e1 e2 => by
  cases i with
  | zero => cases e1; cases e2; exact h
  | succ i => cases e1⟩
def spSlides : Sp := fun vs H Q _ => ∃ (y t a : Addr) (n g : Nat) (ties : List Sl) (st : Sd), vs = [.ref y, .ref a] ∧ YdAt H y n t g ∧ WdAt H t ties ∧ ties.length ≤ 30 ∧ StAt H a st ∧ TiesOk st.length ties ∧ st.length ≤ 100 ∧
  ∀ (l : Addr) (H' : Hp), Same H H' → H l = none → LsAt H' l (slidesOf ties st) → Q (.ref l) H'
theorem range_take {n i : Nat} (h : i < n) : (List.range n)[i]? = some i := by rw [List.getElem?_range h]
theorem near_len {ties : List Sl} {p : Nat} : (near ties p).length ≤ 2 * ties.length := by
  unfold near sortN nearL
  rw [List.length_mergeSort, List.length_append, List.length_map, List.length_map]
  have h1 := List.length_filter_le (fun t : Sl => t.2 == p) ties
  have h2 := List.length_filter_le (fun t : Sl => t.1 == p) ties
  omega
theorem slidesAt_len {ties : List Sl} {st : Sd} {p : Nat} : (slidesAt ties st p).length ≤ 2 * ties.length := by
  unfold slidesAt
  split
  · simp
  · rw [List.length_map]
    exact Nat.le_trans (List.length_filter_le _ _) near_len
theorem flat_len {f : Nat → List Sl} {m : Nat} (h : ∀ p, (f p).length ≤ m) : ∀ l : List Nat, (l.flatMap f).length ≤ m * l.length
  | [] => by simp
  | a :: l => by
    rw [List.flatMap_cons, List.length_append, List.length_cons]
    have := flat_len h l
    have := h a
    rw [Nat.mul_succ]; omega
section
variable {P : Program} {w : World} {K : PySem.W.Frag} {mg : Str → Option Value} {base : Heap}
theorem scSlides : FnScope ["yard", "standing", "found", "place", "book", "other"] ["yard", "standing"] (defScope sSlides) := ⟨rfl, rfl, rfl, by decide +kernel, rfl, by decide +kernel, by decide +kernel⟩
theorem ok_slides {f fN : Addr} {fd fdN : FuncData} (F : Fun K "slides_of" "slides_of" sSlides f fd) (B : Bl mg) (N : Dn P w K mg base CX0 1 "near" ["ties", "place"] spNear fN fdN) : FnOk P w K mg base CX0 2 f fd ["yard", "standing"] spSlides := by
  refine F.ok scSlides (fun vs H Q E h => ?_) (fun cdv A outer s H vs Q E hr h => ?_)
  · obtain ⟨y, t, a, n, g, ties, st, rfl, _⟩ := h
    rfl
  · obtain ⟨y, t, a, n, g, ties, st, rfl, hy, ht, hlen, ha, hT, hz, k⟩ := h
    refine ⟨_, pss_cons (ps_set (i := 2) scSlides.nd rfl (Or.inl rfl) (pe_lst pa_nil))
      (pss_cons (ps_for PassesOwn.never rfl (pi_enumT (by rfl) B.enum (pa_cons (pv 1) pa_nil)) (pg_tup rfl (pgs_cons (pg_name (i := 3) scSlides.nd rfl (Or.inr rfl)) (pgs_cons (pg_name (i := 4) scSlides.nd rfl (Or.inl rfl)) pgs_nil)))
        (pss_one (ps_if (pt_cmpR op_notN (pv 4) pe_non (nomark _))
          (pss_one (ps_expr (pe_bm PySem.F.plainAttrs_list PySem.F.slot_list_extend PySem.F.type_list_extend mt_extend (pv 2) (pa_cons
            (pe_lc (own := [("other", 5)]) (g := gName 5) rfl scSlides.nd (pi_list (pe_call N.ok hr rfl N.mgf N.kp N.b .nil pass0 (pa_cons (pe_ix ix_tup (pv 0) pe_int (fun _ _ => rfl)) (pa_cons (pv 3) pa_nil)))) (blkOk_by (N := ["yard", "standing", "found", "place", "book", "other"]) (sc := defScope sSlides) (by decide +kernel))
              (fun _ _ _ _ _ => pg_name (i := 5) scSlides.nd rfl (Or.inl rfl)) (fun _ _ _ _ _ => pts_one (pt_cmpR op_isN (pe_ix (r := rIxT K) ix_tup (pv 1) (pv 5) (fun _ _ => rfl)) pe_non (nomark _))) (fun _ _ _ _ _ => pe_tup (pa_cons (pv 3) (pa_cons (pv 5) pa_nil)))) pa_nil)))) pss_nil)))
        (pss_one (ps_ret (pv 2)))), ?_⟩
    refine ⟨Nat.zero_le _, fun L hL => ?_⟩
    have s0 : Same H (upd H L (.lst [])) := same_new _ hL
    let St0 : Option V → Option V → Option V → L2.St := fun v3 v4 v5 => [some (.ref y), some (.ref a), some (.ref L), v3, v4, v5]
    refine ⟨_, rfl, a, _, rfl, (ha.same s0).sq, for_it walk_enumT (fun i σ H' => ∃ v3 v4 v5, σ = St0 v3 v4 v5 ∧ Same H H' ∧ LsAt H' L ((List.range i).flatMap (slidesAt ties st)))
      ⟨none, none, none, rfl, s0, [], upd_same, PrsAt.nil _⟩ (fun i σ H' _ ⟨_, _, _, _, q, _⟩ => (ha.same q).sq) ?_ ?_⟩
    · rintro i x σ H' H'' hi ⟨v3, v4, v5, rfl, s1, as, hF, hP⟩ ⟨T, x1, x2, rfl, hT0, rfl, e1, e2⟩
      have hi' : i < st.length := by rw [List.length_map] at hi; exact hi
      obtain rfl : V.int (i : Nat) = x1 := Option.some.inj e1
      have e2' : (st.map ov)[i]? = some x2 := e2
      rw [ov_get hi'] at e2'
      obtain rfl : ov (st.getD i none) = x2 := Option.some.inj e2'
      have sT : Same H' (upd H' T (.tup [.int (i : Nat), ov (st.getD i none)])) := same_new _ hT0
      have s2 : Same H (upd H' T (.tup [.int (i : Nat), ov (st.getD i none)])) := s1.trans sT
      have hF2 := sT _ _ hF
      have hP2 := hP.same sT
      refine ⟨T, _, rfl, SqT.of upd_same, rfl, _, _, rfl, _, _, rfl, rfl, ?_⟩
      refine ⟨_, rfl, rfl, _, rfl, ?_⟩
      rw [ov_none]
      have eH : (st.getD i none == none) = isHole st i := rfl
      rw [eH]
      have eS : slidesOf ties st = (List.range st.length).flatMap (slidesAt ties st) := rfl
      have eR : (List.range (i + 1)).flatMap (slidesAt ties st) = (List.range i).flatMap (slidesAt ties st) ++ slidesAt ties st i := by rw [List.range_succ, List.flatMap_append]; simp
      cases hh : isHole st i with
      | true =>
        refine iteF ⟨_, _, _, rfl, s2, as, hF2, ?_⟩
        rw [eR]
        have : slidesAt ties st i = [] := by unfold slidesAt; rw [hh]; rfl
        rw [this, List.append_nil]
        exact hP2
      | false =>
        have eA : slidesAt ties st i = ((near ties i).filter (isHole st)).map (fun o => (i, o)) := by unfold slidesAt; rw [hh]; rfl
        refine iteT ⟨_, rfl, .inl ⟨rfl, _, .inl (.inl hF2)⟩, ?_⟩
        refine ⟨_, rfl, y, _, _, .ref t, rfl, rfl, SqT.of (s2 _ _ hy), rfl, _, rfl, t, i, ties, rfl, ht.same s2, hlen, fun l H3 s3 hl0 hl3 => ?_⟩
        refine ⟨l, rfl, ⟨_, .inl (.inl hl3)⟩, fun D hD => lc_list (K := K) (a := l) (xs := (near ties i).map iv) (fun j H4 => Same H3 H4 ∧ ∃ bs, H4 D = some (.lst (bs.map V.ref)) ∧ PrsAt H4 bs ((((near ties i).take j).filter (isHole st)).map (fun o => (i, o))))
          ⟨same_new _ hD, [], upd_same, PrsAt.nil _⟩ (fun j H4 _ h => h.1.seq (.inl (.inl hl3))) ?_ ?_⟩
        · rintro j x H4 hx ⟨s4, bs, hB, hQ⟩
          obtain ⟨o, ho, rfl⟩ : ∃ o, (near ties i)[j]? = some o ∧ x = iv o := by
            rw [List.getElem?_map] at hx
            cases e : (near ties i)[j]? with
            | none => rw [e] at hx; cases hx
            | some u => rw [e] at hx; exact ⟨u, rfl, (Option.some.inj hx).symm⟩
          have hon : o < st.length := near_lt hT (List.mem_of_getElem? ho)
          have s5 : Same H H4 := (s2.trans s3).trans s4
          refine ⟨rfl, ⟨_, rfl, _, rfl, a, _, _, _, rfl, rfl, (ha.same s5).sq, ov_atI hon, rfl, _, rfl, ?_⟩⟩
          rw [ov_none]
          have eO : (st.getD o none == none) = isHole st o := rfl
          rw [eO]
          have hbl : bs.length ≤ 60 := by
            rw [hQ.1, List.length_map]
            exact Nat.le_trans (List.length_filter_le _ _) (Nat.le_trans (by rw [List.length_take]; exact Nat.min_le_right _ _) (Nat.le_trans near_len (by omega)))
          cases ho2 : isHole st o with
          | true =>
            refine iteT ⟨_, rfl, _, rfl, by show 2 ≤ sizeLine; decide, fun U hU => ⟨_, Eq.trans (upd_ne (fun z => by rw [← z, hB] at hU; cases hU)) hB, by rw [List.length_map, sizeLine_eq]; omega, ?_⟩⟩
            have hUD : U ≠ D := fun z => by rw [z, hB] at hU; cases hU
            have hD3 : H3 D = none := hD
            refine ⟨fun b u eb => ?_, bs ++ [U], by rw [upd_same, List.map_append]; rfl, ?_⟩
            · have hbD : b ≠ D := ne_of_none eb hD
              have hbU : b ≠ U := ne_of_none (s4 _ _ eb) hU
              rw [upd_ne hbD, upd_ne hbU]
              exact s4 _ _ eb
            · rw [take_succ ho, List.filter_append, List.map_append]
              have e3 : ([o].filter (isHole st)).map (fun o => (i, o)) = [(i, o)] := by simp [ho2]
              rw [e3]
              refine ((hQ.new hU).app (PrsAt.one (s := (i, o)) upd_same)).upd (F := D) (xs := bs.map V.ref) ?_
              rw [upd_ne hUD.symm]; exact hB
          | false =>
            refine iteF ⟨s4, bs, hB, ?_⟩
            rw [take_succ ho, List.filter_append, List.map_append]
            have e3 : ([o].filter (isHole st)).map (fun o => (i, o)) = [] := by simp [ho2]
            rw [e3, List.append_nil]
            exact hQ
        · rintro H4 ⟨s4, bs, hB, hQ⟩
          rw [List.length_map, List.take_length] at hQ
          have s5 := s3.trans s4
          have hF4 := s5 _ _ hF2
          have hLD : L ≠ D := ne_of_none (s3 _ _ hF2) hD
          have hal : as.length ≤ 6000 := by
            rw [hP.1]
            have := flat_len (fun p => slidesAt_len (ties := ties) (st := st) (p := p)) (List.range i)
            rw [List.length_range] at this
            have h2 : 2 * ties.length * i ≤ 60 * 100 := Nat.mul_le_mul (by omega) (by omega)
            omega
          have hbl : bs.length ≤ 60 := by
            rw [hQ.1, List.length_map]
            exact Nat.le_trans (List.length_filter_le _ _) (Nat.le_trans near_len (by omega))
          refine ⟨L, D, _, _, rfl, rfl, hF4, hB, by rw [List.length_map, List.length_map, sizeLine_eq]; omega, ?_⟩
          refine ⟨_, _, _, rfl, fun b u eb => ?_, as ++ bs, by rw [upd_same, List.map_append], ?_⟩
          · rw [upd_ne (ne_of_none eb hL)]
            exact (s2.trans s5) b u eb
          · rw [eR, eA]
            exact ((hP2.same s5).app hQ).upd hF4
    · rintro σ H' ⟨v3, v4, v5, rfl, s1, hF⟩
      rw [List.length_map] at hF
      exact ⟨_, rfl, k L H' s1 hL hF⟩
end
end K15
set_option autoImplicit false
set_option linter.all false
set_option Elab.async false
set_option maxRecDepth 100000
set_option maxHeartbeats 2000000
/-! Tables of code objects; defs whose code object has a table; elements of generator expressions. -/
namespace K15
open PySem PySem.Spec PyProof.Rows L2 LamX NdefX
/-- the five tables -/
structure Tb where
  ties : Addr
  stand : Addr
  slide : Addr
  words : Addr
  law : Addr
def nmW : Nat → Nat → Str := fun _ _ => "words_from.<locals>.<lambda>"
def nmL : Nat → Nat → Str := fun _ _ => "law.<locals>.<lambda>"
structure TOk (tb : Tb) (H : Hp) : Prop where
  ties : GxR.TabG H tb.ties
  stand : GxR.TabG H tb.stand
  slide : GxR.TabG H tb.slide
  words : TabN H tb.words nmW
  law : TabN H tb.law nmL
structure TbNe (tb : Tb) : Prop where
  a : tb.ties ≠ tb.stand
  b : tb.ties ≠ tb.slide
  c : tb.ties ≠ tb.words
  d : tb.ties ≠ tb.law
  e : tb.stand ≠ tb.slide
  f : tb.stand ≠ tb.words
  g : tb.stand ≠ tb.law
  h : tb.slide ≠ tb.words
  i : tb.slide ≠ tb.law
  j : tb.words ≠ tb.law
theorem tabG_ext {H H' : Hp} {P : Addr} (t : GxR.TabG H P) (e : ∀ o, H P = some o → H' P = some o) : GxR.TabG H' P := let ⟨ps, h, r⟩ := t; ⟨ps, e _ h, r⟩
theorem tabN_but {H H' : Hp} {P Q : Addr} {nm : Nat → Nat → Str} (t : TabN H Q nm) (hne : Q ≠ P) (hP : ∃ ps, H P = some (.tbl ps)) (b : ButT P H H') : TabN H' Q nm := by
  obtain ⟨ps, h1, h2, h3⟩ := t
  refine ⟨ps, b _ _ hne h1, h2, fun pos cv hc => ?_⟩
  obtain ⟨c, e1, e2⟩ := h3 pos cv hc
  refine ⟨c, e1, b _ _ (fun z => ?_) e2⟩
  obtain ⟨qs, hq⟩ := hP
  rw [z, hq] at e2
  exact codeO_ne _ (Option.some.inj e2).symm
/-- behind a piece of code that makes objects and lets tables grow -/
structure Nx (tb : Tb) (H H' : Hp) : Prop where
  kp : ExtN H H'
  tk : TOk tb H'
  dn : ∀ b, H' b = none → H b = none
theorem TOk.same {tb : Tb} {H H' : Hp} (t : TOk tb H) (s : Same H H') : TOk tb H' :=
  ⟨tabG_ext t.ties fun o e => s _ o e, tabG_ext t.stand fun o e => s _ o e, tabG_ext t.slide fun o e => s _ o e, t.words.ext s, t.law.ext s⟩
theorem Nx.of {tb : Tb} {H H' : Hp} (t : TOk tb H) (s : Same H H') : Nx tb H H' := ⟨ExtN.of s, t.same s, fun b h => s.free h⟩
theorem Nx.trans {tb : Tb} {H H1 H2 : Hp} (a : Nx tb H H1) (b : Nx tb H1 H2) : Nx tb H H2 := ⟨a.kp.trans b.kp, b.tk, fun c h => a.dn c (b.dn c h)⟩
theorem tabbed_but {P : Addr} {H H' : Hp} (t : GxR.Tabbed P H H') : ButT P H H' := fun b o hb e => (t.2 b hb).trans e
theorem but_ext {P : Addr} {H H' : Hp} (hP : ∃ ps, H P = some (.tbl ps)) (b : ButT P H H') : ExtN H H' := fun c o e n => b c o (fun z => by
  obtain ⟨ps, hp⟩ := hP
  rw [z, hp] at e
  exact n ps (Option.some.inj e).symm) e
theorem but_dn {P : Addr} {H H' : Hp} (b : ButT P H H') (hP : H' P ≠ none) : ∀ c, H' c = none → H c = none := fun c h => by
  cases e : H c with
  | none => rfl
  | some o =>
    by_cases q : c = P
    · rw [q] at h; exact absurd h hP
    · rw [b c o q e] at h; cases h
theorem tabG_ne {H : Hp} {P : Addr} (t : GxR.TabG H P) : H P ≠ none := fun z => by
  obtain ⟨ps, h, _⟩ := t
  rw [h] at z; cases z
theorem tabN_ne {H : Hp} {P : Addr} {nm : Nat → Nat → Str} (t : TabN H P nm) : H P ≠ none := fun z => by
  obtain ⟨ps, h, _⟩ := t
  rw [h] at z; cases z
theorem TabG.is {H : Hp} {P : Addr} (t : GxR.TabG H P) : ∃ ps, H P = some (.tbl ps) := let ⟨ps, h, _⟩ := t; ⟨ps, h⟩
theorem TabN.is {H : Hp} {P : Addr} {nm : Nat → Nat → Str} (t : TabN H P nm) : ∃ ps, H P = some (.tbl ps) := let ⟨ps, h, _⟩ := t; ⟨ps, h⟩
theorem Nx.ties {tb : Tb} {H H' : Hp} (ne : TbNe tb) (t : TOk tb H) (h : GxR.Tabbed tb.ties H H') : Nx tb H H' :=
  have b := tabbed_but h
  ⟨but_ext (TabG.is t.ties) b, ⟨h.1, tabG_ext t.stand fun o e => b _ o ne.a.symm e, tabG_ext t.slide fun o e => b _ o ne.b.symm e, tabN_but t.words ne.c.symm (TabG.is t.ties) b, tabN_but t.law ne.d.symm (TabG.is t.ties) b⟩, but_dn b (tabG_ne h.1)⟩
theorem Nx.stand {tb : Tb} {H H' : Hp} (ne : TbNe tb) (t : TOk tb H) (h : GxR.Tabbed tb.stand H H') : Nx tb H H' :=
  have b := tabbed_but h
  ⟨but_ext (TabG.is t.stand) b, ⟨tabG_ext t.ties fun o e => b _ o ne.a e, h.1, tabG_ext t.slide fun o e => b _ o ne.e.symm e, tabN_but t.words ne.f.symm (TabG.is t.stand) b, tabN_but t.law ne.g.symm (TabG.is t.stand) b⟩, but_dn b (tabG_ne h.1)⟩
theorem Nx.slide {tb : Tb} {H H' : Hp} (ne : TbNe tb) (t : TOk tb H) (h : GxR.Tabbed tb.slide H H') : Nx tb H H' :=
  have b := tabbed_but h
  ⟨but_ext (TabG.is t.slide) b, ⟨tabG_ext t.ties fun o e => b _ o ne.b e, tabG_ext t.stand fun o e => b _ o ne.e e, h.1, tabN_but t.words ne.h.symm (TabG.is t.slide) b, tabN_but t.law ne.i.symm (TabG.is t.slide) b⟩, but_dn b (tabG_ne h.1)⟩
theorem Nx.words {tb : Tb} {H H' : Hp} (ne : TbNe tb) (t : TOk tb H) (b : ButT tb.words H H') (hT : TabN H' tb.words nmW) : Nx tb H H' :=
  ⟨but_ext (TabN.is t.words) b, ⟨tabG_ext t.ties fun o e => b _ o ne.c e, tabG_ext t.stand fun o e => b _ o ne.f e, tabG_ext t.slide fun o e => b _ o ne.h e, hT, tabN_but t.law ne.j.symm (TabN.is t.words) b⟩, but_dn b (tabN_ne hT)⟩
theorem Nx.law {tb : Tb} {H H' : Hp} (ne : TbNe tb) (t : TOk tb H) (b : ButT tb.law H H') (hT : TabN H' tb.law nmL) : Nx tb H H' :=
  ⟨but_ext (TabN.is t.law) b, ⟨tabG_ext t.ties fun o e => b _ o ne.d e, tabG_ext t.stand fun o e => b _ o ne.g e, tabG_ext t.slide fun o e => b _ o ne.i e, tabN_but t.words ne.j (TabN.is t.law) b, hT⟩, but_dn b (tabN_ne hT)⟩
/-! what is kept by it -/
section
variable {tb : Tb} {H H' : Hp}
theorem Nx.tup (e : Nx tb H H') {b : Addr} {xs : List V} (h : H b = some (.tup xs)) : H' b = some (.tup xs) := e.kp b _ h (fun ps z => by cases z)
theorem Nx.lst (e : Nx tb H H') {b : Addr} {xs : List V} (h : H b = some (.lst xs)) : H' b = some (.lst xs) := e.kp b _ h (fun ps z => by cases z)
theorem Nx.tupH (e : Nx tb H H') {b : Addr} {xs : List V} (h : TupH H b xs) : TupH H' b xs := by
  rcases h with h | ⟨o, h⟩
  · exact .inl (e.tup h)
  · exact .inr ⟨o, e.kp b _ h (fun ps z => by cases z)⟩
theorem Nx.wd (e : Nx tb H H') {b : Addr} {w : Wd} (h : WdAt H b w) : WdAt H' b w := h.ext fun _ _ q => e.tup q
theorem Nx.st (e : Nx tb H H') {b : Addr} {t : Sd} (h : StAt H b t) : StAt H' b t := e.tupH h
theorem Nx.yd (e : Nx tb H H') {y t : Addr} {n g : Nat} (h : YdAt H y n t g) : YdAt H' y n t g := e.tup h
theorem Nx.sl (e : Nx tb H H') {b : Addr} {s : Sl} (h : SlAt H b s) : SlAt H' b s := e.tup h
theorem Nx.prs (e : Nx tb H H') {as : List Addr} {ps : List Sl} (h : PrsAt H as ps) : PrsAt H' as ps := h.ext fun _ _ q => e.tup q
theorem Nx.same (e : Nx tb H H') {H2 : Hp} (s : Same H' H2) : Nx tb H H2 := e.trans (.of e.tk s)
end
/-! ### a def whose code object is known -/
structure FunT (K : PySem.W.Frag) (x qual : Str) (st : Stmt) (f : Addr) (fd : FuncData) (c : Addr) : Prop where
  ex : ∃ (oc : Value) (od : Option Addr) (kV doc pm : Value) (an : Option Addr) (ct : Value) (osl : Array (Option Value)),
    fd = PySem.W.fnOf x qual (defArgs st) (defBody st) (defScope st) .none kV doc pm an (.ref c) ct ∧ K.lookup f = some ⟨oc, od, .func fd, osl⟩ ∧ PySem.W.codeIn K (.ref c) qual = true
  kp : PySem.W.keepIn K (.ref f) = true
theorem FunT.fun {K : PySem.W.Frag} {x qual : Str} {st : Stmt} {f : Addr} {fd : FuncData} {c : Addr} (F : FunT K x qual st f fd c) : Fun K x qual st f fd := by
  obtain ⟨oc, od, kV, doc, pm, an, ct, osl, h1, h2, h3⟩ := F.ex
  exact ⟨⟨oc, od, kV, doc, pm, an, .ref c, ct, osl, h1, h2, h3⟩, F.kp⟩
section
variable {P : Program} {w : World} {K : PySem.W.Frag} {mg : Str → Option Value} {base : Heap}
theorem FunT.ok {x qual : Str} {st : Stmt} {f c : Addr} {fd : FuncData} {N ps : List Str} {k : Nat} {sp : Sp} (F : FunT K x qual st f fd c) (S : FnScope N ps (defScope st)) (len : ∀ vs H Q E, sp vs H Q E → vs.length = ps.length)
    (hbody : ∀ (A : Around) (outer : List Env) (s : Shared) (H : Hp) (vs : List V) (Q : VK) (E : XK), Room k (A.deeper (envOfC qual (defScope st) s.heap.objs.size f (.ref c))) → sp vs H Q E →
      ∃ t, PSs (cxOf CX0 P w K mg base N qual (defScope st) f (.ref c) A outer s H E).nox (defBody st) t ∧ t { nx := fun _ H' => Q .non H', rt := Q } (start N vs) H) : FnOk P w K mg base CX0 (k + 1) f fd ps sp := by
  obtain ⟨oc, od, kV, doc, pm, an, ct, osl, rfl, lk, hcd⟩ := F.ex
  refine fn_of lk hcd S len fun A outer s H vs Q E hr hsp => ?_
  obtain ⟨t, h, q⟩ := hbody A outer s H vs Q E hr hsp
  exact ⟨t, h.nox, q⟩
end
/-! ### elements -/
section
variable {X : Cx} {pins : List (Addr × Obj)} {σ : L2.St} {H : Hp} {s : Shared}
/-- a captured name's cell -/
theorem cell_val (I : Inv X pins σ H s) {i : Nat} {x : Str} {v : V} (hN : X.N[i]? = some x) (hσ : σ[i]? = some (some v)) (hk : X.env.scope.names.lookup x = some .cell) : ∃ c u, X.env.cells.lookup x = some c ∧ RelV v u ∧ s.heap.IsCell c (some u) ∧ H c = none := by
  obtain ⟨m, hn, hl⟩ := I.loc
  obtain ⟨u, r, q⟩ := hl i x v hN hσ (.inr (.inl hk))
  rcases q with ⟨z, _⟩ | ⟨_, c, hc, hcell⟩
  · have z' : X.env.scope.names.lookup x = some .local := z
    rw [hk] at z'; cases z'
  · exact ⟨c, u, hc, r, hcell, I.freeC x c hc⟩
theorem bs_of (I : Inv X pins σ H s) {P : Addr} {ps : Array Value} (hP : H P = some (.tbl ps)) : Bs s.heap P X.K X.mg X.base :=
  ⟨I.ok.mod, fun b o e => ⟨(I.env0.bs b o e).1, fun z => by rw [z] at e; have := (I.env0.bs P o e).2; rw [hP] at this; cases this⟩⟩
/-- is_number(x, 0, hi) over whole numbers -/
theorem elt_num {P : Addr} {ps : Array Value} {scope : Scope} {x : Str} {hiE : Expr} {ns : List Int} {hi : Int} {p q q2 pos : Pos} {j : Nat} {f : Addr} {fd : FuncData} (I : Inv X pins σ H s) (hP : H P = some (.tbl ps)) {us : List Value} (r : Vals (ns.map V.int) us)
    (T : TN X.mg f) (F : Fun X.K "is_number" "is_number" sIsNum f fd) (bb : L2.Binds X.K fd ["value", "low", "high"] []) (hD : X.A.depth + 1 < recursionLimit) (hk : scope.kind = .function) (hx : scope.names.lookup x = some .local) (hg : scope.names.lookup ("is_number" : Str) = some .globalImplicit)
    (hhi : ∀ (C : Addr) (code : Value) (m : Str → Option Value), EvR X.prog X.w s.heap P (X.A.depth + 1) (genEnv scope (cloFrom X.env.cells scope.names []) C code builtinsNs X.env) m hiE (IsI hi)) (hdx : (x == ("__debug__" : Str)) = false)
    (hs1 : ∀ env, starEach [.Name x q, .Constant (.int 0) j q2, hiE] env = (false, eval (.Name x q) env) :: starEach [.Constant (.int 0) j q2, hiE] env) (hs2 : ∀ env, starEach [.Constant (.int 0) j q2, hiE] env = [(false, eval (.Constant (.int 0) j q2) env), (false, eval hiE env)]) :
    EltS X P s scope x (.Call (.Name "is_number" p) [.Name x q, .Constant (.int 0) j q2, hiE] [] pos) us (fun i => decide (0 ≤ ns.getD i 0 ∧ ns.getD i 0 ≤ hi)) := by
  intro C code m i v hv hm
  have hi2 : i < ns.length := by
    have h1 := (List.getElem?_eq_some_iff.mp hv).1
    have h2 := r.length
    rw [List.length_map] at h2
    omega
  have e1 : (ns.map V.int)[i]? = some (V.int ns[i]) := by rw [List.getElem?_map, List.getElem?_eq_getElem hi2]; rfl
  obtain ⟨w', ew, rw'⟩ := r.get e1
  rw [hv] at ew
  cases ew
  obtain ⟨t, rfl⟩ := rw'
  have e2 : ns.getD i 0 = ns[i] := by rw [List.getD_eq_getElem?_getD, List.getElem?_eq_getElem hi2]; rfl
  show EvR _ _ _ _ _ _ _ _ (fun u => u = Value.bool (decide (0 ≤ ns.getD i 0 ∧ ns.getD i 0 ≤ hi)))
  rw [e2]
  refine ev_isnum (bs_of I hP) T F bb (by show X.env.globals = _; exact I.ok.glob) hD hk hg (fun A E s' Q hh hd kp hn k => ev_loc (env := genEnv scope (cloFrom X.env.cells scope.names []) C code builtinsNs X.env) hk hx hm hdx A E s' Q hh hd kp hn fun u s'' eu => k u s'' ⟨t, eu⟩) ev_int (hhi C code m) (hs1 _) (hs2 _)
end
end K15
set_option autoImplicit false
set_option linter.all false
set_option Elab.async false
set_option maxRecDepth 100000
set_option maxHeartbeats 2000000
/-! The program's defs, seventh part: is_slide. -/
namespace K15
open PySem PySem.Spec PyProof.Rows L2 LamX NdefX
abbrev sIsSlide : Stmt := top 20
def genSB (sc scope : Scope) (x : Str) : Bool :=
  decide (scope.kind = .function) && !scope.isCoroutine && scope.names.all (fun y => !decide (y.2 = .cell) && (!decide (y.2 = .free) || decide (sc.names.lookup y.1 = some .cell))) && decide (scope.names.lookup (".0" : Str) = some NameKind.local) && decide (scope.names.lookup x = some .local)
theorem genS_by {qual : Str} {sc scope : Scope} {x : Str} {L f : Addr} {cdv : Value} (h : genSB sc scope x = true) : GxR.GenS (envOfC qual sc L f cdv) scope x := by
  unfold genSB at h
  simp only [Bool.and_eq_true, Bool.or_eq_true, Bool.not_eq_true', decide_eq_true_eq, decide_eq_false_iff_not, List.all_eq_true] at h
  obtain ⟨⟨⟨⟨h1, h2⟩, h3⟩, h4⟩, h5⟩ := h
  refine ⟨h1, h2, fun y hy => (h3 y hy).1, h4, h5, fun y hy e => ?_⟩
  rcases (h3 y hy).2 with z | z
  · exact absurd e z
  · have := PySem.W.cellsFrom_some sc.names (L + 1) [] (x := y.1) (.inl z)
    exact Option.isSome_iff_exists.mp this
theorem ev_to {prog : Program} {w : World} {h1 : Heap} {P : Addr} {D : Nat} {env : Env} {m : Str → Option Value} {e : Expr} {x : Value} {R : Value → Prop} (h : EvR prog w h1 P D env m e (fun u => u = x)) (hx : R x) : EvR prog w h1 P D env m e R :=
  fun A E s Q hh hD kp hn k => h A E s Q hh hD kp hn fun v s' ev => k v s' (ev ▸ hx)
/-- a captured name in a generator expression's frame -/
theorem ev_cap {X : Cx} {pins : List (Addr × Obj)} {σ : L2.St} {H : Hp} {s : Shared} {P : Addr} {ps : Array Value} {scope : Scope} {i : Nat} {x : Str} {v : V} {pos : Pos} {D : Nat} (I : Inv X pins σ H s) (hP : H P = some (.tbl ps)) (hN : X.N[i]? = some x) (hσ : σ[i]? = some (some v)) (hk : X.env.scope.names.lookup x = some .cell)
    (hkind : scope.kind = .function) (hfr : scope.names.lookup x = some .free) (hfree : ∀ y ∈ scope.names, y.2 = .free → ∃ c, X.env.cells.lookup y.1 = some c) (hd : (x == ("__debug__" : Str)) = false := by decide) (hc : (x == ("__classdict__" : Str)) = false := by decide) :
    ∃ u, RelV v u ∧ ∀ (C : Addr) (code : Value) (m : Str → Option Value), EvR X.prog X.w s.heap P D (genEnv scope (cloFrom X.env.cells scope.names []) C code builtinsNs X.env) m (.Name x pos) (fun z => z = u) := by
  obtain ⟨c, u, hcl, ru, hcell, hcn⟩ := cell_val I hN hσ hk
  refine ⟨u, ru, fun C code m => ev_free hkind hfr (NdefX.clo_has hfree (PySem.mem_of_lookup hfr) hcl) hcell (fun z => by rw [z, hP] at hcn; cases hcn) hd hc⟩
def spIsSlide (tb : Tb) : Sp := fun vs H Q _ => ∃ (y t b : Addr) (n g : Nat) (s : Sl), vs = [.ref y, .ref b] ∧ YdAt H y n t g ∧ SlAt H b s ∧ TOk tb H ∧ ∀ H' : Hp, Nx tb H H' → Q (.bl (decide (s.1 < n ∧ s.2 < n))) H'
section
variable {P : Program} {w : World} {K : PySem.W.Frag} {mg : Str → Option Value} {base : Heap}
theorem scIsSlide : FnScope ["yard", "value"] ["yard", "value"] (defScope sIsSlide) := ⟨rfl, rfl, rfl, by decide +kernel, rfl, by decide +kernel, by decide +kernel⟩
theorem ok_isslide {tb : Tb} {f c fN : Addr} {fd fdN : FuncData} (F : FunT K "is_slide" "is_slide" sIsSlide f fd c) (B : Bl mg) (ne : TbNe tb) (TB : GxR.TabB base mg c tb.slide) (T : TN mg fN) (FN : Fun K "is_number" "is_number" sIsNum fN fdN) (bN : L2.Binds K fdN ["value", "low", "high"] []) :
    FnOk P w K mg base CX0 2 f fd ["yard", "value"] (spIsSlide tb) := by
  refine F.ok scIsSlide (fun vs H Q E h => ?_) (fun A outer s H vs Q E hr h => ?_)
  · obtain ⟨y, t, b, n, g, s, rfl, _⟩ := h
    rfl
  · obtain ⟨y, t, b, n, g, sl, rfl, hy, hb, tok, k⟩ := h
    refine ⟨_, pss_cons (ps_if (PW.pt (pw_or (pt_not (pt_val (pe_callB call_isi (by rfl) B.isi PyProof.Rows.boot_isinstance (pa_cons (pv 1) (pa_cons (pe_bltn (v := .ty "tuple") (by rfl) B.tuple (by decide +kernel) rfl) pa_nil)))))
        (pw_or1 (pt_cmpR op_ne (pe_callB call_len_seq (by rfl) B.len PySem.boot_len (pa_cons (pv 1) pa_nil)) pe_int (nomark _))))) (pss_one (ps_ret pe_bl)) pss_nil)
      (pss_one (ps_ret (pe_allN hr rfl B.all TB rfl (genS_by (by decide +kernel)) (pv 1) (fun _ => rfl)))), ?_⟩
    refine ⟨_, rfl, _, _, _, _, true, rfl, .ty "tuple", .base (.tup hb), kit_ty (by decide +kernel), true, rfl, ?_⟩
    refine iteF ?_
    refine ⟨_, rfl, b, _, rfl, .inr (SqT.of hb), rfl, _, rfl, iteF ?_⟩
    refine ⟨_, rfl, b, _, (fun i => decide (0 ≤ [(sl.1 : Int), (sl.2 : Int)].getD i 0 ∧ [(sl.1 : Int), (sl.2 : Int)].getD i 0 ≤ (n : Int) - 1)), rfl, .inr (SqT.of hb), tok.slide, fun pins s1 us I1 rv => ?_, fun H2 hT => ?_⟩
    · obtain ⟨ps, hP, _⟩ := tok.slide
      have hG := genS_by (qual := "is_slide") (sc := defScope sIsSlide) (x := "place") (L := s.heap.objs.size) (f := f) (cdv := .ref c) (scope := { kind := ScopeKind.function, names := [((".0" : Str), NameKind.local), ("place", NameKind.local), ("yard", NameKind.free), ("is_number", NameKind.globalImplicit)], isGenerator := true, isCoroutine := false }) (by decide +kernel)
      obtain ⟨u, ru, hu⟩ := ev_cap (D := A.depth + 1 + 1) (i := 0) (x := "yard") (v := .ref y) (scope := { kind := ScopeKind.function, names := [((".0" : Str), NameKind.local), ("place", NameKind.local), ("yard", NameKind.free), ("is_number", NameKind.globalImplicit)], isGenerator := true, isCoroutine := false }) (pos := ⟨74, 36, 74, 40⟩) I1 hP rfl rfl (show (defScope sIsSlide).names.lookup ("yard" : Str) = _ by decide +kernel) rfl (by decide +kernel) hG.free
      obtain rfl : u = Value.ref y := ru
      obtain ⟨its, rv2, pl, hz⟩ := I1.tuple (SqT.of hy)
      obtain ⟨w0, e0, r0⟩ := rv2.get (i := 0) rfl
      obtain ⟨t0, rfl⟩ := r0
      have hyP : y ≠ tb.slide := fun z => by
        have h9 : H y = some (.tup [iv n, .ref t, iv g]) := hy
        rw [z, hP] at h9; cases h9
      have hdp := hr.dp
      refine elt_num (ns := [(sl.1 : Int), (sl.2 : Int)]) I1 hP rv T FN bN (by show A.depth + 1 + 1 < _; have : A.depth + 1 + 3 * 1 + 5 < recursionLimit := hdp; omega) rfl (by decide +kernel) (by decide +kernel) (fun C code m => ev_sub (ev_to (ev_ix (k := 0) (hu C code m) ev_int pl hyP (by simpa using e0) (by rw [List.size_toArray, ← rv2.length]; exact hz) (fun _ _ => rfl)) ⟨t0, rfl⟩) ev_int) (by decide) (fun _ => rfl) (fun _ => rfl)
    · have e : (List.range [iv sl.1, iv sl.2].length).all (fun i => decide (0 ≤ [(sl.1 : Int), (sl.2 : Int)].getD i 0 ∧ [(sl.1 : Int), (sl.2 : Int)].getD i 0 ≤ (n : Int) - 1)) = decide (sl.1 < n ∧ sl.2 < n) := by
        rw [Bool.eq_iff_iff, List.all_eq_true, decide_eq_true_eq]
        constructor
        · intro h
          have h0 := of_decide_eq_true (h 0 (List.mem_range.mpr (by show 0 < 2; decide)))
          have h1 := of_decide_eq_true (h 1 (List.mem_range.mpr (by show 1 < 2; decide)))
          simp at h0 h1
          omega
        · intro h i hi
          have : i < 2 := List.mem_range.mp hi
          match i, this with
          | 0, _ => exact decide_eq_true (by simp; omega)
          | 1, _ => exact decide_eq_true (by simp; omega)
      rw [e]
      exact k H2 (.slide ne tok hT)
end
end K15
set_option autoImplicit false
set_option linter.all false
set_option Elab.async false
set_option maxRecDepth 100000
set_option maxHeartbeats 2000000
/-! The program's defs, eighth part: are_ties. -/
namespace K15
open PySem PySem.Spec PyProof.Rows L2 LamX NdefX
abbrev sTies : Stmt := top 12
def AscT (ties : List Sl) : Prop := ∀ (i : Nat) (s t : Sl), ties[i]? = some s → ties[i + 1]? = some t → s.1 < t.1 ∨ (s.1 = t.1 ∧ s.2 < t.2)
def slI (s : Sl) : List Int := [(s.1 : Int), (s.2 : Int)]
theorem asc_all {ties : List Sl} (h : AscT ties) : (List.range (min (ties.map slI).length ((ties.drop 1).map slI).length)).all (fun i => HT.lexLt ((ties.map slI).getD i []) (((ties.drop 1).map slI).getD i [])) = true := by
  rw [List.all_eq_true]
  intro i hi
  have hi' := List.mem_range.mp hi
  rw [List.length_map, List.length_map, List.length_drop] at hi'
  have h1 : i < ties.length := by omega
  have h2 : i + 1 < ties.length := by omega
  have e1 := List.getElem?_eq_getElem h1
  have e2 := List.getElem?_eq_getElem h2
  have e3 : (ties.drop 1)[i]? = some ties[i + 1] := by rw [List.getElem?_drop, Nat.add_comm]; exact e2
  rw [List.getD_eq_getElem?_getD, List.getD_eq_getElem?_getD, List.getElem?_map, List.getElem?_map, e1, e3]
  show HT.lexLt (slI ties[i]) (slI ties[i + 1]) = true
  unfold slI
  rw [HT.lexLt_cons, HT.lexLt_cons]
  rcases h i _ _ e1 e2 with q | ⟨q1, q2⟩
  · rw [if_neg (by omega)]; exact decide_eq_true (by omega)
  · rw [if_pos (by omega), if_neg (by omega)]; exact decide_eq_true (by omega)
theorem wd_at {H : Hp} {t : Addr} {ties : Wd} (h : WdAt H t ties) : ∃ as : List Addr, H t = some (.tup (as.map V.ref)) ∧ as.length = ties.length ∧ ∀ (i : Nat) (x : V) (s : Sl), (as.map V.ref)[i]? = some x → ties[i]? = some s → ∃ a, as[i]? = some a ∧ x = .ref a ∧ H a = some (.tup [iv s.1, iv s.2]) := by
  obtain ⟨as, h1, h2, h3⟩ := h
  refine ⟨as, h1, h2, fun i x s e1 e2 => ?_⟩
  obtain ⟨a, ha, rfl⟩ := get_ref e1
  exact ⟨a, ha, rfl, h3 i a s ha e2⟩
def genS2B (sc scope : Scope) (xa xb : Str) : Bool :=
  decide (scope.kind = .function) && !scope.isCoroutine && scope.names.all (fun y => !decide (y.2 = .cell) && (!decide (y.2 = .free) || decide (sc.names.lookup y.1 = some .cell))) && decide (scope.names.lookup (".0" : Str) = some NameKind.local) && decide (scope.names.lookup xa = some .local) && decide (scope.names.lookup xb = some .local) && decide (xa ≠ xb)
theorem genS2_by {qual : Str} {sc scope : Scope} {xa xb : Str} {L f : Addr} {cdv : Value} (h : genS2B sc scope xa xb = true) : GenS2 (envOfC qual sc L f cdv) scope xa xb := by
  unfold genS2B at h
  simp only [Bool.and_eq_true, Bool.or_eq_true, Bool.not_eq_true', decide_eq_true_eq, decide_eq_false_iff_not, List.all_eq_true] at h
  obtain ⟨⟨⟨⟨⟨⟨h1, h2⟩, h3⟩, h4⟩, h5⟩, h6⟩, h7⟩ := h
  refine ⟨h1, h2, fun y hy => (h3 y hy).1, h4, h5, h6, h7, fun y hy e => ?_⟩
  rcases (h3 y hy).2 with z | z
  · exact absurd e z
  · have := PySem.W.cellsFrom_some sc.names (L + 1) [] (x := y.1) (.inl z)
    exact Option.isSome_iff_exists.mp this
theorem all_two (s : Sl) (n : Nat) : (List.range [iv s.1, iv s.2].length).all (fun i => decide (0 ≤ [(s.1 : Int), (s.2 : Int)].getD i 0 ∧ [(s.1 : Int), (s.2 : Int)].getD i 0 ≤ (n : Int) - 1)) = decide (s.1 < n ∧ s.2 < n) := by
  rw [Bool.eq_iff_iff, List.all_eq_true, decide_eq_true_eq]
  constructor
  · intro h
    have h0 := of_decide_eq_true (h 0 (List.mem_range.mpr (by show 0 < 2; decide)))
    have h1 := of_decide_eq_true (h 1 (List.mem_range.mpr (by show 1 < 2; decide)))
    simp at h0 h1
    omega
  · intro h i hi
    have : i < 2 := List.mem_range.mp hi
    match i, this with
    | 0, _ => exact decide_eq_true (by simp; omega)
    | 1, _ => exact decide_eq_true (by simp; omega)
def spTies (tb : Tb) : Sp := fun vs H Q _ => ∃ (t : Addr) (n : Nat) (ties : List Sl), vs = [iv n, .ref t] ∧ WdAt H t ties ∧ TiesOk n ties ∧ AscT ties ∧ ties ≠ [] ∧ ties.length ≤ 30 ∧ TOk tb H ∧ ∀ H' : Hp, Nx tb H H' → Q (.bl true) H'
section
variable {P : Program} {w : World} {K : PySem.W.Frag} {mg : Str → Option Value} {base : Heap}
theorem scTies : FnScope ["places", "value", "tie"] ["places", "value"] (defScope sTies) := ⟨rfl, rfl, rfl, by decide +kernel, rfl, by decide +kernel, by decide +kernel⟩
theorem ok_ties {tb : Tb} {f c fN : Addr} {fd fdN : FuncData} (F : FunT K "are_ties" "are_ties" sTies f fd c) (B : Bl mg) (ne : TbNe tb) (TB : GxR.TabB base mg c tb.ties) (T : TN mg fN) (FN : Fun K "is_number" "is_number" sIsNum fN fdN) (bN : L2.Binds K fdN ["value", "low", "high"] []) :
    FnOk P w K mg base CX0 2 f fd ["places", "value"] (spTies tb) := by
  refine F.ok scTies (fun vs H Q E h => ?_) (fun A outer s H vs Q E hr h => ?_)
  · obtain ⟨t, n, ties, rfl, _⟩ := h
    rfl
  · obtain ⟨t, n, ties, rfl, ht, hT, hA, hne, hlen, tok, k⟩ := h
    refine ⟨_, pss_cons (ps_if (pt_not (pt_val (pe_callB call_isi (by rfl) B.isi PyProof.Rows.boot_isinstance (pa_cons (pv 1) (pa_cons (pe_bltn (v := .ty "tuple") (by rfl) B.tuple (by decide +kernel) rfl) pa_nil))))) (pss_one (ps_ret pe_bl)) pss_nil)
      (pss_cons (ps_for PassesOwn.never rfl (pi_tup (pv 1)) (pg_name (i := 2) scTies.nd rfl (Or.inl rfl))
        (pss_cons (ps_if (PW.pt (pw_or (pt_not (pt_val (pe_callB call_isi (by rfl) B.isi PyProof.Rows.boot_isinstance (pa_cons (pv 2) (pa_cons (pe_bltn (v := .ty "tuple") (by rfl) B.tuple (by decide +kernel) rfl) pa_nil)))))
            (pw_or (pt_cmpR op_ne (pe_callB call_len_seq (by rfl) B.len PySem.boot_len (pa_cons (pv 2) pa_nil)) pe_int (nomark _))
              (pw_or1 (pt_not (pt_val (pe_allN hr rfl B.all TB rfl (genS_by (by decide +kernel)) (pv 2) (fun _ => rfl)))))))) (pss_one (ps_ret pe_bl)) pss_nil)
          (pss_one (ps_if (pt_cmpR op_ge (pe_ix ix_tup (pv 2) pe_int (fun _ _ => rfl)) (pe_ix ix_tup (pv 2) pe_int (fun _ _ => rfl)) (nomark _)) (pss_one (ps_ret pe_bl)) pss_nil))))
        (pss_one (ps_ret (pe_allZ hr rfl B.all TB rfl (genS2_by (by decide +kernel)) rfl B.zip (pa_cons (pv 1) (pa_cons (pe_slice sl_tup (pv 1) (po_some pe_int) po_none) pa_nil)) (fun _ => rfl))))), ?_⟩
    obtain ⟨as, h1, h2, h3⟩ := wd_at ht
    refine ⟨_, rfl, _, _, _, _, true, rfl, .ty "tuple", .base (.tup h1), kit_ty (by decide +kernel), true, rfl, iteF ?_⟩
    refine ⟨_, rfl, t, rfl, ⟨_, SqT.of h1⟩, for_tup (K := K) (a := t) (xs := as.map V.ref) (fun i σ H' => ∃ v2, σ = [some (iv n), some (.ref t), v2] ∧ Nx tb H H') ⟨none, rfl, .of tok (Same.refl _)⟩ (fun i σ H' _ ⟨_, _, q⟩ => SqT.of (q.tup h1)) ?_ ?_⟩
    · rintro i x σ H' hi ⟨v2, rfl, q⟩
      have hi' : i < ties.length := by rw [← h2]; have := (List.getElem?_eq_some_iff.mp hi).1; rw [List.length_map] at this; exact this
      obtain ⟨sl, hsl⟩ : ∃ sl, ties[i]? = some sl := ⟨_, List.getElem?_eq_getElem hi'⟩
      obtain ⟨a, ha, rfl, hax⟩ := h3 i x sl hi hsl
      have hmem := List.mem_of_getElem? hsl
      have hax' := q.tup hax
      have htt := hT _ hmem
      refine ⟨_, rfl, _, _, _, _, true, rfl, .ty "tuple", .base (.tup hax'), kit_ty (by decide +kernel), true, rfl, iteF ?_⟩
      refine ⟨_, rfl, a, _, rfl, .inr (SqT.of hax'), rfl, _, rfl, iteF ?_⟩
      refine ⟨_, rfl, a, _, (fun i => decide (0 ≤ [(sl.1 : Int), (sl.2 : Int)].getD i 0 ∧ [(sl.1 : Int), (sl.2 : Int)].getD i 0 ≤ (n : Int) - 1)), rfl, .inr (SqT.of hax'), q.tk.ties, fun pins s1 us I1 rv => ?_, fun H2 hT2 => ?_⟩
      · obtain ⟨ps, hP, _⟩ := q.tk.ties
        have hG := genS_by (qual := "are_ties") (sc := defScope sTies) (x := "place") (L := s.heap.objs.size) (f := f) (cdv := .ref c) (scope := { kind := ScopeKind.function, names := [((".0" : Str), NameKind.local), ("place", NameKind.local), ("places", NameKind.free), ("is_number", NameKind.globalImplicit)], isGenerator := true, isCoroutine := false }) (by decide +kernel)
        obtain ⟨u, ru, hu⟩ := ev_cap (D := A.depth + 1 + 1) (i := 0) (x := "places") (v := iv n) (scope := { kind := ScopeKind.function, names := [((".0" : Str), NameKind.local), ("place", NameKind.local), ("places", NameKind.free), ("is_number", NameKind.globalImplicit)], isGenerator := true, isCoroutine := false }) (pos := ⟨27, 88, 27, 94⟩) I1 hP rfl rfl (show (defScope sTies).names.lookup ("places" : Str) = _ by decide +kernel) rfl (by decide +kernel) hG.free
        have hdp := hr.dp
        refine elt_num (ns := [(sl.1 : Int), (sl.2 : Int)]) I1 hP rv T FN bN (by show A.depth + 1 + 1 < _; have : A.depth + 1 + 3 * 1 + 5 < recursionLimit := hdp; omega) rfl (by decide +kernel) (by decide +kernel) (fun C code m => ev_sub (ev_to (hu C code m) ru) ev_int) (by decide) (fun _ => rfl) (fun _ => rfl)
      · have e2 : (List.range [iv sl.1, iv sl.2].length).all (fun i => decide (0 ≤ [(sl.1 : Int), (sl.2 : Int)].getD i 0 ∧ [(sl.1 : Int), (sl.2 : Int)].getD i 0 ≤ (n : Int) - 1)) = true := by
          rw [all_two]; exact decide_eq_true ⟨by omega, htt.2⟩
        rw [e2]
        have q2 := q.trans (.ties ne q.tk hT2)
        have hax2 := q2.tup hax
        refine ⟨true, rfl, iteF ?_⟩
        refine ⟨_, rfl, a, _, _, iv sl.1, rfl, rfl, SqT.of hax2, rfl, _, rfl, a, _, _, iv sl.2, rfl, rfl, SqT.of hax2, rfl, _, _, rfl, rfl, _, rfl, ?_⟩
        rw [decide_eq_false (by omega)]
        exact iteF ⟨_, rfl, q2⟩
    · rintro σ H' ⟨v2, rfl, q⟩
      have h1' := q.tup h1
      have hl1 : 0 < ties.length := List.length_pos_iff.mpr hne
      refine ⟨_, rfl, _, rfl, 1, rfl, t, _, rfl, SqT.of h1', ?_, fun p hp => ?_⟩
      · intro z
        have := z.1
        rw [show ((1 : Int)) = ((1 : Nat) : Int) from rfl, HT.sIx_nat, List.length_map, h2] at this
        omega
      have ec : cutV (as.map V.ref) (some 1) none = (as.drop 1).map V.ref := by
        unfold cutV
        rw [show ((1 : Int)) = ((1 : Nat) : Int) from rfl, HT.sIx_nat, HT.sIx_none, List.length_map, h2, Nat.min_eq_left (by omega), List.map_drop]
        exact List.take_of_length_le (by rw [List.length_drop, List.length_map, h2]; exact Nat.le_refl _)
      rw [ec]
      have s5 : Same H' (upd H' p (.tup ((as.drop 1).map V.ref))) := same_new _ hp
      have q5 := q.same s5
      refine ⟨t, p, _, _, ties.map slI, (ties.drop 1).map slI, rfl, SqT.of (q5.tup h1), SqT.of upd_same, by rw [List.length_map, List.length_map]; exact h2, by rw [List.length_map, List.length_map, List.length_drop, List.length_drop, h2], q5.tk.ties, ?_, ?_, fun H2 hT2 => ?_⟩
      · intro i x ns e1 e2
        rw [List.getElem?_map] at e2
        cases e3 : ties[i]? with
        | none => rw [e3] at e2; cases e2
        | some sl =>
          rw [e3] at e2
          obtain ⟨a, _, rfl, hax⟩ := h3 i x sl e1 e3
          obtain rfl : slI sl = ns := Option.some.inj e2
          exact ⟨a, rfl, q5.tup hax⟩
      · intro i x ns e1 e2
        rw [List.getElem?_map, List.getElem?_drop] at e2
        rw [List.map_drop, List.getElem?_drop] at e1
        cases e3 : ties[1 + i]? with
        | none => rw [e3] at e2; cases e2
        | some sl =>
          rw [e3] at e2
          obtain ⟨a, _, rfl, hax⟩ := h3 (1 + i) x sl e1 e3
          obtain rfl : slI sl = ns := Option.some.inj e2
          exact ⟨a, rfl, q5.tup hax⟩
      · rw [asc_all hA]
        exact k H2 (q5.trans (.ties ne q5.tk hT2))
end
end K15
set_option autoImplicit false
set_option linter.all false
set_option Elab.async false
set_option maxRecDepth 100000
set_option maxHeartbeats 2000000
/-! The program's defs, ninth part: need_yard. -/
namespace K15
open PySem PySem.Spec PyProof.Rows L2 LamX NdefX
abbrev sYard : Stmt := top 13
structure YardOk (H : Hp) (y t : Addr) (n g : Nat) (ties : List Sl) : Prop where
  y : YdAt H y n t g
  t : WdAt H t ties
  ok : TiesOk n ties
  asc : AscT ties
  conn : Conn n ties
  lo : 2 ≤ n
  hi : n ≤ 7
  g : g < n
  len : ties.length ≤ 30
theorem YardOk.ne {H : Hp} {y t : Addr} {n g : Nat} {ties : List Sl} (Y : YardOk H y t n g ties) : ties ≠ [] := fun z => by
  have hlo := Y.lo
  obtain ⟨q, _, h⟩ := Y.conn 1 (by decide) (by omega)
  rw [z] at h
  cases h
theorem YardOk.nx {tb : Tb} {H H' : Hp} {y t : Addr} {n g : Nat} {ties : List Sl} (Y : YardOk H y t n g ties) (e : Nx tb H H') : YardOk H' y t n g ties := ⟨e.yd Y.y, e.wd Y.t, Y.ok, Y.asc, Y.conn, Y.lo, Y.hi, Y.g, Y.len⟩
def spYard (tb : Tb) : Sp := fun vs H Q _ => ∃ (y t : Addr) (n g : Nat) (ties : List Sl), vs = [.ref y] ∧ YardOk H y t n g ties ∧ TOk tb H ∧ ∀ H' : Hp, Nx tb H H' → Q .non H'
section
variable {P : Program} {w : World} {K : PySem.W.Frag} {mg : Str → Option Value} {base : Heap}
theorem scYard : FnScope ["value", "places", "ties", "gate"] ["value"] (defScope sYard) := ⟨rfl, rfl, rfl, by decide +kernel, rfl, by decide +kernel, by decide +kernel⟩
theorem ok_yard {tb : Tb} {f fN fT fH : Addr} {fd fdN fdT fdH : FuncData} {t1 t2 : Tok} (F : Fun K "need_yard" "need_yard" sYard f fd) (B : Bl mg) (N : Dn P w K mg base CX0 1 "is_number" ["value", "low", "high"] spNum fN fdN) (T : Dn P w K mg base CX0 2 "are_ties" ["places", "value"] (spTies tb) fT fdT)
    (Hg : Dn P w K mg base CX0 2 "hanging" ["places", "ties", "place", "without"] spHang fH fdH) (c1 : mg "LEAST_PLACES" = some (.int 2 t1)) (c2 : mg "MOST_PLACES" = some (.int 7 t2)) : FnOk P w K mg base CX0 3 f fd ["value"] (spYard tb) := by
  refine F.ok scYard (fun vs H Q E h => ?_) (fun cdv A outer s H vs Q E hr h => ?_)
  · obtain ⟨y, t, n, g, ties, rfl, _⟩ := h
    rfl
  · obtain ⟨y, t, n, g, ties, rfl, Y, tok, k⟩ := h
    have hr1 : Room 1 (A.deeper (envOfC "need_yard" (defScope sYard) s.heap.objs.size f cdv)) := hr.mono (by decide)
    refine ⟨_, pss_cons (ps_if (PW.pt (pw_or (pt_not (pt_val (pe_callB call_isi (by rfl) B.isi PyProof.Rows.boot_isinstance (pa_cons (pv 0) (pa_cons (pe_bltn (v := .ty "tuple") (by rfl) B.tuple (by decide +kernel) rfl) pa_nil)))))
        (pw_or1 (pt_cmpR op_ne (pe_callB call_len_seq (by rfl) B.len PySem.boot_len (pa_cons (pv 0) pa_nil)) pe_int (nomark _))))) (pss_one ps_never) pss_nil)
      (pss_cons (ps_asg (pv 0) (pg_tup rfl (pgs_cons (pg_name (i := 1) scYard.nd rfl (Or.inl rfl)) (pgs_cons (pg_name (i := 2) scYard.nd rfl (Or.inl rfl)) (pgs_cons (pg_name (i := 3) scYard.nd rfl (Or.inl rfl)) pgs_nil)))))
      (pss_cons (ps_if (pt_not (pt_val (pe_call N.ok hr1 rfl N.mgf N.kp N.b .nil pass0 (pa_cons (pv 1) (pa_cons (pe_glob (v := .int 2) rfl c1 ⟨_, rfl⟩) (pa_cons (pe_glob (v := .int 7) rfl c2 ⟨_, rfl⟩) pa_nil)))))) (pss_one ps_never) pss_nil)
      (pss_cons (ps_if (PW.pt (pw_or (pt_not (pt_val (pe_call T.ok hr rfl T.mgf T.kp T.b .nil pass0 (pa_cons (pv 1) (pa_cons (pv 2) pa_nil)))))
          (pw_or1 (pt_cmpR op_lt (pe_callB call_len_seq (by rfl) B.len PySem.boot_len (pa_cons (pe_call Hg.ok hr rfl Hg.mgf Hg.kp Hg.b .nil pass0 (pa_cons (pv 1) (pa_cons (pv 2) (pa_cons pe_int (pa_cons (pe_tup pa_nil) pa_nil))))) pa_nil)) (pv 1) (nomark _))))) (pss_one ps_never) pss_nil)
        (pss_one (ps_if (pt_not (pt_val (pe_call N.ok hr1 rfl N.mgf N.kp N.b .nil pass0 (pa_cons (pv 3) (pa_cons pe_int (pa_cons (pe_op op_sub (pv 1) pe_int) pa_nil)))))) (pss_one ps_never) pss_nil))))), ?_⟩
    have hy := Y.y
    refine ⟨_, rfl, _, _, _, _, true, rfl, .ty "tuple", .base (.tup hy), kit_ty (by decide +kernel), true, rfl, iteF ?_⟩
    refine ⟨_, rfl, y, _, rfl, .inr (SqT.of hy), rfl, _, rfl, iteF ?_⟩
    refine ⟨_, rfl, y, _, rfl, SqT.of hy, rfl, _, _, rfl, _, _, rfl, _, _, rfl, rfl, ?_⟩
    refine ⟨_, rfl, _, _, _, rfl, rfl, true, ?_, iteF ?_⟩
    · exact congrArg V.bl (decide_eq_true ⟨by have := Y.lo; omega, by have := Y.hi; omega⟩)
    refine ⟨_, rfl, _, rfl, t, n, ties, rfl, Y.t, Y.ok, Y.asc, Y.ne, Y.len, tok, fun H1 n1 => ⟨true, rfl, iteF ?_⟩⟩
    refine ⟨_, rfl, _, rfl, Nat.zero_le _, fun e he => ?_⟩
    have n2 := n1.same (same_new (HO.tup []) he)
    refine ⟨t, e, n, ties, rfl, n2.wd Y.t, upd_same, Y.len, Y.ok, by have := Y.lo; omega, Y.hi, Y.conn, fun l xs H2 s2 hl hx => ?_⟩
    refine ⟨l, xs, rfl, .inl (.inl (.inl hl)), _, rfl, _, _, rfl, rfl, _, rfl, ?_⟩
    rw [hx, decide_eq_false (by omega)]
    refine iteF ?_
    refine ⟨_, rfl, _, rfl, _, _, rfl, rfl, _, _, _, rfl, rfl, true, ?_, iteF (k _ (n2.same s2))⟩
    exact congrArg V.bl (decide_eq_true ⟨by omega, by have := Y.g; omega⟩)
end
end K15
set_option autoImplicit false
set_option linter.all false
set_option Elab.async false
set_option maxRecDepth 100000
set_option maxHeartbeats 2000000
/-! The program's defs, tenth part: need_standing. -/
namespace K15
open PySem PySem.Spec PyProof.Rows L2 LamX NdefX
abbrev sStand : Stmt := top 17
def booksOf (st : Sd) : List Nat := st.filterMap id
structure StOk (st : Sd) : Prop where
  hole : none ∈ st
  ne : booksOf st ≠ []
  lt : ∀ b ∈ booksOf st, b < (booksOf st).length
  nd : (booksOf st).Nodup
theorem some_books : ∀ st : Sd, (st.filter (·.isSome)).map ov = (booksOf st).map iv
  | [] => rfl
  | none :: st => some_books st
  | some b :: st => by
    show ov (some b) :: (st.filter (·.isSome)).map ov = iv b :: (booksOf st).map iv
    rw [some_books st]; rfl
theorem books_len (st : Sd) : (booksOf st).length ≤ st.length := List.length_filterMap_le _ _
theorem inV_non (st : Sd) : inV .non (st.map ov) = decide (none ∈ st) := by
  unfold inV
  rw [List.any_map, Bool.eq_iff_iff, List.any_eq_true, decide_eq_true_eq]
  have e1 : ∀ o : Option Nat, eqV (ov o) .non = true ↔ o = none := fun o => by
    cases o with
    | none => exact ⟨fun _ => rfl, fun _ => rfl⟩
    | some c => exact ⟨fun z => absurd z (by simp [ov, eqV]), fun z => nomatch z⟩
  constructor
  · rintro ⟨o, ho, h⟩
    have := (e1 o).mp h
    rw [← this]; exact ho
  · intro h
    exact ⟨none, h, (e1 _).mpr rfl⟩
theorem tyx_tup {K : PySem.W.Frag} {H : Hp} {a : Addr} {xs : List V} (h : TupH H a xs) : TyX K H (.ref a) (.type "tuple") := by
  rcases h with h | ⟨o, h⟩
  · exact .base (.tup h)
  · exact .fTuple h
def spStand (tb : Tb) : Sp := fun vs H Q _ => ∃ (y t a : Addr) (n g : Nat) (st : Sd), vs = [.ref y, .ref a] ∧ YdAt H y n t g ∧ StAt H a st ∧ st.length = n ∧ n ≤ 60 ∧ StOk st ∧ TOk tb H ∧ ∀ H' : Hp, Nx tb H H' → Q .non H'
section
variable {P : Program} {w : World} {K : PySem.W.Frag} {mg : Str → Option Value} {base : Heap}
theorem scStand : FnScope ["yard", "value", "books", "one"] ["yard", "value"] (defScope sStand) := ⟨rfl, rfl, rfl, by decide +kernel, rfl, by decide +kernel, by decide +kernel⟩
theorem ok_stand {tb : Tb} {f c fN : Addr} {fd fdN : FuncData} (F : FunT K "need_standing" "need_standing" sStand f fd c) (B : Bl mg) (ne : TbNe tb) (TB : GxR.TabB base mg c tb.stand) (T : TN mg fN) (FN : Fun K "is_number" "is_number" sIsNum fN fdN) (bN : L2.Binds K fdN ["value", "low", "high"] []) :
    FnOk P w K mg base CX0 2 f fd ["yard", "value"] (spStand tb) := by
  refine F.ok scStand (fun vs H Q E h => ?_) (fun A outer s H vs Q E hr h => ?_)
  · obtain ⟨y, t, a, n, g, st, rfl, _⟩ := h
    rfl
  · obtain ⟨y, t, a, n, g, st, rfl, hy, ha, hn, hz, S, tok, k⟩ := h
    refine ⟨_, pss_cons (ps_if (PW.pt (pw_or (pt_not (pt_val (pe_callB call_isi (by rfl) B.isi PyProof.Rows.boot_isinstance (pa_cons (pv 1) (pa_cons (pe_bltn (v := .ty "tuple") (by rfl) B.tuple (by decide +kernel) rfl) pa_nil)))))
        (pw_or (pt_cmpR op_ne (pe_callB call_len_seq (by rfl) B.len PySem.boot_len (pa_cons (pv 1) pa_nil)) (pe_ix ix_tup (pv 0) pe_int (fun _ _ => rfl)) (nomark _))
          (pw_or1 (pt_cmpR op_notIn_seq pe_non (pv 1) (by rfl)))))) (pss_one ps_never) pss_nil)
      (pss_cons (ps_set (i := 2) scStand.nd rfl (Or.inr rfl) (pe_lc (own := [("one", 3)]) (g := gName 3) rfl scStand.nd (pi_tup (pv 1)) (blkOk_by (N := ["yard", "value", "books", "one"]) (sc := defScope sStand) (by decide +kernel))
          (fun _ _ _ _ _ => pg_name (i := 3) scStand.nd rfl (Or.inl rfl)) (fun _ _ _ _ _ => pts_one (pt_cmpR op_notN (pv 3) pe_non (nomark _))) (fun _ _ _ _ _ => pv 3)))
        (pss_one (ps_if (PW.pt (pw_or (pt_not (pt_truth (pv 2) (by intro _; rfl)))
          (pw_or (pt_not (pt_val (pe_allN hr rfl B.all TB rfl (genS_by (by decide +kernel)) (pv 2) (fun _ => rfl))))
            (pw_or1 (pt_cmpR op_lt (L2.pe_lenSetI rfl rfl B.len rfl B.set (pv 2)) (pe_callB call_len_seq (by rfl) B.len PySem.boot_len (pa_cons (pv 2) pa_nil)) (nomark _)))))) (pss_one ps_never) pss_nil))), ?_⟩
    refine ⟨_, rfl, _, _, _, _, true, rfl, .ty "tuple", tyx_tup ha, kit_ty (by decide +kernel), true, rfl, iteF ?_⟩
    refine ⟨_, rfl, a, _, rfl, .inr ha.sq, _, rfl, y, _, _, iv n, rfl, rfl, SqT.of hy, rfl, rfl, _, rfl, ?_⟩
    have en : (!decide (V.int ((st.map ov).length : Nat) = iv n)) = false := by
      have : decide (V.int ((st.map ov).length : Nat) = iv n) = true := decide_eq_true (by rw [List.length_map, hn]; rfl)
      rw [this]; rfl
    rw [en]
    refine iteF ⟨_, rfl, a, _, rfl, .inr ha.sq, rfl, sd_flat st, _, rfl, ?_⟩
    rw [inV_non, decide_eq_true S.hole]
    refine iteF ?_
    refine ⟨_, rfl, a, rfl, ⟨_, ha.sq⟩, fun D hD => lc_fltT (K := K) st (·.isSome) ov ha.sq (by rw [List.length_map]) (by omega) hD (fun i x o H1 acc Nxt hx ho s1 hacc hz2 n1 n2 => ?_) (fun H1 s1 hB => ?_)⟩
    · obtain rfl : ov o = x := by
        rw [List.getElem?_map, ho] at hx
        exact Option.some.inj hx
      refine ⟨rfl, _, rfl, rfl, _, rfl, ?_⟩
      rw [ov_none]
      cases o with
      | none => exact iteF (n2 rfl)
      | some b => exact iteT ⟨_, rfl, acc, hacc, hz2, n1 rfl⟩
    · rw [some_books] at hB
      have hbl := books_len st
      have hS : SqL K H1 D ((booksOf st).map iv) := .inl (.inl hB)
      refine ⟨_, rfl, _, .inl ⟨_, hS, rfl⟩, ?_⟩
      have hne : ((booksOf st).map iv).isEmpty = false := by
        cases e : booksOf st with
        | nil => exact absurd e S.ne
        | cons a b => rfl
      rw [hne]
      refine iteF ?_
      refine ⟨_, rfl, D, _, (fun i => decide (0 ≤ ((booksOf st).map (fun b : Nat => (b : Int))).getD i 0 ∧ ((booksOf st).map (fun b : Nat => (b : Int))).getD i 0 ≤ ((booksOf st).length : Int) - 1)), rfl, .inl hS, (tok.same s1).stand, fun pins sh us I1 rv => ?_, fun H2 hT2 => ?_⟩
      · obtain ⟨ps, hP, _⟩ := (tok.same s1).stand
        have hG := genS_by (qual := "need_standing") (sc := defScope sStand) (x := "one") (L := s.heap.objs.size) (f := f) (cdv := .ref c) (scope := { kind := ScopeKind.function, names := [((".0" : Str), NameKind.local), ("one", NameKind.local), ("books", NameKind.free), ("is_number", NameKind.globalImplicit), ("len", NameKind.globalImplicit)], isGenerator := true, isCoroutine := false }) (by decide +kernel)
        obtain ⟨u, ru, hu⟩ := ev_cap (D := A.depth + 1 + 1) (i := 2) (x := "books") (v := .ref D) (scope := { kind := ScopeKind.function, names := [((".0" : Str), NameKind.local), ("one", NameKind.local), ("books", NameKind.free), ("is_number", NameKind.globalImplicit), ("len", NameKind.globalImplicit)], isGenerator := true, isCoroutine := false }) (pos := ⟨61, 51, 61, 56⟩) I1 hP rfl rfl (show (defScope sStand).names.lookup ("books" : Str) = _ by decide +kernel) rfl (by decide +kernel) hG.free
        obtain rfl : u = Value.ref D := ru
        have hdp := hr.dp
        obtain ⟨its, rv2, pl, hz3⟩ := I1.list hS
        have hDP : D ≠ tb.stand := fun z => by rw [z, hP] at hB; cases hB
        have hsz : its.toArray.size = (booksOf st).length := by rw [List.size_toArray, ← rv2.length, List.length_map]
        have hbs := bs_of I1 hP
        refine elt_num (ns := (booksOf st).map (fun b : Nat => (b : Int))) I1 hP (by rw [ints_map]; exact rv) T FN bN (by show A.depth + 1 + 1 < _; have : A.depth + 1 + 3 * 1 + 5 < recursionLimit := hdp; omega) rfl (by decide +kernel) (by decide +kernel) (fun C code m => ev_sub ?_ ev_int) (by decide) (fun _ => rfl) (fun _ => rfl)
        rw [← hsz]
        exact ev_len hbs.mod hbs.bk I1.ok.glob rfl rfl (show List.lookup ("len" : Str) [((".0" : Str), NameKind.local), ("one", NameKind.local), ("books", NameKind.free), ("is_number", NameKind.globalImplicit), ("len", NameKind.globalImplicit)] = _ by decide +kernel) B.len (hu C code m) pl.isList hDP (by rw [hsz, sizeLine_eq]; omega)
      · have rv : ((booksOf st).map (fun b : Nat => (b : Int))).map V.int = (booksOf st).map iv := ints_map _
        have e2 : (List.range ((booksOf st).map iv).length).all (fun i => decide (0 ≤ ((booksOf st).map (fun b : Nat => (b : Int))).getD i 0 ∧ ((booksOf st).map (fun b : Nat => (b : Int))).getD i 0 ≤ ((booksOf st).length : Int) - 1)) = true := by
          rw [List.all_eq_true]
          intro i hi
          have hi2 : i < (booksOf st).length := by have := List.mem_range.mp hi; rw [List.length_map] at this; exact this
          have e3 : ((booksOf st).map (fun b : Nat => (b : Int))).getD i 0 = ((booksOf st)[i] : Nat) := by
            rw [List.getD_eq_getElem?_getD, List.getElem?_map, List.getElem?_eq_getElem hi2]; rfl
          rw [e3]
          have := S.lt _ (List.getElem_mem hi2)
          exact decide_eq_true ⟨by omega, by omega⟩
        rw [e2]
        have q2 : Nx tb H H2 := (Nx.of tok s1).trans (.stand ne (tok.same s1) hT2)
        have hB2 : H2 D = some (.lst ((booksOf st).map iv)) := (Nx.stand ne (tok.same s1) hT2).lst hB
        refine ⟨true, rfl, iteF ?_⟩
        refine ⟨_, rfl, D, (booksOf st).map (fun b : Nat => (b : Int)), rfl, by rw [rv]; exact .inl (.inl hB2), ?_, ?_, ?_⟩
        · rw [List.length_map]; omega
        · exact List.pairwise_map.mpr (S.nd.imp fun {a b} h z => h (Int.ofNat.inj z))
        · refine ⟨_, rfl, D, _, rfl, .inl (.inl (.inl hB2)), _, _, rfl, rfl, _, rfl, ?_⟩
          rw [List.length_map, List.length_map, decide_eq_false (by omega)]
          exact iteF (k _ q2)
end
end K15
set_option autoImplicit false
set_option linter.all false
set_option Elab.async false
set_option maxRecDepth 100000
set_option maxHeartbeats 2000000
/-! What stands in words_from's dicts; the search's middle. -/
namespace K15
open PySem PySem.Spec PyProof.Rows L2 LamX NdefX
/-! ### writes that spare the tables -/
theorem code_ne_dm {P : Program} {w : World} {x : Addr} {q : Str} {ks : List Ent} {ep : Nat} : DMo P w x ks ep ≠ CodeO x q := fun z => by
  unfold DMo CodeO at z
  injection z with z
  have e := congrFun z { objs := Array.replicate (x + 1) { cls := .none, data := .fields #[.none, .str q 0] } }
  have g : ({ objs := Array.replicate (x + 1) { cls := .none, data := .fields #[.none, .str q 0] } } : Heap).get? x = some { cls := .none, data := .fields #[.none, .str q 0] } := by
    unfold Heap.get?
    rw [Array.getElem?_replicate, if_pos (Nat.lt_succ_self x)]
  have h2 : (∃ (oc : Obj) (vs : Array Value) (t : Tok), ({ objs := Array.replicate (x + 1) { cls := .none, data := .fields #[.none, .str q 0] } } : Heap).get? x = some oc ∧ oc.data = .fields vs ∧ vs[1]? = some (.str q t)) := ⟨_, _, 0, g, rfl, rfl⟩
  rw [← e] at h2
  obtain ⟨_, o, ho, _, hd⟩ := h2
  rw [g] at ho
  cases ho
  cases hd
theorem lst_ne_code {x : Addr} {q : Str} {xs : List V} : HO.lst xs ≠ CodeO x q := fun z => by unfold CodeO at z; cases z
theorem TOk.upd {tb : Tb} {H : Hp} {x : Addr} {o0 o : HO} (t : TOk tb H) (h : H x = some o0) (h1 : ∀ ps, o0 ≠ .tbl ps) (h2 : ∀ q, o0 ≠ CodeO x q) : TOk tb (L2.upd H x o) := by
  have tg : ∀ {P : Addr}, GxR.TabG H P → GxR.TabG (L2.upd H x o) P := fun ⟨ps, e, r⟩ => ⟨ps, by rw [upd_ne (fun z => by rw [z, h] at e; exact h1 ps (Option.some.inj e))]; exact e, r⟩
  have tn : ∀ {P : Addr} {nm : Nat → Nat → Str}, TabN H P nm → TabN (L2.upd H x o) P nm := fun ⟨ps, e, r, k⟩ => by
    refine ⟨ps, by rw [upd_ne (fun z => by rw [z, h] at e; exact h1 ps (Option.some.inj e))]; exact e, r, fun pos cv hc => ?_⟩
    obtain ⟨c, e1, e2⟩ := k pos cv hc
    refine ⟨c, e1, ?_⟩
    rw [upd_ne (fun z => by rw [z, h] at e2; exact h2 _ (Option.some.inj e2))]
    exact e2
  exact ⟨tg t.ties, tg t.stand, tg t.slide, tn t.words, tn t.law⟩
theorem Nx.put {tb : Tb} {H H' : Hp} {x : Addr} {o0 o : HO} (n : Nx tb H H') (hx : H x = none) (h : H' x = some o0) (h1 : ∀ ps, o0 ≠ .tbl ps) (h2 : ∀ q, o0 ≠ CodeO x q) : Nx tb H (L2.upd H' x o) :=
  ⟨fun b u e ne => by rw [upd_ne (ne_of_none e hx)]; exact n.kp b u e ne, n.tk.upd h h1 h2, fun b e => n.dn b (NdefX.upd_none e)⟩
theorem dmo_tbl {P : Program} {w : World} {x : Addr} {ks : List Ent} {ep : Nat} (ps : Array Value) : DMo P w x ks ep ≠ .tbl ps := fun z => by unfold DMo at z; cases z
theorem DMAt.nx {tb : Tb} {P : Program} {w : World} {H H' : Hp} {d : Addr} {ks : List Ent} (D : DMAt P w H d ks) (n : Nx tb H H') : DMAt P w H' d ks :=
  ⟨let ⟨ep, e⟩ := D.at_; ⟨ep, n.kp _ _ e dmo_tbl⟩, fun e he => n.tupH (D.key e he), D.nd, D.sz⟩
theorem DMAt.same {P : Program} {w : World} {H H' : Hp} {d : Addr} {ks : List Ent} (D : DMAt P w H d ks) (s : Same H H') : DMAt P w H' d ks :=
  ⟨let ⟨ep, e⟩ := D.at_; ⟨ep, s _ _ e⟩, fun e he => (D.key e he).ext fun o q => s _ o q, D.nd, D.sz⟩
theorem DMAt.other {P : Program} {w : World} {H : Hp} {d x : Addr} {ks ks2 : List Ent} {ep : Nat} {o : HO} (D : DMAt P w H d ks) (h : H x = some (DMo P w x ks2 ep)) (hd : d ≠ x) : DMAt P w (L2.upd H x o) d ks :=
  D.ext (upd_ne hd) fun b xs hb => hb.to (upd_ne (hb.ne h))
/-! ### entries against the pure table -/
inductive FdR (H : Hp) : List Ent → Fd → Prop
  | nil : FdR H [] []
  | cons {t : Sd} {a v : Addr} {w : Wd} {ks : List Ent} {L : Fd} (h : WdAt H v w) (r : FdR H ks L) : FdR H ((t, a, v) :: ks) ((t, w) :: L)
theorem FdR.ext {H H' : Hp} (e : ∀ b w, WdAt H b w → WdAt H' b w) : ∀ {ks : List Ent} {L : Fd}, FdR H ks L → FdR H' ks L
  | _, _, .nil => .nil
  | _, _, .cons h r => .cons (e _ _ h) (r.ext e)
theorem FdR.keys {H : Hp} : ∀ {ks : List Ent} {L : Fd}, FdR H ks L → ks.map (·.1) = L.map (·.1)
  | _, _, .nil => rfl
  | _, _, .cons h r => by rw [List.map_cons, List.map_cons, r.keys]
theorem FdR.len {H : Hp} {ks : List Ent} {L : Fd} (r : FdR H ks L) : ks.length = L.length := by have := congrArg List.length r.keys; simpa using this
theorem FdR.has {H : Hp} (t : Sd) : ∀ {ks : List Ent} {L : Fd}, FdR H ks L → hasM ks t = hasK L t
  | _, _, .nil => rfl
  | _, _, @FdR.cons _ u a v w ks L h r => by
    have ih := r.has t
    unfold hasM atM hasK at *
    rw [Option.isSome_map] at *
    rw [List.find?_cons, List.any_cons]
    by_cases q : u = t
    · rw [decide_eq_true q]; simp [q]
    · rw [decide_eq_false q]
      have : ((u, w).1 == t) = false := by simpa using q
      rw [this, Bool.false_or]
      exact ih
theorem FdR.at {H : Hp} (t : Sd) : ∀ {ks : List Ent} {L : Fd}, FdR H ks L → (atM ks t = none ∧ getW L t = none) ∨ ∃ a v w, atM ks t = some (a, v) ∧ getW L t = some w ∧ WdAt H v w
  | _, _, .nil => .inl ⟨rfl, rfl⟩
  | _, _, @FdR.cons _ u a v w ks L h r => by
    have ih := r.at t
    unfold atM getW at *
    rw [List.find?_cons, List.find?_cons]
    by_cases q : u = t
    · have e1 : ((u, w).1 == t) = true := by simpa using q
      rw [decide_eq_true q, e1]
      exact .inr ⟨a, v, w, rfl, rfl, h⟩
    · have e1 : ((u, w).1 == t) = false := by simpa using q
      rw [decide_eq_false q, e1]
      exact ih
theorem FdR.app {H : Hp} : ∀ {ks ks2 : List Ent} {L L2 : Fd}, FdR H ks L → FdR H ks2 L2 → FdR H (ks ++ ks2) (L ++ L2)
  | _, _, _, _, .nil, r => r
  | _, _, _, _, .cons h r, r2 => .cons h (r.app r2)
theorem FdR.putMap {H : Hp} {t : Sd} {v : Addr} {w : Wd} (hw : WdAt H v w) : ∀ {ks : List Ent} {L : Fd}, FdR H ks L → FdR H (ks.map (fun e => if e.1 = t then (e.1, e.2.1, v) else e)) (L.map (fun e => if e.1 = t then (e.1, w) else e))
  | _, _, .nil => .nil
  | _, _, @FdR.cons _ u a' v' w' ks L h r => by
    rw [List.map_cons, List.map_cons]
    by_cases q : u = t
    · rw [if_pos (show (u, a', v').1 = t from q), if_pos (show (u, w').1 = t from q)]
      exact .cons hw (r.putMap hw)
    · rw [if_neg (show ¬ (u, a', v').1 = t from q), if_neg (show ¬ (u, w').1 = t from q)]
      exact .cons h (r.putMap hw)
theorem FdR.put {H : Hp} {ks : List Ent} {L : Fd} (r : FdR H ks L) {t : Sd} {a v : Addr} {w : Wd} (hw : WdAt H v w) : FdR H (putM ks t a v) (putW L t w) := by
  unfold putM putW
  rw [r.has t]
  split
  · exact r.putMap hw
  · exact r.app (.cons hw .nil)
theorem FdR.mem {H : Hp} : ∀ {ks : List Ent} {L : Fd}, FdR H ks L → ∀ e ∈ ks, ∃ w, (e.1, w) ∈ L ∧ WdAt H e.2.2 w
  | _, _, .nil, e, he => by cases he
  | _, _, @FdR.cons _ u a v w ks L h r, e, he => by
    rcases List.mem_cons.mp he with q | q
    · rw [q]; exact ⟨w, List.mem_cons_self, h⟩
    · obtain ⟨w', h1, h2⟩ := r.mem e q
      exact ⟨w', List.mem_cons_of_mem _ h1, h2⟩
/-! a layer -/
def LyAt (H : Hp) (l : Addr) (ts : List Sd) : Prop := ∃ as : List Addr, H l = some (.lst (as.map V.ref)) ∧ as.length = ts.length ∧ ∀ (i : Nat) (a : Addr) (t : Sd), as[i]? = some a → ts[i]? = some t → StAt H a t
/-! ### the middle of a layer -/
structure MOk (ties : List Sl) (st : Sd) (d : Nat) (found later : Fd) : Prop where
  nd : (later.map (·.1)).Nodup
  el : ∀ t w, (t, w) ∈ later → Rn ties st w t ∧ w.length = d + 1 ∧ hasK found t = false
theorem MOk.nil {ties : List Sl} {st : Sd} {d : Nat} {found : Fd} : MOk ties st d found [] := ⟨List.nodup_nil, fun t w h => by cases h⟩
theorem MOk.add {ties : List Sl} {st : Sd} {d : Nat} {found later : Fd} {one : Sd} {u : Wd} {s : Sl} (M : MOk ties st d found later) (hu : Rn ties st u one) (hl : u.length = d) (hs : s ∈ slidesOf ties one) : MOk ties st d found (addP found one u later s) := by
  unfold addP
  cases hk : hasK found (slid one s) with
  | true => rw [if_pos rfl]; exact M
  | false =>
    rw [if_neg Bool.false_ne_true]
    refine ⟨putW_nodup M.nd, fun t w h => ?_⟩
    rcases mem_putW h with q | ⟨q, _⟩
    · have e1 : t = slid one s := congrArg Prod.fst q
      have e2 : w = lesser (u ++ [s]) ((getW later (slid one s)).getD (u ++ [s])) := congrArg Prod.snd q
      have hr : Rn ties st (u ++ [s]) (slid one s) := .snoc hu hs
      have hn : Rn ties st w t ∧ w.length = d + 1 := by
        have key : ∀ x, (x = u ++ [s] ∨ (slid one s, x) ∈ later) → Rn ties st x (slid one s) ∧ x.length = d + 1 := fun x hx => by
          rcases hx with rfl | hx
          · exact ⟨hr, by rw [List.length_append, hl]; rfl⟩
          · obtain ⟨a, b, _⟩ := M.el _ _ hx
            exact ⟨a, b⟩
        have hw : w = u ++ [s] ∨ (slid one s, w) ∈ later := by
          rw [e2]
          unfold lesser
          cases hg : getW later (slid one s) with
          | none => left; show (if _ then _ else _) = _; split <;> rfl
          | some old =>
            have ho := (getW_some M.nd).mp hg
            show (if code old < code (u ++ [s]) then old else u ++ [s]) = _ ∨ (_, if code old < code (u ++ [s]) then old else u ++ [s]) ∈ later
            split
            · exact .inr ho
            · exact .inl rfl
        obtain ⟨a, b⟩ := key w hw
        rw [e1]; exact ⟨a, b⟩
      exact ⟨hn.1, hn.2, by rw [e1]; exact hk⟩
    · exact M.el t w q
theorem MOk.len {ties : List Sl} {st : Sd} {d : Nat} {found later : Fd} (M : MOk ties st d found later) (h5 : st.length ≤ 5) (hl : Low 4 st) : later.length ≤ 3125 := found_bound h5 hl M.nd fun e he => (M.el e.1 e.2 he).1
end K15
set_option autoImplicit false
set_option linter.all false
set_option Elab.async false
set_option maxRecDepth 100000
set_option maxHeartbeats 4000000
/-! The program's defs: words_from. -/
namespace K15
open PySem PySem.Spec PyProof.Rows L2 LamX NdefX
abbrev sWords : Stmt := top 23
def LyE (H : Hp) (as : List Addr) (ts : List Sd) : Prop := ∀ (i : Nat) (a : Addr) (t : Sd), as[i]? = some a → ts[i]? = some t → StAt H a t
theorem LyE.tup {H H' : Hp} {as : List Addr} {ts : List Sd} (h : LyE H as ts) (e : ∀ b xs, TupH H b xs → TupH H' b xs) : LyE H' as ts := fun i a t h1 h2 => e _ _ (h i a t h1 h2)
theorem LyE.same {H H' : Hp} {as : List Addr} {ts : List Sd} (h : LyE H as ts) (s : Same H H') : LyE H' as ts := h.tup fun b xs q => q.ext fun o e => s _ o e
theorem FdR.same {H H' : Hp} {ks : List Ent} {L : Fd} (r : FdR H ks L) (s : Same H H') : FdR H' ks L := r.ext fun b w h => h.same s
theorem tupH_put {H : Hp} {x : Addr} {P : Program} {w : World} {ks : List Ent} {ep : Nat} {o : HO} (h : H x = some (DMo P w x ks ep)) {b : Addr} {xs : List V} (q : TupH H b xs) : TupH (L2.upd H x o) b xs := q.to (upd_ne (q.ne h))
theorem tup_put {H : Hp} {x : Addr} {P : Program} {w : World} {ks : List Ent} {ep : Nat} {o : HO} (h : H x = some (DMo P w x ks ep)) {b : Addr} {xs : List V} (q : H b = some (.tup xs)) : L2.upd H x o b = some (.tup xs) := by
  rw [upd_ne (fun z => by rw [z, h] at q; unfold DMo at q; cases q)]; exact q
theorem WdAt.put {H : Hp} {x : Addr} {P : Program} {w : World} {ks : List Ent} {ep : Nat} {o : HO} (h : H x = some (DMo P w x ks ep)) {b : Addr} {u : Wd} (q : WdAt H b u) : WdAt (L2.upd H x o) b u := q.ext fun _ _ e => tup_put h e
/-- two words of one length -/
theorem minOk_two {u v : Wd} (hl : u.length = v.length) (hu : WdOk u) (hv : WdOk v) : MinOk [wD u, wD v] (fun i => if i = 0 then code u else code v) := by
  have cs : ∀ (i : Nat) (d : PyData), [wD u, wD v][i]? = some d → (i = 0 ∧ d = wD u) ∨ (i = 1 ∧ d = wD v) := fun i d e => by
    match i, e with
    | 0, e => exact .inl ⟨rfl, (Option.some.inj e).symm⟩
    | 1, e => exact .inr ⟨rfl, (Option.some.inj e).symm⟩
    | i + 2, e => cases e
  refine ⟨fun i j d e h1 h2 => ?_, fun i d h1 => ?_, fun i j d e h1 h2 => ?_, fun i d h1 => ?_⟩
  · rcases cs i d h1 with ⟨_, rfl⟩ | ⟨_, rfl⟩ <;> rcases cs j e h2 with ⟨_, rfl⟩ | ⟨_, rfl⟩ <;> exact w_alike _ _
  · rcases cs i d h1 with ⟨_, rfl⟩ | ⟨_, rfl⟩ <;> exact fun z => by unfold wD at z; cases z
  · rcases cs i d h1 with ⟨rfl, rfl⟩ | ⟨rfl, rfl⟩ <;> rcases cs j e h2 with ⟨rfl, rfl⟩ | ⟨rfl, rfl⟩
    · exact w_lt rfl hu hu
    · exact w_lt hl hu hv
    · exact w_lt hl.symm hv hu
    · exact w_lt rfl hv hv
  · rcases cs i d h1 with ⟨_, rfl⟩ | ⟨_, rfl⟩ <;> exact Nat.le_trans (wD_depth _) (by decide)
theorem foldl_snoc {α β : Type} (f : β → α → β) (b : β) {l : List α} {i : Nat} {x : α} (h : l[i]? = some x) : (l.take (i + 1)).foldl f b = f ((l.take i).foldl f b) x := by
  rw [take_succ h, List.foldl_append]; rfl
theorem best_len {n : Nat} {ties : List Sl} {st : Sd} {d : Nat} {found : Fd} {layer : List Sd} (Y : YOk n ties st) (I : PInv ties st d found layer) {t : Sd} (ht : t ∈ layer) : d + 1 ≤ found.length := by
  obtain ⟨w, hw, hl⟩ := (I.ly t).mp ht
  have key : ∀ k t w, Best ties st t w → w.length = k → k ≤ d → ∀ j, j ≤ k → ∃ e ∈ found, e.2.length = j := by
    intro k
    induction k with
    | zero =>
      intro t w hb e hk j hj
      exact ⟨(t, w), (I.fd t w).mpr ⟨hb, by omega⟩, by show w.length = j; omega⟩
    | succ k ih =>
      intro t w hb e hk j hj
      by_cases q : j = k + 1
      · exact ⟨(t, w), (I.fd t w).mpr ⟨hb, by omega⟩, by show w.length = j; omega⟩
      · obtain ⟨one, u0, _, _, h1, h2, _⟩ := hb.parent (d := k) Y e
        exact ih one u0 h1 h2 (by omega) j (by omega)
  have h1 : (List.range (d + 1)).length ≤ (found.map (fun e => e.2.length)).length := nodup_sub List.nodup_range fun j hj => by
    obtain ⟨e, he, q⟩ := key d t w hw hl (Nat.le_refl _) j (by have := List.mem_range.mp hj; omega)
    exact List.mem_map.mpr ⟨e, he, q⟩
  rw [List.length_range, List.length_map] at h1
  exact h1
theorem addP_old {found later : Fd} {one : Sd} {u : Wd} {s : Sl} (h : hasK found (slid one s) = true) : addP found one u later s = later := by
  unfold addP
  rw [h, if_pos rfl]
theorem addP_new {found later : Fd} {one : Sd} {u : Wd} {s : Sl} (h : hasK found (slid one s) = false) : addP found one u later s = putW later (slid one s) (lesser (u ++ [s]) ((getW later (slid one s)).getD (u ++ [s]))) := by
  unfold addP
  rw [h, if_neg Bool.false_ne_true]
theorem ly_of {H : Hp} : ∀ {es : List Ent}, (∀ e ∈ es, StAt H e.2.1 e.1) → LyE H (es.map (·.2.1)) (es.map (·.1))
  | es, h, i, a, t, h1, h2 => by
    rw [List.getElem?_map] at h1 h2
    cases e : es[i]? with
    | none => rw [e] at h1; cases h1
    | some x =>
      rw [e] at h1 h2
      obtain rfl := Option.some.inj h1
      obtain rfl := Option.some.inj h2
      exact h _ (List.mem_of_getElem? e)
theorem getW_mem {L : Fd} (nd : (L.map (·.1)).Nodup) {t : Sd} {w : Wd} (h : (t, w) ∈ L) : getW L t = some w := (getW_some nd).mpr h
def spWords (P : Program) (w : World) (tb : Tb) : Sp := fun vs H Q _ => ∃ (y t a : Addr) (n g : Nat) (ties : List Sl) (st : Sd), vs = [.ref y, .ref a] ∧ YdAt H y n t g ∧ WdAt H t ties ∧ ties.length ≤ 30 ∧ StAt H a st ∧ YOk n ties st ∧ n ≤ 5 ∧ Low 4 st ∧ TOk tb H ∧
  ∀ (d : Addr) (ks : List Ent) (L : Fd) (H' : Hp), Nx tb H H' → H d = none → DMAt P w H' d ks → FdR H' ks L → (∀ t w, (t, w) ∈ L ↔ Best ties st t w) → Q (.ref d) H'
def wmeas (Lf : Fd) (layer : List Sd) : Nat := 2 * (3126 - Lf.length) + (if layer = [] then 0 else 1)
section
variable {P : Program} {w : World} {K : PySem.W.Frag} {mg : Str → Option Value} {base : Heap}
theorem scWords : FnScope ["yard", "standing", "found", "layer", "later", "one", "slide", "other", "way"] ["yard", "standing"] (defScope sWords) := ⟨rfl, rfl, rfl, by decide +kernel, rfl, by decide +kernel, by decide +kernel⟩
theorem ok_words {tb : Tb} {f c fS fD : Addr} {fd fdS fdD : FuncData} (F : FunT K "words_from" "words_from" sWords f fd c) (B : Bl mg) (ne : TbNe tb) (TB : LamX.TabB base mg c tb.words) (S : Dn P w K mg base CX0 2 "slides_of" ["yard", "standing"] spSlides fS fdS) (D : Dn P w K mg base CX0 1 "slid" ["standing", "slide"] spSlid fD fdD) :
    FnOk P w K mg base CX0 3 f fd ["yard", "standing"] (spWords P w tb) := by
  refine F.ok scWords (fun vs H Q E h => ?_) (fun A outer s H vs Q E hr h => ?_)
  · obtain ⟨y, t, a, n, g, ties, st, rfl, _⟩ := h
    rfl
  · obtain ⟨y, t, a, n, g, ties, st, rfl, hy, ht, hlen, ha, Y, h5, hlow, tok, k⟩ := h
    have hr1 : Room 1 (A.deeper (envOfC "words_from" (defScope sWords) s.heap.objs.size f (.ref c))) := hr.mono (by decide)
    have hu1 : (A.deeper (envOfC "words_from" (defScope sWords) s.heap.objs.size f (.ref c))).units + 1 < cLine := hu_of hr
    have hu64 : (A.deeper (envOfC "words_from" (defScope sWords) s.heap.objs.size f (.ref c))).units + 64 < cLine := by have := hr.un; omega
    have hq : ("words_from.<locals>.<lambda>" : Str) = ((("words_from" : Str) ++ (".<locals>." : Str)) ++ ("<lambda>" : Str)) := by decide +kernel
    have hNS : NScope ["one", "found"] ["one"] ["found"] { kind := ScopeKind.function, names := [(("one" : Str), NameKind.local), ("found", NameKind.free)], isGenerator := false, isCoroutine := false } := nscope_by (by decide +kernel)
    have hfree : ∀ y ∈ [(("one" : Str), NameKind.local), ("found", NameKind.free)], y.2 = NameKind.free → (defScope sWords).names.lookup y.1 = some .cell ∨ (defScope sWords).names.lookup y.1 = some .free :=
      ndef_free (sc := defScope sWords) (nsc := { kind := ScopeKind.function, names := [(("one" : Str), NameKind.local), ("found", NameKind.free)], isGenerator := false, isCoroutine := false }) (fr := ["found"]) (by decide +kernel)
    refine ⟨_, pss_cons (ps_asg (pe_tup (pa_cons (pe_dispM (Nat.lt_of_succ_lt hu1) (pv 1) (pe_tup pa_nil)) (pa_cons (pe_lst (pa_cons (pv 1) pa_nil)) pa_nil)))
        (pg_tup rfl (pgs_cons (pg_name (i := 2) scWords.nd rfl (Or.inr rfl)) (pgs_cons (pg_name (i := 3) scWords.nd rfl (Or.inl rfl)) pgs_nil))))
      (pss_cons (ps_while PassesOwn.never (pt_truth (pv 3) (by intro _; rfl))
        (pss_cons (ps_set (i := 4) scWords.nd rfl (Or.inl rfl) pe_newM)
        (pss_cons (ps_for PassesOwn.never rfl (pi_list (pv 3)) (pg_name (i := 5) scWords.nd rfl (Or.inl rfl))
          (pss_one (ps_for PassesOwn.never rfl (pi_list (pe_call S.ok hr rfl S.mgf S.kp S.b .nil pass0 (pa_cons (pv 0) (pa_cons (pv 5) pa_nil)))) (pg_name (i := 6) scWords.nd rfl (Or.inl rfl))
            (pss_cons (ps_set (i := 7) scWords.nd rfl (Or.inl rfl) (pe_call D.ok hr1 rfl D.mgf D.kp D.b .nil pass0 (pa_cons (pv 5) (pa_cons (pv 6) pa_nil))))
            (pss_one (ps_if (pt_cmpR (op_notInM hu1) (pv 7) (pv 2) (by rfl))
              (pss_cons (ps_set (i := 8) scWords.nd rfl (Or.inl rfl) (pe_op op_catA (pe_dgetM hu1 (pv 2) (pv 5)) (pe_tup (pa_cons (pv 6) pa_nil))))
              (pss_one (ps_asg (pe_callB (call_min2D rfl hu64) (by rfl) B.min (by decide +kernel) (pa_cons (pv 8) (pa_cons (pe_bmM PySem.F.slot_dict_get PySem.F.type_dict_get (mt_getM hu1) (pv 4) (pa_cons (pv 7) (pa_cons (pv 8) pa_nil))) pa_nil))) (pg_sub (pv 4) (pv 7) (set_M hu1))))) pss_nil))))))
        (pss_cons (ps_expr (pe_bmM PySem.F.slot_dict_update PySem.F.type_dict_update (mt_updM hu1) (pv 2) (pa_cons (pv 4) pa_nil)))
        (pss_one (ps_set (i := 3) scWords.nd rfl (Or.inl rfl) (pe_sortKey (j := 2) rfl hr rfl B.sorted (pa_cons (pv 4) pa_nil) (pk_cons (pe_lam0 (nm := nmW) TB rfl hq hfree rfl) pk_nil))))))))
      (pss_one (ps_ret (pv 2)))), ?_⟩
    refine fun dF hdF => ⟨_, rfl, Nat.zero_le _, fun e0 he0 => ?_⟩
    have hdF' : upd H dF (DMo P w dF [] 0) dF = some (DMo P w dF [] 0) := upd_same
    have he0 : upd H dF (DMo P w dF [] 0) e0 = none := he0
    have hed : e0 ≠ dF := fun z => by rw [z, hdF'] at he0; cases he0
    have he0' : H e0 = none := by rw [upd_ne hed] at he0; exact he0
    have hfk : ∀ {b : Addr} {o : HO}, H b = some o → b ≠ dF := fun hb => ne_of_none hb hdF
    have g2 : upd (upd H dF (DMo P w dF [] 0)) e0 (.tup []) dF = some (DMo P w dF [] 0) := by rw [upd_ne hed.symm]; exact hdF'
    have s2 : Same H (upd (upd H dF (DMo P w dF [] 0)) e0 (.tup [])) := (same_new _ hdF).trans (same_new _ he0)
    have tok2 : TOk tb (upd (upd H dF (DMo P w dF [] 0)) e0 (.tup [])) := tok.same s2
    refine ⟨a, e0, st, rfl, rfl, g2, (ha.same s2), fun ep => ⟨_, rfl, by show 1 ≤ sizeLine; decide, fun L hL => ⟨by show 2 ≤ sizeLine; decide, fun T hT => ?_⟩⟩⟩
    have n3 : Nx tb H (upd (upd (upd H dF (DMo P w dF [] 0)) e0 (.tup [])) dF (DMo P w dF [(st, a, e0)] ep)) := (Nx.of tok s2).put hdF g2 dmo_tbl (fun q => code_ne_dm)
    have sL := same_new (HO.lst [.ref a]) hL
    have sT := same_new (HO.tup [.ref dF, .ref L]) hT
    have n5 := (n3.same sL).same sT
    have D3 : DMAt P w (upd (upd (upd H dF (DMo P w dF [] 0)) e0 (.tup [])) dF (DMo P w dF [(st, a, e0)] ep)) dF [(st, a, e0)] :=
      ⟨⟨ep, upd_same⟩, fun e he => by rw [List.mem_singleton.mp he]; exact n3.st ha, by simp, by show 1 ≤ 4000; decide⟩
    have we : WdAt (upd (upd (upd H dF (DMo P w dF [] 0)) e0 (.tup [])) dF (DMo P w dF [(st, a, e0)] ep)) e0 [] := ⟨[], by rw [upd_ne hed]; exact upd_same, PrsAt.nil _⟩
    have sLT := sL.trans sT
    refine ⟨T, _, rfl, SqT.of upd_same, rfl, _, _, rfl, _, _, rfl, rfl, ?_⟩
    let St0 : Addr → Option V → Option V → Option V → Option V → Option V → L2.St := fun L v4 v5 v6 v7 v8 => [some (.ref y), some (.ref a), some (.ref dF), some (.ref L), v4, v5, v6, v7, v8]
    let WI : Nat → L2.St → Hp → Prop := fun m σ H' => ∃ (dd : Nat) (Lf : Fd) (layer : List Sd) (kF : List Ent) (L : Addr) (as : List Addr) (v4 v5 v6 v7 v8 : Option V), σ = St0 L v4 v5 v6 v7 v8 ∧ m = wmeas Lf layer ∧ Nx tb H H' ∧ DMAt P w H' dF kF ∧ FdR H' kF Lf ∧
      H' L = some (.lst (as.map V.ref)) ∧ as.length = layer.length ∧ LyE H' as layer ∧ PInv ties st dd Lf layer
    refine ⟨WI, ⟨_, 0, [(st, [])], [st], [(st, a, e0)], L, [a], none, none, none, none, none, rfl, rfl, n5, D3.same sLT, (FdR.cons we .nil).same sLT, sT _ _ upd_same, rfl, fun i b u e1 e2 => ?_, PInv.start⟩, ?_⟩
    · match i, e1, e2 with
      | 0, e1, e2 =>
        obtain rfl : a = b := Option.some.inj e1
        obtain rfl : st = u := Option.some.inj e2
        exact n5.st ha
    rintro m σ H' ⟨dd, Lf, layer, kF, L, as, v4, v5, v6, v7, v8, rfl, rfl, nH, DF, RF, hL1, hal, hly, PI⟩
    have hst5 : st.length ≤ 5 := by rw [Y.len]; exact h5
    have hLf : Lf.length ≤ 3125 := PI.bound Y h5 hlow
    refine ⟨_, rfl, _, .inl ⟨_, .inl (.inl hL1), rfl⟩, ?_⟩
    refine ite2 (fun hb => ?_) (fun hb => ?_)
    · have hlay : layer ≠ [] := fun z => by
        rw [z] at hal
        rw [List.length_eq_zero_iff.mp hal] at hb
        exact Bool.false_ne_true hb
      refine ⟨fun σ' H'' => ∃ m', m' < wmeas Lf layer ∧ WI m' σ' H'', fun σ' H'' z => z, ?_⟩
      -- later = {}
      refine fun dL hdL => ?_
      have sA : Same H' (upd H' dL (DMo P w dL [] 0)) := same_new _ hdL
      have hdL0 : H dL = none := nH.dn dL hdL
      have hnx := nH.same sA
      have hDFL : dF ≠ dL := fun z => by
        obtain ⟨ep, q⟩ := DF.at_
        rw [z, hdL] at q; cases q
      have DL0 : DMAt P w (upd H' dL (DMo P w dL [] 0)) dL [] := ⟨⟨0, upd_same⟩, (fun e he => by cases he), List.nodup_nil, Nat.zero_le _⟩
      -- for one in layer
      let base_ : Nat → Fd := fun i => (layer.take i).foldl (layerP ties Lf) []
      let PV : Nat → L2.St → Hp → Prop := fun i σ H2 => ∃ (kL : List Ent) (v5 v6 v7 v8 : Option V), σ = St0 L (some (.ref dL)) v5 v6 v7 v8 ∧ Nx tb H H2 ∧ DMAt P w H2 dF kF ∧ FdR H2 kF Lf ∧ H2 L = some (.lst (as.map V.ref)) ∧ LyE H2 as layer ∧ DMAt P w H2 dL kL ∧ FdR H2 kL (base_ i) ∧ MOk ties st dd Lf (base_ i)
      refine ⟨_, rfl, L, rfl, ⟨_, .inl (.inl (sA _ _ hL1))⟩, for_list (K := K) (a := L) (xs := as.map V.ref) PV ⟨[], v5, v6, v7, v8, rfl, hnx, DF.same sA, RF.same sA, sA _ _ hL1, hly.same sA, DL0, .nil, MOk.nil⟩
        (fun i σ H2 _ ⟨_, _, _, _, _, _, _, _, _, q, _⟩ => .inl (.inl q)) ?_ ?_⟩
      · rintro i x σ H2 hi ⟨kL, v5, v6, v7, v8, rfl, n2, DF2, RF2, hL2, hly2, DL2, RL2, MO2⟩
        obtain ⟨one, h1a, rfl⟩ := get_ref hi
        have hil : i < layer.length := by rw [← hal]; exact (List.getElem?_eq_some_iff.mp h1a).1
        obtain ⟨t1, ht1⟩ : ∃ t1, layer[i]? = some t1 := ⟨_, List.getElem?_eq_getElem hil⟩
        have hst1 := hly2 i one t1 h1a ht1
        obtain ⟨u, hBu, hul⟩ := (PI.ly t1).mp (List.mem_of_getElem? ht1)
        have Y1 := Y.run hBu.1
        have hfu : (t1, u) ∈ Lf := (PI.fd t1 u).mpr ⟨hBu, Nat.le_of_eq hul⟩
        have hgu : getW Lf t1 = some u := (getW_some PI.nd).mpr hfu
        -- for slide in slides_of(yard, one)
        refine ⟨_, rfl, _, rfl, y, t, one, n, g, ties, t1, rfl, n2.yd hy, n2.wd ht, hlen, hst1, by rw [Y1.len]; exact Y1.ties, by rw [Y1.len]; have := Y.n8; omega, fun l H3 s3 hl0 ⟨bs, hB3, hP3⟩ => ?_⟩
        let PW2 : Nat → L2.St → Hp → Prop := fun j σ H4 => ∃ (kL : List Ent) (v6 v7 v8 : Option V), σ = St0 L (some (.ref dL)) (some (.ref one)) v6 v7 v8 ∧ Nx tb H H4 ∧ DMAt P w H4 dF kF ∧ FdR H4 kF Lf ∧ H4 L = some (.lst (as.map V.ref)) ∧ LyE H4 as layer ∧ DMAt P w H4 dL kL ∧
          FdR H4 kL (((slidesOf ties t1).take j).foldl (addP Lf t1 u) (base_ i)) ∧ MOk ties st dd Lf (((slidesOf ties t1).take j).foldl (addP Lf t1 u) (base_ i)) ∧ H4 l = some (.lst (bs.map V.ref)) ∧ PrsAt H4 bs (slidesOf ties t1)
        refine ⟨l, rfl, ⟨_, .inl (.inl hB3)⟩, for_list (K := K) (a := l) (xs := bs.map V.ref) PW2 ⟨kL, v6, v7, v8, rfl, n2.same s3, DF2.same s3, RF2.same s3, s3 _ _ hL2, hly2.same s3, DL2.same s3, RL2.same s3, MO2, hB3, hP3⟩
          (fun j σ H4 _ ⟨_, _, _, _, _, _, _, _, _, _, _, _, _, q, _⟩ => .inl (.inl q)) ?_ ?_⟩
        · rintro j x σ H4 hj ⟨kL, v6, v7, v8, rfl, n4, DF4, RF4, hL4, hly4, DL4, RL4, MO4, hB4, hP4⟩
          obtain ⟨sa, hsa, rfl⟩ := get_ref hj
          have hjl : j < (slidesOf ties t1).length := by rw [← hP4.1]; exact (List.getElem?_eq_some_iff.mp hsa).1
          obtain ⟨sl, hsl⟩ : ∃ sl, (slidesOf ties t1)[j]? = some sl := ⟨_, List.getElem?_eq_getElem hjl⟩
          have hslAt : SlAt H4 sa sl := hP4.2 j sa sl hsa hsl
          have hslm := List.mem_of_getElem? hsl
          obtain ⟨q1, q2, q3, q4⟩ := mem_slidesOf.mp hslm
          have q5 : sl.2 < t1.length := by rw [Y1.len]; exact near_lt Y1.ties q3
          have hst4 := hly4 i one t1 h1a ht1
          -- other = slid(one, slide)
          refine ⟨_, rfl, _, rfl, one, sa, t1, sl, rfl, hst4, hslAt, q1, q5, by rw [Y1.len]; have := Y.n8; omega, fun aO H5 s5 hO0 hO => ?_⟩
          have n5 := n4.same s5
          have DF5 := DF4.same s5
          have RF5 := RF4.same s5
          have DL5 := DL4.same s5
          have RL5 := RL4.same s5
          -- if other not in found
          refine ⟨_, rfl, _, rfl, aO, dF, slid t1 sl, kF, rfl, rfl, DF5, hO, _, rfl, ?_⟩
          rw [RF5.has]
          have stepE : ((slidesOf ties t1).take (j + 1)).foldl (addP Lf t1 u) (base_ i) = addP Lf t1 u (((slidesOf ties t1).take j).foldl (addP Lf t1 u) (base_ i)) sl := foldl_snoc _ _ hsl
          have MO6 := MO4.add hBu.1 hul hslm
          cases hk : hasK Lf (slid t1 sl) with
          | true =>
            refine iteF ⟨kL, _, _, _, rfl, n5, DF5, RF5, s5 _ _ hL4, hly4.same s5, DL5, ?_, ?_, s5 _ _ hB4, hP4.same s5⟩
            · rw [stepE, addP_old hk]; exact RL5
            · rw [stepE]; exact MO6
          | false =>
            refine iteT ?_
            -- way = found[one] + (slide,)
            obtain ⟨z1, z2⟩ | ⟨ka, va, u', z1, z2, hwu⟩ := RF5.at t1
            · rw [hgu] at z2; cases z2
            rw [hgu] at z2
            obtain rfl : u = u' := Option.some.inj z2
            obtain ⟨us, hus, hup⟩ := id hwu
            have hst5' : StAt H5 one t1 := hst4.same s5
            refine ⟨_, rfl, _, rfl, dF, one, t1, kF, (ka, va), rfl, rfl, DF5, hst5', z1, _, rfl, by show 1 ≤ sizeLine; decide, fun T6 hT6 => ?_⟩
            have s6 : Same H5 (upd H5 T6 (.tup [.ref sa])) := same_new _ hT6
            have hsl6 : SlAt (upd H5 T6 (.tup [.ref sa])) sa sl := s6 _ _ (s5 _ _ hslAt)
            have hul60 : u.length ≤ 4000 := by
              have h9 := best_len Y PI (List.mem_of_getElem? ht1)
              omega
            have huk := hBu.1.ok Y
            have hwk : WdOk (u ++ [sl]) := huk.snoc (slOk_of Y1 hslm)
            -- the rest, the word's tuple at aw
            have rest : ∀ (aw : Addr) (H7 : Hp) (D : Ends), (∀ σ H, PW2 (j + 1) σ H → D.nx σ H) → Same H5 H7 → WdAt H7 aw (u ++ [sl]) → tAsg (tCB (fun vs H Q => ∃ (x y : V) (dx dy : PyData) (nx ny : Nat), vs = [x, y] ∧ Dp K H x dx ∧ Dp K H y dy ∧ MinOk [dx, dy] (fun i => if i = 0 then nx else ny) ∧ Q (if ny < nx then y else x) H) (tCons (tVar 8) (tCons (tBMM P w (rGetM P w) (tVar 4) (tCons (tVar 7) (tCons (tVar 8) tNil))) tNil))) (gSub (tVar 4) (tVar 7) (rSetM P w))
                D (St0 L (some (.ref dL)) (some (.ref one)) (some (.ref sa)) (some (.ref aO)) (some (.ref aw))) H7 := by
              intro aw H7 D hD s7 hw7
              have n7 := n5.same s7
              have DL7 := DL5.same s7
              have RL7 := RL5.same s7
              have hO7 := hO.same s7
              have DF7 := DF5.same s7
              have hkl : kL.length < 4000 := by have h1 := RL4.len; have h2 := MO4.len hst5 hlow; omega
              have fin : ∀ (v : Addr) (wv : Wd), WdAt H7 v wv → addP Lf t1 u (((slidesOf ties t1).take j).foldl (addP Lf t1 u) (base_ i)) sl = putW (((slidesOf ties t1).take j).foldl (addP Lf t1 u) (base_ i)) (slid t1 sl) wv →
                  gSub (tVar 4) (tVar 7) (rSetM P w) (.ref v) (St0 L (some (.ref dL)) (some (.ref one)) (some (.ref sa)) (some (.ref aO)) (some (.ref aw))) H7 D.nx := by
                intro v wv hv eP
                refine ⟨_, rfl, _, rfl, dL, aO, v, slid t1 sl, kL, rfl, rfl, rfl, DL7, hkl, hO7, fun ep => hD _ _ ?_⟩
                obtain ⟨ep0, h0⟩ := DL7.at_
                have hLn : L ≠ dL := fun z => by
                  have := s7 _ _ (s5 _ _ hL4)
                  rw [z, h0] at this; unfold DMo at this; cases this
                have hln : l ≠ dL := fun z => by
                  have := s7 _ _ (s5 _ _ hB4)
                  rw [z, h0] at this; unfold DMo at this; cases this
                refine ⟨putM kL (slid t1 sl) aO v, _, _, _, rfl, n7.put hdL0 h0 dmo_tbl (fun q => code_ne_dm), DF7.other h0 hDFL, (RF5.same s7).ext fun b x h => h.put h0, by rw [upd_ne hLn]; exact s7 _ _ (s5 _ _ hL4), ((hly4.same s5).same s7).tup fun b x q => tupH_put h0 q, DL7.put hkl hO7, ?_, by rw [stepE]; exact MO6, by rw [upd_ne hln]; exact s7 _ _ (s5 _ _ hB4), ((hP4.same s5).same s7).ext fun b x q => tup_put h0 q⟩
                rw [stepE, eP]
                exact (RL7.put hv).ext fun b x h => h.put h0
              refine ⟨_, rfl, _, rfl, ⟨dL, kL, rfl, DL7⟩, _, rfl, _, rfl, dL, aO, .ref aw, slid t1 sl, kL, rfl, rfl, DL7, hO7, ?_⟩
              rcases RL7.at (slid t1 sl) with ⟨y1, y2⟩ | ⟨a', v', wo, y1, y2, hwo⟩
              · rw [y1]
                refine ⟨.ref aw, .ref aw, wD (u ++ [sl]), wD (u ++ [sl]), code (u ++ [sl]), code (u ++ [sl]), rfl, wd_dp hw7, wd_dp hw7, minOk_two rfl hwk hwk, ?_⟩
                rw [if_neg (Nat.lt_irrefl _)]
                refine fin aw _ hw7 ?_
                rw [addP_new hk, y2]
                show putW _ _ (lesser (u ++ [sl]) (u ++ [sl])) = _
                unfold lesser
                rw [if_neg (Nat.lt_irrefl _)]
              · rw [y1]
                obtain ⟨m1, m2, m3⟩ := MO4.el _ _ ((getW_some MO4.nd).mp y2)
                have hl2 : (u ++ [sl]).length = wo.length := by rw [List.length_append, hul, m2]; rfl
                refine ⟨.ref aw, .ref v', wD (u ++ [sl]), wD wo, code (u ++ [sl]), code wo, rfl, wd_dp hw7, wd_dp hwo, minOk_two hl2 hwk (m1.ok Y), ?_⟩
                have eP : addP Lf t1 u (((slidesOf ties t1).take j).foldl (addP Lf t1 u) (base_ i)) sl = putW (((slidesOf ties t1).take j).foldl (addP Lf t1 u) (base_ i)) (slid t1 sl) (lesser (u ++ [sl]) wo) := by
                  rw [addP_new hk, y2]; rfl
                unfold lesser at eP
                by_cases hlt : code wo < code (u ++ [sl])
                · rw [if_pos hlt] at eP ⊢
                  exact fin v' _ hwo eP
                · rw [if_neg hlt] at eP ⊢
                  exact fin aw _ hw7 eP
            refine ⟨va, T6, us.map V.ref, [.ref sa], rfl, rfl, SqT.of (s6 _ _ hus), SqT.of upd_same, ?_, fun he => ?_, fun _ z => (nomatch z), fun he _ p hp => ?_⟩
            · rw [List.length_map, hup.1, sizeLine_eq]; show u.length + 1 ≤ _; omega
            · have hu0 : u = [] := by
                have h1 := hup.1
                rw [List.map_eq_nil_iff.mp he] at h1
                exact List.length_eq_zero_iff.mp h1.symm
              refine rest T6 _ _ (fun _ _ q => q) s6 ⟨[sa], upd_same, ?_⟩
              rw [hu0]
              exact PrsAt.one hsl6
            · have s7 : Same (upd H5 T6 (.tup [.ref sa])) (upd (upd H5 T6 (.tup [.ref sa])) p (.tup (us.map V.ref ++ [.ref sa]))) := same_new _ hp
              refine rest p _ _ (fun _ _ q => q) (s6.trans s7) ⟨us ++ [sa], by rw [upd_same, List.map_append]; rfl, ?_⟩
              exact ((hup.same s6).same s7).app (PrsAt.one (s7 _ _ hsl6))
        · rintro σ H4 ⟨kL, v6, v7, v8, rfl, n4, DF4, RF4, hL4, hly4, DL4, RL4, MO4, hB4, hP4⟩
          rw [List.length_map, hP4.1, List.take_length] at RL4 MO4
          have e1 : base_ (i + 1) = (slidesOf ties t1).foldl (addP Lf t1 u) (base_ i) := by
            show (layer.take (i + 1)).foldl (layerP ties Lf) [] = _
            rw [foldl_snoc _ _ ht1]
            show layerP ties Lf (base_ i) t1 = _
            unfold layerP
            rw [hgu]; rfl
          exact ⟨kL, _, _, _, _, rfl, n4, DF4, RF4, hL4, hly4, DL4, by rw [e1]; exact RL4, by rw [e1]; exact MO4⟩
      · rintro σ H2 ⟨kL, v5, v6, v7, v8, rfl, n2, DF2, RF2, hL2, hly2, DL2, RL2, MO2⟩
        rw [List.length_map, hal, show base_ layer.length = layer.foldl (layerP ties Lf) [] by show (layer.take layer.length).foldl _ _ = _; rw [List.take_length]] at RL2 MO2
        have hLn : (layer.foldl (layerP ties Lf) []).length ≤ 3125 := MO2.len hst5 hlow
        generalize hLt : layer.foldl (layerP ties Lf) [] = later at RL2 MO2 hLn
        have hkF : kF ≠ [] := fun z => by
          have e1 := RF2.len
          rw [z] at e1
          obtain ⟨t0, ht0⟩ : ∃ t0, t0 ∈ layer := List.exists_mem_of_ne_nil _ hlay
          have := best_len Y PI ht0
          rw [← e1] at this
          exact Nat.not_succ_le_zero _ this
        have hnd : ((kF ++ kL).map (·.1)).Nodup := by
          rw [(RF2.app RL2).keys, List.map_append]
          refine List.nodup_append.mpr ⟨PI.nd, MO2.nd, fun a ha b hb e => ?_⟩
          obtain ⟨x, hx, ex⟩ := List.mem_map.mp hb
          have h3 := (MO2.el x.1 x.2 hx).2.2
          rw [ex, ← e] at h3
          obtain ⟨y, hy, ey⟩ := List.mem_map.mp ha
          have h4 : hasK Lf a = true := by
            unfold hasK
            exact List.any_eq_true.mpr ⟨y, hy, by simpa using ey⟩
          rw [h4] at h3; cases h3
        have PN : ∀ layer', layer'.Perm (later.map (·.1)) → PInv ties st (dd + 1) (Lf ++ later) layer' := fun layer' hp => by
          rw [← hLt]
          exact PI.next Y (by rw [hLt]; exact hp)
        have hsz : (kF ++ kL).length ≤ 3125 := by
          rw [(RF2.app RL2).len]
          exact (PN _ (List.Perm.refl _)).bound Y h5 hlow
        -- found.update(later)
        refine ⟨_, rfl, ⟨dF, kF, rfl, DF2⟩, _, rfl, dF, dL, kF, kL, rfl, rfl, hDFL, DF2, DL2, hkF, hnd, fun ep2 => ?_⟩
        obtain ⟨ep0, h0⟩ := DF2.at_
        have n3 := n2.put hdF h0 dmo_tbl (fun q => code_ne_dm) (o := DMo P w dF (kF ++ kL) ep2)
        have DF3 : DMAt P w (upd H2 dF (DMo P w dF (kF ++ kL) ep2)) dF (kF ++ kL) := ⟨⟨ep2, upd_same⟩, fun e he => by
          rcases List.mem_append.mp he with q | q
          · exact tupH_put h0 (DF2.key e q)
          · exact tupH_put h0 (DL2.key e q), hnd, Nat.le_trans hsz (by decide)⟩
        have DL3 := DL2.other (o := DMo P w dF (kF ++ kL) ep2) h0 hDFL.symm
        have RF3 : FdR (upd H2 dF (DMo P w dF (kF ++ kL) ep2)) (kF ++ kL) (Lf ++ later) := (RF2.app RL2).ext fun b x h => h.put h0
        have RL3 : FdR (upd H2 dF (DMo P w dF (kF ++ kL) ep2)) kL later := RL2.ext fun b x h => h.put h0
        -- layer = sorted(later, key=lambda one: found[one])
        refine ⟨_, rfl, n3.tk.words, fun f1 c1 H4 bt tn hf1 hfo hco => ?_⟩
        have n4 : Nx tb (upd H2 dF (DMo P w dF (kF ++ kL) ep2)) H4 := Nx.words ne n3.tk bt tn
        have DF4 := DF3.nx n4
        have DL4 := DL3.nx n4
        have RF4 : FdR H4 (kF ++ kL) (Lf ++ later) := RF3.ext fun b x h => n4.wd h
        have RL4 : FdR H4 kL later := RL3.ext fun b x h => n4.wd h
        have ndA : ((Lf ++ later).map (·.1)).Nodup := (PN _ (List.Perm.refl _)).nd
        refine ⟨dL, dF, f1, kL, kF ++ kL, _, (fun e => (getW later e.1).getD []), rfl, rfl, DL4, DF4, rfl, hfo, hco, rfl, fun ok => Caps.made ok hfree (fr := ["found"]) (js := [2]) (by decide +kernel) rfl, hNS, fun _ _ _ => rfl, fun e he => ?_, fun p ks' hperm hp => ?_⟩
        · obtain ⟨we, hwe, hwd⟩ := RL4.mem e he
          have hge : getW later e.1 = some we := getW_mem MO2.nd hwe
          have hgA : getW (Lf ++ later) e.1 = some we := getW_mem ndA (List.mem_append_right _ hwe)
          rcases RF4.at e.1 with ⟨z1, z2⟩ | ⟨a', v', w', z1, z2, z3⟩
          · rw [hgA] at z2; cases z2
          · rw [hgA] at z2
            obtain rfl := Option.some.inj z2
            refine ⟨(a', v'), z1, ?_, ?_⟩
            · show WdAt _ _ ((getW later e.1).getD [])
              rw [hge]; exact z3
            · show (getW later e.1).getD [] ≠ []
              rw [hge]
              intro z
              have hl := (MO2.el _ _ hwe).2.1
              rw [show we = [] from z] at hl
              cases hl
        · have s5 := same_new (HO.lst (ks'.map fun e => V.ref e.2.1)) hp
          have pm : (ks'.map (·.1)).Perm (later.map (·.1)) := by rw [← RL4.keys]; exact hperm.map _
          have P2 := PN _ pm
          have hDm : wmeas (Lf ++ later) (ks'.map (·.1)) < wmeas Lf layer := by
            have hb2 := P2.bound Y h5 hlow
            rw [List.length_append] at hb2
            unfold wmeas
            rw [if_neg hlay, List.length_append]
            cases hlt : later with
            | nil =>
              have : ks'.map (·.1) = [] := List.length_eq_zero_iff.mp (by rw [pm.length_eq, hlt]; rfl)
              rw [if_pos this]
              show 2 * (3126 - (Lf.length + 0)) + 0 < _
              omega
            | cons a l =>
              rw [hlt] at hb2
              rw [List.length_cons] at hb2 ⊢
              split <;> omega
          refine ⟨_, hDm, dd + 1, Lf ++ later, ks'.map (·.1), kF ++ kL, p, ks'.map (·.2.1), _, _, _, _, _, rfl, rfl, (n3.trans n4).same s5, DF4.same s5, RF4.same s5, ?_, by rw [List.length_map, List.length_map], LyE.same (ly_of fun e he => ?_) s5, P2⟩
          · rw [upd_same, List.map_map]; rfl
          · exact DL4.key e (hperm.mem_iff.mp he)
    · have hlay : layer = [] := by
        cases as with
        | nil => exact List.length_eq_zero_iff.mp hal.symm
        | cons _ _ => exact absurd rfl hb
      subst hlay
      exact ⟨_, rfl, k dF kF Lf H' nH hdF DF RF fun t w => PI.done Y⟩
end
end K15
set_option autoImplicit false
set_option linter.all false
set_option Elab.async false
set_option maxRecDepth 100000
set_option maxHeartbeats 4000000
/-! The store: what stands in the heap. -/
namespace K15
open PySem PySem.Spec PyProof.Rows L2 LamX NdefX
/-- behind code that changes the store at p with its dict at d, makes objects and lets tables grow -/
structure Nz (tb : Tb) (p d : Addr) (H H' : Hp) : Prop where
  kp : ∀ b o, b ≠ p → b ≠ d → H b = some o → (∀ ps, o ≠ .tbl ps) → H' b = some o
  tk : TOk tb H'
  dn : ∀ b, H' b = none → H b = none
theorem Nx.nz {tb : Tb} {p d : Addr} {H H' : Hp} (n : Nx tb H H') : Nz tb p d H H' := ⟨fun b o _ _ e ne => n.kp b o e ne, n.tk, n.dn⟩
theorem Nz.refl {tb : Tb} {p d : Addr} {H : Hp} (t : TOk tb H) : Nz tb p d H H := (Nx.of t fun _ _ e => e).nz
theorem Nz.trans {tb : Tb} {p d : Addr} {H H1 H2 : Hp} (a : Nz tb p d H H1) (b : Nz tb p d H1 H2) : Nz tb p d H H2 := ⟨fun c o h1 h2 e ne => b.kp c o h1 h2 (a.kp c o h1 h2 e ne) ne, b.tk, fun c h => a.dn c (b.dn c h)⟩
theorem Nz.put {tb : Tb} {p d x : Addr} {H H' : Hp} {o0 o : HO} (n : Nz tb p d H H') (hx : x = p ∨ x = d) (h : H' x = some o0) (h1 : ∀ ps, o0 ≠ .tbl ps) (h2 : ∀ q, o0 ≠ CodeO x q) : Nz tb p d H (L2.upd H' x o) :=
  ⟨fun b u b1 b2 e ne => by rw [upd_ne (fun z => by rcases hx with q | q; exact b1 (z.trans q); exact b2 (z.trans q))]; exact n.kp b u b1 b2 e ne, n.tk.upd h h1 h2, fun b e => n.dn b (NdefX.upd_none e)⟩
theorem Nz.same {tb : Tb} {p d : Addr} {H H1 H2 : Hp} (a : Nz tb p d H H1) (s : Same H1 H2) : Nz tb p d H H2 := a.trans (Nx.of a.tk s).nz
theorem Nz.nx {tb : Tb} {p d : Addr} {H H1 H2 : Hp} (a : Nz tb p d H H1) (s : Nx tb H1 H2) : Nz tb p d H H2 := a.trans s.nz
theorem ins_tbl {C dx : Addr} {fs : List (Str × V)} (ps : Array Value) : HO.ins C dx fs ≠ .tbl ps := fun z => by cases z
theorem ins_code {C dx x : Addr} {fs : List (Str × V)} (q : Str) : HO.ins C dx fs ≠ CodeO x q := fun z => by unfold CodeO at z; cases z
theorem dk_tbl {kvs : List (Key × V)} (ps : Array Value) : HO.dK kvs ≠ .tbl ps := fun z => by cases z
theorem dk_code {kvs : List (Key × V)} {x : Addr} (q : Str) : HO.dK kvs ≠ CodeO x q := fun z => by unfold CodeO at z; cases z
/-! its fields -/
theorem s_yn : ¬ (("yard" : Str) = "now") := by decide +kernel
theorem s_yb : ¬ (("yard" : Str) = "numbers") := by decide +kernel
theorem s_yt : ¬ (("yard" : Str) = "ticks") := by decide +kernel
theorem s_nb : ¬ (("now" : Str) = "numbers") := by decide +kernel
theorem s_nt : ¬ (("now" : Str) = "ticks") := by decide +kernel
theorem s_bt : ¬ (("numbers" : Str) = "ticks") := by decide +kernel
def sf (y a d : Addr) (t : Int) : List (Str × V) := [("yard", .ref y), ("now", .ref a), ("numbers", .ref d), ("ticks", .int t)]
theorem sf_y (y a d : Addr) (t : Int) : (sf y a d t).lookup ("yard" : Str) = some (.ref y) := by
  unfold sf
  simp [List.lookup]
theorem sf_n (y a d : Addr) (t : Int) : (sf y a d t).lookup ("now" : Str) = some (.ref a) := by
  unfold sf
  rw [List.lookup_cons, show (("now" : Str) == "yard") = false by simpa using fun z => s_yn z.symm]
  simp [List.lookup]
theorem sf_b (y a d : Addr) (t : Int) : (sf y a d t).lookup ("numbers" : Str) = some (.ref d) := by
  unfold sf
  rw [List.lookup_cons, show (("numbers" : Str) == "yard") = false by simpa using fun z => s_yb z.symm, List.lookup_cons, show (("numbers" : Str) == "now") = false by simpa using fun z => s_nb z.symm]
  simp [List.lookup]
theorem sf_t (y a d : Addr) (t : Int) : (sf y a d t).lookup ("ticks" : Str) = some (.int t) := by
  unfold sf
  rw [List.lookup_cons, show (("ticks" : Str) == "yard") = false by simpa using fun z => s_yt z.symm, List.lookup_cons, show (("ticks" : Str) == "now") = false by simpa using fun z => s_nt z.symm, List.lookup_cons, show (("ticks" : Str) == "numbers") = false by simpa using fun z => s_bt z.symm]
  simp [List.lookup]
theorem sf_no (y a d : Addr) (t : Int) {m : Str} (h1 : (m == ("yard" : Str)) = false) (h2 : (m == ("now" : Str)) = false) (h3 : (m == ("numbers" : Str)) = false) (h4 : (m == ("ticks" : Str)) = false) : (sf y a d t).lookup m = none := by
  unfold sf
  rw [List.lookup_cons, h1, List.lookup_cons, h2, List.lookup_cons, h3, List.lookup_cons, h4]
  rfl
theorem putF_cons (x y : Str) (v u : V) (r : List (Str × V)) : putF x v ((y, u) :: r) = if y = x then (y, v) :: r else (y, u) :: putF x v r := rfl
theorem putF_nil (x : Str) (v : V) : putF x v [] = [(x, v)] := rfl
theorem sf_now (y a b d : Addr) (t : Int) : putF "now" (.ref b) (sf y a d t) = sf y b d t := by
  unfold sf
  rw [putF_cons, if_neg s_yn, putF_cons, if_pos rfl]
theorem sf_tick (y a d : Addr) (t u : Int) : putF "ticks" (.int u) (sf y a d t) = sf y a d u := by
  unfold sf
  rw [putF_cons, if_neg s_yt, putF_cons, if_neg s_nt, putF_cons, if_neg s_bt, putF_cons, if_pos rfl]
theorem sf_mk1 (y : Addr) : putF "yard" (.ref y) [] = ([("yard", V.ref y)] : List (Str × V)) := rfl
theorem sf_mk2 (y a : Addr) : putF "now" (.ref a) [("yard", V.ref y)] = ([("yard", V.ref y), ("now", V.ref a)] : List (Str × V)) := by rw [putF_cons, if_neg s_yn, putF_nil]
theorem sf_mk3 (y a d : Addr) : putF "numbers" (.ref d) [("yard", V.ref y), ("now", V.ref a)] = ([("yard", V.ref y), ("now", V.ref a), ("numbers", V.ref d)] : List (Str × V)) := by rw [putF_cons, if_neg s_yb, putF_cons, if_neg s_nb, putF_nil]
theorem sf_mk4 (y a d : Addr) (t : Int) : putF "ticks" (.int t) [("yard", V.ref y), ("now", V.ref a), ("numbers", V.ref d)] = sf y a d t := by
  rw [putF_cons, if_neg s_yt, putF_cons, if_neg s_nt, putF_cons, if_neg s_bt, putF_nil]; rfl
/-! the numbers -/
def kN (b : Nat) : Key := Sum.inl (b : Int)
theorem kN_inj {a b : Nat} (h : kN a = kN b) : a = b := by
  have := Sum.inl.inj h
  omega
theorem kN_v (b : Nat) : kV (kN b) = iv b := rfl
structure NumOk (kvs : List (Key × V)) (hs : List Int) : Prop where
  ks : (kvs.map (·.1)).Perm ((List.range hs.length).map kN)
  at_ : ∀ b x, hs[b]? = some x → valV kvs (kN b) = some (.int x)
theorem NumOk.len {kvs : List (Key × V)} {hs : List Int} (h : NumOk kvs hs) : kvs.length = hs.length := by
  have := h.ks.length_eq
  simpa using this
theorem NumOk.put {kvs : List (Key × V)} {hs : List Int} (h : NumOk kvs hs) {b : Nat} (hb : b < hs.length) (v : Int) : NumOk (putK kvs (kN b) (.int v)) (hs.set b v) := by
  have e0 : (valV kvs (kN b)).isSome = true := by rw [h.at_ b _ (List.getElem?_eq_getElem hb)]; rfl
  have e1 : (kvs.any fun kv => decide (kv.1 = kN b)) = true := by rw [valV_any]; exact e0
  refine ⟨?_, fun c x hc => ?_⟩
  · rw [List.length_set]
    have : (putK kvs (kN b) (.int v)).map (·.1) = kvs.map (·.1) := by
      unfold putK
      rw [if_pos e1, List.map_map]
      refine List.map_congr_left fun kv _ => ?_
      show (if kv.1 = kN b then (kv.1, V.int v) else kv).1 = kv.1
      split <;> rfl
    rw [this]
    exact h.ks
  · rw [valV_put]
    rw [List.getElem?_set] at hc
    by_cases q : c = b
    · subst q
      rw [if_pos rfl, if_pos hb] at hc
      rw [if_pos rfl, ← Option.some.inj hc]
    · rw [if_neg (fun z => q z.symm)] at hc
      rw [if_neg (fun z => q (kN_inj z))]
      exact h.at_ c x hc
/-- the store at p, its dict at d: at work on the yard at y, standing st, holding hs, tk ticks gone by -/
def StoAt (C : Addr) (H : Hp) (p d y : Addr) (st : Sd) (hs : List Int) (tk : Int) : Prop :=
  ∃ (dx a : Addr) (kvs : List (Key × V)), H p = some (.ins C dx (sf y a d tk)) ∧ H d = some (.dK kvs) ∧ NumOk kvs hs ∧ StAt H a st
theorem StoAt.same {C : Addr} {H H' : Hp} {p d y : Addr} {st : Sd} {hs : List Int} {tk : Int} (h : StoAt C H p d y st hs tk) (s : Same H H') : StoAt C H' p d y st hs tk :=
  let ⟨dx, a, kvs, h1, h2, h3, h4⟩ := h; ⟨dx, a, kvs, s _ _ h1, s _ _ h2, h3, h4.same s⟩
theorem StoAt.nx {tb : Tb} {C : Addr} {H H' : Hp} {p d y : Addr} {st : Sd} {hs : List Int} {tk : Int} (h : StoAt C H p d y st hs tk) (s : Nx tb H H') : StoAt C H' p d y st hs tk :=
  let ⟨dx, a, kvs, h1, h2, h3, h4⟩ := h; ⟨dx, a, kvs, s.kp _ _ h1 ins_tbl, s.kp _ _ h2 dk_tbl, h3, s.st h4⟩
section
variable {tb : Tb} {C p d y : Addr} {H H' : Hp} {t0 : Sd} {hs : List Int} {tk : Int}
theorem StoAt.tupNe (s : StoAt C H p d y t0 hs tk) {b : Addr} {xs : List V} (h : TupH H b xs) : b ≠ p ∧ b ≠ d := by
  obtain ⟨dx, a, kvs, h1, h2, _⟩ := s
  constructor
  · rintro rfl
    rcases h with h | ⟨o, h⟩ <;> rw [h1] at h <;> cases h
  · rintro rfl
    rcases h with h | ⟨o, h⟩ <;> rw [h2] at h <;> cases h
theorem StoAt.lstNe (s : StoAt C H p d y t0 hs tk) {b : Addr} {xs : List V} (h : H b = some (.lst xs)) : b ≠ p ∧ b ≠ d := by
  obtain ⟨dx, a, kvs, h1, h2, _⟩ := s
  constructor
  · rintro rfl; rw [h1] at h; cases h
  · rintro rfl; rw [h2] at h; cases h
theorem Nz.tup (e : Nz tb p d H H') (s : StoAt C H p d y t0 hs tk) {b : Addr} {xs : List V} (h : H b = some (.tup xs)) : H' b = some (.tup xs) :=
  have n := s.tupNe (.inl h)
  e.kp b _ n.1 n.2 h (fun ps z => by cases z)
theorem Nz.lst (e : Nz tb p d H H') (s : StoAt C H p d y t0 hs tk) {b : Addr} {xs : List V} (h : H b = some (.lst xs)) : H' b = some (.lst xs) :=
  have n := s.lstNe h
  e.kp b _ n.1 n.2 h (fun ps z => by cases z)
theorem Nz.tupH (e : Nz tb p d H H') (s : StoAt C H p d y t0 hs tk) {b : Addr} {xs : List V} (h : TupH H b xs) : TupH H' b xs := by
  have n := s.tupNe h
  rcases h with h | ⟨o, h⟩
  · exact .inl (e.kp b _ n.1 n.2 h (fun ps z => by cases z))
  · exact .inr ⟨o, e.kp b _ n.1 n.2 h (fun ps z => by cases z)⟩
theorem Nz.wd (e : Nz tb p d H H') (s : StoAt C H p d y t0 hs tk) {b : Addr} {w : Wd} (h : WdAt H b w) : WdAt H' b w := h.ext fun _ _ q => e.tup s q
theorem Nz.st (e : Nz tb p d H H') (s : StoAt C H p d y t0 hs tk) {b : Addr} {t : Sd} (h : StAt H b t) : StAt H' b t := e.tupH s h
theorem Nz.yd (e : Nz tb p d H H') (s : StoAt C H p d y t0 hs tk) {q t : Addr} {n g : Nat} (h : YdAt H q n t g) : YdAt H' q n t g := e.tup s h
theorem Nz.sl (e : Nz tb p d H H') (s : StoAt C H p d y t0 hs tk) {b : Addr} {u : Sl} (h : SlAt H b u) : SlAt H' b u := e.tup s h
theorem Nz.prs (e : Nz tb p d H H') (s : StoAt C H p d y t0 hs tk) {as : List Addr} {ps : List Sl} (h : PrsAt H as ps) : PrsAt H' as ps := h.ext fun _ _ q => e.tup s q
end
end K15
set_option autoImplicit false
set_option linter.all false
set_option Elab.async false
set_option maxRecDepth 100000
set_option maxHeartbeats 4000000
/-! The store: it is made. -/
namespace K15
open PySem PySem.Spec PyProof.Rows L2 LamX NdefX
abbrev sSInit : Stmt := inClass (top 26) 0
abbrev sSSlide : Stmt := inClass (top 26) 1
abbrev sSRead : Stmt := inClass (top 26) 2
abbrev sSWrite : Stmt := inClass (top 26) 3
abbrev sSBring : Stmt := inClass (top 26) 4
abbrev sSTick : Stmt := inClass (top 26) 5
abbrev sSStand : Stmt := inClass (top 26) 6
abbrev sSHeld : Stmt := inClass (top 26) 7
abbrev sSWays : Stmt := inClass (top 26) 8
structure SC (K : PySem.W.Frag) (mg : Str → Option Value) (C : Addr) : Prop where
  cl : Cls K C
  nY : NoAttr K C "yard"
  nN : NoAttr K C "now"
  nB : NoAttr K C "numbers"
  nT : NoAttr K C "ticks"
theorem valV_none {β : Type} [DecidableEq β] {kvs : List (β × V)} {k : β} (h : ¬ k ∈ kvs.map (·.1)) : valV kvs k = none := by
  cases e : valV kvs k with
  | none => rfl
  | some v =>
    have : (kvs.any fun kv => decide (kv.1 = k)) = true := by rw [valV_any, e]; rfl
    obtain ⟨kv, h1, h2⟩ := List.any_eq_true.mp this
    exact absurd (List.mem_map.mpr ⟨kv, h1, of_decide_eq_true h2⟩) h
def zrs (bs : List Nat) : List (Key × V) := bs.map fun b => (kN b, V.int 0)
theorem zrs_keys (bs : List Nat) : (zrs bs).map (·.1) = bs.map kN := by unfold zrs; rw [List.map_map]; rfl
theorem zrs_put {bs : List Nat} {b : Nat} (h : ¬ b ∈ bs) : putK (zrs bs) (kN b) (.int 0) = zrs (bs ++ [b]) := by
  rw [putK_new _ (valV_none (by
    rw [zrs_keys]
    intro z
    obtain ⟨c, hc, e⟩ := List.mem_map.mp z
    exact h (kN_inj e ▸ hc)))]
  unfold zrs
  rw [List.map_append]; rfl
theorem valV_zrs : ∀ {bs : List Nat} {b : Nat}, b ∈ bs → valV (zrs bs) (kN b) = some (.int 0)
  | c :: bs, b, h => by
    by_cases q : c = b
    · subst q; exact valV_pos rfl
    · show valV ((kN c, V.int 0) :: zrs bs) (kN b) = _
      rw [valV_neg (fun z => q (kN_inj z))]
      exact valV_zrs ((List.mem_cons.mp h).resolve_left fun z => q z.symm)
/-- the books: all of them, below the number of them -/
theorem books_perm {st : Sd} (S : StOk st) : (booksOf st).Perm (List.range (booksOf st).length) := by
  refine (List.perm_ext_iff_of_nodup S.nd List.nodup_range).mpr fun b => ⟨fun h => List.mem_range.mpr (S.lt b h), fun h => ?_⟩
  by_cases q : b ∈ booksOf st
  · exact q
  · have h1 := nodup_sub (l := b :: booksOf st) (m := List.range (booksOf st).length) (List.nodup_cons.mpr ⟨q, S.nd⟩) fun x hx => by
      rcases List.mem_cons.mp hx with e | e
      · rw [e]; exact h
      · exact List.mem_range.mpr (S.lt x e)
    rw [List.length_cons, List.length_range] at h1
    omega
theorem num_zrs {st : Sd} (S : StOk st) : NumOk (zrs (booksOf st)) (List.replicate (booksOf st).length 0) := by
  refine ⟨?_, fun b x h => ?_⟩
  · rw [zrs_keys, List.length_replicate]
    exact (books_perm S).map _
  · have hb : b < (booksOf st).length := by
      have := (List.getElem?_eq_some_iff.mp h).1
      simpa using this
    have hx : x = 0 := by
      rw [List.getElem?_replicate, if_pos hb] at h
      exact (Option.some.inj h).symm
    rw [hx]
    exact valV_zrs ((books_perm S).mem_iff.mpr (List.mem_range.mpr hb))
def spInit (C : Addr) (tb : Tb) : Sp := fun vs H Q _ => ∃ (p y t a dx : Addr) (n g : Nat) (ties : List Sl) (st : Sd), vs = [.ref p, .ref y, .ref a] ∧ H p = some (.ins C dx []) ∧ YardOk H y t n g ties ∧ StAt H a st ∧ st.length = n ∧ n ≤ 60 ∧ StOk st ∧ TOk tb H ∧
  ∀ (H' : Hp) (d : Addr), H d = none → Nz tb p d H H' → StoAt C H' p d y st (List.replicate (booksOf st).length 0) 0 → Q .non H'
section
variable {P : Program} {w : World} {K : PySem.W.Frag} {mg : Str → Option Value} {base : Heap}
theorem scSInit : FnScope ["self", "yard", "standing", "book"] ["self", "yard", "standing"] (defScope sSInit) := ⟨rfl, rfl, rfl, by decide +kernel, rfl, by decide +kernel, by decide +kernel⟩
theorem ok_sinit {tb : Tb} {f C fY fS : Addr} {fd fdY fdS : FuncData} (F : Fun K "__init__" "Store.__init__" sSInit f fd) (SCC : SC K mg C) (Y : Dn P w K mg base CX0 3 "need_yard" ["value"] (spYard tb) fY fdY) (S : Dn P w K mg base CX0 2 "need_standing" ["yard", "value"] (spStand tb) fS fdS) :
    FnOk P w K mg base CX0 4 f fd ["self", "yard", "standing"] (spInit C tb) := by
  refine F.ok scSInit (fun vs H Q E h => ?_) (fun cdv A outer s H vs Q E hr h => ?_)
  · obtain ⟨p, y, t, a, dx, n, g, ties, st, rfl, _⟩ := h
    rfl
  · obtain ⟨p, y, t, a, dx, n, g, ties, st, rfl, hp, hY, ha, hl, h60, hS, tok, k⟩ := h
    have hr2 : Room 2 _ := hr.mono (by decide)
    refine ⟨_, pss_cons (ps_expr (pe_call Y.ok hr rfl Y.mgf Y.kp Y.b .nil pass0 (pa_cons (pv 1) pa_nil))) (pss_cons (ps_expr (pe_call S.ok hr2 rfl S.mgf S.kp S.b .nil pass0 (pa_cons (pv 1) (pa_cons (pv 2) pa_nil))))
      (pss_cons (ps_fld (pv 0) (pv 1) rfl) (pss_cons (ps_fld (pv 0) (pv 2) rfl)
      (pss_cons (ps_fld (pv 0) (pe_dc (own := [("book", 3)]) (g := gName 3) rfl scSInit.nd (pi_tup (pv 2)) (blkOk_by (N := ["self", "yard", "standing", "book"]) (sc := defScope sSInit) (by decide +kernel))
        (fun _ _ _ _ _ => pg_name (i := 3) scSInit.nd rfl (Or.inl rfl)) (fun _ _ _ _ _ => pts_one (pt_cmpR op_notN (pv 3) pe_non (nomark _))) (fun _ _ _ _ _ => pv 3) (fun _ _ _ _ _ => pe_int)) rfl)
      (pss_one (ps_fld (pv 0) pe_int rfl)))))), ?_⟩
    refine ⟨_, rfl, y, t, n, g, ties, rfl, hY, tok, fun H1 n1 => ?_⟩
    refine ⟨_, rfl, _, rfl, y, t, a, n, g, st, rfl, n1.yd hY.y, n1.st ha, hl, h60, hS, n1.tk, fun H2 n2 => ?_⟩
    have n12 := n1.trans n2
    have hp2 : H2 p = some (.ins C dx []) := n12.kp _ _ hp ins_tbl
    have ha2 : StAt H2 a st := n12.st ha
    refine ⟨_, rfl, _, rfl, p, C, dx, [], rfl, hp2, SCC.cl, SCC.nY, (by show 0 < 1000; decide), _, rfl, _, rfl, p, C, dx, _, rfl, upd_same, SCC.cl, SCC.nN, (by show 1 < 1000; decide), _, rfl, ?_⟩
    have hap : a ≠ p := by
      rintro rfl
      rcases ha2 with h | ⟨o, h⟩ <;> rw [hp2] at h <;> cases h
    have ha3 : ∀ {o o' : HO}, StAt (upd (upd H2 p o) p o') a st := TupH.to ha2 (by rw [upd_ne hap, upd_ne hap])
    refine ⟨a, rfl, ⟨_, ha3.sq⟩, fun D hD => ?_⟩
    have hDp : D ≠ p := fun z => by rw [z, upd_same] at hD; cases hD
    have hD2 : H2 D = none := by rw [upd_ne hDp, upd_ne hDp] at hD; exact hD
    have n3 : Nz tb p D H (upd (upd H2 p (.ins C dx (putF "yard" (.ref y) []))) p (.ins C dx (putF "now" (.ref a) (putF "yard" (.ref y) [])))) := (n12.nz.put (.inl rfl) hp2 ins_tbl ins_code).put (.inl rfl) upd_same ins_tbl ins_code
    have hp3 : upd (upd H2 p (.ins C dx (putF "yard" (.ref y) []))) p (.ins C dx (putF "now" (.ref a) (putF "yard" (.ref y) []))) p = some (.ins C dx [("yard", V.ref y), ("now", V.ref a)]) := by
      rw [upd_same, sf_mk1, sf_mk2]
    have sa3 : StAt (upd (upd H2 p (.ins C dx (putF "yard" (.ref y) []))) p (.ins C dx (putF "now" (.ref a) (putF "yard" (.ref y) [])))) a st := ha3
    have haD : a ≠ D := by
      rintro rfl
      rcases ha2 with h | ⟨o, h⟩ <;> rw [hD2] at h <;> cases h
    refine dc_tup (K := K) (a := a) (xs := st.map ov) (fun i H => (∀ b, b ≠ D → H b = upd (upd H2 p (.ins C dx (putF "yard" (.ref y) []))) p (.ins C dx (putF "now" (.ref a) (putF "yard" (.ref y) []))) b) ∧ H D = some (.dK (zrs (booksOf (st.take i)))))
      ⟨fun b hb => upd_ne hb, upd_same⟩ (fun i H _ ⟨q, _⟩ => (sa3.to (q a haD)).sq) ?_ ?_
    · rintro i x H4 hi ⟨q1, q2⟩
      rw [List.getElem?_map] at hi
      obtain ⟨b, hb, rfl⟩ : ∃ b, st[i]? = some b ∧ x = ov b := by
        cases e : st[i]? with
        | none => rw [e] at hi; cases hi
        | some b => rw [e] at hi; exact ⟨b, rfl, (Option.some.inj hi).symm⟩
      refine ⟨rfl, _, rfl, rfl, _, rfl, ?_⟩
      rw [ov_none]
      have hbk : booksOf (st.take (i + 1)) = booksOf (st.take i) ++ booksOf [b] := by
        rw [take_succ hb]; unfold booksOf; rw [List.filterMap_append]
      cases b with
      | none =>
        refine iteF ⟨q1, ?_⟩
        rw [hbk, q2]
        show _ = some (HO.dK (zrs (booksOf (st.take i) ++ [])))
        rw [List.append_nil]
      | some b =>
        refine iteT ⟨_, rfl, zrs (booksOf (st.take i)), kN b, rfl, q2, ?_, fun c hc => ?_, ?_⟩
        · have h1 : (booksOf (st.take i)).length ≤ 60 := by
            refine Nat.le_trans (List.length_filterMap_le _ _) ?_
            rw [List.length_take]; omega
          show (zrs (booksOf (st.take i))).length < _
          unfold zrs
          rw [List.length_map, sizeLine_eq]; omega
        · rw [upd_ne hc]; exact q1 c hc
        · rw [upd_same, hbk]
          have hnot : ¬ b ∈ booksOf (st.take i) := by
            have h1 := hS.nd
            rw [← List.take_append_drop (i + 1) st] at h1
            unfold booksOf at h1 hbk ⊢
            rw [List.filterMap_append, hbk] at h1
            have h2 := (List.nodup_append.mp h1).1
            intro hm
            exact (List.nodup_append.mp h2).2.2 b hm b (by simp) rfl
          rw [zrs_put hnot]
          rfl
    · rintro H4 ⟨q1, q2⟩
      rw [List.length_map, List.take_length] at q2
      have s4 : Same (upd (upd H2 p (.ins C dx (putF "yard" (.ref y) []))) p (.ins C dx (putF "now" (.ref a) (putF "yard" (.ref y) [])))) H4 := fun b o e => by
        rw [q1 b (fun z => by rw [z, hD] at e; cases e)]; exact e
      have n4 := n3.same s4
      have hp4 := s4 _ _ hp3
      have ha4 := sa3.same s4
      refine ⟨_, rfl, p, C, dx, _, rfl, hp4, SCC.cl, SCC.nB, (by show 2 < 1000; decide), _, rfl, p, C, dx, _, rfl, upd_same, SCC.cl, SCC.nT, (by rw [sf_mk3]; show 3 < 1000; decide), ?_⟩
      have e5 : upd (upd H4 p (.ins C dx (putF "numbers" (.ref D) [("yard", V.ref y), ("now", V.ref a)]))) p (.ins C dx (putF "ticks" (.int 0) (putF "numbers" (.ref D) [("yard", V.ref y), ("now", V.ref a)]))) p = some (.ins C dx (sf y a D 0)) := by
        rw [upd_same, sf_mk3, sf_mk4]
      refine k _ D (n12.dn _ hD2) ((n4.put (.inl rfl) hp4 ins_tbl ins_code).put (.inl rfl) upd_same ins_tbl ins_code) ⟨dx, a, _, e5, ?_, num_zrs hS, TupH.to ha4 (by rw [upd_ne hap, upd_ne hap])⟩
      rw [upd_ne hDp, upd_ne hDp]
      exact q2
end
end K15
set_option autoImplicit false
set_option linter.all false
set_option Elab.async false
set_option maxRecDepth 100000
set_option maxHeartbeats 4000000
/-! The store: slide, read, write. -/
namespace K15
open PySem PySem.Spec PyProof.Rows L2 LamX NdefX
def spSSlide (C CS : Addr) (tb : Tb) : Sp := fun vs H Q E => ∃ (p d y t : Addr) (n g : Nat) (ties : List Sl) (st : Sd) (hs : List Int) (tk : Int) (s : Sl), vs = [.ref p, iv s.1, iv s.2] ∧ StoAt C H p d y st hs tk ∧ YdAt H y n t g ∧ WdAt H t ties ∧ st.length = n ∧ n ≤ 60 ∧ TOk tb H ∧
  (∀ H' : Hp, Nz tb p d H H' → s.1 < n ∧ s.2 < n ∧ canB ties st s = true → StoAt C H' p d y (slid st s) hs (tk + 1) → Q .non H') ∧
  (∀ H' : Hp, Nz tb p d H H' → ¬ (s.1 < n ∧ s.2 < n ∧ canB ties st s = true) → StoAt C H' p d y st hs tk → E (.ref CS) none H')
/-- what stands at the gate -/
def heldAt (st : Sd) (hs : List Int) (g : Nat) : V := match st.getD g none with
  | none => .non
  | some b => .int (hs.getD b 0)
def spSRead (C : Addr) (tb : Tb) : Sp := fun vs H Q _ => ∃ (p d y t : Addr) (n g : Nat) (st : Sd) (hs : List Int) (tk : Int), vs = [.ref p] ∧ StoAt C H p d y st hs tk ∧ YdAt H y n t g ∧ st.length = n ∧ g < n ∧ (∀ b, some b ∈ st → b < hs.length) ∧ TOk tb H ∧
  ∀ H' : Hp, Nz tb p d H H' → StoAt C H' p d y st hs (tk + 1) → Q (heldAt st hs g) H'
def wrote (st : Sd) (hs : List Int) (g : Nat) (v : Int) : List Int := match st.getD g none with
  | none => hs
  | some b => hs.set b v
def spSWrite (C CN : Addr) (tb : Tb) : Sp := fun vs H Q E => ∃ (p d y t : Addr) (n g : Nat) (st : Sd) (hs : List Int) (tk : Int) (x : V), vs = [.ref p, x] ∧ isFlat3 x = true ∧ StoAt C H p d y st hs tk ∧ YdAt H y n t g ∧ st.length = n ∧ g < n ∧ (∀ b, some b ∈ st → b < hs.length) ∧ hs.length ≤ 100 ∧ TOk tb H ∧
  (numb x (-1000000) 1000000 = false → E (.ref CN) none H) ∧
  (∀ v, x = .int v → numb x (-1000000) 1000000 = true → ∀ H' : Hp, Nz tb p d H H' → StoAt C H' p d y st (wrote st hs g v) (tk + 1) → Q (.bl (!isHole st g)) H')
theorem StoAt.tup3 {C : Addr} {H : Hp} {p d y : Addr} {st : Sd} {hs : List Int} {tk : Int} (h : StoAt C H p d y st hs tk) : ∃ (dx a : Addr) (kvs : List (Key × V)), H p = some (.ins C dx (sf y a d tk)) ∧ H d = some (.dK kvs) ∧ NumOk kvs hs ∧ StAt H a st ∧ (p ≠ d) ∧ (a ≠ p) ∧ (a ≠ d) := by
  obtain ⟨dx, a, kvs, h1, h2, h3, h4⟩ := id h
  have hn := h.tupNe h4
  exact ⟨dx, a, kvs, h1, h2, h3, h4, (fun z => by rw [z, h2] at h1; cases h1), hn.1, hn.2⟩
section
variable {P : Program} {w : World} {K : PySem.W.Frag} {mg : Str → Option Value} {base : Heap}
theorem scSSlide : FnScope ["self", "one", "other"] ["self", "one", "other"] (defScope sSSlide) := ⟨rfl, rfl, rfl, by decide +kernel, rfl, by decide +kernel, by decide +kernel⟩
theorem ok_sslide {tb : Tb} {f C CS fI fC fD : Addr} {fd fdI fdC fdD : FuncData} (F : Fun K "slide" "Store.slide" sSSlide f fd) (SCC : SC K mg C) (X1 : ExC K mg "BadSlide" CS) (I : Dn P w K mg base CX0 2 "is_slide" ["yard", "value"] (spIsSlide tb) fI fdI)
    (Cn : Dn P w K mg base CX0 1 "can_slide" ["yard", "standing", "slide"] spCan fC fdC) (D : Dn P w K mg base CX0 1 "slid" ["standing", "slide"] spSlid fD fdD) :
    FnOk P w K mg base (L2.CX P w) 3 f fd ["self", "one", "other"] (spSSlide C CS tb) := by
  refine F.okX scSSlide (fun vs H Q E h => ?_) (fun cdv A outer s H vs Q E hr h => ?_)
  · obtain ⟨p, d, y, t, n, g, ties, st, hs, tk, sl, rfl, _⟩ := h
    rfl
  · obtain ⟨p, d, y, t, n, g, ties, st, hs, tk, sl, rfl, S, hy, ht, hl, h60, tok, k1, k2⟩ := h
    have hr1 : Room 1 _ := hr.mono (by decide)
    refine ⟨_, pss_cons (ps_if (PW.pt (pw_or (pt_not (pt_val (pe_call I.ok hr rfl I.mgf I.kp I.b .nil pass0 (pa_cons (pe_fld (pv 0) rfl) (pa_cons (pe_tup (pa_cons (pv 1) (pa_cons (pv 2) pa_nil))) pa_nil)))))
        (pw_or1 (pt_not (pt_val (pe_call Cn.ok hr1 rfl Cn.mgf Cn.kp Cn.b .nil pass0 (pa_cons (pe_fld (pv 0) rfl) (pa_cons (pe_fld (pv 0) rfl) (pa_cons (pe_tup (pa_cons (pv 1) (pa_cons (pv 2) pa_nil))) pa_nil)))))))))
        (pss_one (ps_raise rfl (takes_of rfl rfl rfl rfl) (pmk_own0 PySem.F.excBase_ValueError X1.x X1.g X1.k (raises_own X1.b X1.t) rfl))) pss_nil)
      (pss_cons (ps_fld (pv 0) (pe_call D.ok hr1 rfl D.mgf D.kp D.b .nil pass0 (pa_cons (pe_fld (pv 0) rfl) (pa_cons (pe_tup (pa_cons (pv 1) (pa_cons (pv 2) pa_nil))) pa_nil))) rfl)
      (pss_one (ps_fldaug (pv 0) pe_int in_add))), ?_⟩
    obtain ⟨dx, a, kvs, hp, hd, hN, ha, hpd, hap, had⟩ := S.tup3
    refine ⟨_, rfl, p, C, dx, _, _, rfl, hp, SCC.cl, SCC.nY, sf_y _ _ _ _, _, rfl, _, rfl, by show 2 ≤ sizeLine; decide, fun T hT => ?_⟩
    have s1 : Same H (upd H T (.tup [iv sl.1, iv sl.2])) := same_new _ hT
    have tok1 := tok.same s1
    refine ⟨y, t, T, n, g, sl, rfl, s1 _ _ hy, upd_same, tok1, fun H1 n1 => ?_⟩
    have n01 : Nx tb H H1 := (Nx.of tok s1).trans n1
    have S1 := S.nx n01
    by_cases hc1 : sl.1 < n ∧ sl.2 < n
    · rw [decide_eq_true hc1]
      refine ⟨_, rfl, iteF ?_⟩
      have hp1 := n01.kp _ _ hp ins_tbl
      refine ⟨_, rfl, p, C, dx, _, _, rfl, hp1, SCC.cl, SCC.nY, sf_y _ _ _ _, _, rfl, p, C, dx, _, _, rfl, hp1, SCC.cl, SCC.nN, sf_n _ _ _ _, _, rfl, _, rfl, by show 2 ≤ sizeLine; decide, fun T2 hT2 => ?_⟩
      have s2 : Same H1 (upd H1 T2 (.tup [iv sl.1, iv sl.2])) := same_new _ hT2
      have n02 := n01.same s2
      refine ⟨y, t, a, T2, n, g, ties, st, sl, rfl, n02.yd hy, n02.wd ht, n02.st ha, upd_same, by rw [hl]; exact hc1.1, by rw [hl]; exact hc1.2, fun H3 s3 => ?_⟩
      have n03 := n02.same s3
      refine ⟨_, rfl, ?_⟩
      cases hc2 : canB ties st sl with
      | false =>
        refine iteT ?_
        exact k2 _ n03.nz (fun z => by rw [hc2] at z; exact Bool.false_ne_true z.2.2) (S.nx n03)
      | true =>
        refine iteF ?_
        have hp3 := n03.kp _ _ hp ins_tbl
        refine ⟨_, rfl, p, C, dx, _, _, rfl, hp3, SCC.cl, SCC.nN, sf_n _ _ _ _, _, rfl, _, rfl, by show 2 ≤ sizeLine; decide, fun T4 hT4 => ?_⟩
        have s4 : Same H3 (upd H3 T4 (.tup [iv sl.1, iv sl.2])) := same_new _ hT4
        have n04 := n03.same s4
        refine ⟨a, T4, st, sl, rfl, n04.st ha, upd_same, by rw [hl]; exact hc1.1, by rw [hl]; exact hc1.2, by omega, fun b H5 s5 hb0 hb => ?_⟩
        have n05 := n04.same s5
        have hp5 := n05.kp _ _ hp ins_tbl
        have hd5 := n05.kp _ _ hd dk_tbl
        have hbp : b ≠ p := by
          rintro rfl
          rcases hb with h | ⟨o, h⟩ <;> rw [hp5] at h <;> cases h
        refine ⟨_, rfl, p, C, dx, _, rfl, hp5, SCC.cl, SCC.nN, (by show 4 < 1000; decide), ?_⟩
        rw [sf_now]
        refine ⟨_, rfl, p, C, dx, _, _, rfl, upd_same, SCC.cl, SCC.nT, sf_t _ _ _ _, _, _, rfl, rfl, dx, _, upd_same, (by show 4 < 1000; decide), ?_⟩
        rw [sf_tick]
        refine k1 _ ((n05.nz.put (.inl rfl) hp5 ins_tbl ins_code).put (.inl rfl) upd_same ins_tbl ins_code) ⟨hc1.1, hc1.2, hc2⟩ ⟨dx, b, kvs, upd_same, by rw [upd_ne hpd.symm, upd_ne hpd.symm]; exact hd5, hN, TupH.to hb (by rw [upd_ne hbp, upd_ne hbp])⟩
    · rw [decide_eq_false hc1]
      refine ⟨_, rfl, iteT ?_⟩
      exact k2 _ n01.nz (fun z => hc1 ⟨z.1, z.2.1⟩) S1
theorem scSRead : FnScope ["self", "book"] ["self"] (defScope sSRead) := ⟨rfl, rfl, rfl, by decide +kernel, rfl, by decide +kernel, by decide +kernel⟩
theorem ok_sread {tb : Tb} {f C : Addr} {fd : FuncData} (F : Fun K "read" "Store.read" sSRead f fd) (SCC : SC K mg C) : FnOk P w K mg base CX0 1 f fd ["self"] (spSRead C tb) := by
  refine F.ok scSRead (fun vs H Q E h => ?_) (fun cdv A outer s H vs Q E hr h => ?_)
  · obtain ⟨p, d, y, t, n, g, st, hs, tk, rfl, _⟩ := h
    rfl
  · obtain ⟨p, d, y, t, n, g, st, hs, tk, rfl, S, hy, hl, hg, hbk, tok, k⟩ := h
    have hu1 : (A.deeper (envOfC "Store.read" (defScope sSRead) s.heap.objs.size f cdv)).units + 1 < cLine := hu_of hr
    refine ⟨_, pss_cons (ps_fldaug (pv 0) pe_int in_add) (pss_cons (ps_set (i := 1) scSRead.nd rfl (Or.inl rfl) (pe_ix ix_tup (pe_fld (pv 0) rfl) (pe_ix ix_tup (pe_fld (pv 0) rfl) pe_int (fun _ _ => rfl)) (fun _ _ => rfl)))
      (pss_one (ps_ret (pe_ifExp (pt_cmpR op_isN (pv 1) pe_non (nomark _)) pe_non (pe_dget hu1 (pe_fld (pv 0) rfl) (pv 1) (fun _ _ => rfl)))))), ?_⟩
    obtain ⟨dx, a, kvs, hp, hd, hN, ha, hpd, hap, had⟩ := S.tup3
    refine ⟨_, rfl, p, C, dx, _, _, rfl, hp, SCC.cl, SCC.nT, sf_t _ _ _ _, _, _, rfl, rfl, dx, _, hp, (by show 4 < 1000; decide), ?_⟩
    rw [sf_tick]
    have nz : Nz tb p d H (upd H p (.ins C dx (sf y a d (tk + 1)))) := (Nz.refl tok).put (.inl rfl) hp ins_tbl ins_code
    have hy1 := nz.yd S hy
    have ha1 : StAt (upd H p (.ins C dx (sf y a d (tk + 1)))) a st := nz.st S ha
    have hd1 : upd H p (.ins C dx (sf y a d (tk + 1))) d = some (.dK kvs) := by rw [upd_ne hpd.symm]; exact hd
    have S1 : StoAt C (upd H p (.ins C dx (sf y a d (tk + 1)))) p d y st hs (tk + 1) := ⟨dx, a, kvs, upd_same, hd1, hN, ha1⟩
    refine ⟨_, rfl, p, C, dx, _, _, rfl, upd_same, SCC.cl, SCC.nN, sf_n _ _ _ _, _, rfl, p, C, dx, _, _, rfl, upd_same, SCC.cl, SCC.nY, sf_y _ _ _ _, y, _, _, iv g, rfl, rfl, SqT.of hy1, rfl, a, _, _, _, rfl, rfl, ha1.sq, ov_atI (by omega), ?_⟩
    refine ⟨_, rfl, rfl, _, rfl, ?_⟩
    rw [ov_none]
    have kk := k _ nz S1
    unfold heldAt at kk
    have hgl : g < st.length := by omega
    have hgm : st.getD g none ∈ st := by rw [List.getD_eq_getElem?_getD, List.getElem?_eq_getElem hgl]; exact List.getElem_mem hgl
    cases hb : st.getD g none with
    | none =>
      rw [hb] at kk
      exact iteT kk
    | some b =>
      rw [hb] at kk hgm
      refine iteF ?_
      have hbl := hbk b hgm
      have hv : valV kvs (kN b) = some (.int (hs.getD b 0)) := hN.at_ b _ (by rw [List.getD_eq_getElem?_getD, List.getElem?_eq_getElem hbl]; rfl)
      refine ⟨_, rfl, p, C, dx, _, _, rfl, upd_same, SCC.cl, SCC.nB, sf_b _ _ _ _, _, rfl, d, _, rfl, ?_, kk⟩
      have g0 := DGet.k (k := kN b) hd1
      rw [hv] at g0
      exact g0
theorem scSWrite : FnScope ["self", "value", "book"] ["self", "value"] (defScope sSWrite) := ⟨rfl, rfl, rfl, by decide +kernel, rfl, by decide +kernel, by decide +kernel⟩
theorem ok_swrite {tb : Tb} {f C CN fN : Addr} {fd fdN : FuncData} {t1 : Tok} (F : Fun K "write" "Store.write" sSWrite f fd) (SCC : SC K mg C) (X1 : ExC K mg "BadNumber" CN) (N : Dn P w K mg base CX0 1 "is_number" ["value", "low", "high"] spNum fN fdN) (c1 : mg "GREATEST" = some (.int 1000000 t1)) :
    FnOk P w K mg base (L2.CX P w) 2 f fd ["self", "value"] (spSWrite C CN tb) := by
  refine F.okX scSWrite (fun vs H Q E h => ?_) (fun cdv A outer s H vs Q E hr h => ?_)
  · obtain ⟨p, d, y, t, n, g, st, hs, tk, x, rfl, _⟩ := h
    rfl
  · obtain ⟨p, d, y, t, n, g, st, hs, tk, x, rfl, hx, S, hy, hl, hg, hbk, h100, tok, k1, k2⟩ := h
    have hu1 : (A.deeper (envOfC "Store.write" (defScope sSWrite) s.heap.objs.size f cdv)).units + 1 < cLine := hu_of hr
    refine ⟨_, pss_cons (ps_if (pt_not (pt_val (pe_call N.ok hr rfl N.mgf N.kp N.b .nil pass0 (pa_cons (pv 1) (pa_cons (pe_un un_neg (pe_glob (v := .int 1000000) rfl c1 ⟨_, rfl⟩)) (pa_cons (pe_glob (v := .int 1000000) rfl c1 ⟨_, rfl⟩) pa_nil))))))
        (pss_one (ps_raise rfl (takes_of rfl rfl rfl rfl) (pmk_own0 PySem.F.excBase_ValueError X1.x X1.g X1.k (raises_own X1.b X1.t) rfl))) pss_nil)
      (pss_cons (ps_fldaug (pv 0) pe_int in_add) (pss_cons (ps_set (i := 2) scSWrite.nd rfl (Or.inl rfl) (pe_ix ix_tup (pe_fld (pv 0) rfl) (pe_ix ix_tup (pe_fld (pv 0) rfl) pe_int (fun _ _ => rfl)) (fun _ _ => rfl)))
      (pss_cons (ps_if (pt_cmpR op_notN (pv 2) pe_non (nomark _)) (pss_one (ps_asg (pv 1) (pg_sub (pe_fld (pv 0) rfl) (pv 2) (set_dict hu1)))) pss_nil)
      (pss_one (ps_ret (pe_cmpR op_notN (pv 2) pe_non (nomark _))))))), ?_⟩
    obtain ⟨dx, a, kvs, hp, hd, hN, ha, hpd, hap, had⟩ := S.tup3
    refine ⟨_, rfl, _, rfl, x, _, _, rfl, hx, _, rfl, ?_⟩
    cases hnb : numb x (-1000000) 1000000 with
    | false => exact iteT (k1 hnb)
    | true =>
      refine iteF ?_
      obtain ⟨v, rfl⟩ : ∃ v, x = .int v := by
        cases x <;> first | exact ⟨_, rfl⟩ | (cases hnb)
      refine ⟨_, rfl, p, C, dx, _, _, rfl, hp, SCC.cl, SCC.nT, sf_t _ _ _ _, _, _, rfl, rfl, dx, _, hp, (by show 4 < 1000; decide), ?_⟩
      rw [sf_tick]
      have nz : Nz tb p d H (upd H p (.ins C dx (sf y a d (tk + 1)))) := (Nz.refl tok).put (.inl rfl) hp ins_tbl ins_code
      have hy1 := nz.yd S hy
      have ha1 : StAt (upd H p (.ins C dx (sf y a d (tk + 1)))) a st := nz.st S ha
      have hd1 : upd H p (.ins C dx (sf y a d (tk + 1))) d = some (.dK kvs) := by rw [upd_ne hpd.symm]; exact hd
      have S1 : StoAt C (upd H p (.ins C dx (sf y a d (tk + 1)))) p d y st hs (tk + 1) := ⟨dx, a, kvs, upd_same, hd1, hN, ha1⟩
      refine ⟨_, rfl, p, C, dx, _, _, rfl, upd_same, SCC.cl, SCC.nN, sf_n _ _ _ _, _, rfl, p, C, dx, _, _, rfl, upd_same, SCC.cl, SCC.nY, sf_y _ _ _ _, y, _, _, iv g, rfl, rfl, SqT.of hy1, rfl, a, _, _, _, rfl, rfl, ha1.sq, ov_atI (by omega), ?_⟩
      refine ⟨_, rfl, rfl, _, rfl, ?_⟩
      rw [ov_none]
      have kk := k2 v rfl hnb
      unfold wrote isHole at kk
      have hgl : g < st.length := by omega
      have hgm : st.getD g none ∈ st := by rw [List.getD_eq_getElem?_getD, List.getElem?_eq_getElem hgl]; exact List.getElem_mem hgl
      cases hb : st.getD g none with
      | none =>
        rw [hb] at kk
        refine iteF ?_
        refine ⟨_, rfl, rfl, ?_⟩
        rw [ov_none]
        exact kk _ nz S1
      | some b =>
        rw [hb] at kk hgm
        have hbl := hbk b hgm
        refine iteT ?_
        refine ⟨_, rfl, _, rfl, p, C, dx, _, _, rfl, upd_same, SCC.cl, SCC.nB, sf_b _ _ _ _, _, rfl, d, _, rfl, DPut.k (k := kN b) hd1 (by rw [hN.len, sizeLine_eq]; omega), ?_⟩
        refine ⟨_, rfl, rfl, ?_⟩
        rw [ov_none]
        refine kk _ (nz.put (.inr rfl) hd1 dk_tbl dk_code) ⟨dx, a, _, by rw [upd_ne hpd, upd_same], upd_same, hN.put hbl v, TupH.to ha1 (upd_ne had)⟩
end
end K15
set_option autoImplicit false
set_option linter.all false
set_option Elab.async false
set_option maxRecDepth 100000
set_option maxHeartbeats 4000000
/-! The store: bring. -/
namespace K15
open PySem PySem.Spec PyProof.Rows L2 LamX NdefX
/-- the least way that brings b to the place g -/
def WayOk (ties : List Sl) (st : Sd) (g b : Nat) (w : Wd) : Prop := (∃ t, Best ties st t w ∧ t.getD g none = some b) ∧ ∀ t' w', Best ties st t' w' → t'.getD g none = some b → code w ≤ code w'
theorem WayOk.uniq {n : Nat} {ties : List Sl} {st : Sd} {g b : Nat} {w w' : Wd} (Y : YOk n ties st) (h : WayOk ties st g b w) (h' : WayOk ties st g b w') : w = w' := by
  obtain ⟨⟨t, b1, e1⟩, m1⟩ := h
  obtain ⟨⟨t', b2, e2⟩, m2⟩ := h'
  exact code_inj' (b1.1.ok Y) (b2.1.ok Y) (Nat.le_antisymm (m1 _ _ b2 e2) (m2 _ _ b1 e1))
/-! lists of (length, word) pairs -/
def PwAt (H : Hp) (as : List Addr) (ws : List Wd) : Prop := as.length = ws.length ∧ ∀ (i : Nat) (a : Addr) (w : Wd), as[i]? = some a → ws[i]? = some w → ∃ v, H a = some (.tup [iv w.length, .ref v]) ∧ WdAt H v w
theorem PwAt.ext {H H' : Hp} {as : List Addr} {ws : List Wd} (h : PwAt H as ws) (e : ∀ b xs, H b = some (.tup xs) → H' b = some (.tup xs)) : PwAt H' as ws :=
  ⟨h.1, fun i a w h1 h2 => let ⟨v, h3, h4⟩ := h.2 i a w h1 h2; ⟨v, e _ _ h3, h4.ext e⟩⟩
theorem PwAt.same {H H' : Hp} {as : List Addr} {ws : List Wd} (h : PwAt H as ws) (s : Same H H') : PwAt H' as ws := h.ext fun _ _ q => s _ _ q
theorem PwAt.nil {H : Hp} : PwAt H [] [] := ⟨rfl, fun i a w h _ => by cases h⟩
theorem PwAt.snoc {H : Hp} {as : List Addr} {ws : List Wd} (h : PwAt H as ws) {a v : Addr} {w : Wd} (h1 : H a = some (.tup [iv w.length, .ref v])) (h2 : WdAt H v w) : PwAt H (as ++ [a]) (ws ++ [w]) := by
  refine ⟨by rw [List.length_append, List.length_append, h.1]; rfl, fun i b u e1 e2 => ?_⟩
  by_cases q : i < as.length
  · rw [List.getElem?_append_left q] at e1
    rw [List.getElem?_append_left (by rw [← h.1]; exact q)] at e2
    exact h.2 i b u e1 e2
  · rw [List.getElem?_append_right (by omega)] at e1
    rw [List.getElem?_append_right (by rw [← h.1]; omega), ← h.1] at e2
    generalize i - as.length = j at e1 e2
    match j, e1, e2 with
    | 0, e1, e2 =>
      obtain rfl : a = b := Option.some.inj e1
      obtain rfl : w = u := Option.some.inj e2
      exact ⟨v, h1, h2⟩
    | j + 1, e1, e2 => cases e1
theorem PwAt.dp {K : PySem.W.Frag} {H : Hp} : ∀ {as : List Addr} {ws : List Wd}, PwAt H as ws → DpAll K H (as.map V.ref) (ws.map prD)
  | [], [], _ => .nil
  | [], _ :: _, h => by cases h.1
  | _ :: _, [], h => by cases h.1
  | a :: as, w :: ws, h => by
    obtain ⟨v, h1, h2⟩ := h.2 0 a w rfl rfl
    exact .cons (.tup (SqT.of h1) (.cons (.int _) (.cons (wd_dp h2) .nil))) (PwAt.dp ⟨by simpa using h.1, fun i b u e1 e2 => h.2 (i + 1) b u e1 e2⟩)
theorem minOk_prs {ws : List Wd} (h : ∀ w ∈ ws, WdOk w) : MinOk (ws.map prD) (fun i => code (ws.getD i [])) := by
  have cs : ∀ {i : Nat} {d : PyData}, (ws.map prD)[i]? = some d → ∃ w, ws[i]? = some w ∧ d = prD w ∧ w ∈ ws ∧ ws.getD i [] = w := fun {i d} e => by
    rw [List.getElem?_map] at e
    cases q : ws[i]? with
    | none => rw [q] at e; cases e
    | some w =>
      rw [q] at e
      exact ⟨w, rfl, (Option.some.inj e).symm, List.mem_of_getElem? q, by rw [List.getD_eq_getElem?_getD, q]; rfl⟩
  refine ⟨fun i j d e h1 h2 => ?_, fun i d h1 => ?_, fun i j d e h1 h2 => ?_, fun i d h1 => ?_⟩
  · obtain ⟨u, _, rfl, _⟩ := cs h1
    obtain ⟨v, _, rfl, _⟩ := cs h2
    exact pr_alike _ _
  · obtain ⟨u, _, rfl, _⟩ := cs h1
    exact fun z => by unfold prD at z; cases z
  · obtain ⟨u, _, rfl, m1, g1⟩ := cs h1
    obtain ⟨v, _, rfl, m2, g2⟩ := cs h2
    rw [pr_lt (h u m1) (h v m2), g1, g2]
  · obtain ⟨u, _, rfl, _⟩ := cs h1
    exact Nat.le_trans (prD_depth _) (by decide)
theorem FdR.get {H : Hp} : ∀ {ks : List Ent} {L : Fd}, FdR H ks L → ∀ {i : Nat} {e : Ent}, ks[i]? = some e → ∃ w, L[i]? = some (e.1, w) ∧ WdAt H e.2.2 w
  | _, _, .nil, i, e, h => by cases h
  | _, _, .cons hw r, 0, e, h => by
    obtain rfl := Option.some.inj h
    exact ⟨_, rfl, hw⟩
  | _, _, .cons hw r, i + 1, e, h => r.get (i := i) h
/-- the ways in a table -/
def waysOf (g b : Nat) (L : Fd) : List Wd := (L.filter (fun e => e.1.getD g none == some b)).map (·.2)
theorem mem_waysOf {g b : Nat} {L : Fd} {w : Wd} : w ∈ waysOf g b L ↔ ∃ t, (t, w) ∈ L ∧ t.getD g none = some b := by
  unfold waysOf
  rw [List.mem_map]
  constructor
  · rintro ⟨e, he, rfl⟩
    obtain ⟨h1, h2⟩ := List.mem_filter.mp he
    exact ⟨e.1, h1, by simpa using h2⟩
  · rintro ⟨t, h1, h2⟩
    exact ⟨(t, w), List.mem_filter.mpr ⟨h1, by simpa using h2⟩, rfl⟩
theorem canB_of {n : Nat} {ties : List Sl} {st : Sd} {s : Sl} (Y : YOk n ties st) (h : s ∈ slidesOf ties st) : s.1 < n ∧ s.2 < n ∧ canB ties st s = true := by
  obtain ⟨h1, h2, h3, h4⟩ := mem_slidesOf.mp h
  rw [Y.len] at h1
  refine ⟨h1, near_lt Y.ties h3, ?_⟩
  have ha : asc s ∈ ties := by
    unfold asc
    rcases mem_near.mp h3 with q | q
    · have := Y.ties _ q
      rw [if_neg (by have := this.1; show ¬ s.1 ≤ s.2; omega)]
      exact q
    · have := Y.ties _ q
      rw [if_pos (by have := this.1; show s.1 ≤ s.2; omega)]
      exact q
  unfold canB
  rw [decide_eq_true ha, h2, h4]
  rfl
abbrev rLenK (K : PySem.W.Frag) : List V → Hp → VK → Prop := fun xs H Q => ∃ p ys, xs = [V.ref p] ∧ (SqL K H p ys ∨ SqT K H p ys) ∧ Q (.int ys.length) H
def spSBring (C CB CW : Addr) (tb : Tb) : Sp := fun vs H Q E => ∃ (p d y t : Addr) (n g : Nat) (ties : List Sl) (st : Sd) (hs : List Int) (tk : Int) (b : Nat), vs = [.ref p, iv b] ∧ StoAt C H p d y st hs tk ∧ YardOk H y t n g ties ∧ YOk n ties st ∧ n ≤ 5 ∧ Low 4 st ∧ TOk tb H ∧ b < n ∧
  (¬ some b ∈ st → E (.ref CB) none H) ∧
  (some b ∈ st → ∀ H' : Hp, Nz tb p d H H' → StoAt C H' p d y st hs tk → (∀ t' w', Best ties st t' w' → t'.getD g none ≠ some b) → E (.ref CW) none H') ∧
  (∀ (H' : Hp) (v : Addr) (u : Wd), Nz tb p d H H' → WdAt H' v u → WayOk ties st g b u → StoAt C H' p d y (u.foldl slid st) hs (tk + u.length) → Q (.ref v) H')
section
variable {P : Program} {w : World} {K : PySem.W.Frag} {mg : Str → Option Value} {base : Heap}
theorem scSBring : FnScope ["self", "book", "words", "way", "ways", "slide", "one"] ["self", "book"] (defScope sSBring) := ⟨rfl, rfl, rfl, by decide +kernel, rfl, by decide +kernel, by decide +kernel⟩
theorem ok_sbring {tb : Tb} {f C CS CB CW fB fW fS : Addr} {fd fdB fdW fdS : FuncData} (F : Fun K "bring" "Store.bring" sSBring f fd) (B : Bl mg) (SCC : SC K mg C) (X1 : ExC K mg "NoWay" CW) (Bk : Dn P w K mg base (L2.CX P w) 2 "need_book" ["standing", "value"] (spBook CB) fB fdB)
    (W : Dn P w K mg base CX0 3 "words_from" ["yard", "standing"] (spWords P w tb) fW fdW) (S : FnOk P w K mg base (L2.CX P w) 3 fS fdS ["self", "one", "other"] (spSSlide C CS tb)) (bS : L2.Binds K fdS ["self", "one", "other"] []) (mS : BMeth K C "slide" fS) :
    FnOk P w K mg base (L2.CX P w) 4 f fd ["self", "book"] (spSBring C CB CW tb) := by
  have FR : FnR P w K mg base (L2.CX P w) 3 fS (spSSlide C CS tb) := (S.raw bS .nil).imp fun vs H Q E h => by rw [List.append_nil]; exact h
  refine F.okX scSBring (fun vs H Q E h => ?_) (fun cdv A outer s H vs Q E hr h => ?_)
  · obtain ⟨p, d, y, t, n, g, ties, st, hs, tk, b, rfl, _⟩ := h
    rfl
  · obtain ⟨p, d, y, t, n, g, ties, st, hs, tk, b, rfl, SO, YO, Y, h5, hlow, tok, hb, k1, k2, k3⟩ := h
    have hr2 : Room 2 _ := hr.mono (by decide)
    have hu64 : (A.deeper (envOfC "Store.bring" (defScope sSBring) s.heap.objs.size f cdv)).units + 64 < cLine := by have := hr.un; omega
    refine ⟨_, pss_cons (ps_expr (pe_call Bk.ok hr2 rfl Bk.mgf Bk.kp Bk.b .nil (passes_call (takes_of rfl rfl rfl rfl) fun _ _ _ _ h => h) (pa_cons (pe_fld (pv 0) rfl) (pa_cons (pv 1) pa_nil))))
      (pss_cons (ps_set (i := 2) scSBring.nd rfl (Or.inl rfl) (pe_call W.ok hr rfl W.mgf W.kp W.b .nil pass0 (pa_cons (pe_fld (pv 0) rfl) (pa_cons (pe_fld (pv 0) rfl) pa_nil))))
      (pss_cons (ps_setLc (i := 4) (own := [("one", 6), ("way", 3)]) (g := gTup K 2 (gCons (gName 6) (gCons (gName 3) gNil))) rfl scSBring.nd rfl rfl (sw_true rfl rfl rfl (by decide +kernel)) (pi_itemsMM (pv 2)) (blkOk_by (N := ["self", "book", "words", "way", "ways", "slide", "one"]) (sc := defScope sSBring) (by decide +kernel))
          (fun _ _ _ _ _ => pg_tup rfl (pgs_cons (pg_name (i := 6) scSBring.nd rfl (Or.inl rfl)) (pgs_cons (pg_name (i := 3) scSBring.nd rfl (Or.inl rfl)) pgs_nil)))
          (fun _ _ _ _ _ => pts_one (pt_cmpR op_eq (pe_ix (r := rIxT K) ix_tup (pv 6) (pe_ix (r := rIxT K) ix_tup (show PE _ _ (tFld K (tVar 0) "yard") from pe_fld (pv 0) rfl) pe_int (fun _ _ => rfl)) (fun _ _ => rfl)) (pv 1) (nomark _)))
          (fun _ _ _ _ _ => pe_tup (pa_cons (pe_callB (r := rLenK K) call_len_seq (by rfl) B.len PySem.boot_len (pa_cons (pv 3) pa_nil)) (pa_cons (pv 3) pa_nil))))
      (pss_cons (ps_if (pt_not (pt_truth (pv 4) (by intro _; rfl))) (pss_one (ps_raise rfl (takes_of rfl rfl rfl rfl) (pmk_own0 PySem.F.excBase_ValueError X1.x X1.g X1.k (raises_own X1.b X1.t) rfl))) pss_nil)
      (pss_cons (ps_set (i := 3) scSBring.nd rfl (Or.inl rfl) (pe_ix ix_tup (pe_callB (call_min1D rfl hu64) (by rfl) B.min (by decide +kernel) (pa_cons (pv 4) pa_nil)) pe_int (fun _ _ => rfl)))
      (pss_cons (ps_for (passes_of rfl) rfl (pi_tup (pv 3)) (pg_name (i := 5) scSBring.nd rfl (Or.inl rfl))
        (pss_one (ps_expr (pe_methS (pv 0) SCC.cl mS FR hr (passes_call (takes_of rfl rfl rfl rfl) fun _ _ _ _ h => h) (pv 5)))))
      (pss_one (ps_ret (pv 3)))))))), ?_⟩
    obtain ⟨dx, a, kvs, hp, hd, hN, ha, hpd, hap, had⟩ := SO.tup3
    have hg : g < st.length := by rw [Y.len]; exact YO.g
    refine ⟨_, rfl, p, C, dx, _, _, rfl, hp, SCC.cl, SCC.nN, sf_n _ _ _ _, _, rfl, a, b, st, rfl, ha, by rw [Y.len]; omega, by rw [Y.len]; exact hb, fun hm => ?_, k1⟩
    refine ⟨_, rfl, p, C, dx, _, _, rfl, hp, SCC.cl, SCC.nY, sf_y _ _ _ _, _, rfl, p, C, dx, _, _, rfl, hp, SCC.cl, SCC.nN, sf_n _ _ _ _, y, t, a, n, g, ties, st, rfl, YO.y, YO.t, YO.len, ha, Y, h5, hlow, tok, fun dw ks L H1 n1 hdw DW FW hbest => ?_⟩
    obtain ⟨epw, hDW⟩ := DW.at_
    have hp1 := n1.kp _ _ hp ins_tbl
    have hy1 := n1.yd YO.y
    have hdwp : dw ≠ p := fun z => by rw [z, hp1] at hDW; unfold DMo at hDW; cases hDW
    refine ⟨_, rfl, dw, ks, epw, rfl, hDW, fun D hD => ?_⟩
    refine lc_it walk_itemsM (fun i H => Same H1 H ∧ ∃ as : List Addr, H D = some (.lst (as.map V.ref)) ∧ PwAt H as (waysOf g b (L.take i))) ⟨same_new _ hD, [], upd_same, .nil⟩ (fun i H _ q => q.1 _ _ hDW) ?_ ?_
    · rintro i x H2 H3 hi ⟨s2, as, hD2, hP2⟩ ⟨T, e, he, rfl, hT, rfl⟩
      have sT : Same H2 (upd H2 T (.tup [.ref e.2.1, .ref e.2.2])) := same_new _ hT
      have s3 : Same H1 _ := s2.trans sT
      have hD3 := sT _ _ hD2
      obtain ⟨we, hwe, hwd⟩ := FW.get he
      have hem := DW.key e (List.mem_of_getElem? he)
      have hLm := List.mem_of_getElem? hwe
      have hBe := (hbest _ _).mp hLm
      have hel : e.1.length = n := by rw [hBe.1.len, Y.len]
      have hkey : TupH (upd H2 T (.tup [.ref e.2.1, .ref e.2.2])) e.2.1 (e.1.map ov) := hem.ext fun o q => s3 _ _ q
      refine ⟨T, _, rfl, SqT.of upd_same, rfl, _, _, rfl, _, _, rfl, rfl, rfl, ?_⟩
      have wT : waysOf g b (L.take (i + 1)) = waysOf g b (L.take i) ++ (if e.1.getD g none == some b then [we] else []) := by
        unfold waysOf
        rw [take_succ hwe, List.filter_append, List.map_append, List.filter_cons]
        split <;> rfl
      refine ⟨_, rfl, _, rfl, p, C, dx, _, _, rfl, s3 _ _ hp1, SCC.cl, SCC.nY, sf_y _ _ _ _, y, _, _, iv g, rfl, rfl, SqT.of (s3 _ _ hy1), rfl, _, _, _, _, rfl, rfl, hkey.sq, ov_atI (by rw [hel]; exact YO.g), _, rfl, by cases e.1.getD g none <;> rfl, _, rfl, ?_⟩
      have ed : decide (ov (e.1.getD g none) = iv b) = (e.1.getD g none == some b) := by
        cases e.1.getD g none with
        | none => exact decide_eq_false (fun z => by cases z)
        | some c =>
          show decide (iv c = iv b) = (some c == some b)
          rw [dec_iv]
          rfl
      rw [ed]
      cases hc : (e.1.getD g none == some b) with
      | false =>
        rw [hc] at wT
        refine iteF ⟨s3, as, hD3, ?_⟩
        rw [wT]
        show PwAt _ _ (_ ++ [])
        rw [List.append_nil]
        exact hP2.same sT
      | true =>
        rw [hc] at wT
        obtain ⟨us, hus, hup⟩ := id hwd
        refine iteT ⟨_, rfl, _, us.map V.ref, rfl, .inr (SqT.of (s3 _ _ hus)), _, rfl, by show 2 ≤ sizeLine; decide, fun T2 hT2 => ?_⟩
        have sT2 : Same (upd H2 T (.tup [.ref e.2.1, .ref e.2.2])) (upd (upd H2 T (.tup [.ref e.2.1, .ref e.2.2])) T2 (.tup [.int (us.map V.ref).length, .ref e.2.2])) := same_new _ hT2
        have hD4 := sT2 _ _ hD3
        have hTD : T2 ≠ D := fun z => by rw [z, hD3] at hT2; cases hT2
        refine ⟨_, hD4, ?_, fun c o hc => ?_, as ++ [T2], by rw [upd_same, List.map_append]; rfl, ?_⟩
        · rw [List.length_map, hP2.1, sizeLine_eq]
          have h1 : (waysOf g b (L.take i)).length ≤ 4000 := by
            unfold waysOf
            rw [List.length_map]
            refine Nat.le_trans (List.length_filter_le _ _) ?_
            rw [List.length_take]
            have := DW.sz
            rw [FW.len] at this
            omega
          omega
        · have hcD : c ≠ D := fun z => by rw [z, hD] at hc; cases hc
          rw [upd_ne hcD]
          exact sT2 _ _ (s3 _ _ hc)
        · rw [wT, if_pos rfl]
          have hP4 : ∀ {o : HO}, PwAt (upd (upd (upd H2 T (.tup [.ref e.2.1, .ref e.2.2])) T2 (.tup [.int (us.map V.ref).length, .ref e.2.2])) D o) as (waysOf g b (L.take i)) := ((hP2.same sT).same sT2).ext fun c xs q => by
            rw [upd_ne (fun z => by rw [z, hD4] at q; cases q)]; exact q
          refine hP4.snoc (v := e.2.2) ?_ ?_
          · rw [upd_ne hTD, upd_same]
            have : (us.map V.ref).length = we.length := by rw [List.length_map]; exact hup.1
            rw [this]; rfl
          · exact (hwd.same (s3.trans sT2)).ext fun c xs q => by
              rw [upd_ne (fun z => by rw [z, hD4] at q; cases q)]; exact q
    · rintro H2 ⟨s2, as, hD2, hP2⟩
      rw [FW.len, List.take_length] at hP2
      have n2 := n1.same s2
      have S2 := SO.nx n2
      have memW : ∀ u, u ∈ waysOf g b L ↔ ∃ t', Best ties st t' u ∧ t'.getD g none = some b := fun u => by
        rw [mem_waysOf]
        exact ⟨fun ⟨t', h1, h2⟩ => ⟨t', (hbest _ _).mp h1, h2⟩, fun ⟨t', h1, h2⟩ => ⟨t', (hbest _ _).mpr h1, h2⟩⟩
      refine ⟨_, rfl, _, .inl ⟨_, .inl (.inl hD2), rfl⟩, ?_⟩
      by_cases h0 : waysOf g b L = []
      · have has : as = [] := List.length_eq_zero_iff.mp (by rw [hP2.1, h0]; rfl)
        rw [has]
        refine iteT ?_
        refine k2 hm _ n2.nz S2 fun t' w' hB hg2 => ?_
        have : w' ∈ waysOf g b L := (memW w').mpr ⟨t', hB, hg2⟩
        rw [h0] at this
        cases this
      · have hwok : ∀ u ∈ waysOf g b L, WdOk u := fun u hu => by
          obtain ⟨t', hB, _⟩ := (memW u).mp hu
          exact hB.1.ok Y
        obtain ⟨a0, as1, rfl⟩ : ∃ a0 as1, as = a0 :: as1 := by
          cases as with
          | nil => exact absurd (List.length_eq_zero_iff.mp hP2.1.symm) h0
          | cons a0 as1 => exact ⟨a0, as1, rfl⟩
        refine iteF ?_
        refine ⟨_, rfl, D, (a0 :: as1).map V.ref, (waysOf g b L).map prD, _, rfl, .inl (.inl hD2), hP2.dp, minOk_prs hwok, ?_, fun i x hx hmin => ?_⟩
        · rw [List.length_map, hP2.1]
          exact List.length_pos_iff.mpr h0
        obtain ⟨aw, haw, rfl⟩ := get_ref hx
        have hil : i < (waysOf g b L).length := by rw [← hP2.1]; exact (List.getElem?_eq_some_iff.mp haw).1
        obtain ⟨u, hu⟩ : ∃ u, (waysOf g b L)[i]? = some u := ⟨_, List.getElem?_eq_getElem hil⟩
        obtain ⟨v, hav, hvw⟩ := hP2.2 i aw u haw hu
        have hum := List.mem_of_getElem? hu
        have hWO : WayOk ties st g b u := ⟨(memW u).mp hum, fun t' w' hB hg2 => by
          have hw' : w' ∈ waysOf g b L := (memW w').mpr ⟨t', hB, hg2⟩
          obtain ⟨j, hj, ej⟩ := List.getElem_of_mem hw'
          have := hmin j (by rw [List.length_map, hP2.1]; exact hj)
          rw [List.getD_eq_getElem?_getD, hu, List.getD_eq_getElem?_getD, List.getElem?_eq_getElem hj, ej] at this
          exact this⟩
        obtain ⟨tf, hBf, hgf⟩ := hWO.1
        refine ⟨aw, _, _, .ref v, rfl, rfl, SqT.of hav, rfl, ?_⟩
        obtain ⟨us, hus, hup⟩ := id hvw
        let PV : Nat → L2.St → Hp → Prop := fun i σ H' => ∃ (v5 : Option V), σ = [some (.ref p), some (iv b), some (.ref dw), some (.ref v), some (.ref D), v5, none] ∧ Nz tb p d H H' ∧ StoAt C H' p d y ((u.take i).foldl slid st) hs (tk + i) ∧ H' v = some (.tup (us.map V.ref)) ∧ PrsAt H' us u
        refine ⟨_, rfl, v, rfl, ⟨_, SqT.of hus⟩, for_tup (K := K) (a := v) (xs := us.map V.ref) PV ⟨none, rfl, n2.nz, by rw [List.take_zero]; show StoAt C H2 p d y st hs (tk + ((0 : Nat) : Int)); rw [show tk + ((0 : Nat) : Int) = tk by omega]; exact S2, hus, hup⟩ (fun i σ H' _ ⟨_, _, _, _, q, _⟩ => SqT.of q) ?_ ?_⟩
        · rintro i x σ H3 hi ⟨v5, rfl, n3, S3, hv3, hP3⟩
          obtain ⟨sa, hsa, rfl⟩ := get_ref hi
          have hil2 : i < u.length := by rw [← hP3.1]; exact (List.getElem?_eq_some_iff.mp hsa).1
          obtain ⟨sl, hsl⟩ : ∃ sl, u[i]? = some sl := ⟨_, List.getElem?_eq_getElem hil2⟩
          have hslAt : H3 sa = some (.tup [iv sl.1, iv sl.2]) := hP3.2 i sa sl hsa hsl
          obtain ⟨h1, h2⟩ := hBf.1.at hsl
          have Y3 := Y.run h2
          have hcan := canB_of Y3 h1
          obtain ⟨dx3, a3, kvs3, hp3, _⟩ := id S3
          refine ⟨_, rfl, p, dx3, _, rfl, hp3, sf_no _ _ _ _ (by decide +kernel) (by decide +kernel) (by decide +kernel) (by decide +kernel), fun q hq => ?_⟩
          have sq : Same H3 (upd H3 q (.met fS p)) := same_new _ hq
          have nq := n3.same sq
          refine ⟨_, rfl, sa, _, rfl, SqT.of (sq _ _ hslAt), upd_same, p, d, y, t, n, g, ties, _, hs, _, sl, rfl, S3.same sq, nq.yd SO YO.y, nq.wd SO YO.t, Y3.len, by omega, nq.tk, fun H4 n4 _ S4 => ?_, fun H4 n4 hno _ => absurd hcan hno⟩
          refine ⟨_, rfl, nq.trans n4, ?_, n4.tup (S3.same sq) (sq _ _ hv3), n4.prs (S3.same sq) (hP3.same sq)⟩
          rw [foldl_snoc _ _ hsl]
          have : tk + ((i + 1 : Nat) : Int) = tk + (i : Int) + 1 := by omega
          rw [this]
          exact S4
        · rintro σ H3 ⟨v5, rfl, n3, S3, hv3, hP3⟩
          rw [List.length_map, hP3.1, List.take_length] at S3
          exact ⟨_, rfl, k3 _ v u n3 ⟨us, hv3, hP3⟩ hWO S3⟩
end
end K15
set_option autoImplicit false
set_option linter.all false
set_option Elab.async false
set_option maxRecDepth 100000
set_option maxHeartbeats 4000000
/-! The store: what it tells. -/
namespace K15
open PySem PySem.Spec PyProof.Rows L2 LamX NdefX
def spSHeld (C : Addr) : Sp := fun vs H Q _ => ∃ (p d y : Addr) (st : Sd) (hs : List Int) (tk : Int), vs = [.ref p] ∧ StoAt C H p d y st hs tk ∧ hs.length < 60 ∧ ∀ (H' : Hp) (T : Addr), Same H H' → H T = none → H' T = some (.tup (hs.map V.int)) → Q (.ref T) H'
def spSWays (C : Addr) : Sp := fun vs H Q _ => ∃ (p d y t : Addr) (n g : Nat) (ties : List Sl) (st : Sd) (hs : List Int) (tk : Int), vs = [.ref p] ∧ StoAt C H p d y st hs tk ∧ YardOk H y t n g ties ∧ YOk n ties st ∧ ∀ (H' : Hp) (T : Addr), Same H H' → H T = none → WdAt H' T (slidesOf ties st) → Q (.ref T) H'
def keyI : Key → Int
  | .inl i => i
  | .inr _ => 0
theorem NumOk.ints {kvs : List (Key × V)} {hs : List Int} (h : NumOk kvs hs) : ∃ ks : List Int, kvs.map (·.1) = ks.map Sum.inl ∧ ks.Perm ((List.range hs.length).map fun n : Nat => (n : Int)) := by
  refine ⟨(kvs.map (·.1)).map keyI, ?_, ?_⟩
  · rw [List.map_map]
    have : ∀ k ∈ kvs.map (·.1), (Sum.inl ∘ keyI) k = k := fun k hk => by
      obtain ⟨b, _, e⟩ := List.mem_map.mp (h.ks.mem_iff.mp hk)
      rw [← e]; rfl
    rw [List.map_congr_left this, List.map_id']
  · have := h.ks.map keyI
    have e : ((List.range hs.length).map kN).map keyI = (List.range hs.length).map fun n : Nat => (n : Int) := by rw [List.map_map]; rfl
    rw [e] at this
    exact this
theorem range_sorted : ∀ n : Nat, sortN (List.range n) = List.range n := fun n => (sortN_of (List.Perm.refl _) (List.pairwise_lt_range.imp (fun h => Nat.le_of_lt h))).symm
section
variable {P : Program} {w : World} {K : PySem.W.Frag} {mg : Str → Option Value} {base : Heap}
theorem scSWays : FnScope ["self"] ["self"] (defScope sSWays) := ⟨rfl, rfl, rfl, by decide +kernel, rfl, by decide +kernel, by decide +kernel⟩
theorem ok_sways {f C fS : Addr} {fd fdS : FuncData} (F : Fun K "ways" "Store.ways" sSWays f fd) (B : Bl mg) (SCC : SC K mg C) (S : Dn P w K mg base CX0 2 "slides_of" ["yard", "standing"] spSlides fS fdS) : FnOk P w K mg base CX0 3 f fd ["self"] (spSWays C) := by
  refine F.ok scSWays (fun vs H Q E h => ?_) (fun cdv A outer s H vs Q E hr h => ?_)
  · obtain ⟨p, d, y, t, n, g, ties, st, hs, tk, rfl, _⟩ := h
    rfl
  · obtain ⟨p, d, y, t, n, g, ties, st, hs, tk, rfl, SO, YO, Y, k⟩ := h
    refine ⟨_, pss_one (ps_ret (pe_callTy call_tuple_of (by rfl) B.tuple (by decide +kernel) (pa_cons (pe_call S.ok hr rfl S.mgf S.kp S.b .nil pass0 (pa_cons (pe_fld (pv 0) rfl) (pa_cons (pe_fld (pv 0) rfl) pa_nil))) pa_nil))), ?_⟩
    obtain ⟨dx, a, kvs, hp, hd, hN, ha, hpd, hap, had⟩ := SO.tup3
    refine ⟨_, rfl, p, C, dx, _, _, rfl, hp, SCC.cl, SCC.nY, sf_y _ _ _ _, _, rfl, p, C, dx, _, _, rfl, hp, SCC.cl, SCC.nN, sf_n _ _ _ _, y, t, a, n, g, ties, st, rfl, YO.y, YO.t, YO.len, ha, by rw [Y.len]; exact Y.ties, by rw [Y.len]; have := Y.n8; omega, fun l H3 s3 hl0 ⟨bs, hB3, hP3⟩ => ?_⟩
    refine ⟨l, _, rfl, .inl ⟨.inl (.inl hB3), fun T hT => ?_⟩⟩
    have s4 : Same H3 (upd H3 T (.tup (bs.map V.ref))) := same_new _ hT
    exact k _ T (s3.trans s4) (s3.free hT) ⟨bs, upd_same, hP3.same s4⟩
theorem scSHeld : FnScope ["self", "book"] ["self"] (defScope sSHeld) := ⟨rfl, rfl, rfl, by decide +kernel, rfl, by decide +kernel, by decide +kernel⟩
theorem ok_sheld {f C : Addr} {fd : FuncData} (F : Fun K "held" "Store.held" sSHeld f fd) (B : Bl mg) (SCC : SC K mg C) : FnOk P w K mg base CX0 1 f fd ["self"] (spSHeld C) := by
  refine F.ok scSHeld (fun vs H Q E h => ?_) (fun cdv A outer s H vs Q E hr h => ?_)
  · obtain ⟨p, d, y, st, hs, tk, rfl, _⟩ := h
    rfl
  · obtain ⟨p, d, y, st, hs, tk, rfl, SO, hlen, k⟩ := h
    have hu64 : (A.deeper (envOfC "Store.held" (defScope sSHeld) s.heap.objs.size f cdv)).units + 64 < cLine := by have := hr.un; omega
    refine ⟨_, pss_one (ps_ret (pe_callTy call_tuple_of (by rfl) B.tuple (by decide +kernel) (pa_cons (pe_lc (own := [("book", 1)]) (g := gName 1) rfl scSHeld.nd (pi_list (pe_callB (call_sortedDI rfl) (by rfl) B.sorted PyProof.Rows.boot_sorted (pa_cons (pe_fld (pv 0) rfl) pa_nil))) (blkOk_by (N := ["self", "book"]) (sc := defScope sSHeld) (by decide +kernel))
        (fun _ _ _ _ _ => pg_name (i := 1) scSHeld.nd rfl (Or.inl rfl)) (fun _ _ _ _ _ => pts_nil) (fun _ _ _ _ _ => pe_dget (show (A.deeper (envOfC "Store.held" (defScope sSHeld) s.heap.objs.size f cdv)).units + 1 < cLine by omega) (show PE _ _ (tFld K (tVar 0) "numbers") from pe_fld (pv 0) rfl) (pv 1) (fun _ _ => rfl))) pa_nil))), ?_⟩
    obtain ⟨dx, a, kvs, hp, hd, hN, ha, hpd, hap, had⟩ := SO.tup3
    obtain ⟨ks, hks, hkp⟩ := hN.ints
    have hkl : ks.length = hs.length := by rw [hkp.length_eq]; simp
    refine ⟨_, rfl, p, C, dx, _, _, rfl, hp, SCC.cl, SCC.nB, sf_b _ _ _ _, d, kvs, ks, rfl, .inl hd, hks, by omega, fun ys L hys hsd hL => ?_⟩
    have ey : ys.map V.int = (List.range hs.length).map iv := by rw [sortN_ints (hys.trans hkp) hsd, range_sorted]
    rw [ey]
    have s1 : Same H (upd H L (.lst ((List.range hs.length).map iv))) := same_new _ hL
    refine ⟨L, rfl, ⟨_, .inl (.inl upd_same)⟩, fun D hD => ?_⟩
    have hDL : D ≠ L := fun z => by rw [z, upd_same] at hD; cases hD
    have hD0 : H D = none := s1.free hD
    refine lc_list (K := K) (xs := (List.range hs.length).map iv) (fun i H' => Same (upd H L (.lst ((List.range hs.length).map iv))) H' ∧ H' D = some (.lst ((hs.take i).map V.int))) ⟨same_new _ hD, upd_same⟩ (fun i H' _ q => .inl (.inl (q.1 _ _ upd_same))) ?_ ?_
    · rintro i x H2 hi ⟨s2, hD2⟩
      have hil : i < hs.length := by
        have := (List.getElem?_eq_some_iff.mp hi).1
        simpa using this
      rw [List.getElem?_map, List.getElem?_range hil] at hi
      obtain rfl : iv i = x := Option.some.inj hi
      obtain ⟨v, hv⟩ : ∃ v, hs[i]? = some v := ⟨_, List.getElem?_eq_getElem hil⟩
      have hd2 := s2 _ _ (s1 _ _ hd)
      refine ⟨rfl, ?_⟩
      refine ⟨_, rfl, p, C, dx, _, _, rfl, s2 _ _ (s1 _ _ hp), SCC.cl, SCC.nB, sf_b _ _ _ _, _, rfl, d, .int v, rfl, ?_, _, hD2, ?_, ?_⟩
      · have g0 := DGet.k (k := kN i) hd2
        rw [hN.at_ i v hv] at g0
        exact g0
      · rw [List.length_map, List.length_take, sizeLine_eq]; omega
      · refine ⟨fun c o hc => ?_, ?_⟩
        · rw [upd_ne (fun z => by rw [z, hD] at hc; cases hc)]
          exact s2 _ _ hc
        · rw [upd_same, take_succ hv, List.map_append]; rfl
    · rintro H2 ⟨s2, hD2⟩
      rw [List.length_map, List.length_range, List.take_length] at hD2
      refine ⟨D, _, rfl, .inl ⟨.inl (.inl hD2), fun T hT => ?_⟩⟩
      have s3 : Same H (upd H2 T (.tup (hs.map V.int))) := (s1.trans s2).trans (same_new _ hT)
      exact k _ T s3 ((s1.trans s2).free hT) upd_same
end
end K15
set_option autoImplicit false
set_option linter.all false
set_option Elab.async false
set_option maxRecDepth 100000
set_option maxHeartbeats 4000000
/-! The law's defs: draws. -/
namespace K15
open PySem PySem.Spec PyProof.Rows L2 LamX NdefX
abbrev sTaken : Stmt := top 28
abbrev sPick : Stmt := top 29
abbrev sAlike : Stmt := top 30
abbrev sIs : Stmt := top 31
abbrev sLYard : Stmt := top 32
abbrev sLStand : Stmt := top 33
abbrev sLNear : Stmt := top 34
abbrev sLSlides : Stmt := top 35
abbrev sLSlid : Stmt := top 36
abbrev sLWords : Stmt := top 37
abbrev sLaw : Stmt := top 38
/-- the row of draws -/
def rowL (sc : Addr) (a b c : Int) : List V := [.ref sc, .int a, .int b, .int c]
def RowAt (K : PySem.W.Frag) (H : Hp) (r sc : Addr) : Prop := ∃ (a b c : Int) (ns : List Int), 0 ≤ a ∧ H r = some (.lst (rowL sc a b c)) ∧ SqL K H sc (ns.map V.int)
/-- all but the row -/
def Bt (r : Addr) (H H' : Hp) : Prop := ∀ b, b ≠ r → H' b = H b
theorem Bt.refl {r : Addr} {H : Hp} : Bt r H H := fun _ _ => rfl
theorem Bt.upd {r : Addr} {H H' : Hp} (h : Bt r H H') (o : HO) : Bt r H (L2.upd H' r o) := fun b hb => (upd_ne hb).trans (h b hb)
theorem Bt.trans {r : Addr} {H H1 H2 : Hp} (h : Bt r H H1) (g : Bt r H1 H2) : Bt r H H2 := fun b hb => (g b hb).trans (h b hb)
theorem row_ne {H : Hp} {r sc : Addr} {a b c : Int} {ns : List Int} {o : HO} (h : H r = some (.lst (rowL sc a b c))) (g : H sc = some o) (hs : o = .lst (ns.map V.int) ∨ ∃ z, o = .frz z (.lst (ns.map V.int))) : sc ≠ r := by
  rintro rfl
  rw [h] at g
  have g := Option.some.inj g
  rcases hs with e | ⟨z, e⟩
  · rw [e] at g
    have g := HO.lst.inj g
    cases ns with
    | nil => cases g
    | cons n ns => injection g with g1 g2; cases g1
  · rw [e] at g; cases g
theorem sqL_bt {K : PySem.W.Frag} {H H' : Hp} {r sc : Addr} {a b c : Int} {ns : List Int} (s : SqL K H sc (ns.map V.int)) (h : H r = some (.lst (rowL sc a b c))) (t : Bt r H H') : SqL K H' sc (ns.map V.int) := by
  rcases s with (s | ⟨z, s⟩) | s
  · exact .inl (.inl (by rw [t _ (row_ne h s (.inl rfl))]; exact s))
  · exact .inl (.inr ⟨z, by rw [t _ (row_ne h s (.inr ⟨z, rfl⟩))]; exact s⟩)
  · exact .inr s
def spTaken (K : PySem.W.Frag) : Sp := fun vs H Q _ => ∃ (r sc : Addr) (many : Nat), vs = [.ref r, iv many] ∧ RowAt K H r sc ∧ 1 ≤ many ∧ many ≤ 1000 ∧ ∀ (v : Nat) (H' : Hp), v < many → Bt r H H' → RowAt K H' r sc → Q (iv v) H'
theorem modN {x : Int} {many : Nat} (h : 1 ≤ many) : ∃ v : Nat, v < many ∧ V.int (x % (many : Int)) = iv v := by
  refine ⟨(x % (many : Int)).toNat, ?_, ?_⟩
  · have h1 := Int.emod_lt_of_pos x (show (0 : Int) < many by omega)
    have h2 := Int.emod_nonneg x (show (many : Int) ≠ 0 by omega)
    omega
  · have h2 := Int.emod_nonneg x (show (many : Int) ≠ 0 by omega)
    show V.int _ = V.int _
    rw [Int.toNat_of_nonneg h2]
section
variable {P : Program} {w : World} {K : PySem.W.Frag} {mg : Str → Option Value} {base : Heap}
theorem scTaken : FnScope ["_law_row", "_law_many", "_law_found", "_law_cell"] ["_law_row", "_law_many"] (defScope sTaken) := ⟨rfl, rfl, rfl, by decide +kernel, rfl, by decide +kernel, by decide +kernel⟩
theorem ok_taken {f : Addr} {fd : FuncData} (F : Fun K "_law_taken" "_law_taken" sTaken f fd) (B : Bl mg) : FnOk P w K mg base CX0 1 f fd ["_law_row", "_law_many"] (spTaken K) := by
  refine F.ok scTaken (fun vs H Q E h => ?_) (fun cdv A outer s H vs Q E hr h => ?_)
  · obtain ⟨r, sc, many, rfl, _⟩ := h
    rfl
  · obtain ⟨r, sc, many, rfl, ⟨a, b, c, ns, h0, hr0, hsc⟩, h1, hk1, k⟩ := h
    refine ⟨_, pss_cons (ps_if (pt_cmpR op_gt (pe_ix ix_list (pv 0) pe_int (fun _ _ => rfl)) pe_int (nomark _))
        (pss_cons (ps_set (i := 2) scTaken.nd rfl (Or.inl rfl) (pe_op op_mod (pe_callTy call_int1 (by rfl) B.int (by decide +kernel) (pa_cons (pe_ix ix_list (pv 0) pe_int (fun _ _ => rfl)) pa_nil)) (pv 1)))
          (pss_cons (ps_asg (pe_op op_fdiv (pe_ix ix_list (pv 0) pe_int (fun _ _ => rfl)) (pv 1)) (pg_sub (pv 0) pe_int set_list)) (pss_one (ps_ret (pv 2))))) pss_nil)
      (pss_cons (ps_asg (pe_op op_add (pe_ix ix_list (pv 0) pe_int (fun _ _ => rfl)) pe_int) (pg_sub (pv 0) pe_int set_list))
      (pss_cons (ps_if (pt_cmpR op_gt (pe_ix ix_list (pv 0) pe_int (fun _ _ => rfl)) (pe_callB call_len_seq (by rfl) B.len PySem.boot_len (pa_cons (pe_ix ix_list (pv 0) pe_int (fun _ _ => rfl)) pa_nil)) (nomark _))
        (pss_cons (ps_asg (pe_op op_mod (pe_callTy call_int1 (by rfl) B.int (by decide +kernel) (pa_cons (pe_op op_add (pe_op op_mul (pe_ix ix_list (pv 0) pe_int (fun _ _ => rfl)) pe_int) pe_int) pa_nil)) pe_int) (pg_sub (pv 0) pe_int set_list))
          (pss_one (ps_ret (pe_op op_mod (pe_callTy call_int1 (by rfl) B.int (by decide +kernel) (pa_cons (pe_op op_fdiv (pe_ix ix_list (pv 0) pe_int (fun _ _ => rfl)) pe_int) pa_nil)) (pv 1))))) pss_nil)
      (pss_cons (ps_set (i := 3) scTaken.nd rfl (Or.inl rfl) (pe_ix ix_list (pe_ix ix_list (pv 0) pe_int (fun _ _ => rfl)) (pe_op op_sub (pe_ix ix_list (pv 0) pe_int (fun _ _ => rfl)) pe_int) (fun _ _ => rfl)))
      (pss_cons (ps_asg (pe_op op_mod (pe_callTy call_int1 (by rfl) B.int (by decide +kernel) (pa_cons (pe_op op_add (pe_op op_add (pe_op op_mul (pe_ix ix_list (pv 0) pe_int (fun _ _ => rfl)) pe_int) (pv 3)) pe_int) pa_nil)) pe_int) (pg_sub (pv 0) pe_int set_list))
      (pss_cons (ps_if (pt_cmpR op_ge (pv 3) (pe_op op_pow pe_int pe_int) (nomark _)) (pss_one (ps_asg (pe_op op_fdiv (pv 3) (pv 1)) (pg_sub (pv 0) pe_int set_list))) pss_nil)
      (pss_one (ps_ret (pe_op op_mod (pe_callTy call_int1 (by rfl) B.int (by decide +kernel) (pa_cons (pv 3) pa_nil)) (pv 1))))))))), ?_⟩
    have hm0 : (0 : Int) < many := by omega
    refine ⟨_, rfl, r, _, _, _, rfl, rfl, .inl (.inl hr0), rfl, _, _, rfl, rfl, _, rfl, ?_⟩
    refine ite2 (fun _ => ?_) (fun _ => ?_)
    · refine ⟨_, rfl, r, _, _, _, rfl, rfl, .inl (.inl hr0), rfl, .inl ⟨_, rfl, _, rfl, _, _, rfl, rfl, hm0, ?_⟩⟩
      refine ⟨_, rfl, r, _, _, _, rfl, rfl, .inl (.inl hr0), rfl, _, rfl, _, _, rfl, rfl, ⟨hm0, by omega⟩, ?_⟩
      refine ⟨_, rfl, r, _, _, 3, rfl, rfl, hr0, rfl, ?_⟩
      obtain ⟨v, hv, ev⟩ := modN (x := c) h1
      have e1 : Bt r H (upd H r (.lst (rowL sc a b (c / many)))) := Bt.refl.upd _
      have := k v _ hv e1 ⟨a, b, c / many, ns, h0, upd_same, sqL_bt hsc hr0 e1⟩
      rw [← ev] at this
      exact ⟨_, rfl, this⟩
    · refine ⟨_, rfl, r, _, _, _, rfl, rfl, .inl (.inl hr0), rfl, _, _, rfl, rfl, _, rfl, r, _, _, 1, rfl, rfl, hr0, rfl, ?_⟩
      have t1 : Bt r H (upd H r (.lst (rowL sc (a + 1) b c))) := Bt.refl.upd _
      have hsc1 := sqL_bt hsc hr0 t1
      have hr1 : upd H r (.lst (rowL sc (a + 1) b c)) r = some (.lst (rowL sc (a + 1) b c)) := upd_same
      show tSeq _ _ _ _ (upd H r (.lst (rowL sc (a + 1) b c)))
      generalize upd H r (.lst (rowL sc (a + 1) b c)) = H1 at t1 hsc1 hr1
      refine ⟨_, rfl, r, _, _, _, rfl, rfl, .inl (.inl hr1), rfl, _, rfl, r, _, _, _, rfl, rfl, .inl (.inl hr1), rfl, sc, _, rfl, .inl hsc1, _, _, rfl, rfl, _, rfl, ?_⟩
      refine ite2 (fun _ => ?_) (fun hlen => ?_)
      · refine ⟨_, rfl, r, _, _, _, rfl, rfl, .inl (.inl hr1), rfl, _, _, rfl, rfl, Or.inr (by decide), _, _, rfl, rfl, .inl ⟨_, rfl, _, _, rfl, rfl, (show (0 : Int) < 2147483647 by decide), _, rfl, r, _, _, 2, rfl, rfl, hr1, rfl, ?_⟩⟩
        refine ⟨_, rfl, r, _, _, _, rfl, rfl, .inl (.inl upd_same), rfl, _, _, rfl, rfl, (show (0 : Int) < 7 ∧ (7 : Int) < 1073741824 by decide), .inl ⟨_, rfl, _, rfl, _, _, rfl, rfl, hm0, ?_⟩⟩
        obtain ⟨v, hv, ev⟩ := modN (x := (b * 48271 + 11) % 2147483647 / 7) h1
        have t2 : Bt r H1 (upd H1 r (.lst (rowL sc (a + 1) ((b * 48271 + 11) % 2147483647) c))) := Bt.refl.upd _
        have := k v _ hv (t1.trans t2) ⟨_, _, _, ns, by omega, upd_same, sqL_bt hsc1 hr1 t2⟩
        rw [← ev] at this
        exact this
      · have hlen : ¬ ((ns.map V.int).length : Int) < a + 1 := fun z => hlen (decide_eq_true z)
        obtain ⟨x, hx⟩ : ∃ x, ns[a.toNat]? = some x := ⟨_, List.getElem?_eq_getElem (by rw [List.length_map] at hlen; omega)⟩
        have hat : atI (ns.map V.int) (a + 1 - 1) = some (.int x) := by
          rw [show a + 1 - 1 = ((a.toNat : Nat) : Int) by omega]
          exact atI_nat (by rw [List.getElem?_map, hx]; rfl)
        refine ⟨_, rfl, r, _, _, _, rfl, rfl, .inl (.inl hr1), rfl, _, rfl, r, _, _, _, rfl, rfl, .inl (.inl hr1), rfl, _, _, rfl, rfl, sc, _, _, _, rfl, rfl, hsc1, hat, ?_⟩
        refine ⟨_, rfl, r, _, _, _, rfl, rfl, .inl (.inl hr1), rfl, _, _, rfl, rfl, Or.inr (by decide), _, rfl, _, _, rfl, rfl, _, _, rfl, rfl, .inl ⟨_, rfl, _, _, rfl, rfl, (show (0 : Int) < 2147483647 by decide), _, rfl, r, _, _, 2, rfl, rfl, hr1, rfl, ?_⟩⟩
        have t2 : Bt r H1 (upd H1 r (.lst (rowL sc (a + 1) ((b * 48271 + x + 11) % 2147483647) c))) := Bt.refl.upd _
        have hsc2 := sqL_bt hsc1 hr1 t2
        have hr2 : upd H1 r (.lst (rowL sc (a + 1) ((b * 48271 + x + 11) % 2147483647) c)) r = some (.lst (rowL sc (a + 1) ((b * 48271 + x + 11) % 2147483647) c)) := upd_same
        show tSeq _ _ _ _ (upd H1 r (.lst (rowL sc (a + 1) ((b * 48271 + x + 11) % 2147483647) c)))
        generalize upd H1 r (.lst (rowL sc (a + 1) ((b * 48271 + x + 11) % 2147483647) c)) = H2 at t2 hsc2 hr2
        have t02 := t1.trans t2
        obtain ⟨v, hv, ev⟩ := modN (x := x) h1
        refine ⟨_, rfl, _, _, rfl, rfl, (show (0 : Int) ≤ 18 ∧ (18 : Int) ≤ 1000000 ∧ (10 : Int).natAbs < 2 ^ 64 by decide), _, _, rfl, rfl, _, rfl, ?_⟩
        refine ite2 (fun _ => ?_) (fun _ => ?_)
        · refine ⟨_, rfl, _, rfl, _, _, rfl, rfl, ⟨hm0, by omega⟩, _, rfl, r, _, _, 3, rfl, rfl, hr2, rfl, ?_⟩
          have t3 : Bt r H2 (upd H2 r (.lst (rowL sc (a + 1) ((b * 48271 + x + 11) % 2147483647) (x / many)))) := Bt.refl.upd _
          refine ⟨_, rfl, .inl ⟨_, rfl, _, rfl, _, _, rfl, rfl, hm0, ?_⟩⟩
          have := k v _ hv (t02.trans t3) ⟨_, _, _, ns, by omega, upd_same, sqL_bt hsc2 hr2 t3⟩
          rw [← ev] at this
          exact this
        · refine ⟨_, rfl, .inl ⟨_, rfl, _, rfl, _, _, rfl, rfl, hm0, ?_⟩⟩
          have := k v _ hv t02 ⟨_, _, _, ns, by omega, hr2, hsc2⟩
          rw [← ev] at this
          exact this
end
end K15
set_option autoImplicit false
set_option linter.all false
set_option Elab.async false
set_option maxRecDepth 100000
set_option maxHeartbeats 4000000
/-! The law's defs: alike. -/
namespace K15
open PySem PySem.Spec PyProof.Rows L2 LamX NdefX
/-- equal values of one structure, at most n deep -/
inductive Al (H : Hp) : Nat → V → V → Prop
  | non (n : Nat) : Al H n .non .non
  | int (n : Nat) (i : Int) : Al H n (.int i) (.int i)
  | tup (n : Nat) {a b : Addr} {xs ys : List V} (h1 : TupH H a xs) (h2 : TupH H b ys) (hl : xs.length = ys.length) (hz : xs.length ≤ 4000) (he : ∀ (i : Nat) (x y : V), xs[i]? = some x → ys[i]? = some y → Al H n x y) : Al H (n + 1) (.ref a) (.ref b)
  | lst (n : Nat) {a b : Addr} {xs ys : List V} (h1 : H a = some (.lst xs)) (h2 : H b = some (.lst ys)) (hl : xs.length = ys.length) (hz : xs.length ≤ 4000) (he : ∀ (i : Nat) (x y : V), xs[i]? = some x → ys[i]? = some y → Al H n x y) : Al H (n + 1) (.ref a) (.ref b)
theorem Al.same {H H' : Hp} (s : Same H H') : ∀ {n : Nat} {x y : V}, Al H n x y → Al H' n x y
  | _, _, _, .non n => .non n
  | _, _, _, .int n i => .int n i
  | _, _, _, .tup n h1 h2 hl hz he => .tup n (h1.ext fun o e => s _ o e) (h2.ext fun o e => s _ o e) hl hz fun i x y e1 e2 => (he i x y e1 e2).same s
  | _, _, _, .lst n h1 h2 hl hz he => .lst n (s _ _ h1) (s _ _ h2) hl hz fun i x y e1 e2 => (he i x y e1 e2).same s
def spAlike (m : Nat) : Sp := fun vs H Q _ => ∃ (n : Nat) (x y : V), m = n + 1 ∧ vs = [x, y] ∧ Al H n x y ∧ ∀ H' : Hp, Same H H' → Q (.bl true) H'
theorem kit_tl {K : PySem.W.Frag} {a : String} {b1 b2 : Bool} (h1 : kitB a "tuple" = some b1) (h2 : kitB a "list" = some b2) : PySem.W.kitAny K (.type a) [.type "tuple", .type "list"] = some (b1 || b2) := by
  refine kitAny_cons (kit_ty h1) (fun e => ?_) (fun e => by rw [e]; rfl)
  refine kitAny_cons (kit_ty h2) (fun e2 => ?_) (fun e2 => by rw [e2]; exact Bool.or_true _)
  rw [e, e2]; rfl
theorem rIx_of {K : PySem.W.Frag} {H : Hp} {Q : VK} {p : Addr} {xs : List V} {i : Int} {v : V} (h : SqL K H p xs ∨ SqT K H p xs) (e : atI xs i = some v) (q : Q v H) : rIx K (.ref p) (.int i) H Q := by
  rcases h with h | h
  · exact .inl ⟨p, xs, i, v, rfl, rfl, h, e, q⟩
  · exact .inr (.inl ⟨p, xs, i, v, rfl, rfl, h, e, q⟩)
section
variable {P : Program} {w : World} {K : PySem.W.Frag} {mg : Str → Option Value} {base : Heap}
theorem scAlike : FnScope ["_law_found", "_law_due", "_law_k"] ["_law_found", "_law_due"] (defScope sAlike) := ⟨rfl, rfl, rfl, by decide +kernel, rfl, by decide +kernel, by decide +kernel⟩
theorem alike0 {f : Addr} {fd : FuncData} (F : Fun K "_law_alike" "_law_alike" sAlike f fd) : FnOk P w K mg base CX0 1 f fd ["_law_found", "_law_due"] (spAlike 0) := by
  refine F.ok scAlike (fun vs H Q E h => ?_) (fun cdv A outer s H vs Q E hr h => ?_)
  · obtain ⟨n, x, y, e, _⟩ := h
    cases e
  · obtain ⟨n, x, y, e, _⟩ := h
    cases e
theorem alikeS {f : Addr} {fd : FuncData} {m : Nat} (F : Fun K "_law_alike" "_law_alike" sAlike f fd) (B : Bl mg) (hb : L2.Binds K fd ["_law_found", "_law_due"] []) (hm : mg "_law_alike" = some (.ref f)) (G : FnOk P w K mg base CX0 (m + 1) f fd ["_law_found", "_law_due"] (spAlike m)) :
    FnOk P w K mg base CX0 (m + 2) f fd ["_law_found", "_law_due"] (spAlike (m + 1)) := by
  refine F.ok scAlike (fun vs H Q E h => ?_) (fun cdv A outer s H vs Q E hr h => ?_)
  · obtain ⟨n, x, y, e, rfl, _⟩ := h
    rfl
  · obtain ⟨n, x, y, e, rfl, hA, k⟩ := h
    obtain rfl : m = n := by omega
    have hu64 : (A.deeper (envOfC "_law_alike" (defScope sAlike) s.heap.objs.size f cdv)).units + 64 < cLine := by have := hr.un; omega
    have tl : ∀ {X : Cx}, X.mg = mg → True := fun _ => trivial
    refine ⟨_, pss_cons (ps_if (pt_val (pe_callB call_isiT (by rfl) B.isi PyProof.Rows.boot_isinstance (pa_cons (pv 1) (pa_cons (pe_tup (pa_cons (pe_bltn (v := .ty "tuple") (by rfl) B.tuple PyProof.Rows.boot_tuple rfl) (pa_cons (pe_bltn (v := .ty "list") (by rfl) B.list (by decide +kernel) rfl) pa_nil))) pa_nil))))
        (pss_cons (ps_if (PW.pt (pw_or (pt_not (pt_val (pe_callB call_isiT (by rfl) B.isi PyProof.Rows.boot_isinstance (pa_cons (pv 0) (pa_cons (pe_tup (pa_cons (pe_bltn (v := .ty "tuple") (by rfl) B.tuple PyProof.Rows.boot_tuple rfl) (pa_cons (pe_bltn (v := .ty "list") (by rfl) B.list (by decide +kernel) rfl) pa_nil))) pa_nil)))))
              (pw_or1 (pt_cmpR op_ne (pe_callB call_isi (by rfl) B.isi PyProof.Rows.boot_isinstance (pa_cons (pv 0) (pa_cons (pe_bltn (v := .ty "list") (by rfl) B.list (by decide +kernel) rfl) pa_nil))) (pe_callB call_isi (by rfl) B.isi PyProof.Rows.boot_isinstance (pa_cons (pv 1) (pa_cons (pe_bltn (v := .ty "list") (by rfl) B.list (by decide +kernel) rfl) pa_nil))) (nomark _)))))
            (pss_one (ps_ret pe_bl)) pss_nil)
        (pss_cons (ps_if (pt_cmpR op_ne (pe_callB call_len_seq (by rfl) B.len PySem.boot_len (pa_cons (pv 0) pa_nil)) (pe_callB call_len_seq (by rfl) B.len PySem.boot_len (pa_cons (pv 1) pa_nil)) (nomark _)) (pss_one (ps_ret pe_bl)) pss_nil)
        (pss_one (ps_ret (pe_cmpR (op_eqD hu64) (pe_lc (own := [("_law_k", 2)]) (g := gName 2) rfl scAlike.nd (pi_range1 (by rfl) B.range (pa_cons (pe_callB call_len_seq (by rfl) B.len PySem.boot_len (pa_cons (pv 1) pa_nil)) pa_nil)) (blkOk_by (N := ["_law_found", "_law_due", "_law_k"]) (sc := defScope sAlike) (by decide +kernel))
            (fun _ _ _ _ _ => pg_name (i := 2) scAlike.nd rfl (Or.inl rfl))
            (fun _ _ _ _ _ => pts_one (pt_not (pt_val (pe_call (E := fun _ _ _ => False) G hr rfl hm F.kp hb .nil pass0 (pa_cons (pe_ix (r := rIx K) ix_seq (pv 0) (pv 2) (fun _ _ => rfl)) (pa_cons (pe_ix (r := rIx K) ix_seq (pv 1) (pv 2) (fun _ _ => rfl)) pa_nil))))))
            (fun _ _ _ _ _ => pv 2)) (pe_lst pa_nil) (nomark _)))))) pss_nil)
      (pss_cons (ps_if (PW.pt (pw_or (pt_cmpR op_isN (pv 1) pe_non (nomark _)) (pw_or1 (pt_val (pe_callB call_isi (by rfl) B.isi PyProof.Rows.boot_isinstance (pa_cons (pv 1) (pa_cons (pe_bltn (v := .ty "str") (by rfl) B.str (by decide +kernel) rfl) pa_nil)))))))
        (pss_one (ps_ret (pe_and (pe_cmpR op_eq (pv 0) (pv 1) (nomark _)) (pe_one (pe_cmpR op_eq (pe_callB call_isi (by rfl) B.isi PyProof.Rows.boot_isinstance (pa_cons (pv 0) (pa_cons (pe_bltn (v := .ty "str") (by rfl) B.str (by decide +kernel) rfl) pa_nil))) (pe_callB call_isi (by rfl) B.isi PyProof.Rows.boot_isinstance (pa_cons (pv 1) (pa_cons (pe_bltn (v := .ty "str") (by rfl) B.str (by decide +kernel) rfl) pa_nil))) (nomark _)))))) pss_nil)
      (pss_one (ps_ret (pe_and (pe_callB call_isi (by rfl) B.isi PyProof.Rows.boot_isinstance (pa_cons (pv 0) (pa_cons (pe_bltn (v := .ty "int") (by rfl) B.int PyProof.Rows.boot_int rfl) pa_nil)))
        (pe_and (pe_cmpR op_eq (pe_callB call_isi (by rfl) B.isi PyProof.Rows.boot_isinstance (pa_cons (pv 0) (pa_cons (pe_bltn (v := .ty "bool") (by rfl) B.bool PyProof.Rows.boot_bool rfl) pa_nil))) (pe_callB call_isi (by rfl) B.isi PyProof.Rows.boot_isinstance (pa_cons (pv 1) (pa_cons (pe_bltn (v := .ty "bool") (by rfl) B.bool PyProof.Rows.boot_bool rfl) pa_nil))) (nomark _))
          (pe_one (pe_cmpR op_eq (pv 0) (pv 1) (nomark _)))))))), ?_⟩
    have hcase : (x = y ∧ (x = .non ∨ ∃ z, x = .int z)) ∨ ∃ (a b : Addr) (xs ys : List V) (t : String) (b1 b2 : Bool), x = .ref a ∧ y = .ref b ∧ kitB t "tuple" = some b1 ∧ kitB t "list" = some b2 ∧ (b1 || b2) = true ∧ (∀ H', Same H H' → TyX K H' (.ref a) (.type t)) ∧ (∀ H', Same H H' → TyX K H' (.ref b) (.type t)) ∧
        (∀ H', Same H H' → SqL K H' a xs ∨ SqT K H' a xs) ∧ (∀ H', Same H H' → SqL K H' b ys ∨ SqT K H' b ys) ∧ xs.length = ys.length ∧ xs.length ≤ 4000 ∧ (∀ (j : Nat) (x y : V), xs[j]? = some x → ys[j]? = some y → ∃ n', m = n' + 1 ∧ Al H n' x y) := by
      cases hA with
      | non => exact .inl ⟨rfl, .inl rfl⟩
      | int _ z => exact .inl ⟨rfl, .inr ⟨z, rfl⟩⟩
      | tup n' h1 h2 hl hz he => exact .inr ⟨_, _, _, _, "tuple", true, false, rfl, rfl, by decide +kernel, by decide +kernel, rfl, fun H' s => tyx_tup (h1.ext fun o e => s _ o e), fun H' s => tyx_tup (h2.ext fun o e => s _ o e), fun H' s => .inr (h1.ext fun o e => s _ o e).sq, fun H' s => .inr (h2.ext fun o e => s _ o e).sq, hl, hz, fun j x y e1 e2 => ⟨n', rfl, he j x y e1 e2⟩⟩
      | lst n' h1 h2 hl hz he => exact .inr ⟨_, _, _, _, "list", false, true, rfl, rfl, by decide +kernel, by decide +kernel, rfl, fun H' s => .base (.lst (s _ _ h1)), fun H' s => .base (.lst (s _ _ h2)), fun H' s => .inl (.inl (.inl (s _ _ h1))), fun H' s => .inl (.inl (.inl (s _ _ h2))), hl, hz, fun j x y e1 e2 => ⟨n', rfl, he j x y e1 e2⟩⟩
    rcases hcase with ⟨rfl, hx⟩ | ⟨a, b, xs, ys, t, b1, b2, rfl, rfl, q1, q2, q3, ta, tb, sa, sb, hl, hz, he⟩
    · rcases hx with rfl | ⟨z, rfl⟩
      · refine ⟨_, rfl, by show 2 ≤ sizeLine; decide, fun T hT => ?_⟩
        have s1 : Same H (upd H T (.tup [.ty "tuple", .ty "list"])) := same_new _ hT
        refine ⟨_, T, _, _, _, false, rfl, upd_same, .cons (.ty "tuple") (.cons (.ty "list") .nil), .base .non, kit_tl (b1 := false) (b2 := false) (by decide +kernel) (by decide +kernel), false, rfl, iteF ?_⟩
        refine ⟨_, rfl, rfl, _, rfl, ?_⟩
        rw [decide_eq_true (rfl : V.non = V.non)]
        refine iteT ?_
        refine iteT ?_
        refine ⟨_, rfl, _, rfl, rfl, true, rfl, ?_⟩
        refine ⟨_, rfl, _, _, _, _, false, rfl, .ty "str", .base .non, kit_ty (by decide +kernel), _, rfl, _, _, _, _, false, rfl, .ty "str", .base .non, kit_ty (by decide +kernel), rfl, ?_⟩
        exact k _ s1
      · refine ⟨_, rfl, by show 2 ≤ sizeLine; decide, fun T hT => ?_⟩
        have s1 : Same H (upd H T (.tup [.ty "tuple", .ty "list"])) := same_new _ hT
        refine ⟨_, T, _, _, _, false, rfl, upd_same, .cons (.ty "tuple") (.cons (.ty "list") .nil), .base (.int z), kit_tl (b1 := false) (b2 := false) (by decide +kernel) (by decide +kernel), false, rfl, iteF ?_⟩
        refine ⟨_, rfl, rfl, _, rfl, ?_⟩
        rw [decide_eq_false (fun h : V.int z = V.non => by cases h)]
        refine ⟨_, rfl, _, _, _, _, false, rfl, .ty "str", .base (.int z), kit_ty (by decide +kernel), _, rfl, ?_⟩
        refine iteF ?_
        refine ⟨_, rfl, _, _, _, _, true, rfl, .ty "int", .base (.int z), kit_ty (by decide +kernel), true, rfl, ?_⟩
        refine ⟨_, rfl, _, _, _, _, false, rfl, .ty "bool", .base (.int z), kit_ty (by decide +kernel), _, rfl, _, _, _, _, false, rfl, .ty "bool", .base (.int z), kit_ty (by decide +kernel), rfl, true, rfl, ?_⟩
        refine ⟨_, rfl, _, rfl, rfl, ?_⟩
        rw [decide_eq_true (rfl : V.int z = V.int z)]
        exact k _ s1
    · refine ⟨_, rfl, by show 2 ≤ sizeLine; decide, fun T hT => ?_⟩
      have s1 : Same H (upd H T (.tup [.ty "tuple", .ty "list"])) := same_new _ hT
      have kt := kit_tl (K := K) q1 q2
      rw [q3] at kt
      refine ⟨_, T, _, _, _, true, rfl, upd_same, .cons (.ty "tuple") (.cons (.ty "list") .nil), tb _ s1, kt, true, rfl, iteT ?_⟩
      refine ⟨_, rfl, by show 2 ≤ sizeLine; decide, fun T2 hT2 => ?_⟩
      have s2 : Same H (upd (upd H T (.tup [.ty "tuple", .ty "list"])) T2 (.tup [.ty "tuple", .ty "list"])) := s1.trans (same_new _ hT2)
      refine ⟨_, T2, _, _, _, true, rfl, upd_same, .cons (.ty "tuple") (.cons (.ty "list") .nil), ta _ s2, kt, true, rfl, iteF ?_⟩
      refine ⟨_, rfl, _, _, _, _, b2, rfl, .ty "list", ta _ s2, kit_ty q2, _, rfl, _, _, _, _, b2, rfl, .ty "list", tb _ s2, kit_ty q2, rfl, _, rfl, ?_⟩
      have eb : (!decide (V.bl b2 = V.bl b2)) = false := by rw [decide_eq_true rfl]; rfl
      rw [eb]
      refine iteF ?_
      refine ⟨_, rfl, a, xs, rfl, sa _ s2, _, rfl, b, ys, rfl, sb _ s2, rfl, _, rfl, ?_⟩
      have el : (!decide (V.int (xs.length : Nat) = V.int (ys.length : Nat))) = false := by rw [decide_eq_true (by rw [hl])]; rfl
      rw [el]
      refine iteF ?_
      refine ⟨_, rfl, b, ys, rfl, sb _ s2, _, rfl, by omega, by omega, fun D hD => ?_⟩
      have hD0 : H D = none := s2.free hD
      rw [Int.toNat_natCast]
      refine lc_range (fun i H' => Same (upd (upd H T (.tup [.ty "tuple", .ty "list"])) T2 (.tup [.ty "tuple", .ty "list"])) H' ∧ H' D = some (.lst [])) ⟨same_new _ hD, upd_same⟩ ?_ ?_
      · rintro i H3 hi ⟨s3, hD3⟩
        have s03 := s2.trans s3
        obtain ⟨u, hu⟩ : ∃ u, xs[i]? = some u := ⟨_, List.getElem?_eq_getElem (by omega)⟩
        obtain ⟨v, hv⟩ : ∃ v, ys[i]? = some v := ⟨_, List.getElem?_eq_getElem hi⟩
        obtain ⟨n', rfl, hA'⟩ := he i u v hu hv
        refine ⟨rfl, _, rfl, _, rfl, rIx_of (sa _ s03) (by rw [Int.zero_add]; exact atI_nat hu) ⟨_, rfl, _, rfl, rIx_of (sb _ s03) (by rw [Int.zero_add]; exact atI_nat hv) ?_⟩⟩
        refine ⟨n', u, v, rfl, rfl, hA'.same s03, fun H4 s4 => ⟨true, rfl, ?_⟩⟩
        exact iteF ⟨s3.trans s4, s4 _ _ hD3⟩
      · rintro H3 ⟨s3, hD3⟩
        refine ⟨Nat.zero_le _, fun L hL => ?_⟩
        have s4 : Same H3 (upd H3 L (.lst [])) := same_new _ hL
        refine ⟨.list [], .list [], .lst (.inl (.inl (s4 _ _ hD3))) .nil, .lst (.inl (.inl upd_same)) .nil, by decide +kernel, by decide +kernel, ?_⟩
        have : PyData.eqv (.list []) (.list []) = true := by simp only [PyData.eqv, PyData.eqvAll]
        rw [this]
        exact k _ ((s2.trans s3).trans s4)
/-- at any depth -/
theorem ok_alike {f : Addr} {fd : FuncData} (F : Fun K "_law_alike" "_law_alike" sAlike f fd) (B : Bl mg) (hb : L2.Binds K fd ["_law_found", "_law_due"] []) (hm : mg "_law_alike" = some (.ref f)) : ∀ m, FnOk P w K mg base CX0 (m + 1) f fd ["_law_found", "_law_due"] (spAlike m)
  | 0 => alike0 F
  | m + 1 => alikeS F B hb hm (ok_alike F B hb hm m)
end
end K15
set_option autoImplicit false
set_option linter.all false
set_option Elab.async false
set_option maxRecDepth 100000
set_option maxHeartbeats 4000000
/-! The law's defs: near, slid, pick, is. -/
namespace K15
open PySem PySem.Spec PyProof.Rows L2 LamX NdefX
def spLSlid : Sp := fun vs H Q _ => ∃ (a b : Addr) (t : Sd) (s : Sl), vs = [.ref a, .ref b] ∧ StAt H a t ∧ SlAt H b s ∧ s.1 < t.length ∧ s.2 < t.length ∧ s.1 ≠ s.2 ∧ t.length ≤ 100 ∧ ∀ (p : Addr) (H' : Hp), Same H H' → H p = none → FzAt H' p ((slid t s).map ov) → Q (.ref p) H'
theorem slid_map2 {t : Sd} {s : Sl} (h : s.1 ≠ s.2) : ((t.map ov).set s.2 (ov (t.getD s.1 none))).set s.1 V.non = (slid t s).map ov := by
  rw [← slid_map, List.set_comm _ _ h]
def spPick (K : PySem.W.Frag) : Sp := fun vs H Q _ => ∃ (r sc l : Addr) (xs : List V), vs = [.ref r, .ref l] ∧ RowAt K H r sc ∧ H l = some (.lst xs) ∧ l ≠ r ∧ 1 ≤ xs.length ∧ xs.length ≤ 1000 ∧ ∀ (v : Nat) (x : V) (H' : Hp), xs[v]? = some x → Bt r H H' → RowAt K H' r sc → Q x H'
def spIs : Sp := fun vs H Q _ => ∃ (a b : Bool), vs = [.bl a, .bl b] ∧ Q (.bl (decide (a = b))) H
section
variable {P : Program} {w : World} {K : PySem.W.Frag} {mg : Str → Option Value} {base : Heap}
theorem scLNear : FnScope ["_law_ties", "_law_place", "_law_one", "_law_other"] ["_law_ties", "_law_place"] (defScope sLNear) := ⟨rfl, rfl, rfl, by decide +kernel, rfl, by decide +kernel, by decide +kernel⟩
theorem ok_lnear {f : Addr} {fd : FuncData} (F : Fun K "_law_near" "_law_near" sLNear f fd) (B : Bl mg) : FnOk P w K mg base CX0 1 f fd ["_law_ties", "_law_place"] spNear := by
  refine F.ok scLNear (fun vs H Q E h => ?_) (fun cdv A outer s H vs Q E hr h => ?_)
  · obtain ⟨t, p, ties, rfl, _⟩ := h
    rfl
  · obtain ⟨t, p, ties, rfl, hw, hlen, k⟩ := h
    refine ⟨_, pss_one (ps_ret (pe_callB cr_sorted (by rfl) B.sorted (by decide +kernel) (pa_cons (pe_op op_cat
      (pe_lc (own := [("_law_one", 2), ("_law_other", 3)]) (g := gTup _ 2 (gCons (gName 2) (gCons (gName 3) gNil))) rfl scLNear.nd (pi_tup (pv 0)) (blkOk_by (N := ["_law_ties", "_law_place", "_law_one", "_law_other"]) (sc := defScope sLNear) (by decide +kernel))
        (fun _ _ _ _ _ => pg_tup rfl (pgs_cons (pg_name (i := 2) scLNear.nd rfl (Or.inl rfl)) (pgs_cons (pg_name (i := 3) scLNear.nd rfl (Or.inl rfl)) pgs_nil))) (fun _ _ _ _ _ => pts_one (pt_cmpR op_eq (pv 3) (pv 1) (nomark _))) (fun _ _ _ _ _ => pv 2))
      (pe_lc (own := [("_law_one", 2), ("_law_other", 3)]) (g := gTup _ 2 (gCons (gName 2) (gCons (gName 3) gNil))) rfl scLNear.nd (pi_tup (pv 0)) (blkOk_by (N := ["_law_ties", "_law_place", "_law_one", "_law_other"]) (sc := defScope sLNear) (by decide +kernel))
        (fun _ _ _ _ _ => pg_tup rfl (pgs_cons (pg_name (i := 2) scLNear.nd rfl (Or.inl rfl)) (pgs_cons (pg_name (i := 3) scLNear.nd rfl (Or.inl rfl)) pgs_nil))) (fun _ _ _ _ _ => pts_one (pt_cmpR op_eq (pv 2) (pv 1) (nomark _))) (fun _ _ _ _ _ => pv 3))) pa_nil))), ?_⟩
    refine ⟨_, rfl, t, rfl, ?_⟩
    obtain ⟨as, ht, hp⟩ := id hw
    have hq : SqT K H t (as.map V.ref) := SqT.of ht
    refine ⟨⟨_, hq⟩, fun D1 hD1 => lc_fltT (K := K) ties (fun s => s.2 == p) (fun s => iv s.1) hq (by rw [List.length_map]; exact hp.1) (by omega) hD1 (fun i x y H1 acc Nx hx hy s1 hacc hz n1 n2 => ?_) (fun H1 s1 hD => ?_)⟩
    · obtain ⟨ad, had, rfl⟩ : ∃ ad, as[i]? = some ad ∧ x = V.ref ad := by
        rw [List.getElem?_map] at hx
        cases e : as[i]? with
        | none => rw [e] at hx; cases hx
        | some u => rw [e] at hx; exact ⟨u, rfl, (Option.some.inj hx).symm⟩
      have hpr := hp.2 i ad y had hy
      refine ⟨ad, _, rfl, SqT.of (s1 _ _ hpr), rfl, _, _, rfl, _, _, rfl, rfl, rfl, ?_⟩
      refine ⟨_, rfl, _, rfl, rfl, _, rfl, ?_⟩
      rw [dec_iv]
      refine ite2 (fun hb => ⟨_, rfl, acc, hacc, hz, n1 hb⟩) (fun hb => n2 (by simpa using hb))
    · have hq1 : SqT K H1 t (as.map V.ref) := same_seqT s1 hq
      refine ⟨_, rfl, t, rfl, ⟨_, hq1⟩, fun D2 hD2 => lc_fltT (K := K) ties (fun s => s.1 == p) (fun s => iv s.2) hq1 (by rw [List.length_map]; exact hp.1) (by omega) hD2 (fun i x y H2 acc Nx hx hy s2 hacc hz n1 n2 => ?_) (fun H2 s2 hE => ?_)⟩
      · obtain ⟨ad, had, rfl⟩ := get_ref hx
        have hpr := hp.2 i ad y had hy
        refine ⟨ad, _, rfl, SqT.of (s2 _ _ (s1 _ _ hpr)), rfl, _, _, rfl, _, _, rfl, rfl, rfl, ?_⟩
        refine ⟨_, rfl, _, rfl, rfl, _, rfl, ?_⟩
        rw [dec_iv]
        refine ite2 (fun hb => ⟨_, rfl, acc, hacc, hz, n1 hb⟩) (fun hb => n2 (by simpa using hb))
      · have hl : ∀ c : Sl → Bool, (ties.filter c).length ≤ 30 := fun c => Nat.le_trans (List.length_filter_le _ _) hlen
        have h1 := hl (fun s => s.2 == p)
        have h2 := hl (fun s => s.1 == p)
        refine ⟨D1, D2, _, _, rfl, rfl, s2 _ _ hD, hE, by simp only [List.length_map]; rw [sizeLine_eq]; omega, fun D3 hD3 => ?_⟩
        refine ⟨D3, (nearL ties p).map (fun n : Nat => (n : Int)), rfl, .inl (.inl (by rw [upd_same, ints_map]; unfold nearL; rw [List.map_append, List.map_map, List.map_map]; rfl)), by rw [List.length_map]; unfold nearL; rw [List.length_append, List.length_map, List.length_map]; omega, fun ns' l hpm hst hl => ?_⟩
        have s3 : Same H (upd H2 D3 _) := (s1.trans s2).trans (same_new (HO.lst (List.map (fun s => iv s.fst) (List.filter (fun s => s.snd == p) ties) ++ List.map (fun s => iv s.snd) (List.filter (fun s => s.fst == p) ties))) hD3)
        refine k l _ (s3.trans (same_new _ hl)) (s3.free hl) ?_
        rw [upd_same, sortN_ints hpm hst]
        rfl
theorem scLSlid : FnScope ["_law_standing_here", "_law_slide", "_law_found"] ["_law_standing_here", "_law_slide"] (defScope sLSlid) := ⟨rfl, rfl, rfl, by decide +kernel, rfl, by decide +kernel, by decide +kernel⟩
theorem ok_lslid {f : Addr} {fd : FuncData} (F : Fun K "_law_slid" "_law_slid" sLSlid f fd) (B : Bl mg) : FnOk P w K mg base CX0 1 f fd ["_law_standing_here", "_law_slide"] spLSlid := by
  refine F.ok scLSlid (fun vs H Q E h => ?_) (fun cdv A outer s H vs Q E hr h => ?_)
  · obtain ⟨a, b, t, s, rfl, _⟩ := h
    rfl
  · obtain ⟨a, b, t, sl, rfl, ha, hb, h1, h2, hne12, hz, k⟩ := h
    refine ⟨_, pss_cons (ps_set (i := 2) scLSlid.nd rfl (Or.inl rfl) (pe_callTy call_list_of (by rfl) B.list (by decide +kernel) (pa_cons (pv 0) pa_nil)))
      (pss_cons (ps_asg (pe_tup (pa_cons (pe_ix ix_tup (pv 0) (pe_ix ix_tup (pv 1) pe_int (fun _ _ => rfl)) (fun _ _ => rfl)) (pa_cons pe_non pa_nil)))
        (pg_tup rfl (pgs_cons (pg_sub (pv 2) (pe_ix ix_tup (pv 1) pe_int (fun _ _ => rfl)) set_list) (pgs_cons (pg_sub (pv 2) (pe_ix ix_tup (pv 1) pe_int (fun _ _ => rfl)) set_list) pgs_nil))))
        (pss_one (ps_ret (pe_callTy call_tuple_fz (by rfl) B.tuple (by decide +kernel) (pa_cons (pv 2) pa_nil))))), ?_⟩
    refine ⟨_, rfl, a, _, rfl, .inr ha.sq, fun L hL => ?_⟩
    have s1 : Same H (upd H L (.lst (t.map ov))) := same_new _ hL
    have ha1 := ha.same s1
    have hb1 := s1 _ _ hb
    refine ⟨_, rfl, _, rfl, b, _, _, _, rfl, rfl, SqT.of hb1, rfl, a, _, _, _, rfl, rfl, ha1.sq, ov_atI h1, by show 2 ≤ sizeLine; decide, fun T hT => ?_⟩
    have hTL : T ≠ L := fun z => by rw [z, upd_same] at hT; cases hT
    have hT0 : H T = none := by rw [upd_ne hTL] at hT; exact hT
    refine ⟨T, _, rfl, SqT.of upd_same, rfl, _, _, rfl, ?_⟩
    have hb2 : SqT K (upd (upd H L (.lst (t.map ov))) T (.tup [ov (t.getD sl.1 none), V.non])) b [iv sl.1, iv sl.2] := SqT.of (same_new _ hT _ _ hb1)
    refine ⟨_, rfl, _, rfl, b, _, _, _, rfl, rfl, hb2, rfl, L, _, _, sl.2, rfl, rfl, Eq.trans (upd_ne hTL.symm) upd_same, ixn (by rw [List.length_map]; exact h2), ?_⟩
    have hLb : ∀ {o o2 o3 : HO}, SqT K (upd (upd (upd H L o) T o2) L o3) b [iv sl.1, iv sl.2] := SqT.of (by rw [upd_ne (ne_of_none hb hL), upd_ne (ne_of_none hb hT0), upd_ne (ne_of_none hb hL)]; exact hb)
    refine ⟨_, _, rfl, _, rfl, _, rfl, b, _, _, _, rfl, rfl, hLb, rfl, L, _, _, sl.1, rfl, rfl, upd_same, ixn (by rw [List.length_set, List.length_map]; exact h1), rfl, ?_⟩
    rw [slid_map2 hne12]
    refine ⟨_, rfl, L, _, rfl, .inl (.inl upd_same), fun R H' hR s' hF => ?_⟩
    have hRL : R ≠ L := fun z => by rw [z, upd_same] at hR; cases hR
    rw [upd_ne hRL, upd_ne hRL] at hR
    have hR0 : H R = none := (same_new _ hL).trans (same_new _ hT) |>.free hR
    refine k R _ (fun c o e => s' _ _ ?_) hR0 hF
    rw [upd_ne (ne_of_none e hL), upd_ne (ne_of_none e hL), upd_ne (ne_of_none e hT0), upd_ne (ne_of_none e hL)]
    exact e
theorem scPick : FnScope ["_law_row", "_law_things"] ["_law_row", "_law_things"] (defScope sPick) := ⟨rfl, rfl, rfl, by decide +kernel, rfl, by decide +kernel, by decide +kernel⟩
theorem ok_pick {f fT : Addr} {fd fdT : FuncData} (F : Fun K "_law_pick" "_law_pick" sPick f fd) (B : Bl mg) (T : Dn P w K mg base CX0 1 "_law_taken" ["_law_row", "_law_many"] (spTaken K) fT fdT) : FnOk P w K mg base CX0 2 f fd ["_law_row", "_law_things"] (spPick K) := by
  refine F.ok scPick (fun vs H Q E h => ?_) (fun cdv A outer s H vs Q E hr h => ?_)
  · obtain ⟨r, sc, l, xs, rfl, _⟩ := h
    rfl
  · obtain ⟨r, sc, l, xs, rfl, hR, hl, hlr, h1, h2, k⟩ := h
    refine ⟨_, pss_one (ps_ret (pe_ix ix_list (pv 1) (pe_call T.ok hr rfl T.mgf T.kp T.b .nil pass0 (pa_cons (pv 0) (pa_cons (pe_callB call_len_seq (by rfl) B.len PySem.boot_len (pa_cons (pv 1) pa_nil)) pa_nil))) (fun _ _ => rfl))), ?_⟩
    refine ⟨_, rfl, _, rfl, _, rfl, l, xs, rfl, .inl (.inl (.inl hl)), r, sc, xs.length, rfl, hR, h1, h2, fun v H' hv t hR' => ?_⟩
    obtain ⟨x, hx⟩ : ∃ x, xs[v]? = some x := ⟨_, List.getElem?_eq_getElem hv⟩
    exact ⟨l, xs, _, x, rfl, rfl, .inl (.inl (by rw [t l hlr]; exact hl)), atI_nat hx, k v x H' hx t hR'⟩
theorem scIs : FnScope ["_law_found", "_law_due"] ["_law_found", "_law_due"] (defScope sIs) := ⟨rfl, rfl, rfl, by decide +kernel, rfl, by decide +kernel, by decide +kernel⟩
theorem ok_is {f : Addr} {fd : FuncData} (F : Fun K "_law_is" "_law_is" sIs f fd) (B : Bl mg) : FnOk P w K mg base CX0 1 f fd ["_law_found", "_law_due"] spIs := by
  refine F.ok scIs (fun vs H Q E h => ?_) (fun cdv A outer s H vs Q E hr h => ?_)
  · obtain ⟨a, b, rfl, _⟩ := h
    rfl
  · obtain ⟨a, b, rfl, k⟩ := h
    refine ⟨_, pss_one (ps_ret (pe_and (pe_callB call_isi (by rfl) B.isi PyProof.Rows.boot_isinstance (pa_cons (pv 0) (pa_cons (pe_bltn (v := .ty "bool") (by rfl) B.bool PyProof.Rows.boot_bool rfl) pa_nil))) (pe_one (pe_cmpR op_eq (pv 0) (pv 1) (nomark _))))), ?_⟩
    refine ⟨_, rfl, _, _, _, _, true, rfl, .ty "bool", .base (.bl a), kit_ty (by decide +kernel), true, rfl, ?_⟩
    refine ⟨_, rfl, _, rfl, rfl, ?_⟩
    have : decide (V.bl a = V.bl b) = decide (a = b) := by
      cases a <;> cases b <;> rfl
    rw [this]
    exact k
end
end K15
set_option autoImplicit false
set_option linter.all false
set_option Elab.async false
set_option maxRecDepth 100000
set_option maxHeartbeats 4000000
/-! The law's defs: slides. -/
namespace K15
open PySem PySem.Spec PyProof.Rows L2 LamX NdefX
theorem LsAt.same2 {H H' : Hp} {l : Addr} {ps : List Sl} (h : LsAt H l ps) (s : Same H H') : LsAt H' l ps := let ⟨as, h1, h2⟩ := h; ⟨as, s _ _ h1, h2.same s⟩
section
variable {P : Program} {w : World} {K : PySem.W.Frag} {mg : Str → Option Value} {base : Heap}
theorem scLSlides : FnScope ["_law_yard_here", "_law_standing_here", "_law_found", "_law_place", "_law_book", "_law_near_here", "_law_other"] ["_law_yard_here", "_law_standing_here"] (defScope sLSlides) := ⟨rfl, rfl, rfl, by decide +kernel, rfl, by decide +kernel, by decide +kernel⟩
theorem ok_lslides {f fN : Addr} {fd fdN : FuncData} (F : Fun K "_law_slides" "_law_slides" sLSlides f fd) (B : Bl mg) (N : Dn P w K mg base CX0 1 "_law_near" ["_law_ties", "_law_place"] spNear fN fdN) : FnOk P w K mg base CX0 2 f fd ["_law_yard_here", "_law_standing_here"] spSlides := by
  refine F.ok scLSlides (fun vs H Q E h => ?_) (fun cdv A outer s H vs Q E hr h => ?_)
  · obtain ⟨y, t, a, n, g, ties, st, rfl, _⟩ := h
    rfl
  · obtain ⟨y, t, a, n, g, ties, st, rfl, hy, ht, hlen, ha, hT, hz, k⟩ := h
    refine ⟨_, pss_cons (ps_set (i := 2) scLSlides.nd rfl (Or.inl rfl) (pe_lst pa_nil))
      (pss_cons (ps_for PassesOwn.never rfl (pi_enumT (by rfl) B.enum (pa_cons (pv 1) pa_nil)) (pg_tup rfl (pgs_cons (pg_name (i := 3) scLSlides.nd rfl (Or.inr rfl)) (pgs_cons (pg_name (i := 4) scLSlides.nd rfl (Or.inl rfl)) pgs_nil)))
        (pss_cons (ps_setLc (i := 5) (own := [("_law_other", 6)]) (g := gName 6) rfl scLSlides.nd rfl rfl (sw_true rfl rfl rfl (by decide +kernel)) (pi_list (pe_call N.ok hr rfl N.mgf N.kp N.b .nil pass0 (pa_cons (pe_ix ix_tup (pv 0) pe_int (fun _ _ => rfl)) (pa_cons (pv 3) pa_nil))))
            (blkOk_by (N := ["_law_yard_here", "_law_standing_here", "_law_found", "_law_place", "_law_book", "_law_near_here", "_law_other"]) (sc := defScope sLSlides) (by decide +kernel))
            (fun _ _ _ _ _ => pg_name (i := 6) scLSlides.nd rfl (Or.inl rfl)) (fun _ _ _ _ _ => pts_one (pt_cmpR op_isN (pe_ix (r := rIxT K) ix_tup (pv 1) (pv 6) (fun _ _ => rfl)) pe_non (nomark _))) (fun _ _ _ _ _ => pv 6))
        (pss_one (ps_set (i := 2) scLSlides.nd rfl (Or.inl rfl) (pe_op op_cat (pv 2) (pe_ifExp (pt_cmpR op_notN (pv 4) pe_non (nomark _))
            (pe_lc (own := [("_law_other", 6)]) (g := gName 6) rfl scLSlides.nd (pi_list (pv 5)) (blkOk_by (N := ["_law_yard_here", "_law_standing_here", "_law_found", "_law_place", "_law_book", "_law_near_here", "_law_other"]) (sc := defScope sLSlides) (by decide +kernel))
              (fun _ _ _ _ _ => pg_name (i := 6) scLSlides.nd rfl (Or.inl rfl)) (fun _ _ _ _ _ => pts_nil) (fun _ _ _ _ _ => pe_tup (pa_cons (pv 3) (pa_cons (pv 6) pa_nil)))) (pe_lst pa_nil)))))))
        (pss_one (ps_ret (pv 2)))), ?_⟩
    refine ⟨Nat.zero_le _, fun L hL => ?_⟩
    have s0 : Same H (upd H L (.lst [])) := same_new _ hL
    let St0 : Addr → Option V → Option V → Option V → L2.St := fun L v3 v4 v5 => [some (.ref y), some (.ref a), some (.ref L), v3, v4, v5, none]
    refine ⟨_, rfl, a, _, rfl, (ha.same s0).sq, for_it walk_enumT (fun i σ H' => ∃ L v3 v4 v5, σ = St0 L v3 v4 v5 ∧ H L = none ∧ Same H H' ∧ LsAt H' L ((List.range i).flatMap (slidesAt ties st)))
      ⟨L, none, none, none, rfl, hL, s0, [], upd_same, PrsAt.nil _⟩ (fun i σ H' _ ⟨_, _, _, _, _, _, q, _⟩ => (ha.same q).sq) ?_ ?_⟩
    · rintro i x σ H' H'' hi ⟨L, v3, v4, v5, rfl, hL, s1, as, hF, hP⟩ ⟨T, x1, x2, rfl, hT0, rfl, e1, e2⟩
      have hi' : i < st.length := by rw [List.length_map] at hi; exact hi
      obtain rfl : V.int (i : Nat) = x1 := Option.some.inj e1
      have e2' : (st.map ov)[i]? = some x2 := e2
      rw [ov_get hi'] at e2'
      obtain rfl : ov (st.getD i none) = x2 := Option.some.inj e2'
      have sT : Same H' (upd H' T (.tup [.int (i : Nat), ov (st.getD i none)])) := same_new _ hT0
      have s2 : Same H (upd H' T (.tup [.int (i : Nat), ov (st.getD i none)])) := s1.trans sT
      have hF2 := sT _ _ hF
      have hP2 := hP.same sT
      refine ⟨T, _, rfl, SqT.of upd_same, rfl, _, _, rfl, _, _, rfl, rfl, ?_⟩
      have eS : slidesOf ties st = (List.range st.length).flatMap (slidesAt ties st) := rfl
      have eR : (List.range (i + 1)).flatMap (slidesAt ties st) = (List.range i).flatMap (slidesAt ties st) ++ slidesAt ties st i := by rw [List.range_succ, List.flatMap_append]; simp
      -- near_here
      refine ⟨_, rfl, y, _, _, .ref t, rfl, rfl, SqT.of (s2 _ _ hy), rfl, _, rfl, t, i, ties, rfl, ht.same s2, hlen, fun l H3 s3 hl0 hl3 => ?_⟩
      have hnl : (near ties i).length ≤ 60 := Nat.le_trans near_len (by omega)
      refine ⟨l, rfl, ⟨_, .inl (.inl hl3)⟩, fun D hD => lc_list (K := K) (a := l) (xs := (near ties i).map iv) (fun j H4 => Same H3 H4 ∧ H4 D = some (.lst ((((near ties i).take j).filter (isHole st)).map iv)))
          ⟨same_new _ hD, upd_same⟩ (fun j H4 _ h => h.1.seq (.inl (.inl hl3))) ?_ ?_⟩
      · rintro j x H4 hx ⟨s4, hB⟩
        obtain ⟨o, ho, rfl⟩ : ∃ o, (near ties i)[j]? = some o ∧ x = iv o := by
          rw [List.getElem?_map] at hx
          cases e : (near ties i)[j]? with
          | none => rw [e] at hx; cases hx
          | some u => rw [e] at hx; exact ⟨u, rfl, (Option.some.inj hx).symm⟩
        have hon : o < st.length := near_lt hT (List.mem_of_getElem? ho)
        have s5 : Same H H4 := (s2.trans s3).trans s4
        refine ⟨rfl, ⟨_, rfl, _, rfl, a, _, _, _, rfl, rfl, (ha.same s5).sq, ov_atI hon, rfl, _, rfl, ?_⟩⟩
        rw [ov_none]
        have eO : (st.getD o none == none) = isHole st o := rfl
        rw [eO]
        have eT : ((near ties i).take (j + 1)).filter (isHole st) = ((near ties i).take j).filter (isHole st) ++ (if isHole st o then [o] else []) := by
          rw [take_succ ho, List.filter_append, List.filter_cons]
          split <;> rfl
        cases ho2 : isHole st o with
        | true =>
          rw [ho2, if_pos rfl] at eT
          refine iteT ⟨_, rfl, _, hB, ?_, fun c u hc => ?_, by rw [upd_same, eT, List.map_append]; rfl⟩
          · rw [List.length_map, sizeLine_eq]
            have h1 := List.length_filter_le (isHole st) ((near ties i).take j)
            have h2 : ((near ties i).take j).length ≤ (near ties i).length := by rw [List.length_take]; exact Nat.min_le_right _ _
            omega
          · rw [upd_ne (fun z => by rw [z, hD] at hc; cases hc)]
            exact s4 _ _ hc
        | false =>
          rw [ho2, if_neg Bool.false_ne_true, List.append_nil] at eT
          exact iteF ⟨s4, by rw [eT]; exact hB⟩
      · rintro H4 ⟨s4, hB⟩
        rw [List.length_map, List.take_length] at hB
        have s04 : Same H H4 := (s2.trans s3).trans s4
        have hF4 := s4 _ _ (s3 _ _ hF2)
        have hP4 := (hP2.same s3).same s4
        have haL : as.length ≤ 6000 := by
          rw [hP.1]
          have h9 := flat_len (fun p => slidesAt_len (ties := ties) (st := st) (p := p)) (List.range i)
          rw [List.length_range] at h9
          have h8 : 2 * ties.length * i ≤ 60 * 100 := Nat.mul_le_mul (by omega) (by omega)
          omega
        -- found + (..)
        refine ⟨_, rfl, _, rfl, rfl, _, rfl, ?_⟩
        rw [ov_none]
        have eH : (st.getD i none == none) = isHole st i := rfl
        rw [eH]
        cases hh : isHole st i with
        | true =>
          have e0 : slidesAt ties st i = [] := by unfold slidesAt; rw [hh]; rfl
          refine iteF ⟨Nat.zero_le _, fun D2 hD2 => ?_⟩
          have s5 : Same H4 (upd H4 D2 (.lst [])) := same_new _ hD2
          refine ⟨L, D2, _, _, rfl, rfl, s5 _ _ hF4, upd_same, by rw [List.length_map, sizeLine_eq]; show as.length + 0 ≤ _; omega, fun D3 hD3 => ?_⟩
          have s6 : Same (upd H4 D2 (.lst [])) (upd (upd H4 D2 (.lst [])) D3 (.lst (as.map V.ref ++ []))) := same_new _ hD3
          refine ⟨D3, _, _, _, rfl, (s04.trans s5).free hD3, (s04.trans s5).trans s6, as, by rw [upd_same, List.append_nil], ?_⟩
          rw [eR, e0, List.append_nil (List.flatMap _ _)]
          exact (hP4.same s5).same s6
        | false =>
          have eA : slidesAt ties st i = ((near ties i).filter (isHole st)).map (fun o => (i, o)) := by unfold slidesAt; rw [hh]; rfl
          refine iteT ⟨_, rfl, D, rfl, ⟨_, .inl (.inl hB)⟩, fun D2 hD2 => lc_list (K := K) (a := D) (xs := ((near ties i).filter (isHole st)).map iv) (fun j H5 => Same H4 H5 ∧ ∃ bs, H5 D2 = some (.lst (bs.map V.ref)) ∧ PrsAt H5 bs ((((near ties i).filter (isHole st)).take j).map (fun o => (i, o))))
            ⟨same_new _ hD2, [], upd_same, PrsAt.nil _⟩ (fun j H5 _ h => h.1.seq (.inl (.inl hB))) ?_ ?_⟩
          · rintro j x H5 hx ⟨s5, bs, hB5, hQ⟩
            obtain ⟨o, ho, rfl⟩ : ∃ o, ((near ties i).filter (isHole st))[j]? = some o ∧ x = iv o := by
              rw [List.getElem?_map] at hx
              cases e : ((near ties i).filter (isHole st))[j]? with
              | none => rw [e] at hx; cases hx
              | some u => rw [e] at hx; exact ⟨u, rfl, (Option.some.inj hx).symm⟩
            have hbl : bs.length ≤ 60 := by
              rw [hQ.1, List.length_map, List.length_take]
              have h1 := List.length_filter_le (isHole st) (near ties i)
              omega
            refine ⟨rfl, ?_⟩
            refine ⟨_, rfl, _, rfl, by show 2 ≤ sizeLine; decide, fun U hU => ?_⟩
            have hUD : U ≠ D2 := fun z => by rw [z, hB5] at hU; cases hU
            have sU : Same H5 (upd H5 U (.tup [.int (i : Nat), iv o])) := same_new _ hU
            refine ⟨_, sU _ _ hB5, by rw [List.length_map, sizeLine_eq]; omega, fun c u hc => ?_, bs ++ [U], by rw [upd_same, List.map_append]; rfl, ?_⟩
            · rw [upd_ne (fun z => by rw [z, hD2] at hc; cases hc)]
              exact sU _ _ (s5 _ _ hc)
            · rw [take_succ ho, List.map_append]
              have hk : ∀ {b : Addr} {xs : List V}, (upd H5 U (.tup [.int (i : Nat), iv o])) b = some (.tup xs) → (upd (upd H5 U (.tup [.int (i : Nat), iv o])) D2 (.lst (bs.map V.ref ++ [V.ref U]))) b = some (.tup xs) := fun {b xs} q => by
                rw [upd_ne (fun z => by rw [z, sU _ _ hB5] at q; cases q)]; exact q
              exact ((hQ.same sU).ext fun _ _ q => hk q).app (PrsAt.one (hk upd_same))
          · rintro H5 ⟨s5, bs, hB5, hQ⟩
            rw [List.length_map, List.take_length, ← eA] at hQ
            have hF5 := s5 _ _ hF4
            have s05 := s04.trans s5
            refine ⟨L, D2, _, _, rfl, rfl, hF5, hB5, ?_, fun D3 hD3 => ?_⟩
            · rw [List.length_map, List.length_map, sizeLine_eq]
              have h3 : bs.length ≤ 60 := by
                rw [hQ.1, eA, List.length_map]
                exact Nat.le_trans (List.length_filter_le _ _) hnl
              omega
            have s6 : Same H5 (upd H5 D3 (.lst (as.map V.ref ++ bs.map V.ref))) := same_new _ hD3
            refine ⟨D3, _, _, _, rfl, s05.free hD3, s05.trans s6, as ++ bs, by rw [upd_same, List.map_append], ?_⟩
            rw [eR]
            exact ((hP4.same s5).same s6).app (hQ.same s6)
    · rintro σ H' ⟨L, v3, v4, v5, rfl, hL, s1, hP⟩
      rw [List.length_map] at hP
      exact ⟨_, rfl, k L _ s1 hL hP⟩
end
end K15
set_option autoImplicit false
set_option linter.all false
set_option Elab.async false
set_option maxRecDepth 100000
set_option maxHeartbeats 4000000
/-! The law's defs: words. -/
namespace K15
open PySem PySem.Spec PyProof.Rows L2 LamX NdefX
def spLWords (P : Program) (w : World) (tb : Tb) : Sp := fun vs H Q _ => ∃ (y t a : Addr) (n g : Nat) (ties : List Sl) (st : Sd), vs = [.ref y, .ref a] ∧ YdAt H y n t g ∧ WdAt H t ties ∧ ties.length ≤ 30 ∧ StAt H a st ∧ YOk n ties st ∧ n ≤ 5 ∧ Low 4 st ∧ TOk tb H ∧
  ∀ (d : Addr) (ks : List Ent) (H' : Hp), Nx tb H H' → H d = none → DMAt P w H' d ks → FdR H' ks (lawW ties st 6000) → Q (.ref d) H'
theorem cut1 {xs : List V} {i : Nat} : cutV xs (some (i : Int)) (some ((i : Int) + 1)) = (xs.drop i).take 1 := by
  unfold cutV
  rw [show ((i : Int) + 1) = ((i + 1 : Nat) : Int) by omega, HT.sIx_nat, HT.sIx_nat]
  by_cases h : i < xs.length
  · rw [Nat.min_eq_left (by omega), Nat.min_eq_left (by omega), Nat.add_sub_cancel_left]
  · rw [Nat.min_eq_right (by omega), Nat.min_eq_right (by omega), Nat.sub_self, List.take_zero, List.drop_eq_nil_of_le (by omega)]; rfl
theorem lmid_len {ties : List Sl} {st : Sd} {i : Nat} {L : Fd} (M : LMid ties st i L) : ∀ (k : Nat) (e : Sd × Wd), e ∈ L → e.2.length = k → ∀ j, j ≤ k → ∃ e' ∈ L, e'.2.length = j := by
  intro k
  induction k with
  | zero => exact fun e he hk j hj => ⟨e, he, by omega⟩
  | succ k ih =>
    intro e he hk j hj
    by_cases q : j = k + 1
    · exact ⟨e, he, by omega⟩
    · rcases M.fr e he with h | ⟨j', u, s, _, hu, _, h⟩
      · rw [h] at hk; cases hk
      · refine ih u (List.mem_of_getElem? hu) ?_ j (by omega)
        rw [h, List.length_append] at hk
        exact Nat.succ.inj hk
theorem lmid_le {ties : List Sl} {st : Sd} {i : Nat} {L : Fd} (M : LMid ties st i L) {e : Sd × Wd} (he : e ∈ L) : e.2.length + 1 ≤ L.length := by
  have h1 : (List.range (e.2.length + 1)).length ≤ (L.map (fun e => e.2.length)).length := nodup_sub List.nodup_range fun j hj => by
    obtain ⟨e', he', q⟩ := lmid_len M _ e he rfl j (by have := List.mem_range.mp hj; omega)
    exact List.mem_map.mpr ⟨e', he', q⟩
  rw [List.length_range, List.length_map] at h1
  exact h1
theorem addL_len {one : Sd} {w : Wd} {L : Fd} {s : Sl} : L.length ≤ (addL one w L s).length := by
  unfold addL
  split
  · exact Nat.le_refl _
  · rw [List.length_append]; omega
theorem addL_fold {one : Sd} {w : Wd} : ∀ (l : List Sl) (L : Fd), L.length ≤ (l.foldl (addL one w) L).length
  | [], L => Nat.le_refl _
  | s :: l, L => Nat.le_trans addL_len (addL_fold l _)
theorem addL_pre {one : Sd} {w : Wd} (l : List Sl) (L : Fd) (k : Nat) : ((l.take k).foldl (addL one w) L).length ≤ (l.foldl (addL one w) L).length := by
  have h := addL_fold (one := one) (w := w) (l.drop k) ((l.take k).foldl (addL one w) L)
  rw [← List.foldl_append, List.take_append_drop] at h
  exact h
theorem LyE.snoc {H : Hp} {as : List Addr} {ts : List Sd} {a : Addr} {t : Sd} (hl : as.length = ts.length) (h : LyE H as ts) (g : StAt H a t) : LyE H (as ++ [a]) (ts ++ [t]) := fun i b u e1 e2 => by
  by_cases q : i < as.length
  · rw [List.getElem?_append_left q] at e1
    rw [List.getElem?_append_left (by rw [← hl]; exact q)] at e2
    exact h i b u e1 e2
  · rw [List.getElem?_append_right (by omega)] at e1
    rw [List.getElem?_append_right (by rw [← hl]; omega), ← hl] at e2
    generalize i - as.length = j at e1 e2
    match j, e1, e2 with
    | 0, e1, e2 =>
      obtain rfl : a = b := Option.some.inj e1
      obtain rfl : t = u := Option.some.inj e2
      exact g
    | j + 1, e1, e2 => cases e1
theorem addL_old {one : Sd} {w : Wd} {L : Fd} {s : Sl} (h : hasK L (slid one s) = true) : addL one w L s = L := by unfold addL; rw [h, if_pos rfl]
theorem addL_new {one : Sd} {w : Wd} {L : Fd} {s : Sl} (h : hasK L (slid one s) = false) : addL one w L s = L ++ [(slid one s, w ++ [s])] := by unfold addL; rw [h, if_neg Bool.false_ne_true]
theorem putW_new {L : Fd} {t : Sd} {w : Wd} (h : hasK L t = false) : putW L t w = L ++ [(t, w)] := by unfold putW; rw [h, if_neg Bool.false_ne_true]
theorem addL_keep {one : Sd} {w : Wd} : ∀ (l : List Sl) (L : Fd) (e : Sd × Wd), e ∈ L → e ∈ l.foldl (addL one w) L
  | [], L, e, h => h
  | s :: l, L, e, h => addL_keep l _ e (by
    unfold addL
    split
    · exact h
    · exact List.mem_append_left _ h)
theorem addL_nd {one : Sd} {w : Wd} : ∀ (l : List Sl) (L : Fd), (L.map (·.1)).Nodup → ((l.foldl (addL one w) L).map (·.1)).Nodup
  | [], L, h => h
  | s :: l, L, h => addL_nd l _ (by
    unfold addL
    split
    · exact h
    · rename_i hk
      rw [List.map_append]
      refine List.nodup_append.mpr ⟨h, by simp, fun a ha b hb e => ?_⟩
      rw [List.map_cons, List.map_nil, List.mem_singleton] at hb
      rw [hb] at e
      exact hk (hasK_iff.mpr (show slid one s ∈ L.map (·.1) from (show a = slid one s from e) ▸ ha)))
section
variable {P : Program} {w : World} {K : PySem.W.Frag} {mg : Str → Option Value} {base : Heap}
theorem scLWords : FnScope ["_law_yard_here", "_law_standing_here", "_law_found", "_law_order", "_law_turn", "_law_one", "_law_slide", "_law_other"] ["_law_yard_here", "_law_standing_here"] (defScope sLWords) := ⟨rfl, rfl, rfl, by decide +kernel, rfl, by decide +kernel, by decide +kernel⟩
theorem ok_lwords {tb : Tb} {f fS fD : Addr} {fd fdS fdD : FuncData} (F : Fun K "_law_words" "_law_words" sLWords f fd) (B : Bl mg) (S : Dn P w K mg base CX0 2 "_law_slides" ["_law_yard_here", "_law_standing_here"] spSlides fS fdS) (D : Dn P w K mg base CX0 1 "_law_slid" ["_law_standing_here", "_law_slide"] spLSlid fD fdD) :
    FnOk P w K mg base CX0 3 f fd ["_law_yard_here", "_law_standing_here"] (spLWords P w tb) := by
  refine F.ok scLWords (fun vs H Q E h => ?_) (fun cdv A outer s H vs Q E hr h => ?_)
  · obtain ⟨y, t, a, n, g, ties, st, rfl, _⟩ := h
    rfl
  · obtain ⟨y, t, a, n, g, ties, st, rfl, hy, ht, hlen, ha, Y, h5, hlow, tok, k⟩ := h
    have hr1 : Room 1 _ := hr.mono (by decide)
    have hu1 : (A.deeper (envOfC "_law_words" (defScope sLWords) s.heap.objs.size f cdv)).units + 1 < cLine := hu_of hr
    refine ⟨_, pss_cons (ps_par (i := 2) (j := 3) rfl scLWords.nd rfl rfl (by decide) rfl rfl (pa_cons (pe_dispM (Nat.lt_of_succ_lt hu1) (pv 1) (pe_tup pa_nil)) (pa_cons (pe_lst (pa_cons (pv 1) pa_nil)) pa_nil)) rfl)
      (pss_cons (ps_for PassesOwn.never rfl (pi_range1 (by rfl) B.range (pa_cons pe_int pa_nil)) (pg_name (i := 4) scLWords.nd rfl (Or.inl rfl))
        (pss_one (ps_for PassesOwn.never rfl (pi_list (pe_slice sl_list (pv 3) (po_some (pv 4)) (po_some (pe_op op_add (pv 4) pe_int)))) (pg_name (i := 5) scLWords.nd rfl (Or.inl rfl))
          (pss_one (ps_for PassesOwn.never rfl (pi_list (pe_call S.ok hr rfl S.mgf S.kp S.b .nil pass0 (pa_cons (pv 0) (pa_cons (pv 5) pa_nil)))) (pg_name (i := 6) scLWords.nd rfl (Or.inl rfl))
            (pss_cons (ps_set (i := 7) scLWords.nd rfl (Or.inl rfl) (pe_call D.ok hr1 rfl D.mgf D.kp D.b .nil pass0 (pa_cons (pv 5) (pa_cons (pv 6) pa_nil))))
            (pss_one (ps_if (pt_cmpR (op_notInM hu1) (pv 7) (pv 2) (by rfl))
              (pss_cons (ps_asg (pe_op op_catA (pe_dgetM hu1 (pv 2) (pv 5)) (pe_tup (pa_cons (pv 6) pa_nil))) (pg_sub (pv 2) (pv 7) (set_M hu1)))
              (pss_one (ps_expr (pe_bm PySem.F.plainAttrs_list PySem.F.slot_list_append PySem.F.type_list_append mt_append (pv 3) (pa_cons (pv 7) pa_nil))))) pss_nil))))))))
      (pss_one (ps_ret (pv 2)))), ?_⟩
    refine fun dF hdF => ⟨_, rfl, Nat.zero_le _, fun e0 he0 => ?_⟩
    have hdF' : upd H dF (DMo P w dF [] 0) dF = some (DMo P w dF [] 0) := upd_same
    have he0 : upd H dF (DMo P w dF [] 0) e0 = none := he0
    have hed : e0 ≠ dF := fun z => by rw [z, hdF'] at he0; cases he0
    have he0' : H e0 = none := by rw [upd_ne hed] at he0; exact he0
    have g2 : upd (upd H dF (DMo P w dF [] 0)) e0 (.tup []) dF = some (DMo P w dF [] 0) := by rw [upd_ne hed.symm]; exact hdF'
    have s2 : Same H (upd (upd H dF (DMo P w dF [] 0)) e0 (.tup [])) := (same_new _ hdF).trans (same_new _ he0)
    have tok2 : TOk tb (upd (upd H dF (DMo P w dF [] 0)) e0 (.tup [])) := tok.same s2
    refine ⟨a, e0, st, rfl, rfl, g2, (ha.same s2), fun ep => ⟨_, rfl, by show 1 ≤ sizeLine; decide, fun L hL => ?_⟩⟩
    have n3 : Nx tb H (upd (upd (upd H dF (DMo P w dF [] 0)) e0 (.tup [])) dF (DMo P w dF [(st, a, e0)] ep)) := (Nx.of tok s2).put hdF g2 dmo_tbl (fun q => code_ne_dm)
    have sL := same_new (HO.lst [.ref a]) hL
    have n5 := n3.same sL
    have hL0 : H L = none := n3.dn L hL
    have D3 : DMAt P w (upd (upd (upd H dF (DMo P w dF [] 0)) e0 (.tup [])) dF (DMo P w dF [(st, a, e0)] ep)) dF [(st, a, e0)] :=
      ⟨⟨ep, upd_same⟩, fun e he => by rw [List.mem_singleton.mp he]; exact n3.st ha, by simp, by show 1 ≤ 4000; decide⟩
    have we : WdAt (upd (upd (upd H dF (DMo P w dF [] 0)) e0 (.tup [])) dF (DMo P w dF [(st, a, e0)] ep)) e0 [] := ⟨[], by rw [upd_ne hed]; exact upd_same, PrsAt.nil _⟩
    refine ⟨_, _, rfl, ?_⟩
    let St0 : Option V → Option V → Option V → Option V → L2.St := fun v4 v5 v6 v7 => [some (.ref y), some (.ref a), some (.ref dF), some (.ref L), v4, v5, v6, v7]
    let Cr : Fd → Hp → Prop := fun Lc H' => Nx tb H H' ∧ ∃ (kF : List Ent) (as : List Addr), DMAt P w H' dF kF ∧ FdR H' kF Lc ∧ H' L = some (.lst (as.map V.ref)) ∧ as.length = Lc.length ∧ LyE H' as (Lc.map (·.1))
    have Cr_same : ∀ {Lc : Fd} {H1 H2 : Hp}, Cr Lc H1 → Same H1 H2 → Cr Lc H2 := fun {Lc H1 H2} ⟨n, kF, as, c1, c2, c3, c4, c5⟩ s => ⟨n.same s, kF, as, c1.same s, c2.same s, s _ _ c3, c4, c5.same s⟩
    refine ⟨_, rfl, by decide, by decide, for_range (fun i σ H' => ∃ v4 v5 v6 v7, σ = St0 v4 v5 v6 v7 ∧ Cr (lawW ties st i) H') ⟨none, none, none, none, rfl, n5, _, [a], D3.same sL, (FdR.cons we .nil).same sL, upd_same, rfl, fun i b u e1 e2 => ?_⟩ ?_ ?_⟩
    · match i, e1, e2 with
      | 0, e1, e2 =>
        obtain rfl : a = b := Option.some.inj e1
        obtain rfl : st = u := Option.some.inj e2
        exact n5.st ha
    · rintro i σ H1 hi ⟨v4, v5, v6, v7, rfl, C1⟩
      have hi : i < 6000 := hi
      have M := lawW_mid Y i
      obtain ⟨n1, kF, as, DF, RF, hL1, hal, hly⟩ := id C1
      have hLb := lawW_bound Y h5 hlow i
      rw [Int.zero_add]
      refine ⟨_, rfl, _, rfl, _, rfl, _, rfl, _, _, rfl, rfl, _, rfl, L, _, rfl, .inl (.inl hL1), fun p hp => ?_⟩
      have sp := same_new (HO.lst (cutV (as.map V.ref) (some (i : Int)) (some ((i : Int) + 1)))) hp
      have Cp := Cr_same C1 sp
      have hpc : (upd H1 p (.lst (cutV (as.map V.ref) (some (i : Int)) (some ((i : Int) + 1))))) p = some (.lst (((as.map V.ref).drop i).take 1)) := by rw [upd_same, cut1]
      refine ⟨p, rfl, ⟨_, .inl (.inl hpc)⟩, for_list (K := K) (a := p) (xs := ((as.map V.ref).drop i).take 1) (fun j σ H2 => ∃ v5 v6 v7, σ = St0 (some (iv i)) v5 v6 v7 ∧ H2 p = some (.lst (((as.map V.ref).drop i).take 1)) ∧ (j = 0 → ∀ b xs, TupH H1 b xs → TupH H2 b xs) ∧ Cr (if j = 0 then lawW ties st i else lawW ties st (i + 1)) H2)
        ⟨v5, v6, v7, rfl, hpc, (fun _ b xs q => q.ext fun o e => sp _ o e), by rw [if_pos rfl]; exact Cp⟩ (fun j σ H2 _ ⟨_, _, _, _, q, _⟩ => .inl (.inl q)) ?_ ?_⟩
      · rintro j x σ H2 hj ⟨v5, v6, v7, rfl, hp2, hk2, C2⟩
        have hj0 : j = 0 := by
          have := (List.getElem?_eq_some_iff.mp hj).1
          rw [List.length_take] at this
          omega
        subst hj0
        rw [if_pos rfl] at C2
        have hx : (as.map V.ref)[i]? = some x := by
          rw [List.getElem?_take, if_pos (by decide), List.getElem?_drop, Nat.add_zero] at hj
          exact hj
        obtain ⟨one, h1a, rfl⟩ := get_ref hx
        have hil : i < (lawW ties st i).length := by rw [← hal]; exact (List.getElem?_eq_some_iff.mp h1a).1
        obtain ⟨e, he⟩ : ∃ e, (lawW ties st i)[i]? = some e := ⟨_, List.getElem?_eq_getElem hil⟩
        have hem := List.mem_of_getElem? he
        have hRe := M.rn e hem
        have Y1 := Y.run hRe
        have huk := hRe.ok Y
        have hul := lmid_le M hem
        have eN : lawW ties st (i + 1) = (slidesOf ties e.1).foldl (addL e.1 e.2) (lawW ties st i) := by
          show stepL ties (lawW ties st i) i = _
          unfold stepL
          rw [he]
        have hNb := lawW_bound Y h5 hlow (i + 1)
        have hone2 : StAt H2 one e.1 := hk2 rfl _ _ (hly i one e.1 h1a (by rw [List.getElem?_map, he]; rfl))
        have n2 := C2.1
        refine ⟨_, rfl, _, rfl, y, t, one, n, g, ties, e.1, rfl, n2.yd hy, n2.wd ht, hlen, hone2, by rw [Y1.len]; exact Y1.ties, by rw [Y1.len]; omega, fun l H3 s3 hl0 ⟨bs, hB3, hP3⟩ => ?_⟩
        refine ⟨l, rfl, ⟨_, .inl (.inl hB3)⟩, for_list (K := K) (a := l) (xs := bs.map V.ref) (fun k σ H4 => ∃ v6 v7, σ = St0 (some (iv i)) (some (.ref one)) v6 v7 ∧ H4 l = some (.lst (bs.map V.ref)) ∧ PrsAt H4 bs (slidesOf ties e.1) ∧ H4 p = some (.lst (((as.map V.ref).drop i).take 1)) ∧ StAt H4 one e.1 ∧ Cr (((slidesOf ties e.1).take k).foldl (addL e.1 e.2) (lawW ties st i)) H4)
          ⟨v6, v7, rfl, hB3, hP3, s3 _ _ hp2, hone2.same s3, Cr_same C2 s3⟩ (fun k σ H4 _ ⟨_, _, _, q, _⟩ => .inl (.inl q)) ?_ ?_⟩
        · rintro k x σ H4 hk ⟨v6, v7, rfl, hB4, hP4, hp4, hone4, C4⟩
          obtain ⟨sa, hsa, rfl⟩ := get_ref hk
          have hkl : k < (slidesOf ties e.1).length := by rw [← hP4.1]; exact (List.getElem?_eq_some_iff.mp hsa).1
          obtain ⟨sl, hsl⟩ : ∃ sl, (slidesOf ties e.1)[k]? = some sl := ⟨_, List.getElem?_eq_getElem hkl⟩
          have hslAt : SlAt H4 sa sl := hP4.2 k sa sl hsa hsl
          have hslm := List.mem_of_getElem? hsl
          obtain ⟨q1, q2, q3, q4⟩ := mem_slidesOf.mp hslm
          have q5 : sl.2 < e.1.length := by rw [Y1.len]; exact near_lt Y1.ties q3
          have q6 : sl.1 ≠ sl.2 := fun z => by rw [z, q4] at q2; cases q2
          refine ⟨_, rfl, _, rfl, one, sa, e.1, sl, rfl, hone4, hslAt, q1, q5, q6, by rw [Y1.len]; omega, fun aO H5 s5 hO0 hOF => ?_⟩
          have hO : StAt H5 aO (slid e.1 sl) := hOF.tup
          have C5 := Cr_same C4 s5
          have stepE : ((slidesOf ties e.1).take (k + 1)).foldl (addL e.1 e.2) (lawW ties st i) = addL e.1 e.2 (((slidesOf ties e.1).take k).foldl (addL e.1 e.2) (lawW ties st i)) sl := foldl_snoc _ _ hsl
          have hLk := addL_pre (one := e.1) (w := e.2) (slidesOf ties e.1) (lawW ties st i) k
          rw [← eN] at hLk
          have ndk := addL_nd (one := e.1) (w := e.2) ((slidesOf ties e.1).take k) (lawW ties st i) M.nd
          have hek := addL_keep (one := e.1) (w := e.2) ((slidesOf ties e.1).take k) (lawW ties st i) e hem
          generalize ((slidesOf ties e.1).take k).foldl (addL e.1 e.2) (lawW ties st i) = Lk at C5 stepE hLk ndk hek
          obtain ⟨n5, k5, as5, DF5, RF5, hL5, hal5, hly5⟩ := id C5
          refine ⟨_, rfl, _, rfl, aO, dF, slid e.1 sl, k5, rfl, rfl, DF5, hO, _, rfl, ?_⟩
          rw [RF5.has]
          cases hk : hasK Lk (slid e.1 sl) with
          | true =>
            refine iteF ⟨_, _, rfl, s5 _ _ hB4, hP4.same s5, s5 _ _ hp4, hone4.same s5, ?_⟩
            rw [stepE, addL_old hk]
            exact C5
          | false =>
            refine iteT ?_
            obtain ⟨z1, z2⟩ | ⟨ka, va, u', z1, z2, hwu⟩ := RF5.at e.1
            · rw [getW_mem ndk hek] at z2; cases z2
            rw [getW_mem ndk hek] at z2
            obtain rfl : e.2 = u' := Option.some.inj z2
            obtain ⟨us, hus, hup⟩ := id hwu
            have hst5 : StAt H5 one e.1 := hone4.same s5
            refine ⟨_, rfl, _, rfl, dF, one, e.1, k5, (ka, va), rfl, rfl, DF5, hst5, z1, _, rfl, by show 1 ≤ sizeLine; decide, fun T6 hT6 => ?_⟩
            have s6 : Same H5 (upd H5 T6 (.tup [.ref sa])) := same_new _ hT6
            have hsl6 : SlAt (upd H5 T6 (.tup [.ref sa])) sa sl := s6 _ _ (s5 _ _ hslAt)
            have hLk1 : Lk.length ≤ 3125 := Nat.le_trans hLk hNb
            have hkl : k5.length < 4000 := by rw [RF5.len]; omega
            have tail : ∀ (aw : Addr) (H7 : Hp) (ep : Nat), Same H5 H7 → WdAt H7 aw (e.2 ++ [sl]) → (upd H7 dF (DMo P w dF (putM k5 (slid e.1 sl) aO aw) ep)) L = some (.lst (as5.map V.ref)) ∧
                ((upd (upd H7 dF (DMo P w dF (putM k5 (slid e.1 sl) aO aw) ep)) L (.lst (as5.map V.ref ++ [.ref aO]))) l = some (.lst (bs.map V.ref)) ∧ PrsAt (upd (upd H7 dF (DMo P w dF (putM k5 (slid e.1 sl) aO aw) ep)) L (.lst (as5.map V.ref ++ [.ref aO]))) bs (slidesOf ties e.1) ∧ (upd (upd H7 dF (DMo P w dF (putM k5 (slid e.1 sl) aO aw) ep)) L (.lst (as5.map V.ref ++ [.ref aO]))) p = some (.lst (((as.map V.ref).drop i).take 1)) ∧ StAt (upd (upd H7 dF (DMo P w dF (putM k5 (slid e.1 sl) aO aw) ep)) L (.lst (as5.map V.ref ++ [.ref aO]))) one e.1 ∧ Cr (((slidesOf ties e.1).take (k + 1)).foldl (addL e.1 e.2) (lawW ties st i)) (upd (upd H7 dF (DMo P w dF (putM k5 (slid e.1 sl) aO aw) ep)) L (.lst (as5.map V.ref ++ [.ref aO])))) := by
              intro aw H7 ep s7 hw7
              have n7 := n5.same s7
              have DF7 := DF5.same s7
              have RF7 := RF5.same s7
              have hO7 := hO.same s7
              obtain ⟨ep0, h0⟩ := DF7.at_
              have hLF : ∀ {c : Addr} {xs : List V}, H7 c = some (.lst xs) → c ≠ dF := fun {c xs} q z => by
                rw [z, h0] at q; unfold DMo at q; cases q
              have hL7 := s7 _ _ hL5
              have hl7 := s7 _ _ (s5 _ _ hB4)
              have hp7 := s7 _ _ (s5 _ _ hp4)
              have hlL : l ≠ L := fun z => by
                obtain ⟨_, _, _, _, _, q, _⟩ := C2
                rw [z, q] at hl0; cases hl0
              have hpL : p ≠ L := fun z => by rw [z, hL1] at hp; cases hp
              have hL8 : (upd H7 dF (DMo P w dF (putM k5 (slid e.1 sl) aO aw) ep)) L = some (.lst (as5.map V.ref)) := by rw [upd_ne (hLF hL7)]; exact hL7
              have tk : ∀ {b : Addr} {xs : List V}, TupH H7 b xs → TupH (upd (upd H7 dF (DMo P w dF (putM k5 (slid e.1 sl) aO aw) ep)) L (.lst (as5.map V.ref ++ [.ref aO]))) b xs := fun {b xs} q => by
                have q8 := tupH_put (o := DMo P w dF (putM k5 (slid e.1 sl) aO aw) ep) h0 q
                refine q8.to (upd_ne ?_)
                rintro rfl
                rcases q8 with h | ⟨o, h⟩ <;> rw [hL8] at h <;> cases h
              have tk2 : ∀ {b : Addr} {xs : List V}, H7 b = some (.tup xs) → (upd (upd H7 dF (DMo P w dF (putM k5 (slid e.1 sl) aO aw) ep)) L (.lst (as5.map V.ref ++ [.ref aO]))) b = some (.tup xs) := fun {b xs} q => by
                have q8 := tup_put (o := DMo P w dF (putM k5 (slid e.1 sl) aO aw) ep) h0 q
                rw [upd_ne (fun z => by rw [z, hL8] at q8; cases q8)]
                exact q8
              refine ⟨hL8, by rw [upd_ne hlL, upd_ne (hLF hl7)]; exact hl7, ((hP4.same s5).same s7).ext fun _ _ q => tk2 q, by rw [upd_ne hpL, upd_ne (hLF hp7)]; exact hp7, tk (hst5.same s7), (n7.put hdF h0 dmo_tbl (fun q => code_ne_dm)).put hL0 hL8 (fun ps z => by cases z) (fun q => lst_ne_code), putM k5 (slid e.1 sl) aO aw, as5 ++ [aO], ?_, ?_, by rw [upd_same, List.map_append]; rfl, ?_, ?_⟩
              · exact (DF7.put hkl hO7).ext (upd_ne (hLF hL7).symm) fun b xs q => q.to (upd_ne (by
                  rintro rfl
                  rcases q with h | ⟨o, h⟩ <;> rw [hL8] at h <;> cases h))
              · rw [stepE, addL_new hk, ← putW_new hk]
                exact (RF7.put hw7).ext fun b x h => h.ext fun _ _ q => tk2 q
              · rw [stepE, addL_new hk, List.length_append, List.length_append, hal5]; rfl
              · rw [stepE, addL_new hk, List.map_append]
                exact LyE.snoc (by rw [List.length_map]; exact hal5) ((hly5.same s7).tup fun b xs q => tk q) (tk hO7)
            have hzL : as5.length < sizeLine := by rw [hal5, sizeLine_eq]; omega
            refine ⟨va, T6, us.map V.ref, [.ref sa], rfl, rfl, SqT.of (s6 _ _ hus), SqT.of upd_same, ?_, fun he0 => ?_, fun _ z => (nomatch z), fun he0 _ p6 hp6 => ?_⟩
            · rw [List.length_map, hup.1, sizeLine_eq]; show e.2.length + 1 ≤ _; omega
            · have hu0 : e.2 = [] := by
                have h1 := hup.1
                rw [List.map_eq_nil_iff.mp he0] at h1
                exact List.length_eq_zero_iff.mp h1.symm
              have hw6 : WdAt (upd H5 T6 (.tup [.ref sa])) T6 (e.2 ++ [sl]) := ⟨[sa], upd_same, by rw [hu0]; exact PrsAt.one hsl6⟩
              refine ⟨_, rfl, _, rfl, dF, aO, T6, slid e.1 sl, k5, rfl, rfl, rfl, DF5.same s6, hkl, hO.same s6, fun ep => ?_⟩
              obtain ⟨t1, t2⟩ := tail T6 _ ep s6 hw6
              exact ⟨_, rfl, .inl ⟨rfl, _, .inl (.inl t1)⟩, _, rfl, L, _, _, rfl, rfl, t1, by rw [List.length_map]; exact hzL, _, _, rfl, t2⟩
            · have s7 : Same (upd H5 T6 (.tup [.ref sa])) (upd (upd H5 T6 (.tup [.ref sa])) p6 (.tup (us.map V.ref ++ [.ref sa]))) := same_new _ hp6
              have hw7 : WdAt (upd (upd H5 T6 (.tup [.ref sa])) p6 (.tup (us.map V.ref ++ [.ref sa]))) p6 (e.2 ++ [sl]) := ⟨us ++ [sa], by rw [upd_same, List.map_append]; rfl, ((hup.same s6).same s7).app (PrsAt.one (s7 _ _ hsl6))⟩
              refine ⟨_, rfl, _, rfl, dF, aO, p6, slid e.1 sl, k5, rfl, rfl, rfl, (DF5.same s6).same s7, hkl, (hO.same s6).same s7, fun ep => ?_⟩
              obtain ⟨t1, t2⟩ := tail p6 _ ep (s6.trans s7) hw7
              exact ⟨_, rfl, .inl ⟨rfl, _, .inl (.inl t1)⟩, _, rfl, L, _, _, rfl, rfl, t1, by rw [List.length_map]; exact hzL, _, _, rfl, t2⟩
        · rintro σ H4 ⟨v6, v7, rfl, hB4, hP4, hp4, hone4, C4⟩
          rw [List.length_map, hP4.1, List.take_length, ← eN] at C4
          exact ⟨_, _, _, rfl, hp4, (fun z => by cases z), by rw [if_neg (Nat.succ_ne_zero 0)]; exact C4⟩
      · rintro σ H2 ⟨v5, v6, v7, rfl, hp2, hk2, C2⟩
        refine ⟨_, _, _, _, rfl, ?_⟩
        by_cases hlt : i < as.length
        · rw [if_neg (by rw [List.length_take, List.length_drop, List.length_map]; omega)] at C2
          exact C2
        · rw [if_pos (by rw [List.length_take, List.length_drop, List.length_map]; omega)] at C2
          have : lawW ties st (i + 1) = lawW ties st i := by
            show stepL ties (lawW ties st i) i = _
            unfold stepL
            rw [List.getElem?_eq_none (by omega)]
          rw [this]
          exact C2
    · rintro σ H1 ⟨v4, v5, v6, v7, rfl, n1, kF, as, DF, RF, _⟩
      exact ⟨_, rfl, k dF kF _ n1 hdF DF RF⟩
end
end K15
set_option autoImplicit false
set_option linter.all false
set_option Elab.async false
set_option maxRecDepth 100000
set_option maxHeartbeats 4000000
/-! The law's defs: a drawn standing. -/
namespace K15
open PySem PySem.Spec PyProof.Rows L2 LamX NdefX
/-- all kept but the row -/
def Kr (r : Addr) (H H' : Hp) : Prop := ∀ b o, b ≠ r → H b = some o → H' b = some o
theorem Kr.refl {r : Addr} {H : Hp} : Kr r H H := fun _ _ _ e => e
theorem Kr.trans {r : Addr} {H H1 H2 : Hp} (a : Kr r H H1) (b : Kr r H1 H2) : Kr r H H2 := fun c o n e => b c o n (a c o n e)
theorem Kr.same {r : Addr} {H H1 H2 : Hp} (a : Kr r H H1) (b : Same H1 H2) : Kr r H H2 := fun c o n e => b c o (a c o n e)
theorem Kr.bt {r : Addr} {H H1 H2 : Hp} (a : Kr r H H1) (b : Bt r H1 H2) : Kr r H H2 := fun c o n e => by rw [b c n]; exact a c o n e
theorem Kr.put {r x : Addr} {H H1 : Hp} {o : HO} (a : Kr r H H1) (hx : H x = none) : Kr r H (L2.upd H1 x o) := fun c q n e => by rw [upd_ne (ne_of_none e hx)]; exact a c q n e
def RowR (H : Hp) (r sc : Addr) : Prop := ∃ (a b c : Int), 0 ≤ a ∧ H r = some (.lst (rowL sc a b c))
theorem RowAt.r {K : PySem.W.Frag} {H : Hp} {r sc : Addr} (h : RowAt K H r sc) : RowR H r sc := let ⟨a, b, c, _, h0, h1, _⟩ := h; ⟨a, b, c, h0, h1⟩
theorem RowAt.some {K : PySem.W.Frag} {H : Hp} {r sc : Addr} (h : RowAt K H r sc) : ∃ o, H r = some o := let ⟨_, _, _, _, _, h1, _⟩ := h; ⟨_, h1⟩
theorem RowAt.kr {K : PySem.W.Frag} {H H' : Hp} {r sc : Addr} (h : RowAt K H r sc) (k : Kr r H H') (g : RowR H' r sc) : RowAt K H' r sc := by
  obtain ⟨a, b, c, ns, h0, h1, hs⟩ := h
  obtain ⟨a', b', c', g0, g1⟩ := g
  refine ⟨a', b', c', ns, g0, g1, ?_⟩
  rcases hs with (s | ⟨z, s⟩) | s
  · exact .inl (.inl (k _ _ (row_ne h1 s (.inl rfl)) s))
  · exact .inl (.inr ⟨z, k _ _ (row_ne h1 s (.inr ⟨z, rfl⟩)) s⟩)
  · exact .inr s
theorem RowR.same {H H' : Hp} {r sc : Addr} (h : RowR H r sc) (s : Same H H') : RowR H' r sc := let ⟨a, b, c, h0, h1⟩ := h; ⟨a, b, c, h0, s _ _ h1⟩
theorem RowR.put {H : Hp} {r sc x : Addr} {o : HO} (h : RowR H r sc) (hx : r ≠ x) : RowR (L2.upd H x o) r sc := let ⟨a, b, c, h0, h1⟩ := h; ⟨a, b, c, h0, by rw [upd_ne hx]; exact h1⟩
/-- books and empty places, from which a standing is drawn -/
def stock (n h : Nat) : Sd := (List.range (n - h)).map some ++ List.replicate h none
theorem flat_rep (x : V) : ∀ h : Nat, (List.replicate h [x]).flatten = List.replicate h x
  | 0 => rfl
  | h + 1 => by rw [List.replicate_succ, List.flatten_cons, flat_rep x h]; rfl
theorem stock_map {n h : Nat} (hle : h ≤ n) : rgV 0 ((n : Int) - (h : Int)) ++ (List.replicate (h : Int).toNat [V.non]).flatten = (stock n h).map ov := by
  unfold stock rgV
  rw [List.map_append, List.map_map, flat_rep, Int.toNat_natCast, List.map_replicate]
  have e : ((n : Int) - (h : Int) - 0).toNat = n - h := by omega
  rw [e]
  congr 1
  refine List.map_congr_left fun i _ => ?_
  show V.int (0 + (i : Int)) = V.int (i : Int)
  rw [Int.zero_add]
theorem stock_len {n h : Nat} (hle : h ≤ n) : (stock n h).length = n := by
  unfold stock
  rw [List.length_append, List.length_map, List.length_range, List.length_replicate]; omega
theorem erase_map {α β : Type} (f : α → β) : ∀ (L : List α) (v : Nat), (L.map f).eraseIdx v = (L.eraseIdx v).map f
  | [], v => by cases v <;> rfl
  | a :: l, 0 => rfl
  | a :: l, v + 1 => by
    show f a :: (l.map f).eraseIdx v = f a :: (l.eraseIdx v).map f
    rw [erase_map f l v]
theorem pick_perm {α : Type} : ∀ {L : List α} {v : Nat} {x : α}, L[v]? = some x → (x :: L.eraseIdx v).Perm L
  | a :: l, 0, x, h => by
    obtain rfl := Option.some.inj h
    exact List.Perm.refl _
  | a :: l, v + 1, x, h => by
    show (x :: a :: l.eraseIdx v).Perm (a :: l)
    exact (List.Perm.swap a x _).trans ((pick_perm (L := l) (v := v) h).cons a)
theorem pop_perm {F L : Sd} {v : Nat} {x : Option Nat} (h : L[v]? = some x) : ((F ++ [x]) ++ L.eraseIdx v).Perm (F ++ L) := by
  rw [List.append_assoc]
  exact List.Perm.append_left F (pick_perm h)
def spLStand (K : PySem.W.Frag) : Sp := fun vs H Q _ => ∃ (r sc : Addr) (n h : Nat), vs = [.ref r, iv n, iv h] ∧ RowAt K H r sc ∧ n ≤ 10 ∧ h ≤ n ∧ ∀ (T : Addr) (H' : Hp) (st : Sd), Kr r H H' → RowR H' r sc → H T = none → st.Perm (stock n h) → FzAt H' T (st.map ov) → Q (.ref T) H'
section
variable {P : Program} {w : World} {K : PySem.W.Frag} {mg : Str → Option Value} {base : Heap}
theorem scLStand : FnScope ["_law_row", "_law_places", "_law_holes", "_law_left", "_law_found", "_law_place"] ["_law_row", "_law_places", "_law_holes"] (defScope sLStand) := ⟨rfl, rfl, rfl, by decide +kernel, rfl, by decide +kernel, by decide +kernel⟩
theorem ok_lstand {f fT : Addr} {fd fdT : FuncData} (F : Fun K "_law_standing" "_law_standing" sLStand f fd) (B : Bl mg) (T : Dn P w K mg base CX0 1 "_law_taken" ["_law_row", "_law_many"] (spTaken K) fT fdT) : FnOk P w K mg base CX0 2 f fd ["_law_row", "_law_places", "_law_holes"] (spLStand K) := by
  refine F.ok scLStand (fun vs H Q E h => ?_) (fun cdv A outer s H vs Q E hr h => ?_)
  · obtain ⟨r, sc, n, hh, rfl, _⟩ := h
    rfl
  · obtain ⟨r, sc, n, hh, rfl, hR, h10, hle, k⟩ := h
    refine ⟨_, pss_cons (ps_par (i := 3) (j := 4) rfl scLStand.nd rfl rfl (by decide) rfl rfl (pa_cons (pe_op op_cat (pe_listRg rfl (by rfl) B.list (prg_1 (by rfl) B.range (pe_op op_sub (pv 1) (pv 2)))) (pe_op op_rep (pe_lst (pa_cons pe_non pa_nil)) (pv 2))) (pa_cons (pe_lst pa_nil) pa_nil)) rfl)
      (pss_cons (ps_for PassesOwn.never rfl (pi_range1 (by rfl) B.range (pa_cons (pv 1) pa_nil)) (pg_name (i := 5) scLStand.nd rfl (Or.inl rfl))
        (pss_one (ps_expr (pe_bm PySem.F.plainAttrs_list PySem.F.slot_list_append PySem.F.type_list_append mt_append (pv 4) (pa_cons (pe_bm PySem.F.plainAttrs_list PySem.F.slot_list_pop PySem.F.type_list_pop mt_popAt (pv 3) (pa_cons (pe_call T.ok hr rfl T.mgf T.kp T.b .nil pass0 (pa_cons (pv 0) (pa_cons (pe_callB call_len_seq (by rfl) B.len PySem.boot_len (pa_cons (pv 3) pa_nil)) pa_nil))) pa_nil)) pa_nil)))))
      (pss_one (ps_ret (pe_callTy call_tuple_fz (by rfl) B.tuple (by decide +kernel) (pa_cons (pv 4) pa_nil))))), ?_⟩
    obtain ⟨or_, hor⟩ := hR.some
    refine ⟨_, rfl, _, rfl, _, _, rfl, rfl, _, rfl, ⟨by decide, by decide, by omega, by omega, by omega⟩, fun q1 hq1 => ?_⟩
    have hd : ∀ {c : Addr} {H1 : Hp}, Same H H1 → H1 c = none → c ≠ r := fun {c H1} s hc z => by rw [z, s _ _ hor] at hc; cases hc
    have s1 : Same H (upd H q1 (.lst (rgV 0 ((n : Int) - (hh : Int))))) := same_new _ hq1
    refine ⟨by show 1 ≤ sizeLine; decide, fun q2 hq2 => ⟨_, rfl, q2, _, [.non], rfl, rfl, upd_same, by omega, by omega, by rw [Int.toNat_natCast, sizeLine_eq]; show 1 * hh ≤ _; omega, fun q3 hq3 => ?_⟩⟩
    have s2 := s1.trans (same_new (HO.lst [V.non]) hq2)
    have s3 := s2.trans (same_new (HO.lst (List.replicate (hh : Int).toNat [V.non]).flatten) hq3)
    refine ⟨q1, q3, rgV 0 ((n : Int) - (hh : Int)), (List.replicate (hh : Int).toNat [V.non]).flatten, rfl, rfl, same_new _ hq3 _ _ (same_new _ hq2 _ _ upd_same), upd_same, by rw [flat_rep, List.length_replicate, rgV_length, sizeLine_eq]; omega, fun Lf hLf => ?_⟩
    rw [stock_map hle]
    have s4 := s3.trans (same_new (HO.lst ((stock n hh).map ov)) hLf)
    refine ⟨Nat.zero_le _, fun Ff hFf => ⟨_, _, rfl, ?_⟩⟩
    have s5 := s4.trans (same_new (HO.lst []) hFf)
    have hLf0 := s3.free hLf
    have hFf0 := s4.free hFf
    have hFL : Ff ≠ Lf := fun z => by rw [z, upd_same] at hFf; cases hFf
    have hLr := hd s3 hLf
    have hFr := hd s4 hFf
    let PV : Nat → L2.St → Hp → Prop := fun i σ H' => ∃ (v5 : Option V) (L Fd_ : Sd), σ = [some (.ref r), some (iv n), some (iv hh), some (.ref Lf), some (.ref Ff), v5] ∧ Kr r H H' ∧ RowR H' r sc ∧ H' Lf = some (.lst (L.map ov)) ∧ H' Ff = some (.lst (Fd_.map ov)) ∧ (Fd_ ++ L).Perm (stock n hh) ∧ Fd_.length = i
    refine ⟨_, rfl, _, rfl, by omega, by omega, for_range PV ⟨none, stock n hh, [], rfl, Kr.refl.same s5, hR.r.same s5, by rw [upd_ne hFL.symm, upd_same], upd_same, List.Perm.refl _, rfl⟩ ?_ ?_⟩
    · rintro i σ H1 hi ⟨v5, L, Fs, rfl, kr, hr1, hL1, hF1, hp, hl⟩
      have hi : i < n := by rw [Int.toNat_natCast] at hi; exact hi
      have hLl : L.length = n - i := by
        have := hp.length_eq
        rw [List.length_append, stock_len hle] at this
        omega
      refine ⟨_, rfl, .inl ⟨rfl, _, .inl (.inl hF1)⟩, _, rfl, .inl ⟨rfl, _, .inl (.inl hL1)⟩, _, rfl, _, rfl, Lf, _, rfl, .inl (.inl (.inl hL1)), r, sc, L.length, by rw [List.length_map]; rfl, hR.kr kr hr1, by omega, by omega, fun v H2 hv bt hR2 => ?_⟩
      have hL2 : H2 Lf = some (.lst (L.map ov)) := by rw [bt Lf hLr]; exact hL1
      have hF2 : H2 Ff = some (.lst (Fs.map ov)) := by rw [bt Ff hFr]; exact hF1
      obtain ⟨x, hx⟩ : ∃ x, L[v]? = some x := ⟨_, List.getElem?_eq_getElem hv⟩
      refine ⟨Lf, _, _, v, ov x, rfl, rfl, hL2, by omega, by omega, seqIndex_of (by omega) (by rw [List.length_map]; omega), by rw [List.getElem?_map, hx]; rfl, ?_⟩
      refine ⟨Ff, _, _, rfl, rfl, by rw [upd_ne hFL]; exact hF2, by rw [List.length_map, sizeLine_eq]; omega, ?_⟩
      refine ⟨_, L.eraseIdx v, Fs ++ [x], rfl, ((kr.bt bt).put hLf0).put hFf0, (hR2.r.put hLr.symm).put hFr.symm, by rw [upd_ne hFL.symm, upd_same, erase_map], by rw [upd_same, List.map_append]; rfl, (pop_perm hx).trans hp, by rw [List.length_append, hl]; rfl⟩
    · rintro σ H1 ⟨v5, L, Fs, rfl, kr, hr1, hL1, hF1, hp, hl⟩
      rw [Int.toNat_natCast] at hl
      have hL0 : L = [] := by
        have := hp.length_eq
        rw [List.length_append, stock_len hle] at this
        exact List.length_eq_zero_iff.mp (by omega)
      rw [hL0, List.append_nil] at hp
      refine ⟨_, rfl, Ff, _, rfl, .inl (.inl hF1), fun T H2 hT s2 hF => ?_⟩
      refine k T H2 Fs (kr.same s2) (hr1.same s2) ?_ hp hF
      cases e : H T with
      | none => rfl
      | some o =>
        by_cases q : T = r
        · obtain ⟨_, _, _, _, h⟩ := hr1
          rw [← q, hT] at h; cases h
        · rw [kr T o q e] at hT; cases hT
end
end K15
set_option autoImplicit false
set_option linter.all false
set_option Elab.async false
set_option maxRecDepth 100000
set_option maxHeartbeats 4000000
/-! The law's defs: a drawn yard. -/
namespace K15
open PySem PySem.Spec PyProof.Rows L2 LamX NdefX
/-! ### the plain side -/
def slOf (p : List Int) : Sl := ((p.getD 0 0).toNat, (p.getD 1 0).toNat)
theorem slOf_I (s : Sl) : slOf (slI s) = s := by
  show ((s.1 : Int).toNat, (s.2 : Int).toNat) = s
  rw [Int.toNat_natCast, Int.toNat_natCast]
theorem slI_inj {s t : Sl} (h : slI s = slI t) : s = t := by rw [← slOf_I s, h, slOf_I]
theorem nd_len {n : Nat} {ws : List Sl} (h : TiesOk n ws) (hn : n ≤ 5) (nd : ws.Nodup) : ws.length ≤ 30 := by
  have h1 : (ws.map fun s => 5 * s.1 + s.2).Nodup := by
    refine List.pairwise_map.mpr (List.Pairwise.imp_of_mem (fun {a b} ha hb hne z => hne ?_) nd)
    have h1 := h a ha
    have h2 := h b hb
    exact Prod.ext (by omega) (by omega)
  have h2 := nodup_sub (m := List.range 25) h1 fun x hx => by
    obtain ⟨s, hs, rfl⟩ := List.mem_map.mp hx
    have := h s hs
    exact List.mem_range.mpr (by omega)
  rw [List.length_map, List.length_range] at h2
  omega
/-- sorted and without doubles -/
theorem asc_of {B : Int} {n : Nat} {L : List (Addr × List Int)} {ws : List Sl} (hm : L.map (·.2) = ws.map slI) (nd : (L.map (·.2)).Nodup) (pw : L.Pairwise (fun q r => TS.code B q.2 ≤ TS.code B r.2)) (hb : ∀ s ∈ ws, TS.Bd B (slI s)) : AscT ws ∧ ws.Nodup := by
  rw [hm] at nd
  have pw2 : (ws.map slI).Pairwise (fun q r => TS.code B q ≤ TS.code B r) := by
    rw [← hm]
    exact List.pairwise_map.mpr pw
  have pw3 := List.pairwise_map.mp pw2
  have nd3 := List.pairwise_map.mp nd
  refine ⟨fun i s t hs ht => ?_, nd3.imp fun h z => h (by rw [z])⟩
  have hi : i + 1 < ws.length := (List.getElem?_eq_some_iff.mp ht).1
  have c := List.pairwise_iff_getElem.mp pw3 i (i + 1) (by omega) hi (by omega)
  have d := List.pairwise_iff_getElem.mp nd3 i (i + 1) (by omega) hi (by omega)
  rw [(List.getElem?_eq_some_iff.mp hs).2, (List.getElem?_eq_some_iff.mp ht).2] at c d
  rcases L2.code_lex (hb s (List.mem_of_getElem? hs)) (hb t (List.mem_of_getElem? ht)) c with h | ⟨h, h'⟩
  · exact .inl (by omega)
  · refine .inr ⟨by omega, ?_⟩
    have : s.2 ≠ t.2 := fun z => d (congrArg slI (Prod.ext (by omega) z))
    omega
def Drawn (n : Nat) (ws : List Sl) : Prop := TiesOk n ws ∧ Conn n ws
theorem Drawn.sub {n : Nat} {ws us : List Sl} (d : Drawn n ws) (h1 : ∀ s ∈ us, s ∈ ws) (h2 : ∀ s ∈ ws, s ∈ us) : Drawn n us := ⟨fun s hs => d.1 s (h1 s hs), fun p h0 hn => let ⟨q, h3, h4⟩ := d.2 p h0 hn; ⟨q, h3, h2 _ h4⟩⟩
theorem Drawn.snoc {n : Nat} {ws : List Sl} (d : Drawn n ws) {s : Sl} (h : s.1 < s.2 ∧ s.2 < n) : Drawn n (ws ++ [s]) := ⟨fun u hu => by
  rcases List.mem_append.mp hu with q | q
  · exact d.1 u q
  · rw [List.mem_singleton.mp q]; exact h, fun p h0 hn => let ⟨q, h3, h4⟩ := d.2 p h0 hn; ⟨q, h3, List.mem_append_left _ h4⟩⟩
/-- the ring -/
def ringT (n : Nat) : List Sl := (List.range (n - 1)).map (fun p => (p, p + 1)) ++ [(0, n - 1)]
theorem ring_drawn {n : Nat} (h : 2 ≤ n) : Drawn n (ringT n) := by
  refine ⟨fun s hs => ?_, fun p h0 hn => ⟨p - 1, by omega, ?_⟩⟩
  · rcases List.mem_append.mp hs with q | q
    · obtain ⟨p, hp, rfl⟩ := List.mem_map.mp q
      have := List.mem_range.mp hp
      exact ⟨by show p < p + 1; omega, by show p + 1 < n; omega⟩
    · rw [List.mem_singleton.mp q]; exact ⟨by show 0 < n - 1; omega, by show n - 1 < n; omega⟩
  · refine List.mem_append_left _ (List.mem_map.mpr ⟨p - 1, List.mem_range.mpr (by omega), ?_⟩)
    exact Prod.ext rfl (by show p - 1 + 1 = p; omega)
theorem sort_pair {ns : List Int} {q p : Nat} (hq : q < p) (hp : ns.Perm [(p : Int), (q : Int)]) (hs : ns.Pairwise (· ≤ ·)) : ns.map V.int = [iv q, iv p] := by
  rw [sortN_ints (l := [p, q]) hp hs, sortN_two]
  unfold asc
  rw [if_neg (by show ¬ p ≤ q; omega)]
  rfl
/-- the trees: a lower neighbour each -/
def TreeT (k : Nat) (ws : List Sl) : Prop := ws.length = k ∧ ∀ i, i < k → ∃ q, q < i + 1 ∧ ws[i]? = some (q, i + 1)
theorem TreeT.drawn {n : Nat} {ws : List Sl} (h2 : 2 ≤ n) (h : TreeT (n - 1) ws) : Drawn n ws := by
  refine ⟨fun s hs => ?_, fun p h0 hn => ?_⟩
  · obtain ⟨i, hi, e⟩ := List.getElem_of_mem hs
    obtain ⟨q, hq, g⟩ := h.2 i (by rw [← h.1]; exact hi)
    rw [List.getElem?_eq_getElem hi, e] at g
    rw [Option.some.inj g]
    exact ⟨hq, by show i + 1 < n; rw [h.1] at hi; omega⟩
  · obtain ⟨q, hq, g⟩ := h.2 (p - 1) (by omega)
    have e : p - 1 + 1 = p := by omega
    rw [e] at g hq
    exact ⟨q, hq, List.mem_of_getElem? g⟩
theorem TreeT.snoc {k q : Nat} {ws : List Sl} (h : TreeT k ws) (hq : q < k + 1) : TreeT (k + 1) (ws ++ [(q, k + 1)]) := by
  refine ⟨by rw [List.length_append, h.1]; rfl, fun i hi => ?_⟩
  by_cases c : i < k
  · obtain ⟨q', a, b⟩ := h.2 i c
    exact ⟨q', a, by rw [List.getElem?_append_left (by rw [h.1]; exact c)]; exact b⟩
  · have : i = k := by omega
    subst this
    exact ⟨q, hq, by rw [List.getElem?_append_right (by rw [h.1]; exact Nat.le_refl _), h.1, Nat.sub_self]; rfl⟩
/-- the pairs -/
def PairT (n : Nat) (ws : List Sl) : Prop := ∀ s ∈ ws, s.1 < s.2 ∧ s.2 < n
end K15
set_option autoImplicit false
set_option linter.all false
set_option Elab.async false
set_option maxRecDepth 100000
set_option maxHeartbeats 4000000
/-! The law's defs: a drawn yard, the walk. -/
namespace K15
open PySem PySem.Spec PyProof.Rows L2 LamX NdefX
abbrev rTupK (K : PySem.W.Frag) : List V → Hp → VK → Prop := fun xs H Q => ∃ p ys, xs = [V.ref p] ∧ ((SqL K H p ys ∧ ∀ l, H l = none → Q (.ref l) (L2.upd H l (.tup ys))) ∨ (SqT K H p ys ∧ Q (.ref p) H))
def spLYard (K : PySem.W.Frag) : Sp := fun vs H Q _ => ∃ (r sc : Addr), vs = [.ref r, iv 5] ∧ RowAt K H r sc ∧ ∀ (y t : Addr) (n g : Nat) (ties : List Sl) (H' : Hp), Kr r H H' → RowR H' r sc → YardOk H' y t n g ties → n ≤ 5 → Q (.ref y) H'
theorem Kr.free {r : Addr} {H H' : Hp} (k : Kr r H H') {o : HO} (hr : H' r = some o) {b : Addr} (h : H' b = none) : H b = none := by
  cases e : H b with
  | none => rfl
  | some q =>
    by_cases z : b = r
    · rw [z, hr] at h; cases h
    · rw [k b q z e] at h; cases h
theorem RowR.ne {H : Hp} {r sc b : Addr} (h : RowR H r sc) (hb : H b = none) : b ≠ r := fun z => by
  obtain ⟨_, _, _, _, q⟩ := h
  rw [z, q] at hb; cases hb
theorem prs_bt {r sc : Addr} {H H' : Hp} {as : List Addr} {ws : List Sl} (h : PrsAt H as ws) (b : Bt r H H') (R : RowR H r sc) : PrsAt H' as ws := h.ext fun c xs q => by
  obtain ⟨_, _, _, _, e⟩ := R
  rw [b c (fun z => by rw [z, e] at q; cases q)]; exact q
theorem prs_upd {H : Hp} {D : Addr} {o : HO} {xs : List V} {as : List Addr} {ws : List Sl} (h : PrsAt H as ws) (e : H D = some (.lst xs)) : PrsAt (L2.upd H D o) as ws := h.ext fun c ys q => by
  rw [upd_ne (fun z => by rw [z, e] at q; cases q)]; exact q
/-- the keys of the set -/
def ksOf (as : List Addr) (ws : List Sl) : List (Addr × List Int) := (as.zip ws).map fun z => (z.1, slI z.2)
theorem ks_refs : ∀ {as : List Addr} {ws : List Sl}, as.length = ws.length → (ksOf as ws).map (fun p => V.ref p.1) = as.map V.ref
  | [], [], _ => rfl
  | [], _ :: _, h => by cases h
  | _ :: _, [], h => by cases h
  | a :: as, w :: ws, h => by
    show V.ref a :: (ksOf as ws).map (fun p => V.ref p.1) = V.ref a :: as.map V.ref
    rw [ks_refs (by simpa using h)]
theorem ks_len : ∀ {as : List Addr} {ws : List Sl}, as.length = ws.length → (ksOf as ws).length = ws.length := fun {as ws} h => by
  unfold ksOf
  rw [List.length_map, List.length_zip, h, Nat.min_self]
theorem ks_at {H : Hp} {as : List Addr} {ws : List Sl} (h : PrsAt H as ws) {p : Addr × List Int} (hp : p ∈ ksOf as ws) : ∃ s ∈ ws, p.2 = slI s ∧ H p.1 = some (.tup [iv s.1, iv s.2]) := by
  obtain ⟨z, hz, rfl⟩ := List.mem_map.mp hp
  obtain ⟨i, hi, e⟩ := List.getElem_of_mem hz
  have hi2 : i < as.length ∧ i < ws.length := by rw [List.length_zip] at hi; omega
  rw [List.getElem_zip] at e
  refine ⟨z.2, by rw [← e]; exact List.getElem_mem _, rfl, ?_⟩
  rw [← e]
  exact h.2 i _ _ (List.getElem?_eq_getElem hi2.1) (List.getElem?_eq_getElem hi2.2)
theorem ks_in {as : List Addr} {ws : List Sl} (h : as.length = ws.length) {s : Sl} (hs : s ∈ ws) : ∃ p ∈ ksOf as ws, p.2 = slI s := by
  obtain ⟨i, hi, e⟩ := List.getElem_of_mem hs
  have hz : i < (as.zip ws).length := by rw [List.length_zip, h, Nat.min_self]; exact hi
  refine ⟨(((as.zip ws)[i]).1, slI ((as.zip ws)[i]).2), List.mem_map.mpr ⟨_, List.getElem_mem hz, rfl⟩, ?_⟩
  show slI ((as.zip ws)[i]).2 = _
  rw [List.getElem_zip]
  show slI ws[i] = _
  rw [e]
/-- what is drawn, sorted -/
theorem yard_sorted {H : Hp} {n : Nat} {as : List Addr} {ws : List Sl} {L L' : List (Addr × List Int)} (hP : PrsAt H as ws) (d : Drawn n ws) (hn : n ≤ 5) (h1 : ∀ p ∈ L, p ∈ ksOf as ws) (h2 : ∀ p ∈ ksOf as ws, p.2 ∈ L.map (·.2)) (pm : L'.Perm L) (nd : (L'.map (·.2)).Nodup)
    (pw : L'.Pairwise (fun q r => TS.code 64 q.2 ≤ TS.code 64 r.2)) : ∃ us : List Sl, PrsAt H (L'.map (·.1)) us ∧ Drawn n us ∧ AscT us ∧ us.length ≤ 30 := by
  have hin : ∀ p ∈ L', ∃ s ∈ ws, p.2 = slI s ∧ H p.1 = some (.tup [iv s.1, iv s.2]) := fun p hp => ks_at hP (h1 p (pm.mem_iff.mp hp))
  have hm : L'.map (·.2) = (L'.map fun p => slOf p.2).map slI := by
    rw [List.map_map]
    refine List.map_congr_left fun p hp => ?_
    obtain ⟨s, _, e, _⟩ := hin p hp
    show p.2 = slI (slOf p.2)
    rw [e, slOf_I]
  have dd : Drawn n (L'.map fun p => slOf p.2) := by
    refine d.sub (fun s hs => ?_) (fun s hs => ?_)
    · obtain ⟨p, hp, rfl⟩ := List.mem_map.mp hs
      obtain ⟨s, h, e, _⟩ := hin p hp
      rw [e, slOf_I]
      exact h
    · obtain ⟨p, hp, e⟩ := ks_in hP.1 hs
      obtain ⟨q, hq, e2⟩ := List.mem_map.mp (h2 p hp)
      exact List.mem_map.mpr ⟨q, pm.mem_iff.mpr hq, by rw [e2, e, slOf_I]⟩
  have ab := asc_of (B := 64) (n := n) hm nd pw fun s hs m hmm => by
    have := dd.1 s hs
    rcases List.mem_cons.mp hmm with q | q
    · rw [q]; omega
    · rw [List.mem_singleton.mp q]; omega
  refine ⟨_, ⟨by rw [List.length_map, List.length_map], fun i a s e1 e2 => ?_⟩, dd, ab.1, nd_len dd.1 hn ab.2⟩
  rw [List.getElem?_map] at e1 e2
  cases e : L'[i]? with
  | none => rw [e] at e1; cases e1
  | some p =>
    rw [e] at e1 e2
    obtain rfl := Option.some.inj e1
    obtain rfl := Option.some.inj e2
    obtain ⟨s, _, e3, e4⟩ := hin p (List.mem_of_getElem? e)
    show H p.1 = some (.tup [iv (slOf p.2).1, iv (slOf p.2).2])
    rw [e3, slOf_I]
    exact e4
section
variable {P : Program} {w : World} {K : PySem.W.Frag} {mg : Str → Option Value} {base : Heap}
theorem turns {r sc : Addr} {v : Nat} {σ : L2.St} {H : Hp} {Q : VK} (h0 : σ[0]? = some (some (.ref r))) (h6 : σ[6]? = some (some (iv v))) (hR : RowAt K H r sc) (hq : ∀ (m : Nat) (H6 : Hp), m < 4 → Bt r H H6 → RowAt K H6 r sc → Q (iv m) H6) :
    tIf (tTest (tOp (rI0 fun i j => V.bl (decide (i < j))) (tVar 6) (tC (V.int 3)))) (tCall (spTaken K) [] E0 (tCons (tVar 0) (tCons (tC (V.int 4)) tNil))) (tC (V.int 0)) σ H Q := by
  refine ⟨_, h6, _, _, rfl, rfl, _, rfl, ?_⟩
  refine ite2 (fun _ => ?_) (fun _ => ?_)
  · exact ⟨_, h0, r, sc, 4, rfl, hR, by decide, by decide, fun m H6 hm bt hR6 => hq m H6 hm bt hR6⟩
  · exact hq 0 H (by decide) Bt.refl hR
theorem scLYard : FnScope ["_law_row", "_law_most", "_law_places", "_law_ties", "_law_pairs", "_law_one", "_law_way", "_law_turn", "_law_place", "_law_other"] ["_law_row", "_law_most"] (defScope sLYard) := ⟨rfl, rfl, rfl, by decide +kernel, rfl, by decide +kernel, by decide +kernel⟩
theorem ok_lyard {f fT fP : Addr} {fd fdT fdP : FuncData} (F : Fun K "_law_yard" "_law_yard" sLYard f fd) (B : Bl mg) (T : Dn P w K mg base CX0 1 "_law_taken" ["_law_row", "_law_many"] (spTaken K) fT fdT) (Pk : Dn P w K mg base CX0 2 "_law_pick" ["_law_row", "_law_things"] (spPick K) fP fdP) :
    FnOk P w K mg base CX0 3 f fd ["_law_row", "_law_most"] (spLYard K) := by
  refine F.ok scLYard (fun vs H Q E h => ?_) (fun cdv A outer s H vs Q E hr h => ?_)
  · obtain ⟨r, sc, rfl, _⟩ := h
    rfl
  · obtain ⟨r, sc, rfl, hR, k⟩ := h
    have hr1 : Room 1 (A.deeper (envOfC "_law_yard" (defScope sLYard) s.heap.objs.size f cdv)) := hr.mono (by decide)
    have hu64 : (A.deeper (envOfC "_law_yard" (defScope sLYard) s.heap.objs.size f cdv)).units + 64 < cLine := by have := hr.un; omega
    let NN : List Str := ["_law_row", "_law_most", "_law_places", "_law_ties", "_law_pairs", "_law_one", "_law_way", "_law_turn", "_law_place", "_law_other"]
    refine ⟨_, pss_cons (ps_set (i := 2) scLYard.nd rfl (Or.inl rfl) (pe_op op_add pe_int (pe_call T.ok hr1 rfl T.mgf T.kp T.b .nil pass0 (pa_cons (pv 0) (pa_cons (pe_op op_sub (pv 1) pe_int) pa_nil)))))
      (pss_cons (ps_setLc (i := 3) (own := [("_law_place", 8)]) (g := gName 8) rfl scLYard.nd rfl rfl (sw_true rfl rfl rfl (by decide +kernel)) (pi_range2 (by rfl) B.range (pa_cons pe_int (pa_cons (pv 2) pa_nil)))
          (blkOk_by (N := ["_law_row", "_law_most", "_law_places", "_law_ties", "_law_pairs", "_law_one", "_law_way", "_law_turn", "_law_place", "_law_other"]) (sc := defScope sLYard) (by decide +kernel))
          (fun _ _ _ _ _ => pg_name (i := 8) scLYard.nd rfl (Or.inl rfl)) (fun _ _ _ _ _ => pts_nil)
          (fun _ _ _ _ _ => pe_callTy (r := rTupK K) call_tuple_of (by rfl) B.tuple (by decide +kernel) (pa_cons (pe_callB (r := rSorted K) cr_sorted (by rfl) B.sorted (by decide +kernel) (pa_cons (pe_lst (pa_cons (pv 8) (pa_cons (pe_call (E := fun _ _ _ => False) T.ok hr1 rfl T.mgf T.kp T.b .nil pass0 (pa_cons (pv 0) (pa_cons (pv 8) pa_nil))) pa_nil))) pa_nil)) pa_nil)))
      (pss_cons (ps_set (i := 4) scLYard.nd rfl (Or.inl rfl) (pe_lst pa_nil))
      (pss_cons (ps_for PassesOwn.never rfl (pi_range1 (by rfl) B.range (pa_cons (pv 2) pa_nil)) (pg_name (i := 5) scLYard.nd rfl (Or.inr rfl))
        (pss_one (ps_set (i := 4) scLYard.nd rfl (Or.inl rfl) (pe_op op_cat (pv 4) (pe_lc (own := [("_law_other", 9)]) (g := gName 9) rfl scLYard.nd (pi_range2 (by rfl) B.range (pa_cons (pe_op op_add (pv 5) pe_int) (pa_cons (pv 2) pa_nil)))
          (blkOk_by (N := ["_law_row", "_law_most", "_law_places", "_law_ties", "_law_pairs", "_law_one", "_law_way", "_law_turn", "_law_place", "_law_other"]) (sc := defScope sLYard) (by decide +kernel))
          (fun _ _ _ _ _ => pg_name (i := 9) scLYard.nd rfl (Or.inl rfl)) (fun _ _ _ _ _ => pts_nil) (fun _ _ _ _ _ => pe_tup (pa_cons (pv 5) (pa_cons (pv 9) pa_nil))))))))
      (pss_cons (ps_set (i := 6) scLYard.nd rfl (Or.inl rfl) (pe_call T.ok hr1 rfl T.mgf T.kp T.b .nil pass0 (pa_cons (pv 0) (pa_cons pe_int pa_nil))))
      (pss_cons (ps_if (pt_cmpR op_eq (pv 6) pe_int (nomark _)) (pss_one (ps_set (i := 3) scLYard.nd rfl (Or.inl rfl) (pe_op op_cat (pe_lc (own := [("_law_place", 8)]) (g := gName 8) rfl scLYard.nd (pi_range1 (by rfl) B.range (pa_cons (pe_op op_sub (pv 2) pe_int) pa_nil))
          (blkOk_by (N := ["_law_row", "_law_most", "_law_places", "_law_ties", "_law_pairs", "_law_one", "_law_way", "_law_turn", "_law_place", "_law_other"]) (sc := defScope sLYard) (by decide +kernel))
          (fun _ _ _ _ _ => pg_name (i := 8) scLYard.nd rfl (Or.inl rfl)) (fun _ _ _ _ _ => pts_nil) (fun _ _ _ _ _ => pe_tup (pa_cons (pv 8) (pa_cons (pe_op op_add (pv 8) pe_int) pa_nil))))
          (pe_lst (pa_cons (pe_tup (pa_cons pe_int (pa_cons (pe_op op_sub (pv 2) pe_int) pa_nil))) pa_nil))))) pss_nil)
      (pss_cons (ps_for PassesOwn.never rfl (pi_range1 (by rfl) B.range (pa_cons (pe_ifExp (pt_cmpR op_lt (pv 6) pe_int (nomark _)) (pe_call T.ok hr1 rfl T.mgf T.kp T.b .nil pass0 (pa_cons (pv 0) (pa_cons pe_int pa_nil))) pe_int) pa_nil)) (pg_name (i := 7) scLYard.nd rfl (Or.inl rfl))
        (pss_one (ps_expr (pe_bm PySem.F.plainAttrs_list PySem.F.slot_list_append PySem.F.type_list_append mt_append (pv 3) (pa_cons (pe_call Pk.ok hr rfl Pk.mgf Pk.kp Pk.b .nil pass0 (pa_cons (pv 0) (pa_cons (pv 4) pa_nil))) pa_nil)))))
      (pss_one (ps_ret (pe_tup (pa_cons (pv 2) (pa_cons (pe_callTy call_tuple_of (by rfl) B.tuple (by decide +kernel) (pa_cons (pe_callB (cr_sortedT rfl) (by rfl) B.sorted PyProof.Rows.boot_sorted (pa_cons (pe_callTy (cr_setOfT rfl hu64) (by rfl) B.set (by decide +kernel) (pa_cons (pv 3) pa_nil)) pa_nil)) pa_nil)) (pa_cons (pe_call T.ok hr1 rfl T.mgf T.kp T.b .nil pass0 (pa_cons (pv 0) (pa_cons (pv 2) pa_nil))) pa_nil)))))))))))), ?_⟩
    have aR := hR.r
    refine ⟨_, rfl, _, rfl, _, _, rfl, rfl, r, sc, 4, rfl, hR, by decide, by decide, fun v H1 hv bt1 hR1 => ?_⟩
    have kr1 : Kr r H H1 := Kr.refl.bt bt1
    have e2 : (2 : Int) + (v : Int) = ((v + 2 : Nat) : Int) := by omega
    refine ⟨_, _, rfl, rfl, ?_⟩
    show gName 2 (V.int ((2 : Int) + (v : Int))) _ _ _
    rw [e2]
    obtain ⟨n, hn⟩ : ∃ n, n = v + 2 := ⟨_, rfl⟩
    rw [← hn]
    have hn2 : 2 ≤ n := by omega
    have hn5 : n ≤ 5 := by omega
    -- the first ties
    refine ⟨_, rfl, _, _, rfl, ⟨by decide, by decide, by omega, by omega⟩, fun D hD => ?_⟩
    obtain ⟨o1, ho1⟩ := hR1.some
    have hD0 : H D = none := kr1.free ho1 hD
    have hDr : D ≠ r := hR1.r.ne hD
    have e3 : ((n : Int) - 1).toNat = n - 1 := by omega
    rw [e3]
    refine lc_range (fun i H' => Kr r H H' ∧ RowR H' r sc ∧ ∃ as ws, H' D = some (.lst (as.map V.ref)) ∧ PrsAt H' as ws ∧ TreeT i ws) ⟨kr1.put hD0, hR1.r.put hDr.symm, [], [], upd_same, PrsAt.nil _, rfl, fun i h => absurd h (Nat.not_lt_zero i)⟩ ?_ ?_
    · rintro i H2 hi ⟨kr2, rr2, as, ws, hD2, hP2, ht2⟩
      have e4 : (1 : Int) + (i : Int) = ((i + 1 : Nat) : Int) := by omega
      refine ⟨rfl, ?_⟩
      refine ⟨_, rfl, _, rfl, _, rfl, r, sc, i + 1, by rw [e4]; rfl, hR.kr kr2 rr2, by omega, by omega, fun q H3 hq bt3 hR3 => ?_⟩
      have hD3 : H3 D = some (.lst (as.map V.ref)) := by rw [bt3 D hDr]; exact hD2
      have hP3 := prs_bt hP2 bt3 rr2
      have kr3 := kr2.bt bt3
      refine ⟨by show 2 ≤ sizeLine; decide, fun L hL => ⟨L, [((i + 1 : Nat) : Int), (q : Int)], rfl, .inl (.inl (by rw [upd_same, e4]; rfl)), by show 2 < 64; decide, fun ns' p hpm hs hp => ?_⟩⟩
      have s4 := same_new (HO.lst [V.int (1 + (i : Int)), iv q]) hL
      have s5 := s4.trans (same_new (HO.lst (ns'.map V.int)) hp)
      refine ⟨p, _, rfl, .inl ⟨.inl (.inl upd_same), fun U hU => ?_⟩⟩
      have s6 := s5.trans (same_new (HO.tup (ns'.map V.int)) hU)
      have hUs := sort_pair hq hpm hs
      refine ⟨as.map V.ref, s6 _ _ hD3, by rw [List.length_map, hP2.1, ht2.1, sizeLine_eq]; omega, (kr3.same s6).put hD0, (hR3.r.same s6).put hDr.symm, as ++ [U], ws ++ [(q, i + 1)], by rw [upd_same, List.map_append]; rfl, ?_, ht2.snoc hq⟩
      refine prs_upd ((hP3.same s6).app (PrsAt.one ?_)) (s6 _ _ hD3)
      rw [upd_same, hUs]
    · rintro H2 ⟨kr2, rr2, as, ws, hD2, hP2, ht2⟩
      -- pairs
      refine ⟨Nat.zero_le _, fun P0 hP0 => ?_⟩
      have s3 := same_new (HO.lst []) hP0
      obtain ⟨o2, ho2⟩ : ∃ o, H2 r = some o := let ⟨_, _, _, _, q⟩ := rr2; ⟨_, q⟩
      have hP00 : H P0 = none := kr2.free ho2 hP0
      have hDP : D ≠ P0 := fun z => by rw [← z, hD2] at hP0; cases hP0
      let St0 : Option V → Option V → Option V → Option V → Option V → L2.St := fun v3 v4 v5 v6 v7 => [some (.ref r), some (iv 5), some (iv n), v3, v4, v5, v6, v7, none, none]
      let PV : Nat → L2.St → Hp → Prop := fun i σ H' => ∃ (v5 : Option V) (Pp : Addr) (bs : List Addr) (ps : List Sl), σ = St0 (some (.ref D)) (some (.ref Pp)) v5 none none ∧ Same H2 H' ∧ H Pp = none ∧ D ≠ Pp ∧ H' Pp = some (.lst (bs.map V.ref)) ∧ PrsAt H' bs ps ∧ PairT n ps ∧ ps.length ≤ 5 * i ∧ (0 < i → ps ≠ [])
      refine ⟨_, rfl, _, rfl, by omega, by omega, for_range PV ⟨none, P0, [], [], rfl, s3, hP00, hDP, upd_same, PrsAt.nil _, (fun s h => by cases h), Nat.le_refl _, fun h => absurd h (Nat.lt_irrefl 0)⟩ ?_ ?_⟩
      · rintro i σ H3 hi ⟨v5, Pp, bs, ps, rfl, s23, hPp0, hDPp, hB3, hQ3, hpt, hpl, hpn⟩
        have hi : i < n := by rw [Int.toNat_natCast] at hi; exact hi
        rw [Int.zero_add]
        refine ⟨_, rfl, _, rfl, _, _, rfl, rfl, _, rfl, _, _, rfl, ⟨by omega, by omega, by omega, by omega⟩, fun D2 hD2 => ?_⟩
        have e5 : ((n : Int) - ((i : Int) + 1)).toNat = n - (i + 1) := by omega
        rw [e5]
        have hD2P : Pp ≠ D2 := fun z => by rw [← z, hB3] at hD2; cases hD2
        refine lc_range (fun j H' => Same H3 H' ∧ ∃ cs us, H' D2 = some (.lst (cs.map V.ref)) ∧ PrsAt H' cs us ∧ us.length = j ∧ ∀ u ∈ us, u.1 = i ∧ i < u.2 ∧ u.2 ≤ i + j) ⟨same_new _ hD2, [], [], upd_same, PrsAt.nil _, rfl, fun u h => by cases h⟩ ?_ ?_
        · rintro j H4 hj ⟨s4, cs, us, hC4, hU4, hul, huu⟩
          have e6 : (i : Int) + 1 + (j : Int) = ((i + 1 + j : Nat) : Int) := by omega
          refine ⟨rfl, ?_⟩
          refine ⟨_, rfl, _, rfl, by show 2 ≤ sizeLine; decide, fun U hU => ?_⟩
          rw [e6] at *
          have s5 := same_new (HO.tup [iv i, V.int ((i + 1 + j : Nat) : Int)]) hU
          have hC5 := s5 _ _ hC4
          refine ⟨_, hC5, by rw [List.length_map, hU4.1, hul, sizeLine_eq]; omega, fun c o hc => ?_, cs ++ [U], us ++ [(i, i + 1 + j)], by rw [upd_same, List.map_append]; rfl, prs_upd ((hU4.same s5).app (PrsAt.one upd_same)) hC5, by rw [List.length_append, hul]; rfl, fun u hu => ?_⟩
          · rw [upd_ne (fun z => by rw [z, hD2] at hc; cases hc)]
            exact s5 _ _ (s4 _ _ hc)
          · rcases List.mem_append.mp hu with q | q
            · obtain ⟨a1, a2, a3⟩ := huu u q
              exact ⟨a1, a2, by omega⟩
            · rw [List.mem_singleton.mp q]
              exact ⟨rfl, by show i < i + 1 + j; omega, by show i + 1 + j ≤ i + (j + 1); omega⟩
        · rintro H4 ⟨s4, cs, us, hC4, hU4, hul, huu⟩
          refine ⟨Pp, D2, _, _, rfl, rfl, s4 _ _ hB3, hC4, ?_, fun P3 hP3 => ?_⟩
          · rw [List.length_map, List.length_map, hQ3.1, hU4.1, hul, sizeLine_eq]; omega
          · have s5 := same_new (HO.lst (bs.map V.ref ++ cs.map V.ref)) hP3
            have s25 := (s23.trans s4)
            refine ⟨_, P3, bs ++ cs, ps ++ us, rfl, s25.trans s5, kr2.free ho2 (s25.free hP3), (fun z => by rw [← z, s25 _ _ (show H2 D = _ from by assumption)] at hP3; cases hP3), by rw [upd_same, List.map_append], ((hQ3.same s4).same s5).app (hU4.same s5), fun s hs => ?_, ?_, fun _ z => ?_⟩
            · rcases List.mem_append.mp hs with q | q
              · exact hpt s q
              · obtain ⟨a1, a2, a3⟩ := huu s q
                exact ⟨by omega, by omega⟩
            · rw [List.length_append, hul]; omega
            · have h1 := congrArg List.length z
              rw [List.length_append, hul] at h1
              by_cases q : i = 0
              · rw [List.length_nil] at h1; omega
              · exact hpn (by omega) (List.length_eq_zero_iff.mp (by rw [List.length_nil] at h1; omega))
      · rintro σ H3 ⟨v5, Pp, bs, ps, rfl, s23, hPp0, hDPp, hB3, hQ3, hpt, hpl, hpn⟩
        rw [Int.toNat_natCast] at hpl hpn
        have hps0 := hpn (by omega)
        have kr3 := kr2.same s23
        have rr3 := rr2.same s23
        have hPpr : Pp ≠ r := fun z => by obtain ⟨_, _, _, _, q⟩ := hR.r; rw [z, q] at hPp0; cases hPp0
        -- way
        refine ⟨_, rfl, r, sc, 4, rfl, hR.kr kr3 rr3, by decide, by decide, fun v6 H4 hv6 bt4 hR4 => ?_⟩
        have kr4 := kr3.bt bt4
        have rr4 := hR4.r
        have hD4 : H4 D = some (.lst (as.map V.ref)) := by rw [bt4 D hDr]; exact s23 _ _ hD2
        have hP4 := prs_bt (hP2.same s23) bt4 rr3
        have hB4 : H4 Pp = some (.lst (bs.map V.ref)) := by rw [bt4 Pp hPpr]; exact hB3
        have hQ4 := prs_bt hQ3 bt4 rr3
        have dr4 := ht2.drawn hn2
        have hl4 : ws.length ≤ 6 := by rw [ht2.1]; omega
        refine ⟨_, rfl, rfl, _, rfl, ?_⟩
        refine ite2 (fun hz => ?ca) (fun hz => ?cb)
        case' ca =>
          refine ⟨_, rfl, _, _, rfl, rfl, _, rfl, by omega, by omega, fun D3 hD3 => ?_⟩
          have e7 : ((n : Int) - 1).toNat = n - 1 := by omega
          rw [e7]
          refine lc_range (fun j H' => Same H4 H' ∧ ∃ cs, H' D3 = some (.lst (cs.map V.ref)) ∧ PrsAt H' cs ((List.range j).map fun p => (p, p + 1))) ⟨same_new _ hD3, [], upd_same, PrsAt.nil _⟩ ?_ ?_
          · rintro j H5 hj ⟨s5, cs, hC5, hU5⟩
            refine ⟨rfl, ?_⟩
            refine ⟨_, rfl, _, rfl, _, _, rfl, rfl, by show 2 ≤ sizeLine; decide, fun U hU => ?_⟩
            have s6 := same_new (HO.tup [V.int (0 + (j : Int)), V.int (0 + (j : Int) + 1)]) hU
            have hC6 := s6 _ _ hC5
            refine ⟨_, hC6, by rw [List.length_map, hU5.1, List.length_map, List.length_range, sizeLine_eq]; omega, fun c o hc => ?_, cs ++ [U], by rw [upd_same, List.map_append]; rfl, ?_⟩
            · rw [upd_ne (fun z => by rw [z, hD3] at hc; cases hc)]
              exact s6 _ _ (s5 _ _ hc)
            · rw [List.range_succ, List.map_append]
              refine prs_upd ((hU5.same s6).app (PrsAt.one ?_)) hC6
              rw [upd_same, Int.zero_add]
              rfl
          rintro H5 ⟨s5, cs, hC5, hU5⟩
          refine ⟨_, rfl, _, _, rfl, rfl, by show 2 ≤ sizeLine; decide, fun U hU => ⟨by show 1 ≤ sizeLine; decide, fun D4 hD4 => ⟨D3, D4, cs.map V.ref, [V.ref U], rfl, rfl, ?_, upd_same, ?_, fun D5 hD5 => ?_⟩⟩⟩
          · exact same_new _ hD4 _ _ (same_new _ hU _ _ hC5)
          · rw [List.length_map, hU5.1, List.length_map, List.length_range, sizeLine_eq]; show n - 1 + 1 ≤ _; omega
          have s6 := same_new (HO.tup [V.int 0, V.int ((n : Int) - 1)]) hU
          have s7 := s6.trans (same_new (HO.lst [V.ref U]) hD4)
          have s8 := s7.trans (same_new (HO.lst (cs.map V.ref ++ [V.ref U])) hD5)
          have s48 := s5.trans s8
          obtain ⟨o4, ho4⟩ := hR4.some
          have kr5 := kr4.same s48
          have rr5 := rr4.same s48
          have hD50 : H D5 = none := kr4.free ho4 ((s5.trans s7).free hD5)
          have hDP5 : D5 ≠ Pp := fun z => by rw [z, (s5.trans s7) _ _ hB4] at hD5; cases hD5
          have hB5 := s48 _ _ hB4
          have hQ5 := hQ4.same s48
          let ws5 := ringT n
          have dr5 : Drawn n ws5 := ring_drawn hn2
          have hl5 : (ringT n).length ≤ 6 := by unfold ringT; rw [List.length_append, List.length_map, List.length_range]; show n - 1 + 1 ≤ 6; omega
          obtain ⟨as5, hA5, hP5⟩ : ∃ as5 : List Addr, (upd (upd (upd H5 U (HO.tup [V.int 0, V.int ((n : Int) - 1)])) D4 (HO.lst [V.ref U])) D5 (HO.lst (cs.map V.ref ++ [V.ref U]))) D5 = some (.lst (as5.map V.ref)) ∧ PrsAt (upd (upd (upd H5 U (HO.tup [V.int 0, V.int ((n : Int) - 1)])) D4 (HO.lst [V.ref U])) D5 (HO.lst (cs.map V.ref ++ [V.ref U]))) as5 (ringT n) := by
            refine ⟨cs ++ [U], by rw [upd_same, List.map_append]; rfl, (hU5.same s8).app (PrsAt.one ?_)⟩
            have e8 : (n : Int) - 1 = ((n - 1 : Nat) : Int) := by omega
            have : (upd H5 U (HO.tup [V.int 0, V.int ((n : Int) - 1)])) U = some (.tup [iv 0, iv (n - 1)]) := by rw [upd_same, e8]; rfl
            exact same_new _ hD5 _ _ (same_new _ hD4 _ _ this)
        case' cb =>
          let D5 := D
          let as5 := as
          let ws5 := ws
          have kr5 := kr4
          have rr5 := rr4
          have hD50 : H D5 = none := hD0
          have hDP5 : D5 ≠ Pp := hDPp
          have hB5 := hB4
          have hQ5 := hQ4
          have dr5 : Drawn n ws5 := dr4
          have hl5 : ws5.length ≤ 6 := hl4
          have hA5 : H4 D5 = some (.lst (as5.map V.ref)) := hD4
          have hP5 : PrsAt H4 as5 ws5 := hP4
        all_goals refine turns (r := r) (sc := sc) (v := v6) rfl rfl (hR.kr kr5 rr5) (fun m H6 hm bt6 hR6 => ?_)
        all_goals have kr6 := kr5.bt bt6
        all_goals have rr6 := hR6.r
        all_goals have hD5r := hR.r.ne hD50
        all_goals let PT : Nat → L2.St → Hp → Prop := fun i σ H' => ∃ (v7 : Option V) (as : List Addr) (ws : List Sl), σ = St0 (some (.ref D5)) (some (.ref Pp)) v5 (some (iv v6)) v7 ∧ Kr r H H' ∧ RowR H' r sc ∧ H' D5 = some (.lst (as.map V.ref)) ∧ PrsAt H' as ws ∧ Drawn n ws ∧ ws.length ≤ 6 + i ∧ H' Pp = some (.lst (bs.map V.ref)) ∧ PrsAt H' bs ps
        all_goals refine ⟨_, rfl, by omega, by omega, for_range PT ⟨none, as5, ws5, rfl, kr6, rr6, by rw [bt6 _ hD5r]; exact hA5, prs_bt hP5 bt6 rr5, dr5, hl5, by rw [bt6 Pp hPpr]; exact hB5, prs_bt hQ5 bt6 rr5⟩ ?_ ?_⟩
        all_goals first
          | (rintro i σ H7 hi ⟨v7, as7, ws7, rfl, kr7, rr7, hA7, hP7, dr7, hl7, hB7, hQ7⟩
             have hi : i < m := by rw [Int.toNat_natCast] at hi; exact hi
             refine ⟨_, rfl, .inl ⟨rfl, _, .inl (.inl hA7)⟩, _, rfl, _, rfl, r, sc, Pp, _, rfl, hR.kr kr7 rr7, hB7, hPpr, ?_, ?_, fun v x H8 hx bt8 hR8 => ?_⟩
             · rw [List.length_map, hQ7.1]; exact List.length_pos_iff.mpr hps0
             · rw [List.length_map, hQ7.1]; omega
             obtain ⟨b, hb, rfl⟩ := get_ref hx
             obtain ⟨u, hu⟩ : ∃ u, ps[v]? = some u := ⟨_, List.getElem?_eq_getElem (by rw [← hQ7.1]; exact (List.getElem?_eq_some_iff.mp hb).1)⟩
             have hbu := hQ7.2 v b u hb hu
             have hA8 : H8 D5 = some (.lst (as7.map V.ref)) := by rw [bt8 D5 hD5r]; exact hA7
             have hbr : b ≠ r := fun z => by obtain ⟨_, _, _, _, q⟩ := rr7; rw [z, q] at hbu; cases hbu
             have hbu8 : H8 b = some (.tup [iv u.1, iv u.2]) := by rw [bt8 b hbr]; exact hbu
             refine ⟨D5, _, _, rfl, rfl, hA8, by rw [List.length_map, hP7.1, sizeLine_eq]; omega, ?_⟩
             refine ⟨_, as7 ++ [b], ws7 ++ [u], rfl, (kr7.bt bt8).put hD50, hR8.r.put hD5r.symm, by rw [upd_same, List.map_append]; rfl, prs_upd ((prs_bt hP7 bt8 rr7).app (PrsAt.one hbu8)) hA8, dr7.snoc (hpt u (List.mem_of_getElem? hu)), ?_, ?_, prs_upd (prs_bt hQ7 bt8 rr7) hA8⟩
             · rw [List.length_append]; show ws7.length + 1 ≤ _; omega
             · rw [upd_ne hDP5.symm, bt8 Pp hPpr]; exact hB7)
          | (rintro σ H7 ⟨v7, as7, ws7, rfl, kr7, rr7, hA7, hP7, dr7, hl7, hB7, hQ7⟩
             rw [Int.toNat_natCast] at hl7
             refine ⟨_, rfl, _, rfl, D5, ksOf as7 ws7, rfl, .inl (.inl (by rw [ks_refs hP7.1]; exact hA7)), fun p hp => ?_, by rw [ks_len hP7.1]; omega, fun a L ha hsub hsup => ?_⟩
             · obtain ⟨s0, hs0, e1, e2⟩ := ks_at hP7 hp
               rw [e1]
               exact SqT.of e2
             have sa := same_new (SetTO P w a L) ha
             refine ⟨a, L, 2, 64, rfl, upd_same, fun p hp => ?_, by decide, fun p hp => ?_, fun L' q hpm nd hlt pw hq => ?_⟩
             · obtain ⟨s0, hs0, e1, e2⟩ := ks_at hP7 (hsub p hp)
               rw [e1]
               exact SqT.of (sa _ _ e2)
             · obtain ⟨s0, hs0, e1, e2⟩ := ks_at hP7 (hsub p hp)
               have hs1 := dr7.1 s0 hs0
               rw [e1]
               refine ⟨rfl, fun z hz => ?_⟩
               rcases List.mem_cons.mp hz with q | q
               · rw [q]; omega
               · rw [List.mem_singleton.mp q]; omega
             have sq := sa.trans (same_new (HO.lst (L'.map fun q => V.ref q.1)) hq)
             refine ⟨q, _, rfl, .inl ⟨.inl (.inl upd_same), fun U hU => ?_⟩⟩
             have sU := sq.trans (same_new (HO.tup (L'.map fun q => V.ref q.1)) hU)
             refine ⟨_, rfl, _, rfl, r, sc, n, rfl, hR.kr (kr7.same sU) (rr7.same sU), by omega, by omega, fun g H9 hg bt9 hR9 => ?_⟩
             obtain ⟨us, hPu, du, au, lu⟩ := yard_sorted hP7 dr7 hn5 hsub hsup hpm nd pw
             refine ⟨by show 3 ≤ sizeLine; decide, fun Y hY => ?_⟩
             have sY := same_new (HO.tup [iv n, V.ref U, iv g]) hY
             have hUr : U ≠ r := (rr7.same sq).ne hU
             have hU9 : H9 U = some (.tup (L'.map fun q => V.ref q.1)) := by rw [bt9 U hUr]; exact upd_same
             refine k Y U n g us _ (((kr7.same sU).bt bt9).same sY) (hR9.r.same sY) ⟨upd_same, ⟨L'.map (·.1), ?_, (prs_bt (hPu.same sU) bt9 (rr7.same sU)).same sY⟩, du.1, au, du.2, hn2, by omega, hg, lu⟩ hn5
             rw [List.map_map]
             exact sY _ _ hU9)
end
end K15
set_option autoImplicit false
set_option linter.all false
set_option Elab.async false
set_option maxRecDepth 100000
set_option maxHeartbeats 4000000
/-! The law: rules and plain facts. -/
namespace K15
open PySem PySem.Spec PyProof.Rows L2 LamX NdefX
section
variable {X : Cx} {CX : CXT} {k : Nat} {f C : Addr} {fd : FuncData} {ps : List Str} {sp : Sp} {E : L2.St → XK} {m : Str} {pos apos : Pos} {e o : Expr} {es : List Expr} {ta : TE} {t : TA}
/-- o.m(..), what is wanted of an exception depends on the slots -/
def tMethAt (C : Addr) (m : Str) (sp : Sp) (E : L2.St → XK) (ta : TE) (t : TA) : TE := fun σ H Q => ta σ H fun x H1 => ∃ a dx fs, x = .ref a ∧ H1 a = some (.ins C dx fs) ∧ fs.lookup m = none ∧ t σ H1 fun vs H2 => sp (x :: vs) H2 Q (E σ)
theorem pe_methAt {pl : Sem Bool} (he : PE X o ta) (c : Cls X.K C) (hm : Meth X.K C m f) (F : FnOk X.prog X.w X.K X.mg X.base CX k f fd ps sp) (hr : Room k X.A) (hb : L2.Binds X.K fd ps []) (hx : ∀ σ, PassesAt CX X σ (E σ)) (ha : PA X (e :: es) t)
    (hst : starEach (e :: es) X.env = (false, eval e X.env) :: starEach es X.env := by rfl) (hpl : (backTo pos (starEach es X.env)).any (·.1) = false := by rfl)
    (ht : eval (.Call (.Attribute o m apos) (e :: es) [] pos) X.env = (do
      let ov ← eval o X.env
      standAt apos.atName
      let (f, first) ← holding [ov] (getMethod ov m pl)
      callWith pos f first (backTo pos (starEach (e :: es) X.env)) (backToKw pos (keywordEach [] X.env))) := by rfl) :
    PE X (.Call (.Attribute o m apos) (e :: es) [] pos) (tMethAt C m sp E ta t) := by
  refine ⟨fun pins s σ H Q I h => ?_⟩
  refine PySem.W.methodCall_KW (pl := pl) (thn (he.run pins s σ H _ I h) fun u s1 ⟨x, H1, I1, rx, a, dx, fs, ex, ea, l, q⟩ => ?_) ht
  subst ex
  obtain rfl : u = Value.ref a := rx
  refine getmeth_ok I1 ea c hm l ?_
  refine PySem.W.callWith_K (first := [.ref a]) (h₀ := X.base) I.ok.mod.kin hm.kp (thn (ha.run pos pins s1 σ H1 _ I1 q) fun us s2 ⟨vs, H2, I2, r, q2⟩ => ⟨I2.kIn, ?_⟩) hst hpl
  exact run_fnS (us := .ref a :: us) (vs := .ref a :: vs) F hr hb (hx σ) I2 (.cons rfl r) q2
end
section
variable {P : Program} {w : World} {K : PySem.W.Frag} {mg : Str → Option Value} {base : Heap}
theorem FunT.okX {x qual : Str} {st : Stmt} {f c : Addr} {fd : FuncData} {N ps : List Str} {k : Nat} {sp : Sp} (F : FunT K x qual st f fd c) (S : FnScope N ps (defScope st)) (len : ∀ vs H Q E, sp vs H Q E → vs.length = ps.length)
    (hbody : ∀ (A : Around) (outer : List Env) (s : Shared) (H : Hp) (vs : List V) (Q : VK) (E : XK), Room k (A.deeper (envOfC qual (defScope st) s.heap.objs.size f (.ref c))) → sp vs H Q E →
      ∃ t, PSs (cxOf (L2.CX P w) P w K mg base N qual (defScope st) f (.ref c) A outer s H E) (defBody st) t ∧ t { nx := fun _ H' => Q .non H', rt := Q } (start N vs) H) : FnOk P w K mg base (L2.CX P w) (k + 1) f fd ps sp := by
  obtain ⟨oc, od, kV, doc, pm, an, ct, osl, rfl, lk, hcd⟩ := F.ex
  exact fn_of lk hcd S len fun A outer s H vs Q E hr hsp => hbody A outer s H vs Q E hr hsp
end
/-! ### the drawn standing -/
theorem stock_books {n h : Nat} : booksOf (stock n h) = List.range (n - h) := by
  unfold stock booksOf
  rw [List.filterMap_append, List.filterMap_map]
  have e1 : (List.range (n - h)).filterMap (id ∘ some) = List.range (n - h) := by
    rw [show (id ∘ some : Nat → Option Nat) = some from rfl, List.filterMap_some]
  have e2 : (List.replicate h (none : Option Nat)).filterMap id = [] := by
    clear e1
    induction h with
    | zero => rfl
    | succ h ih => rw [List.replicate_succ]; exact ih
  rw [e1, e2, List.append_nil]
structure Dr (n h : Nat) (st : Sd) : Prop where
  pm : st.Perm (stock n h)
  h1 : 1 ≤ h
  hn : h < n
  n5 : n ≤ 5
theorem Dr.books {n h : Nat} {st : Sd} (d : Dr n h st) : (booksOf st).Perm (List.range (n - h)) := by
  have := d.pm.filterMap id
  rw [← stock_books (n := n) (h := h)]
  exact this
theorem Dr.len {n h : Nat} {st : Sd} (d : Dr n h st) : st.length = n := by rw [d.pm.length_eq, stock_len (Nat.le_of_lt d.hn)]
theorem Dr.blen {n h : Nat} {st : Sd} (d : Dr n h st) : (booksOf st).length = n - h := by rw [d.books.length_eq, List.length_range]
theorem mem_books {st : Sd} {b : Nat} : b ∈ booksOf st ↔ some b ∈ st := by
  unfold booksOf
  rw [List.mem_filterMap]
  exact ⟨fun ⟨a, h1, h2⟩ => by cases a with
    | none => cases h2
    | some c => rw [← show c = b from Option.some.inj h2]; exact h1, fun h => ⟨some b, h, rfl⟩⟩
theorem Dr.book {n h : Nat} {st : Sd} (d : Dr n h st) {b : Nat} : some b ∈ st ↔ b < n - h := by
  rw [← mem_books, d.books.mem_iff, List.mem_range]
theorem Dr.hole {n h : Nat} {st : Sd} (d : Dr n h st) : none ∈ st := by
  rw [d.pm.mem_iff]
  unfold stock
  exact List.mem_append_right _ (List.mem_replicate.mpr ⟨by have := d.h1; omega, rfl⟩)
theorem Dr.ok {n h : Nat} {st : Sd} (d : Dr n h st) : StOk st where
  hole := d.hole
  ne := fun z => by have := d.blen; rw [z, List.length_nil] at this; have := d.hn; omega
  lt := fun b hb => by rw [d.blen]; exact List.mem_range.mp (d.books.mem_iff.mp hb)
  nd := d.books.nodup_iff.mpr List.nodup_range
theorem Dr.low {n h : Nat} {st : Sd} (d : Dr n h st) : Low 4 st := fun o ho b e => by
  rw [e] at ho
  have := d.book.mp ho
  have := d.h1
  have := d.n5
  omega
/-- a slide swaps -/
theorem slid_perm {ties : List Sl} {st : Sd} {s : Sl} (T : TiesOk st.length ties) (h : s ∈ slidesOf ties st) : (slid st s).Perm st := by
  obtain ⟨h1, h2, h3, h4⟩ := mem_slidesOf.mp h
  have h5 := near_lt T h3
  have hne : s.1 ≠ s.2 := fun z => by rw [z, h4] at h2; cases h2
  have e2 : st[s.2]? = some none := by
    have : st.getD s.2 none = none := by
      unfold isHole at h4
      exact by simpa using h4
    rw [List.getD_eq_getElem?_getD, List.getElem?_eq_getElem h5] at this
    rw [List.getElem?_eq_getElem h5]
    exact congrArg some this
  have h6 : st.getD s.1 none = st[s.1] := by rw [List.getD_eq_getElem?_getD, List.getElem?_eq_getElem h1]; rfl
  have h7 : st[s.2] = none := by rw [List.getElem?_eq_getElem h5] at e2; exact Option.some.inj e2
  have := List.set_set_perm h1 h5
  rw [h7] at this
  unfold slid
  rw [h6]
  exact this
theorem Dr.slid {n h : Nat} {ties : List Sl} {st : Sd} {s : Sl} (d : Dr n h st) (T : TiesOk n ties) (hs : s ∈ slidesOf ties st) : Dr n h (slid st s) := ⟨(slid_perm (by rw [d.len]; exact T) hs).trans d.pm, d.h1, d.hn, d.n5⟩
theorem Dr.run {n h : Nat} {ties : List Sl} {st t : Sd} {w : Wd} (d : Dr n h st) (T : TiesOk n ties) (r : Rn ties st w t) : Dr n h t := by
  induction r with
  | nil => exact d
  | snoc _ hs ih => exact ih.slid T hs
theorem Dr.y {n h : Nat} {ties : List Sl} {st : Sd} (d : Dr n h st) (T : TiesOk n ties) : YOk n ties st := ⟨by have := d.n5; omega, d.len, T⟩
/-! ### the law's ways -/
theorem lawWays {n : Nat} {ties : List Sl} {st : Sd} {g b : Nat} {L : Fd} (hL : ∀ t w, (t, w) ∈ L ↔ Best ties st t w) {w : Wd} : w ∈ waysOf g b L ↔ ∃ t, Best ties st t w ∧ t.getD g none = some b := by
  rw [mem_waysOf]
  exact ⟨fun ⟨t, h1, h2⟩ => ⟨t, (hL _ _).mp h1, h2⟩, fun ⟨t, h1, h2⟩ => ⟨t, (hL _ _).mpr h1, h2⟩⟩
end K15
set_option autoImplicit false
set_option linter.all false
set_option Elab.async false
set_option maxRecDepth 100000
set_option maxHeartbeats 4000000
/-! The law: the least of its ways. -/
namespace K15
open PySem PySem.Spec PyProof.Rows L2 LamX NdefX
abbrev zsOf (as : List Addr) (ws : List Wd) : List (V × PyData) := ((as.map V.ref).zip (ws.map prD)).mergeSort (PySem.W.dataLe false (fun p : V × PyData => p.2))
theorem zs_mem {H : Hp} {as : List Addr} {ws : List Wd} (h : PwAt H as ws) {z : V × PyData} (hz : z ∈ (as.map V.ref).zip (ws.map prD)) : ∃ a v w, w ∈ ws ∧ z = (.ref a, prD w) ∧ H a = some (.tup [iv w.length, .ref v]) ∧ WdAt H v w := by
  obtain ⟨i, hi, e⟩ := List.getElem_of_mem hz
  have hi2 : i < as.length ∧ i < ws.length := by
    rw [List.length_zip, List.length_map, List.length_map] at hi; omega
  obtain ⟨v, h1, h2⟩ := h.2 i _ _ (List.getElem?_eq_getElem hi2.1) (List.getElem?_eq_getElem hi2.2)
  refine ⟨as[i]'hi2.1, v, ws[i]'hi2.2, List.getElem_mem _, ?_, h1, h2⟩
  rw [← e, List.getElem_zip, List.getElem_map, List.getElem_map]
theorem zs_in {as : List Addr} {ws : List Wd} (hl : as.length = ws.length) {w : Wd} (hw : w ∈ ws) : ∃ a, (V.ref a, prD w) ∈ (as.map V.ref).zip (ws.map prD) := by
  obtain ⟨i, hi, e⟩ := List.getElem_of_mem hw
  have hz : i < ((as.map V.ref).zip (ws.map prD)).length := by rw [List.length_zip, List.length_map, List.length_map]; omega
  refine ⟨as[i]'(by omega), ?_⟩
  have := List.getElem_mem hz
  rw [List.getElem_zip, List.getElem_map, List.getElem_map, e] at this
  exact this
theorem ways_head {H : Hp} {as : List Addr} {ws : List Wd} (h : PwAt H as ws) (hok : ∀ w ∈ ws, WdOk w) (hne : ws ≠ []) : ∃ (a v : Addr) (w : Wd) (rest : List V), (zsOf as ws).map (·.1) = .ref a :: rest ∧ H a = some (.tup [iv w.length, .ref v]) ∧ WdAt H v w ∧ w ∈ ws ∧ ∀ w' ∈ ws, code w ≤ code w' := by
  have pm : (zsOf as ws).Perm ((as.map V.ref).zip (ws.map prD)) := List.mergeSort_perm _ _
  have T := PySem.W.sortLe_total (PyProof.Rows.listOrd PyProof.Rows.itemOrd) false (fun b : V × PyData => PySem.W.keyToks b.2)
  have pw : (zsOf as ws).Pairwise (fun a b => PySem.W.dataLe false (fun p : V × PyData => p.2) a b = true) := List.pairwise_mergeSort (fun a b c h1 h2 => T.trans a b c h1 h2) (fun a b => by rw [Bool.or_eq_true]; exact T.total a b) _
  cases e : zsOf as ws with
  | nil =>
    have := pm.length_eq
    rw [e, List.length_zip, List.length_map, List.length_map, h.1, Nat.min_self] at this
    exact absurd (List.length_eq_zero_iff.mp this.symm) hne
  | cons z zs =>
    rw [e] at pw pm
    obtain ⟨a, v, w, hw, rfl, h1, h2⟩ := zs_mem h (pm.mem_iff.mp List.mem_cons_self)
    refine ⟨a, v, w, zs.map (·.1), rfl, h1, h2, hw, fun w' hw' => ?_⟩
    obtain ⟨a', hin⟩ := zs_in h.1 hw'
    rcases List.mem_cons.mp (pm.mem_iff.mpr hin) with q | q
    · have : prD w' = prD w := congrArg Prod.snd q
      have l1 := pr_lt (hok w' hw') (hok w hw)
      have l2 := pr_lt (hok w hw) (hok w hw)
      rw [this, l2] at l1
      have := of_decide_eq_false (l1.symm.trans (decide_eq_false (Nat.lt_irrefl _)))
      omega
    · have := (List.pairwise_cons.mp pw).1 _ q
      rw [PySem.W.dataLe_eq] at this
      have l1 := pr_lt (hok w' hw') (hok w hw)
      have : (!PySem.W.dataLt (prD w') (prD w)) = true := this
      rw [l1] at this
      by_cases c : code w' < code w
      · rw [decide_eq_true c] at this; cases this
      · omega
theorem ways_nil {as : List Addr} (h : as = []) : (zsOf as []).map (·.1) = [] := by
  subst h
  show (List.mergeSort [] _).map _ = []
  rw [List.mergeSort_nil]; rfl
end K15
set_option autoImplicit false
set_option linter.all false
set_option Elab.async false
set_option maxRecDepth 100000
set_option maxHeartbeats 4000000
/-! The law: what stands while it works. -/
namespace K15
open PySem PySem.Spec PyProof.Rows L2 LamX NdefX
/-- the law's constants -/
structure Lc where
  C : Addr
  r : Addr
  sc : Addr
  y : Addr
  t : Addr
  p : Addr
  d : Addr
  n : Nat
  g : Nat
  h : Nat
  ties : List Sl
structure LI (K : PySem.W.Frag) (tb : Tb) (c : Lc) (H : Hp) (a lh : Addr) (st : Sd) (hs : List Int) (tk : Int) : Prop where
  row : RowAt K H c.r c.sc
  yd : YardOk H c.y c.t c.n c.g c.ties
  dr : Dr c.n c.h st
  fz : FzAt H a (st.map ov)
  sto : StoAt c.C H c.p c.d c.y st hs tk
  hl : hs.length = c.n - c.h
  held : H lh = some (.lst (hs.map V.int))
  hr : lh ≠ c.r
  tok : TOk tb H
section
variable {K : PySem.W.Frag} {tb : Tb} {c : Lc} {H H' : Hp} {a lh : Addr} {st : Sd} {hs : List Int} {tk : Int}
theorem LI.Y (I : LI K tb c H a lh st hs tk) : YOk c.n c.ties st := I.dr.y I.yd.ok
theorem LI.rowIs (I : LI K tb c H a lh st hs tk) : ∃ z0 z1 z2, H c.r = some (.lst (rowL c.sc z0 z1 z2)) := let ⟨x, y, z, _, _, h, _⟩ := I.row; ⟨x, y, z, h⟩
theorem LI.neR (I : LI K tb c H a lh st hs tk) {b : Addr} {o : HO} (e : H b = some o) (h : ∀ xs, o ≠ .lst xs) : b ≠ c.r := fun z => by
  obtain ⟨_, _, _, q⟩ := I.rowIs
  rw [z, q] at e
  exact h _ (Option.some.inj e).symm
theorem LI.tupR (I : LI K tb c H a lh st hs tk) {b : Addr} {xs : List V} (e : TupH H b xs) : b ≠ c.r := by
  rcases e with e | ⟨o, e⟩
  · exact I.neR e fun xs z => by cases z
  · exact I.neR e fun xs z => by cases z
theorem LI.tup_bt (I : LI K tb c H a lh st hs tk) (t : Bt c.r H H') {b : Addr} {xs : List V} (e : H b = some (.tup xs)) : H' b = some (.tup xs) := by rw [t b (I.tupR (.inl e))]; exact e
theorem LI.tupH_bt (I : LI K tb c H a lh st hs tk) (t : Bt c.r H H') {b : Addr} {xs : List V} (e : TupH H b xs) : TupH H' b xs := e.to (t b (I.tupR e))
theorem LI.wd_bt (I : LI K tb c H a lh st hs tk) (t : Bt c.r H H') {b : Addr} {u : Wd} (e : WdAt H b u) : WdAt H' b u := e.ext fun _ _ q => I.tup_bt t q
theorem YardOk.to {y t : Addr} {n g : Nat} {ties : List Sl} (Y : YardOk H y t n g ties) (e : ∀ b xs, H b = some (.tup xs) → H' b = some (.tup xs)) : YardOk H' y t n g ties :=
  ⟨e _ _ Y.y, Y.t.ext e, Y.ok, Y.asc, Y.conn, Y.lo, Y.hi, Y.g, Y.len⟩
theorem tok_bt {r : Addr} {xs : List V} (T : TOk tb H) (t : Bt r H H') (hr : H r = some (.lst xs)) : TOk tb H' := by
  have tg : ∀ {P : Addr}, GxR.TabG H P → GxR.TabG H' P := fun ⟨ps, e, z⟩ => ⟨ps, by rw [t _ (fun q => by rw [q, hr] at e; cases e)]; exact e, z⟩
  have tn : ∀ {P : Addr} {nm : Nat → Nat → Str}, TabN H P nm → TabN H' P nm := fun ⟨ps, e, z, k⟩ => by
    refine ⟨ps, by rw [t _ (fun q => by rw [q, hr] at e; cases e)]; exact e, z, fun pos cv hc => ?_⟩
    obtain ⟨cc, e1, e2⟩ := k pos cv hc
    exact ⟨cc, e1, by rw [t _ (fun q => by rw [q, hr] at e2; exact lst_ne_code (Option.some.inj e2))]; exact e2⟩
  exact ⟨tg T.ties, tg T.stand, tg T.slide, tn T.words, tn T.law⟩
theorem LI.bt (I : LI K tb c H a lh st hs tk) (t : Bt c.r H H') (R : RowAt K H' c.r c.sc) : LI K tb c H' a lh st hs tk := by
  obtain ⟨x1, x2, x3, hx⟩ := I.rowIs
  obtain ⟨dx, a2, kvs, h1, h2, h3, h4⟩ := id I.sto
  obtain ⟨o, f1, f2, f3⟩ := id I.fz
  exact ⟨R, I.yd.to fun b xs e => I.tup_bt t e, I.dr, ⟨o, by rw [t a (I.neR f1 fun xs z => by cases z)]; exact f1, f2, f3⟩,
    ⟨dx, a2, kvs, by rw [t _ (I.neR h1 fun xs z => by cases z)]; exact h1, by rw [t _ (I.neR h2 fun xs z => by cases z)]; exact h2, h3, I.tupH_bt t h4⟩, I.hl, by rw [t lh I.hr]; exact I.held, I.hr, tok_bt I.tok t hx⟩
theorem rowAt_keep {r sc : Addr} (h : RowAt K H r sc) (e : ∀ b xs, H b = some (.lst xs) → H' b = some (.lst xs)) (f : ∀ b o xs, H b = some (.frz o (.lst xs)) → H' b = some (.frz o (.lst xs))) : RowAt K H' r sc := by
  obtain ⟨x1, x2, x3, ns, h0, h1, hs⟩ := h
  refine ⟨x1, x2, x3, ns, h0, e _ _ h1, ?_⟩
  rcases hs with (s | ⟨z, s⟩) | s
  · exact .inl (.inl (e _ _ s))
  · exact .inl (.inr ⟨z, f _ _ _ s⟩)
  · exact .inr s
theorem LI.same (I : LI K tb c H a lh st hs tk) (s : Same H H') : LI K tb c H' a lh st hs tk :=
  ⟨rowAt_keep I.row (fun b xs e => s _ _ e) (fun b o xs e => s _ _ e), I.yd.to fun b xs e => s _ _ e, I.dr, I.fz.same fun o e => s _ _ e, I.sto.same s, I.hl, s _ _ I.held, I.hr, I.tok.same s⟩
theorem LI.nx (I : LI K tb c H a lh st hs tk) (n : Nx tb H H') : LI K tb c H' a lh st hs tk :=
  ⟨rowAt_keep I.row (fun b xs e => n.lst e) (fun b o xs e => n.kp b _ e (fun ps z => by cases z)), I.yd.to fun b xs e => n.tup e, I.dr, I.fz.same fun o e => n.kp a _ e (fun ps z => by
    obtain ⟨o2, f1, _⟩ := I.fz
    rw [f1] at e
    rw [← Option.some.inj e] at z; cases z), I.sto.nx n, I.hl, n.lst I.held, I.hr, n.tk⟩
/-- behind a method of the store -/
theorem LI.nz (I : LI K tb c H a lh st hs tk) (z : Nz tb c.p c.d H H') {st' : Sd} {hs' : List Int} {tk' : Int} (s : StoAt c.C H' c.p c.d c.y st' hs' tk') :
    RowAt K H' c.r c.sc ∧ YardOk H' c.y c.t c.n c.g c.ties ∧ FzAt H' a (st.map ov) ∧ H' lh = some (.lst (hs.map V.int)) ∧ TOk tb H' := by
  have S := I.sto
  refine ⟨rowAt_keep I.row (fun b xs e => z.lst S e) (fun b o xs e => ?_), I.yd.to fun b xs e => z.tup S e, I.fz.same fun o e => ?_, z.lst S I.held, z.tk⟩
  · obtain ⟨dx, a2, kvs, h1, h2, _⟩ := S
    exact z.kp b _ (fun q => by rw [q, h1] at e; cases e) (fun q => by rw [q, h2] at e; cases e) e (fun ps z => by cases z)
  · obtain ⟨o2, f1, _⟩ := I.fz
    have hn := S.tupNe I.fz.tup
    exact z.kp a _ hn.1 hn.2 e (fun ps q => by rw [f1] at e; rw [← Option.some.inj e] at q; cases q)
end
end K15
set_option autoImplicit false
set_option linter.all false
set_option Elab.async false
set_option maxRecDepth 100000
set_option maxHeartbeats 4000000
/-! The law: its slots, its statements. -/
namespace K15
open PySem PySem.Spec PyProof.Rows L2 LamX NdefX
abbrev lawN : List Str := ["_law_script", "_law_yard_here", "_law_gate", "_law_standing_here", "_law_held", "_law_ticks", "_law_turn", "_law_way", "_law_told", "_law_value", "_law_is_there", "_law_book", "_law_slide", "_law_words_here", "_law_ways", "e", "_law_due", "_law_works", "_law_work", "_law_books", "_law_hole", "_law_places", "_law_row", "_law_store", "_law_one"]
theorem scLaw : FnScope lawN ["_law_script"] (defScope sLaw) := ⟨rfl, rfl, rfl, by decide +kernel, rfl, by decide +kernel, by decide +kernel⟩
abbrev lawS (i : Nat) : Stmt := (defBody sLaw).getD i (.Pass ⟨0, 0, 0, 0⟩)
def forB : Stmt → List Stmt
  | .For _ _ b _ _ => b
  | _ => []
abbrev turnS (i : Nat) : Stmt := (forB (lawS 6)).getD i (.Pass ⟨0, 0, 0, 0⟩)
abbrev sg (c : Lc) (a lh : Addr) (tk : Int) (J : Nat → Option V) : L2.St := [some (.ref c.sc), some (.ref c.y), some (iv c.g), some (.ref a), some (.ref lh), some (.int tk), J 6, J 7, J 8, J 9, J 10, J 11, J 12, J 13, J 14, J 15, J 16, J 17, J 18, some (iv (c.n - c.h)), J 20, some (iv c.n), some (.ref c.r), some (.ref c.p), none]
def jset (J : Nat → Option V) (i : Nat) (v : Option V) : Nat → Option V := fun k => if k = i then v else J k
abbrev lawX (P : Program) (w : World) (K : PySem.W.Frag) (mg : Str → Option Value) (base : Heap) (f cd : Addr) (A : Around) (outer : List Env) (s : Shared) (H : Hp) (E : XK) : Cx := cxOf (L2.CX P w) P w K mg base lawN "law" (defScope sLaw) f (.ref cd) A outer s H E
example (c : Lc) (a lh : Addr) (tk : Int) (J : Nat → Option V) (v : Option V) : (sg c a lh tk J).set 9 v = sg c a lh tk (jset J 9 v) := rfl
example : turnS 0 = .Pass ⟨0, 0, 0, 0⟩ → False := fun h => by cases h
example : lawS 11 = .Pass ⟨0, 0, 0, 0⟩ → False := fun h => by cases h
end K15
set_option autoImplicit false
set_option linter.all false
set_option Elab.async false
set_option maxRecDepth 100000
set_option maxHeartbeats 4000000
/-! The law: what it calls; its first statements. -/
namespace K15
open PySem PySem.Spec PyProof.Rows L2 LamX NdefX
structure LB (P : Program) (w : World) (K : PySem.W.Frag) (mg : Str → Option Value) (base : Heap) (tb : Tb) (C CS CB CN CW : Addr) (f : Nat → Addr) (fd : Nat → FuncData) : Prop where
  B : Bl mg
  sc : SC K mg C
  mkC : Mk K C (f 9)
  mgC : mg "Store" = some (.ref C)
  tk : Dn P w K mg base CX0 1 "_law_taken" ["_law_row", "_law_many"] (spTaken K) (f 0) (fd 0)
  pk : Dn P w K mg base CX0 2 "_law_pick" ["_law_row", "_law_things"] (spPick K) (f 1) (fd 1)
  al : Dn P w K mg base CX0 5 "_law_alike" ["_law_found", "_law_due"] (spAlike 4) (f 2) (fd 2)
  is : Dn P w K mg base CX0 1 "_law_is" ["_law_found", "_law_due"] spIs (f 3) (fd 3)
  yd : Dn P w K mg base CX0 3 "_law_yard" ["_law_row", "_law_most"] (spLYard K) (f 4) (fd 4)
  sd : Dn P w K mg base CX0 2 "_law_standing" ["_law_row", "_law_places", "_law_holes"] (spLStand K) (f 5) (fd 5)
  sl : Dn P w K mg base CX0 2 "_law_slides" ["_law_yard_here", "_law_standing_here"] spSlides (f 6) (fd 6)
  dd : Dn P w K mg base CX0 1 "_law_slid" ["_law_standing_here", "_law_slide"] spLSlid (f 7) (fd 7)
  wd : Dn P w K mg base CX0 3 "_law_words" ["_law_yard_here", "_law_standing_here"] (spLWords P w tb) (f 8) (fd 8)
  si : FnOk P w K mg base CX0 4 (f 9) (fd 9) ["self", "yard", "standing"] (spInit C tb)
  bi : L2.Binds K (fd 9) ["self", "yard", "standing"] []
  sr : FnOk P w K mg base CX0 1 (f 10) (fd 10) ["self"] (spSRead C tb)
  br : L2.Binds K (fd 10) ["self"] []
  mr : Meth K C "read" (f 10)
  sw : FnOk P w K mg base (L2.CX P w) 2 (f 11) (fd 11) ["self", "value"] (spSWrite C CN tb)
  bw : L2.Binds K (fd 11) ["self", "value"] []
  mw : Meth K C "write" (f 11)
  ss : FnOk P w K mg base (L2.CX P w) 3 (f 12) (fd 12) ["self", "one", "other"] (spSSlide C CS tb)
  bs : L2.Binds K (fd 12) ["self", "one", "other"] []
  ms : Meth K C "slide" (f 12)
  sb : FnOk P w K mg base (L2.CX P w) 4 (f 13) (fd 13) ["self", "book"] (spSBring C CB CW tb)
  bb : L2.Binds K (fd 13) ["self", "book"] []
  mb : Meth K C "bring" (f 13)
  pt : PropOf K C "tick" (f 14) (f 15)
  gt : FnOk P w K mg base CX0 1 (f 15) (fd 15) ["self"] (getSp C "ticks")
  bt : L2.Binds K (fd 15) ["self"] []
  ps : PropOf K C "standing" (f 16) (f 17)
  gs : FnOk P w K mg base CX0 1 (f 17) (fd 17) ["self"] (getSp C "now")
  bgs : L2.Binds K (fd 17) ["self"] []
  ph : PropOf K C "held" (f 18) (f 19)
  gh : FnOk P w K mg base CX0 1 (f 19) (fd 19) ["self"] (spSHeld C)
  bgh : L2.Binds K (fd 19) ["self"] []
  pw : PropOf K C "ways" (f 20) (f 21)
  gw : FnOk P w K mg base CX0 3 (f 21) (fd 21) ["self"] (spSWays C)
  bgw : L2.Binds K (fd 21) ["self"] []
  xs : ExC K mg "BadSlide" CS
  xb : ExC K mg "BadBook" CB
  xn : ExC K mg "BadNumber" CN
  xw : ExC K mg "NoWay" CW
section
variable {P : Program} {w : World} {K : PySem.W.Frag} {mg : Str → Option Value} {base : Heap} {tb : Tb} {C CS CB CN CW f0 cd : Addr} {f : Nat → Addr} {fd : Nat → FuncData}
/-- way, told = .. -/
theorem law_t0 (L : LB P w K mg base tb C CS CB CN CW f fd) (A : Around) (outer : List Env) (s : Shared) (H0 : Hp) (E : XK) (hr : Room 5 (A.deeper (envOfC "law" (defScope sLaw) s.heap.objs.size f0 (.ref cd)))) :
    ∃ t, PS (lawX P w K mg base f0 cd A outer s H0 E) (turnS 0) t ∧ ∀ (Dd : Ends) (c : Lc) (H : Hp) (a lh : Addr) (st : Sd) (hs : List Int) (tk : Int) (J : Nat → Option V), LI K tb c H a lh st hs tk →
      (∀ (H' : Hp) (way : Nat) (l : Addr), way < 4 → LI K tb c H' a lh st hs tk → LsAt H' l (slidesOf c.ties st) → l ≠ c.r → Dd.nx (sg c a lh tk (jset (jset J 7 (some (iv way))) 8 (some (.ref l)))) H') → t Dd (sg c a lh tk J) H := by
  have hr1 : Room 1 (A.deeper (envOfC "law" (defScope sLaw) s.heap.objs.size f0 (.ref cd))) := hr.mono (by decide)
  have hr2 : Room 2 (A.deeper (envOfC "law" (defScope sLaw) s.heap.objs.size f0 (.ref cd))) := hr.mono (by decide)
  refine ⟨_, ps_par (i := 7) (j := 8) rfl scLaw.nd rfl rfl (by decide) rfl rfl (pa_cons (pe_call L.tk.ok hr1 rfl L.tk.mgf L.tk.kp L.tk.b .nil pass0 (pa_cons (pv 22) (pa_cons pe_int pa_nil)))
    (pa_cons (pe_call L.sl.ok hr2 rfl L.sl.mgf L.sl.kp L.sl.b .nil pass0 (pa_cons (pv 1) (pa_cons (pv 3) pa_nil))) pa_nil)) rfl, ?_⟩
  intro Dd c H a lh st hs tk J I k
  refine ⟨_, rfl, c.r, c.sc, 4, rfl, I.row, by decide, by decide, fun way H1 hw bt1 hR1 => ?_⟩
  have I1 := I.bt bt1 hR1
  have Y := I1.Y
  refine ⟨_, rfl, _, rfl, c.y, c.t, a, c.n, c.g, c.ties, st, rfl, I1.yd.y, I1.yd.t, I1.yd.len, I1.fz.tup, by rw [Y.len]; exact Y.ties, by rw [Y.len]; have := Y.n8; omega, fun l H2 s2 hl0 hl2 => ?_⟩
  exact ⟨_, _, rfl, k H2 way l hw (I1.same s2) hl2 (hR1.r.ne hl0)⟩
end
end K15
set_option autoImplicit false
set_option linter.all false
set_option Elab.async false
set_option maxRecDepth 100000
set_option maxHeartbeats 4000000
/-! The law: read. -/
namespace K15
open PySem PySem.Spec PyProof.Rows L2 LamX NdefX
theorem LsAt.nz {tb : Tb} {p d C y : Addr} {H H' : Hp} {t0 : Sd} {hs : List Int} {tk : Int} {l : Addr} {ps : List Sl} (h : LsAt H l ps) (z : Nz tb p d H H') (s : StoAt C H p d y t0 hs tk) : LsAt H' l ps := let ⟨as, h1, h2⟩ := h; ⟨as, z.lst s h1, z.prs s h2⟩
section
variable {K : PySem.W.Frag} {tb : Tb} {c : Lc} {H H' : Hp} {a lh : Addr} {st : Sd} {hs : List Int} {tk : Int}
theorem LI.gate (I : LI K tb c H a lh st hs tk) : c.g < st.length := by rw [I.dr.len]; exact I.yd.g
theorem LI.bk (I : LI K tb c H a lh st hs tk) : ∀ b, some b ∈ st → b < hs.length := fun b hb => by rw [I.hl]; exact I.dr.book.mp hb
theorem LI.n60 (I : LI K tb c H a lh st hs tk) : c.n ≤ 5 := I.dr.n5
/-- behind a method, the standing kept -/
theorem LI.nzk (I : LI K tb c H a lh st hs tk) (z : Nz tb c.p c.d H H') {tk' : Int} (s : StoAt c.C H' c.p c.d c.y st hs tk') : LI K tb c H' a lh st hs tk' :=
  let ⟨h1, h2, h3, h4, h5⟩ := I.nz z s
  ⟨h1, h2, I.dr, h3, s, I.hl, h4, I.hr, h5⟩
end
section
variable {P : Program} {w : World} {K : PySem.W.Frag} {mg : Str → Option Value} {base : Heap} {tb : Tb} {C CS CB CN CW f0 cd : Addr} {f : Nat → Addr} {fd : Nat → FuncData}
theorem law_t1 (L : LB P w K mg base tb C CS CB CN CW f fd) (A : Around) (outer : List Env) (s : Shared) (H0 : Hp) (E : XK) (hr : Room 5 (A.deeper (envOfC "law" (defScope sLaw) s.heap.objs.size f0 (.ref cd)))) :
    ∃ t, PS (lawX P w K mg base f0 cd A outer s H0 E) (turnS 1) t ∧ ∀ (Dd : Ends) (c : Lc) (H : Hp) (a lh l : Addr) (st : Sd) (hs : List Int) (tk tl : Int) (J : Nat → Option V) (way : Nat), c.C = C → LI K tb c H a lh st hs tk → LsAt H l (slidesOf c.ties st) → J 7 = some (iv way) →
      (∀ (H' : Hp), LI K tb c H' a lh st hs (if way = 0 then tk + 1 else tk) → LsAt H' l (slidesOf c.ties st) → Dd.nx (sg c a lh tl J) H') → t Dd (sg c a lh tl J) H := by
  have hr1 : Room 1 (A.deeper (envOfC "law" (defScope sLaw) s.heap.objs.size f0 (.ref cd))) := hr.mono (by decide)
  refine ⟨_, ps_if (pt_cmpR op_eq (pv 7) pe_int (nomark _)) (pss_one (ps_if (pt_not (pt_val (pe_call L.al.ok hr rfl L.al.mgf L.al.kp L.al.b .nil pass0 (pa_cons (pe_meth0 (pv 23) L.sc.cl L.mr L.sr hr1 L.br .nil pass0)
    (pa_cons (pe_ifExp (pt_cmpR op_isN (pe_ix ix_tup (pv 3) (pv 2) (fun _ _ => rfl)) pe_non (nomark _)) pe_non (pe_ix ix_list (pv 4) (pe_ix ix_tup (pv 3) (pv 2) (fun _ _ => rfl)) (fun _ _ => rfl))) pa_nil))))) (pss_one (ps_ret pe_bl)) pss_nil)) pss_nil, ?_⟩
  intro Dd c H a lh l st hs tk tl J way hC I hls hJ k
  subst hC
  have hJ7 : (sg c a lh tl J)[7]? = some (some (iv way)) := congrArg some hJ
  refine ⟨_, hJ7, rfl, _, rfl, ?_⟩
  rw [show V.int (0 : Int) = iv 0 from rfl, dec_iv]
  refine ite2 (fun hz => ?_) (fun hz => ?_)
  · have hw : way = 0 := by simpa using hz
    obtain ⟨dx, a2, kvs, hp, _⟩ := id I.sto
    have hgl := I.gate
    refine ⟨_, rfl, c.p, dx, _, rfl, hp, sf_no _ _ _ _ (by decide +kernel) (by decide +kernel) (by decide +kernel) (by decide +kernel), c.p, c.d, c.y, c.t, c.n, c.g, st, hs, tk, rfl, I.sto, I.yd.y, I.dr.len, I.yd.g, I.bk, I.tok, fun H1 z1 S1 => ?_⟩
    have I1 := I.nzk z1 S1
    have hls1 := hls.nz z1 I.sto
    refine ⟨_, rfl, _, rfl, a, _, _, _, rfl, rfl, I1.fz.tup.sq, ov_atI hgl, rfl, _, rfl, ?_⟩
    rw [ov_none]
    have fin : ∀ x, heldAt st hs c.g = x → Al H1 3 x x → spAlike 4 [heldAt st hs c.g, x] H1 (fun v H2 => v = .bl true ∧ Same H1 H2) (fun _ _ _ => False) := fun x e h => ⟨3, _, x, rfl, rfl, by rw [e]; exact h, fun H' s => ⟨rfl, s⟩⟩
    have done : ∀ H2, Same H1 H2 → Dd.nx (sg c a lh tl J) H2 := fun H2 s2 => k H2 (by rw [if_pos hw]; exact I1.same s2) (hls1.same2 s2)
    have hgm : st.getD c.g none ∈ st := by rw [List.getD_eq_getElem?_getD, List.getElem?_eq_getElem hgl]; exact List.getElem_mem hgl
    have hV : heldAt st hs c.g = match st.getD c.g none with | none => V.non | some b => V.int (hs.getD b 0) := rfl
    cases hb : st.getD c.g none with
    | none =>
      rw [hb] at hV
      refine iteT ⟨3, _, _, rfl, rfl, by rw [hV]; exact .non 3, fun H2 s2 => ⟨true, rfl, iteF (done H2 s2)⟩⟩
    | some b =>
      rw [hb] at hV hgm
      have hbl := I1.bk b hgm
      refine iteF ⟨_, rfl, _, rfl, _, rfl, a, _, _, _, rfl, rfl, I1.fz.tup.sq, ov_atI hgl, ?_⟩
      rw [hb]
      refine ⟨lh, _, _, _, rfl, rfl, .inl (.inl I1.held), atI_nat (v := .int (hs.getD b 0)) (by rw [List.getElem?_map, List.getElem?_eq_getElem hbl, List.getD_eq_getElem?_getD, List.getElem?_eq_getElem hbl]; rfl), ?_⟩
      exact ⟨3, _, _, rfl, rfl, by rw [hV]; exact .int 3 _, fun H2 s2 => ⟨true, rfl, iteF (done H2 s2)⟩⟩
  · have hw : way ≠ 0 := by simpa using hz
    exact k H (by rw [if_neg hw]; exact I) hls
end
end K15
set_option autoImplicit false
set_option linter.all false
set_option Elab.async false
set_option maxRecDepth 100000
set_option maxHeartbeats 4000000
/-! The law: write. -/
namespace K15
open PySem PySem.Spec PyProof.Rows L2 LamX NdefX
theorem wrote_len {st : Sd} {hs : List Int} {g : Nat} {v : Int} : (wrote st hs g v).length = hs.length := by
  unfold wrote
  split
  · rfl
  · rw [List.length_set]
theorem wrote_at {st : Sd} {hs : List Int} {g : Nat} {v : Int} {i : Nat} {x : Int} (h : hs[i]? = some x) : (wrote st hs g v)[i]? = some (if st.getD g none = some i then v else x) := by
  unfold wrote
  have hi := (List.getElem?_eq_some_iff.mp h).1
  cases e : st.getD g none with
  | none => rw [if_neg (fun z => by cases z)]; exact h
  | some b =>
    show (hs.set b v)[i]? = _
    rw [List.getElem?_set]
    by_cases q : b = i
    · subst q
      rw [if_pos rfl, if_pos hi, if_pos rfl]
    · rw [if_neg q, if_neg (fun z => q (Option.some.inj z))]; exact h
theorem LsAt.bt {K : PySem.W.Frag} {tb : Tb} {c : Lc} {H H' : Hp} {a lh l : Addr} {st : Sd} {hs : List Int} {tk : Int} {ps : List Sl} (h : LsAt H l ps) (t : Bt c.r H H') (hl : l ≠ c.r) (I : LI K tb c H a lh st hs tk) : LsAt H' l ps :=
  let ⟨as, h1, h2⟩ := h; ⟨as, by rw [t l hl]; exact h1, h2.ext fun b xs q => I.tup_bt t q⟩
section
variable {P : Program} {w : World} {K : PySem.W.Frag} {mg : Str → Option Value} {base : Heap} {tb : Tb} {C CS CB CN CW f0 cd : Addr} {f : Nat → Addr} {fd : Nat → FuncData}
theorem law_t2 (L : LB P w K mg base tb C CS CB CN CW f fd) (A : Around) (outer : List Env) (s : Shared) (H0 : Hp) (E : XK) (hr : Room 5 (A.deeper (envOfC "law" (defScope sLaw) s.heap.objs.size f0 (.ref cd)))) :
    ∃ t, PS (lawX P w K mg base f0 cd A outer s H0 E) (turnS 2) t ∧ ∀ (Dd : Ends) (c : Lc) (H : Hp) (a lh l : Addr) (st : Sd) (hs : List Int) (tk tl : Int) (J : Nat → Option V) (way : Nat), c.C = C → LI K tb c H a lh st hs tk → LsAt H l (slidesOf c.ties st) → l ≠ c.r → J 7 = some (iv way) →
      (∀ (H' : Hp) (lh' : Addr) (hs' : List Int) (J' : Nat → Option V), LI K tb c H' a lh' st hs' (if way = 1 then tk + 1 else tk) → LsAt H' l (slidesOf c.ties st) → J' 7 = J 7 → J' 8 = J 8 → Dd.nx (sg c a lh' tl J') H') → t Dd (sg c a lh tl J) H := by
  have hr1 : Room 1 (A.deeper (envOfC "law" (defScope sLaw) s.heap.objs.size f0 (.ref cd))) := hr.mono (by decide)
  have hr2 : Room 2 (A.deeper (envOfC "law" (defScope sLaw) s.heap.objs.size f0 (.ref cd))) := hr.mono (by decide)
  refine ⟨_, ps_if (pt_cmpR op_eq (pv 7) pe_int (nomark _))
    (pss_cons (ps_asg (pe_tup (pa_cons (pe_op op_sub (pe_call L.tk.ok hr1 rfl L.tk.mgf L.tk.kp L.tk.b .nil pass0 (pa_cons (pv 22) (pa_cons pe_int pa_nil))) pe_int) (pa_cons (pe_cmpR op_notN (pe_ix ix_tup (pv 3) (pv 2) (fun _ _ => rfl)) pe_non (nomark _)) pa_nil)))
        (pg_tup rfl (pgs_cons (pg_name (i := 9) scLaw.nd rfl (Or.inr rfl)) (pgs_cons (pg_name (i := 10) scLaw.nd rfl (Or.inr rfl)) pgs_nil))))
    (pss_cons (ps_if (pt_not (pt_val (pe_call L.is.ok hr1 rfl L.is.mgf L.is.kp L.is.b .nil pass0 (pa_cons (pe_meth (E := E0) (pv 23) L.sc.cl L.mw L.sw hr2 L.bw .nil passL (pa_cons (pv 9) pa_nil)) (pa_cons (pv 10) pa_nil))))) (pss_one (ps_ret pe_bl)) pss_nil)
    (pss_one (ps_setLc (i := 4) (own := [("_law_book", 11), ("_law_one", 24)]) (g := gTup K 2 (gCons (gName 11) (gCons (gName 24) gNil))) rfl scLaw.nd rfl rfl (sw_true rfl rfl rfl (by decide +kernel)) (pi_enum (by rfl) L.B.enum (pa_cons (pv 4) pa_nil))
        (blkOk_by (N := lawN) (sc := defScope sLaw) (by decide +kernel))
        (fun _ _ _ _ _ => pg_tup rfl (pgs_cons (pg_name (i := 11) scLaw.nd rfl (Or.inl rfl)) (pgs_cons (pg_name (i := 24) scLaw.nd rfl (Or.inl rfl)) pgs_nil))) (fun _ _ _ _ _ => pts_nil)
        (fun _ _ _ _ _ => pe_ifExp (PW.pt (pw_and (pt_val (pv 10)) (pw_and1 (pt_cmpR op_eq (pv 11) (pe_ix (r := rIxT K) ix_tup (pv 3) (pv 2) (fun _ _ => rfl)) (nomark _))))) (pv 9) (pv 24)))))) pss_nil, ?_⟩
  intro Dd c H a lh l st hs tk tl J way hC I hls hlr hJ k
  subst hC
  have hJ7 : (sg c a lh tl J)[7]? = some (some (iv way)) := congrArg some hJ
  refine ⟨_, hJ7, rfl, _, rfl, ?_⟩
  rw [show V.int (1 : Int) = iv 1 from rfl, dec_iv]
  refine ite2 (fun hz => ?_) (fun hz => ?_)
  · have hw : way = 1 := by simpa using hz
    have hgl := I.gate
    refine ⟨_, rfl, c.r, c.sc, 9, rfl, I.row, by decide, by decide, fun q H1 hq bt1 hR1 => ?_⟩
    have I1 := I.bt bt1 hR1
    have hls1 : LsAt H1 l (slidesOf c.ties st) := hls.bt bt1 hlr I
    refine ⟨_, _, rfl, rfl, _, rfl, _, rfl, a, _, _, _, rfl, rfl, I1.fz.tup.sq, ov_atI hgl, rfl, ?_⟩
    rw [ov_none]
    refine ⟨by show 2 ≤ sizeLine; decide, fun T hT => ?_⟩
    have sT := same_new (HO.tup [V.int ((q : Int) - 4), V.bl (!(st.getD c.g none == none))]) hT
    have I2 := I1.same sT
    have hls2 := hls1.same2 sT
    refine ⟨T, _, rfl, SqT.of upd_same, rfl, _, _, rfl, _, _, rfl, rfl, ?_⟩
    obtain ⟨dx, a2, kvs, hp, _⟩ := id I2.sto
    refine ⟨_, rfl, c.p, dx, _, rfl, hp, sf_no _ _ _ _ (by decide +kernel) (by decide +kernel) (by decide +kernel) (by decide +kernel), _, rfl, c.p, c.d, c.y, c.t, c.n, c.g, st, hs, tk, _, rfl, rfl, I2.sto, I2.yd.y, I2.dr.len, I2.yd.g, I2.bk, by rw [I2.hl]; have := I2.n60; omega, I2.tok, fun z => ?_, fun v hv _ H3 z3 S3 => ?_⟩
    · have : numb (.int ((q : Int) - 4)) (-1000000) 1000000 = true := decide_eq_true ⟨by omega, by omega⟩
      exact absurd (this.symm.trans z) (by decide)
    obtain rfl : (q : Int) - 4 = v := V.int.inj hv
    refine ⟨_, rfl, _, _, rfl, true, ?_, iteF ?_⟩
    · have : (isHole st c.g) = (st.getD c.g none == none) := rfl
      rw [this, decide_eq_true rfl]
    obtain ⟨g1, g2, g3, g4, g5⟩ := I2.nz z3 S3
    have hls3 := hls2.nz z3 I2.sto
    refine ⟨_, rfl, lh, _, rfl, .inl (.inl g4), fun D hD => ?_⟩
    have hDr : D ≠ c.r := g1.r.ne hD
    refine lc_it walk_enum (fun i H' => Same H3 H' ∧ H' D = some (.lst (((wrote st hs c.g ((q : Int) - 4)).take i).map V.int))) ⟨same_new _ hD, upd_same⟩ (fun i H' _ z => .inl (.inl (z.1 _ _ g4))) ?_ ?_
    · rintro i x H4 H5 hi ⟨s4, hD4⟩ ⟨U, x1, x2, rfl, hU, rfl, e1, e2⟩
      obtain rfl : V.int (i : Nat) = x1 := Option.some.inj e1
      have e2' : (hs.map V.int)[i]? = some x2 := e2
      rw [List.getElem?_map] at e2'
      obtain ⟨u, hu, rfl⟩ : ∃ u, hs[i]? = some u ∧ x2 = .int u := by
        cases e : hs[i]? with
        | none => rw [e] at e2'; cases e2'
        | some u => rw [e] at e2'; exact ⟨u, rfl, (Option.some.inj e2').symm⟩
      have sU := same_new (HO.tup [V.int (i : Nat), V.int u]) hU
      have hD5 := sU _ _ hD4
      have hw1 := wrote_at (st := st) (g := c.g) (v := (q : Int) - 4) hu
      have f5 : TupH (upd H4 U (.tup [V.int (i : Nat), V.int u])) a (st.map ov) := (g3.tup.ext fun o e => sU _ _ (s4 _ _ e))
      have step : ∀ y, y = V.int (if st.getD c.g none = some i then (q : Int) - 4 else u) → ∃ acc, (upd H4 U (.tup [V.int (i : Nat), V.int u])) D = some (.lst acc) ∧ acc.length < sizeLine ∧ Same H3 (upd (upd H4 U (.tup [V.int (i : Nat), V.int u])) D (.lst (acc ++ [y]))) ∧ (upd (upd H4 U (.tup [V.int (i : Nat), V.int u])) D (.lst (acc ++ [y]))) D = some (.lst (((wrote st hs c.g ((q : Int) - 4)).take (i + 1)).map V.int)) := fun y hy => by
        refine ⟨_, hD5, ?_, fun b o hb => ?_, ?_⟩
        · rw [List.length_map, List.length_take, wrote_len, I2.hl, sizeLine_eq]; have := I2.n60; omega
        · rw [upd_ne (fun z => by rw [z, hD] at hb; cases hb)]
          exact sU _ _ (s4 _ _ hb)
        · rw [upd_same, take_succ hw1, List.map_append, hy]; rfl
      refine ⟨U, _, rfl, SqT.of upd_same, rfl, _, _, rfl, _, _, rfl, rfl, rfl, ?_⟩
      refine ⟨_, rfl, _, rfl, ?_⟩
      refine ite2 (fun hb => ?_) (fun hb => ?_)
      · obtain ⟨b, hb2⟩ : ∃ b, st.getD c.g none = some b := by
          cases e : st.getD c.g none with
          | none => rw [e] at hb; cases hb
          | some b => exact ⟨b, rfl⟩
        refine ⟨_, rfl, _, rfl, _, rfl, a, _, _, _, rfl, rfl, f5.sq, ov_atI hgl, ?_⟩
        rw [hb2]
        refine ⟨rfl, _, rfl, ?_⟩
        show (if decide (iv i = iv b) = true then _ else _)
        rw [dec_iv]
        by_cases hib : i = b
        · subst hib
          rw [show (i == i) = true by simp]
          refine iteT ⟨_, rfl, step _ ?_⟩
          rw [if_pos hb2]
        · rw [show (i == b) = false by simpa using hib]
          refine iteF ⟨_, rfl, step _ ?_⟩
          rw [if_neg (fun z => hib (by rw [hb2] at z; exact (Option.some.inj z).symm))]
      · have hb2 : st.getD c.g none = none := by
          cases e : st.getD c.g none with
          | none => rfl
          | some b => rw [e] at hb; exact absurd rfl hb
        refine iteF ⟨_, rfl, step _ ?_⟩
        rw [if_neg (fun z => by rw [hb2] at z; cases z)]
    · rintro H4 ⟨s4, hD4⟩
      have hlen : (wrote st hs c.g ((q : Int) - 4)).take (hs.map V.int).length = wrote st hs c.g ((q : Int) - 4) := by
        rw [List.length_map, ← wrote_len (st := st) (hs := hs) (g := c.g) (v := (q : Int) - 4), List.take_length]
      rw [hlen] at hD4
      refine k H4 D (wrote st hs c.g ((q : Int) - 4)) (jset (jset J 9 (some (.int ((q : Int) - 4)))) 10 (some (.bl (!(st.getD c.g none == none))))) ?_ (hls3.same2 s4) rfl rfl
      rw [if_pos hw]
      exact ⟨rowAt_keep g1 (fun b xs e => s4 _ _ e) (fun b o xs e => s4 _ _ e), g2.to fun b xs e => s4 _ _ e, I2.dr, g3.same fun o e => s4 _ _ e, S3.same s4, by rw [wrote_len]; exact I2.hl, hD4, hDr, g5.same s4⟩
  · have hw : way ≠ 1 := by simpa using hz
    exact k H lh hs J (by rw [if_neg hw]; exact I) hls rfl rfl
end
end K15
set_option autoImplicit false
set_option linter.all false
set_option Elab.async false
set_option maxRecDepth 100000
set_option maxHeartbeats 4000000
/-! The law: slide. -/
namespace K15
open PySem PySem.Spec PyProof.Rows L2 LamX NdefX
theorem prs_dp {K : PySem.W.Frag} {H : Hp} : ∀ {as : List Addr} {ps : List Sl}, PrsAt H as ps → DpAll K H (as.map V.ref) (ps.map slD)
  | [], [], _ => .nil
  | [], _ :: _, h => by cases h.1
  | _ :: _, [], h => by cases h.1
  | a :: as, s :: ps, h => .cons (.tup (SqT.of (h.2 0 a s rfl rfl)) (.cons (.int _) (.cons (.int _) .nil))) (prs_dp ⟨by simpa using h.1, fun i b u e1 e2 => h.2 (i + 1) b u e1 e2⟩)
theorem ls_eqv (ps : List Sl) : PyData.eqv (.list (ps.map slD)) (.list []) = ps.isEmpty := by
  cases ps with
  | nil => simp only [List.map_nil, PyData.eqv, PyData.eqvAll, List.isEmpty_nil]
  | cons s ps => simp only [List.map_cons, PyData.eqv, PyData.eqvAll, List.isEmpty_cons]
theorem ls_shaped : ∀ ps : List Sl, SeqAt.shaped (.list (ps.map slD)) = true := by
  intro ps
  unfold SeqAt.shaped
  have h1 : (PyData.list (ps.map slD)).canLay0 = true := by rw [PyData.canLay0]; exact slsD_lay ps
  have h2 : (PyData.list (ps.map slD)).depth = (wD ps).depth := by unfold wD; simp [PyData.depth]
  have := wD_depth ps
  rw [h1, h2, decide_eq_true (by omega)]
  rfl
section
variable {P : Program} {w : World} {K : PySem.W.Frag} {mg : Str → Option Value} {base : Heap} {tb : Tb} {C CS CB CN CW f0 cd : Addr} {f : Nat → Addr} {fd : Nat → FuncData}
theorem law_t3 (L : LB P w K mg base tb C CS CB CN CW f fd) (A : Around) (outer : List Env) (s : Shared) (H0 : Hp) (E : XK) (hr : Room 5 (A.deeper (envOfC "law" (defScope sLaw) s.heap.objs.size f0 (.ref cd)))) :
    ∃ t, PS (lawX P w K mg base f0 cd A outer s H0 E) (turnS 3) t ∧ ∀ (Dd : Ends) (c : Lc) (H : Hp) (a lh l : Addr) (st : Sd) (hs : List Int) (tk tl : Int) (J : Nat → Option V) (way : Nat), c.C = C → LI K tb c H a lh st hs tk → LsAt H l (slidesOf c.ties st) → l ≠ c.r → J 7 = some (iv way) → J 8 = some (.ref l) →
      (∀ (H' : Hp) (a' : Addr) (st' : Sd) (J' : Nat → Option V), LI K tb c H' a' lh st' hs (if way = 2 ∧ slidesOf c.ties st ≠ [] then tk + 1 else tk) → LsAt H' l (slidesOf c.ties st) → J' 7 = J 7 → J' 8 = J 8 → Dd.nx (sg c a' lh tl J') H') → t Dd (sg c a lh tl J) H := by
  have hr1 : Room 1 (A.deeper (envOfC "law" (defScope sLaw) s.heap.objs.size f0 (.ref cd))) := hr.mono (by decide)
  have hr2 : Room 2 (A.deeper (envOfC "law" (defScope sLaw) s.heap.objs.size f0 (.ref cd))) := hr.mono (by decide)
  have hr3 : Room 3 (A.deeper (envOfC "law" (defScope sLaw) s.heap.objs.size f0 (.ref cd))) := hr.mono (by decide)
  have hu64 : (A.deeper (envOfC "law" (defScope sLaw) s.heap.objs.size f0 (.ref cd))).units + 64 < cLine := by have := hr.un; omega
  refine ⟨_, ps_if (PW.pt (pw_and (pt_cmpR op_eq (pv 7) pe_int (nomark _)) (pw_and1 (pt_cmpR (op_neD hu64) (pv 8) (pe_lst pa_nil) (nomark _)))))
    (pss_cons (ps_set (i := 12) scLaw.nd rfl (Or.inl rfl) (pe_call L.pk.ok hr2 rfl L.pk.mgf L.pk.kp L.pk.b .nil pass0 (pa_cons (pv 22) (pa_cons (pv 8) pa_nil))))
    (pss_cons (ps_expr (pe_meth (E := E0) (pv 23) L.sc.cl L.ms L.ss hr3 L.bs .nil passL (pa_cons (pe_ix ix_tup (pv 12) pe_int (fun _ _ => rfl)) (pa_cons (pe_ix ix_tup (pv 12) pe_int (fun _ _ => rfl)) pa_nil))))
    (pss_one (ps_set (i := 3) scLaw.nd rfl (Or.inr rfl) (pe_call L.dd.ok hr1 rfl L.dd.mgf L.dd.kp L.dd.b .nil pass0 (pa_cons (pv 3) (pa_cons (pv 12) pa_nil))))))) pss_nil, ?_⟩
  intro Dd c H a lh l st hs tk tl J way hC I hls hlr hJ hJ8 k
  subst hC
  have hJ7 : (sg c a lh tl J)[7]? = some (some (iv way)) := congrArg some hJ
  have hJ8' : (sg c a lh tl J)[8]? = some (some (.ref l)) := congrArg some hJ8
  refine ⟨_, hJ7, rfl, _, rfl, ?_⟩
  rw [show V.int (2 : Int) = iv 2 from rfl, dec_iv]
  refine ite2 (fun hz => ?_) (fun hz => ?_)
  · have hw : way = 2 := by simpa using hz
    refine ⟨_, hJ8', Nat.zero_le _, fun N hN => ?_⟩
    have sN := same_new (HO.lst []) hN
    have I1 := I.same sN
    obtain ⟨as, hA, hP⟩ := hls.same2 sN
    refine ⟨_, _, .lst (.inl (.inl hA)) (prs_dp hP), .lst (.inl (.inl upd_same)) .nil, ls_shaped _, by decide +kernel, _, rfl, ?_⟩
    rw [ls_eqv]
    have hls1 : LsAt _ l (slidesOf c.ties st) := hls.same2 sN
    cases he : (slidesOf c.ties st).isEmpty with
    | true =>
      have h0 : slidesOf c.ties st = [] := List.isEmpty_iff.mp he
      refine iteF ?_
      exact k _ a st J (by rw [if_neg (fun z => z.2 h0)]; exact I1) hls1 rfl rfl
    | false =>
      have h0 : slidesOf c.ties st ≠ [] := fun z => by rw [z] at he; cases he
      refine iteT ?_
      have hpos : 1 ≤ (slidesOf c.ties st).length := List.length_pos_iff.mpr h0
      have hup : (slidesOf c.ties st).length ≤ 1000 := by
        have h9 := flat_len (fun p => slidesAt_len (ties := c.ties) (st := st) (p := p)) (List.range st.length)
        rw [List.length_range, I.dr.len] at h9
        have h7 := I.yd.len
        have h8 : 2 * c.ties.length * c.n ≤ 60 * 5 := Nat.mul_le_mul (by omega) I.n60
        show ((List.range st.length).flatMap (slidesAt c.ties st)).length ≤ 1000
        rw [I.dr.len]
        omega
      refine ⟨_, rfl, _, hJ8', c.r, c.sc, l, _, rfl, I1.row, hA, hlr, by rw [List.length_map, hP.1]; exact hpos, by rw [List.length_map, hP.1]; exact hup, fun v x H2 hx bt2 hR2 => ?_⟩
      obtain ⟨b, hb, rfl⟩ := get_ref hx
      obtain ⟨sl, hsl⟩ : ∃ sl, (slidesOf c.ties st)[v]? = some sl := ⟨_, List.getElem?_eq_getElem (by rw [← hP.1]; exact (List.getElem?_eq_some_iff.mp hb).1)⟩
      have hslm := List.mem_of_getElem? hsl
      have I2 := I1.bt bt2 hR2
      have hls2 := hls1.bt bt2 hlr I1
      have hb2 : SlAt H2 b sl := I1.tup_bt bt2 (hP.2 v b sl hb hsl)
      have Y := I.Y
      have hcan := canB_of Y hslm
      obtain ⟨q1, q2, q3, q4⟩ := mem_slidesOf.mp hslm
      have q6 : sl.1 ≠ sl.2 := fun z => by rw [z, q4] at q2; cases q2
      obtain ⟨dx, a2, kvs, hp, _⟩ := id I2.sto
      refine ⟨_, rfl, c.p, dx, _, rfl, hp, sf_no _ _ _ _ (by decide +kernel) (by decide +kernel) (by decide +kernel) (by decide +kernel), _, rfl, b, _, _, _, rfl, rfl, SqT.of hb2, rfl, _, rfl, b, _, _, _, rfl, rfl, SqT.of hb2, rfl, c.p, c.d, c.y, c.t, c.n, c.g, c.ties, st, hs, tk, sl, rfl, I2.sto, I2.yd.y, I2.yd.t, I2.dr.len, by have := I2.n60; omega, I2.tok, fun H3 z3 _ S3 => ?_, fun H3 z3 hno _ => absurd hcan hno⟩
      obtain ⟨g1, g2, g3, g4, g5⟩ := I2.nz z3 S3
      have hls3 := hls2.nz z3 I2.sto
      have hb3 : SlAt H3 b sl := z3.sl I2.sto hb2
      refine ⟨_, rfl, _, rfl, a, b, st, sl, rfl, g3.tup, hb3, q1, by rw [I2.dr.len]; exact hcan.2.1, q6, by rw [I2.dr.len]; have := I2.n60; omega, fun a3 H4 s4 ha0 ha3 => ?_⟩
      refine k H4 a3 (slid st sl) (jset J 12 (some (.ref b))) ?_ (hls3.same2 s4) rfl rfl
      rw [if_pos ⟨hw, h0⟩]
      exact ⟨rowAt_keep g1 (fun b xs e => s4 _ _ e) (fun b o xs e => s4 _ _ e), g2.to fun b xs e => s4 _ _ e, I2.dr.slid I2.yd.ok hslm, ha3, S3.same s4, I2.hl, s4 _ _ g4, I2.hr, g5.same s4⟩
  · have hw : way ≠ 2 := by simpa using hz
    refine iteF ?_
    exact k H a st J (by rw [if_neg (fun z => hw z.1)]; exact I) hls rfl rfl
end
end K15
set_option autoImplicit false
set_option linter.all false
set_option Elab.async false
set_option maxRecDepth 100000
set_option maxHeartbeats 4000000
/-! The law: ticks. -/
namespace K15
open PySem PySem.Spec PyProof.Rows L2 LamX NdefX
section
variable {P : Program} {w : World} {K : PySem.W.Frag} {mg : Str → Option Value} {base : Heap} {tb : Tb} {C CS CB CN CW f0 cd : Addr} {f : Nat → Addr} {fd : Nat → FuncData}
theorem law_t4 (A : Around) (outer : List Env) (s : Shared) (H0 : Hp) (E : XK) (hr : Room 5 (A.deeper (envOfC "law" (defScope sLaw) s.heap.objs.size f0 (.ref cd)))) :
    ∃ t, PS (lawX P w K mg base f0 cd A outer s H0 E) (turnS 4) t ∧ ∀ (Dd : Ends) (c : Lc) (H : Hp) (a lh l : Addr) (st : Sd) (hs : List Int) (tk tl : Int) (J : Nat → Option V) (way : Nat) (ps : List Sl), LI K tb c H a lh st hs tk → LsAt H l ps → J 7 = some (iv way) → J 8 = some (.ref l) →
      (∀ (H' : Hp), LI K tb c H' a lh st hs tk → Dd.nx (sg c a lh (tl + (if way = 3 ∨ way = 2 ∧ ps = [] then 0 else 1)) J) H') → t Dd (sg c a lh tl J) H := by
  have hu64 : (A.deeper (envOfC "law" (defScope sLaw) s.heap.objs.size f0 (.ref cd))).units + 64 < cLine := by have := hr.un; omega
  refine ⟨_, ps_set (i := 5) scLaw.nd rfl (Or.inl rfl) (pe_op op_add (pv 5) (pe_ifExp (PW.pt (pw_or (pt_cmpR op_eq (pv 7) pe_int (nomark _)) (pw_or1 (PW.pt (pw_and (pt_cmpR op_eq (pv 7) pe_int (nomark _)) (pw_and1 (pt_cmpR (op_eqD hu64) (pv 8) (pe_lst pa_nil) (nomark _)))))))) pe_int pe_int)), ?_⟩
  intro Dd c H a lh l st hs tk tl J way ps I hls hJ hJ8 k
  have hJ7 : (sg c a lh tl J)[7]? = some (some (iv way)) := congrArg some hJ
  have hJ8' : (sg c a lh tl J)[8]? = some (some (.ref l)) := congrArg some hJ8
  have fin0 : ∀ H', LI K tb c H' a lh st hs tk → (way = 3 ∨ way = 2 ∧ ps = []) → Dd.nx (sg c a lh (tl + 0) J) H' := fun H' I' h => by
    have := k H' I'
    rw [if_pos h] at this
    exact this
  have fin1 : ∀ H', LI K tb c H' a lh st hs tk → ¬ (way = 3 ∨ way = 2 ∧ ps = []) → Dd.nx (sg c a lh (tl + 1) J) H' := fun H' I' h => by
    have := k H' I'
    rw [if_neg h] at this
    exact this
  refine ⟨_, rfl, _, hJ7, rfl, _, rfl, ?_⟩
  rw [show V.int (3 : Int) = iv 3 from rfl, dec_iv]
  by_cases h3 : way = 3
  · rw [show (way == 3) = true by simpa using h3]
    exact ⟨_, _, rfl, rfl, fin0 _ I (.inl h3)⟩
  · rw [show (way == 3) = false by simpa using h3]
    refine ⟨_, hJ7, rfl, _, rfl, ?_⟩
    rw [show V.int (2 : Int) = iv 2 from rfl, dec_iv]
    by_cases h2 : way = 2
    · rw [show (way == 2) = true by simpa using h2]
      refine ⟨_, hJ8', Nat.zero_le _, fun N hN => ?_⟩
      have sN := same_new (HO.lst []) hN
      have I1 := I.same sN
      obtain ⟨as, hA, hP⟩ := hls.same2 sN
      refine ⟨_, _, .lst (.inl (.inl hA)) (prs_dp hP), .lst (.inl (.inl upd_same)) .nil, ls_shaped _, by decide +kernel, _, rfl, ?_⟩
      rw [ls_eqv]
      cases he : ps.isEmpty with
      | true => exact ⟨_, _, rfl, rfl, fin0 _ I1 (.inr ⟨h2, List.isEmpty_iff.mp he⟩)⟩
      | false => exact ⟨_, _, rfl, rfl, fin1 _ I1 (fun z => by
          rcases z with z | z
          · exact h3 z
          · rw [z.2] at he; cases he)⟩
    · rw [show (way == 2) = false by simpa using h2]
      exact ⟨_, _, rfl, rfl, fin1 _ I (fun z => by
          rcases z with z | z
          · exact h3 z
          · exact h2 z.1)⟩
end
end K15
set_option autoImplicit false
set_option linter.all false
set_option Elab.async false
set_option maxRecDepth 100000
set_option maxHeartbeats 4000000
/-! The law: what is due after a turn. -/
namespace K15
open PySem PySem.Spec PyProof.Rows L2 LamX NdefX
theorem al_st {H : Hp} {n : Nat} {a b : Addr} {st : Sd} (h1 : TupH H a (st.map ov)) (h2 : TupH H b (st.map ov)) (hz : st.length ≤ 4000) : Al H (n + 1) (.ref a) (.ref b) := by
  refine .tup n h1 h2 rfl (by rw [List.length_map]; exact hz) fun i x y e1 e2 => ?_
  rw [e1] at e2
  obtain rfl := Option.some.inj e2
  rw [List.getElem?_map] at e1
  cases e : st[i]? with
  | none => rw [e] at e1; cases e1
  | some o =>
    rw [e] at e1
    obtain rfl := Option.some.inj e1
    cases o with
    | none => exact .non n
    | some q => exact .int n _
theorem al_ints {H : Hp} {n : Nat} {a b : Addr} {hs : List Int} (h1 : H a = some (.tup (hs.map V.int))) (h2 : H b = some (.tup (hs.map V.int))) (hz : hs.length ≤ 4000) : Al H (n + 1) (.ref a) (.ref b) := by
  refine .tup n (.inl h1) (.inl h2) rfl (by rw [List.length_map]; exact hz) fun i x y e1 e2 => ?_
  rw [e1] at e2
  obtain rfl := Option.some.inj e2
  rw [List.getElem?_map] at e1
  cases e : hs[i]? with
  | none => rw [e] at e1; cases e1
  | some o =>
    rw [e] at e1
    obtain rfl := Option.some.inj e1
    exact .int n _
theorem al_wd {H : Hp} {n : Nat} {a b : Addr} {u : Wd} (h1 : WdAt H a u) (h2 : WdAt H b u) (hz : u.length ≤ 4000) : Al H (n + 2) (.ref a) (.ref b) := by
  obtain ⟨as, a1, a2⟩ := h1
  obtain ⟨bs, b1, b2⟩ := h2
  refine .tup (n + 1) (.inl a1) (.inl b1) (by rw [List.length_map, List.length_map, a2.1, b2.1]) (by rw [List.length_map, a2.1]; exact hz) fun i x y e1 e2 => ?_
  obtain ⟨p, hp, rfl⟩ := get_ref e1
  obtain ⟨q, hq, rfl⟩ := get_ref e2
  have hi : i < u.length := by rw [← a2.1]; exact (List.getElem?_eq_some_iff.mp hp).1
  have g1 := a2.2 i p _ hp (List.getElem?_eq_getElem hi)
  have g2 := b2.2 i q _ hq (List.getElem?_eq_getElem hi)
  refine .tup n (.inl g1) (.inl g2) rfl (by show 2 ≤ 4000; decide) fun j x y e1 e2 => ?_
  match j, e1, e2 with
  | 0, e1, e2 =>
    obtain rfl := Option.some.inj e1
    obtain rfl := Option.some.inj e2
    exact .int n _
  | 1, e1, e2 =>
    obtain rfl := Option.some.inj e1
    obtain rfl := Option.some.inj e2
    exact .int n _
  | j + 2, e1, e2 => cases e1
section
variable {P : Program} {w : World} {K : PySem.W.Frag} {mg : Str → Option Value} {base : Heap} {tb : Tb} {C CS CB CN CW f0 cd : Addr} {f : Nat → Addr} {fd : Nat → FuncData}
theorem law_t6 (L : LB P w K mg base tb C CS CB CN CW f fd) (A : Around) (outer : List Env) (s : Shared) (H0 : Hp) (E : XK) (hr : Room 5 (A.deeper (envOfC "law" (defScope sLaw) s.heap.objs.size f0 (.ref cd)))) :
    ∃ t, PS (lawX P w K mg base f0 cd A outer s H0 E) (turnS 6) t ∧ ∀ (Dd : Ends) (c : Lc) (H : Hp) (a lh : Addr) (st : Sd) (hs : List Int) (tk : Int) (J : Nat → Option V), LI K tb c H a lh st hs tk →
      (∀ (H' : Hp) (D th tw : Addr), LI K tb c H' a lh st hs tk → H' D = some (.lst [.int tk, .ref a, .ref th, .ref tw]) → H' th = some (.tup (hs.map V.int)) → WdAt H' tw (slidesOf c.ties st) → Dd.nx (sg c a lh tk (jset J 16 (some (.ref D)))) H') → t Dd (sg c a lh tk J) H := by
  have hr2 : Room 2 (A.deeper (envOfC "law" (defScope sLaw) s.heap.objs.size f0 (.ref cd))) := hr.mono (by decide)
  refine ⟨_, ps_set (i := 16) scLaw.nd rfl (Or.inl rfl) (pe_lst (pa_cons (pv 5) (pa_cons (pv 3) (pa_cons (pe_callTy call_tuple_of (by rfl) L.B.tuple (by decide +kernel) (pa_cons (pv 4) pa_nil))
    (pa_cons (pe_callTy call_tuple_of (by rfl) L.B.tuple (by decide +kernel) (pa_cons (pe_call L.sl.ok hr2 rfl L.sl.mgf L.sl.kp L.sl.b .nil pass0 (pa_cons (pv 1) (pa_cons (pv 3) pa_nil))) pa_nil)) pa_nil))))), ?_⟩
  intro Dd c H a lh st hs tk J I k
  refine ⟨_, rfl, _, rfl, _, rfl, lh, _, rfl, .inl ⟨.inl (.inl I.held), fun T hT => ?_⟩⟩
  have s1 := same_new (HO.tup (hs.map V.int)) hT
  have I1 := I.same s1
  have Y := I1.Y
  refine ⟨_, rfl, _, rfl, c.y, c.t, a, c.n, c.g, c.ties, st, rfl, I1.yd.y, I1.yd.t, I1.yd.len, I1.fz.tup, by rw [Y.len]; exact Y.ties, by rw [Y.len]; have := Y.n8; omega, fun l H2 s2 hl0 ⟨as, hA, hP⟩ => ?_⟩
  refine ⟨l, _, rfl, .inl ⟨.inl (.inl hA), fun U hU => ?_⟩⟩
  have s3 := same_new (HO.tup (as.map V.ref)) hU
  refine ⟨by show 4 ≤ sizeLine; decide, fun D hD => ?_⟩
  have s4 := same_new (HO.lst [V.int tk, V.ref a, V.ref T, V.ref U]) hD
  exact k _ D T U (((I1.same s2).same s3).same s4) upd_same (s4 _ _ (s3 _ _ (s2 _ _ upd_same))) ⟨as, s4 _ _ upd_same, (hP.same s3).same s4⟩
theorem law_t7 (L : LB P w K mg base tb C CS CB CN CW f fd) (A : Around) (outer : List Env) (s : Shared) (H0 : Hp) (E : XK) (hr : Room 5 (A.deeper (envOfC "law" (defScope sLaw) s.heap.objs.size f0 (.ref cd)))) :
    ∃ t, PS (lawX P w K mg base f0 cd A outer s H0 E) (turnS 7) t ∧ ∀ (Dd : Ends) (c : Lc) (H : Hp) (a lh D th tw : Addr) (st : Sd) (hs : List Int) (tk : Int) (J : Nat → Option V), c.C = C → LI K tb c H a lh st hs tk → H D = some (.lst [.int tk, .ref a, .ref th, .ref tw]) → H th = some (.tup (hs.map V.int)) → WdAt H tw (slidesOf c.ties st) → J 16 = some (.ref D) →
      (∀ (H' : Hp), LI K tb c H' a lh st hs tk → Dd.nx (sg c a lh tk J) H') → t Dd (sg c a lh tk J) H := by
  have hr1 : Room 2 (A.deeper (envOfC "law" (defScope sLaw) s.heap.objs.size f0 (.ref cd))) := hr.mono (by decide)
  have hr4 : Room 4 (A.deeper (envOfC "law" (defScope sLaw) s.heap.objs.size f0 (.ref cd))) := hr.mono (by decide)
  refine ⟨_, ps_if (pt_not (pt_val (pe_call L.al.ok hr rfl L.al.mgf L.al.kp L.al.b .nil pass0 (pa_cons (pe_lst (pa_cons (pe_prop (pv 23) L.sc.cl L.pt L.gt hr1 L.bt .nil pass0 rfl) (pa_cons (pe_prop (pv 23) L.sc.cl L.ps L.gs hr1 L.bgs .nil pass0 rfl)
    (pa_cons (pe_prop (pv 23) L.sc.cl L.ph L.gh hr1 L.bgh .nil pass0 rfl) (pa_cons (pe_prop (pv 23) L.sc.cl L.pw L.gw hr4 L.bgw .nil pass0 rfl) pa_nil))))) (pa_cons (pv 16) pa_nil))))) (pss_one (ps_ret pe_bl)) pss_nil, ?_⟩
  intro Dd c H a lh D th tw st hs tk J hC I hD hth htw hJ k
  subst hC
  have hJ' : (sg c a lh tk J)[16]? = some (some (.ref D)) := congrArg some hJ
  obtain ⟨dx, a2, kvs, hp, hd, hN, ha2⟩ := id I.sto
  refine ⟨_, rfl, c.p, dx, _, rfl, hp, c.p, dx, _, _, rfl, hp, sf_t _ _ _ _, _, rfl, c.p, dx, _, rfl, hp, c.p, dx, _, _, rfl, hp, sf_n _ _ _ _, _, rfl, c.p, dx, _, rfl, hp, c.p, c.d, c.y, st, hs, tk, rfl, I.sto, by rw [I.hl]; have := I.n60; omega, fun H1 T s1 hT0 hT => ?_⟩
  have I1 := I.same s1
  refine ⟨_, rfl, c.p, dx, _, rfl, s1 _ _ hp, c.p, c.d, c.y, c.t, c.n, c.g, c.ties, st, hs, tk, rfl, I1.sto, I1.yd, I1.Y, fun H2 U s2 hU0 hU => ?_⟩
  refine ⟨by show 4 ≤ sizeLine; decide, fun N hN => ?_⟩
  have s3 := same_new (HO.lst [V.int tk, V.ref a2, V.ref T, V.ref U]) hN
  have s12 := s1.trans s2
  have s13 := s12.trans s3
  have hln : (slidesOf c.ties st).length ≤ 4000 := by
    have h9 := flat_len (fun p => slidesAt_len (ties := c.ties) (st := st) (p := p)) (List.range st.length)
    rw [List.length_range, I.dr.len] at h9
    have h7 := I.yd.len
    have h8 : 2 * c.ties.length * c.n ≤ 60 * 5 := Nat.mul_le_mul (by omega) I.n60
    show ((List.range st.length).flatMap (slidesAt c.ties st)).length ≤ 4000
    rw [I.dr.len]
    omega
  have hst : st.length ≤ 4000 := by rw [I.dr.len]; have := I.n60; omega
  have hhl : hs.length ≤ 4000 := by rw [I.hl]; have := I.n60; omega
  refine ⟨_, hJ', 3, _, _, rfl, rfl, .lst 2 upd_same (s13 _ _ hD) rfl (by show 4 ≤ 4000; decide) fun i x y e1 e2 => ?_, fun H' s' => ⟨true, rfl, iteF (k H' ((I.same s13).same s'))⟩⟩
  match i, e1, e2 with
  | 0, e1, e2 =>
    obtain rfl := Option.some.inj e1
    obtain rfl := Option.some.inj e2
    exact .int 2 _
  | 1, e1, e2 =>
    obtain rfl := Option.some.inj e1
    obtain rfl := Option.some.inj e2
    exact al_st (StAt.same ha2 s13) (StAt.same I.fz.tup s13) hst
  | 2, e1, e2 =>
    obtain rfl := Option.some.inj e1
    obtain rfl := Option.some.inj e2
    exact al_ints (s3 _ _ (s2 _ _ hT)) (s13 _ _ hth) hhl
  | 3, e1, e2 =>
    obtain rfl := Option.some.inj e1
    obtain rfl := Option.some.inj e2
    exact al_wd (hU.same s3) (htw.same s13) hln
  | i + 4, e1, e2 => cases e1
end
end K15
set_option autoImplicit false
set_option linter.all false
set_option Elab.async false
set_option maxRecDepth 100000
set_option maxHeartbeats 4000000
/-! The law: bring. -/
namespace K15
open PySem PySem.Spec PyProof.Rows L2 LamX NdefX
/-! lists of pairs, as data -/
theorem dpAll_zs {K : PySem.W.Frag} {H : Hp} : ∀ {zs : List (V × PyData)}, (∀ z ∈ zs, Dp K H z.1 z.2) → DpAll K H (zs.map (·.1)) (zs.map (·.2))
  | [], _ => .nil
  | z :: zs, h => .cons (h z List.mem_cons_self) (dpAll_zs fun y hy => h y (List.mem_cons_of_mem _ hy))
theorem zs_words : ∀ {zs : List (V × PyData)}, (∀ z ∈ zs, ∃ u, z.2 = prD u) → ∃ us : List Wd, zs.map (·.2) = us.map prD
  | [], _ => ⟨[], rfl⟩
  | z :: zs, h => by
    obtain ⟨u, hu⟩ := h z List.mem_cons_self
    obtain ⟨us, hus⟩ := zs_words (zs := zs) fun y hy => h y (List.mem_cons_of_mem _ hy)
    exact ⟨u :: us, by rw [List.map_cons, List.map_cons, hu, hus]⟩
theorem prD_lay (u : Wd) : (prD u).canLay0 = true := by
  unfold prD
  rw [PyData.canLay0, PyData.canLayAll0, PyData.canLayAll0, PyData.canLayAll0]
  have : (wD u).canLay0 = true := by unfold wD; rw [PyData.canLay0]; exact slsD_lay u
  rw [this]
  simp [PyData.canLay0]
theorem prs_lay : ∀ us : List Wd, PyData.canLayAll0 (us.map prD) = true
  | [] => by simp [PyData.canLayAll0]
  | u :: us => by rw [List.map_cons, PyData.canLayAll0, prD_lay, prs_lay us]; rfl
theorem prs_depth : ∀ us : List Wd, PyData.depthAll (us.map prD) ≤ 4
  | [] => by simp [PyData.depthAll]
  | u :: us => by
    rw [List.map_cons, PyData.depthAll]
    have h1 := prD_depth u
    have h2 := prs_depth us
    omega
theorem prs_shaped (us : List Wd) : SeqAt.shaped (.list (us.map prD)) = true := by
  unfold SeqAt.shaped
  have h1 : (PyData.list (us.map prD)).canLay0 = true := by rw [PyData.canLay0]; exact prs_lay us
  have h2 : (PyData.list (us.map prD)).depth ≤ 64 := by
    rw [PyData.depth]
    have := prs_depth us
    omega
  rw [h1, decide_eq_true h2]
  rfl
theorem prs_eqv (us : List Wd) : PyData.eqv (.list (us.map prD)) (.list []) = us.isEmpty := by
  cases us with
  | nil => simp only [List.map_nil, PyData.eqv, PyData.eqvAll, List.isEmpty_nil]
  | cons s ps => simp only [List.map_cons, PyData.eqv, PyData.eqvAll, List.isEmpty_cons]
section
variable {P : Program} {w : World} {K : PySem.W.Frag} {mg : Str → Option Value} {base : Heap} {tb : Tb} {C CS CB CN CW f0 cd : Addr} {f : Nat → Addr} {fd : Nat → FuncData}
theorem law_t5 (L : LB P w K mg base tb C CS CB CN CW f fd) (hW : PySem.W.exmOne K (.ref CW) (.ref CW) = some true) (A : Around) (outer : List Env) (s : Shared) (H0 : Hp) (E : XK) (hr : Room 5 (A.deeper (envOfC "law" (defScope sLaw) s.heap.objs.size f0 (.ref cd)))) :
    ∃ t, PS (lawX P w K mg base f0 cd A outer s H0 E) (turnS 5) t ∧ ∀ (Dd : Ends) (c : Lc) (H : Hp) (a lh : Addr) (st : Sd) (hs : List Int) (tk : Int) (J : Nat → Option V) (way : Nat), c.C = C → LI K tb c H a lh st hs tk → J 7 = some (iv way) →
      (∀ (H' : Hp) (a' : Addr) (st' : Sd) (tk' : Int) (J' : Nat → Option V), LI K tb c H' a' lh st' hs tk' → Dd.nx (sg c a' lh tk' J') H') → t Dd (sg c a lh tk J) H := by
  have hr1 : Room 1 (A.deeper (envOfC "law" (defScope sLaw) s.heap.objs.size f0 (.ref cd))) := hr.mono (by decide)
  have hr3 : Room 3 (A.deeper (envOfC "law" (defScope sLaw) s.heap.objs.size f0 (.ref cd))) := hr.mono (by decide)
  have hr4 : Room 4 (A.deeper (envOfC "law" (defScope sLaw) s.heap.objs.size f0 (.ref cd))) := hr.mono (by decide)
  have hu64 : (A.deeper (envOfC "law" (defScope sLaw) s.heap.objs.size f0 (.ref cd))).units + 64 < cLine := by have := hr.un; omega
  have hu1 : (A.deeper (envOfC "law" (defScope sLaw) s.heap.objs.size f0 (.ref cd))).units + 1 < cLine := hu_of hr
  refine ⟨_, ps_if (pt_cmpR op_eq (pv 7) pe_int (nomark _))
    (pss_cons (ps_asg (pe_tup (pa_cons (pe_call L.tk.ok hr1 rfl L.tk.mgf L.tk.kp L.tk.b .nil pass0 (pa_cons (pv 22) (pa_cons (pv 19) pa_nil))) (pa_cons (pe_call L.wd.ok hr3 rfl L.wd.mgf L.wd.kp L.wd.b .nil pass0 (pa_cons (pv 1) (pa_cons (pv 3) pa_nil))) pa_nil)))
        (pg_tup rfl (pgs_cons (pg_name (i := 11) scLaw.nd rfl (Or.inr rfl)) (pgs_cons (pg_name (i := 13) scLaw.nd rfl (Or.inr rfl)) pgs_nil))))
    (pss_cons (ps_set (i := 14) scLaw.nd rfl (Or.inl rfl) (pe_callB (cr_sortedD hu64) (by rfl) L.B.sorted PyProof.Rows.boot_sorted (pa_cons (pe_lc (own := [("_law_one", 24)]) (g := gName 24) rfl scLaw.nd (pi_keysMM (pv 13)) (blkOk_by (N := lawN) (sc := defScope sLaw) (by decide +kernel))
        (fun _ _ _ _ _ => pg_name (i := 24) scLaw.nd rfl (Or.inl rfl)) (fun _ _ _ _ _ => pts_one (pt_cmpR op_eq (pe_ix (r := rIxT K) ix_tup (pv 24) (pv 2) (fun _ _ => rfl)) (pv 11) (nomark _)))
        (fun _ _ _ _ _ => pe_tup (pa_cons (pe_callB (r := rLenK K) call_len_seq (by rfl) L.B.len PySem.boot_len (pa_cons (show PE _ _ (tOp (rIxM P w) (tVar 13) (tVar 24)) from pe_dgetM hu1 (pv 13) (pv 24)) pa_nil)) (pa_cons (show PE _ _ (tOp (rIxM P w) (tVar 13) (tVar 24)) from pe_dgetM hu1 (pv 13) (pv 24)) pa_nil)))) pa_nil)))
    (pss_one (ps_try_manyAs (i := 15) (n := "e") (l := [(.ref CW, _)]) (tb := fun W => _) rfl rfl scLaw.nd rfl rfl (takes_of rfl rfl rfl rfl)
      (fun W pn xe tk hp => pss_cons (ps_if (pt_not (pt_val (pe_call (E := E0) L.al.ok hr rfl L.al.mgf L.al.kp L.al.b .nil pass0 (pa_cons (pe_methAt (E := WE W) (pv 23) L.sc.cl L.mb L.sb hr4 L.bb (fun σ => passAt tk σ) (pa_cons (pv 11) pa_nil))
          (pa_cons (pe_ifExp (pt_cmpR (r := rNeD K) (op_neD hu64) (pv 14) (pe_lst pa_nil) (nomark _)) (pe_ix (r := rIxT K) ix_tup (pe_ix (r := rIxL K) ix_list (pv 14) pe_int (fun _ _ => rfl)) pe_int (fun _ _ => rfl)) pe_non) pa_nil))))) (pss_one (ps_ret pe_bl)) pss_nil)
        (pss_one (ps_for hp rfl (show PI _ _ _ (iTup K _) from pi_tup (pe_ix (r := rIxT K) ix_tup (pe_ix (r := rIxL K) ix_list (pv 14) pe_int (fun _ _ => rfl)) pe_int (fun _ _ => rfl))) (pg_name (i := 12) scLaw.nd rfl (Or.inl rfl))
          (pss_one (ps_asg (pe_tup (pa_cons (pe_call (E := E0) L.dd.ok hr1 rfl L.dd.mgf L.dd.kp L.dd.b .nil pass0 (pa_cons (pv 3) (pa_cons (pv 12) pa_nil))) (pa_cons (pe_op op_add (pv 5) pe_int) pa_nil)))
            (show PG _ _ (gTup K 2 _) from pg_tup rfl (pgs_cons (pg_name (i := 3) scLaw.nd rfl (Or.inr rfl)) (pgs_cons (pg_name (i := 5) scLaw.nd rfl (Or.inl rfl)) pgs_nil))))))))
      (.cons ⟨rfl, by decide, .inl L.xw.g⟩ (fun a oe cls d pn _ _ => pss_one (ps_if (pt_cmpR (r := rNeD K) (op_neD hu64) (pv 14) (pe_lst pa_nil) (nomark _)) (pss_one (ps_ret pe_bl)) pss_nil)) .nil))))) pss_nil, ?_⟩
  intro Dd c H a lh st hs tk J way hC I hJ k
  subst hC
  have hJ7 : (sg c a lh tk J)[7]? = some (some (iv way)) := congrArg some hJ
  refine ⟨_, hJ7, rfl, _, rfl, ?_⟩
  rw [show V.int (3 : Int) = iv 3 from rfl, dec_iv]
  refine ite2 (fun hz => ?_) (fun hz => k H a st tk J I)
  have hn5 := I.n60
  have hhn := I.dr.hn
  refine ⟨_, rfl, _, rfl, c.r, c.sc, c.n - c.h, rfl, I.row, by omega, by omega, fun b H1 hb bt1 hR1 => ?_⟩
  have I1 := I.bt bt1 hR1
  have Y := I1.Y
  refine ⟨_, rfl, _, rfl, c.y, c.t, a, c.n, c.g, c.ties, st, rfl, I1.yd.y, I1.yd.t, I1.yd.len, I1.fz.tup, Y, hn5, I1.dr.low, I1.tok, fun dw ks H2 n2 hdw DW FW => ?_⟩
  have I2 := I1.nx n2
  refine ⟨by show 2 ≤ sizeLine; decide, fun T hT => ?_⟩
  have sT := same_new (HO.tup [iv b, V.ref dw]) hT
  have I3 := I2.same sT
  have DW3 := DW.same sT
  have FW3 := FW.same sT
  refine ⟨T, _, rfl, SqT.of upd_same, rfl, _, _, rfl, _, _, rfl, rfl, ?_⟩
  have hbest : ∀ t' w', (t', w') ∈ lawW c.ties st 6000 ↔ Best c.ties st t' w' := fun t' w' => lawW_best Y hn5 I1.dr.low
  have ndL : ((lawW c.ties st 6000).map (·.1)).Nodup := (lawW_mid Y 6000).nd
  have hLb := lawW_bound Y hn5 I1.dr.low 6000
  have hLl : ∀ e ∈ lawW c.ties st 6000, e.2.length + 1 ≤ (lawW c.ties st 6000).length := fun e he => lmid_le (lawW_mid Y 6000) he
  generalize lawW c.ties st 6000 = Lw at FW FW3 hbest ndL hLb hLl
  generalize upd H2 T (.tup [iv b, V.ref dw]) = H3 at I3 DW3 FW3
  obtain ⟨ep, hDW⟩ := DW3.at_
  refine ⟨_, rfl, dw, ks, ep, rfl, hDW, fun D hD => ?_⟩
  refine lc_it walk_keysM (fun i H' => Same H3 H' ∧ ∃ as : List Addr, H' D = some (.lst (as.map V.ref)) ∧ PwAt H' as (waysOf c.g b (Lw.take i))) ⟨same_new _ hD, [], upd_same, .nil⟩ (fun i H' _ q => q.1 _ _ hDW) ?_ ?_
  · rintro i x H4 H5 hi ⟨s4, as, hD4, hP4⟩ ⟨rfl, e, he, rfl⟩
    obtain ⟨we, hwe, hwd⟩ := FW3.get he
    have hem := DW3.key e (List.mem_of_getElem? he)
    have hLm := List.mem_of_getElem? hwe
    have hBe := (hbest _ _).mp hLm
    have hel : e.1.length = c.n := by rw [hBe.1.len, Y.len]
    have hkey : TupH H5 e.2.1 (e.1.map ov) := hem.ext fun o q => s4 _ _ q
    have DW5 := DW3.same s4
    have FW5 := FW3.same s4
    have wT : waysOf c.g b (Lw.take (i + 1)) = waysOf c.g b (Lw.take i) ++ (if e.1.getD c.g none == some b then [we] else []) := by
      unfold waysOf
      rw [take_succ hwe, List.filter_append, List.map_append, List.filter_cons]
      split <;> rfl
    refine ⟨rfl, _, rfl, _, rfl, _, _, _, _, rfl, rfl, hkey.sq, ov_atI (by rw [hel]; exact I.yd.g), _, rfl, by cases e.1.getD c.g none <;> rfl, _, rfl, ?_⟩
    have ed : decide (ov (e.1.getD c.g none) = iv b) = (e.1.getD c.g none == some b) := by
      cases e.1.getD c.g none with
      | none => exact decide_eq_false (fun z => by cases z)
      | some q =>
        show decide (iv q = iv b) = (some q == some b)
        rw [dec_iv]
        rfl
    rw [ed]
    cases hc : (e.1.getD c.g none == some b) with
    | false =>
      rw [hc] at wT
      refine iteF ⟨s4, as, hD4, ?_⟩
      rw [wT]
      show PwAt _ _ (_ ++ [])
      rw [List.append_nil]
      exact hP4
    | true =>
      rw [hc] at wT
      obtain ⟨z1, z2⟩ | ⟨ka, va, u', z1, z2, hwu⟩ := FW5.at e.1
      · rw [getW_mem ndL hLm] at z2; cases z2
      rw [getW_mem ndL hLm] at z2
      obtain rfl : we = u' := Option.some.inj z2
      obtain ⟨us, hus, hup⟩ := id hwu
      refine iteT ⟨_, rfl, _, rfl, dw, e.2.1, e.1, ks, (ka, va), rfl, rfl, DW5, hkey, z1, va, us.map V.ref, rfl, .inr (SqT.of hus), _, rfl, _, rfl, dw, e.2.1, e.1, ks, (ka, va), rfl, rfl, DW5, hkey, z1, by show 2 ≤ sizeLine; decide, fun T2 hT2 => ?_⟩
      have sT2 := same_new (HO.tup [V.int (us.map V.ref).length, V.ref va]) hT2
      have hD6 := sT2 _ _ hD4
      have hTD : T2 ≠ D := fun z => by rw [z, hD4] at hT2; cases hT2
      refine ⟨_, hD6, ?_, fun q o hc => ?_, as ++ [T2], by rw [upd_same, List.map_append]; rfl, ?_⟩
      · rw [List.length_map, hP4.1, sizeLine_eq]
        have h1 : (waysOf c.g b (Lw.take i)).length ≤ 4000 := by
          unfold waysOf
          rw [List.length_map]
          refine Nat.le_trans (List.length_filter_le _ _) ?_
          rw [List.length_take]
          omega
        omega
      · rw [upd_ne (fun z => by rw [z, hD] at hc; cases hc)]
        exact sT2 _ _ (s4 _ _ hc)
      · rw [wT, if_pos rfl]
        have tk2 : ∀ {o : HO} {q : Addr} {xs : List V}, (upd H5 T2 (.tup [V.int (us.map V.ref).length, V.ref va])) q = some (.tup xs) → (upd (upd H5 T2 (.tup [V.int (us.map V.ref).length, V.ref va])) D o) q = some (.tup xs) := fun {o q xs} e => by
          rw [upd_ne (fun z => by rw [z, hD6] at e; cases e)]; exact e
        refine ((hP4.same sT2).ext fun _ _ q => tk2 q).snoc (v := va) (tk2 ?_) ((hwu.same sT2).ext fun _ _ q => tk2 q)
        rw [upd_same]
        have : (us.map V.ref).length = we.length := by rw [List.length_map]; exact hup.1
        rw [this]; rfl
  · rintro H4 ⟨s4, as, hD4, hP4⟩
    rw [FW3.len, List.take_length] at hP4
    have I4 := I3.same s4
    have memW : ∀ u, u ∈ waysOf c.g b Lw ↔ ∃ t', Best c.ties st t' u ∧ t'.getD c.g none = some b := fun u => lawWays (n := 0) hbest
    have hwok : ∀ u ∈ waysOf c.g b Lw, WdOk u := fun u hu => by
      obtain ⟨t', hB, _⟩ := (memW u).mp hu
      exact hB.1.ok Y
    refine ⟨D, as.map V.ref, (waysOf c.g b Lw).map prD, rfl, .inl (.inl hD4), hP4.dp, ?_, ?_, ?_, by rw [List.length_map, List.length_map, hP4.1], fun pW hpW => ?_⟩
    · intro d1 m1 d2 m2
      obtain ⟨u1, _, rfl⟩ := List.mem_map.mp m1
      obtain ⟨u2, _, rfl⟩ := List.mem_map.mp m2
      exact pr_alike _ _
    · refine .inl fun d1 m1 => ?_
      obtain ⟨u1, _, rfl⟩ := List.mem_map.mp m1
      exact ⟨_, _, rfl⟩
    · intro d1 m1
      obtain ⟨u1, _, rfl⟩ := List.mem_map.mp m1
      exact Nat.le_trans (prD_depth _) (by decide)
    have s5 := same_new (HO.lst ((zsOf as (waysOf c.g b Lw)).map (·.1))) hpW
    have I5 := I4.same s5
    have hP5 := hP4.same s5
    have hZ5 : (upd H4 pW (.lst ((zsOf as (waysOf c.g b Lw)).map (·.1)))) pW = some (.lst ((zsOf as (waysOf c.g b Lw)).map (·.1))) := upd_same
    have zin : ∀ z ∈ zsOf as (waysOf c.g b Lw), ∃ a' v' u', u' ∈ waysOf c.g b Lw ∧ z = (V.ref a', prD u') ∧ (upd H4 pW (.lst ((zsOf as (waysOf c.g b Lw)).map (·.1)))) a' = some (.tup [iv u'.length, .ref v']) ∧ WdAt (upd H4 pW (.lst ((zsOf as (waysOf c.g b Lw)).map (·.1)))) v' u' := fun z hz => zs_mem hP5 ((List.mergeSort_perm _ _).mem_iff.mp hz)
    obtain ⟨uz, huz⟩ := zs_words (zs := zsOf as (waysOf c.g b Lw)) fun z hz => by
      obtain ⟨a', v', u', _, rfl, _⟩ := zin z hz
      exact ⟨u', rfl⟩
    have hdp : ∀ {H' : Hp}, (∀ q xs, (upd H4 pW (.lst ((zsOf as (waysOf c.g b Lw)).map (·.1)))) q = some (.tup xs) → H' q = some (.tup xs)) → DpAll K H' ((zsOf as (waysOf c.g b Lw)).map (·.1)) (uz.map prD) := fun {H'} kk => by
      rw [← huz]
      refine dpAll_zs fun z hz => ?_
      obtain ⟨a', v', u', _, rfl, h1, h2⟩ := zin z hz
      exact .tup (SqT.of (kk _ _ h1)) (.cons (.int _) (.cons (wd_dp (h2.ext kk)) .nil))
    have hul : uz.length = (waysOf c.g b Lw).length := by
      have := congrArg List.length huz
      rw [List.length_map, List.length_map, List.length_mergeSort, List.length_zip, List.length_map, List.length_map, hP4.1, Nat.min_self] at this
      exact this.symm
    generalize upd H4 pW (.lst ((zsOf as (waysOf c.g b Lw)).map (·.1))) = H5 at I5 hP5 hZ5 hdp
    obtain ⟨dx, a2, kvs, hp, _⟩ := id I5.sto
    have hsb : some b ∈ st := I.dr.book.mpr hb
    refine ⟨_, rfl, c.p, dx, _, rfl, hp, sf_no _ _ _ _ (by decide +kernel) (by decide +kernel) (by decide +kernel) (by decide +kernel), _, rfl, c.p, c.d, c.y, c.t, c.n, c.g, c.ties, st, hs, tk, b, rfl, I5.sto, I5.yd, Y, hn5, I5.dr.low, I5.tok, by omega, fun z => absurd hsb z, fun _ H6 z6 S6 hno => ?_, fun H6 v u z6 hvu hWO S6 => ?_⟩
    · -- NoWay
      refine ⟨true, hW, fun _ ax hax => ?_, fun z => by cases z⟩
      have h0 : waysOf c.g b Lw = [] := by
        cases e : waysOf c.g b Lw with
        | nil => rfl
        | cons u us =>
          obtain ⟨t', h1, h2⟩ := (memW u).mp (by rw [e]; exact List.mem_cons_self)
          exact absurd h2 (hno t' u h1)
      have hu0 : uz = [] := List.length_eq_zero_iff.mp (by rw [hul, h0]; rfl)
      have I6 := I5.nzk z6 S6
      have hZ6 := z6.lst I5.sto hZ5
      refine ⟨_, rfl, Nat.zero_le _, fun N hN => ?_⟩
      have sN := same_new (HO.lst []) hN
      refine ⟨_, _, .lst (.inl (.inl (sN _ _ hZ6))) (hdp fun q xs e => sN _ _ (z6.tup I5.sto e)), .lst (.inl (.inl upd_same)) .nil, prs_shaped _, by decide +kernel, _, rfl, ?_⟩
      rw [prs_eqv, hu0]
      refine iteF ?_
      exact k _ a st tk (jset (jset (jset (jset J 11 (some (iv b))) 13 (some (.ref dw))) 14 (some (.ref pW))) 15 none) (I6.same sN)
    · -- brought
      obtain ⟨tf, hBf, hgf⟩ := hWO.1
      have huW : u ∈ waysOf c.g b Lw := (memW u).mpr ⟨tf, hBf, hgf⟩
      have hne : waysOf c.g b Lw ≠ [] := fun z => by rw [z] at huW; cases huW
      obtain ⟨ah, vh, wh, rest, ez, h1, h2, hwm, hmin⟩ := ways_head hP5 hwok hne
      have huh : wh = u := WayOk.uniq Y ⟨(memW wh).mp hwm, fun t' w' hB hg2 => hmin w' ((memW w').mpr ⟨t', hB, hg2⟩)⟩ hWO
      subst huh
      have hul4 : wh.length ≤ 4000 := by
        obtain ⟨t', hLm, _⟩ := mem_waysOf.mp huW
        have := hLl _ hLm
        have h9 : wh.length + 1 ≤ Lw.length := this
        omega
      obtain ⟨g1, g2, g3, g4, g5⟩ := I5.nz z6 S6
      have hZ6 := z6.lst I5.sto hZ5
      have h1' := z6.tup I5.sto h1
      have h2' : WdAt H6 vh wh := h2.ext fun q xs e => z6.tup I5.sto e
      have huz : uz ≠ [] := fun z => by rw [z, List.length_nil] at hul; exact hne (List.length_eq_zero_iff.mp hul.symm)
      refine ⟨_, rfl, Nat.zero_le _, fun N hN => ?_⟩
      have sN := same_new (HO.lst []) hN
      refine ⟨_, _, .lst (.inl (.inl (sN _ _ hZ6))) (hdp fun q xs e => sN _ _ (z6.tup I5.sto e)), .lst (.inl (.inl upd_same)) .nil, prs_shaped _, by decide +kernel, _, rfl, ?_⟩
      rw [prs_eqv]
      have hie : uz.isEmpty = false := by
        cases uz with
        | nil => exact absurd rfl huz
        | cons _ _ => rfl
      rw [hie]
      refine iteT ⟨_, rfl, pW, _, 0, .ref ah, rfl, rfl, .inl (.inl (sN _ _ hZ6)), (show atI _ ((0 : Nat) : Int) = _ from atI_nat (by rw [ez]; rfl)), ah, _, 1, .ref vh, rfl, rfl, SqT.of (sN _ _ h1'), rfl, ?_⟩
      refine ⟨3, _, _, rfl, rfl, al_wd (n := 1) (hvu.same sN) (h2'.same sN) hul4, fun H7 s7 => ⟨true, rfl, iteF ?_⟩⟩
      have s67 := sN.trans s7
      obtain ⟨us, hus, hup⟩ := id (h2'.same s67)
      refine ⟨_, rfl, pW, _, 0, .ref ah, rfl, rfl, .inl (.inl (s67 _ _ hZ6)), (show atI _ ((0 : Nat) : Int) = _ from atI_nat (by rw [ez]; rfl)), ah, _, 1, .ref vh, rfl, rfl, SqT.of (s67 _ _ h1'), rfl, vh, rfl, ⟨_, SqT.of hus⟩, ?_⟩
      refine for_tup (K := K) (a := vh) (xs := us.map V.ref) (fun i σ H' => ∃ (a' : Addr) (J' : Nat → Option V), σ = sg c a' lh (tk + i) J' ∧ Same H7 H' ∧ FzAt H' a' (((wh.take i).foldl slid st).map ov)) ⟨a, (jset (jset (jset J 11 (some (iv b))) 13 (some (.ref dw))) 14 (some (.ref pW))), ?_, fun _ _ e => e, g3.same fun o e => s67 _ _ e⟩ (fun i σ H' _ ⟨_, _, _, q, _⟩ => SqT.of (q _ _ hus)) ?_ ?_
      · rw [show tk + ((0 : Nat) : Int) = tk by omega]
        rfl
      · rintro i x σ H8 hi ⟨a', J', rfl, s8, hf8⟩
        obtain ⟨sa, hsa, rfl⟩ := get_ref hi
        have hil : i < wh.length := by rw [← hup.1]; exact (List.getElem?_eq_some_iff.mp hsa).1
        obtain ⟨sl, hsl⟩ : ∃ sl, wh[i]? = some sl := ⟨_, List.getElem?_eq_getElem hil⟩
        have hslAt : SlAt H8 sa sl := s8 _ _ (hup.2 i sa sl hsa hsl)
        obtain ⟨m1, m2⟩ := hBf.1.at hsl
        have Y8 := Y.run m2
        obtain ⟨q1, q2, q3, q4⟩ := mem_slidesOf.mp m1
        have q6 : sl.1 ≠ sl.2 := fun z => by rw [z, q4] at q2; cases q2
        refine ⟨_, rfl, _, rfl, a', sa, _, sl, rfl, hf8.tup, hslAt, q1, by rw [Y8.len]; exact near_lt Y8.ties q3, q6, by rw [Y8.len]; omega, fun a9 H9 s9 ha0 ha9 => ?_⟩
        refine ⟨_, rfl, _, _, rfl, rfl, by show 2 ≤ sizeLine; decide, fun T9 hT9 => ?_⟩
        have sT9 := same_new (HO.tup [V.ref a9, V.int (tk + (i : Int) + 1)]) hT9
        refine ⟨T9, _, rfl, SqT.of upd_same, rfl, _, _, rfl, _, _, rfl, rfl, a9, jset J' 12 (some (.ref sa)), ?_, (s8.trans s9).trans sT9, ?_⟩
        · have : tk + ((i + 1 : Nat) : Int) = tk + (i : Int) + 1 := by omega
          rw [this]
          rfl
        · rw [foldl_snoc _ _ hsl]
          exact ha9.same fun o e => sT9 _ _ e
      · rintro σ H8 ⟨a', J', rfl, s8, hf8⟩
        rw [List.length_map, hup.1, List.take_length] at hf8
        have s68 := s67.trans s8
        rw [List.length_map, hup.1]
        exact k H8 a' _ _ J' ⟨rowAt_keep g1 (fun b xs e => s68 _ _ e) (fun b o xs e => s68 _ _ e), g2.to fun b xs e => s68 _ _ e, by rw [← hBf.1.fold]; exact I.dr.run I.yd.ok hBf.1, hf8, S6.same s68, I.hl, s68 _ _ g4, I.hr, g5.same s68⟩
end
end K15
set_option autoImplicit false
set_option linter.all false
set_option Elab.async false
set_option maxRecDepth 100000
set_option maxHeartbeats 4000000
/-! The law: the loop. -/
namespace K15
open PySem PySem.Spec PyProof.Rows L2 LamX NdefX
section
variable {P : Program} {w : World} {K : PySem.W.Frag} {mg : Str → Option Value} {base : Heap} {tb : Tb} {C CS CB CN CW f0 cd : Addr} {f : Nat → Addr} {fd : Nat → FuncData}
theorem tick_eq {way : Nat} {tk : Int} {e : Prop} [Decidable e] (h : way < 4) : (if way = 2 ∧ ¬ e then (if way = 1 then (if way = 0 then tk + 1 else tk) + 1 else (if way = 0 then tk + 1 else tk)) + 1 else (if way = 1 then (if way = 0 then tk + 1 else tk) + 1 else (if way = 0 then tk + 1 else tk))) = tk + (if way = 3 ∨ way = 2 ∧ e then 0 else 1) := by
  match way, h with
  | 0, _ => simp
  | 1, _ => simp
  | 2, _ => by_cases q : e <;> simp [q]
  | 3, _ => simp
theorem law_loop (L : LB P w K mg base tb C CS CB CN CW f fd) (hW : PySem.W.exmOne K (.ref CW) (.ref CW) = some true) (A : Around) (outer : List Env) (s : Shared) (H0 : Hp) (E : XK) (hr : Room 5 (A.deeper (envOfC "law" (defScope sLaw) s.heap.objs.size f0 (.ref cd)))) :
    ∃ t, PS (lawX P w K mg base f0 cd A outer s H0 E) (lawS 6) t ∧ ∀ (Dd : Ends) (c : Lc) (H : Hp) (a lh : Addr) (st : Sd) (hs : List Int) (tk : Int) (J : Nat → Option V), c.C = C → LI K tb c H a lh st hs tk →
      (∀ (H' : Hp) (a' lh' : Addr) (st' : Sd) (hs' : List Int) (tk' : Int) (J' : Nat → Option V), LI K tb c H' a' lh' st' hs' tk' → Dd.nx (sg c a' lh' tk' J') H') → t Dd (sg c a lh tk J) H := by
  have hr1 : Room 1 (A.deeper (envOfC "law" (defScope sLaw) s.heap.objs.size f0 (.ref cd))) := hr.mono (by decide)
  obtain ⟨t0, p0, e0⟩ := law_t0 (f0 := f0) (cd := cd) L A outer s H0 E hr
  obtain ⟨t1, p1, e1⟩ := law_t1 (f0 := f0) (cd := cd) L A outer s H0 E hr
  obtain ⟨t2, p2, e2⟩ := law_t2 (f0 := f0) (cd := cd) L A outer s H0 E hr
  obtain ⟨t3, p3, e3⟩ := law_t3 (f0 := f0) (cd := cd) L A outer s H0 E hr
  obtain ⟨t4, p4, e4⟩ := law_t4 (P := P) (w := w) (K := K) (mg := mg) (base := base) (tb := tb) (f0 := f0) (cd := cd) A outer s H0 E hr
  obtain ⟨t5, p5, e5⟩ := law_t5 (f0 := f0) (cd := cd) L hW A outer s H0 E hr
  obtain ⟨t6, p6, e6⟩ := law_t6 (f0 := f0) (cd := cd) L A outer s H0 E hr
  obtain ⟨t7, p7, e7⟩ := law_t7 (f0 := f0) (cd := cd) L A outer s H0 E hr
  refine ⟨_, ps_for (passes_of rfl) rfl (pi_range1 (by rfl) L.B.range (pa_cons (pe_call (E := E0) L.tk.ok hr1 rfl L.tk.mgf L.tk.kp L.tk.b .nil pass0 (pa_cons (pv 22) (pa_cons pe_int pa_nil))) pa_nil)) (pg_name (i := 6) scLaw.nd rfl (Or.inl rfl))
    (pss_cons p0 (pss_cons p1 (pss_cons p2 (pss_cons p3 (pss_cons p4 (pss_cons p5 (pss_cons p6 (pss_one p7)))))))), ?_⟩
  intro Dd c H a lh st hs tk J hC I k
  refine ⟨_, rfl, c.r, c.sc, 20, rfl, I.row, by decide, by decide, fun m H1 hm bt1 hR1 => ?_⟩
  have I1 := I.bt bt1 hR1
  refine ⟨_, rfl, by omega, by omega, for_range (fun i σ H' => ∃ (a' lh' : Addr) (st' : Sd) (hs' : List Int) (tk' : Int) (J' : Nat → Option V), σ = sg c a' lh' tk' J' ∧ LI K tb c H' a' lh' st' hs' tk') ⟨a, lh, st, hs, tk, J, rfl, I1⟩ ?_ ?_⟩
  · rintro i σ H2 hi ⟨a, lh, st, hs, tk, J, rfl, I2⟩
    refine e0 _ c H2 a lh st hs tk (jset J 6 (some (.int (0 + (i : Int))))) I2 fun H3 way l hw I3 hls3 hlr => ?_
    refine e1 _ c H3 a lh l st hs tk tk _ way hC I3 hls3 rfl fun H4 I4 hls4 => ?_
    refine e2 _ c H4 a lh l st hs _ tk _ way hC I4 hls4 hlr rfl fun H5 lh5 hs5 J5 I5 hls5 j57 j58 => ?_
    refine e3 _ c H5 a lh5 l st hs5 _ tk J5 way hC I5 hls5 hlr j57 j58 fun H6 a6 st6 J6 I6 hls6 j67 j68 => ?_
    refine e4 _ c H6 a6 lh5 l st6 hs5 _ tk J6 way (slidesOf c.ties st) I6 hls6 (j67.trans j57) (j68.trans j58) fun H7 I7 => ?_
    rw [tick_eq (e := slidesOf c.ties st = []) hw] at I7
    refine e5 _ c H7 a6 lh5 st6 hs5 _ J6 way hC I7 (j67.trans j57) fun H8 a8 st8 tk8 J8 I8 => ?_
    refine e6 _ c H8 a8 lh5 st8 hs5 tk8 J8 I8 fun H9 D th tw I9 hD hth htw => ?_
    exact e7 _ c H9 a8 lh5 D th tw st8 hs5 tk8 _ hC I9 hD hth htw rfl fun H10 I10 => ⟨_, _, _, _, _, _, rfl, I10⟩
  · rintro σ H2 ⟨a, lh, st, hs, tk, J, rfl, I2⟩
    exact k H2 a lh st hs tk J I2
end
end K15
set_option autoImplicit false
set_option linter.all false
set_option Elab.async false
set_option maxRecDepth 100000
set_option maxHeartbeats 4000000
/-! The law: its beginning. -/
namespace K15
open PySem PySem.Spec PyProof.Rows L2 LamX NdefX
theorem stock_count {n h : Nat} : (stock n h).count none = h := by
  unfold stock
  rw [List.count_append]
  have e1 : ((List.range (n - h)).map some).count (none : Option Nat) = 0 := List.count_eq_zero.mpr fun z => by
    obtain ⟨q, _, e⟩ := List.mem_map.mp z
    cases e
  rw [e1, List.count_replicate_self, Nat.zero_add]
theorem min_two {n : Nat} (h : 2 ≤ n) : V.int (if (n : Int) - 1 < 2 then (n : Int) - 1 else 2) = iv (min 2 (n - 1)) := by
  show V.int _ = V.int _
  congr 1
  split
  · rename_i q
    have : min 2 (n - 1) = n - 1 := by omega
    rw [this]; omega
  · rename_i q
    have : min 2 (n - 1) = 2 := by omega
    rw [this]; rfl
theorem tok_kr {tb : Tb} {H H' : Hp} {r : Addr} {xs : List V} (T : TOk tb H) (t : Kr r H H') (hr : H r = some (.lst xs)) : TOk tb H' := by
  have tg : ∀ {P : Addr}, GxR.TabG H P → GxR.TabG H' P := fun ⟨ps, e, z⟩ => ⟨ps, t _ _ (fun q => by rw [q, hr] at e; cases e) e, z⟩
  have tn : ∀ {P : Addr} {nm : Nat → Nat → Str}, TabN H P nm → TabN H' P nm := fun ⟨ps, e, z, k⟩ => by
    refine ⟨ps, t _ _ (fun q => by rw [q, hr] at e; cases e) e, z, fun pos cv hc => ?_⟩
    obtain ⟨cc, e1, e2⟩ := k pos cv hc
    exact ⟨cc, e1, t _ _ (fun q => by rw [q, hr] at e2; exact lst_ne_code (Option.some.inj e2)) e2⟩
  exact ⟨tg T.ties, tg T.stand, tg T.slide, tn T.words, tn T.law⟩
section
variable {P : Program} {w : World} {K : PySem.W.Frag} {mg : Str → Option Value} {base : Heap} {tb : Tb} {C CS CB CN CW f0 cd : Addr} {f : Nat → Addr} {fd : Nat → FuncData}
theorem law_init (L : LB P w K mg base tb C CS CB CN CW f fd) (A : Around) (outer : List Env) (s : Shared) (H0 : Hp) (E : XK) (hr : Room 5 (A.deeper (envOfC "law" (defScope sLaw) s.heap.objs.size f0 (.ref cd)))) {rest : List Stmt} {ts : TS} (hts : PSs (lawX P w K mg base f0 cd A outer s H0 E) rest ts) :
    ∃ t, PSs (lawX P w K mg base f0 cd A outer s H0 E) (lawS 0 :: lawS 1 :: lawS 2 :: lawS 3 :: lawS 4 :: lawS 5 :: rest) t ∧ ∀ (Dd : Ends) (H : Hp) (sc : Addr) (ns : List Int), SqL K H sc (ns.map V.int) → TOk tb H →
      (∀ (c : Lc) (H' : Hp) (a lh : Addr) (st : Sd) (hs : List Int) (J : Nat → Option V), c.C = C → LI K tb c H' a lh st hs 0 → ts Dd (sg c a lh 0 J) H') → t Dd (start lawN [.ref sc]) H := by
  have hr1 : Room 1 (A.deeper (envOfC "law" (defScope sLaw) s.heap.objs.size f0 (.ref cd))) := hr.mono (by decide)
  have hr2 : Room 2 (A.deeper (envOfC "law" (defScope sLaw) s.heap.objs.size f0 (.ref cd))) := hr.mono (by decide)
  have hr3 : Room 3 (A.deeper (envOfC "law" (defScope sLaw) s.heap.objs.size f0 (.ref cd))) := hr.mono (by decide)
  have hu65 : (A.deeper (envOfC "law" (defScope sLaw) s.heap.objs.size f0 (.ref cd))).units + 65 < cLine := by have := hr.un; omega
  refine ⟨_, pss_cons (ps_set (i := 22) scLaw.nd rfl (Or.inr rfl) (pe_lst (pa_cons (pv 0) (pa_cons pe_int (pa_cons pe_int (pa_cons pe_int pa_nil))))))
    (pss_cons (ps_set (i := 1) scLaw.nd rfl (Or.inl rfl) (pe_call (E := E0) L.yd.ok hr3 rfl L.yd.mgf L.yd.kp L.yd.b .nil pass0 (pa_cons (pv 22) (pa_cons pe_int pa_nil))))
    (pss_cons (ps_asg (pe_tup (pa_cons (pe_ix ix_tup (pv 1) pe_int (fun _ _ => rfl)) (pa_cons (pe_ix ix_tup (pv 1) pe_int (fun _ _ => rfl)) pa_nil))) (pg_tup rfl (pgs_cons (pg_name (i := 21) scLaw.nd rfl (Or.inr rfl)) (pgs_cons (pg_name (i := 2) scLaw.nd rfl (Or.inr rfl)) pgs_nil))))
    (pss_cons (ps_set (i := 3) scLaw.nd rfl (Or.inr rfl) (pe_call (E := E0) L.sd.ok hr2 rfl L.sd.mgf L.sd.kp L.sd.b .nil pass0 (pa_cons (pv 22) (pa_cons (pv 21) (pa_cons (pe_op op_add pe_int (pe_call (E := E0) L.tk.ok hr1 rfl L.tk.mgf L.tk.kp L.tk.b .nil pass0 (pa_cons (pv 22) (pa_cons (pe_callB (call_min2 rfl) (by rfl) L.B.min (by decide +kernel) (pa_cons pe_int (pa_cons (pe_op op_sub (pv 21) pe_int) pa_nil))) pa_nil)))) pa_nil)))))
    (pss_cons (ps_set (i := 19) scLaw.nd rfl (Or.inr rfl) (pe_op op_sub (pv 21) (pe_bmT PySem.F.slot_tuple_count PySem.F.type_tuple_count (mt_countN hu65) (pv 3) (pa_cons pe_non pa_nil))))
    (pss_cons (ps_asg (pe_tup (pa_cons (pe_make (E := E0) L.mkC L.si hr rfl L.mgC L.bi .nil pass0 (pa_cons (pv 1) (pa_cons (pv 3) pa_nil))) (pa_cons (pe_op op_rep (pe_lst (pa_cons pe_int pa_nil)) (pv 19)) (pa_cons pe_int pa_nil))))
      (pg_tup rfl (pgs_cons (pg_name (i := 23) scLaw.nd rfl (Or.inr rfl)) (pgs_cons (pg_name (i := 4) scLaw.nd rfl (Or.inl rfl)) (pgs_cons (pg_name (i := 5) scLaw.nd rfl (Or.inl rfl)) pgs_nil)))))
    hts))))), ?_⟩
  intro Dd H sc ns hS tok k
  refine ⟨_, rfl, by show 4 ≤ sizeLine; decide, fun r hr0 => ?_⟩
  have s1 := same_new (HO.lst [V.ref sc, V.int 0, V.int 7815, V.int 0]) hr0
  have R1 : RowAt K (upd H r (.lst [V.ref sc, V.int 0, V.int 7815, V.int 0])) r sc := ⟨0, 7815, 0, ns, by decide, upd_same, s1.seq hS⟩
  have tok1 := tok.same s1
  have hr1s : (upd H r (.lst [V.ref sc, V.int 0, V.int 7815, V.int 0])) r = some (.lst (rowL sc 0 7815 0)) := upd_same
  generalize upd H r (.lst [V.ref sc, V.int 0, V.int 7815, V.int 0]) = H1 at R1 tok1 hr1s
  refine ⟨_, rfl, r, sc, rfl, R1, fun y t n g ties H2 kr2 rr2 YO hn5 => ?_⟩
  have R2 := R1.kr kr2 rr2
  have tok2 := tok_kr tok1 kr2 hr1s
  have hn2 := YO.lo
  refine ⟨_, rfl, y, _, _, iv n, rfl, rfl, SqT.of YO.y, rfl, _, rfl, y, _, _, iv g, rfl, rfl, SqT.of YO.y, rfl, by show 2 ≤ sizeLine; decide, fun T hT => ⟨T, _, rfl, SqT.of upd_same, rfl, _, _, rfl, _, _, rfl, rfl, ?_⟩⟩
  have sT := same_new (HO.tup [iv n, iv g]) hT
  have R3 : RowAt K (upd H2 T (.tup [iv n, iv g])) r sc := rowAt_keep R2 (fun b xs e => sT _ _ e) (fun b o xs e => sT _ _ e)
  have YO3 := YO.to fun b xs e => sT _ _ e
  have tok3 := tok2.same sT
  generalize upd H2 T (.tup [iv n, iv g]) = H3 at R3 YO3 tok3
  refine ⟨_, rfl, _, rfl, _, rfl, _, rfl, _, _, rfl, rfl, _, _, rfl, r, sc, min 2 (n - 1), by rw [min_two hn2]; rfl, R3, by omega, by omega, fun v H4 hv bt4 R4 => ?_⟩
  obtain ⟨z0, z1, z2, hrow3⟩ : ∃ z0 z1 z2, H3 r = some (.lst (rowL sc z0 z1 z2)) := let ⟨x, y, z, _, _, h, _⟩ := R3; ⟨x, y, z, h⟩
  have tok4 := tok_bt tok3 bt4 hrow3
  have YO4 : YardOk H4 y t n g ties := YO3.to fun b xs e => by rw [bt4 b (fun q => by rw [q, hrow3] at e; cases e)]; exact e
  refine ⟨_, _, rfl, rfl, r, sc, n, 1 + v, rfl, R4, by omega, by omega, fun a H5 st kr5 rr5 ha0 hpm hfz => ?_⟩
  have R5 := R4.kr kr5 rr5
  obtain ⟨x0, x1, x2, hrow4⟩ : ∃ z0 z1 z2, H4 r = some (.lst (rowL sc z0 z1 z2)) := let ⟨x, y, z, _, _, h, _⟩ := R4; ⟨x, y, z, h⟩
  have tok5 := tok_kr tok4 kr5 hrow4
  have YO5 : YardOk H5 y t n g ties := YO4.to fun b xs e => kr5 b _ (fun q => by rw [q, hrow4] at e; cases e) e
  have D5 : Dr n (1 + v) st := ⟨hpm, by omega, by omega, hn5⟩
  have hcnt : st.count none = 1 + v := by rw [hpm.count_eq, stock_count]
  refine ⟨_, rfl, _, rfl, ⟨a, _, rfl, hfz⟩, a, st, rfl, rfl, hfz.tup, _, _, rfl, rfl, ?_⟩
  rw [hcnt]
  have hbk : (n : Int) - ((1 + v : Nat) : Int) = ((n - (1 + v) : Nat) : Int) := by omega
  show gName 19 (V.int ((n : Int) - ((1 + v : Nat) : Int))) _ _ _
  rw [hbk]
  refine ⟨_, rfl, _, rfl, fun p dx hp0 hdx0 hdp => ?_⟩
  have sm := (same_new (H := H5) (HO.own p) hdx0)
  have hp0' : (upd H5 dx (HO.own p)) p = none := by rw [upd_ne hdp.symm]; exact hp0
  have s6 := sm.trans (same_new (HO.ins C dx []) hp0')
  have hpI : (upd (upd H5 dx (HO.own p)) p (HO.ins C dx [])) p = some (.ins C dx []) := upd_same
  refine ⟨p, y, t, a, dx, n, g, ties, st, rfl, hpI, YO5.to fun b xs e => s6 _ _ e, TupH.ext hfz.tup fun o e => s6 _ _ e, D5.len, by omega, D5.ok, tok5.same s6, fun H7 d hd0 z7 S7 => ⟨rfl, ?_⟩⟩
  have keep : ∀ b o, (∀ ps, o ≠ .tbl ps) → H5 b = some o → H7 b = some o := fun b o hne e => z7.kp b o (ne_of_none e hp0) (fun q => by rw [q] at e; rw [s6 _ _ e] at hd0; cases hd0) (s6 _ _ e) hne
  refine ⟨by show 1 ≤ sizeLine; decide, fun q1 hq1 => ⟨_, rfl, q1, _, [.int 0], rfl, rfl, upd_same, by omega, by omega, by rw [Int.toNat_natCast, sizeLine_eq]; show 1 * _ ≤ _; omega, fun lh hlh => ?_⟩⟩
  rw [flat_rep, Int.toNat_natCast]
  have s8 := (same_new (HO.lst [V.int 0]) hq1).trans (same_new (HO.lst (List.replicate (n - (1 + v)) (V.int 0))) hlh)
  refine ⟨by show 3 ≤ sizeLine; decide, fun U hU => ⟨U, _, rfl, SqT.of upd_same, rfl, _, _, rfl, _, _, rfl, _, _, rfl, rfl, ?_⟩⟩
  have s9 := s8.trans (same_new (HO.tup [V.ref p, V.ref lh, V.int 0]) hU)
  have hlh9 := same_new (HO.tup [V.ref p, V.ref lh, V.int 0]) hU _ _ (upd_same (H := upd H7 q1 (HO.lst [V.int 0])) (a := lh) (o := HO.lst (List.replicate (n - (1 + v)) (V.int 0))))
  have kall : ∀ b o, (∀ ps, o ≠ .tbl ps) → H5 b = some o → (upd (upd (upd H7 q1 (HO.lst [V.int 0])) lh (HO.lst (List.replicate (n - (1 + v)) (V.int 0)))) U (HO.tup [V.ref p, V.ref lh, V.int 0])) b = some o := fun b o hne e => s9 _ _ (keep b o hne e)
  obtain ⟨w0, w1, w2, hrow5⟩ : ∃ z0 z1 z2, H5 r = some (.lst (rowL sc z0 z1 z2)) := let ⟨x, y, z, _, _, h, _⟩ := R5; ⟨x, y, z, h⟩
  have hlr : lh ≠ r := fun q => by
    have h1 := keep r _ (fun ps z => by cases z) hrow5
    rw [q, same_new _ hq1 _ _ h1] at hlh; cases hlh
  have hlen0 : (List.replicate (booksOf st).length (0 : Int)).length = n - (1 + v) := by rw [List.length_replicate, D5.blen]
  refine k ⟨C, r, sc, y, t, p, d, n, g, 1 + v, ties⟩ _ a lh st (List.replicate (booksOf st).length 0) (fun _ => none) rfl ⟨rowAt_keep R5 (fun b xs e => kall _ _ (fun ps z => by cases z) e) (fun b o xs e => kall _ _ (fun ps z => by cases z) e), YO5.to fun b xs e => kall _ _ (fun ps z => by cases z) e, D5, hfz.same fun o e => kall _ _ (fun ps z => ?_) e, S7.same s9, hlen0, ?_, hlr, z7.tk.same s9⟩
  · obtain ⟨o2, f1, _⟩ := hfz
    rw [f1] at e
    rw [← Option.some.inj e] at z; cases z
  · rw [hlh9, List.map_replicate, D5.blen]
end
end K15
set_option autoImplicit false
set_option linter.all false
set_option Elab.async false
set_option maxRecDepth 100000
set_option maxHeartbeats 4000000
/-! The law: its lambdas. -/
namespace K15
open PySem PySem.Spec PyProof.Rows L2 LamX NdefX
def asgL : Stmt → List Expr
  | .Assign _ (.List es _) _ => es
  | _ => []
def forL : Stmt → List Expr
  | .For _ (.BinOp _ _ (.List es _) _) _ _ _ => es
  | _ => []
def lamP : Expr → Arguments
  | .Lambda p _ _ _ => p
  | _ => { posonlyargs := [], args := [], vararg := none, kwonlyargs := [], kw_defaults := [], kwarg := none, defaults := [] }
def lamB : Expr → Expr
  | .Lambda _ b _ _ => b
  | e => e
def lamSc : Expr → Scope
  | .Lambda _ _ s _ => s
  | _ => { kind := ScopeKind.function, names := [], isGenerator := false, isCoroutine := false }
abbrev lamE : Nat → Expr
  | 3 => (forL (lawS 10)).getD 0 (.Name "" ⟨0, 0, 0, 0⟩)
  | i => (asgL (lawS 9)).getD i (.Name "" ⟨0, 0, 0, 0⟩)
abbrev lamF (i : Nat) (cl : List (Str × Addr)) (q : Str) (c : Addr) (dv : Value) : LF := ⟨lamP (lamE i), lamB (lamE i), lamSc (lamE i), cl, q, c, dv⟩
section
variable {P : Program} {w : World} {K : PySem.W.Frag} {mg : Str → Option Value} {base : Heap} {tb : Tb} {C CS CB CN CW f0 cd : Addr} {f : Nat → Addr} {fd : Nat → FuncData}
/-- all kept but the row, the store, its dict and the tables -/
def Kz (c : Lc) (H H' : Hp) : Prop := ∀ b o, b ≠ c.r → b ≠ c.p → b ≠ c.d → H b = some o → (∀ ps, o ≠ .tbl ps) → H' b = some o
theorem Nz.kz {tb : Tb} {c : Lc} {H H' : Hp} (z : Nz tb c.p c.d H H') : Kz c H H' := fun b o _ h1 h2 e ne => z.kp b o h1 h2 e ne
/-- what a lambda that is refused keeps: cls its error -/
def spRef (K : PySem.W.Frag) (tb : Tb) (cls : Addr) (c : Lc) (a lh : Addr) (st : Sd) (hs : List Int) (tk : Int) (vals : List (Option V)) : List (Option V) → Hp → VK → XK → Prop := fun ws H _ E => ws = vals ∧ LI K tb c H a lh st hs tk ∧ ∀ H' : Hp, Kz c H H' → LI K tb c H' a lh st hs tk → E (.ref cls) none H'
theorem lam0_ok (L : LB P w K mg base tb C CS CB CN CW f fd) {c : Lc} (hC : c.C = C) {a lh : Addr} {st : Sd} {hs : List Int} {tk : Int} {fl : Addr} {cl : List (Str × Addr)} {q : Str} {cc : Addr} {o : Nat} (ho : st[o]? = some none) :
    LOk P w K mg base (L2.CX P w) 4 fl (lamF 0 cl q cc .none) ["_law_hole", "_law_store"] (spRef K tb CS c a lh st hs tk [some (iv o), some (.ref c.p)]) := by
  subst hC
  have hS : NScope ["_law_hole", "_law_store"] [] ["_law_hole", "_law_store"] (lamSc (lamE 0)) := nscope_by (by decide +kernel)
  refine lok_of (N := ["_law_hole", "_law_store"]) (ps := []) hS fun A outer s H ws Q E hr hl h => ?_
  obtain ⟨rfl, I, k⟩ := h
  refine ⟨[], _, .none fun _ _ => rfl, pe_meth (E := E) (pv 1) L.sc.cl L.ms L.ss hr L.bs .nil (passes_call (takes_of rfl rfl rfl rfl) fun _ _ _ _ h => h) (pa_cons (pv 0) (pa_cons (pv 0) pa_nil)), ?_⟩
  obtain ⟨dx, a2, kvs, hp, _⟩ := id I.sto
  have hno : ¬ ((o, o).1 < c.n ∧ (o, o).2 < c.n ∧ canB c.ties st (o, o) = true) := fun z => by
    have h3 := z.2.2
    unfold canB at h3
    have : isHole st o = true := by
      unfold isHole
      rw [List.getD_eq_getElem?_getD, ho]; rfl
    rw [show isHole st (o, o).1 = true from this, Bool.not_true, Bool.false_and, Bool.and_false] at h3
    cases h3
  refine ⟨_, rfl, c.p, dx, _, rfl, hp, sf_no _ _ _ _ (by decide +kernel) (by decide +kernel) (by decide +kernel) (by decide +kernel), _, rfl, _, rfl, c.p, c.d, c.y, c.t, c.n, c.g, c.ties, st, hs, tk, (o, o), rfl, I.sto, I.yd.y, I.yd.t, I.dr.len, by have := I.n60; omega, I.tok, fun H' _ h _ => absurd h hno, fun H' z _ S => k H' z.kz (I.nzk z S)⟩
/-- .. with a default at T -/
def spRefD (K : PySem.W.Frag) (tb : Tb) (cls T : Addr) (c : Lc) (a lh : Addr) (st : Sd) (hs : List Int) (tk : Int) (vals : List (Option V)) : List (Option V) → Hp → VK → XK → Prop := fun ws H Q E => H T = some (.tup [.int 0]) ∧ spRef K tb cls c a lh st hs tk vals ws H Q E
theorem lam1_ok (L : LB P w K mg base tb C CS CB CN CW f fd) {c : Lc} (hC : c.C = C) {a lh : Addr} {st : Sd} {hs : List Int} {tk : Int} {fl T : Addr} {cl : List (Str × Addr)} {q : Str} {cc : Addr} :
    LOk P w K mg base (L2.CX P w) 4 fl (lamF 1 cl q cc (.ref T)) ["_law_places", "_law_store"] (spRefD K tb CS T c a lh st hs tk [some (iv c.n), some (.ref c.p)]) := by
  subst hC
  have hS : NScope ["_law_a", "_law_places", "_law_store"] ["_law_a"] ["_law_places", "_law_store"] (lamSc (lamE 1)) := nscope_by (by decide +kernel)
  refine lok_of (N := ["_law_a", "_law_places", "_law_store"]) (ps := ["_law_a"]) hS fun A outer s H ws Q E hr hl h => ?_
  obtain ⟨hT, rfl, I, k⟩ := h
  refine ⟨[.int 0], _, .one "_law_a" 0 T hT rfl fun pm ctv => ⟨_, rfl, fun u => rfl⟩, pe_meth (E := E) (pv 2) L.sc.cl L.ms L.ss hr L.bs .nil (passes_call (takes_of rfl rfl rfl rfl) fun _ _ _ _ h => h) (pa_cons pe_int (pa_cons (pv 1) pa_nil)), ?_⟩
  obtain ⟨dx, a2, kvs, hp, _⟩ := id I.sto
  have hno : ¬ (((0 : Nat), c.n).1 < c.n ∧ ((0 : Nat), c.n).2 < c.n ∧ canB c.ties st ((0 : Nat), c.n) = true) := fun z => Nat.lt_irrefl _ z.2.1
  refine ⟨_, rfl, c.p, dx, _, rfl, hp, sf_no _ _ _ _ (by decide +kernel) (by decide +kernel) (by decide +kernel) (by decide +kernel), _, rfl, c.p, c.d, c.y, c.t, c.n, c.g, c.ties, st, hs, tk, (0, c.n), rfl, I.sto, I.yd.y, I.yd.t, I.dr.len, by have := I.n60; omega, I.tok, fun H' _ h _ => absurd h hno, fun H' z _ S => k H' z.kz (I.nzk z S)⟩
theorem lam2_ok (L : LB P w K mg base tb C CS CB CN CW f fd) {c : Lc} (hC : c.C = C) {a lh : Addr} {st : Sd} {hs : List Int} {tk : Int} {fl T : Addr} {cl : List (Str × Addr)} {q : Str} {cc : Addr} :
    LOk P w K mg base (L2.CX P w) 5 fl (lamF 2 cl q cc (.ref T)) ["_law_books", "_law_store"] (spRefD K tb CB T c a lh st hs tk [some (iv (c.n - c.h)), some (.ref c.p)]) := by
  subst hC
  have hS : NScope ["_law_b", "_law_books", "_law_store"] ["_law_b"] ["_law_books", "_law_store"] (lamSc (lamE 2)) := nscope_by (by decide +kernel)
  refine lok_of (N := ["_law_b", "_law_books", "_law_store"]) (ps := ["_law_b"]) hS fun A outer s H ws Q E hr hl h => ?_
  obtain ⟨hT, rfl, I, k⟩ := h
  refine ⟨[.int 0], _, .one "_law_b" 0 T hT rfl fun pm ctv => ⟨_, rfl, fun u => rfl⟩, pe_meth (E := E) (pv 2) L.sc.cl L.mb L.sb hr L.bb .nil (passes_call (takes_of rfl rfl rfl rfl) fun _ _ _ _ h => h) (pa_cons (pv 1) pa_nil), ?_⟩
  obtain ⟨dx, a2, kvs, hp, _⟩ := id I.sto
  have hnb : ¬ some (c.n - c.h) ∈ st := fun z => Nat.lt_irrefl _ (I.dr.book.mp z)
  have h1 := I.dr.h1
  have h2 := I.dr.hn
  refine ⟨_, rfl, c.p, dx, _, rfl, hp, sf_no _ _ _ _ (by decide +kernel) (by decide +kernel) (by decide +kernel) (by decide +kernel), _, rfl, c.p, c.d, c.y, c.t, c.n, c.g, c.ties, st, hs, tk, c.n - c.h, rfl, I.sto, I.yd, I.Y, I.n60, I.dr.low, I.tok, by omega, fun _ => k H (fun _ _ _ _ _ e _ => e) I, fun z => absurd z hnb, fun H' v u z hv hWO S => ?_⟩
  · obtain ⟨tf, hB, hg⟩ := hWO.1
    have D2 := I.dr.run I.yd.ok hB.1
    have hgl : c.g < tf.length := by rw [D2.len]; exact I.yd.g
    have : some (c.n - c.h) ∈ tf := by
      rw [← hg, List.getD_eq_getElem?_getD, List.getElem?_eq_getElem hgl]
      exact List.getElem_mem hgl
    exact absurd (D2.book.mp this) (Nat.lt_irrefl _)
theorem lam3_ok (L : LB P w K mg base tb C CS CB CN CW f fd) {c : Lc} (hC : c.C = C) {a lh : Addr} {st : Sd} {hs : List Int} {tk : Int} {fl T : Addr} {cl : List (Str × Addr)} {q : Str} {cc : Addr} :
    LOk P w K mg base (L2.CX P w) 3 fl (lamF 3 cl q cc (.ref T)) ["_law_row", "_law_store"] (spRefD K tb CN T c a lh st hs tk [some (.ref c.r), some (.ref c.p)]) := by
  subst hC
  have hS : NScope ["_law_c", "_law_row", "_law_store"] ["_law_c"] ["_law_row", "_law_store"] (lamSc (lamE 3)) := nscope_by (by decide +kernel)
  refine lok_of (N := ["_law_c", "_law_row", "_law_store"]) (ps := ["_law_c"]) hS fun A outer s H ws Q E hr hl h => ?_
  obtain ⟨hT, rfl, I, k⟩ := h
  refine ⟨[.int 0], _, .one "_law_c" 0 T hT rfl fun pm ctv => ⟨_, rfl, fun u => rfl⟩, pe_meth (E := E) (pv 2) L.sc.cl L.mw L.sw hr L.bw .nil (passes_call (takes_of rfl rfl rfl rfl) fun _ _ _ _ h => h) (pa_cons (pe_call (E := E0) L.pk.ok hr rfl L.pk.mgf L.pk.kp L.pk.b .nil pass0 (pa_cons (pv 1) (pa_cons (pe_lst (pa_cons pe_non (pa_cons pe_bl (pa_cons pe_int pa_nil)))) pa_nil))) pa_nil), ?_⟩
  obtain ⟨dx, a2, kvs, hp, _⟩ := id I.sto
  refine ⟨_, rfl, c.p, dx, _, rfl, hp, sf_no _ _ _ _ (by decide +kernel) (by decide +kernel) (by decide +kernel) (by decide +kernel), _, rfl, by show 3 ≤ sizeLine; decide, fun l hl0 => ?_⟩
  have s1 := same_new (HO.lst [V.non, V.bl true, V.int 1000001]) hl0
  have I1 := I.same s1
  refine ⟨c.r, c.sc, l, [V.non, V.bl true, V.int 1000001], rfl, I1.row, upd_same, I.row.r.ne hl0, by decide, by decide, fun v x H2 hx bt hR2 => ?_⟩
  have I2 := I1.bt bt hR2
  have hx3 : isFlat3 x = true ∧ numb x (-1000000) 1000000 = false := by
    match v, hx with
    | 0, hx => obtain rfl := Option.some.inj hx; exact ⟨rfl, rfl⟩
    | 1, hx => obtain rfl := Option.some.inj hx; exact ⟨rfl, rfl⟩
    | 2, hx => obtain rfl := Option.some.inj hx; exact ⟨rfl, by decide⟩
    | v + 3, hx => cases hx
  refine ⟨c.p, c.d, c.y, c.t, c.n, c.g, st, hs, tk, x, rfl, hx3.1, I2.sto, I2.yd.y, I2.dr.len, I2.yd.g, I2.bk, by rw [I2.hl]; have := I2.n60; omega, I2.tok, fun _ => k H2 (fun b o h1 _ _ e _ => by rw [bt b h1]; exact s1 _ _ e) I2, fun u hu z => ?_⟩
  rw [hx3.2] at z
  cases z
end
end K15
set_option autoImplicit false
set_option linter.all false
set_option Elab.async false
set_option maxRecDepth 100000
set_option maxHeartbeats 4000000
/-! The law: its end. -/
namespace K15
open PySem PySem.Spec PyProof.Rows L2 LamX NdefX
/-- x is not the script, or the script needs no heap -/
def ApS (K : PySem.W.Frag) (sc x : Addr) : Prop := x ≠ sc ∨ ∃ ns : List Int, ∀ H : Hp, SqL K H sc (ns.map V.int)
theorem RowAt.aps {K : PySem.W.Frag} {H : Hp} {r sc x : Addr} (h : RowAt K H r sc) (hx : H x = none) : ApS K sc x := by
  obtain ⟨z0, z1, z2, ns, _, _, (s | ⟨z, s⟩) | s⟩ := h
  · exact .inl fun q => by rw [q, s] at hx; cases hx
  · exact .inl fun q => by rw [q, s] at hx; cases hx
  · exact .inr ⟨ns, fun _ => .inr s⟩
theorem LI.put {K : PySem.W.Frag} {tb : Tb} {c : Lc} {H : Hp} {a lh : Addr} {st : Sd} {hs : List Int} {tk : Int} (I : LI K tb c H a lh st hs tk) {x : Addr} {xs ys : List V} (hx : H x = some (.lst xs)) (hxr : x ≠ c.r) (hxl : x ≠ lh) (ap : ApS K c.sc x) : LI K tb c (upd H x (.lst ys)) a lh st hs tk := by
  have kk : ∀ b o, (∀ zs, o ≠ HO.lst zs) → H b = some o → upd H x (.lst ys) b = some o := fun b o hn e => by
    rw [upd_ne (fun q => by rw [q, hx] at e; exact hn _ (Option.some.inj e).symm)]; exact e
  have kr : Kr x H (upd H x (.lst ys)) := fun b o hb e => by rw [upd_ne hb]; exact e
  obtain ⟨z0, z1, z2, ns, h0, h1, h2⟩ := id I.row
  obtain ⟨dx, a2, kvs, g1, g2, g3, g4⟩ := id I.sto
  obtain ⟨o, f1, f2, f3⟩ := id I.fz
  have hrow : RowAt K (upd H x (.lst ys)) c.r c.sc := by
    rcases ap with hne | ⟨ns', hq⟩
    · refine ⟨z0, z1, z2, ns, h0, by rw [upd_ne hxr.symm]; exact h1, ?_⟩
      rcases h2 with (h2 | ⟨z, h2⟩) | h2
      · exact .inl (.inl (by rw [upd_ne hne.symm]; exact h2))
      · exact .inl (.inr ⟨z, by rw [upd_ne hne.symm]; exact h2⟩)
      · exact .inr h2
    · exact ⟨z0, z1, z2, ns', h0, by rw [upd_ne hxr.symm]; exact h1, hq _⟩
  have g4' : TupH (upd H x (.lst ys)) a2 (st.map ov) := by
    rcases g4 with g4 | ⟨z, g4⟩
    · exact .inl (kk _ _ (fun zs q => by cases q) g4)
    · exact .inr ⟨z, kk _ _ (fun zs q => by cases q) g4⟩
  exact ⟨hrow, I.yd.to fun b zs e => kk _ _ (fun _ q => by cases q) e, I.dr, ⟨o, kk _ _ (fun _ q => by cases q) f1, f2, f3⟩, ⟨dx, a2, kvs, kk _ _ (fun _ q => by cases q) g1, kk _ _ (fun _ q => by cases q) g2, g3, g4'⟩, I.hl,
    by rw [upd_ne hxl.symm]; exact I.held, I.hr, tok_kr I.tok kr hx⟩
theorem LOk.mono {P : Program} {w : World} {K : PySem.W.Frag} {mg : Str → Option Value} {base : Heap} {CX : CXT} {k j : Nat} {f : Addr} {F : LF} {fr : List Str} {sp : List (Option V) → Hp → VK → XK → Prop} (h : LOk P w K mg base CX k f F fr sp) (hk : k ≤ j) : LOk P w K mg base CX j f F fr sp :=
  ⟨fun A outer s H ws Q E hr e0 hf hc C q => h.run A outer s H ws Q E (hr.mono hk) e0 hf hc C q⟩
/-- the call of a kept lambda inside a try: its reading names the frame outside -/
def HasC (Y : Cx) : Prop := ∀ x : Str, (Y.env.scope.names.lookup x = some .cell ∨ Y.env.scope.names.lookup x = some .free) → ∃ c, Y.env.cells.lookup x = some c
def tCallY (Y : Cx) (CX : CXT) (k : Nat) (i : Nat) (E : L2.St → XK) : TE := fun σ H Q => ∃ (f : Addr) (F : LF) (fr : List Str) (js : List Nat) (sp : List (Option V) → Hp → VK → XK → Prop), σ[i]? = some (some (.ref f)) ∧ H f = some (LamO f F) ∧ H F.c = some (CodeO F.c F.qual) ∧
  LOk Y.prog Y.w Y.K Y.mg Y.base CX k f F fr sp ∧ (HasC Y → Caps Y F.cl fr js) ∧ sp (js.map (slotAt σ)) H Q (E σ)
theorem pe_callY {Y : Cx} {pn : List (Addr × Obj)} {xe : Value → Shared → Prop} {CX : CXT} {k i : Nat} {e : Expr} {E : L2.St → XK} (h : PE (Y.tr pn xe) e (tCallL (Y.tr pn xe) CX k i E)) : PE (Y.tr pn xe) e (tCallY Y CX k i E) :=
  ⟨fun pins s σ H Q I q => h.run pins s σ H Q I (by
    obtain ⟨f, F, fr, js, sp, h1, h2, h3, h4, h5, h6⟩ := q
    exact ⟨f, F, fr, js, sp, h1, h2, h3, h4, fun ok => have c := h5 fun x hx => ok.has x hx; ⟨c.sub, c.kin, c.sup, c.at_⟩, h6⟩)⟩
theorem capsH {Y : Cx} {scope : Scope} {fr : List Str} {js : List Nat} (ok : HasC Y) (hfree : ∀ y ∈ scope.names, y.2 = .free → Y.env.scope.names.lookup y.1 = some .cell ∨ Y.env.scope.names.lookup y.1 = some .free) (hfr : ∀ y ∈ fr, (y, NameKind.free) ∈ scope.names) (hjs : js.map (fun j => Y.N[j]?) = fr.map some) :
    Caps Y (cloFrom Y.env.cells scope.names []) fr js := by
  have hf : ∀ y ∈ scope.names, y.2 = .free → ∃ c, Y.env.cells.lookup y.1 = some c := fun y hy e => ok _ (hfree y hy e)
  exact ⟨fun y c e => clo_cm hf e, fun y hy => hfree (y, .free) (hfr y hy) rfl, fun y hy c hc => clo_has hf (hfr y hy) hc, hjs⟩
structure XM (K : PySem.W.Frag) (CS CB CN : Addr) : Prop where
  ss : PySem.W.exmOne K (.ref CS) (.ref CS) = some true
  bs : PySem.W.exmOne K (.ref CB) (.ref CS) = some false
  bb : PySem.W.exmOne K (.ref CB) (.ref CB) = some true
  ns : PySem.W.exmOne K (.ref CN) (.ref CS) = some false
  nb : PySem.W.exmOne K (.ref CN) (.ref CB) = some false
  nn : PySem.W.exmOne K (.ref CN) (.ref CN) = some true
/-- the i-th lambda stands at fl -/
def LamAt (cm : List (Str × Addr)) (q : Str) (i : Nat) (T : Addr) (H : Hp) (fl : Addr) : Prop := ∃ cc, H fl = some (LamO fl (lamF i (cloFrom cm (lamSc (lamE i)).names []) q cc (if i = 0 then .none else .ref T))) ∧ H cc = some (CodeO cc q) ∧ (i ≠ 0 → H T = some (.tup [.int 0]))
section
variable {K : PySem.W.Frag} {tb : Tb} {c : Lc} {H H' : Hp} {a lh : Addr} {st : Sd} {hs : List Int} {tk : Int} {cm : List (Str × Addr)} {q : Str} {i : Nat} {T fl : Addr}
theorem LamAt.to (h : LamAt cm q i T H fl) (e : ∀ b o, (∀ xs, o ≠ .lst xs) → (∀ ps, o ≠ .tbl ps) → (∀ C d fs, o ≠ .ins C d fs) → (∀ ks, o ≠ .dK ks) → H b = some o → H' b = some o) : LamAt cm q i T H' fl := by
  obtain ⟨cc, h1, h2, h3⟩ := h
  refine ⟨cc, e _ _ ?_ ?_ ?_ ?_ h1, e _ _ ?_ ?_ ?_ ?_ h2, fun z => e _ _ ?_ ?_ ?_ ?_ (h3 z)⟩
  all_goals first
    | (intros; intro z; unfold LamO at z; cases z)
    | (intros; intro z; unfold CodeO at z; cases z)
    | (intros; intro z; cases z)
theorem LamAt.same (h : LamAt cm q i T H fl) (s : Same H H') : LamAt cm q i T H' fl := h.to fun b o _ _ _ _ e => s _ _ e
theorem LamAt.nx (h : LamAt cm q i T H fl) (n : Nx tb H H') : LamAt cm q i T H' fl := h.to fun b o _ hn _ _ e => n.kp b o e hn
theorem LamAt.kz (I : LI K tb c H a lh st hs tk) (z : Kz c H H') (h : LamAt cm q i T H fl) : LamAt cm q i T H' fl := by
  obtain ⟨z0, z1, z2, hr⟩ := I.rowIs
  obtain ⟨dx, a2, kvs, hp, hd, _⟩ := I.sto
  refine h.to fun b o h1 h2 h3 h4 e => z b o (fun q => ?_) (fun q => ?_) (fun q => ?_) e h2
  · rw [q, hr] at e; exact h1 _ (Option.some.inj e).symm
  · rw [q, hp] at e; exact h3 _ _ _ (Option.some.inj e).symm
  · rw [q, hd] at e; exact h4 _ (Option.some.inj e).symm
end
section
variable {P : Program} {w : World} {K : PySem.W.Frag} {mg : Str → Option Value} {base : Heap} {tb : Tb} {C CS CB CN CW f0 cd : Addr} {f : Nat → Addr} {fd : Nat → FuncData}
/-- words = [], hole = .. -/
theorem law_e0 (A : Around) (outer : List Env) (s : Shared) (H0 : Hp) (E : XK) :
    ∃ t, PS (lawX P w K mg base f0 cd A outer s H0 E) (lawS 7) t ∧ ∀ (Dd : Ends) (c : Lc) (H : Hp) (a lh : Addr) (st : Sd) (hs : List Int) (tk : Int) (J : Nat → Option V), LI K tb c H a lh st hs tk →
      (∀ (H' : Hp) (l : Addr), LI K tb c H' a lh st hs tk → H' l = some (.lst []) → l ≠ c.r → l ≠ lh → ApS K c.sc l → Dd.nx (sg c a lh tk (jset J 13 (some (.ref l)))) H') → t Dd (sg c a lh tk J) H := by
  refine ⟨_, ps_set (i := 13) scLaw.nd rfl (Or.inr rfl) (pe_lst pa_nil), ?_⟩
  intro Dd c H a lh st hs tk J I k
  refine ⟨Nat.zero_le _, fun l hl => ?_⟩
  exact k _ l (I.same (same_new _ hl)) upd_same (I.row.r.ne hl) (fun z => by rw [z, I.held] at hl; cases hl) (I.row.aps hl)
theorem law_e1 (A : Around) (outer : List Env) (s : Shared) (H0 : Hp) (E : XK) :
    ∃ t, PS (lawX P w K mg base f0 cd A outer s H0 E) (lawS 8) t ∧ ∀ (Dd : Ends) (c : Lc) (H : Hp) (a lh : Addr) (st : Sd) (hs : List Int) (tk : Int) (J : Nat → Option V), LI K tb c H a lh st hs tk →
      (∀ (o : Nat), st[o]? = some none → Dd.nx (sg c a lh tk (jset J 20 (some (iv o)))) H) → t Dd (sg c a lh tk J) H := by
  refine ⟨_, ps_set (i := 20) scLaw.nd rfl (Or.inr rfl) (pe_bmT PySem.F.slot_tuple_index PySem.F.type_tuple_index mt_indexN (pv 3) (pa_cons pe_non pa_nil)), ?_⟩
  intro Dd c H a lh st hs tk J I k
  exact ⟨_, rfl, ⟨a, _, rfl, I.fz⟩, a, st, rfl, rfl, I.fz.tup, I.dr.hole, fun j hj => k j hj⟩
abbrev lawQ : Str := ("law" ++ ".<locals>.") ++ "<lambda>"
abbrev lawCm (P : Program) (w : World) (K : PySem.W.Frag) (mg : Str → Option Value) (base : Heap) (f0 cd : Addr) (A : Around) (outer : List Env) (s : Shared) (H0 : Hp) (E : XK) := (lawX P w K mg base f0 cd A outer s H0 E).env.cells
theorem lam_free {i : Nat} (hi : i < 4) : ∀ y ∈ (lamSc (lamE i)).names, y.2 = NameKind.free → (defScope sLaw).names.lookup y.1 = some .cell ∨ (defScope sLaw).names.lookup y.1 = some .free := by
  match i, hi with
  | 0, _ => exact ndef_free (sc := defScope sLaw) (nsc := lamSc (lamE 0)) (fr := ["_law_hole", "_law_store"]) (by decide +kernel)
  | 1, _ => exact ndef_free (sc := defScope sLaw) (nsc := lamSc (lamE 1)) (fr := ["_law_places", "_law_store"]) (by decide +kernel)
  | 2, _ => exact ndef_free (sc := defScope sLaw) (nsc := lamSc (lamE 2)) (fr := ["_law_books", "_law_store"]) (by decide +kernel)
  | 3, _ => exact ndef_free (sc := defScope sLaw) (nsc := lamSc (lamE 3)) (fr := ["_law_row", "_law_store"]) (by decide +kernel)
theorem lawQ_eq : nmL 0 0 = lawQ := by decide +kernel
theorem law_e2 (ne : TbNe tb) (TB : LamX.TabB base mg cd tb.law) (A : Around) (outer : List Env) (s : Shared) (H0 : Hp) (E : XK) :
    ∃ t, PS (lawX P w K mg base f0 cd A outer s H0 E) (lawS 9) t ∧ ∀ (Dd : Ends) (c : Lc) (H : Hp) (a lh wl : Addr) (st : Sd) (hs : List Int) (tk : Int) (J : Nat → Option V), LI K tb c H a lh st hs tk → H wl = some (.lst []) →
      (∀ (H' : Hp) (ls a0 a1 a2 T1 T2 : Addr), LI K tb c H' a lh st hs tk → H' wl = some (.lst []) → H' ls = some (.lst [.ref a0, .ref a1, .ref a2]) →
        LamAt (lawCm P w K mg base f0 cd A outer s H0 E) lawQ 0 T1 H' a0 → LamAt (lawCm P w K mg base f0 cd A outer s H0 E) lawQ 1 T1 H' a1 → LamAt (lawCm P w K mg base f0 cd A outer s H0 E) lawQ 2 T2 H' a2 →
        Dd.nx (sg c a lh tk (jset J 17 (some (.ref ls)))) H') → t Dd (sg c a lh tk J) H := by
  refine ⟨_, ps_set (i := 17) scLaw.nd rfl (Or.inl rfl) (pe_lst (pa_cons (pe_lam0 (nm := nmL) TB rfl lawQ_eq (lam_free (i := 0) (by decide)) rfl) (pa_cons (pe_lam1 (nm := nmL) TB rfl lawQ_eq (lam_free (i := 1) (by decide)) rfl) (pa_cons (pe_lam1 (nm := nmL) TB rfl lawQ_eq (lam_free (i := 2) (by decide)) rfl) pa_nil)))), ?_⟩
  intro Dd c H a lh wl st hs tk J I hwl k
  refine ⟨I.tok.law, fun a0 c0 H1 b1 t1 f1 g1 h1 => ?_⟩
  have n1 := Nx.law ne I.tok b1 t1
  have I1 := I.nx n1
  refine ⟨I1.tok.law, fun a1 c1 T1 H2 b2 t2 f2 g2 h2 e2 => ?_⟩
  have n2 := Nx.law ne I1.tok b2 t2
  have I2 := I1.nx n2
  refine ⟨I2.tok.law, fun a2 c2 T2 H3 b3 t3 f3 g3 h3 e3 => ?_⟩
  have n3 := Nx.law ne I2.tok b3 t3
  have I3 := I2.nx n3
  refine ⟨by show 3 ≤ sizeLine; decide, fun ls hls => ?_⟩
  have s4 := same_new (HO.lst [V.ref a0, V.ref a1, V.ref a2]) hls
  have L0 : LamAt (lawCm P w K mg base f0 cd A outer s H0 E) lawQ 0 T1 H1 a0 := ⟨c0, g1, h1, fun z => absurd rfl z⟩
  have L1 : LamAt (lawCm P w K mg base f0 cd A outer s H0 E) lawQ 1 T1 H2 a1 := ⟨c1, g2, h2, fun _ => e2⟩
  have L2 : LamAt (lawCm P w K mg base f0 cd A outer s H0 E) lawQ 2 T2 H3 a2 := ⟨c2, g3, h3, fun _ => e3⟩
  exact k _ ls a0 a1 a2 T1 T2 (I3.same s4) (s4 _ _ (n3.lst (n2.lst (n1.lst hwl)))) upd_same (((L0.nx n2).nx n3).same s4) ((L1.nx n3).same s4) (L2.same s4)
def wordL : List V := [.str "slide", .str "slide", .str "book", .str "number"]
abbrev tryS : Stmt := (forB (lawS 10)).getD 0 (.Pass ⟨0, 0, 0, 0⟩)
theorem law_try (L : LB P w K mg base tb C CS CB CN CW f fd) (XX : XM K CS CB CN) (A : Around) (outer : List Env) (s : Shared) (H0 : Hp) (E : XK) (hr : Room 5 (A.deeper (envOfC "law" (defScope sLaw) s.heap.objs.size f0 (.ref cd)))) :
    ∃ t, PS (lawX P w K mg base f0 cd A outer s H0 E) tryS t ∧ ∀ (Dd : Ends) (c : Lc) (H : Hp) (a lh wl fl T : Addr) (st : Sd) (hs : List Int) (tk : Int) (J : Nat → Option V) (o i : Nat) (xs : List V), c.C = C → LI K tb c H a lh st hs tk → st[o]? = some none →
      J 13 = some (.ref wl) → J 20 = some (iv o) → J 18 = some (.ref fl) → i < 4 → LamAt (lawCm P w K mg base f0 cd A outer s H0 E) lawQ i T H fl → H wl = some (.lst xs) → wl ≠ c.r → xs.length ≤ 10 →
      (∀ (H5 : Hp) (u : Str) (ax : Addr), wordL[i]? = some (.str u) → Kz c H H5 → LI K tb c H5 a lh st hs tk → H5 wl = some (.lst xs) → Dd.nx (sg c a lh tk (jset (jset J 15 (some (.ref ax))) 15 none)) (upd H5 wl (.lst (xs ++ [.str u])))) → t Dd (sg c a lh tk J) H := by
  refine ⟨_, ps_try_manyAs (i := 15) (n := "e") (l := [(.ref CS, _), (.ref CB, _), (.ref CN, _)]) (tb := fun W => _) rfl rfl scLaw.nd rfl rfl (takes_of rfl rfl rfl rfl)
      (fun W pn xe tk hp => pss_one (ps_expr (pe_callY (CX := L2.CX P w) (k := 5) (i := 18) (E := WE W) (pe_calll (CX := L2.CX P w) (k := 5) (i := 18) (E := WE W) hr (fun σ => passAt tk σ)))))
      (.cons ⟨rfl, by decide, .inl L.xs.g⟩ (fun a oe cls d pn _ _ => pss_one (show PS _ _ (tDrop (tBM K "list" rAppend (tVar 13) (tCons (tC (.str "slide")) tNil))) from ps_expr (pe_bm PySem.F.plainAttrs_list PySem.F.slot_list_append PySem.F.type_list_append mt_append (pv 13) (pa_cons pe_str pa_nil))))
      (.cons ⟨rfl, by decide, .inl L.xb.g⟩ (fun a oe cls d pn _ _ => pss_one (show PS _ _ (tDrop (tBM K "list" rAppend (tVar 13) (tCons (tC (.str "book")) tNil))) from ps_expr (pe_bm PySem.F.plainAttrs_list PySem.F.slot_list_append PySem.F.type_list_append mt_append (pv 13) (pa_cons pe_str pa_nil))))
      (.cons ⟨rfl, by decide, .inl L.xn.g⟩ (fun a oe cls d pn _ _ => pss_one (show PS _ _ (tDrop (tBM K "list" rAppend (tVar 13) (tCons (tC (.str "number")) tNil))) from ps_expr (pe_bm PySem.F.plainAttrs_list PySem.F.slot_list_append PySem.F.type_list_append mt_append (pv 13) (pa_cons pe_str pa_nil)))) .nil))), ?_⟩
  intro Dd c H a lh wl fl T st hs tk J o i xs hC I ho j13 j20 j18 hi4 hL hw hwr hxl k
  have j18' : (sg c a lh tk J)[18]? = some (some (.ref fl)) := congrArg some j18
  have i13 : ∀ (ax : Addr), ((sg c a lh tk J).set 15 (some (.ref ax)))[13]? = some (some (.ref wl)) := fun ax => congrArg some j13
  have keepL : ∀ {H2 : Hp}, Kz c H H2 → H2 wl = some (.lst xs) := fun {H2} z => by
    obtain ⟨dx, a2, kvs, hp, hd, _⟩ := I.sto
    exact z wl _ hwr (fun q => by rw [q, hp] at hw; cases hw) (fun q => by rw [q, hd] at hw; cases hw) hw fun ps q => by cases q
  have hxz : xs.length < sizeLine := Nat.lt_of_le_of_lt hxl (by decide)
  obtain ⟨cc, g1, g2, g3⟩ := id hL
  match i, hi4 with
  | 0, _ =>
    refine ⟨fl, _, ["_law_hole", "_law_store"], [20, 23], _, j18', g1, g2, (lam0_ok L hC ho).mono (by decide), fun ok => capsH ok (lam_free (i := 0) (by decide)) (by decide +kernel) rfl, ?_, I, fun H5 z5 I5 => ?_⟩
    · show [slotAt (sg c a lh tk J) 20, slotAt (sg c a lh tk J) 23] = _
      rw [show slotAt (sg c a lh tk J) 20 = J 20 from rfl, j20]; rfl
    · exact ⟨true, XX.ss, fun _ ax hax => ⟨_, i13 ax, .inl ⟨rfl, _, .inl (.inl (keepL z5))⟩, wl, _, _, rfl, rfl, keepL z5, hxz, k H5 "slide" ax rfl z5 I5 (keepL z5)⟩, fun z => by cases z⟩
  | 1, _ =>
    refine ⟨fl, _, ["_law_places", "_law_store"], [21, 23], _, j18', g1, g2, (lam1_ok L hC).mono (by decide), fun ok => capsH ok (lam_free (i := 1) (by decide)) (by decide +kernel) rfl, g3 (by decide), rfl, I, fun H5 z5 I5 => ?_⟩
    exact ⟨true, XX.ss, fun _ ax hax => ⟨_, i13 ax, .inl ⟨rfl, _, .inl (.inl (keepL z5))⟩, wl, _, _, rfl, rfl, keepL z5, hxz, k H5 "slide" ax rfl z5 I5 (keepL z5)⟩, fun z => by cases z⟩
  | 2, _ =>
    refine ⟨fl, _, ["_law_books", "_law_store"], [19, 23], _, j18', g1, g2, lam2_ok L hC, fun ok => capsH ok (lam_free (i := 2) (by decide)) (by decide +kernel) rfl, g3 (by decide), rfl, I, fun H5 z5 I5 => ?_⟩
    exact ⟨false, XX.bs, (fun z => by cases z), fun _ => ⟨true, XX.bb, fun _ ax hax => ⟨_, i13 ax, .inl ⟨rfl, _, .inl (.inl (keepL z5))⟩, wl, _, _, rfl, rfl, keepL z5, hxz, k H5 "book" ax rfl z5 I5 (keepL z5)⟩, fun z => by cases z⟩⟩
  | 3, _ =>
    refine ⟨fl, _, ["_law_row", "_law_store"], [22, 23], _, j18', g1, g2, (lam3_ok L hC).mono (by decide), fun ok => capsH ok (lam_free (i := 3) (by decide)) (by decide +kernel) rfl, g3 (by decide), rfl, I, fun H5 z5 I5 => ?_⟩
    exact ⟨false, XX.ns, (fun z => by cases z), fun _ => ⟨false, XX.nb, (fun z => by cases z), fun _ => ⟨true, XX.nn, fun _ ax hax => ⟨_, i13 ax, .inl ⟨rfl, _, .inl (.inl (keepL z5))⟩, wl, _, _, rfl, rfl, keepL z5, hxz, k H5 "number" ax rfl z5 I5 (keepL z5)⟩, fun z => by cases z⟩⟩⟩
theorem law_e3 (L : LB P w K mg base tb C CS CB CN CW f fd) (XX : XM K CS CB CN) (ne : TbNe tb) (TB : LamX.TabB base mg cd tb.law) (A : Around) (outer : List Env) (s : Shared) (H0 : Hp) (E : XK) (hr : Room 5 (A.deeper (envOfC "law" (defScope sLaw) s.heap.objs.size f0 (.ref cd)))) :
    ∃ t, PS (lawX P w K mg base f0 cd A outer s H0 E) (lawS 10) t ∧ ∀ (Dd : Ends) (c : Lc) (H : Hp) (a lh wl ls a0 a1 a2 T1 T2 : Addr) (st : Sd) (hs : List Int) (tk : Int) (J : Nat → Option V) (o : Nat), c.C = C → LI K tb c H a lh st hs tk → st[o]? = some none →
      J 13 = some (.ref wl) → J 17 = some (.ref ls) → J 20 = some (iv o) → H wl = some (.lst []) → wl ≠ c.r → wl ≠ lh → ApS K c.sc wl → H ls = some (.lst [.ref a0, .ref a1, .ref a2]) →
      LamAt (lawCm P w K mg base f0 cd A outer s H0 E) lawQ 0 T1 H a0 → LamAt (lawCm P w K mg base f0 cd A outer s H0 E) lawQ 1 T1 H a1 → LamAt (lawCm P w K mg base f0 cd A outer s H0 E) lawQ 2 T2 H a2 →
      (∀ (H' : Hp) (J' : Nat → Option V), LI K tb c H' a lh st hs tk → H' wl = some (.lst wordL) → J' 13 = some (.ref wl) → Dd.nx (sg c a lh tk J') H') → t Dd (sg c a lh tk J) H := by
  obtain ⟨tt, ptt, ett⟩ := law_try (f0 := f0) (cd := cd) L XX A outer s H0 E hr
  refine ⟨_, ps_for (passes_of rfl) rfl (pi_list (pe_op op_cat (pv 17) (pe_lst (pa_cons (pe_lam1 (nm := nmL) TB rfl lawQ_eq (lam_free (i := 3) (by decide)) rfl) pa_nil)))) (pg_name (i := 18) scLaw.nd rfl (Or.inl rfl)) (pss_one ptt), ?_⟩
  intro Dd c H a lh wl ls a0 a1 a2 T1 T2 st hs tk J o hC I ho j13 j17 j20 hwl hwr hwh hap hls D0 D1 D2 k
  have j17' : (sg c a lh tk J)[17]? = some (some (.ref ls)) := congrArg some j17
  refine ⟨_, j17', I.tok.law, fun a3 c3 T3 H1 b1 t1 f1 g1 h1 e1 => ?_⟩
  have n1 := Nx.law ne I.tok b1 t1
  refine ⟨by show 1 ≤ sizeLine; decide, fun q1 hq1 => ?_⟩
  have s2 := same_new (HO.lst [V.ref a3]) hq1
  refine ⟨ls, q1, [.ref a0, .ref a1, .ref a2], [.ref a3], rfl, rfl, s2 _ _ (n1.lst hls), upd_same, by show 4 ≤ sizeLine; decide, fun lw hlw => ?_⟩
  have s3 := s2.trans (same_new (HO.lst ([V.ref a0, .ref a1, .ref a2] ++ [.ref a3])) hlw)
  have D3 : LamAt (lawCm P w K mg base f0 cd A outer s H0 E) lawQ 3 T3 H1 a3 := ⟨c3, g1, h1, fun _ => e1⟩
  have hwl1 := s2 _ _ (n1.lst hwl)
  have hwne : wl ≠ lw := fun z => by rw [z, hlw] at hwl1; cases hwl1
  have hwL : wl ≠ lw := hwne
  let Pv : Nat → L2.St → Hp → Prop := fun i σ H' => ∃ J' : Nat → Option V, σ = sg c a lh tk J' ∧ J' 13 = some (.ref wl) ∧ J' 20 = some (iv o) ∧ LI K tb c H' a lh st hs tk ∧ H' wl = some (.lst (wordL.take i)) ∧ H' lw = some (.lst [.ref a0, .ref a1, .ref a2, .ref a3]) ∧
    LamAt (lawCm P w K mg base f0 cd A outer s H0 E) lawQ 0 T1 H' a0 ∧ LamAt (lawCm P w K mg base f0 cd A outer s H0 E) lawQ 1 T1 H' a1 ∧ LamAt (lawCm P w K mg base f0 cd A outer s H0 E) lawQ 2 T2 H' a2 ∧ LamAt (lawCm P w K mg base f0 cd A outer s H0 E) lawQ 3 T3 H' a3
  refine ⟨lw, rfl, ⟨_, .inl (.inl upd_same)⟩, for_list (K := K) (a := lw) (xs := [.ref a0, .ref a1, .ref a2, .ref a3]) Pv ⟨J, rfl, j13, j20, (I.nx n1).same s3, s3 _ _ (n1.lst hwl), upd_same, (D0.nx n1).same s3, (D1.nx n1).same s3, (D2.nx n1).same s3, D3.same s3⟩ (fun i σ H' _ ⟨_, _, _, _, _, _, q, _⟩ => .inl (.inl q)) ?_ ?_⟩
  · rintro i x σ H4 hi ⟨J', rfl, k13, k20, I4, hw4, hl4, M0, M1, M2, M3⟩
    have hlwr : lw ≠ c.r := fun z => by
      obtain ⟨z0, z1, z2, hrr⟩ := I4.rowIs
      rw [z, hrr] at hl4; cases hl4
    have hi4 : i < 4 := (List.getElem?_eq_some_iff.mp hi).1
    obtain ⟨fl, T, rfl, hL⟩ : ∃ fl T, x = V.ref fl ∧ LamAt (lawCm P w K mg base f0 cd A outer s H0 E) lawQ i T H4 fl := by
      match i, hi with
      | 0, hi => exact ⟨a0, T1, (Option.some.inj hi).symm, M0⟩
      | 1, hi => exact ⟨a1, T1, (Option.some.inj hi).symm, M1⟩
      | 2, hi => exact ⟨a2, T2, (Option.some.inj hi).symm, M2⟩
      | 3, hi => exact ⟨a3, T3, (Option.some.inj hi).symm, M3⟩
      | i + 4, hi => cases hi
    refine ett _ c H4 a lh wl fl T st hs tk (jset J' 18 (some (.ref fl))) o i _ hC I4 ho k13 k20 rfl hi4 hL hw4 hwr (by rw [List.length_take]; omega) fun H5 u ax hu z5 I5 hw5 => ?_
    have hl5 : H5 lw = some (.lst [.ref a0, .ref a1, .ref a2, .ref a3]) := by
      obtain ⟨dx, a2', kvs, hp, hd, _⟩ := I4.sto
      exact z5 lw _ hlwr (fun q => by rw [q, hp] at hl4; cases hl4) (fun q => by rw [q, hd] at hl4; cases hl4) hl4 fun ps q => by cases q
    have kz : ∀ b o, (∀ xs, o ≠ HO.lst xs) → H5 b = some o → upd H5 wl (.lst (wordL.take i ++ [.str u])) b = some o := fun b o hn e => by
      rw [upd_ne (fun q => by rw [q, hw5] at e; exact hn _ (Option.some.inj e).symm)]; exact e
    exact ⟨_, rfl, k13, k20, I5.put hw5 hwr hwh hap, by rw [upd_same, take_succ hu], by rw [upd_ne hwL.symm]; exact hl5, (M0.kz I4 z5).to fun b o h1 _ _ _ e => kz b o h1 e, (M1.kz I4 z5).to fun b o h1 _ _ _ e => kz b o h1 e, (M2.kz I4 z5).to fun b o h1 _ _ _ e => kz b o h1 e, (M3.kz I4 z5).to fun b o h1 _ _ _ e => kz b o h1 e⟩
  · rintro σ H4 ⟨J', rfl, k13, k20, I4, hw4, _⟩
    exact k H4 J' I4 hw4 k13
end
end K15
set_option autoImplicit false
set_option linter.all false
set_option Elab.async false
set_option maxRecDepth 100000
set_option maxHeartbeats 4000000
/-! The law, whole. -/
namespace K15
open PySem PySem.Spec PyProof.Rows L2 LamX NdefX
def wordD : PyData := .list [.str "slide", .str "slide", .str "book", .str "number"]
theorem wordD_eqv : PyData.eqv wordD wordD = true := by decide +kernel
theorem wordD_shaped : SeqAt.shaped wordD = true := by decide +kernel
theorem word_dp {K : PySem.W.Frag} {H : Hp} {a : Addr} (h : H a = some (.lst wordL)) : Dp K H (.ref a) wordD := .lst (.inl (.inl h)) (.cons (.str _) (.cons (.str _) (.cons (.str _) (.cons (.str _) .nil))))
/-- law's promise -/
def spLaw (K : PySem.W.Frag) (tb : Tb) : Sp := fun vs H Q _ => ∃ (a : Addr) (ns : List Int), vs = [.ref a] ∧ SqL K H a (ns.map V.int) ∧ TOk tb H ∧ ∀ H', Q (.bl true) H'
section
variable {P : Program} {w : World} {K : PySem.W.Frag} {mg : Str → Option Value} {base : Heap} {tb : Tb} {C CS CB CN CW f0 cd : Addr} {f : Nat → Addr} {fd : Nat → FuncData}
theorem law_e4 (L : LB P w K mg base tb C CS CB CN CW f fd) (A : Around) (outer : List Env) (s : Shared) (H0 : Hp) (E : XK) (hr : Room 5 (A.deeper (envOfC "law" (defScope sLaw) s.heap.objs.size f0 (.ref cd)))) :
    ∃ t, PS (lawX P w K mg base f0 cd A outer s H0 E) (lawS 11) t ∧ ∀ (Dd : Ends) (c : Lc) (H : Hp) (a lh wl : Addr) (st : Sd) (hs : List Int) (tk : Int) (J : Nat → Option V), c.C = C → LI K tb c H a lh st hs tk → J 13 = some (.ref wl) → H wl = some (.lst wordL) →
      (∀ H', Dd.rt (.bl true) H') → t Dd (sg c a lh tk J) H := by
  have hr1 : Room 2 (A.deeper (envOfC "law" (defScope sLaw) s.heap.objs.size f0 (.ref cd))) := hr.mono (by decide)
  have hu64 : (A.deeper (envOfC "law" (defScope sLaw) s.heap.objs.size f0 (.ref cd))).units + 64 < cLine := by have := hr.un; omega
  refine ⟨_, ps_ret (pe_and (pe_cmpR (op_eqD hu64) (pv 13) (pe_lst (pa_cons pe_str (pa_cons pe_str (pa_cons pe_str (pa_cons pe_str pa_nil))))) (nomark _)) (pe_one (pe_cmpR op_eq (pe_prop (pv 23) L.sc.cl L.pt L.gt hr1 L.bt .nil pass0 rfl) (pv 5) (nomark _)))), ?_⟩
  intro Dd c H a lh wl st hs tk J hC I hJ hwl k
  subst hC
  have hJ' : (sg c a lh tk J)[13]? = some (some (.ref wl)) := congrArg some hJ
  refine ⟨_, hJ', by show 4 ≤ sizeLine; decide, fun N hN => ?_⟩
  have sN := same_new (HO.lst wordL) hN
  obtain ⟨dx, a2, kvs, hp, _⟩ := id (I.same sN).sto
  refine ⟨wordD, wordD, word_dp (sN _ _ hwl), word_dp upd_same, wordD_shaped, wordD_shaped, ?_⟩
  rw [wordD_eqv]
  refine ⟨true, rfl, iteT ⟨_, rfl, c.p, dx, _, rfl, hp, c.p, dx, _, _, rfl, hp, sf_t _ _ _ _, _, rfl, rfl, ?_⟩⟩
  show Dd.rt (.bl (decide (V.int tk = V.int tk))) _
  rw [decide_eq_true rfl]
  exact k _
theorem ok_law {f0 : Addr} {fd0 : FuncData} (F : FunT K "law" "law" sLaw f0 fd0 cd) (L : LB P w K mg base tb C CS CB CN CW f fd) (XX : XM K CS CB CN) (hW : PySem.W.exmOne K (.ref CW) (.ref CW) = some true) (ne : TbNe tb) (TB : LamX.TabB base mg cd tb.law) :
    FnOk P w K mg base (L2.CX P w) 6 f0 fd0 ["_law_script"] (spLaw K tb) := by
  refine F.okX scLaw (fun vs H Q E h => ?_) (fun A outer s H vs Q E hr h => ?_)
  · obtain ⟨a, ns, rfl, _⟩ := h
    rfl
  · obtain ⟨a, ns, rfl, hS, tok, k⟩ := h
    obtain ⟨t6, p6, e6⟩ := law_loop (f0 := f0) (cd := cd) L hW A outer s H E hr
    obtain ⟨t7, p7, e7⟩ := law_e0 (P := P) (w := w) (K := K) (mg := mg) (base := base) (tb := tb) (f0 := f0) (cd := cd) A outer s H E
    obtain ⟨t8, p8, e8⟩ := law_e1 (P := P) (w := w) (K := K) (mg := mg) (base := base) (tb := tb) (f0 := f0) (cd := cd) A outer s H E
    obtain ⟨t9, p9, e9⟩ := law_e2 (P := P) (w := w) (K := K) (mg := mg) (base := base) (tb := tb) (f0 := f0) (cd := cd) ne TB A outer s H E
    obtain ⟨t10, p10, e10⟩ := law_e3 (f0 := f0) (cd := cd) L XX ne TB A outer s H E hr
    obtain ⟨t11, p11, e11⟩ := law_e4 (f0 := f0) (cd := cd) L A outer s H E hr
    obtain ⟨t0, p0, e0⟩ := law_init (f0 := f0) (cd := cd) L A outer s H E hr (pss_cons p6 (pss_cons p7 (pss_cons p8 (pss_cons p9 (pss_cons p10 (pss_one p11))))))
    refine ⟨t0, p0, ?_⟩
    refine e0 _ H a ns hS tok fun c H1 a1 lh st hs J hC I1 => ?_
    refine e6 _ c H1 a1 lh st hs 0 J hC I1 fun H2 a2 lh2 st2 hs2 tk2 J2 I2 => ?_
    refine e7 _ c H2 a2 lh2 st2 hs2 tk2 J2 I2 fun H3 wl I3 hwl hwr hwh hap => ?_
    refine e8 _ c H3 a2 lh2 st2 hs2 tk2 _ I3 fun o ho => ?_
    refine e9 _ c H3 a2 lh2 wl st2 hs2 tk2 _ I3 hwl fun H4 ls b0 b1 b2 T1 T2 I4 hwl4 hls M0 M1 M2 => ?_
    refine e10 _ c H4 a2 lh2 wl ls b0 b1 b2 T1 T2 st2 hs2 tk2 _ o hC I4 ho rfl rfl rfl hwl4 hwr hwh hap hls M0 M1 M2 fun H5 J5 I5 hwl5 j13 => ?_
    exact e11 _ c H5 a2 lh2 wl st2 hs2 tk2 J5 hC I5 j13 hwl5 fun H' => k H'
end
end K15
set_option autoImplicit false
set_option linter.all false
set_option Elab.async false
set_option maxRecDepth 100000
set_option maxHeartbeats 4000000
/-! The end. -/
namespace K15
open PySem PySem.Spec PyProof.Rows L2 LamX NdefX
/-! ### what the top has written -/
structure TopD (K : PySem.W.Frag) (x : Str) (st : Stmt) (f : Addr) (fd : FuncData) : Prop where
  at_ : PySem.W.nsIn K mainGlobals x = some (some (.ref f))
  fn : Fun K x x st f fd
structure TopT (K : PySem.W.Frag) (x : Str) (st : Stmt) (f : Addr) (fd : FuncData) (c P : Addr) : Prop where
  at_ : PySem.W.nsIn K mainGlobals x = some (some (.ref f))
  fn : FunT K x x st f fd c
  hd : PySem.W.codeHdIn K c P = true
  no : K.lookup P = none
  tab : ∃ (o : Obj) (e : Value) (dd : Option Addr) (vs : Array Value) (sl : Array (Option Value)), K.lookup f = some o ∧ o.data = .func fd ∧ fd.code = .ref c ∧ K.lookup c = some ⟨e, dd, .fields vs, sl⟩ ∧ vs[11]? = some (.ref P)
structure ExK (K : PySem.W.Frag) (x : Str) (C : Addr) : Prop where
  g : PySem.W.nsIn K mainGlobals x = some (some (.ref C))
  x : PySem.W.excIn K C [.type "ValueError", .type "Exception", .type "BaseException", .type "object"] "ValueError.__new__" = true
  k : PySem.W.keepIn K (.ref C) = true
  b : PySem.W.subIn K (.ref C) (.type "BaseException") = some true
  t : PySem.W.typeIn K (.ref C) = some (.type "type")
section
variable {K : PySem.W.Frag}
theorem topD_mk {x : Str} {st : Stmt} {f : Addr} {oc kV dc pm cd ct : Value} {od an : Option Addr} {sl : Array (Option Value)} (a : PySem.W.nsIn K mainGlobals x = some (some (.ref f))) (l : K.lookup f = some ⟨oc, od, .func (PySem.W.fnOf x x (defArgs st) (defBody st) (defScope st) .none kV dc pm an cd ct), sl⟩)
    (c : PySem.W.codeIn K cd x = true) (k : PySem.W.keepIn K (.ref f) = true) : ∃ f fd, TopD K x st f fd := ⟨_, _, a, fun_mk l c k⟩
theorem topT_mk {x : Str} {st : Stmt} {f C P : Addr} {oc kV dc pm ct e : Value} {od an dd : Option Addr} {sl sl2 : Array (Option Value)} {vs : Array Value} (a : PySem.W.nsIn K mainGlobals x = some (some (.ref f))) (l : K.lookup f = some ⟨oc, od, .func (PySem.W.fnOf x x (defArgs st) (defBody st) (defScope st) .none kV dc pm an (.ref C) ct), sl⟩)
    (c : PySem.W.codeIn K (.ref C) x = true) (k : PySem.W.keepIn K (.ref f) = true) (g : K.lookup C = some ⟨e, dd, .fields vs, sl2⟩) (v : vs[11]? = some (.ref P)) (hd : PySem.W.codeHdIn K C P = true) (no : K.lookup P = none) : ∃ f fd, TopT K x st f fd C P :=
  ⟨_, _, a, ⟨⟨oc, od, kV, dc, pm, an, ct, sl, rfl, l, c⟩, k⟩, hd, no, _, e, dd, vs, sl2, l, rfl, rfl, g, v⟩
theorem meth_mk {x q : Str} {st : Stmt} {C f : Addr} {oc kV dc pm cd ct : Value} {od an : Option Addr} {sl : Array (Option Value)} (a : PySem.W.findIn K (.ref C) x = some (some (.ref f))) (i : PySem.W.isFn K (.ref f) = true) (l : K.lookup f = some ⟨oc, od, .func (PySem.W.fnOf x q (defArgs st) (defBody st) (defScope st) .none kV dc pm an cd ct), sl⟩)
    (c : PySem.W.codeIn K cd q = true) (k : PySem.W.keepIn K (.ref f) = true) : ∃ f fd, Meth K C x f ∧ Fun K x q st f fd := ⟨_, _, ⟨a, i, k⟩, fun_mk l c k⟩
theorem bmeth_mk {x q : Str} {st : Stmt} {C f : Addr} {oc kV dc pm cd ct : Value} {od an : Option Addr} {sl : Array (Option Value)} (a : PySem.W.findIn K (.ref C) x = some (some (.ref f))) (i : PySem.W.isFn K (.ref f) = true) (l : K.lookup f = some ⟨oc, od, .func (PySem.W.fnOf x q (defArgs st) (defBody st) (defScope st) .none kV dc pm an cd ct), sl⟩)
    (c : PySem.W.codeIn K cd q = true) (k : PySem.W.keepIn K (.ref f) = true) (gf : PySem.W.specialIn K (.ref f) "__get__" = some (some (.builtin "function.__get__"))) (tk : PySem.W.takesIn K (.ref f) = some false) (cp : PySem.W.copiedNames.contains x = false) (fi : PySem.W.fnIn K f = true) :
    ∃ f fd, BMeth K C x f ∧ Fun K x q st f fd := ⟨_, _, ⟨⟨a, i, k⟩, gf, tk, cp, fi⟩, fun_mk l c k⟩
theorem prop_mk {x q : Str} {st : Stmt} {C p f : Addr} {rest : List Value} {oc kV dc pm cd ct : Value} {od an : Option Addr} {sl : Array (Option Value)} (a : PySem.W.findIn K (.ref C) x = some (some (.ref p))) (gt : PySem.W.specialIn K (.ref p) "__get__" = some (some (.builtin "property.__get__")))
    (tk : PySem.W.takesIn K (.ref p) = some true) (rc : PySem.W.recIn K p "property" = some (.ref f :: rest)) (l : K.lookup f = some ⟨oc, od, .func (PySem.W.fnOf x q (defArgs st) (defBody st) (defScope st) .none kV dc pm an cd ct), sl⟩)
    (c : PySem.W.codeIn K cd q = true) (k : PySem.W.keepIn K (.ref f) = true) : ∃ p f fd, PropOf K C x p f ∧ Fun K x q st f fd := ⟨_, _, _, ⟨a, gt, tk, _, rc⟩, fun_mk l c k⟩
end
/-! ### the tables at the head -/
def OwnTabs (q : Program) (mg : Str → Option Value) (K : PySem.W.Frag) (h : Heap) : Prop := ∀ (nm : Str) (f : Addr), ((recsOf q).any fun e => e.name == nm) = true → mg nm = some (.ref f) → OwnTab K f h
theorem walk5 {l : PySem.W.OpenLaw} {n k : Nat} {q : Program} {loose : List Str} {XP : (Str → Option Value) → Heap → Prop} {YP : World → Heap → Prop} {d : DefRec} {K : Params → PySem.W.Frag} {CX : World → CXT} {x : Str}
    (hn : l.most = some n) (hn2 : n ≤ sizeLine) (hdf : d.params.defaults = []) (hr : Room k callerA) (hY : ∀ (w : World) (h : Heap), YP w h → (K w.params).In h)
    (F : ∀ (w : World) (mg : Str → Option Value) (fa : Addr) (h : Heap), YP w h → (K w.params).In h → h.Ns mainGlobals mg → mg d.name = some (.ref fa) → OwnTabs q mg (K w.params) h → LawAtS l w (K w.params) (CX w) k n x mg fa h)
    (hCX : ∀ (w : World) (H : Hp) (s : Shared) (e : Value) (s' : Shared), CX w [] H s (fun _ _ _ => False) e s' → False) :
    PySem.W.WalkO q loose XP YP l.row.toRowW d [] (fun f vs => PySem.call f vs) := by
  refine Att.attach_callB hn hdf fun w s₀ s₁ mg mb fa o pm cd doc a vs ns G Y ho hd hcd hmg hobj hints hlen hbits hg => ?_
  have KX := hY w _ Y
  have own : OwnTabs q mg (K w.params) s₁.heap := fun nm f hrec hmf c P o1 fd1 e dd vs1 sl k1 k2 k3 k4 k5 => by
    obtain ⟨dL, hm, hn1⟩ := List.any_eq_true.mp hrec
    have hn2 : dL.name = nm := beq_iff_eq.mp hn1
    obtain ⟨a', o', fd', c', P', h1, h2, h3, h4, h5, h6⟩ := G.T.tab dL hm
    rw [hn2, hmf] at h1
    cases h1
    have g1 := KX _ _ k1
    rw [g1] at h2
    cases h2
    rw [k2] at h3
    cases h3
    rw [k3] at h4
    cases h4
    obtain ⟨⟨oc, vc, e1, _, e3, e4⟩, hP⟩ := h6
    have g2 := KX _ _ k4
    rw [g2] at e1
    cases e1
    cases e3
    rw [k5] at e4
    cases e4
    exact hP
  obtain ⟨fd, cs, sp, hT, nT, C, hb, hsp, hF⟩ := F w mg fa _ Y KX G.T.g hmg own
  exact law_callTs KX G.T.g G.T.b G.T.builtins G.T.nolimit hg hT nT C G.T.bmain hobj hints (Nat.le_trans hlen hn2) hr hF hb (fun H hH hS => hsp H a ns hlen hbits hH hS) fun H e s' => hCX w H s₁ e s'
theorem TopT.empty {q : Program} {mg : Str → Option Value} {K : PySem.W.Frag} {h : Heap} {x : Str} {st : Stmt} {f c P : Addr} {fd : FuncData} (T : TopT K x st f fd c P) (X : K.In h) (G : h.Ns mainGlobals mg) (O : OwnTabs q mg K h) (hr : ((recsOf q).any fun e => e.name == x) = true) : h.get? P = some { cls := .none, data := .fields #[] } := by
  obtain ⟨o, e, dd, vs, sl, h1, h2, h3, h4, h5⟩ := T.tab
  exact O x f hr (PySem.W.mg_of X G T.at_) c P o fd e dd vs sl h1 h2 h3 h4 h5
theorem tok_empty {tb : Tb} {H : Hp} (h1 : H tb.ties = some (.tbl #[])) (h2 : H tb.stand = some (.tbl #[])) (h3 : H tb.slide = some (.tbl #[])) (h4 : H tb.words = some (.tbl #[])) (h5 : H tb.law = some (.tbl #[])) : TOk tb H := by
  have ok : TriplesOk (#[] : Array Value).toList := by
    first
      | exact .nil
      | trivial
      | decide
  have tn : ∀ {P : Addr} {nm : Nat → Nat → Str}, H P = some (.tbl #[]) → TabN H P nm := fun e => ⟨#[], e, ok, fun pos cv hc => by cases hc⟩
  exact ⟨⟨#[], h1, ok⟩, ⟨#[], h2, ok⟩, ⟨#[], h3, ok⟩, tn h4, tn h5⟩

def gt {α : Type} (l : List α) (d : α) (i : Nat) : α := l.getD i d
theorem dn_mk {P : Program} {w : World} {K : PySem.W.Frag} {mg : Str → Option Value} {base h : Heap} {CX : CXT} {k : Nat} {x : Str} {ps : List Str} {sp : Sp} {st : Stmt} {f : Addr} {fd : FuncData} (X : K.In h) (G : h.Ns mainGlobals mg) (d : TopD K x st f fd) (b : L2.Binds K fd ps []) (ok : FnOk P w K mg base CX k f fd ps sp) : Dn P w K mg base CX k x ps sp f fd :=
  ⟨ok, PySem.W.mg_of X G d.at_, d.fn.kp, b⟩
theorem dnT_mk {P : Program} {w : World} {K : PySem.W.Frag} {mg : Str → Option Value} {base h : Heap} {CX : CXT} {k : Nat} {x : Str} {ps : List Str} {sp : Sp} {st : Stmt} {f c P' : Addr} {fd : FuncData} (X : K.In h) (G : h.Ns mainGlobals mg) (d : TopT K x st f fd c P') (b : L2.Binds K fd ps []) (ok : FnOk P w K mg base CX k f fd ps sp) : Dn P w K mg base CX k x ps sp f fd :=
  ⟨ok, PySem.W.mg_of X G d.at_, d.fn.kp, b⟩
theorem exc_mk {K : PySem.W.Frag} {mg : Str → Option Value} {h : Heap} {x : Str} {C : Addr} (X : K.In h) (G : h.Ns mainGlobals mg) (e : ExK K x C) : ExC K mg x C := ⟨PySem.W.mg_of X G e.g, e.x, e.k, e.b, e.t⟩
theorem exm_of {K : PySem.W.Frag} {x : Str} {D S : Addr} {b : Bool} (e : ExK K x S) (h2 : PySem.W.isClsIn K S = true) (h4 : PySem.W.subIn K (.ref D) (.ref S) = some b) : PySem.W.exmOne K (.ref D) (.ref S) = some b := by
  have e1 : (PySem.W.subIn K (.ref S) (.type "BaseException") == some true) = true := by rw [e.b]; rfl
  have e2 : ((PySem.W.clsIn K S).isSome && PySem.W.typeIn K (.ref S) == some (.type "type")) = true := by
    have h2' : (PySem.W.clsIn K S).isSome = true := h2
    rw [h2', e.t]; rfl
  show (if (PySem.W.subIn K (.ref S) (.type "BaseException") == some true) = true then (if ((PySem.W.clsIn K S).isSome && PySem.W.typeIn K (.ref S) == some (.type "type")) = true then PySem.W.subIn K (.ref D) (.ref S) else none) else none) = some b
  rw [if_pos e1, if_pos e2]
  exact h4
theorem all_mk {l : PySem.W.OpenLaw} {w : World} {K : PySem.W.Frag} {q : Program} {h : Heap} {mg : Str → Option Value} {fa C CS CB CN CW c1 P1 c2 P2 c3 P3 c4 P4 c5 P5 : Addr} {t1 t2 t3 : Tok} (X : K.In h) (G : h.Ns mainGlobals mg) (hfa : mg "law" = some (.ref fa)) (O : OwnTabs q mg K h)
    (d1 : ∃ f fd, TopD K "is_number" sIsNum f fd) (d2 : ∃ f fd, TopD K "near" sNear f fd) (d3 : ∃ f fd, TopD K "hanging" sHang f fd) (d4 : ∃ f fd, TopD K "slid" sSlid f fd) (d5 : ∃ f fd, TopD K "can_slide" sCan f fd) (d6 : ∃ f fd, TopD K "need_book" sBook f fd) (d7 : ∃ f fd, TopD K "slides_of" sSlides f fd) (d8 : ∃ f fd, TopD K "need_yard" sYard f fd)
    (T1 : ∃ f fd, TopT K "are_ties" sTies f fd c1 P1) (T2 : ∃ f fd, TopT K "need_standing" sStand f fd c2 P2) (T3 : ∃ f fd, TopT K "is_slide" sIsSlide f fd c3 P3) (T4 : ∃ f fd, TopT K "words_from" sWords f fd c4 P4) (T5 : ∃ f fd, TopT K "law" sLaw f fd c5 P5) (ne : TbNe ⟨P1, P2, P3, P4, P5⟩)
    (r1 : ((recsOf q).any fun e => e.name == "are_ties") = true) (r2 : ((recsOf q).any fun e => e.name == "need_standing") = true) (r3 : ((recsOf q).any fun e => e.name == "is_slide") = true) (r4 : ((recsOf q).any fun e => e.name == "words_from") = true) (r5 : ((recsOf q).any fun e => e.name == "law") = true)
    (g1 : PySem.W.nsIn K mainGlobals "LEAST_PLACES" = some (some (.int 2 t1))) (g2 : PySem.W.nsIn K mainGlobals "MOST_PLACES" = some (some (.int 7 t2))) (g3 : PySem.W.nsIn K mainGlobals "GREATEST" = some (some (.int 1000000 t3)))
    (e0 : ∃ f fd, TopD K "_law_taken" sTaken f fd) (e1 : ∃ f fd, TopD K "_law_pick" sPick f fd) (e2 : ∃ f fd, TopD K "_law_alike" sAlike f fd) (e3 : ∃ f fd, TopD K "_law_is" sIs f fd) (e4 : ∃ f fd, TopD K "_law_yard" sLYard f fd) (e5 : ∃ f fd, TopD K "_law_standing" sLStand f fd) (e6 : ∃ f fd, TopD K "_law_slides" sLSlides f fd) (e7 : ∃ f fd, TopD K "_law_slid" sLSlid f fd) (e8 : ∃ f fd, TopD K "_law_words" sLWords f fd) (e9 : ∃ f fd, TopD K "_law_near" sLNear f fd)
    (aC : PySem.W.nsIn K mainGlobals "Store" = some (some (.ref C))) (pg : PySem.W.plainGet K C Str.empty = true) (hd : PySem.W.hasDictIn K C = true) (po : PySem.W.plainOver K C = true) (sa : PySem.W.findIn K (.ref C) "__setattr__" = some (some (.builtin "object.__setattr__"))) (mk : PySem.W.makesIn K C = true) (kc : PySem.W.keepIn K (.ref C) = true)
    (nY : PySem.W.findIn K (.ref C) "yard" = some none) (nN : PySem.W.findIn K (.ref C) "now" = some none) (nB : PySem.W.findIn K (.ref C) "numbers" = some none) (nT : PySem.W.findIn K (.ref C) "ticks" = some none)
    (mi : ∃ f fd, Meth K C "__init__" f ∧ Fun K "__init__" "Store.__init__" sSInit f fd) (ms : ∃ f fd, BMeth K C "slide" f ∧ Fun K "slide" "Store.slide" sSSlide f fd) (mr : ∃ f fd, Meth K C "read" f ∧ Fun K "read" "Store.read" sSRead f fd) (mw : ∃ f fd, Meth K C "write" f ∧ Fun K "write" "Store.write" sSWrite f fd) (mb : ∃ f fd, Meth K C "bring" f ∧ Fun K "bring" "Store.bring" sSBring f fd)
    (pt : ∃ p f fd, PropOf K C "tick" p f ∧ Fun K "tick" "Store.tick" sSTick f fd) (ps : ∃ p f fd, PropOf K C "standing" p f ∧ Fun K "standing" "Store.standing" sSStand f fd) (ph : ∃ p f fd, PropOf K C "held" p f ∧ Fun K "held" "Store.held" sSHeld f fd) (pw : ∃ p f fd, PropOf K C "ways" p f ∧ Fun K "ways" "Store.ways" sSWays f fd)
    (xS : ExK K "BadSlide" CS) (xB : ExK K "BadBook" CB) (xN : ExK K "BadNumber" CN) (xW : ExK K "NoWay" CW) 
    (iS : PySem.W.isClsIn K CS = true) (iB : PySem.W.isClsIn K CB = true) (iN : PySem.W.isClsIn K CN = true) (iW : PySem.W.isClsIn K CW = true) (s1 : PySem.W.subIn K (.ref CS) (.ref CS) = some true) (s2 : PySem.W.subIn K (.ref CB) (.ref CS) = some false) (s3 : PySem.W.subIn K (.ref CB) (.ref CB) = some true)
    (s4 : PySem.W.subIn K (.ref CN) (.ref CS) = some false) (s5 : PySem.W.subIn K (.ref CN) (.ref CB) = some false) (s6 : PySem.W.subIn K (.ref CN) (.ref CN) = some true) (s7 : PySem.W.subIn K (.ref CW) (.ref CW) = some true)
    (z1 : PySem.W.nsIn K mainGlobals "isinstance" = some none) (z2 : PySem.W.nsIn K mainGlobals "int" = some none) (z3 : PySem.W.nsIn K mainGlobals "bool" = some none) (z4 : PySem.W.nsIn K mainGlobals "str" = some none) (z5 : PySem.W.nsIn K mainGlobals "tuple" = some none) (z6 : PySem.W.nsIn K mainGlobals "list" = some none) (z7 : PySem.W.nsIn K mainGlobals "len" = some none)
    (z8 : PySem.W.nsIn K mainGlobals "all" = some none) (z9 : PySem.W.nsIn K mainGlobals "zip" = some none) (z10 : PySem.W.nsIn K mainGlobals "sorted" = some none) (z11 : PySem.W.nsIn K mainGlobals "set" = some none) (z12 : PySem.W.nsIn K mainGlobals "enumerate" = some none) (z13 : PySem.W.nsIn K mainGlobals "min" = some none) (z14 : PySem.W.nsIn K mainGlobals "range" = some none) :
    LawAtS l w K (L2.CX l.prog w) 6 63 "_law_script" mg fa h := by
  have XX : XM K CS CB CN := ⟨exm_of xS iS s1, exm_of xS iS s2, exm_of xB iB s3, exm_of xS iS s4, exm_of xB iB s5, exm_of xN iN s6⟩
  have hW := exm_of xW iW s7
  have B : Bl mg := ⟨PySem.W.mg_none_of X G z1, PySem.W.mg_none_of X G z2, PySem.W.mg_none_of X G z3, PySem.W.mg_none_of X G z4, PySem.W.mg_none_of X G z5, PySem.W.mg_none_of X G z6, PySem.W.mg_none_of X G z7, PySem.W.mg_none_of X G z8, PySem.W.mg_none_of X G z9, PySem.W.mg_none_of X G z10, PySem.W.mg_none_of X G z11, PySem.W.mg_none_of X G z12, PySem.W.mg_none_of X G z13, PySem.W.mg_none_of X G z14⟩
  obtain ⟨h1, v1, d1⟩ := d1
  obtain ⟨h2, v2, d2⟩ := d2
  obtain ⟨h3, v3, d3⟩ := d3
  obtain ⟨h4, v4, d4⟩ := d4
  obtain ⟨h5, v5, d5⟩ := d5
  obtain ⟨h6, v6, d6⟩ := d6
  obtain ⟨h7, v7, d7⟩ := d7
  obtain ⟨h8, v8, d8⟩ := d8
  obtain ⟨k1, u1, T1⟩ := T1
  obtain ⟨k2, u2, T2⟩ := T2
  obtain ⟨k3, u3, T3⟩ := T3
  obtain ⟨k4, u4, T4⟩ := T4
  obtain ⟨k5, u5, T5⟩ := T5
  obtain ⟨f0, w0, e0⟩ := e0
  obtain ⟨f1, w1, e1⟩ := e1
  obtain ⟨f2, w2, e2⟩ := e2
  obtain ⟨f3, w3, e3⟩ := e3
  obtain ⟨f4, w4, e4⟩ := e4
  obtain ⟨f5, w5, e5⟩ := e5
  obtain ⟨f6, w6, e6⟩ := e6
  obtain ⟨f7, w7, e7⟩ := e7
  obtain ⟨f8, w8, e8⟩ := e8
  obtain ⟨fn, wn, e9⟩ := e9
  obtain ⟨f9, w9, mi, Fi⟩ := mi
  obtain ⟨f12, w12, ms, Fs⟩ := ms
  obtain ⟨f10, w10, mr, Fr⟩ := mr
  obtain ⟨f11, w11, mw, Fw⟩ := mw
  obtain ⟨f13, w13, mb, Fb⟩ := mb
  obtain ⟨f14, f15, w15, pt, Ft⟩ := pt
  obtain ⟨f16, f17, w17, ps, Fst⟩ := ps
  obtain ⟨f18, f19, w19, ph, Fh⟩ := ph
  obtain ⟨f20, f21, w21, pw, Fwy⟩ := pw
  have efa := hfa.symm.trans (PySem.W.mg_of X G T5.at_)
  cases efa
  refine ⟨u5, [(c1, P1), (c2, P2), (c3, P3), (c4, P4), (c5, P5)], spLaw K ⟨P1, P2, P3, P4, P5⟩, ?_, ?_, ?_, ?_, ?_, ?_⟩
  · intro p hp
    simp only [List.mem_cons, List.not_mem_nil, or_false] at hp
    rcases hp with rfl | rfl | rfl | rfl | rfl
    · exact T1.empty X G O r1
    · exact T2.empty X G O r2
    · exact T3.empty X G O r3
    · exact T4.empty X G O r4
    · exact T5.empty X G O r5
  · intro p hp
    simp only [List.mem_cons, List.not_mem_nil, or_false] at hp
    rcases hp with rfl | rfl | rfl | rfl | rfl
    · exact T1.no
    · exact T2.no
    · exact T3.no
    · exact T4.no
    · exact T5.no
  · intro p hp
    simp only [List.mem_cons, List.not_mem_nil, or_false] at hp
    rcases hp with rfl | rfl | rfl | rfl | rfl
    · exact PySem.W.codeHd_of_K X T1.hd
    · exact PySem.W.codeHd_of_K X T2.hd
    · exact PySem.W.codeHd_of_K X T3.hd
    · exact PySem.W.codeHd_of_K X T4.hd
    · exact PySem.W.codeHd_of_K X T5.hd
  · intro s u
    obtain ⟨oc, od, kV, doc, pm, an, ct, osl, rfl, _, _⟩ := T5.fn.ex
    exact .of_eq rfl
  · intro H a ns _ _ hT hS
    have m1 := hT (c1, P1) (by simp)
    have m2 := hT (c2, P2) (by simp)
    have m3 := hT (c3, P3) (by simp)
    have m4 := hT (c4, P4) (by simp)
    have m5 := hT (c5, P5) (by simp)
    exact ⟨a, ns, rfl, hS, tok_empty m1 m2 m3 m4 m5, fun _ => rfl⟩
  · intro base KB GB hTB
    have B1 := hTB (c1, P1) (by simp)
    have B2 := hTB (c2, P2) (by simp)
    have B3 := hTB (c3, P3) (by simp)
    have B4 := hTB (c4, P4) (by simp)
    have B5 := hTB (c5, P5) (by simp)
    have b1 := d1.fn.binds (ps := ["value", "low", "high"]) fun _ _ _ _ _ _ us hl => match us, hl with | [_, _, _], _ => rfl
    have b2 := d2.fn.binds (ps := ["ties", "place"]) fun _ _ _ _ _ _ us hl => match us, hl with | [_, _], _ => rfl
    have b3 := d3.fn.binds (ps := ["places", "ties", "place", "without"]) fun _ _ _ _ _ _ us hl => match us, hl with | [_, _, _, _], _ => rfl
    have b4 := d4.fn.binds (ps := ["standing", "slide"]) fun _ _ _ _ _ _ us hl => match us, hl with | [_, _], _ => rfl
    have b5 := d5.fn.binds (ps := ["yard", "standing", "slide"]) fun _ _ _ _ _ _ us hl => match us, hl with | [_, _, _], _ => rfl
    have b6 := d6.fn.binds (ps := ["standing", "value"]) fun _ _ _ _ _ _ us hl => match us, hl with | [_, _], _ => rfl
    have b7 := d7.fn.binds (ps := ["yard", "standing"]) fun _ _ _ _ _ _ us hl => match us, hl with | [_, _], _ => rfl
    have b8 := d8.fn.binds (ps := ["value"]) fun _ _ _ _ _ _ us hl => match us, hl with | [_], _ => rfl
    have bT1 := T1.fn.fun.binds (ps := ["places", "value"]) fun _ _ _ _ _ _ us hl => match us, hl with | [_, _], _ => rfl
    have bT2 := T2.fn.fun.binds (ps := ["yard", "value"]) fun _ _ _ _ _ _ us hl => match us, hl with | [_, _], _ => rfl
    have bT3 := T3.fn.fun.binds (ps := ["yard", "value"]) fun _ _ _ _ _ _ us hl => match us, hl with | [_, _], _ => rfl
    have bT4 := T4.fn.fun.binds (ps := ["yard", "standing"]) fun _ _ _ _ _ _ us hl => match us, hl with | [_, _], _ => rfl
    have be0 := e0.fn.binds (ps := ["_law_row", "_law_many"]) fun _ _ _ _ _ _ us hl => match us, hl with | [_, _], _ => rfl
    have be1 := e1.fn.binds (ps := ["_law_row", "_law_things"]) fun _ _ _ _ _ _ us hl => match us, hl with | [_, _], _ => rfl
    have be2 := e2.fn.binds (ps := ["_law_found", "_law_due"]) fun _ _ _ _ _ _ us hl => match us, hl with | [_, _], _ => rfl
    have be3 := e3.fn.binds (ps := ["_law_found", "_law_due"]) fun _ _ _ _ _ _ us hl => match us, hl with | [_, _], _ => rfl
    have be4 := e4.fn.binds (ps := ["_law_row", "_law_most"]) fun _ _ _ _ _ _ us hl => match us, hl with | [_, _], _ => rfl
    have be5 := e5.fn.binds (ps := ["_law_row", "_law_places", "_law_holes"]) fun _ _ _ _ _ _ us hl => match us, hl with | [_, _, _], _ => rfl
    have be6 := e6.fn.binds (ps := ["_law_yard_here", "_law_standing_here"]) fun _ _ _ _ _ _ us hl => match us, hl with | [_, _], _ => rfl
    have be7 := e7.fn.binds (ps := ["_law_standing_here", "_law_slide"]) fun _ _ _ _ _ _ us hl => match us, hl with | [_, _], _ => rfl
    have be8 := e8.fn.binds (ps := ["_law_yard_here", "_law_standing_here"]) fun _ _ _ _ _ _ us hl => match us, hl with | [_, _], _ => rfl
    have be9 := e9.fn.binds (ps := ["_law_ties", "_law_place"]) fun _ _ _ _ _ _ us hl => match us, hl with | [_, _], _ => rfl
    have bi := Fi.binds (ps := ["self", "yard", "standing"]) fun _ _ _ _ _ _ us hl => match us, hl with | [_, _, _], _ => rfl
    have bs := Fs.binds (ps := ["self", "one", "other"]) fun _ _ _ _ _ _ us hl => match us, hl with | [_, _, _], _ => rfl
    have br := Fr.binds (ps := ["self"]) fun _ _ _ _ _ _ us hl => match us, hl with | [_], _ => rfl
    have bw := Fw.binds (ps := ["self", "value"]) fun _ _ _ _ _ _ us hl => match us, hl with | [_, _], _ => rfl
    have bb := Fb.binds (ps := ["self", "book"]) fun _ _ _ _ _ _ us hl => match us, hl with | [_, _], _ => rfl
    have bt := Ft.binds (ps := ["self"]) fun _ _ _ _ _ _ us hl => match us, hl with | [_], _ => rfl
    have bst := Fst.binds (ps := ["self"]) fun _ _ _ _ _ _ us hl => match us, hl with | [_], _ => rfl
    have bh := Fh.binds (ps := ["self"]) fun _ _ _ _ _ _ us hl => match us, hl with | [_], _ => rfl
    have bwy := Fwy.binds (ps := ["self"]) fun _ _ _ _ _ _ us hl => match us, hl with | [_], _ => rfl
    have TNf : TN mg h1 := ⟨PySem.W.mg_of X G d1.at_, B.isi, B.int, B.bool⟩
    have SCC : SC K mg C := ⟨⟨pg, hd, po, sa⟩, nY, nN, nB, nT⟩
    have cS := exc_mk X G xS
    have cB := exc_mk X G xB
    have cN := exc_mk X G xN
    have cW := exc_mk X G xW
    have D1 := dn_mk (P := l.prog) (w := w) (base := base) X G d1 b1 (ok_isnum d1.fn B)
    have D2 := dn_mk (P := l.prog) (w := w) (base := base) X G d2 b2 (ok_near d2.fn B)
    have D3 := dn_mk (P := l.prog) (w := w) (base := base) X G d3 b3 (ok_hang d3.fn B D2)
    have D4 := dn_mk (P := l.prog) (w := w) (base := base) X G d4 b4 (ok_slid d4.fn B)
    have D5 := dn_mk (P := l.prog) (w := w) (base := base) X G d5 b5 (ok_can d5.fn B)
    have D6 := dn_mk (P := l.prog) (w := w) (base := base) X G d6 b6 (ok_book d6.fn B cB D1)
    have D7 := dn_mk (P := l.prog) (w := w) (base := base) X G d7 b7 (ok_slides d7.fn B D2)
    have DT1 := dnT_mk (P := l.prog) (w := w) (base := base) X G T1 bT1 (ok_ties (tb := ⟨P1, P2, P3, P4, P5⟩) T1.fn B ne ⟨B1.code, B1.bm, B1.gP⟩ TNf d1.fn b1)
    have DT2 := dnT_mk (P := l.prog) (w := w) (base := base) X G T2 bT2 (ok_stand (tb := ⟨P1, P2, P3, P4, P5⟩) T2.fn B ne ⟨B2.code, B2.bm, B2.gP⟩ TNf d1.fn b1)
    have DT3 := dnT_mk (P := l.prog) (w := w) (base := base) X G T3 bT3 (ok_isslide (tb := ⟨P1, P2, P3, P4, P5⟩) T3.fn B ne ⟨B3.code, B3.bm, B3.gP⟩ TNf d1.fn b1)
    have DT4 := dnT_mk (P := l.prog) (w := w) (base := base) X G T4 bT4 (ok_words (tb := ⟨P1, P2, P3, P4, P5⟩) T4.fn B ne B4 D7 D4)
    have D8 := dn_mk (P := l.prog) (w := w) (base := base) X G d8 b8 (ok_yard d8.fn B D1 DT1 D3 (PySem.W.mg_of X G g1) (PySem.W.mg_of X G g2))
    have S0 := ok_sinit Fi SCC D8 DT2
    have S1 := ok_sslide Fs SCC cS DT3 D5 D4
    have S2 : FnOk l.prog w K mg base CX0 1 f10 w10 ["self"] (spSRead C ⟨P1, P2, P3, P4, P5⟩) := ok_sread Fr SCC
    have S3 : FnOk l.prog w K mg base (L2.CX l.prog w) 2 f11 w11 ["self", "value"] (spSWrite C CN ⟨P1, P2, P3, P4, P5⟩) := ok_swrite Fw SCC cN D1 (PySem.W.mg_of X G g3)
    have S4 := ok_sbring Fb B SCC cW D6 DT4 S1 bs ms
    have S5 : FnOk l.prog w K mg base CX0 1 f15 w15 ["self"] (getSp C "ticks") := by
      obtain ⟨oc, od, kV, doc, pm, an, cdv, ct, osl, rfl, lk, hcd⟩ := Ft.ex
      exact L2.fn_getter lk hcd (N := ["self"]) ⟨rfl, rfl, rfl, by decide +kernel, rfl, by decide +kernel, by decide +kernel⟩ rfl rfl SCC.cl SCC.nT
    have S6 : FnOk l.prog w K mg base CX0 1 f17 w17 ["self"] (getSp C "now") := by
      obtain ⟨oc, od, kV, doc, pm, an, cdv, ct, osl, rfl, lk, hcd⟩ := Fst.ex
      exact L2.fn_getter lk hcd (N := ["self"]) ⟨rfl, rfl, rfl, by decide +kernel, rfl, by decide +kernel, by decide +kernel⟩ rfl rfl SCC.cl SCC.nN
    have S7 : FnOk l.prog w K mg base CX0 1 f19 w19 ["self"] (spSHeld C) := ok_sheld Fh B SCC
    have S8 : FnOk l.prog w K mg base CX0 3 f21 w21 ["self"] (spSWays C) := ok_sways Fwy B SCC D7
    have E0' := dn_mk (P := l.prog) (w := w) (base := base) X G e0 be0 (ok_taken e0.fn B)
    have E1' := dn_mk (P := l.prog) (w := w) (base := base) X G e1 be1 (ok_pick e1.fn B E0')
    have E2' := dn_mk (P := l.prog) (w := w) (base := base) X G e2 be2 (ok_alike e2.fn B be2 (PySem.W.mg_of X G e2.at_) 4)
    have E3' := dn_mk (P := l.prog) (w := w) (base := base) X G e3 be3 (ok_is e3.fn B)
    have E4' := dn_mk (P := l.prog) (w := w) (base := base) X G e4 be4 (ok_lyard e4.fn B E0' E1')
    have E5' := dn_mk (P := l.prog) (w := w) (base := base) X G e5 be5 (ok_lstand e5.fn B E0')
    have E9' := dn_mk (P := l.prog) (w := w) (base := base) X G e9 be9 (ok_lnear e9.fn B)
    have E6' := dn_mk (P := l.prog) (w := w) (base := base) X G e6 be6 (ok_lslides e6.fn B E9')
    have E7' := dn_mk (P := l.prog) (w := w) (base := base) X G e7 be7 (ok_lslid e7.fn B)
    have E8' := dn_mk (P := l.prog) (w := w) (base := base) X G e8 be8 (ok_lwords (tb := ⟨P1, P2, P3, P4, P5⟩) e8.fn B E6' E7')
    have LBB : LB l.prog w K mg base ⟨P1, P2, P3, P4, P5⟩ C CS CB CN CW (gt [f0, f1, f2, f3, f4, f5, f6, f7, f8, f9, f10, f11, f12, f13, f14, f15, f16, f17, f18, f19, f20, f21] 0) (gt [w0, w1, w2, w3, w4, w5, w6, w7, w8, w9, w10, w11, w12, w13, w15, w15, w17, w17, w19, w19, w21, w21] w0) :=
      { B := B, sc := SCC, mkC := ⟨mk, mi.at_, mi.fn, kc⟩, mgC := PySem.W.mg_of X G aC, tk := E0', pk := E1', al := E2', is := E3', yd := E4', sd := E5', sl := E6', dd := E7', wd := E8',
        si := S0, bi := bi, sr := S2, br := br, mr := mr, sw := S3, bw := bw, mw := mw, ss := S1, bs := bs, ms := ms.mt, sb := S4, bb := bb, mb := mb, pt := pt, gt := S5, bt := bt, ps := ps, gs := S6, bgs := bst, ph := ph, gh := S7, bgh := bh, pw := pw, gw := S8, bgw := bwy, xs := cS, xb := cB, xn := cN, xw := cW }
    exact ok_law T5.fn LBB XX hW ne B5
theorem walk {l : PySem.W.OpenLaw} {q : Program} {loose : List Str} {XP : (Str → Option Value) → Heap → Prop} {YP : World → Heap → Prop} {d : DefRec} {K : Params → PySem.W.Frag} (hn : l.most = some 63) (hdf : d.params.defaults = []) (hY : ∀ (w : World) (h : Heap), YP w h → (K w.params).In h)
    (F : ∀ (w : World) (mg : Str → Option Value) (fa : Addr) (h : Heap), (K w.params).In h → h.Ns mainGlobals mg → mg d.name = some (.ref fa) → OwnTabs q mg (K w.params) h → LawAtS l w (K w.params) (L2.CX l.prog w) 6 63 "_law_script" mg fa h) :
    PySem.W.WalkO q loose XP YP l.row.toRowW d [] (fun f vs => PySem.call f vs) :=
  walk5 (n := 63) (k := 6) (x := "_law_script") (CX := fun w => L2.CX l.prog w) hn (by decide) hdf ⟨rfl, by decide, by decide⟩ hY (fun w mg fa h _ X G hf O => F w mg fa h X G hf O) fun w H s e s' z => by
    obtain ⟨_, _, _, _, _, _, _, _, _, _, _, _, z⟩ := z
    exact z
end K15
set_option autoImplicit false
set_option linter.all false
set_option Elab.async false
set_option maxRecDepth 100000
open PySem PySem.W PyProof.Rows in
set_option maxRecDepth 100000 in
set_option maxHeartbeats 0 in
theorem PySem.Challenge.cw_holestore_k15_whole_benches_holds : PySem.Challenge.rw_holestore_k15_whole_benches.Holds := by
  w_on; o_law; k_head; (case hw => w_witness2)
  k_fill
  refine K15.walk (l := PySem.Challenge.rw_holestore_k15_whole_benches) rfl rfl (fun w h Y => PySem.W.km_in_of Y) ?F
  case F =>
    intro w mg fa h KX G hmg O
    refine' K15.all_mk KX G hmg O ?d1 ?d2 ?d3 ?d4 ?d5 ?d6 ?d7 ?d8 ?T1 ?T2 ?T3 ?T4 ?T5 ?ne ?r1 ?r2 ?r3 ?r4 ?r5 ?g1 ?g2 ?g3 ?e0 ?e1 ?e2 ?e3 ?e4 ?e5 ?e6 ?e7 ?e8 ?e9 ?aC ?pg ?hd ?po ?sa ?mk ?kc ?nY ?nN ?nB ?nT ?mi ?ms ?mr ?mw ?mb ?pt ?ps ?ph ?pw ?xS ?xB ?xN ?xW ?iS ?iB ?iN ?iW ?s1 ?s2 ?s3 ?s4 ?s5 ?s6 ?s7 ?z1 ?z2 ?z3 ?z4 ?z5 ?z6 ?z7 ?z8 ?z9 ?z10 ?z11 ?z12 ?z13 ?z14
    (case d1 => refine' K15.topD_mk ?a ?l ?c ?k; (case a => k_is); (case l => k_is); (case c => k_is); (case k => k_is))
    (case d2 => refine' K15.topD_mk ?a ?l ?c ?k; (case a => k_is); (case l => k_is); (case c => k_is); (case k => k_is))
    (case d3 => refine' K15.topD_mk ?a ?l ?c ?k; (case a => k_is); (case l => k_is); (case c => k_is); (case k => k_is))
    (case d4 => refine' K15.topD_mk ?a ?l ?c ?k; (case a => k_is); (case l => k_is); (case c => k_is); (case k => k_is))
    (case d5 => refine' K15.topD_mk ?a ?l ?c ?k; (case a => k_is); (case l => k_is); (case c => k_is); (case k => k_is))
    (case d6 => refine' K15.topD_mk ?a ?l ?c ?k; (case a => k_is); (case l => k_is); (case c => k_is); (case k => k_is))
    (case d7 => refine' K15.topD_mk ?a ?l ?c ?k; (case a => k_is); (case l => k_is); (case c => k_is); (case k => k_is))
    (case d8 => refine' K15.topD_mk ?a ?l ?c ?k; (case a => k_is); (case l => k_is); (case c => k_is); (case k => k_is))
    (case T1 => refine' K15.topT_mk ?ta ?tl ?tc ?tk ?tg ?tv ?thd ?tno; (case ta => k_is); (case tl => k_is); (case tc => k_is); (case tk => k_is); (case tg => k_is); (case tv => rfl); (case thd => kernel_rfl); (case tno => kernel_rfl))
    (case T2 => refine' K15.topT_mk ?ta ?tl ?tc ?tk ?tg ?tv ?thd ?tno; (case ta => k_is); (case tl => k_is); (case tc => k_is); (case tk => k_is); (case tg => k_is); (case tv => rfl); (case thd => kernel_rfl); (case tno => kernel_rfl))
    (case T3 => refine' K15.topT_mk ?ta ?tl ?tc ?tk ?tg ?tv ?thd ?tno; (case ta => k_is); (case tl => k_is); (case tc => k_is); (case tk => k_is); (case tg => k_is); (case tv => rfl); (case thd => kernel_rfl); (case tno => kernel_rfl))
    (case T4 => refine' K15.topT_mk ?ta ?tl ?tc ?tk ?tg ?tv ?thd ?tno; (case ta => k_is); (case tl => k_is); (case tc => k_is); (case tk => k_is); (case tg => k_is); (case tv => rfl); (case thd => kernel_rfl); (case tno => kernel_rfl))
    (case T5 => refine' K15.topT_mk ?ta ?tl ?tc ?tk ?tg ?tv ?thd ?tno; (case ta => k_is); (case tl => k_is); (case tc => k_is); (case tk => k_is); (case tg => k_is); (case tv => rfl); (case thd => kernel_rfl); (case tno => kernel_rfl))
    (case ne => exact ⟨by decide, by decide, by decide, by decide, by decide, by decide, by decide, by decide, by decide, by decide⟩)
    (case r1 => kernel_rfl)
    (case r2 => kernel_rfl)
    (case r3 => kernel_rfl)
    (case r4 => kernel_rfl)
    (case r5 => kernel_rfl)
    (case g1 => k_is)
    (case g2 => k_is)
    (case g3 => k_is)
    (case e0 => refine' K15.topD_mk ?a ?l ?c ?k; (case a => k_is); (case l => k_is); (case c => k_is); (case k => k_is))
    (case e1 => refine' K15.topD_mk ?a ?l ?c ?k; (case a => k_is); (case l => k_is); (case c => k_is); (case k => k_is))
    (case e2 => refine' K15.topD_mk ?a ?l ?c ?k; (case a => k_is); (case l => k_is); (case c => k_is); (case k => k_is))
    (case e3 => refine' K15.topD_mk ?a ?l ?c ?k; (case a => k_is); (case l => k_is); (case c => k_is); (case k => k_is))
    (case e4 => refine' K15.topD_mk ?a ?l ?c ?k; (case a => k_is); (case l => k_is); (case c => k_is); (case k => k_is))
    (case e5 => refine' K15.topD_mk ?a ?l ?c ?k; (case a => k_is); (case l => k_is); (case c => k_is); (case k => k_is))
    (case e6 => refine' K15.topD_mk ?a ?l ?c ?k; (case a => k_is); (case l => k_is); (case c => k_is); (case k => k_is))
    (case e7 => refine' K15.topD_mk ?a ?l ?c ?k; (case a => k_is); (case l => k_is); (case c => k_is); (case k => k_is))
    (case e8 => refine' K15.topD_mk ?a ?l ?c ?k; (case a => k_is); (case l => k_is); (case c => k_is); (case k => k_is))
    (case e9 => refine' K15.topD_mk ?a ?l ?c ?k; (case a => k_is); (case l => k_is); (case c => k_is); (case k => k_is))
    (case aC => k_is)
    (case pg => k_is)
    (case hd => k_is)
    (case po => k_is)
    (case sa => k_is)
    (case mk => k_is)
    (case kc => k_is)
    (case nY => k_is)
    (case nN => k_is)
    (case nB => k_is)
    (case nT => k_is)
    (case mi => refine' K15.meth_mk ?a ?i ?l ?c ?k; (case a => k_is); (case i => k_is); (case l => k_is); (case c => k_is); (case k => k_is))
    (case ms => refine' K15.bmeth_mk ?a ?i ?l ?c ?k ?gf ?tk ?cp ?fi; (case a => k_is); (case i => k_is); (case l => k_is); (case c => k_is); (case k => k_is); (case gf => k_is); (case tk => k_is); (case cp => decide +kernel); (case fi => k_is))
    (case mr => refine' K15.meth_mk ?a ?i ?l ?c ?k; (case a => k_is); (case i => k_is); (case l => k_is); (case c => k_is); (case k => k_is))
    (case mw => refine' K15.meth_mk ?a ?i ?l ?c ?k; (case a => k_is); (case i => k_is); (case l => k_is); (case c => k_is); (case k => k_is))
    (case mb => refine' K15.meth_mk ?a ?i ?l ?c ?k; (case a => k_is); (case i => k_is); (case l => k_is); (case c => k_is); (case k => k_is))
    (case pt => refine' K15.prop_mk ?a ?gt ?tk ?rc ?l ?c ?k; (case a => k_is); (case gt => k_is); (case tk => k_is); (case rc => k_is); (case l => k_is); (case c => k_is); (case k => k_is))
    (case ps => refine' K15.prop_mk ?a ?gt ?tk ?rc ?l ?c ?k; (case a => k_is); (case gt => k_is); (case tk => k_is); (case rc => k_is); (case l => k_is); (case c => k_is); (case k => k_is))
    (case ph => refine' K15.prop_mk ?a ?gt ?tk ?rc ?l ?c ?k; (case a => k_is); (case gt => k_is); (case tk => k_is); (case rc => k_is); (case l => k_is); (case c => k_is); (case k => k_is))
    (case pw => refine' K15.prop_mk ?a ?gt ?tk ?rc ?l ?c ?k; (case a => k_is); (case gt => k_is); (case tk => k_is); (case rc => k_is); (case l => k_is); (case c => k_is); (case k => k_is))
    (case xS => refine' K15.ExK.mk ?g ?x ?k ?b ?t; (case g => k_is); (case x => k_exc); (case k => k_is); (case b => k_is); (case t => k_is))
    (case xB => refine' K15.ExK.mk ?g ?x ?k ?b ?t; (case g => k_is); (case x => k_exc); (case k => k_is); (case b => k_is); (case t => k_is))
    (case xN => refine' K15.ExK.mk ?g ?x ?k ?b ?t; (case g => k_is); (case x => k_exc); (case k => k_is); (case b => k_is); (case t => k_is))
    (case xW => refine' K15.ExK.mk ?g ?x ?k ?b ?t; (case g => k_is); (case x => k_exc); (case k => k_is); (case b => k_is); (case t => k_is))
    (case iS => k_is)
    (case iB => k_is)
    (case iN => k_is)
    (case iW => k_is)
    (case s1 => k_is)
    (case s2 => k_is)
    (case s3 => k_is)
    (case s4 => k_is)
    (case s5 => k_is)
    (case s6 => k_is)
    (case s7 => k_is)
    (case z1 => k_is)
    (case z2 => k_is)
    (case z3 => k_is)
    (case z4 => k_is)
    (case z5 => k_is)
    (case z6 => k_is)
    (case z7 => k_is)
    (case z8 => k_is)
    (case z9 => k_is)
    (case z10 => k_is)
    (case z11 => k_is)
    (case z12 => k_is)
    (case z13 => k_is)
    (case z14 => k_is)
