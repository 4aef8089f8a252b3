import PyProof.Rows.All
import Wide.All
import OpenK.AllK
import Wide.FinOn
import KE.KStateDown
import HandS.ForMost
import HandS.More
import HandS.Exc
import HandS.ExcInit
import HandS.ExcCtx
import HandS.TryOnly
import HandS.TryMany
import HandS.HotCalls
import HandS.WordsExc
import HandS.Codes
import HandS.Conv
import HandS.IsInst
import HandS.DictComp
import HandS.Defaults
import HandS.Steps
import HandS.Head0
import HandS.Head1
import HandS.Head2
import HandS.HeadEnd
import HandS.HeadHook1
import HandS.HeadHook2
import HandS.HeadHook3
import HandS.HeadHook4
import HandS.HeadWalk
import PySem.Challenge.RW_lagshift_k54_whole_fewest_registers
import HandS.ExcField
import HandS.ClsMeth
set_option Elab.async false
set_option linter.all false
set_option maxRecDepth 100000
set_option maxHeartbeats 0
namespace Lg
/-! ### the least sums by links: a mirror, and what it comes to -/
structure Lk (A : Type) where
  s : Int
  g : Int
  m : Int
  w : A
structure Sst (A : Type) where
  f : Int → Int
  l : Int → Option (Lk A)
  fall : Option Int
def put {B : Type} (f : Int → B) (a : Int) (b : B) : Int → B := fun x => if x = a then b else f x
theorem put_same {B : Type} {f : Int → B} {a : Int} {b : B} : put f a b a = b := if_pos rfl
theorem put_ne {B : Type} {f : Int → B} {a x : Int} {b : B} (h : x ≠ a) : put f a b x = f x := if_neg h
section
variable {A : Type}
def relax (st : Sst A) (L : Lk A) : Sst A :=
  if st.f L.s + L.m < st.f L.g then ⟨put st.f L.g (st.f L.s + L.m), put st.l L.g (some L), some L.g⟩ else st
def round (ls : List (Lk A)) (st : Sst A) : Sst A := ls.foldl relax ⟨st.f, st.l, none⟩
def runS (ls : List (Lk A)) : Nat → Sst A → Sst A
  | 0, st => st
  | k + 1, st => if (round ls st).fall = none then round ls st else runS ls k (round ls st)
def st0 : Sst A := ⟨fun _ => 0, fun _ => none, none⟩
def settledM (n : Nat) (ls : List (Lk A)) : Sst A := runS ls (n + 1) st0

theorem relax_none {st : Sst A} {L : Lk A} (h : (relax st L).fall = none) : relax st L = st ∧ st.f L.g ≤ st.f L.s + L.m := by
  unfold relax at h ⊢
  by_cases c : st.f L.s + L.m < st.f L.g
  · rw [if_pos c] at h
    cases h
  · rw [if_neg c]
    exact ⟨rfl, by omega⟩
theorem fold_none : ∀ (ls : List (Lk A)) (st : Sst A), (ls.foldl relax st).fall = none → ls.foldl relax st = st ∧ ∀ L ∈ ls, st.f L.g ≤ st.f L.s + L.m
  | [], st, _ => ⟨rfl, fun L h => by cases h⟩
  | L :: r, st, h => by
    have ih := fold_none r (relax st L) h
    have h2 : (relax st L).fall = none := by
      have e : (r.foldl relax (relax st L)).fall = none := h
      rw [ih.1] at e
      exact e
    have h3 := relax_none h2
    rw [h3.1] at ih
    refine ⟨?_, fun L' hL => ?_⟩
    · show r.foldl relax (relax st L) = st
      rw [h3.1]
      exact ih.1
    · rcases List.mem_cons.mp hL with e | e
      · rw [e]
        exact h3.2
      · exact ih.2 L' e
theorem round_none {ls : List (Lk A)} {st : Sst A} (h : (round ls st).fall = none) : (round ls st).f = st.f ∧ (round ls st).l = st.l ∧ ∀ L ∈ ls, st.f L.g ≤ st.f L.s + L.m := by
  have e := fold_none ls ⟨st.f, st.l, none⟩ h
  refine ⟨?_, ?_, e.2⟩
  · show (ls.foldl relax ⟨st.f, st.l, none⟩).f = st.f
    rw [e.1]
  · show (ls.foldl relax ⟨st.f, st.l, none⟩).l = st.l
    rw [e.1]
/-- where nothing falls any more, all links are kept -/
theorem runS_fix (ls : List (Lk A)) : ∀ (k : Nat) (st : Sst A), 0 < k → (runS ls k st).fall = none → ∀ L ∈ ls, (runS ls k st).f L.g ≤ (runS ls k st).f L.s + L.m
  | 0, st, h, _ => absurd h (Nat.lt_irrefl 0)
  | k + 1, st, _, h => by
    unfold runS at h ⊢
    by_cases c : (round ls st).fall = none
    · rw [if_pos c] at h ⊢
      have e := round_none c
      rw [e.1]
      exact e.2.2
    · rw [if_neg c] at h ⊢
      cases k with
      | zero => exact absurd h c
      | succ k => exact runS_fix ls (k + 1) (round ls st) (Nat.succ_pos k) h

/-! walking back along the last links -/
def nx (l : Int → Option (Lk A)) (v : Int) : Int := match l v with
  | some L => L.s
  | none => v
def mm (l : Int → Option (Lk A)) (v : Int) : Int := match l v with
  | some L => L.m
  | none => 0
theorem nx_some {l : Int → Option (Lk A)} {v : Int} {L : Lk A} (h : l v = some L) : nx l v = L.s := by
  unfold nx
  rw [h]
theorem mm_some {l : Int → Option (Lk A)} {v : Int} {L : Lk A} (h : l v = some L) : mm l v = L.m := by
  unfold mm
  rw [h]
def it (l : Int → Option (Lk A)) : Nat → Int → Int
  | 0, v => v
  | i + 1, v => it l i (nx l v)
def cost (l : Int → Option (Lk A)) : Nat → Int → Int
  | 0, _ => 0
  | i + 1, v => mm l v + cost l i (nx l v)
theorem it_add (l : Int → Option (Lk A)) : ∀ (i j : Nat) (v : Int), it l (i + j) v = it l j (it l i v)
  | 0, j, v => by
    rw [Nat.zero_add]
    rfl
  | i + 1, j, v => by
    rw [Nat.add_right_comm]
    exact it_add l i j (nx l v)
theorem it_succ (l : Int → Option (Lk A)) (i : Nat) (v : Int) : it l (i + 1) v = nx l (it l i v) := by
  rw [it_add l i 1 v]
  rfl
theorem it_congr {l l' : Int → Option (Lk A)} : ∀ (m : Nat) (v : Int), (∀ i, i < m → l' (it l' i v) = l (it l' i v)) → (∀ i, i ≤ m → it l' i v = it l i v) ∧ cost l' m v = cost l m v
  | 0, v, _ => ⟨fun i hi => by
      have e : i = 0 := by omega
      rw [e]
      rfl, rfl⟩
  | m + 1, v, h => by
    have h0 : l' v = l v := h 0 (Nat.succ_pos m)
    have e1 : nx l' v = nx l v := by
      unfold nx
      rw [h0]
    have e2 : mm l' v = mm l v := by
      unfold mm
      rw [h0]
    have ih := it_congr (l := l) (l' := l') m (nx l' v) fun i hi => h (i + 1) (Nat.succ_lt_succ hi)
    refine ⟨fun i hi => ?_, ?_⟩
    · cases i with
      | zero => rfl
      | succ i =>
        show it l' i (nx l' v) = it l i (nx l v)
        rw [← e1]
        exact ih.1 i (Nat.le_of_succ_le_succ hi)
    · show mm l' v + cost l' m (nx l' v) = mm l v + cost l m (nx l v)
      rw [e2, ih.2, e1]
theorem tele {l : Int → Option (Lk A)} {f : Int → Int} : ∀ (m : Nat) (v : Int), (∀ i, i < m → mm l (it l i v) ≤ f (it l i v) - f (it l (i + 1) v)) → cost l m v ≤ f v - f (it l m v)
  | 0, v, _ => by
    show (0 : Int) ≤ f v - f v
    omega
  | m + 1, v, h => by
    have h0 : mm l v ≤ f v - f (nx l v) := h 0 (Nat.succ_pos m)
    have ih := tele (l := l) (f := f) m (nx l v) fun i hi => h (i + 1) (Nat.succ_lt_succ hi)
    show mm l v + cost l m (nx l v) ≤ f v - f (it l m (nx l v))
    omega
theorem tele_lt {l : Int → Option (Lk A)} {f : Int → Int} : ∀ (m : Nat) (v : Int), (∀ i, i < m → mm l (it l i v) ≤ f (it l i v) - f (it l (i + 1) v)) → (∃ i, i < m ∧ mm l (it l i v) < f (it l i v) - f (it l (i + 1) v)) → cost l m v < f v - f (it l m v)
  | 0, v, _, ⟨i, hi, _⟩ => absurd hi (Nat.not_lt_zero i)
  | m + 1, v, h, ⟨i, hi, hs⟩ => by
    have h0 : mm l v ≤ f v - f (nx l v) := h 0 (Nat.succ_pos m)
    have ht : ∀ i, i < m → mm l (it l i (nx l v)) ≤ f (it l i (nx l v)) - f (it l (i + 1) (nx l v)) := fun i hi => h (i + 1) (Nat.succ_lt_succ hi)
    show mm l v + cost l m (nx l v) < f v - f (it l m (nx l v))
    cases i with
    | zero =>
      have hs' : mm l v < f v - f (nx l v) := hs
      have ih := tele (l := l) (f := f) m (nx l v) ht
      omega
    | succ i =>
      have ih := tele_lt (l := l) (f := f) m (nx l v) ht ⟨i, Nat.lt_of_succ_lt_succ hi, hs⟩
      omega

/-- what holds in round r, ls1 behind us, ls2 ahead; R tells in which round a sum fell last -/
structure GI (ls ls1 ls2 : List (Lk A)) (r : Nat) (R : Int → Nat) (st : Sst A) : Prop where
  le : ∀ v, R v ≤ r
  lst : ∀ v, R v = 0 ↔ st.l v = none
  z : ∀ v, st.l v = none → st.f v = 0
  neg : ∀ v, st.f v ≤ 0
  own : ∀ v L, st.l v = some L → L ∈ ls ∧ L.g = v ∧ R v ≤ R L.s + 1 ∧ st.f L.s + L.m ≤ st.f v
  d1 : ∀ L ∈ ls1, st.f L.g ≤ st.f L.s + L.m ∨ R L.s = r
  d2 : ∀ L ∈ ls2, st.f L.g ≤ st.f L.s + L.m ∨ r ≤ R L.s + 1
  cyc : ∀ v m, 0 < m → (∀ i, i < m → (st.l (it st.l i v)).isSome = true) → it st.l m v = v → cost st.l m v < 0
  fl : ∀ p, st.fall = some p → R p = r

theorem relax_cyc {ls ls1 ls2 : List (Lk A)} {r : Nat} {R : Int → Nat} {st : Sst A} {L : Lk A} (G : GI ls ls1 ls2 r R st) (c : st.f L.s + L.m < st.f L.g) (v : Int) (m : Nat) (hm : 0 < m)
    (hs : ∀ i, i < m → ((put st.l L.g (some L)) (it (put st.l L.g (some L)) i v)).isSome = true) (hv : it (put st.l L.g (some L)) m v = v) : cost (put st.l L.g (some L)) m v < 0 := by
  generalize hl : put st.l L.g (some L) = l' at hs hv ⊢
  have lg : l' L.g = some L := by
    rw [← hl]
    exact put_same
  have lo : ∀ x, x ≠ L.g → l' x = st.l x := fun x hx => by
    rw [← hl]
    exact put_ne hx
  by_cases hB : ∃ j, j < m ∧ it l' j v = L.g
  · obtain ⟨j, hj, ej⟩ := hB
    -- weak inequalities by the new sums
    have wk : ∀ x, (l' x).isSome = true → mm l' x ≤ put st.f L.g (st.f L.s + L.m) x - put st.f L.g (st.f L.s + L.m) (nx l' x) := fun x hx => by
      by_cases ex : x = L.g
      · rw [ex, mm_some lg, nx_some lg, put_same]
        by_cases es : L.s = L.g
        · rw [es, put_same]
          rw [es] at c
          omega
        · rw [put_ne es]
          omega
      · cases q : l' x with
        | none =>
          rw [q] at hx
          cases hx
        | some L' =>
          have q' : st.l x = some L' := by
            rw [← lo x ex]
            exact q
          have o := (G.own x L' q').2.2.2
          rw [mm_some q, nx_some q, put_ne ex]
          by_cases es : L'.s = L.g
          · rw [es, put_same]
            rw [es] at o
            omega
          · rw [put_ne es]
            omega
    have key : cost l' m v < put st.f L.g (st.f L.s + L.m) v - put st.f L.g (st.f L.s + L.m) (it l' m v) := by
      refine tele_lt m v (fun i hi => ?_) ?_
      · rw [it_succ]
        exact wk _ (hs i hi)
      · by_cases es : L.s = L.g
        · refine ⟨j, hj, ?_⟩
          rw [it_succ, ej, mm_some lg, nx_some lg, es, put_same]
          rw [es] at c
          omega
        · have pr : ∃ i, i < m ∧ it l' (i + 1) v = L.g := by
            cases j with
            | zero =>
              refine ⟨m - 1, by omega, ?_⟩
              have e : m - 1 + 1 = m := by omega
              rw [e, hv]
              exact ej
            | succ j => exact ⟨j, by omega, ej⟩
          obtain ⟨i, hi, ei⟩ := pr
          refine ⟨i, hi, ?_⟩
          rw [ei, put_same]
          rw [it_succ] at ei
          have hsi := hs i hi
          cases q : l' (it l' i v) with
          | none =>
            rw [q] at hsi
            cases hsi
          | some L' =>
            rw [nx_some q] at ei
            have ne : it l' i v ≠ L.g := fun z => by
              rw [z, lg] at q
              have eL := Option.some.inj q
              rw [← eL] at ei
              exact es ei
            have q' : st.l (it l' i v) = some L' := by
              rw [← lo _ ne]
              exact q
            have o := (G.own _ L' q').2.2.2
            rw [ei] at o
            rw [mm_some q, put_ne ne]
            omega
    rw [hv] at key
    omega
  · have e := it_congr (l := st.l) (l' := l') m v fun i hi => lo _ fun z => hB ⟨i, hi, z⟩
    rw [e.2]
    refine G.cyc v m hm (fun i hi => ?_) ?_
    · rw [← e.1 i (Nat.le_of_lt hi), ← lo _ fun z => hB ⟨i, hi, z⟩]
      exact hs i hi
    · rw [← e.1 m (Nat.le_refl m)]
      exact hv

theorem relax_GI {ls ls1 ls2 : List (Lk A)} {r : Nat} {R : Int → Nat} {st : Sst A} {L : Lk A} (hr : 0 < r) (hL : L ∈ ls) (G : GI ls ls1 (L :: ls2) r R st) : ∃ R', GI ls (ls1 ++ [L]) ls2 r R' (relax st L) := by
  unfold relax
  by_cases c : st.f L.s + L.m < st.f L.g
  · rw [if_pos c]
    have hR : r ≤ R L.s + 1 := by
      rcases G.d2 L List.mem_cons_self with h | h
      · omega
      · exact h
    refine ⟨fun v => if v = L.g then r else R v, ?_⟩
    have Rg : ∀ v, R v ≤ (if v = L.g then r else R v) := fun v => by
      have := G.le v
      split <;> omega
    refine ⟨fun v => ?_, fun v => ?_, fun v h => ?_, fun v => ?_, fun v L' h => ?_, fun L' h => ?_, fun L' h => ?_, ?_, fun p h => ?_⟩
    · have := G.le v
      show (if v = L.g then r else R v) ≤ r
      split <;> omega
    · show (if v = L.g then r else R v) = 0 ↔ put st.l L.g (some L) v = none
      by_cases e : v = L.g
      · rw [if_pos e, e, put_same]
        constructor
        · intro h
          omega
        · intro h
          cases h
      · rw [if_neg e, put_ne e]
        exact G.lst v
    · have h' : put st.l L.g (some L) v = none := h
      show put st.f L.g (st.f L.s + L.m) v = 0
      by_cases e : v = L.g
      · rw [e, put_same] at h'
        cases h'
      · rw [put_ne e] at h' ⊢
        exact G.z v h'
    · show put st.f L.g (st.f L.s + L.m) v ≤ 0
      have := G.neg v
      have := G.neg L.g
      by_cases e : v = L.g
      · rw [e, put_same]
        omega
      · rw [put_ne e]
        omega
    · have h' : put st.l L.g (some L) v = some L' := h
      show L' ∈ ls ∧ L'.g = v ∧ (if v = L.g then r else R v) ≤ (if L'.s = L.g then r else R L'.s) + 1 ∧ put st.f L.g (st.f L.s + L.m) L'.s + L'.m ≤ put st.f L.g (st.f L.s + L.m) v
      have mono : ∀ x, put st.f L.g (st.f L.s + L.m) x ≤ st.f x := fun x => by
        by_cases e : x = L.g
        · rw [e, put_same]
          omega
        · rw [put_ne e]
          omega
      by_cases e : v = L.g
      · rw [e, put_same] at h'
        have eL := Option.some.inj h'
        subst eL
        refine ⟨hL, e.symm, ?_, ?_⟩
        · rw [if_pos e]
          have := Rg L.s
          omega
        · rw [e, put_same]
          have := mono L.s
          omega
      · rw [put_ne e] at h'
        obtain ⟨o1, o2, o3, o4⟩ := G.own v L' h'
        refine ⟨o1, o2, ?_, ?_⟩
        · rw [if_neg e]
          have := Rg L'.s
          omega
        · rw [put_ne e]
          have := mono L'.s
          omega
    · show put st.f L.g (st.f L.s + L.m) L'.g ≤ put st.f L.g (st.f L.s + L.m) L'.s + L'.m ∨ (if L'.s = L.g then r else R L'.s) = r
      by_cases es : L'.s = L.g
      · right
        rw [if_pos es]
      · rw [if_neg es, put_ne es]
        have hh : st.f L'.g ≤ st.f L'.s + L'.m ∨ R L'.s = r ∨ L' = L := by
          rcases List.mem_append.mp h with h | h
          · rcases G.d1 L' h with h | h
            · exact .inl h
            · exact .inr (.inl h)
          · exact .inr (.inr (List.mem_singleton.mp h))
        rcases hh with hh | hh | hh
        · left
          by_cases eg : L'.g = L.g
          · rw [eg, put_same]
            rw [eg] at hh
            omega
          · rw [put_ne eg]
            exact hh
        · exact .inr hh
        · left
          rw [hh, put_same]
          omega
    · show put st.f L.g (st.f L.s + L.m) L'.g ≤ put st.f L.g (st.f L.s + L.m) L'.s + L'.m ∨ r ≤ (if L'.s = L.g then r else R L'.s) + 1
      by_cases es : L'.s = L.g
      · right
        rw [if_pos es]
        omega
      · rw [if_neg es, put_ne es]
        rcases G.d2 L' (List.mem_cons_of_mem _ h) with hh | hh
        · left
          by_cases eg : L'.g = L.g
          · rw [eg, put_same]
            rw [eg] at hh
            omega
          · rw [put_ne eg]
            exact hh
        · exact .inr hh
    · exact relax_cyc G c
    · have e : L.g = p := Option.some.inj h
      show (if p = L.g then r else R p) = r
      rw [if_pos e.symm]
  · rw [if_neg c]
    refine ⟨R, G.le, G.lst, G.z, G.neg, G.own, fun L' h => ?_, fun L' h => G.d2 L' (List.mem_cons_of_mem _ h), G.cyc, G.fl⟩
    rcases List.mem_append.mp h with h | h
    · exact G.d1 L' h
    · rw [List.mem_singleton.mp h]
      left
      omega
theorem fold_GI {ls : List (Lk A)} {r : Nat} (hr : 0 < r) : ∀ (ls2 ls1 : List (Lk A)) (R : Int → Nat) (st : Sst A), (∀ L ∈ ls2, L ∈ ls) → GI ls ls1 ls2 r R st → ∃ R', GI ls (ls1 ++ ls2) [] r R' (ls2.foldl relax st)
  | [], ls1, R, st, _, G => by
    rw [List.append_nil]
    exact ⟨R, G⟩
  | L :: ls2, ls1, R, st, h, G => by
    obtain ⟨R1, G1⟩ := relax_GI hr (h L List.mem_cons_self) G
    obtain ⟨R2, G2⟩ := fold_GI hr ls2 (ls1 ++ [L]) R1 (relax st L) (fun L' h' => h L' (List.mem_cons_of_mem _ h')) G1
    refine ⟨R2, ?_⟩
    rw [List.append_assoc] at G2
    exact G2
theorem GI.reset {ls : List (Lk A)} {r : Nat} {R : Int → Nat} {st : Sst A} (G : GI ls [] ls r R st) : GI ls [] ls r R ⟨st.f, st.l, none⟩ :=
  ⟨G.le, G.lst, G.z, G.neg, G.own, G.d1, G.d2, G.cyc, fun p h => (by cases h)⟩
theorem GI.again {ls : List (Lk A)} {r : Nat} {R : Int → Nat} {st : Sst A} (G : GI ls ls [] r R st) : GI ls [] ls (r + 1) R ⟨st.f, st.l, none⟩ := by
  refine ⟨fun v => Nat.le_succ_of_le (G.le v), G.lst, G.z, G.neg, G.own, fun L h => (by cases h), fun L h => ?_, G.cyc, fun p h => (by cases h)⟩
  rcases G.d1 L h with h | h
  · exact .inl h
  · right
    omega
theorem round_reset (ls : List (Lk A)) (st : Sst A) : round ls st = round ls ⟨st.f, st.l, none⟩ := rfl
theorem runS_GI (ls : List (Lk A)) : ∀ (k r : Nat) (R : Int → Nat) (st : Sst A), 0 < r → GI ls [] ls r R ⟨st.f, st.l, none⟩ → 0 < k →
    ∃ r' R', 0 < r' ∧ GI ls ls [] r' R' (runS ls k st) ∧ ∀ p, (runS ls k st).fall = some p → r' + 1 = r + k
  | 0, _, _, _, _, _, h => absurd h (Nat.lt_irrefl 0)
  | k + 1, r, R, st, hr, G, _ => by
    obtain ⟨R1, G1⟩ := fold_GI hr ls [] R _ (fun _ h => h) G
    have G1 : GI ls ls [] r R1 (round ls st) := G1
    unfold runS
    by_cases c : (round ls st).fall = none
    · rw [if_pos c]
      refine ⟨r, R1, hr, G1, fun p h => ?_⟩
      rw [c] at h
      cases h
    · rw [if_neg c]
      cases k with
      | zero => exact ⟨r, R1, hr, G1, fun p _ => by omega⟩
      | succ k =>
        obtain ⟨r2, R2, h2, G2, e2⟩ := runS_GI ls (k + 1) (r + 1) R1 (round ls st) (Nat.succ_pos r) G1.again (Nat.succ_pos k)
        exact ⟨r2, R2, h2, G2, fun p h => by
          have := e2 p h
          omega⟩
theorem GI.start (ls : List (Lk A)) : GI ls [] ls 1 (fun _ => 0) (st0 : Sst A) := by
  refine ⟨fun v => Nat.zero_le _, fun v => ⟨fun _ => rfl, fun _ => rfl⟩, fun v _ => rfl, fun v => Int.le_refl 0, fun v L h => ?_, fun L h => (by cases h), fun L _ => .inr (Nat.le_refl 1), fun v m hm hs _ => ?_, fun p h => (by cases h)⟩
  · cases h
  · have := hs 0 hm
    cases this
theorem settled_GI (n : Nat) (ls : List (Lk A)) : ∃ r R, 0 < r ∧ GI ls ls [] r R (settledM n ls) ∧ ∀ p, (settledM n ls).fall = some p → r = n + 1 := by
  obtain ⟨r, R, h1, h2, h3⟩ := runS_GI ls (n + 1) 1 (fun _ => 0) st0 Nat.one_pos (GI.start ls) (Nat.succ_pos n)
  exact ⟨r, R, h1, h2, fun p h => by
    have := h3 p h
    omega⟩
theorem settled_fix {n : Nat} {ls : List (Lk A)} (h : (settledM n ls).fall = none) : ∀ L ∈ ls, (settledM n ls).f L.g ≤ (settledM n ls).f L.s + L.m := runS_fix ls (n + 1) st0 (Nat.succ_pos n) h

/-! pigeons -/
theorem nodup_le : ∀ (l ps : List Int), l.Nodup → (∀ a ∈ l, a ∈ ps) → l.length ≤ ps.length
  | [], ps, _, _ => Nat.zero_le _
  | a :: l, ps, hn, h => by
    have hn' := List.nodup_cons.mp hn
    have ha : a ∈ ps := h a List.mem_cons_self
    have ih := nodup_le l (ps.erase a) hn'.2 fun b hb => by
      have hne : b ≠ a := fun e => hn'.1 (e ▸ hb)
      exact (List.mem_erase_of_ne hne).mpr (h b (List.mem_cons_of_mem _ hb))
    have e := List.length_erase_of_mem ha
    have hp : 0 < ps.length := List.length_pos_of_mem ha
    rw [List.length_cons]
    omega
theorem pigeon (x : Nat → Int) (ps : List Int) (n : Nat) (hl : ps.length ≤ n) (h : ∀ i, i ≤ n → x i ∈ ps) : ∃ i j, i < j ∧ j ≤ n ∧ x i = x j := by
  refine Classical.byContradiction fun hc => ?_
  have hinj : ∀ i j, i < j → j ≤ n → x i ≠ x j := fun i j h1 h2 e => hc ⟨i, j, h1, h2, e⟩
  have nd : ((List.range (n + 1)).map x).Nodup := by
    unfold List.Nodup
    rw [List.pairwise_map]
    refine List.Pairwise.imp_of_mem (R := fun a b => a < b) ?_ List.pairwise_lt_range
    intro a b ha hb hab
    exact hinj a b hab (by have := List.mem_range.mp hb; omega)
  have := nodup_le _ ps nd fun a ha => by
    obtain ⟨i, hi, rfl⟩ := List.mem_map.mp ha
    exact h i (by have := List.mem_range.mp hi; omega)
  rw [List.length_map, List.length_range] at this
  omega

/-! the ring -/
def Chn : Int → List (Lk A) → Int → Prop
  | a, [], b => a = b
  | a, L :: r, b => L.g = a ∧ Chn L.s r b
def ringL (l : Int → Option (Lk A)) : Nat → Int → List (Lk A)
  | 0, _ => []
  | m + 1, v => match l v with
    | some L => L :: ringL l m L.s
    | none => []
theorem ringL_spec {l : Int → Option (Lk A)} (hg : ∀ v L, l v = some L → L.g = v) : ∀ (m : Nat) (v : Int), (∀ i, i < m → (l (it l i v)).isSome = true) →
    Chn v (ringL l m v) (it l m v) ∧ (ringL l m v).length = m ∧ (∀ L ∈ ringL l m v, l L.g = some L) ∧ ((ringL l m v).map (·.m)).sum = cost l m v ∧ (ringL l m v).map (·.g) = (List.range m).map (fun i => it l i v)
  | 0, v, _ => ⟨rfl, rfl, fun L h => (by cases h), rfl, rfl⟩
  | m + 1, v, h => by
    have h0 : (l v).isSome = true := h 0 (Nat.succ_pos m)
    cases q : l v with
    | none =>
      rw [q] at h0
      cases h0
    | some L =>
      have en : nx l v = L.s := nx_some q
      have em : mm l v = L.m := mm_some q
      have e : ringL l (m + 1) v = L :: ringL l m L.s := by
        show (match l v with
          | some L => L :: ringL l m L.s
          | none => []) = _
        rw [q]
      have ih := ringL_spec hg m L.s fun i hi => by
        have := h (i + 1) (Nat.succ_lt_succ hi)
        have e2 : it l (i + 1) v = it l i L.s := by
          show it l i (nx l v) = _
          rw [en]
        rw [e2] at this
        exact this
      obtain ⟨i1, i2, i3, i4, i5⟩ := ih
      rw [e]
      refine ⟨⟨hg v L q, ?_⟩, ?_, ?_, ?_, ?_⟩
      · show Chn L.s (ringL l m L.s) (it l m (nx l v))
        rw [en]
        exact i1
      · rw [List.length_cons, i2]
      · intro L' hL
        rcases List.mem_cons.mp hL with e' | e'
        · rw [e', hg v L q]
          exact q
        · exact i3 L' e'
      · show (L.m :: (ringL l m L.s).map (·.m)).sum = mm l v + cost l m (nx l v)
        rw [List.sum_cons, i4, em, en]
      · show L.g :: (ringL l m L.s).map (·.g) = _
        rw [i5, List.range_succ_eq_map, List.map_cons, List.map_map, hg v L q]
        have e3 : (List.range m).map (fun i => it l i L.s) = (List.range m).map ((fun i => it l i v) ∘ Nat.succ) := by
          refine List.map_congr_left fun i _ => ?_
          show it l i L.s = it l i (nx l v)
          rw [en]
        rw [e3]
        rfl
theorem least_period {l : Int → Option (Lk A)} {v : Int} : ∀ d : Nat, 0 < d → it l d v = v → ∃ m, 0 < m ∧ m ≤ d ∧ it l m v = v ∧ ∀ k, 0 < k → k < m → it l k v ≠ v := fun d => by
  induction d using Nat.strongRecOn with
  | _ d ih =>
    intro hd e
    by_cases c : ∃ k, 0 < k ∧ k < d ∧ it l k v = v
    · obtain ⟨k, h1, h2, h3⟩ := c
      obtain ⟨m, a, b, c, d'⟩ := ih k h2 h1 h3
      exact ⟨m, a, by omega, c, d'⟩
    · exact ⟨d, hd, Nat.le_refl d, e, fun k h1 h2 h3 => c ⟨k, h1, h2, h3⟩⟩
theorem period_nodup {l : Int → Option (Lk A)} {v : Int} {m : Nat} (e : it l m v = v) (h : ∀ k, 0 < k → k < m → it l k v ≠ v) : ((List.range m).map (fun i => it l i v)).Nodup := by
  unfold List.Nodup
  rw [List.pairwise_map]
  refine List.Pairwise.imp_of_mem (R := fun a b => a < b) ?_ List.pairwise_lt_range
  intro a b ha hb hab heq
  have hb' := List.mem_range.mp hb
  have e1 : it l (b + (m - b)) v = v := by
    have : b + (m - b) = m := by omega
    rw [this]
    exact e
  rw [it_add, ← heq, ← it_add] at e1
  exact h (a + (m - b)) (by omega) (by omega) e1
/-- behind the last round something fell: going back often enough one stands on a ring below 0 -/
theorem settled_ring {n : Nat} {ls : List (Lk A)} {ps : List Int} {p : Int} (hl : ps.length ≤ n) (hp : ∀ L ∈ ls, L.s ∈ ps ∧ L.g ∈ ps) (h : (settledM n ls).fall = some p) :
    (∀ i, ((settledM n ls).l (it (settledM n ls).l i p)).isSome = true) ∧ (∀ i, it (settledM n ls).l i p ∈ ps) ∧ ∃ rl : List (Lk A), rl ≠ [] ∧ Chn (it (settledM n ls).l (n + 1) p) rl (it (settledM n ls).l (n + 1) p) ∧
      (∀ L ∈ rl, (settledM n ls).l L.g = some L ∧ L ∈ ls) ∧ (rl.map (·.m)).sum < 0 ∧ (rl.map (·.g)).Nodup := by
  obtain ⟨r, R, hr, G, er⟩ := settled_GI n ls
  have er := er p h
  subst er
  generalize (settledM n ls) = st at h G ⊢
  have Rp : R p = n + 1 := G.fl p h
  have ch : ∀ i, i ≤ n + 1 → n + 1 ≤ R (it st.l i p) + i := by
    intro i
    induction i with
    | zero =>
      intro _
      show n + 1 ≤ R p + 0
      omega
    | succ i ih =>
      intro hi
      have ih := ih (by omega)
      cases q : st.l (it st.l i p) with
      | none =>
        have := (G.lst _).mpr q
        omega
      | some L =>
        have o := (G.own _ L q).2.2.1
        rw [it_succ, nx_some q]
        omega
  have so : ∀ i, i ≤ n → (st.l (it st.l i p)).isSome = true := fun i hi => by
    have := ch i (by omega)
    cases q : st.l (it st.l i p) with
    | none =>
      have := (G.lst _).mpr q
      omega
    | some L => rfl
  have inps : ∀ v, (st.l v).isSome = true → v ∈ ps := fun v hv => by
    cases q : st.l v with
    | none =>
      rw [q] at hv
      cases hv
    | some L =>
      have o := G.own v L q
      rw [← o.2.1]
      exact (hp L o.1).2
  obtain ⟨i, j, hij, hj, e⟩ := pigeon (fun i => it st.l i p) ps n hl fun i hi => inps _ (so i hi)
  have e : it st.l i p = it st.l j p := e
  have per : ∀ t, i ≤ t → it st.l (t + (j - i)) p = it st.l t p := fun t ht => by
    have a : t + (j - i) = j + (t - i) := by omega
    have b : t = i + (t - i) := by omega
    rw [a, it_add, ← e, ← it_add, ← b]
  have so2 : ∀ t, (st.l (it st.l t p)).isSome = true := fun t => by
    induction t using Nat.strongRecOn with
    | _ t ih =>
      by_cases c : t ≤ n
      · exact so t c
      · have a : t - (j - i) + (j - i) = t := by omega
        have b := per (t - (j - i)) (by omega)
        rw [a] at b
        rw [b]
        exact ih _ (by omega)
  have eat : it st.l (j - i) (it st.l (n + 1) p) = it st.l (n + 1) p := by
    rw [← it_add]
    exact per (n + 1) (by omega)
  obtain ⟨m, m1, m2, m3, m4⟩ := least_period (l := st.l) (v := it st.l (n + 1) p) (j - i) (by omega) eat
  have hs : ∀ k, k < m → (st.l (it st.l k (it st.l (n + 1) p))).isSome = true := fun k _ => by
    rw [← it_add]
    exact so2 _
  obtain ⟨r1, r2, r3, r4, r5⟩ := ringL_spec (l := st.l) (fun v L q => (G.own v L q).2.1) m (it st.l (n + 1) p) hs
  rw [m3] at r1
  refine ⟨so2, fun i => inps _ (so2 i), ringL st.l m (it st.l (n + 1) p), fun z => ?_, r1, fun L hL => ⟨r3 L hL, (G.own _ L (r3 L hL)).1⟩, ?_, ?_⟩
  · rw [z] at r2
    have : 0 = m := r2
    omega
  · rw [r4]
    exact G.cyc _ m m1 hs m3
  · rw [r5]
    exact period_nodup m3 m4
/-- the sums are no farther below 0 than so many links lead -/
theorem settled_low {n : Nat} {ls : List (Lk A)} {ps : List Int} {M : Int} (hM : 0 ≤ M) (hl : ps.length ≤ n) (hp : ∀ L ∈ ls, L.s ∈ ps ∧ L.g ∈ ps) (hm : ∀ L ∈ ls, -M ≤ L.m) (h : (settledM n ls).fall = none) (v : Int) :
    -(M * (n : Int)) ≤ (settledM n ls).f v ∧ (settledM n ls).f v ≤ 0 := by
  obtain ⟨r, R, hr, G, _⟩ := settled_GI n ls
  have fx := settled_fix h
  generalize (settledM n ls) = st at h G fx ⊢
  refine ⟨?_, G.neg v⟩
  have low : ∀ (k : Nat) (v : Int), (∃ t, t ≤ k ∧ st.l (it st.l t v) = none) → -(M * (k : Int)) ≤ st.f v := by
    intro k
    induction k with
    | zero =>
      rintro v ⟨t, ht, e⟩
      have e0 : t = 0 := by omega
      rw [e0] at e
      have := G.z v e
      rw [this]
      show -(M * 0) ≤ 0
      rw [Int.mul_zero]
      exact Int.le_refl 0
    | succ k ih =>
      rintro v ⟨t, ht, e⟩
      have ek : M * ((k + 1 : Nat) : Int) = M * (k : Int) + M := by
        rw [Int.natCast_succ, Int.mul_add, Int.mul_one]
      have pk : 0 ≤ M * (k : Int) := Int.mul_nonneg hM (Int.natCast_nonneg k)
      rw [ek]
      cases q : st.l v with
      | none =>
        rw [G.z v q]
        omega
      | some L =>
        have o := G.own v L q
        have ht0 : t ≠ 0 := fun z => by
          rw [z] at e
          have e' : st.l v = none := e
          rw [q] at e'
          cases e'
        obtain ⟨t', rfl⟩ : ∃ t', t = t' + 1 := ⟨t - 1, by omega⟩
        have e' : st.l (it st.l t' L.s) = none := by
          have e2 : it st.l (t' + 1) v = it st.l t' L.s := by
            show it st.l t' (nx st.l v) = _
            rw [nx_some q]
          rw [e2] at e
          exact e
        have := ih L.s ⟨t', by omega, e'⟩
        have := hm L o.1
        omega
  refine low n v (Classical.byContradiction fun hc => ?_)
  have so : ∀ i, i ≤ n → (st.l (it st.l i v)).isSome = true := fun i hi => by
    cases q : st.l (it st.l i v) with
    | none => exact absurd ⟨i, hi, q⟩ hc
    | some L => rfl
  obtain ⟨i, j, hij, hj, e⟩ := pigeon (fun i => it st.l i v) ps n hl fun i hi => by
    have s := so i hi
    show it st.l i v ∈ ps
    cases q : st.l (it st.l i v) with
    | none =>
      rw [q] at s
      cases s
    | some L =>
      have o := G.own _ L q
      rw [← o.2.1]
      exact (hp L o.1).2
  have e : it st.l i v = it st.l j v := e
  have ec : it st.l (j - i) (it st.l i v) = it st.l i v := by
    rw [← it_add]
    have : i + (j - i) = j := by omega
    rw [this, e]
  have hs : ∀ k, k < j - i → (st.l (it st.l k (it st.l i v))).isSome = true := fun k hk => by
    rw [← it_add]
    exact so _ (by omega)
  have c1 := G.cyc _ (j - i) (by omega) hs ec
  -- tight: the cost of a ring is 0
  have tight : ∀ (m : Nat) (x : Int), (∀ k, k < m → (st.l (it st.l k x)).isSome = true) → st.f x - st.f (it st.l m x) ≤ cost st.l m x := by
    intro m
    induction m with
    | zero =>
      intro x _
      show st.f x - st.f x ≤ 0
      omega
    | succ m ih =>
      intro x hx
      have h0 : (st.l x).isSome = true := hx 0 (Nat.succ_pos m)
      cases q : st.l x with
      | none =>
        rw [q] at h0
        cases h0
      | some L =>
        have o := G.own x L q
        have t := fx L o.1
        rw [o.2.1] at t
        have := ih (nx st.l x) fun k hk => hx (k + 1) (Nat.succ_lt_succ hk)
        show st.f x - st.f (it st.l m (nx st.l x)) ≤ mm st.l x + cost st.l m (nx st.l x)
        rw [mm_some q]
        rw [nx_some q] at this ⊢
        omega
  have c2 := tight (j - i) _ hs
  rw [ec] at c2
  omega
end
/-! ### sums over lists -/
section
variable {A : Type}
def sm (l : List A) (h : A → Int) : Int := (l.map h).sum
theorem sm_nil {h : A → Int} : sm [] h = 0 := rfl
theorem sm_cons {a : A} {l : List A} {h : A → Int} : sm (a :: l) h = h a + sm l h := by
  unfold sm
  rw [List.map_cons, List.sum_cons]
theorem sm_append {h : A → Int} : ∀ {l r : List A}, sm (l ++ r) h = sm l h + sm r h
  | [], r => by
    rw [List.nil_append, sm_nil]
    omega
  | a :: l, r => by
    have ih := sm_append (h := h) (l := l) (r := r)
    rw [List.cons_append, sm_cons, sm_cons, ih]
    omega
theorem sm_le {h g : A → Int} : ∀ {l : List A}, (∀ a ∈ l, h a ≤ g a) → sm l h ≤ sm l g
  | [], _ => Int.le_refl _
  | a :: l, e => by
    have ih := sm_le (l := l) fun b hb => e b (List.mem_cons_of_mem _ hb)
    have := e a List.mem_cons_self
    rw [sm_cons, sm_cons]
    omega
theorem sm_congr {h g : A → Int} : ∀ {l : List A}, (∀ a ∈ l, h a = g a) → sm l h = sm l g
  | [], _ => rfl
  | a :: l, e => by
    have ih := sm_congr (l := l) fun b hb => e b (List.mem_cons_of_mem _ hb)
    rw [sm_cons, sm_cons, ih, e a List.mem_cons_self]
theorem sm_add {h g : A → Int} : ∀ {l : List A}, sm l (fun a => h a + g a) = sm l h + sm l g
  | [] => rfl
  | a :: l => by
    have ih := sm_add (h := h) (g := g) (l := l)
    rw [sm_cons, sm_cons, sm_cons, ih]
    omega
theorem sm_sub {h g : A → Int} : ∀ {l : List A}, sm l (fun a => h a - g a) = sm l h - sm l g
  | [] => rfl
  | a :: l => by
    have ih := sm_sub (h := h) (g := g) (l := l)
    rw [sm_cons, sm_cons, sm_cons, ih]
    omega
theorem sm_mul {h : A → Int} (c : Int) : ∀ {l : List A}, sm l (fun a => c * h a) = c * sm l h
  | [] => by
    show (0 : Int) = c * 0
    rw [Int.mul_zero]
  | a :: l => by
    have ih := sm_mul (h := h) c (l := l)
    rw [sm_cons, sm_cons, ih, Int.mul_add]
theorem sm_zero : ∀ {l : List A}, sm l (fun _ => (0 : Int)) = 0
  | [] => rfl
  | a :: l => by
    have ih := sm_zero (l := l)
    rw [sm_cons, ih]
    rfl
theorem sm_nonneg {h : A → Int} {l : List A} (e : ∀ a ∈ l, 0 ≤ h a) : 0 ≤ sm l h := by
  have := sm_le (h := fun _ => (0 : Int)) (g := h) (l := l) e
  rw [sm_zero] at this
  exact this
theorem sm_all0 {h : A → Int} : ∀ {l : List A}, (∀ a ∈ l, 0 ≤ h a) → sm l h ≤ 0 → ∀ a ∈ l, h a = 0
  | [], _, _, a, ha => by cases ha
  | b :: l, e, z, a, ha => by
    rw [sm_cons] at z
    have h1 := e b List.mem_cons_self
    have h2 := sm_nonneg (h := h) (l := l) fun c hc => e c (List.mem_cons_of_mem _ hc)
    rcases List.mem_cons.mp ha with q | q
    · rw [q]
      omega
    · exact sm_all0 (fun c hc => e c (List.mem_cons_of_mem _ hc)) (by omega) a q
theorem sm_map {B : Type} {f : B → A} {h : A → Int} : ∀ {l : List B}, sm (l.map f) h = sm l (fun b => h (f b))
  | [] => rfl
  | b :: l => by
    have ih := sm_map (f := f) (h := h) (l := l)
    rw [List.map_cons, sm_cons, sm_cons, ih]
end
theorem nodup_leG {A : Type} [DecidableEq A] : ∀ (l ps : List A), l.Nodup → (∀ a ∈ l, a ∈ ps) → l.length ≤ ps.length
  | [], ps, _, _ => Nat.zero_le _
  | a :: l, ps, hn, h => by
    have hn' := List.nodup_cons.mp hn
    have ha : a ∈ ps := h a List.mem_cons_self
    have ih := nodup_leG l (ps.erase a) hn'.2 fun b hb => by
      have hne : b ≠ a := fun e => hn'.1 (e ▸ hb)
      exact (List.mem_erase_of_ne hne).mpr (h b (List.mem_cons_of_mem _ hb))
    have e := List.length_erase_of_mem ha
    have hp : 0 < ps.length := List.length_pos_of_mem ha
    rw [List.length_cons]
    omega

/-! ### nets: gates by number, wires with their number of registers -/
structure Wr where
  s : Nat
  e : Nat
  k : Nat
structure Nt where
  n : Nat
  fx : Nat → Bool
  wt : Nat → Int
  ws : List Wr
def Nt.w (N : Nt) (k : Nat) : Wr := N.ws.getD k ⟨0, 0, 0⟩
structure Nt.Ok (N : Nt) : Prop where
  pos : 0 < N.n
  n7 : N.n ≤ 7
  ends : ∀ w ∈ N.ws, w.s < N.n ∧ w.e < N.n
  wt0 : ∀ g, g < N.n → 0 ≤ N.wt g ∧ N.wt g ≤ 100
  k3 : ∀ w ∈ N.ws, w.k ≤ 3
  rk : ∃ r : Nat → Nat, ∀ w ∈ N.ws, w.k = 0 → r w.s < r w.e
  ws12 : N.ws.length ≤ 12
  inner : ((List.range N.n).filter fun g => !N.fx g).length ≤ 3
section
variable {N : Nt}
theorem Nt.w_mem {k : Nat} (h : k < N.ws.length) : N.w k ∈ N.ws := by
  unfold Nt.w
  rw [List.getD_eq_getElem?_getD, List.getElem?_eq_getElem h]
  exact List.getElem_mem h
def Way (N : Nt) : Nat → List Nat → Prop
  | _, [] => True
  | a, k :: r => k < N.ws.length ∧ (N.w k).s = a ∧ Way N (N.w k).e r
def endOf (N : Nt) : Nat → List Nat → Nat
  | a, [] => a
  | _, k :: r => endOf N (N.w k).e r
def heldN (N : Nt) (p : List Nat) : Int := sm p fun k => ((N.w k).k : Int)
def waitN (N : Nt) (a : Nat) (p : List Nat) : Int := N.wt a + sm p fun k => N.wt (N.w k).e
def gatesN (N : Nt) (a : Nat) (p : List Nat) : List Nat := a :: p.map fun k => (N.w k).e
def longN (N : Nt) (b : Int) (a : Nat) (p : List Nat) : Bool := decide (b < waitN N a p)
def roomN (N : Nt) (b : Int) (a : Nat) (p : List Nat) : Int := heldN N p - (if longN N b a p then 1 else 0)
theorem Way.append : ∀ {a : Nat} {p q : List Nat}, Way N a (p ++ q) ↔ Way N a p ∧ Way N (endOf N a p) q
  | a, [], q => ⟨fun h => ⟨trivial, h⟩, fun h => h.2⟩
  | a, k :: p, q => by
    have ih := Way.append (a := (N.w k).e) (p := p) (q := q)
    show (_ ∧ _ ∧ Way N (N.w k).e (p ++ q)) ↔ (_ ∧ _ ∧ Way N (N.w k).e p) ∧ Way N (endOf N (N.w k).e p) q
    rw [ih]
    constructor
    · rintro ⟨h1, h2, h3, h4⟩
      exact ⟨⟨h1, h2, h3⟩, h4⟩
    · rintro ⟨⟨h1, h2, h3⟩, h4⟩
      exact ⟨h1, h2, h3, h4⟩
theorem endOf_append : ∀ {a : Nat} {p q : List Nat}, endOf N a (p ++ q) = endOf N (endOf N a p) q
  | a, [], q => rfl
  | a, k :: p, q => endOf_append (a := (N.w k).e) (p := p) (q := q)
theorem held_append {p q : List Nat} : heldN N (p ++ q) = heldN N p + heldN N q := sm_append
theorem wait_append {a : Nat} {p q : List Nat} : waitN N a (p ++ q) = waitN N a p + sm q (fun k => N.wt (N.w k).e) := by
  unfold waitN
  rw [sm_append]
  omega
theorem held_nonneg {p : List Nat} : 0 ≤ heldN N p := sm_nonneg fun k _ => Int.natCast_nonneg _
theorem Way.lt {p : List Nat} : ∀ {a : Nat}, Way N a p → ∀ k ∈ p, k < N.ws.length := by
  induction p with
  | nil =>
    intro a _ k hk
    cases hk
  | cons j p ih =>
    intro a h k hk
    rcases List.mem_cons.mp hk with e | e
    · rw [e]
      exact h.1
    · exact ih h.2.2 k e
theorem Nt.Ok.end_lt (O : N.Ok) : ∀ {p : List Nat} {a : Nat}, a < N.n → Way N a p → endOf N a p < N.n
  | [], a, ha, _ => ha
  | k :: p, a, _, h => O.end_lt (p := p) (O.ends _ (Nt.w_mem h.1)).2 h.2.2
theorem end_gates : ∀ (p : List Nat) (a i : Nat), i ≤ p.length → (gatesN N a p)[i]? = some (endOf N a (p.take i))
  | p, a, 0, _ => by
    rw [List.take_zero]
    rfl
  | [], a, i + 1, h => absurd h (Nat.not_succ_le_zero i)
  | k :: p, a, i + 1, h => by
    have ih := end_gates p (N.w k).e i (Nat.le_of_succ_le_succ h)
    show ((N.w k).e :: p.map fun k => (N.w k).e)[i]? = some (endOf N (N.w k).e (p.take i))
    exact ih
theorem endOf_last (p : List Nat) (a : Nat) : (gatesN N a p).getLast? = some (endOf N a p) := by
  have e := end_gates (N := N) p a p.length (Nat.le_refl _)
  rw [List.take_length] at e
  rw [List.getLast?_eq_getElem?]
  have l : (gatesN N a p).length - 1 = p.length := by
    show (p.map _).length + 1 - 1 = _
    rw [List.length_map]
    omega
  rw [l]
  exact e
/-! lags -/
def cnt (N : Nt) (l : Nat → Int) (k : Nat) : Int := ((N.w k).k : Int) + l (N.w k).e - l (N.w k).s
theorem cnt_sum {l : Nat → Int} : ∀ {p : List Nat} {a : Nat}, Way N a p → sm p (cnt N l) = heldN N p + l (endOf N a p) - l a
  | [], a, _ => by
    show (0 : Int) = 0 + l a - l a
    omega
  | k :: p, a, h => by
    have ih := cnt_sum (l := l) h.2.2
    have e : heldN N (k :: p) = ((N.w k).k : Int) + heldN N p := sm_cons
    rw [sm_cons, ih, e]
    show cnt N l k + (heldN N p + l (endOf N (N.w k).e p) - l (N.w k).e) = ((N.w k).k : Int) + heldN N p + l (endOf N (N.w k).e p) - l a
    unfold cnt
    rw [h.2.1]
    omega
theorem rank_up {r : Nat → Nat} (hr : ∀ w ∈ N.ws, w.k = 0 → r w.s < r w.e) : ∀ {p : List Nat} {a : Nat}, Way N a p → (∀ k ∈ p, (N.w k).k = 0) → r a + p.length ≤ r (endOf N a p)
  | [], a, _, _ => Nat.le_refl _
  | k :: p, a, h, z => by
    have ih := rank_up hr h.2.2 fun j hj => z j (List.mem_cons_of_mem _ hj)
    have := hr _ (Nt.w_mem h.1) (z k List.mem_cons_self)
    rw [h.2.1] at this
    show r a + (p.length + 1) ≤ r (endOf N (N.w k).e p)
    omega
/-- in a ring a register stands -/
theorem Nt.Ok.ring (O : N.Ok) {p : List Nat} {a : Nat} (h : Way N a p) (e : endOf N a p = a) (hp : p ≠ []) : 1 ≤ heldN N p := by
  refine Classical.byContradiction fun hc => ?_
  have z : ∀ k ∈ p, ((N.w k).k : Int) = 0 := sm_all0 (fun k _ => Int.natCast_nonneg _) (by
    have : heldN N p < 1 := by omega
    show heldN N p ≤ 0
    omega)
  obtain ⟨r, hr⟩ := O.rk
  have := rank_up hr h fun k hk => by
    have := z k hk
    omega
  rw [e] at this
  have : 0 < p.length := List.length_pos_iff.mpr hp
  omega
/-- p is at least as good as q: fewer registers, or as many and no smaller wait -/
def Best (N : Nt) (a : Nat) (p q : List Nat) : Prop := heldN N p < heldN N q ∨ (heldN N p = heldN N q ∧ waitN N a q ≤ waitN N a p)
theorem Best.held {a : Nat} {p q : List Nat} (h : Best N a p q) : heldN N p ≤ heldN N q := by
  rcases h with h | h
  · omega
  · omega
theorem Best.refl {a : Nat} {p : List Nat} : Best N a p p := .inr ⟨rfl, Int.le_refl _⟩
theorem Best.trans {a : Nat} {p q r : List Nat} (h : Best N a p q) (h' : Best N a q r) : Best N a p r := by
  unfold Best at *
  omega
/-- a way than which none has fewer registers comes by each gate once -/
theorem Nt.Ok.simple (O : N.Ok) {p : List Nat} {a : Nat} (h : Way N a p) (m : ∀ q, Way N a q → endOf N a q = endOf N a p → heldN N p ≤ heldN N q) : (gatesN N a p).Nodup := by
  unfold List.Nodup
  rw [List.pairwise_iff_getElem]
  intro i j hi hj hij heq
  have hl : (gatesN N a p).length = p.length + 1 := by
    show (p.map _).length + 1 = _
    rw [List.length_map]
  have ei := end_gates (N := N) p a i (by omega)
  have ej := end_gates (N := N) p a j (by omega)
  rw [List.getElem?_eq_getElem hi] at ei
  rw [List.getElem?_eq_getElem hj] at ej
  have ei := Option.some.inj ei
  have ej := Option.some.inj ej
  rw [heq, ej] at ei
  -- the ring between
  have s1 : p = p.take j ++ p.drop j := (List.take_append_drop j p).symm
  have s2 : p.take j = p.take i ++ (p.take j).drop i := by
    have := (List.take_append_drop i (p.take j)).symm
    rw [List.take_take, Nat.min_eq_left (Nat.le_of_lt hij)] at this
    exact this
  have h1 := h
  rw [s1] at h1
  obtain ⟨h1, h2⟩ := Way.append.mp h1
  have h3 := h1
  rw [s2] at h3
  obtain ⟨h3, h4⟩ := Way.append.mp h3
  have e4 : endOf N (endOf N a (p.take i)) ((p.take j).drop i) = endOf N a (p.take i) := by
    rw [← endOf_append, ← s2]
    exact ei
  have ne : (p.take j).drop i ≠ [] := fun z => by
    have l := congrArg List.length z
    rw [List.length_drop, List.length_take] at l
    have l2 : min j p.length - i = 0 := l
    omega
  have r := O.ring h4 e4 ne
  have := m (p.take i ++ p.drop j) (Way.append.mpr ⟨h3, by
    rw [← ei]
    exact h2⟩) (by
    rw [endOf_append, ← ei, ← endOf_append, ← s1])
  have c1 : heldN N p = heldN N (p.take j) + heldN N (p.drop j) := by
    rw [← held_append, ← s1]
  have c2 : heldN N (p.take j) = heldN N (p.take i) + heldN N ((p.take j).drop i) := by
    rw [← held_append, ← s2]
  rw [held_append] at this
  omega
theorem Nt.Ok.gates_lt (O : N.Ok) {p : List Nat} {a : Nat} (ha : a < N.n) (h : Way N a p) : ∀ g ∈ gatesN N a p, g < N.n := fun g hg => by
  rcases List.mem_cons.mp hg with e | e
  · rw [e]
    exact ha
  · obtain ⟨k, hk, rfl⟩ := List.mem_map.mp e
    exact (O.ends _ (Nt.w_mem (h.lt k hk))).2
theorem Nt.Ok.short (O : N.Ok) {p : List Nat} {a : Nat} (ha : a < N.n) (h : Way N a p) (nd : (gatesN N a p).Nodup) : p.length + 1 ≤ N.n := by
  have := nodup_leG (gatesN N a p) (List.range N.n) nd fun g hg => List.mem_range.mpr (O.gates_lt ha h g hg)
  rw [List.length_range] at this
  have hl : (gatesN N a p).length = p.length + 1 := by
    show (p.map _).length + 1 = _
    rw [List.length_map]
  omega
theorem Nt.Ok.held_le (O : N.Ok) {p : List Nat} {a : Nat} (h : Way N a p) : heldN N p ≤ 3 * (p.length : Int) := by
  have := sm_le (h := fun k => ((N.w k).k : Int)) (g := fun _ => (3 : Int)) (l := p) fun k hk => by
    have := O.k3 _ (Nt.w_mem (h.lt k hk))
    show ((N.w k).k : Int) ≤ 3
    omega
  have e : ∀ l : List Nat, sm l (fun _ => (3 : Int)) = 3 * (l.length : Int) := fun l => by
    induction l with
    | nil => rfl
    | cons a l ih =>
      rw [sm_cons, ih, List.length_cons]
      omega
  rw [e] at this
  exact this

/-! ### rows -/
def homeN (N : Nt) (g : Nat) : Int := if N.fx g then -1 else (g : Int)
structure RowsOk (N : Nt) (b : Int) (rs : List (Nat × List Nat)) : Prop where
  wires : rs.take N.ws.length = (List.range N.ws.length).map fun k => ((N.w k).s, [k])
  way : ∀ r ∈ rs, r.1 < N.n ∧ Way N r.1 r.2 ∧ r.2.length ≤ N.n
  all : ∀ a, a < N.n → ∀ q, Way N a q → ∃ p, Way N a p ∧ endOf N a p = endOf N a q ∧ Best N a p q ∧ p.length ≤ N.n ∧ (b < waitN N a p → (a, p) ∈ rs)
structure Feas (N : Nt) (b : Int) (l : Nat → Int) : Prop where
  fx : ∀ g, g < N.n → N.fx g = true → l g = 0
  cn : ∀ k, k < N.ws.length → 0 ≤ cnt N l k
  wt : ∀ a, a < N.n → ∀ q, Way N a q → q.length ≤ N.n → (∀ k ∈ q, cnt N l k = 0) → waitN N a q ≤ b
def RowOk (N : Nt) (b : Int) (l : Nat → Int) (r : Nat × List Nat) : Prop := l r.1 ≤ l (endOf N r.1 r.2) + roomN N b r.1 r.2
theorem room_le {b : Int} {a : Nat} {p : List Nat} : roomN N b a p ≤ heldN N p := by
  unfold roomN
  split <;> omega
theorem feas_row {b : Int} {l : Nat → Int} (F : Feas N b l) {a : Nat} {q : List Nat} (ha : a < N.n) (h : Way N a q) (hq : q.length ≤ N.n) : RowOk N b l (a, q) := by
  show l a ≤ l (endOf N a q) + roomN N b a q
  have c := cnt_sum (l := l) h
  have nn : ∀ k ∈ q, 0 ≤ cnt N l k := fun k hk => F.cn k (h.lt k hk)
  have p := sm_nonneg nn
  unfold roomN
  by_cases g : longN N b a q = true
  · rw [if_pos g]
    have hw : b < waitN N a q := of_decide_eq_true g
    refine Classical.byContradiction fun hc => ?_
    have z := sm_all0 nn (by omega)
    have := F.wt a ha q h hq z
    omega
  · rw [if_neg g]
    omega
theorem rows_feas {b : Int} {l : Nat → Int} {rs : List (Nat × List Nat)} (O : N.Ok) (K : RowsOk N b rs) (hf : ∀ g, g < N.n → N.fx g = true → l g = 0) (h : ∀ r ∈ rs, RowOk N b l r) : Feas N b l := by
  have cn : ∀ k, k < N.ws.length → 0 ≤ cnt N l k := fun k hk => by
    have hm : ((N.w k).s, [k]) ∈ rs := by
      refine List.mem_of_mem_take (i := N.ws.length) ?_
      rw [K.wires]
      exact List.mem_map.mpr ⟨k, List.mem_range.mpr hk, rfl⟩
    have r : l (N.w k).s ≤ l (N.w k).e + roomN N b (N.w k).s [k] := h _ hm
    have := room_le (N := N) (b := b) (a := (N.w k).s) (p := [k])
    have e : heldN N [k] = ((N.w k).k : Int) + 0 := sm_cons
    unfold cnt
    omega
  refine ⟨hf, cn, fun a ha q hq _ z => ?_⟩
  refine Classical.byContradiction fun hc => ?_
  obtain ⟨p, hp, ep, bp, _, lp⟩ := K.all a ha q hq
  have c1 := cnt_sum (l := l) hq
  have z1 : sm q (cnt N l) = 0 := by
    rw [sm_congr (g := fun _ => (0 : Int)) z, sm_zero]
  have c2 := cnt_sum (l := l) hp
  have nn := sm_nonneg (h := cnt N l) (l := p) fun k hk => cn k (hp.lt k hk)
  rw [ep] at c2
  rcases bp with bp | ⟨bp, wp⟩
  · omega
  · have r : l a ≤ l (endOf N a p) + roomN N b a p := h _ (lp (by omega))
    unfold roomN at r
    rw [if_pos (show longN N b a p = true from decide_eq_true (by omega)), ep] at r
    omega
/-- a greater beat is no harder -/
theorem Feas.mono {b b' : Int} {l : Nat → Int} (h : b ≤ b') (F : Feas N b l) : Feas N b' l := ⟨F.fx, F.cn, fun a ha q h1 h2 h3 => Int.le_trans (F.wt a ha q h1 h2 h3) h⟩

/-! ### lags or a bar -/
def rowLk (N : Nt) (b : Int) (r : Nat × List Nat) : Lk (Nat × List Nat) := ⟨homeN N (endOf N r.1 r.2), homeN N r.1, roomN N b r.1 r.2, r⟩
def placesN (N : Nt) : List Int := -1 :: ((List.range N.n).filter fun g => !N.fx g).map (fun g : Nat => (g : Int))
theorem home_mem {g : Nat} (h : g < N.n) : homeN N g ∈ placesN N := by
  unfold homeN placesN
  by_cases c : N.fx g = true
  · rw [if_pos c]
    exact List.mem_cons_self
  · rw [if_neg c]
    refine List.mem_cons_of_mem _ (List.mem_map.mpr ⟨g, List.mem_filter.mpr ⟨List.mem_range.mpr h, ?_⟩, rfl⟩)
    cases q : N.fx g with
    | true => exact absurd q c
    | false => rfl
theorem places_len (O : N.Ok) : (placesN N).length ≤ 4 := by
  unfold placesN
  rw [List.length_cons, List.length_map]
  have := O.inner
  omega
/-- lags as numbers at homes -/
def up (l : Nat → Int) (x : Int) : Int := if x = -1 then 0 else l x.toNat
theorem up_home {l : Nat → Int} (hf : ∀ g, g < N.n → N.fx g = true → l g = 0) {g : Nat} (hg : g < N.n) : up l (homeN N g) = l g := by
  unfold up homeN
  by_cases c : N.fx g = true
  · rw [if_pos c, if_pos rfl, hf g hg c]
  · rw [if_neg c, if_neg (by omega), Int.toNat_natCast]
/-- around a ring differences come to 0 -/
theorem chn_sum {A : Type} {u : Int → Int} : ∀ {rl : List (Lk A)} {a b : Int}, Chn a rl b → sm rl (fun L => u L.g - u L.s) = u a - u b
  | [], a, b, h => by
    have h : a = b := h
    rw [h]
    show (0 : Int) = u b - u b
    omega
  | L :: r, a, b, h => by
    have ih := chn_sum (u := u) h.2
    rw [sm_cons, ih, h.1]
    omega
def lagsN (N : Nt) (f : Int → Int) (g : Nat) : Int := f (homeN N g) - f (-1)
theorem lagsN_fx {f : Int → Int} {g : Nat} (h : N.fx g = true) : lagsN N f g = 0 := by
  unfold lagsN homeN
  rw [if_pos h]
  omega
theorem sum_m {A : Type} {rl : List (Lk A)} : (rl.map (·.m)).sum = sm rl (fun L => L.m) := rfl
theorem row_bounds {b : Int} {rs : List (Nat × List Nat)} (O : N.Ok) (K : RowsOk N b rs) : ∀ r ∈ rs, -1 ≤ roomN N b r.1 r.2 ∧ roomN N b r.1 r.2 ≤ 21 := fun r hr => by
  obtain ⟨h1, h2, h3⟩ := K.way r hr
  have a := O.held_le h2
  have c := held_nonneg (N := N) (p := r.2)
  have := O.n7
  have d := room_le (N := N) (b := b) (a := r.1) (p := r.2)
  refine ⟨?_, by omega⟩
  unfold roomN
  split <;> omega
theorem rowLk_in {b : Int} {rs : List (Nat × List Nat)} (O : N.Ok) (K : RowsOk N b rs) : ∀ L ∈ rs.map (rowLk N b), L.s ∈ placesN N ∧ L.g ∈ placesN N := fun L hL => by
  obtain ⟨r, hr, rfl⟩ := List.mem_map.mp hL
  obtain ⟨h1, h2, _⟩ := K.way r hr
  exact ⟨home_mem (O.end_lt h1 h2), home_mem h1⟩
theorem plain_lags {b : Int} {rs : List (Nat × List Nat)} (O : N.Ok) (K : RowsOk N b rs) (h : (settledM (placesN N).length (rs.map (rowLk N b))).fall = none) :
    Feas N b (lagsN N (settledM (placesN N).length (rs.map (rowLk N b))).f) := by
  have fx := settled_fix h
  refine rows_feas O K (fun g _ hg => lagsN_fx hg) fun r hr => ?_
  have := fx _ (List.mem_map.mpr ⟨r, hr, rfl⟩)
  have : (settledM (placesN N).length (rs.map (rowLk N b))).f (homeN N r.1) ≤ (settledM (placesN N).length (rs.map (rowLk N b))).f (homeN N (endOf N r.1 r.2)) + roomN N b r.1 r.2 := this
  unfold RowOk lagsN
  omega
/-- a ring of rows below 0 bars lags -/
theorem rows_bar {b : Int} {rs : List (Nat × List Nat)} (O : N.Ok) (K : RowsOk N b rs) {rl : List (Lk (Nat × List Nat))} {a : Int} (hc : Chn a rl a) (hm : ∀ L ∈ rl, L ∈ rs.map (rowLk N b)) (hs : sm rl (fun L => L.m) < 0) (l : Nat → Int) : ¬ Feas N b l := fun F => by
  have e := chn_sum (u := up l) hc
  have : sm rl (fun L => up l L.g - up l L.s) ≤ sm rl (fun L => L.m) := sm_le fun L hL => by
    obtain ⟨r, hr, rfl⟩ := List.mem_map.mp (hm L hL)
    obtain ⟨h1, h2, h3⟩ := K.way r hr
    have q := feas_row F h1 h2 h3
    show up l (homeN N r.1) - up l (homeN N (endOf N r.1 r.2)) ≤ roomN N b r.1 r.2
    rw [up_home F.fx h1, up_home F.fx (O.end_lt h1 h2)]
    have q : l r.1 ≤ l (endOf N r.1 r.2) + roomN N b r.1 r.2 := q
    omega
  omega
end
/-! ### numbers for rows -/
def Wt : List Int → (Nat → Int) → Int
  | [], _ => 0
  | x :: c, h => x * h 0 + Wt c fun k => h (k + 1)
theorem Wt_set : ∀ (c : List Int) (k : Nat) (x : Int) (h : Nat → Int), k < c.length → Wt (c.set k x) h = Wt c h + (x - c.getD k 0) * h k
  | [], k, x, h, hk => absurd hk (Nat.not_lt_zero k)
  | y :: c, 0, x, h, _ => by
    show x * h 0 + Wt c (fun k => h (k + 1)) = y * h 0 + Wt c (fun k => h (k + 1)) + (x - y) * h 0
    rw [Int.sub_mul]
    omega
  | y :: c, k + 1, x, h, hk => by
    have ih := Wt_set c k x (fun k => h (k + 1)) (Nat.lt_of_succ_lt_succ hk)
    show y * h 0 + Wt (c.set k x) (fun k => h (k + 1)) = y * h 0 + Wt c (fun k => h (k + 1)) + (x - c.getD k 0) * h (k + 1)
    rw [ih]
    omega
theorem Wt_le : ∀ (c : List Int) (h g : Nat → Int), (∀ k, k < c.length → 0 ≤ c.getD k 0) → (∀ k, k < c.length → h k ≤ g k) → Wt c h ≤ Wt c g
  | [], _, _, _, _ => Int.le_refl _
  | y :: c, h, g, nn, e => by
    have ih := Wt_le c (fun k => h (k + 1)) (fun k => g (k + 1)) (fun k hk => nn (k + 1) (Nat.succ_lt_succ hk)) fun k hk => e (k + 1) (Nat.succ_lt_succ hk)
    have a : 0 ≤ y := nn 0 (Nat.succ_pos _)
    have := Int.mul_le_mul_of_nonneg_left (e 0 (Nat.succ_pos _)) a
    show y * h 0 + Wt c (fun k => h (k + 1)) ≤ y * g 0 + Wt c (fun k => g (k + 1))
    omega
theorem Wt_congr : ∀ (c : List Int) (h g : Nat → Int), (∀ k, k < c.length → c.getD k 0 * h k = c.getD k 0 * g k) → Wt c h = Wt c g
  | [], _, _, _ => rfl
  | y :: c, h, g, e => by
    have ih := Wt_congr c (fun k => h (k + 1)) (fun k => g (k + 1)) fun k hk => e (k + 1) (Nat.succ_lt_succ hk)
    have a : y * h 0 = y * g 0 := e 0 (Nat.succ_pos _)
    show y * h 0 + Wt c (fun k => h (k + 1)) = y * g 0 + Wt c (fun k => g (k + 1))
    rw [a, ih]
theorem Wt_zero : ∀ (c : List Int), Wt c (fun _ => 0) = 0
  | [] => rfl
  | y :: c => by
    have ih := Wt_zero c
    show y * 0 + Wt c (fun _ => 0) = 0
    rw [ih]
    omega
theorem Wt_ind : ∀ (c : List Int) (k : Nat), Wt c (fun j => if j = k then 1 else 0) = c.getD k 0
  | [], k => by simp [Wt]
  | y :: c, 0 => by
    have e : Wt c (fun j => if j + 1 = 0 then (1 : Int) else 0) = Wt c (fun _ => 0) := Wt_congr _ _ _ fun k _ => by
      rw [if_neg (Nat.succ_ne_zero k)]
    show y * (if 0 = 0 then 1 else 0) + Wt c (fun j => if j + 1 = 0 then 1 else 0) = y
    rw [e, Wt_zero, if_pos rfl]
    omega
  | y :: c, k + 1 => by
    have ih := Wt_ind c k
    have e : Wt c (fun j => if j + 1 = k + 1 then (1 : Int) else 0) = Wt c (fun j => if j = k then 1 else 0) := Wt_congr _ _ _ fun j _ => by
      by_cases q : j = k
      · rw [if_pos q, if_pos (by omega)]
      · rw [if_neg q, if_neg (by omega)]
    show y * (if 0 = k + 1 then 1 else 0) + Wt c (fun j => if j + 1 = k + 1 then 1 else 0) = c.getD k 0
    rw [e, ih, if_neg (by omega)]
    omega
theorem Wt_sub : ∀ (c : List Int) (h g : Nat → Int), Wt c (fun k => h k - g k) = Wt c h - Wt c g
  | [], _, _ => rfl
  | y :: c, h, g => by
    have ih := Wt_sub c (fun k => h (k + 1)) (fun k => g (k + 1))
    show y * (h 0 - g 0) + Wt c (fun k => h (k + 1) - g (k + 1)) = y * h 0 + Wt c (fun k => h (k + 1)) - (y * g 0 + Wt c (fun k => g (k + 1)))
    rw [ih, Int.mul_sub]
    omega
/-- one turn of a ring's link -/
def aug (many : Int) (c : List Int) (x : Nat × Int) : List Int := c.set x.1 (c.getD x.1 0 + x.2 * many)
theorem aug_len {many : Int} : ∀ (r : List (Nat × Int)) (c : List Int), (r.foldl (aug many) c).length = c.length
  | [], c => rfl
  | x :: r, c => by
    have ih := aug_len (many := many) r (aug many c x)
    show (r.foldl (aug many) (aug many c x)).length = c.length
    rw [ih]
    exact List.length_set
theorem aug_Wt {many : Int} {h : Nat → Int} : ∀ (r : List (Nat × Int)) (c : List Int), (∀ x ∈ r, x.1 < c.length) → Wt (r.foldl (aug many) c) h = Wt c h + many * sm r (fun x => x.2 * h x.1)
  | [], c, _ => by
    show Wt c h = Wt c h + many * 0
    omega
  | x :: r, c, e => by
    have l : (aug many c x).length = c.length := List.length_set
    have ih := aug_Wt (many := many) (h := h) r (aug many c x) fun y hy => by
      rw [l]
      exact e y (List.mem_cons_of_mem _ hy)
    have s := Wt_set c x.1 (c.getD x.1 0 + x.2 * many) h (e x List.mem_cons_self)
    have s : Wt (aug many c x) h = Wt c h + (c.getD x.1 0 + x.2 * many - c.getD x.1 0) * h x.1 := s
    show Wt (r.foldl (aug many) (aug many c x)) h = _
    rw [ih, s, sm_cons, Int.mul_add]
    have a : (c.getD x.1 0 + x.2 * many - c.getD x.1 0) * h x.1 = many * (x.2 * h x.1) := by
      have : c.getD x.1 0 + x.2 * many - c.getD x.1 0 = many * x.2 := by
        rw [Int.mul_comm many x.2]
        omega
      rw [this, Int.mul_assoc]
    rw [a]
    omega
section
variable {N : Nt} {b : Int} {rs : List (Nat × List Nat)}
def rwAt (rs : List (Nat × List Nat)) (k : Nat) : Nat × List Nat := rs.getD k (0, [])
def roomR (N : Nt) (b : Int) (r : Nat × List Nat) : Int := roomN N b r.1 r.2
def flowOne (N : Nt) (b : Int) (rs : List (Nat × List Nat)) (c : List Int) (k : Nat) : List (Lk (Nat × Int)) :=
  ⟨homeN N (endOf N (rwAt rs k).1 (rwAt rs k).2), homeN N (rwAt rs k).1, roomR N b (rwAt rs k), (k, 1)⟩ ::
    (if 0 < c.getD k 0 then [⟨homeN N (rwAt rs k).1, homeN N (endOf N (rwAt rs k).1 (rwAt rs k).2), 0 - roomR N b (rwAt rs k), (k, -1)⟩] else [])
def flowLks (N : Nt) (b : Int) (rs : List (Nat × List Nat)) (c : List Int) : List (Lk (Nat × Int)) := (List.range rs.length).flatMap (flowOne N b rs c)
theorem rwAt_mem {k : Nat} (h : k < rs.length) : rwAt rs k ∈ rs := by
  unfold rwAt
  rw [List.getD_eq_getElem?_getD, List.getElem?_eq_getElem h]
  exact List.getElem_mem h
/-- what a link of the flow is -/
theorem flow_mem {c : List Int} {L : Lk (Nat × Int)} (h : L ∈ flowLks N b rs c) : L.w.1 < rs.length ∧
    ((L.w.2 = 1 ∧ L.s = homeN N (endOf N (rwAt rs L.w.1).1 (rwAt rs L.w.1).2) ∧ L.g = homeN N (rwAt rs L.w.1).1 ∧ L.m = roomR N b (rwAt rs L.w.1)) ∨
     (L.w.2 = -1 ∧ L.s = homeN N (rwAt rs L.w.1).1 ∧ L.g = homeN N (endOf N (rwAt rs L.w.1).1 (rwAt rs L.w.1).2) ∧ L.m = 0 - roomR N b (rwAt rs L.w.1) ∧ 0 < c.getD L.w.1 0)) := by
  obtain ⟨k, hk, hL⟩ := List.mem_flatMap.mp h
  have hk := List.mem_range.mp hk
  unfold flowOne at hL
  rcases List.mem_cons.mp hL with e | e
  · subst e
    exact ⟨hk, .inl ⟨rfl, rfl, rfl, rfl⟩⟩
  · by_cases q : 0 < c.getD k 0
    · rw [if_pos q] at e
      have e := List.mem_singleton.mp e
      subst e
      exact ⟨hk, .inr ⟨rfl, rfl, rfl, rfl, q⟩⟩
    · rw [if_neg q] at e
      cases e
theorem flow_fwd {c : List Int} {k : Nat} (h : k < rs.length) : (⟨homeN N (endOf N (rwAt rs k).1 (rwAt rs k).2), homeN N (rwAt rs k).1, roomR N b (rwAt rs k), (k, 1)⟩ : Lk (Nat × Int)) ∈ flowLks N b rs c :=
  List.mem_flatMap.mpr ⟨k, List.mem_range.mpr h, List.mem_cons_self⟩
theorem flow_bwd {c : List Int} {k : Nat} (h : k < rs.length) (q : 0 < c.getD k 0) : (⟨homeN N (rwAt rs k).1, homeN N (endOf N (rwAt rs k).1 (rwAt rs k).2), 0 - roomR N b (rwAt rs k), (k, -1)⟩ : Lk (Nat × Int)) ∈ flowLks N b rs c :=
  List.mem_flatMap.mpr ⟨k, List.mem_range.mpr h, List.mem_cons_of_mem _ (by
    rw [if_pos q]
    exact List.mem_singleton.mpr rfl)⟩
/-- the lag at a row's begin above that at its end -/
def dif (N : Nt) (rs : List (Nat × List Nat)) (l : Nat → Int) (k : Nat) : Int := l (rwAt rs k).1 - l (endOf N (rwAt rs k).1 (rwAt rs k).2)
structure FlowOk (N : Nt) (rs : List (Nat × List Nat)) (c : List Int) : Prop where
  len : c.length = rs.length
  nn : ∀ k, 0 ≤ c.getD k 0
  con : ∀ l : Nat → Int, (∀ g, g < N.n → N.fx g = true → l g = 0) → Wt c (dif N rs l) = sm N.ws fun w => l w.s - l w.e
theorem flow_in {c : List Int} (O : N.Ok) (K : RowsOk N b rs) : ∀ L ∈ flowLks N b rs c, L.s ∈ placesN N ∧ L.g ∈ placesN N := fun L hL => by
  obtain ⟨hk, h⟩ := flow_mem hL
  obtain ⟨w1, w2, _⟩ := K.way _ (rwAt_mem hk)
  rcases h with ⟨_, h1, h2, _⟩ | ⟨_, h1, h2, _⟩
  · rw [h1, h2]
    exact ⟨home_mem (O.end_lt w1 w2), home_mem w1⟩
  · rw [h1, h2]
    exact ⟨home_mem w1, home_mem (O.end_lt w1 w2)⟩
/-- the cost of numbers is bounded by any lags that do -/
theorem flow_low {c : List Int} {l : Nat → Int} (C : FlowOk N rs c) (K : RowsOk N b rs) (F : Feas N b l) : (sm N.ws fun w => l w.s - l w.e) ≤ Wt c fun k => roomR N b (rwAt rs k) := by
  rw [← C.con l F.fx]
  refine Wt_le c _ _ (fun k _ => C.nn k) fun k hk => ?_
  obtain ⟨w1, w2, w3⟩ := K.way _ (rwAt_mem (by rw [← C.len]; exact hk))
  have q : l (rwAt rs k).1 ≤ l (endOf N (rwAt rs k).1 (rwAt rs k).2) + roomN N b (rwAt rs k).1 (rwAt rs k).2 := feas_row F w1 w2 w3
  unfold dif roomR
  omega
theorem flow_sum {c : List Int} {l : Nat → Int} (O : N.Ok) (K : RowsOk N b rs) (hf : ∀ g, g < N.n → N.fx g = true → l g = 0) {L : Lk (Nat × Int)} (hL : L ∈ flowLks N b rs c) :
    up l L.g - up l L.s = L.w.2 * dif N rs l L.w.1 ∧ L.m = L.w.2 * roomR N b (rwAt rs L.w.1) := by
  obtain ⟨hk, h⟩ := flow_mem hL
  obtain ⟨w1, w2, _⟩ := K.way _ (rwAt_mem hk)
  unfold dif
  rcases h with ⟨h0, h1, h2, h3⟩ | ⟨h0, h1, h2, h3, _⟩
  · rw [h0, h1, h2, h3, up_home hf w1, up_home hf (O.end_lt w1 w2)]
    omega
  · rw [h0, h1, h2, h3, up_home hf w1, up_home hf (O.end_lt w1 w2)]
    omega
/-- some link of a ring below 0 goes back -/
theorem ring_neg {c : List Int} {l : Nat → Int} (O : N.Ok) (K : RowsOk N b rs) (F : Feas N b l) {rl : List (Lk (Nat × Int))} {a : Int} (hc : Chn a rl a) (hm : ∀ L ∈ rl, L ∈ flowLks N b rs c) (hs : sm rl (fun L => L.m) < 0) : ∃ L ∈ rl, L.w.2 < 0 := by
  refine Classical.byContradiction fun hn => ?_
  have e := chn_sum (u := up l) hc
  have : sm rl (fun L => up l L.g - up l L.s) ≤ sm rl (fun L => L.m) := sm_le fun L hL => by
    obtain ⟨hk, h⟩ := flow_mem (hm L hL)
    obtain ⟨w1, w2, w3⟩ := K.way _ (rwAt_mem hk)
    obtain ⟨e1, e2⟩ := flow_sum (l := l) O K F.fx (hm L hL)
    have q : l (rwAt rs L.w.1).1 ≤ l (endOf N (rwAt rs L.w.1).1 (rwAt rs L.w.1).2) + roomN N b (rwAt rs L.w.1).1 (rwAt rs L.w.1).2 := feas_row F w1 w2 w3
    rcases h with ⟨h0, _⟩ | ⟨h0, _⟩
    · rw [e1, e2, h0]
      unfold dif roomR
      omega
    · exact absurd ⟨L, hL, by rw [h0]; decide⟩ hn
  omega
/-- how often a link that goes back comes in a ring -/
theorem once_neg {k : Nat} {z : Int} : ∀ {rl : List (Lk (Nat × Int))}, (rl.map (·.g)).Nodup → (∀ L ∈ rl, L.w.2 = 1 ∨ L.w.2 = -1) → (∀ L ∈ rl, L.w.1 = k → L.w.2 = -1 → L.g = z) →
    -1 ≤ sm rl (fun L => L.w.2 * (if L.w.1 = k then 1 else 0)) ∧ ((∀ L ∈ rl, L.g ≠ z) → 0 ≤ sm rl (fun L => L.w.2 * (if L.w.1 = k then 1 else 0)))
  | [], _, _, _ => ⟨by rw [sm_nil]; omega, fun _ => by rw [sm_nil]; omega⟩
  | L :: r, nd, hs, hz => by
    have nd' := List.nodup_cons.mp nd
    have ih := once_neg (rl := r) (k := k) (z := z) nd'.2 (fun M hM => hs M (List.mem_cons_of_mem _ hM)) fun M hM => hz M (List.mem_cons_of_mem _ hM)
    rw [sm_cons]
    have pos : ∀ (q : ¬ (L.w.1 = k ∧ L.w.2 = -1)), 0 ≤ L.w.2 * (if L.w.1 = k then 1 else 0) := fun q => by
      by_cases e : L.w.1 = k
      · rw [if_pos e]
        rcases hs L List.mem_cons_self with h | h
        · omega
        · exact absurd ⟨e, h⟩ q
      · rw [if_neg e]
        omega
    refine ⟨?_, fun hne => ?_⟩
    · by_cases q : L.w.1 = k ∧ L.w.2 = -1
      · have eg := hz L List.mem_cons_self q.1 q.2
        have := ih.2 fun M hM e => nd'.1 (List.mem_map.mpr ⟨M, hM, e.trans eg.symm⟩)
        rw [if_pos q.1, q.2]
        omega
      · have := pos q
        omega
    · have := pos fun q => hne L List.mem_cons_self (hz L List.mem_cons_self q.1 q.2)
      have := ih.2 fun M hM => hne M (List.mem_cons_of_mem _ hM)
      omega
theorem sm_ring {rl : List (Lk (Nat × Int))} {h : Nat → Int} : sm (rl.map (·.w)) (fun x => x.2 * h x.1) = sm rl (fun L => L.w.2 * h L.w.1) := sm_map
/-- a ring of links is turned: still numbers that come out, at a smaller cost -/
theorem flow_turn {c : List Int} {l0 : Nat → Int} (O : N.Ok) (K : RowsOk N b rs) (F : Feas N b l0) (C : FlowOk N rs c) {rl : List (Lk (Nat × Int))} {a many : Int} (hc : Chn a rl a) (hm : ∀ L ∈ rl, L ∈ flowLks N b rs c) (hs : sm rl (fun L => L.m) < 0) (nd : (rl.map (·.g)).Nodup)
    (h1 : ∃ L ∈ rl, L.w.2 < 0 ∧ many = c.getD L.w.1 0) (h2 : ∀ L ∈ rl, L.w.2 < 0 → many ≤ c.getD L.w.1 0) :
    FlowOk N rs ((rl.map (·.w)).foldl (aug many) c) ∧ Wt ((rl.map (·.w)).foldl (aug many) c) (fun k => roomR N b (rwAt rs k)) < Wt c (fun k => roomR N b (rwAt rs k)) := by
  have lt : ∀ x ∈ rl.map (·.w), x.1 < c.length := fun x hx => by
    obtain ⟨L, hL, rfl⟩ := List.mem_map.mp hx
    rw [C.len]
    exact (flow_mem (hm L hL)).1
  have m1 : 1 ≤ many := by
    obtain ⟨L, hL, hn, rfl⟩ := h1
    rcases (flow_mem (hm L hL)).2 with ⟨h0, _⟩ | ⟨_, _, _, _, h0⟩
    · omega
    · omega
  have sg : ∀ L ∈ rl, L.w.2 = 1 ∨ L.w.2 = -1 := fun L hL => by
    rcases (flow_mem (hm L hL)).2 with ⟨h0, _⟩ | ⟨h0, _⟩
    · exact .inl h0
    · exact .inr h0
  refine ⟨⟨?_, fun k => ?_, fun l hf => ?_⟩, ?_⟩
  · rw [aug_len, C.len]
  · rw [← Wt_ind, aug_Wt _ _ lt, Wt_ind, sm_ring (h := fun j => if j = k then 1 else 0)]
    have o := once_neg (k := k) (z := homeN N (endOf N (rwAt rs k).1 (rwAt rs k).2)) nd sg fun L hL e1 e2 => by
      rcases (flow_mem (hm L hL)).2 with ⟨h0, _⟩ | ⟨_, _, h0, _⟩
      · omega
      · rw [h0, e1]
    have cn := C.nn k
    by_cases q : ∃ L ∈ rl, L.w.1 = k ∧ L.w.2 = -1
    · obtain ⟨L, hL, e1, e2⟩ := q
      have b1 := h2 L hL (by rw [e2]; decide)
      rw [e1] at b1
      have := Int.mul_le_mul_of_nonneg_left o.1 (show 0 ≤ many by omega)
      omega
    · have p : 0 ≤ sm rl (fun L => L.w.2 * (if L.w.1 = k then 1 else 0)) := sm_nonneg fun L hL => by
        by_cases e : L.w.1 = k
        · rw [if_pos e]
          rcases sg L hL with h | h
          · omega
          · exact absurd ⟨L, hL, e, h⟩ q
        · rw [if_neg e]
          omega
      have := Int.mul_nonneg (show 0 ≤ many by omega) p
      omega
  · rw [aug_Wt _ _ lt, C.con l hf, sm_ring]
    have e := chn_sum (u := up l) hc
    have e2 : sm rl (fun L => up l L.g - up l L.s) = sm rl (fun L => L.w.2 * dif N rs l L.w.1) := sm_congr fun L hL => (flow_sum O K hf (hm L hL)).1
    have z : sm rl (fun L => L.w.2 * dif N rs l L.w.1) = 0 := by
      rw [← e2, e]
      omega
    rw [z]
    omega
  · rw [aug_Wt _ _ lt, sm_ring (h := fun k => roomR N b (rwAt rs k))]
    have e2 : sm rl (fun L => L.m) = sm rl (fun L => L.w.2 * roomR N b (rwAt rs L.w.1)) := sm_congr fun L hL => (flow_sum O K F.fx (hm L hL)).2
    rw [← e2]
    have := Int.mul_le_mul_of_nonneg_left (show sm rl (fun L => L.m) ≤ -1 by omega) (show 0 ≤ many by omega)
    omega
def regs (N : Nt) : Int := sm N.ws fun w => (w.k : Int)
def csum (N : Nt) (l : Nat → Int) : Int := sm N.ws fun w => (w.k : Int) + l w.e - l w.s
theorem csum_eq {l : Nat → Int} : csum N l = regs N - sm N.ws fun w => l w.s - l w.e := by
  unfold csum regs
  rw [← sm_sub]
  exact sm_congr fun w _ => by omega
/-- no lags have fewer registers than numbers that come out tell -/
theorem flow_bound {c : List Int} {l : Nat → Int} (C : FlowOk N rs c) (K : RowsOk N b rs) (F : Feas N b l) : regs N - Wt c (fun k => roomR N b (rwAt rs k)) ≤ csum N l := by
  have := flow_low C K F
  rw [csum_eq]
  omega
/-- nothing falls any more: these lags do, and have just so many registers -/
theorem flow_end {c : List Int} (O : N.Ok) (K : RowsOk N b rs) (C : FlowOk N rs c) (h : (settledM (placesN N).length (flowLks N b rs c)).fall = none) :
    Feas N b (lagsN N (settledM (placesN N).length (flowLks N b rs c)).f) ∧ csum N (lagsN N (settledM (placesN N).length (flowLks N b rs c)).f) = regs N - Wt c (fun k => roomR N b (rwAt rs k)) := by
  have fx := settled_fix h
  generalize (settledM (placesN N).length (flowLks N b rs c)).f = f at fx ⊢
  have F : Feas N b (lagsN N f) := rows_feas O K (fun g _ hg => lagsN_fx hg) fun r hr => by
    obtain ⟨k, hk, e⟩ := List.mem_iff_getElem.mp hr
    have q := fx _ (flow_fwd (N := N) (b := b) (c := c) hk)
    have er : rwAt rs k = r := by
      unfold rwAt
      rw [List.getD_eq_getElem?_getD, List.getElem?_eq_getElem hk, e]
      rfl
    rw [er] at q
    have q : f (homeN N r.1) ≤ f (homeN N (endOf N r.1 r.2)) + roomN N b r.1 r.2 := q
    unfold RowOk lagsN
    omega
  refine ⟨F, ?_⟩
  rw [csum_eq, ← C.con _ F.fx]
  have e : Wt c (dif N rs (lagsN N f)) = Wt c (fun k => roomR N b (rwAt rs k)) := Wt_congr _ _ _ fun k hk => by
    have hk : k < rs.length := by
      rw [← C.len]
      exact hk
    by_cases q : 0 < c.getD k 0
    · have q1 := fx _ (flow_fwd (N := N) (b := b) (c := c) hk)
      have q2 := fx _ (flow_bwd (N := N) (b := b) (c := c) hk q)
      have q1 : f (homeN N (rwAt rs k).1) ≤ f (homeN N (endOf N (rwAt rs k).1 (rwAt rs k).2)) + roomR N b (rwAt rs k) := q1
      have q2 : f (homeN N (endOf N (rwAt rs k).1 (rwAt rs k).2)) ≤ f (homeN N (rwAt rs k).1) + (0 - roomR N b (rwAt rs k)) := q2
      have e : dif N rs (lagsN N f) k = roomR N b (rwAt rs k) := by
        unfold dif lagsN
        omega
      rw [e]
    · have := C.nn k
      have z : c.getD k 0 = 0 := by omega
      rw [z, Int.zero_mul, Int.zero_mul]
  rw [e]
/-- lags are no greater than so -/
theorem lags_small {A : Type} {ls : List (Lk A)} (O : N.Ok) (hp : ∀ L ∈ ls, L.s ∈ placesN N ∧ L.g ∈ placesN N) (hm : ∀ L ∈ ls, -22 ≤ L.m) (h : (settledM (placesN N).length ls).fall = none) (g : Nat) :
    -88 ≤ lagsN N (settledM (placesN N).length ls).f g ∧ lagsN N (settledM (placesN N).length ls).f g ≤ 88 := by
  have a := settled_low (M := 22) (by decide) (Nat.le_refl _) hp hm h (homeN N g)
  have c := settled_low (M := 22) (by decide) (Nat.le_refl _) hp hm h (-1)
  have := places_len O
  unfold lagsN
  omega
theorem flow_m {c : List Int} (O : N.Ok) (K : RowsOk N b rs) : ∀ L ∈ flowLks N b rs c, -22 ≤ L.m := fun L hL => by
  obtain ⟨hk, h⟩ := flow_mem hL
  have := row_bounds O K _ (rwAt_mem hk)
  have e : roomR N b (rwAt rs L.w.1) = roomN N b (rwAt rs L.w.1).1 (rwAt rs L.w.1).2 := rfl
  rcases h with ⟨_, _, _, h⟩ | ⟨_, _, _, h, _⟩
  · omega
  · omega
theorem row_m (O : N.Ok) (K : RowsOk N b rs) : ∀ L ∈ rs.map (rowLk N b), -22 ≤ L.m := fun L hL => by
  obtain ⟨r, hr, rfl⟩ := List.mem_map.mp hL
  have := row_bounds O K r hr
  show -22 ≤ roomN N b r.1 r.2
  omega
/-! the numbers at the beginning -/
def flow0 (m n : Nat) : List Int := List.replicate m 1 ++ List.replicate (n - m) 0
theorem Wt_rep0 : ∀ (j : Nat) (h : Nat → Int), Wt (List.replicate j 0) h = 0
  | 0, _ => rfl
  | j + 1, h => by
    have ih := Wt_rep0 j fun k => h (k + 1)
    show 0 * h 0 + Wt (List.replicate j 0) (fun k => h (k + 1)) = 0
    rw [ih]
    omega
theorem Wt_rep1 : ∀ (m j : Nat) (h : Nat → Int), Wt (List.replicate m 1 ++ List.replicate j 0) h = sm (List.range m) h
  | 0, j, h => Wt_rep0 j h
  | m + 1, j, h => by
    have ih := Wt_rep1 m j fun k => h (k + 1)
    show 1 * h 0 + Wt (List.replicate m 1 ++ List.replicate j 0) (fun k => h (k + 1)) = sm (List.range (m + 1)) h
    rw [ih, List.range_succ_eq_map, sm_cons, sm_map]
    show 1 * h 0 + sm (List.range m) (fun k => h (k + 1)) = h 0 + sm (List.range m) (fun k => h (k + 1))
    omega
theorem sm_range {A : Type} (d : A) (h : A → Int) (l : List A) : sm (List.range l.length) (fun k => h (l.getD k d)) = sm l h := by
  have e : (List.range l.length).map (fun k => l.getD k d) = l := by
    refine List.ext_getElem (by simp) fun i h1 h2 => ?_
    simp [h2]
  calc sm (List.range l.length) (fun k => h (l.getD k d)) = sm ((List.range l.length).map fun k => l.getD k d) h := sm_map.symm
    _ = sm l h := by rw [e]
theorem rows_first (K : RowsOk N b rs) : N.ws.length ≤ rs.length ∧ ∀ k, k < N.ws.length → rwAt rs k = ((N.w k).s, [k]) := by
  have e := K.wires
  have l := congrArg List.length e
  rw [List.length_take, List.length_map, List.length_range] at l
  refine ⟨by omega, fun k hk => ?_⟩
  have q : (rs.take N.ws.length)[k]? = some ((N.w k).s, [k]) := by
    rw [e, List.getElem?_map, List.getElem?_range hk]
    rfl
  rw [List.getElem?_take_of_lt hk] at q
  unfold rwAt
  rw [List.getD_eq_getElem?_getD, q]
  rfl
theorem flow0_ok (K : RowsOk N b rs) : FlowOk N rs (flow0 N.ws.length rs.length) := by
  obtain ⟨h1, h2⟩ := rows_first K
  refine ⟨?_, fun k => ?_, fun l _ => ?_⟩
  · unfold flow0
    rw [List.length_append, List.length_replicate, List.length_replicate]
    omega
  · unfold flow0
    rw [List.getD_eq_getElem?_getD]
    cases q : (List.replicate N.ws.length (1 : Int) ++ List.replicate (rs.length - N.ws.length) 0)[k]? with
    | none => exact Int.le_refl 0
    | some x =>
      have := List.mem_of_getElem? q
      rcases List.mem_append.mp this with m | m
      · rw [(List.mem_replicate.mp m).2]
        decide
      · rw [(List.mem_replicate.mp m).2]
        decide
  · unfold flow0
    rw [Wt_rep1]
    have e : sm (List.range N.ws.length) (dif N rs l) = sm (List.range N.ws.length) (fun k => (fun w : Wr => l w.s - l w.e) (N.w k)) := sm_congr fun k hk => by
      have hk := List.mem_range.mp hk
      unfold dif
      rw [h2 k hk]
      rfl
    rw [e]
    exact sm_range (⟨0, 0, 0⟩ : Wr) (fun w : Wr => l w.s - l w.e) N.ws
/-! papers -/
def paperOf (rs : List (Nat × List Nat)) (c : List Int) : List ((Nat × List Nat) × Int) := (rs.zip c).filter fun x => decide (0 < x.2)
theorem paper_sum : ∀ (rs : List (Nat × List Nat)) (c : List Int) (h : Nat × List Nat → Int), c.length = rs.length → (∀ k, 0 ≤ c.getD k 0) → sm (paperOf rs c) (fun x => x.2 * h x.1) = Wt c (fun k => h (rwAt rs k))
  | [], [], _, _, _ => rfl
  | [], _ :: _, _, e, _ => by cases e
  | _ :: _, [], _, e, _ => by cases e
  | r :: rs, y :: c, h, e, nn => by
    have ih := paper_sum rs c h (by simpa using e) fun k => nn (k + 1)
    have y0 : 0 ≤ y := nn 0
    show sm (List.filter (fun x => decide (0 < x.2)) ((r, y) :: rs.zip c)) (fun x => x.2 * h x.1) = y * h r + Wt c (fun k => h (rwAt rs k))
    rw [← ih]
    by_cases q : 0 < y
    · rw [List.filter_cons_of_pos (by exact decide_eq_true q), sm_cons]
      rfl
    · have z : y = 0 := by omega
      rw [List.filter_cons_of_neg (by simp [q]), z]
      unfold paperOf
      omega
theorem paper_mem {c : List Int} {x : (Nat × List Nat) × Int} (h : x ∈ paperOf rs c) : x.1 ∈ rs ∧ 1 ≤ x.2 := by
  unfold paperOf at h
  obtain ⟨h1, h2⟩ := List.mem_filter.mp h
  have h2 := of_decide_eq_true h2
  exact ⟨(List.of_mem_zip (a := x.1) (b := x.2) h1).1, by omega⟩
def ind (g x : Nat) : Int := if x = g then 1 else 0
/-- the paper comes out at each inner gate -/
theorem paper_gate {c : List Int} (C : FlowOk N rs c) {g : Nat} (hg : N.fx g = false) : sm (paperOf rs c) (fun x => x.2 * (ind g x.1.1 - ind g (endOf N x.1.1 x.1.2))) = sm N.ws (fun w => ind g w.s - ind g w.e) := by
  rw [paper_sum rs c (fun r => ind g r.1 - ind g (endOf N r.1 r.2)) C.len C.nn, ← C.con (ind g) fun x _ hx => by
    unfold ind
    by_cases e : x = g
    · rw [e, hg] at hx
      cases hx
    · rw [if_neg e]]
  rfl
theorem paper_room {c : List Int} (C : FlowOk N rs c) : sm (paperOf rs c) (fun x => x.2 * roomR N b x.1) = Wt c (fun k => roomR N b (rwAt rs k)) := paper_sum rs c (roomR N b) C.len C.nn
end
section
variable {N : Nt} {a : Nat}
theorem nodup_of {p : List Nat} (h : Way N a p) (nr : ∀ p1 r p2, p = p1 ++ (r ++ p2) → r ≠ [] → Way N (endOf N a p1) r → endOf N (endOf N a p1) r = endOf N a p1 → False) : (gatesN N a p).Nodup := by
  unfold List.Nodup
  rw [List.pairwise_iff_getElem]
  intro i j hi hj hij heq
  have hl : (gatesN N a p).length = p.length + 1 := by
    show (p.map _).length + 1 = _
    rw [List.length_map]
  have ei := end_gates (N := N) p a i (by omega)
  have ej := end_gates (N := N) p a j (by omega)
  rw [List.getElem?_eq_getElem hi] at ei
  rw [List.getElem?_eq_getElem hj] at ej
  have ei := Option.some.inj ei
  have ej := Option.some.inj ej
  rw [heq, ej] at ei
  have s2 : p.take j = p.take i ++ (p.take j).drop i := by
    have := (List.take_append_drop i (p.take j)).symm
    rw [List.take_take, Nat.min_eq_left (Nat.le_of_lt hij)] at this
    exact this
  have s1 : p = p.take i ++ ((p.take j).drop i ++ p.drop j) := by
    rw [← List.append_assoc, ← s2]
    exact (List.take_append_drop j p).symm
  refine nr _ _ _ s1 (fun z => ?_) ?_ ?_
  · have l := congrArg List.length z
    rw [List.length_drop, List.length_take] at l
    have l2 : min j p.length - i = 0 := l
    omega
  · have h1 := h
    rw [s1] at h1
    exact (Way.append.mp (Way.append.mp h1).2).1
  · rw [← endOf_append, ← s2]
    exact ei
/-- ways without registers, by lags, are short -/
theorem zero_short {l : Nat → Int} (O : N.Ok) (ha : a < N.n) {q : List Nat} (h : Way N a q) (z : ∀ k ∈ q, cnt N l k = 0) : q.length ≤ N.n := by
  have nd := nodup_of h fun p1 r p2 e ne hw he => by
    have c := cnt_sum (l := l) hw
    rw [he] at c
    have := O.ring hw he ne
    have z2 : sm r (cnt N l) = 0 := by
      rw [sm_congr (g := fun _ => (0 : Int)) fun k hk => z k (by
        rw [e]
        exact List.mem_append_right _ (List.mem_append_left _ hk)), sm_zero]
    omega
  have := O.short ha h nd
  omega

/-! ### best ways -/
structure WI (N : Nt) (a : Nat) (wy : Nat → Option (List Nat)) : Prop where
  ent : ∀ g p, wy g = some p → g < N.n ∧ Way N a p ∧ endOf N a p = g ∧ (gatesN N a p).Nodup ∧ ∀ i, i ≤ p.length → ∃ q, wy (endOf N a (p.take i)) = some q ∧ Best N a q (p.take i)
  st : ∃ q, wy a = some q ∧ Best N a q []
structure WaysOk (N : Nt) (a : Nat) (wy : Nat → Option (List Nat)) : Prop where
  ent : ∀ g p, wy g = some p → g < N.n ∧ Way N a p ∧ endOf N a p = g ∧ p.length ≤ N.n
  all : ∀ q, Way N a q → ∃ p, wy (endOf N a q) = some p ∧ Best N a p q
/-- a wire out of g is gone along -/
def rel (N : Nt) (a : Nat) (wy : Nat → Option (List Nat)) (g : Nat) (p : List Nat) (k : Nat) : Prop := (N.w k).s = g → ∃ q, wy (N.w k).e = some q ∧ Best N a q (p ++ [k])
def putN {B : Type} (f : Nat → B) (a : Nat) (b : B) : Nat → B := fun x => if x = a then b else f x
theorem putN_same {B : Type} {f : Nat → B} {a : Nat} {b : B} : putN f a b a = b := if_pos rfl
theorem putN_ne {B : Type} {f : Nat → B} {a x : Nat} {b : B} (h : x ≠ a) : putN f a b x = f x := if_neg h
def mu (f : Nat → Nat) : Nat → Nat
  | 0 => 0
  | n + 1 => mu f n + f n
theorem mu_le {f g : Nat → Nat} : ∀ n, (∀ i, i < n → f i ≤ g i) → mu f n ≤ mu g n
  | 0, _ => Nat.le_refl _
  | n + 1, h => Nat.add_le_add (mu_le n fun i hi => h i (Nat.lt_succ_of_lt hi)) (h n (Nat.lt_succ_self n))
theorem mu_lt {f g : Nat → Nat} : ∀ n, (∀ i, i < n → f i ≤ g i) → (∃ i, i < n ∧ f i < g i) → mu f n < mu g n
  | 0, _, ⟨i, hi, _⟩ => absurd hi (Nat.not_lt_zero i)
  | n + 1, h, ⟨i, hi, hs⟩ => by
    have hn := h n (Nat.lt_succ_self n)
    have hl : ∀ i, i < n → f i ≤ g i := fun i hi => h i (Nat.lt_succ_of_lt hi)
    show mu f n + f n < mu g n + g n
    by_cases e : i = n
    · rw [e] at hs
      have := mu_le n hl
      omega
    · have := mu_lt n hl ⟨i, by omega, hs⟩
      omega
def valW (N : Nt) (a : Nat) (o : Option (List Nat)) : Nat := match o with
  | none => 30000
  | some p => (heldN N p * 1000 + 1000 - waitN N a p).toNat
def muW (N : Nt) (a : Nat) (wy : Nat → Option (List Nat)) : Nat := mu (fun g => valW N a (wy g)) N.n
theorem wait_range (O : N.Ok) {p : List Nat} (ha : a < N.n) (h : Way N a p) (hp : p.length ≤ 6) : 0 ≤ waitN N a p ∧ waitN N a p ≤ 700 := by
  have b : ∀ k ∈ p, 0 ≤ N.wt (N.w k).e ∧ N.wt (N.w k).e ≤ 100 := fun k hk => O.wt0 _ (O.ends _ (Nt.w_mem (h.lt k hk))).2
  have c1 := sm_nonneg fun k hk => (b k hk).1
  have c2 := sm_le (g := fun _ => (100 : Int)) fun k hk => (b k hk).2
  have e : ∀ l : List Nat, sm l (fun _ => (100 : Int)) = 100 * (l.length : Int) := fun l => by
    induction l with
    | nil => rfl
    | cons a l ih =>
      rw [sm_cons, ih, List.length_cons]
      omega
  rw [e] at c2
  have := O.wt0 a ha
  unfold waitN
  omega
theorem WI.short {wy : Nat → Option (List Nat)} (W : WI N a wy) (O : N.Ok) (ha : a < N.n) {g : Nat} {p : List Nat} (h : wy g = some p) : p.length + 1 ≤ N.n := by
  obtain ⟨_, h2, _, h4, _⟩ := W.ent g p h
  exact O.short ha h2 h4
theorem best_not {p q : List Nat} (h : ¬ Best N a p q) : heldN N q < heldN N p ∨ (heldN N q = heldN N p ∧ waitN N a p < waitN N a q) := by
  unfold Best at h
  omega
theorem best_snoc {p q : List Nat} {k : Nat} (h : Best N a p q) : Best N a (p ++ [k]) (q ++ [k]) := by
  unfold Best at *
  rw [held_append, held_append, wait_append, wait_append]
  omega
/-- a better way to the end of a wire out of g -/
theorem wi_put {wy : Nat → Option (List Nat)} (O : N.Ok) (ha : a < N.n) (W : WI N a wy) {g k : Nat} {p : List Nat} (hg : wy g = some p) (hk : k < N.ws.length) (hs : (N.w k).s = g) (c : ∀ q, wy (N.w k).e = some q → ¬ Best N a q (p ++ [k])) :
    WI N a (putN wy (N.w k).e (some (p ++ [k]))) ∧ (N.w k).e ≠ g ∧ (∀ x q, wy x = some q → ∃ q', putN wy (N.w k).e (some (p ++ [k])) x = some q' ∧ Best N a q' q) ∧ muW N a (putN wy (N.w k).e (some (p ++ [k]))) < muW N a wy := by
  obtain ⟨p1, p2, p3, p4, p5⟩ := W.ent g p hg
  have wc : Way N a (p ++ [k]) := Way.append.mpr ⟨p2, hk, by rw [p3]; exact hs, trivial⟩
  have ec : endOf N a (p ++ [k]) = (N.w k).e := endOf_append
  have el : (N.w k).e < N.n := (O.ends _ (Nt.w_mem hk)).2
  -- the end is not on the way yet
  have nin : (N.w k).e ∉ gatesN N a p := fun hin => by
    obtain ⟨i, hi, e⟩ := List.mem_iff_getElem.mp hin
    have hl : (gatesN N a p).length = p.length + 1 := by
      show (p.map _).length + 1 = _
      rw [List.length_map]
    have e2 := end_gates (N := N) p a i (by omega)
    rw [List.getElem?_eq_getElem hi, e] at e2
    have e2 := Option.some.inj e2
    obtain ⟨q, hq, bq⟩ := p5 i (by omega)
    rw [← e2] at hq
    refine c q hq (.inl ?_)
    have s : p ++ [k] = p.take i ++ (p.drop i ++ [k]) := by
      rw [← List.append_assoc, List.take_append_drop]
    have wr : Way N (endOf N a (p.take i)) (p.drop i ++ [k]) := by
      rw [s] at wc
      exact (Way.append.mp wc).2
    have er : endOf N (endOf N a (p.take i)) (p.drop i ++ [k]) = endOf N a (p.take i) := by
      rw [← endOf_append, ← s, ec]
      exact e2
    have r := O.ring wr er (by simp)
    rw [s, held_append]
    have := bq.held
    omega
  have neg : (N.w k).e ≠ g := fun z => nin (by
    rw [z, ← p3]
    have := endOf_last (N := N) p a
    exact List.mem_of_getLast? this)
  have nd : (gatesN N a (p ++ [k])).Nodup := by
    have e : gatesN N a (p ++ [k]) = gatesN N a p ++ [(N.w k).e] := by
      unfold gatesN
      rw [List.map_append]
      rfl
    rw [e]
    refine List.nodup_append.mpr ⟨p4, by simp, fun x hx y hy z => nin ?_⟩
    rw [List.mem_singleton.mp hy] at z
    rw [← z]
    exact hx
  have imp : ∀ x q, wy x = some q → ∃ q', putN wy (N.w k).e (some (p ++ [k])) x = some q' ∧ Best N a q' q := fun x q hx => by
    by_cases e : x = (N.w k).e
    · rw [e, putN_same]
      rw [e] at hx
      have b := best_not (c q hx)
      refine ⟨_, rfl, ?_⟩
      unfold Best
      omega
    · rw [putN_ne e]
      exact ⟨q, hx, Best.refl⟩
  have up : ∀ x r, (∃ q, wy x = some q ∧ Best N a q r) → ∃ q, putN wy (N.w k).e (some (p ++ [k])) x = some q ∧ Best N a q r := fun x r ⟨q, h1, h2⟩ => by
    obtain ⟨q', h3, h4⟩ := imp x q h1
    exact ⟨q', h3, h4.trans h2⟩
  refine ⟨⟨fun x q hx => ?_, up _ _ W.st⟩, neg, imp, ?_⟩
  · by_cases e : x = (N.w k).e
    · rw [e, putN_same] at hx
      have hx := Option.some.inj hx
      subst hx
      refine ⟨by rw [e]; exact el, wc, by rw [e]; exact ec, nd, fun i hi => ?_⟩
      by_cases hi2 : i ≤ p.length
      · rw [List.take_append_of_le_length hi2]
        exact up _ _ (p5 i hi2)
      · have hl : (p ++ [k]).length = p.length + 1 := by simp
        have : i = (p ++ [k]).length := by omega
        rw [this, List.take_length, ec, putN_same]
        exact ⟨_, rfl, Best.refl⟩
    · rw [putN_ne e] at hx
      obtain ⟨q1, q2, q3, q4, q5⟩ := W.ent x q hx
      exact ⟨q1, q2, q3, q4, fun i hi => up _ _ (q5 i hi)⟩
  · have hp := O.short ha wc nd
    have n7 := O.n7
    have wr := wait_range O ha wc (by omega)
    have hn := held_nonneg (N := N) (p := p ++ [k])
    have hh := O.held_le wc
    have dn : valW N a (some (p ++ [k])) < valW N a (wy (N.w k).e) := by
      cases q : wy (N.w k).e with
      | none =>
        show (heldN N (p ++ [k]) * 1000 + 1000 - waitN N a (p ++ [k])).toNat < 30000
        omega
      | some r =>
        have b := best_not (c r q)
        have hr := W.short O ha q
        obtain ⟨_, r2, _⟩ := W.ent _ r q
        have wr2 := wait_range O ha r2 (by omega)
        show (heldN N (p ++ [k]) * 1000 + 1000 - waitN N a (p ++ [k])).toNat < (heldN N r * 1000 + 1000 - waitN N a r).toNat
        omega
    refine mu_lt N.n (fun i _ => ?_) ⟨(N.w k).e, el, ?_⟩
    · by_cases e : i = (N.w k).e
      · show valW N a (putN wy (N.w k).e (some (p ++ [k])) i) ≤ valW N a (wy i)
        rw [e, putN_same]
        omega
      · show valW N a (putN wy (N.w k).e (some (p ++ [k])) i) ≤ valW N a (wy i)
        rw [putN_ne e]
        exact Nat.le_refl _
    · show valW N a (putN wy (N.w k).e (some (p ++ [k])) (N.w k).e) < valW N a (wy (N.w k).e)
      rw [putN_same]
      exact dn
/-- outer: what is to do -/
structure OI (N : Nt) (a : Nat) (wy : Nat → Option (List Nat)) (todo : List Nat) : Prop where
  wi : WI N a wy
  td : ∀ g ∈ todo, ∃ p, wy g = some p
  rl : ∀ g p, wy g = some p → g ∈ todo ∨ ∀ k, k < N.ws.length → rel N a wy g p k
/-- inner: the wires out of g, the first j looked at -/
structure II (N : Nt) (a g : Nat) (p : List Nat) (j : Nat) (wy : Nat → Option (List Nat)) (todo : List Nat) : Prop where
  wi : WI N a wy
  at_ : wy g = some p
  td : ∀ x ∈ todo, ∃ p, wy x = some p
  rl : ∀ x q, wy x = some q → x ∈ todo ∨ (x ≠ g ∧ ∀ k, k < N.ws.length → rel N a wy x q k) ∨ (x = g ∧ ∀ k, k < j → rel N a wy x q k)
theorem OI.start (O : N.Ok) (ha : a < N.n) : OI N a (putN (fun _ => none) a (some [])) [a] := by
  have only : ∀ g p, putN (fun _ => none) a (some []) g = some p → g = a ∧ p = ([] : List Nat) := fun g p h => by
    by_cases e : g = a
    · rw [e, putN_same] at h
      exact ⟨e, (Option.some.inj h).symm⟩
    · rw [putN_ne e] at h
      cases h
  refine ⟨⟨fun g p h => ?_, [], putN_same, Best.refl⟩, fun g h => ?_, fun g p h => ?_⟩
  · obtain ⟨rfl, rfl⟩ := only g p h
    refine ⟨ha, trivial, rfl, by simp [gatesN], fun i hi => ⟨[], ?_, ?_⟩⟩
    · rw [List.take_nil]
      exact putN_same
    · rw [List.take_nil]
      exact Best.refl
  · rw [List.mem_singleton.mp h]
    exact ⟨[], putN_same⟩
  · left
    rw [(only g p h).1]
    exact List.mem_singleton.mpr rfl
theorem OI.pop {wy : Nat → Option (List Nat)} {g : Nat} {td : List Nat} (I : OI N a wy (g :: td)) : ∃ p, II N a g p 0 wy td := by
  obtain ⟨p, hp⟩ := I.td g List.mem_cons_self
  refine ⟨p, I.wi, hp, fun x hx => I.td x (List.mem_cons_of_mem _ hx), fun x q hx => ?_⟩
  by_cases e : x = g
  · exact .inr (.inr ⟨e, fun k hk => absurd hk (Nat.not_lt_zero k)⟩)
  · rcases I.rl x q hx with h | h
    · rcases List.mem_cons.mp h with h | h
      · exact absurd h e
      · exact .inl h
    · exact .inr (.inl ⟨e, h⟩)
theorem II.done {wy : Nat → Option (List Nat)} {g : Nat} {p td : List Nat} (I : II N a g p N.ws.length wy td) : OI N a wy td := by
  refine ⟨I.wi, I.td, fun x q hx => ?_⟩
  rcases I.rl x q hx with h | ⟨_, h⟩ | ⟨_, h⟩
  · exact .inl h
  · exact .inr h
  · exact .inr h
theorem II.skip {wy : Nat → Option (List Nat)} {g j : Nat} {p td : List Nat} (I : II N a g p j wy td) (c : (N.w j).s = g → ∃ q, wy (N.w j).e = some q ∧ Best N a q (p ++ [j])) : II N a g p (j + 1) wy td := by
  refine ⟨I.wi, I.at_, I.td, fun x q hx => ?_⟩
  rcases I.rl x q hx with h | h | ⟨h1, h2⟩
  · exact .inl h
  · exact .inr (.inl h)
  · refine .inr (.inr ⟨h1, fun k hk => ?_⟩)
    by_cases e : k = j
    · rw [e]
      intro hs
      have : q = p := by
        rw [h1, I.at_] at hx
        exact (Option.some.inj hx).symm
      rw [this]
      exact c (by rw [hs, h1])
    · exact h2 k (by omega)
theorem II.take {wy : Nat → Option (List Nat)} {g j : Nat} {p td : List Nat} (O : N.Ok) (ha : a < N.n) (I : II N a g p j wy td) (hj : j < N.ws.length) (hs : (N.w j).s = g) (c : ∀ q, wy (N.w j).e = some q → ¬ Best N a q (p ++ [j])) :
    II N a g p (j + 1) (putN wy (N.w j).e (some (p ++ [j]))) (td ++ [(N.w j).e]) ∧ muW N a (putN wy (N.w j).e (some (p ++ [j]))) < muW N a wy := by
  obtain ⟨w1, w2, w3, w4⟩ := wi_put O ha I.wi I.at_ hj hs c
  have upr : ∀ x q k, rel N a wy x q k → rel N a (putN wy (N.w j).e (some (p ++ [j]))) x q k := fun x q k h e => by
    obtain ⟨r, h1, h2⟩ := h e
    obtain ⟨r', h3, h4⟩ := w3 _ r h1
    exact ⟨r', h3, h4.trans h2⟩
  refine ⟨⟨w1, ?_, fun x hx => ?_, fun x q hx => ?_⟩, w4⟩
  · rw [putN_ne (Ne.symm w2)]
    exact I.at_
  · by_cases e : x = (N.w j).e
    · rw [e, putN_same]
      exact ⟨_, rfl⟩
    · rw [putN_ne e]
      rcases List.mem_append.mp hx with h | h
      · exact I.td x h
      · exact absurd (List.mem_singleton.mp h) e
  · by_cases e : x = (N.w j).e
    · left
      rw [e]
      exact List.mem_append_right _ (List.mem_singleton.mpr rfl)
    · rw [putN_ne e] at hx
      rcases I.rl x q hx with h | ⟨h1, h2⟩ | ⟨h1, h2⟩
      · exact .inl (List.mem_append_left _ h)
      · exact .inr (.inl ⟨h1, fun k hk => upr _ _ _ (h2 k hk)⟩)
      · refine .inr (.inr ⟨h1, fun k hk => ?_⟩)
        by_cases ek : k = j
        · rw [ek]
          intro _
          have : q = p := by
            rw [h1, I.at_] at hx
            exact (Option.some.inj hx).symm
          rw [this, putN_same]
          exact ⟨_, rfl, Best.refl⟩
        · exact upr _ _ _ (h2 k (by omega))
theorem way_snoc : ∀ (m : Nat) (P : List Nat → Prop), P [] → (∀ q k, Way N a (q ++ [k]) → Way N a q → P q → P (q ++ [k])) → ∀ q : List Nat, q.length = m → Way N a q → P q
  | 0, P, h0, _, q, hm, _ => by
    rw [List.length_eq_zero_iff.mp hm]
    exact h0
  | m + 1, P, h0, hs, q, hm, hq => by
    have ne : q ≠ [] := fun z => by
      rw [z] at hm
      cases hm
    have e := List.dropLast_concat_getLast ne
    have hq2 := hq
    rw [← e] at hq2
    have hd := (Way.append.mp hq2).1
    have ih := way_snoc m P h0 hs q.dropLast (by rw [List.length_dropLast]; omega) hd
    have := hs q.dropLast (q.getLast ne) hq2 hd ih
    rw [e] at this
    exact this
theorem OI.ways {wy : Nat → Option (List Nat)} (O : N.Ok) (ha : a < N.n) (I : OI N a wy []) : WaysOk N a wy := by
  refine ⟨fun g p h => ?_, fun q hq => ?_⟩
  · obtain ⟨h1, h2, h3, _⟩ := I.wi.ent g p h
    have := I.wi.short O ha h
    exact ⟨h1, h2, h3, by omega⟩
  · refine way_snoc (N := N) (a := a) q.length (fun q => ∃ p, wy (endOf N a q) = some p ∧ Best N a p q) I.wi.st (fun q k hqk hq ⟨p, h1, h2⟩ => ?_) q rfl hq
    have hk := (Way.append.mp hqk).2
    rcases I.rl _ p h1 with h | h
    · cases h
    · obtain ⟨r, h3, h4⟩ := h k hk.1 hk.2.1
      refine ⟨r, ?_, h4.trans (best_snoc h2)⟩
      rw [endOf_append]
      exact h3
end

/-! ### the least beat -/
section
variable {N : Nt}
def HasW (N : Nt) (some_ : List Int) : Prop := ∀ a, a < N.n → ∀ q, Way N a q → ∃ p, Way N a p ∧ endOf N a p = endOf N a q ∧ Best N a p q ∧ p.length ≤ N.n ∧ waitN N a p ∈ some_
theorem feas_gap {xs : List Int} {b b' : Int} {l : Nat → Int} (W : HasW N xs) (h : ∀ x ∈ xs, x ≤ b → x ≤ b') (F : Feas N b l) : Feas N b' l := by
  refine ⟨F.fx, F.cn, fun a ha q hq hl z => ?_⟩
  obtain ⟨p, hp, ep, bp, lp, mp⟩ := W a ha q hq
  have c1 := cnt_sum (l := l) hq
  have z1 : sm q (cnt N l) = 0 := by
    rw [sm_congr (g := fun _ => (0 : Int)) z, sm_zero]
  have c2 := cnt_sum (l := l) hp
  have nn : ∀ k ∈ p, 0 ≤ cnt N l k := fun k hk => F.cn k (hp.lt k hk)
  have n2 := sm_nonneg nn
  rw [ep] at c2
  rcases bp with bp | ⟨bp, wp⟩
  · omega
  · have zp := sm_all0 nn (by omega)
    have := F.wt a ha p hp lp zp
    have := h _ mp this
    omega
theorem feas_top {xs : List Int} {b : Int} (W : HasW N xs) (h : ∀ x ∈ xs, x ≤ b) : Feas N b (fun _ => 0) := by
  refine ⟨fun _ _ _ => rfl, fun k _ => ?_, fun a ha q hq hl z => ?_⟩
  · show (0 : Int) ≤ ((N.w k).k : Int) + 0 - 0
    omega
  · obtain ⟨p, hp, ep, bp, lp, mp⟩ := W a ha q hq
    have c1 := cnt_sum (l := fun _ => (0 : Int)) hq
    have z1 : sm q (cnt N fun _ => 0) = 0 := by
      rw [sm_congr (g := fun _ => (0 : Int)) z, sm_zero]
    have := held_nonneg (N := N) (p := p)
    have := h _ mp
    rcases bp with bp | ⟨bp, wp⟩
    · omega
    · omega
structure LeastOk (N : Nt) (b : Int) : Prop where
  nn : 0 ≤ b
  does : ∃ l, Feas N b l
  none : ∀ b', 0 ≤ b' → b' < b → ∀ l, ¬ Feas N b' l
/-- the search's end -/
theorem least_of {xs : List Int} {i : Nat} (W : HasW N xs) (hi : i < xs.length) (h0 : xs[0]? = some 0) (sorted : ∀ j k (hk : k < xs.length) (hj : j < k), xs[j] < xs[k]) (hf : ∃ l, Feas N xs[i] l) (hn : ∀ j (hj : j < i) l, ¬ Feas N xs[j] l) : LeastOk N xs[i] := by
  have le : ∀ j k (hk : k < xs.length) (hj : j ≤ k), xs[j] ≤ xs[k] := fun j k hk hj => by
    by_cases e : j = k
    · subst e
      exact Int.le_refl _
    · exact Int.le_of_lt (sorted j k hk (by omega))
  have z : xs[0]'(by omega) = 0 := by
    rw [List.getElem?_eq_getElem (by omega)] at h0
    exact Option.some.inj h0
  refine ⟨?_, hf, fun b' b0 hb l F => ?_⟩
  · have := le 0 i hi (Nat.zero_le _)
    omega
  · -- the greatest of them not above b'
    have : ∀ m, m ≤ i → ∃ j, ∃ hj : j ≤ i, xs[j] ≤ b' ∧ ∀ k (hk : k < xs.length), xs[k] ≤ b' → k ≤ j ∨ m < k := by
      intro m
      induction m with
      | zero =>
        intro _
        exact ⟨0, Nat.zero_le _, by omega, fun k hk _ => by omega⟩
      | succ m ih =>
        intro hm
        obtain ⟨j, hj, h1, h2⟩ := ih (by omega)
        by_cases c : xs[m + 1]'(by omega) ≤ b'
        · exact ⟨m + 1, hm, c, fun k hk _ => by omega⟩
        · refine ⟨j, hj, h1, fun k hk h => ?_⟩
          rcases h2 k hk h with h' | h'
          · exact .inl h'
          · by_cases e : k = m + 1
            · subst e
              exact absurd h c
            · exact .inr (by omega)
    obtain ⟨j, hj, h1, h2⟩ := this i (Nat.le_refl i)
    have ji : j < i := by
      refine Classical.byContradiction fun c => ?_
      have : j = i := by omega
      subst this
      omega
    refine hn j ji l (feas_gap W (fun x hx hxb => ?_) F)
    obtain ⟨k, hk, rfl⟩ := List.mem_iff_getElem.mp hx
    rcases h2 k hk hxb with h | h
    · exact le k j (by omega) h
    · have := le i k hk (by omega)
      omega
end

/-! ### the need of lags -/
section
variable {N : Nt}
/-- one wire of which some tells that it has none -/
def needOne (N : Nt) (l : Nat → Int) (best : List Int) (k : Nat) : List Int :=
  if cnt N l k = 0 then best.set (N.w k).s (if N.wt (N.w k).s + best.getD (N.w k).e 0 > best.getD (N.w k).s 0 then N.wt (N.w k).s + best.getD (N.w k).e 0 else best.getD (N.w k).s 0) else best
def needTurn (N : Nt) (l : Nat → Int) (best : List Int) : List Int := (List.range N.ws.length).foldl (needOne N l) best
def needAll (N : Nt) (l : Nat → Int) : Nat → List Int → List Int
  | 0, best => best
  | m + 1, best => needAll N l m (needTurn N l best)
theorem getD_set {best : List Int} {i j : Nat} {x : Int} : (best.set i x).getD j 0 = if i = j ∧ i < best.length then x else best.getD j 0 := by
  rw [List.getD_eq_getElem?_getD, List.getElem?_set, List.getD_eq_getElem?_getD]
  by_cases e : i = j
  · subst e
    by_cases h : i < best.length
    · simp [h]
    · simp [h]
  · simp [e]
theorem needOne_len {l : Nat → Int} {best : List Int} {k : Nat} : (needOne N l best k).length = best.length := by
  unfold needOne
  split
  · rw [List.length_set]
  · rfl
theorem needTurn_len {l : Nat → Int} {best : List Int} : (needTurn N l best).length = best.length := by
  unfold needTurn
  generalize List.range N.ws.length = ks
  induction ks generalizing best with
  | nil => rfl
  | cons k ks ih =>
    show (ks.foldl (needOne N l) (needOne N l best k)).length = _
    rw [ih, needOne_len]
theorem needAll_len {l : Nat → Int} : ∀ (m : Nat) (best : List Int), (needAll N l m best).length = best.length
  | 0, _ => rfl
  | m + 1, best => by
    show (needAll N l m (needTurn N l best)).length = _
    rw [needAll_len m, needTurn_len]
/-- each number is some way's wait -/
def NeedS (N : Nt) (l : Nat → Int) (best : List Int) : Prop := best.length = N.n ∧ ∀ g, g < N.n → ∃ q, Way N g q ∧ (∀ k ∈ q, cnt N l k = 0) ∧ best.getD g 0 = waitN N g q
theorem needOne_S {l : Nat → Int} (O : N.Ok) {best : List Int} {k : Nat} (hk : k < N.ws.length) (S : NeedS N l best) : NeedS N l (needOne N l best k) := by
  refine ⟨by rw [needOne_len]; exact S.1, fun g hg => ?_⟩
  obtain ⟨se, ee⟩ := O.ends _ (Nt.w_mem hk)
  unfold needOne
  by_cases c : cnt N l k = 0
  · rw [if_pos c, getD_set]
    by_cases e : (N.w k).s = g ∧ (N.w k).s < best.length
    · rw [if_pos e]
      by_cases m : N.wt (N.w k).s + best.getD (N.w k).e 0 > best.getD (N.w k).s 0
      · rw [if_pos m]
        obtain ⟨q, q1, q2, q3⟩ := S.2 _ ee
        refine ⟨k :: q, ⟨hk, e.1, q1⟩, fun j hj => ?_, ?_⟩
        · rcases List.mem_cons.mp hj with h | h
          · rw [h]
            exact c
          · exact q2 j h
        · rw [q3, e.1]
          unfold waitN
          rw [sm_cons]
      · rw [if_neg m, e.1]
        exact S.2 g hg
    · rw [if_neg e]
      exact S.2 g hg
  · rw [if_neg c]
    exact S.2 g hg
theorem needTurn_S {l : Nat → Int} (O : N.Ok) {best : List Int} (S : NeedS N l best) : NeedS N l (needTurn N l best) := by
  have : ∀ ks : List Nat, (∀ k ∈ ks, k < N.ws.length) → ∀ best, NeedS N l best → NeedS N l (ks.foldl (needOne N l) best) := by
    intro ks
    induction ks with
    | nil => exact fun _ _ S => S
    | cons k ks ih => exact fun h best S => ih (fun j hj => h j (List.mem_cons_of_mem _ hj)) _ (needOne_S O (h k List.mem_cons_self) S)
  exact this _ (fun k hk => List.mem_range.mp hk) best S
theorem needAll_S {l : Nat → Int} (O : N.Ok) : ∀ (m : Nat) (best : List Int), NeedS N l best → NeedS N l (needAll N l m best)
  | 0, _, S => S
  | m + 1, best, S => needAll_S O m _ (needTurn_S O S)
/-- each way of at most t wires is reached -/
def NeedC (N : Nt) (l : Nat → Int) (t : Nat) (best : List Int) : Prop := best.length = N.n ∧ ∀ g, g < N.n → ∀ q, Way N g q → q.length ≤ t → (∀ k ∈ q, cnt N l k = 0) → waitN N g q ≤ best.getD g 0
theorem needOne_up {l : Nat → Int} {best : List Int} {k g : Nat} : best.getD g 0 ≤ (needOne N l best k).getD g 0 := by
  unfold needOne
  by_cases c : cnt N l k = 0
  · rw [if_pos c, getD_set]
    by_cases e : (N.w k).s = g ∧ (N.w k).s < best.length
    · rw [if_pos e, e.1]
      split <;> omega
    · rw [if_neg e]
      exact Int.le_refl _
  · rw [if_neg c]
    exact Int.le_refl _
theorem needTurn_C {l : Nat → Int} (O : N.Ok) {best : List Int} {t : Nat} (C : NeedC N l t best) : NeedC N l (t + 1) (needTurn N l best) := by
  have : ∀ j, j ≤ N.ws.length → NeedC N l t ((List.range j).foldl (needOne N l) best) ∧ ∀ k, k < j → cnt N l k = 0 → ∀ q, Way N (N.w k).e q → q.length ≤ t → (∀ i ∈ q, cnt N l i = 0) → waitN N (N.w k).s (k :: q) ≤ ((List.range j).foldl (needOne N l) best).getD (N.w k).s 0 := by
    intro j
    induction j with
    | zero => exact fun _ => ⟨C, fun k hk => absurd hk (Nat.not_lt_zero k)⟩
    | succ j ih =>
      intro hj
      obtain ⟨C1, D1⟩ := ih (by omega)
      rw [List.range_succ, List.foldl_append]
      show NeedC N l t (needOne N l ((List.range j).foldl (needOne N l) best) j) ∧ ∀ k, k < j + 1 → cnt N l k = 0 → ∀ q, Way N (N.w k).e q → q.length ≤ t → (∀ i ∈ q, cnt N l i = 0) → waitN N (N.w k).s (k :: q) ≤ (needOne N l ((List.range j).foldl (needOne N l) best) j).getD (N.w k).s 0
      generalize (List.range j).foldl (needOne N l) best = b1 at C1 D1 ⊢
      refine ⟨⟨by rw [needOne_len]; exact C1.1, fun g hg q h1 h2 h3 => Int.le_trans (C1.2 g hg q h1 h2 h3) needOne_up⟩, fun k hk c q h1 h2 h3 => ?_⟩
      by_cases e : k = j
      · subst e
        obtain ⟨se, ee⟩ := O.ends _ (Nt.w_mem (show k < N.ws.length by omega))
        have w := C1.2 _ ee q h1 h2 h3
        have w2 : waitN N (N.w k).s (k :: q) = N.wt (N.w k).s + waitN N (N.w k).e q := by
          unfold waitN
          rw [sm_cons]
        rw [w2]
        unfold needOne
        rw [if_pos c, getD_set, if_pos ⟨rfl, by rw [C1.1]; exact se⟩]
        split <;> omega
      · exact Int.le_trans (D1 k (by omega) c q h1 h2 h3) needOne_up
  obtain ⟨C1, D1⟩ := this N.ws.length (Nat.le_refl _)
  refine ⟨C1.1, fun g hg q h1 h2 h3 => ?_⟩
  cases q with
  | nil => exact C1.2 g hg [] trivial (Nat.zero_le _) fun k hk => (by cases hk)
  | cons k q =>
    have := D1 k h1.1 (h3 k List.mem_cons_self) q h1.2.2 (Nat.le_of_succ_le_succ h2) fun i hi => h3 i (List.mem_cons_of_mem _ hi)
    rw [h1.2.1] at this
    exact this
theorem needAll_C {l : Nat → Int} (O : N.Ok) : ∀ (m t : Nat) (best : List Int), NeedC N l t best → NeedC N l (t + m) (needAll N l m best)
  | 0, _, _, C => C
  | m + 1, t, best, C => by
    have := needAll_C O m (t + 1) _ (needTurn_C O C)
    rw [Nat.add_right_comm, Nat.add_assoc] at this
    exact this
def need0 (N : Nt) : List Int := (List.range N.n).map N.wt
theorem need0_get {g : Nat} (h : g < N.n) : (need0 N).getD g 0 = N.wt g := by
  unfold need0
  rw [List.getD_eq_getElem?_getD, List.getElem?_map, List.getElem?_range h]
  rfl
theorem need0_len : (need0 N).length = N.n := by
  unfold need0
  rw [List.length_map, List.length_range]
/-- lags that do need no more than the beat -/
theorem need_sound {b : Int} {l : Nat → Int} (O : N.Ok) (F : Feas N b l) : ∀ x ∈ needAll N l N.n (need0 N), x ≤ b := fun x hx => by
  have S := needAll_S (l := l) O N.n (need0 N) ⟨need0_len, fun g hg => ⟨[], trivial, fun k hk => (by cases hk), by
    rw [need0_get hg]
    show N.wt g = N.wt g + 0
    omega⟩⟩
  obtain ⟨i, hi, e⟩ := List.mem_iff_getElem.mp hx
  have hi2 : i < N.n := by
    rw [← S.1]
    exact hi
  obtain ⟨q, q1, q2, q3⟩ := S.2 i hi2
  rw [List.getD_eq_getElem?_getD, List.getElem?_eq_getElem hi] at q3
  have q3 : (needAll N l N.n (need0 N))[i] = waitN N i q := q3
  rw [← e, q3]
  exact F.wt i hi2 q q1 (zero_short O hi2 q1 q2) q2
/-- lags whose need is no more than the beat do -/
theorem need_complete {b : Int} {l : Nat → Int} (O : N.Ok) (hf : ∀ g, g < N.n → N.fx g = true → l g = 0) (hc : ∀ k, k < N.ws.length → 0 ≤ cnt N l k) (h : ∀ x ∈ needAll N l N.n (need0 N), x ≤ b) : Feas N b l := by
  refine ⟨hf, hc, fun a ha q hq hl z => ?_⟩
  have C := needAll_C (l := l) O N.n 0 (need0 N) ⟨need0_len, fun g hg q h1 h2 _ => by
    have : q = [] := List.length_eq_zero_iff.mp (by omega)
    rw [this, need0_get hg]
    show N.wt g + 0 ≤ N.wt g
    omega⟩
  have := C.2 a ha q hq (by omega) z
  have la : a < (needAll N l N.n (need0 N)).length := by
    rw [C.1]
    exact ha
  rw [List.getD_eq_getElem?_getD, List.getElem?_eq_getElem la] at this
  exact Int.le_trans this (h _ (List.getElem_mem la))
end
open PySem PySem.Spec PyProof.Rows L2
abbrev St := L2.St
/-! ### views: the part D of the heap H that does not change any more -/
structure Ext (D H D' H' : Hp) : Prop where
  d : Same D D'
  h : Same H H'
  s : Same D' H'
  f : ∀ a, H a ≠ none → D' a = D a
theorem same_upd {H : Hp} {p : Addr} {o : HO} (h : H p = none) : Same H (upd H p o) := fun b x e => by
  rw [upd_ne (ne_of_none e h)]
  exact e
theorem same_mut {D H : Hp} {p : Addr} {o : HO} (e : Same D H) (h : D p = none) : Same D (upd H p o) := fun b x q => by
  rw [upd_ne (ne_of_none q h)]
  exact e b x q
theorem Ext.refl {D H : Hp} (e : Same D H) : Ext D H D H := ⟨Same.refl D, Same.refl H, e, fun _ _ => rfl⟩
theorem Ext.trans {D H D1 H1 D2 H2 : Hp} (a : Ext D H D1 H1) (b : Ext D1 H1 D2 H2) : Ext D H D2 H2 :=
  ⟨a.d.trans b.d, a.h.trans b.h, b.s, fun x hx => by
    have q : H1 x ≠ none := fun z => hx (a.h.free z)
    rw [b.f x q, a.f x hx]⟩
/-- a new thing that will not change -/
theorem Ext.new {D H : Hp} {p : Addr} {o : HO} (e : Same D H) (h : H p = none) : Ext D H (upd D p o) (upd H p o) := by
  have hd : D p = none := e.free h
  refine ⟨same_upd hd, same_upd h, fun b x q => ?_, fun a ha => ?_⟩
  · by_cases c : b = p
    · subst c
      rw [upd_same] at q ⊢
      exact q
    · rw [upd_ne c] at q ⊢
      exact e b x q
  · exact upd_ne fun c => ha (by rw [c]; exact h)
/-- a new thing that will change, or that nobody asks for -/
theorem Ext.hide {D H : Hp} {p : Addr} {o : HO} (e : Same D H) (h : H p = none) : Ext D H D (upd H p o) :=
  ⟨Same.refl D, same_upd h, e.trans (same_upd h), fun _ _ => rfl⟩
theorem Ext.grow {D H H' : Hp} (e : Same D H) (h : Same H H') : Ext D H D H' := ⟨Same.refl D, h, e.trans h, fun _ _ => rfl⟩
/-- such a thing changes -/
theorem Ext.mut {D H D1 H1 : Hp} {p : Addr} {o : HO} (x : Ext D H D1 H1) (h : H p = none) (d : D1 p = none) : Ext D H D1 (upd H1 p o) :=
  ⟨x.d, fun b u q => by
    rw [upd_ne (ne_of_none q h)]
    exact x.h b u q, same_mut x.s d, x.f⟩
/-- .. and will not change any more -/
theorem Ext.fix {D H D1 H1 : Hp} {p : Addr} {o : HO} (x : Ext D H D1 H1) (h : H p = none) (d : D1 p = none) (e : H1 p = some o) : Ext D H (upd D1 p o) H1 :=
  ⟨fun b u q => by
    rw [upd_ne (ne_of_none (x.d b u q) d)]
    exact x.d b u q, x.h, fun b u q => by
    by_cases c : b = p
    · subst c
      rw [upd_same] at q
      rw [← q]
      exact e
    · rw [upd_ne c] at q
      exact x.s b u q, fun a ha => by
    rw [upd_ne (fun c => ha (by rw [c]; exact h))]
    exact x.f a ha⟩
theorem Ext.out {D H D' H' : Hp} (x : Ext D H D' H') {m : Addr} {o : HO} (h : H m = some o) (d : D m = none) : D' m = none := by
  rw [x.f m (by rw [h]; exact fun z => nomatch z)]
  exact d
/-! ### data -/
theorem same_t {K : PySem.W.Frag} {H H' : Hp} {a : Addr} {xs : List V} (e : Same H H') (h : SqT K H a xs) : SqT K H' a xs := by
  rcases h with (h | ⟨o, h⟩) | h
  · exact .inl (.inl (e _ _ h))
  · exact .inl (.inr ⟨o, e _ _ h⟩)
  · exact .inr h
mutual
/-- the value v is the data d, all of it tracked in H -/
inductive Dq (H : Hp) : V → PyData → Prop
  | non : Dq H .non .none
  | bl (b : Bool) : Dq H (.bl b) (.bool b)
  | int (i : Int) : Dq H (.int i) (.int i)
  | str (x : Str) : Dq H (.str x) (.str x)
  | lst {a : Addr} {xs : List V} {ds : List PyData} : H a = some (.lst xs) → DqA H xs ds → Dq H (.ref a) (.list ds)
  | tup {a : Addr} {xs : List V} {ds : List PyData} : H a = some (.tup xs) → DqA H xs ds → Dq H (.ref a) (.tuple ds)
inductive DqA (H : Hp) : List V → List PyData → Prop
  | nil : DqA H [] []
  | cons {v : V} {vs : List V} {d : PyData} {ds : List PyData} : Dq H v d → DqA H vs ds → DqA H (v :: vs) (d :: ds)
end
mutual
theorem dq_mono {H H' : Hp} (e : Same H H') : ∀ (d : PyData) (v : V), Dq H v d → Dq H' v d
  | _, _, .non => .non
  | _, _, .bl b => .bl b
  | _, _, .int i => .int i
  | _, _, .str x => .str x
  | _, _, .lst h a => .lst (e _ _ h) (dqa_mono e _ _ a)
  | _, _, .tup h a => .tup (e _ _ h) (dqa_mono e _ _ a)
theorem dqa_mono {H H' : Hp} (e : Same H H') : ∀ (ds : List PyData) (vs : List V), DqA H vs ds → DqA H' vs ds
  | _, _, .nil => .nil
  | _, _, .cons h t => .cons (dq_mono e _ _ h) (dqa_mono e _ _ t)
end
mutual
theorem dq_dp {K : PySem.W.Frag} {H : Hp} : ∀ (d : PyData) (v : V), Dq H v d → Dp K H v d
  | _, _, .non => .non
  | _, _, .bl b => .bl b
  | _, _, .int i => .int i
  | _, _, .str x => .str x
  | _, _, .lst h a => .lst (SqL.of h) (dqa_dpa _ _ a)
  | _, _, .tup h a => .tup (SqT.of h) (dqa_dpa _ _ a)
theorem dqa_dpa {K : PySem.W.Frag} {H : Hp} : ∀ (ds : List PyData) (vs : List V), DqA H vs ds → DpAll K H vs ds
  | _, _, .nil => .nil
  | _, _, .cons h t => .cons (dq_dp _ _ h) (dqa_dpa _ _ t)
end
section
variable {H H' D : Hp}
theorem Dq.dp {K : PySem.W.Frag} {v : V} {d : PyData} (h : Dq H v d) : Dp K H v d := dq_dp d v h
theorem Dq.up {v : V} {d : PyData} (h : Dq H v d) (e : Same H H') : Dq H' v d := dq_mono e d v h
theorem dq_int {v : V} {i : Int} (h : Dq H v (.int i)) : v = .int i := by
  cases h
  rfl
theorem dq_str {v : V} {x : Str} (h : Dq H v (.str x)) : v = .str x := by
  cases h
  rfl
theorem dq_lst {v : V} {ds : List PyData} (h : Dq H v (.list ds)) : ∃ a vs, v = .ref a ∧ H a = some (.lst vs) ∧ DqA H vs ds := by
  cases h with
  | lst h a => exact ⟨_, _, rfl, h, a⟩
theorem dq_tup {v : V} {ds : List PyData} (h : Dq H v (.tuple ds)) : ∃ a vs, v = .ref a ∧ H a = some (.tup vs) ∧ DqA H vs ds := by
  cases h with
  | tup h a => exact ⟨_, _, rfl, h, a⟩
theorem dqa_len {vs : List V} {ds : List PyData} (h : DqA H vs ds) : vs.length = ds.length := by
  induction ds generalizing vs with
  | nil =>
    cases h
    rfl
  | cons d ds ih =>
    cases h with
    | cons _ t =>
      rw [List.length_cons, List.length_cons, ih t]
theorem dqa_get {vs : List V} {ds : List PyData} (h : DqA H vs ds) : ∀ {i : Nat} {v : V}, vs[i]? = some v → ∃ d, ds[i]? = some d ∧ Dq H v d := by
  induction ds generalizing vs with
  | nil =>
    intro i v e
    cases h
    cases e
  | cons d ds ih =>
    intro i v e
    cases h with
    | cons a t =>
      cases i with
      | zero =>
        have e := Option.some.inj e
        subst e
        exact ⟨d, rfl, a⟩
      | succ i => exact ih t e
theorem dqa_at {vs : List V} {ds : List PyData} (h : DqA H vs ds) : ∀ {i : Nat} {d : PyData}, ds[i]? = some d → ∃ v, vs[i]? = some v ∧ Dq H v d := by
  induction ds generalizing vs with
  | nil =>
    intro i d e
    cases e
  | cons d ds ih =>
    intro i d' e
    cases h with
    | cons a t =>
      cases i with
      | zero =>
        have e := Option.some.inj e
        subst e
        exact ⟨_, rfl, a⟩
      | succ i => exact ih t e
theorem dqa_ints {vs : List V} {is : List Int} (h : DqA H vs (is.map PyData.int)) : vs = is.map V.int := by
  induction is generalizing vs with
  | nil =>
    cases h
    rfl
  | cons i is ih =>
    cases h with
    | cons a t =>
      rw [dq_int a, ih t]
      rfl
theorem dqa_of_ints {is : List Int} : DqA H (is.map V.int) (is.map PyData.int) := by
  induction is with
  | nil => exact .nil
  | cons i is ih => exact .cons (.int i) ih
theorem dq_ints {v : V} {is : List Int} (h : Dq H v (.list (is.map PyData.int))) : ∃ a, v = .ref a ∧ H a = some (.lst (is.map V.int)) := by
  obtain ⟨a, vs, rfl, hs, ha⟩ := dq_lst h
  rw [dqa_ints ha] at hs
  exact ⟨a, rfl, hs⟩
theorem dq_tints {v : V} {is : List Int} (h : Dq H v (.tuple (is.map PyData.int))) : ∃ a, v = .ref a ∧ H a = some (.tup (is.map V.int)) := by
  obtain ⟨a, vs, rfl, hs, ha⟩ := dq_tup h
  rw [dqa_ints ha] at hs
  exact ⟨a, rfl, hs⟩
theorem dqa_snoc {vs : List V} {ds : List PyData} {v : V} {d : PyData} (h : DqA H vs ds) (q : Dq H v d) : DqA H (vs ++ [v]) (ds ++ [d]) := by
  induction ds generalizing vs with
  | nil =>
    cases h
    exact .cons q .nil
  | cons d ds ih =>
    cases h with
    | cons a t => exact .cons a (ih t)
theorem dqa_app {vs ws : List V} {ds es : List PyData} (h : DqA H vs ds) (q : DqA H ws es) : DqA H (vs ++ ws) (ds ++ es) := by
  induction ds generalizing vs with
  | nil =>
    cases h
    exact q
  | cons d ds ih =>
    cases h with
    | cons a t => exact .cons a (ih t)
/-- lists of things, each read in its own way -/
def Al {A : Type} (R : V → Hp → A → Prop) (H : Hp) : List V → List A → Prop
  | [], [] => True
  | v :: vs, a :: as => R v H a ∧ Al R H vs as
  | _, _ => False
section
variable {A : Type} {R : V → Hp → A → Prop}
theorem al_len : ∀ {vs : List V} {as : List A}, Al R H vs as → vs.length = as.length
  | [], [], _ => rfl
  | [], _ :: _, h => h.elim
  | _ :: _, [], h => h.elim
  | v :: vs, a :: as, h => by rw [List.length_cons, List.length_cons, al_len h.2]
theorem al_get : ∀ {vs : List V} {as : List A} {i : Nat} {v : V}, Al R H vs as → vs[i]? = some v → ∃ a, as[i]? = some a ∧ R v H a
  | [], _, _, _, _, e => by cases e
  | _ :: _, [], _, _, h, _ => h.elim
  | w :: vs, a :: as, 0, v, h, e => by
    have e := Option.some.inj e
    subst e
    exact ⟨a, rfl, h.1⟩
  | w :: vs, a :: as, i + 1, v, h, e => al_get (vs := vs) (as := as) (i := i) h.2 e
theorem al_at : ∀ {vs : List V} {as : List A} {i : Nat} {a : A}, Al R H vs as → as[i]? = some a → ∃ v, vs[i]? = some v ∧ R v H a
  | _, [], _, _, _, e => by cases e
  | [], _ :: _, _, _, h, _ => h.elim
  | w :: vs, a :: as, 0, b, h, e => by
    have e := Option.some.inj e
    subst e
    exact ⟨w, rfl, h.1⟩
  | w :: vs, a :: as, i + 1, b, h, e => al_at (vs := vs) (as := as) (i := i) h.2 e
theorem al_mono (m : ∀ v a, R v H a → R v H' a) : ∀ {vs : List V} {as : List A}, Al R H vs as → Al R H' vs as
  | [], [], _ => trivial
  | [], _ :: _, h => h.elim
  | _ :: _, [], h => h.elim
  | v :: vs, a :: as, h => ⟨m v a h.1, al_mono m h.2⟩
theorem al_snoc : ∀ {vs : List V} {as : List A} {v : V} {a : A}, Al R H vs as → R v H a → Al R H (vs ++ [v]) (as ++ [a])
  | [], [], _, _, _, q => ⟨q, trivial⟩
  | [], _ :: _, _, _, h, _ => h.elim
  | _ :: _, [], _, _, h, _ => h.elim
  | w :: vs, b :: as, v, a, h, q => ⟨h.1, al_snoc (vs := vs) (as := as) h.2 q⟩
theorem al_dp {ds : A → PyData} : ∀ {vs : List V} {as : List A}, Al (fun v H a => Dq H v (ds a)) H vs as → DqA H vs (as.map ds)
  | [], [], _ => .nil
  | [], _ :: _, h => h.elim
  | _ :: _, [], h => h.elim
  | v :: vs, a :: as, h => .cons h.1 (al_dp h.2)
theorem dq_al {ds : A → PyData} : ∀ {as : List A} {vs : List V}, DqA H vs (as.map ds) → Al (fun v H a => Dq H v (ds a)) H vs as
  | [], vs, h => by
    cases h
    trivial
  | a :: as, vs, h => by
    cases h with
    | cons q t => exact ⟨q, dq_al t⟩
end
end
/-! ### what is walked, in short -/
structure Src (J : It) (D : Hp) (n : Nat) (R : Nat → V → Hp → Hp → Prop) : Prop where
  go : ∀ i H, Same D H → i < n → J.go i H
  stop : ∀ H, Same D H → J.stop n H
  yl : ∀ i H x H', Same D H → i < n → J.yld i H x H' → R i x H H'
section
variable {K : PySem.W.Frag} {D : Hp}
theorem src_list {a : Addr} {xs : List V} (h : SqL K D a xs) : Src (Itl K a) D xs.length (fun i x H H' => H' = H ∧ xs[i]? = some x) :=
  ⟨fun i H e hi => ⟨xs, xs[i], e.seq h, List.getElem?_eq_getElem hi⟩, fun H e => ⟨xs, e.seq h, Nat.le_refl _⟩, fun i H x H' e hi q => ⟨q.1, q.2 xs (e.seq h)⟩⟩
theorem src_tup {a : Addr} {xs : List V} (h : SqT K D a xs) : Src (Itt K a) D xs.length (fun i x H H' => H' = H ∧ xs[i]? = some x) :=
  ⟨fun i H e hi => ⟨xs, xs[i], same_t e h, List.getElem?_eq_getElem hi⟩, fun H e => ⟨xs, same_t e h, Nat.le_refl _⟩, fun i H x H' e hi q => ⟨q.1, q.2 xs (same_t e h)⟩⟩
theorem src_enum {a : Addr} {xs : List V} (h : SqL K D a xs) : Src (Ite K a) D xs.length (fun i x H H' => ∃ T y, x = .ref T ∧ H T = none ∧ H' = upd H T (.tup [.int (i : Nat), y]) ∧ xs[i]? = some y) :=
  ⟨fun i H e hi => ⟨xs, xs[i], e.seq h, List.getElem?_eq_getElem hi⟩, fun H e => ⟨xs, e.seq h, Nat.le_refl _⟩, fun i H x H' e hi ⟨T, y, q1, q2, q3, q4⟩ => ⟨T, y, q1, q2, q3, q4 xs (e.seq h)⟩⟩
theorem src_zip {a b : Addr} {xs ys : List V} (h : SqL K D a xs) (h' : SqL K D b ys) (l : xs.length = ys.length) : Src (Itz K a b) D xs.length (fun i x H H' => ∃ T y z, x = .ref T ∧ H T = none ∧ H' = upd H T (.tup [y, z]) ∧ xs[i]? = some y ∧ ys[i]? = some z) :=
  ⟨fun i H e hi => ⟨xs, ys, xs[i], ys[i], e.seq h, e.seq h', List.getElem?_eq_getElem hi, List.getElem?_eq_getElem (l ▸ hi)⟩, fun H e => ⟨xs, ys, e.seq h, e.seq h', .inl (Nat.le_refl _)⟩, fun i H x H' e hi ⟨T, y, z, q1, q2, q3, q4, q5⟩ => ⟨T, y, z, q1, q2, q3, q4 xs (e.seq h), q5 ys (e.seq h')⟩⟩
theorem src_range {lo : Int} {n : Nat} : Src (Itr lo n) D n (fun i x H H' => H' = H ∧ x = .int (lo + (i : Nat))) :=
  ⟨fun _ _ _ hi => hi, fun _ _ => Nat.le_refl _, fun _ _ _ _ _ _ q => q⟩
theorem src_vals {d : Addr} {o : Obj} {kvs : List (Key × V)} (h : D d = some (.frz o (.dK kvs))) : Src (Itd d o kvs) D kvs.length (fun i x H H' => H' = H ∧ ∃ k, kvs[i]? = some (k, x)) :=
  ⟨fun i H e hi => ⟨e _ _ h, hi⟩, fun H e => ⟨e _ _ h, Nat.le_refl _⟩, fun i H x H' e hi q => q⟩
/-- for, by what holds ahead of turn i -/
theorem forS {J : It} {n : Nat} {R : Nat → V → Hp → Hp → Prop} (S : Src J D n R) {g : TG} {tb : TS} {E : Ends} {σ : St} {H : Hp} (Pv : Nat → St → Hp → Prop) (h0 : Pv 0 σ H) (hD : ∀ i σ H, Pv i σ H → Same D H)
    (hs : ∀ i x σ H H', i < n → Pv i σ H → R i x H H' → g x σ H' fun σ2 H2 => tb { E with nx := Pv (i + 1), ct := Pv (i + 1), bk := E.nx } σ2 H2) (hd : ∀ σ H, Pv n σ H → E.nx σ H) :
    ∃ W : Nat → Nat → St → Hp → Prop, (∃ m, W 0 m σ H) ∧ ∀ i m σ H, W i m σ H →
      (J.stop i H ∧ E.nx σ H) ∨ (J.go i H ∧ ∃ N : St → Hp → Prop, (∀ σ' H', N σ' H' → ∃ m', m' < m ∧ W (i + 1) m' σ' H') ∧ ∀ x H', J.yld i H x H' → g x σ H' fun σ2 H2 => tb { E with nx := N, ct := N, bk := E.nx } σ2 H2) := by
  refine ⟨fun i m σ H => m + i = n ∧ Pv i σ H, ⟨n, rfl, h0⟩, fun i m σ H hw => ?_⟩
  obtain ⟨hm, p⟩ := hw
  by_cases hi : i < n
  · exact .inr ⟨S.go i H (hD i σ H p) hi, Pv (i + 1), fun σ' H' p' => ⟨m - 1, by omega, by omega, p'⟩, fun x H' y => hs i x σ H H' hi p (S.yl i H x H' (hD i σ H p) hi y)⟩
  · have e : i = n := by omega
    subst e
    exact .inl ⟨S.stop H (hD i σ H p), hd σ H p⟩
/-- a list comprehension: Acc i acc D: acc is what i items gave -/
theorem lcN {J : It} {n : Nat} {R : Nat → V → Hp → Hp → Prop} (S : Src J D n R) {g : TG} {tt : TT} {te : TE} {vs : List Nat} {σ : St} {H : Hp} {Q : VK} (e : Same D H) (Acc : Nat → List V → Hp → Prop) (a0 : Acc 0 [] D) (small : n < 100000) (len : ∀ i acc D', Acc i acc D' → acc.length ≤ i)
    (turn : ∀ i x acc D' H' H'', i < n → Ext D H D' H' → R i x H' H'' → Acc i acc D' → ∀ (Qy : V → Hp → Prop) (Qn : Hp → Prop), (∀ y D4 H4, Ext D' H' D4 H4 → Acc (i + 1) (acc ++ [y]) D4 → Qy y H4) → (∀ D3 H3, Ext D' H' D3 H3 → Acc (i + 1) acc D3 → Qn H3) →
      g x (wipe σ vs) H'' fun σ2 H2 => wipe σ2 vs = wipe σ vs ∧ tt σ2 H2 fun b H3 => if b = true then te σ2 H3 Qy else Qn H3)
    (fin : ∀ p acc D' H', H p = none → Ext D H D' H' → D' p = none → H' p = some (.lst acc) → Acc n acc D' → Q (.ref p) H') :
    ∀ L, H L = none → ∃ W : Nat → Nat → Hp → Prop, (∃ m, W 0 m (upd H L (.lst []))) ∧ ∀ i m H, W i m H →
      (J.stop i H ∧ Q (.ref L) H) ∨ (J.go i H ∧ ∃ Nx : Hp → Prop, (∀ H', Nx H' → ∃ m', m' < m ∧ W (i + 1) m' H') ∧ ∀ x H', J.yld i H x H' → g x (wipe σ vs) H' fun σ2 H2 => wipe σ2 vs = wipe σ vs ∧ tt σ2 H2 fun b H3 =>
        if b = true then te σ2 H3 fun y H4 => ∃ acc, H4 L = some (.lst acc) ∧ acc.length < sizeLine ∧ Nx (upd H4 L (.lst (acc ++ [y]))) else Nx H3) := fun L hL => by
  refine ⟨fun i m H' => m + i = n ∧ ∃ acc D', Ext D H D' H' ∧ D' L = none ∧ H' L = some (.lst acc) ∧ Acc i acc D', ⟨n, rfl, [], D, Ext.hide e hL, e.free hL, upd_same, a0⟩, fun i m H' hw => ?_⟩
  obtain ⟨hm, acc, D', x, dL, hA, ac⟩ := hw
  have sD : Same D H' := x.d.trans x.s
  by_cases hi : i < n
  · refine .inr ⟨S.go i H' sD hi, fun H2 => ∃ acc D', Ext D H D' H2 ∧ D' L = none ∧ H2 L = some (.lst acc) ∧ Acc (i + 1) acc D', fun H2 p => ⟨m - 1, by omega, by omega, p⟩, fun v H'' y => ?_⟩
    refine turn i v acc D' H' H'' hi x (S.yl i H' v H'' sD hi y) ac _ _ (fun z D4 H4 x4 a4 => ⟨acc, x4.h _ _ hA, ?_, acc ++ [z], D4, (x.trans x4).mut hL (x4.out hA dL), x4.out hA dL, upd_same, a4⟩) (fun D3 H3 x3 a3 => ⟨acc, D3, x.trans x3, x3.out hA dL, x3.h _ _ hA, a3⟩)
    have := len i acc D' ac
    exact Nat.lt_of_lt_of_le (show acc.length < 100000 by omega) (by decide)
  · have e2 : i = n := by omega
    subst e2
    exact .inl ⟨S.stop H' sD, fin L acc D' H' hL x dL hA ac⟩
end
/-! ### defs by their names -/
structure CalG (P : Program) (w : World) (K : PySem.W.Frag) (mg : Str → Option Value) (base : Heap) (CX : CXT) (k : Nat) (x : Str) (ps : List Str) (sp : Sp) : Prop where
  ex : ∃ (f : Addr) (fd : FuncData), FnOk P w K mg base CX k f fd ps sp ∧ mg x = some (.ref f) ∧ PySem.W.keepIn K (.ref f) = true ∧ Binds K fd ps []
section
variable {X : Cx} {k j : Nat} {x : Str} {ps : List Str} {sp : Sp} {p pos : Pos} {e : Expr} {es : List Expr} {t : TA}
theorem pk (c : CalG X.prog X.w X.K X.mg X.base CX0 k x ps sp) (hr : Room j X.A) (hk : k ≤ j) (ha : PA X (e :: es) t) (hg : Gl X x := by rfl)
    (hdb : (x == ("__debug__" : Str)) = false := by decide) (he : starEach (e :: es) X.env = (false, eval e X.env) :: starEach es X.env := by rfl) (hpl : (backTo pos (starEach es X.env)).any (·.1) = false := by rfl) :
    PE X (.Call (.Name x p) (e :: es) [] pos) (tCall sp [] E0 t) := by
  obtain ⟨f, fd, F, hm, kp, b⟩ := c.ex
  exact pe_call F (hr.mono hk) hg hm kp b .nil pass0 ha hdb he hpl
theorem pk0 (c : CalG X.prog X.w X.K X.mg X.base CX0 k x ps sp) (hr : Room j X.A) (hk : k ≤ j) (hg : Gl X x := by rfl)
    (hdb : (x == ("__debug__" : Str)) = false := by decide) : PE X (.Call (.Name x p) [] [] pos) (tCall sp [] E0 tNil) := by
  obtain ⟨f, fd, F, hm, kp, b⟩ := c.ex
  exact pe_call0 F (hr.mono hk) hg hm kp b .nil pass0 hdb
end
/-! ### the text by places -/
def top (i : Nat) : Stmt := PySem.Challenge.pw_lagshift_k54_whole_fewest_registers.main.body.getD i (.Pass ⟨0, 0, 0, 0⟩)
abbrev s_NoLagsThere_init : Stmt := inClass (top 9) 0
abbrev s_is_number : Stmt := top 12
abbrev s_sure_beat : Stmt := top 13
abbrev s_is_fixed : Stmt := top 14
abbrev s_home : Stmt := top 15
abbrev s_is_piece : Stmt := top 16
abbrev s_gates_of : Stmt := top 17
abbrev s_held : Stmt := top 18
abbrev s_wait_of : Stmt := top 19
abbrev s_is_long : Stmt := top 20
abbrev s_room : Stmt := top 21
abbrev s_ways_from : Stmt := top 22
abbrev s_pieces_for : Stmt := top 23
abbrev s_Row_init : Stmt := inClass (top 24) 0
abbrev s_rows_for : Stmt := top 25
abbrev s_places_of : Stmt := top 26
abbrev s_settled : Stmt := top 27
abbrev s_ring_by : Stmt := top 28
abbrev s_lags_of : Stmt := top 29
abbrev s_plain_for_beat : Stmt := top 30
abbrev s_least_beat : Stmt := top 31
abbrev s_meets : Stmt := top 32
abbrev s_bar_fault : Stmt := top 33
abbrev s_is_whole : Stmt := top 37
abbrev s_are_lags : Stmt := top 38
abbrev s_counts : Stmt := top 39
abbrev s_registers : Stmt := top 40
abbrev s_are_entries : Stmt := top 42
abbrev s_due_at : Stmt := top 43
abbrev s_told_at : Stmt := top 44
abbrev s_plain_fault : Stmt := top 45
abbrev s_paper_fault : Stmt := top 46
abbrev s_bound_of : Stmt := top 47
abbrev s_Flow_init : Stmt := inClass (top 48) 0
abbrev s_Flow_links : Stmt := inClass (top 48) 1
abbrev s_Flow_better : Stmt := inClass (top 48) 2
abbrev s_Flow_sums : Stmt := inClass (top 48) 3
abbrev s_fewest : Stmt := top 49
abbrev s_is_from : Stmt := top 54
abbrev s_is_worth : Stmt := top 55
abbrev s_is_port : Stmt := top 56
abbrev s_is_gate : Stmt := top 57
abbrev s_is_wire : Stmt := top 58
abbrev s_wires_into : Stmt := top 59
abbrev s_sure_wires : Stmt := top 60
abbrev s_bare_order : Stmt := top 61
abbrev s_bare_ring : Stmt := top 62
abbrev s_Net_init : Stmt := inClass (top 63) 0
abbrev s_law_cell_at : Stmt := top 65
abbrev s_law_digit : Stmt := top 66
abbrev s_law_gates : Stmt := top 67
abbrev s_law_worths : Stmt := top 68
abbrev s_law_wires : Stmt := top 69
abbrev s_law_parts : Stmt := top 70
abbrev s_law_counts : Stmt := top 72
abbrev s_law_all_lags : Stmt := top 73
abbrev s_law_need : Stmt := top 74
abbrev s_law_does : Stmt := top 75
abbrev s_law_piece : Stmt := top 76
abbrev s_law_bound : Stmt := top 77
abbrev s_law_refused : Stmt := top 78
abbrev s_law_lone_right : Stmt := top 79
abbrev s_law : Stmt := top 80
def d_NoLagsThere_init : He.DefD := ⟨("NoLagsThere", some "__init__"), "__init__", "NoLagsThere.__init__", defArgs s_NoLagsThere_init, defBody s_NoLagsThere_init, defScope s_NoLagsThere_init, [], []⟩
def d_is_number : He.DefD := ⟨("is_number", none), "is_number", "is_number", defArgs s_is_number, defBody s_is_number, defScope s_is_number, [], []⟩
def d_sure_beat : He.DefD := ⟨("sure_beat", none), "sure_beat", "sure_beat", defArgs s_sure_beat, defBody s_sure_beat, defScope s_sure_beat, [], []⟩
def d_is_fixed : He.DefD := ⟨("is_fixed", none), "is_fixed", "is_fixed", defArgs s_is_fixed, defBody s_is_fixed, defScope s_is_fixed, [], []⟩
def d_home : He.DefD := ⟨("home", none), "home", "home", defArgs s_home, defBody s_home, defScope s_home, [], []⟩
def d_is_piece : He.DefD := ⟨("is_piece", none), "is_piece", "is_piece", defArgs s_is_piece, defBody s_is_piece, defScope s_is_piece, [], []⟩
def d_gates_of : He.DefD := ⟨("gates_of", none), "gates_of", "gates_of", defArgs s_gates_of, defBody s_gates_of, defScope s_gates_of, [], []⟩
def d_held : He.DefD := ⟨("held", none), "held", "held", defArgs s_held, defBody s_held, defScope s_held, [], []⟩
def d_wait_of : He.DefD := ⟨("wait_of", none), "wait_of", "wait_of", defArgs s_wait_of, defBody s_wait_of, defScope s_wait_of, [], []⟩
def d_is_long : He.DefD := ⟨("is_long", none), "is_long", "is_long", defArgs s_is_long, defBody s_is_long, defScope s_is_long, [], []⟩
def d_room : He.DefD := ⟨("room", none), "room", "room", defArgs s_room, defBody s_room, defScope s_room, [], []⟩
def d_ways_from : He.DefD := ⟨("ways_from", none), "ways_from", "ways_from", defArgs s_ways_from, defBody s_ways_from, defScope s_ways_from, [], []⟩
def d_pieces_for : He.DefD := ⟨("pieces_for", none), "pieces_for", "pieces_for", defArgs s_pieces_for, defBody s_pieces_for, defScope s_pieces_for, [], []⟩
def d_Row_init : He.DefD := ⟨("Row", some "__init__"), "__init__", "Row.__init__", defArgs s_Row_init, defBody s_Row_init, defScope s_Row_init, [], []⟩
def d_rows_for : He.DefD := ⟨("rows_for", none), "rows_for", "rows_for", defArgs s_rows_for, defBody s_rows_for, defScope s_rows_for, [], []⟩
def d_places_of : He.DefD := ⟨("places_of", none), "places_of", "places_of", defArgs s_places_of, defBody s_places_of, defScope s_places_of, [], []⟩
def d_settled : He.DefD := ⟨("settled", none), "settled", "settled", defArgs s_settled, defBody s_settled, defScope s_settled, [], []⟩
def d_ring_by : He.DefD := ⟨("ring_by", none), "ring_by", "ring_by", defArgs s_ring_by, defBody s_ring_by, defScope s_ring_by, [], []⟩
def d_lags_of : He.DefD := ⟨("lags_of", none), "lags_of", "lags_of", defArgs s_lags_of, defBody s_lags_of, defScope s_lags_of, [], []⟩
def d_plain_for_beat : He.DefD := ⟨("plain_for_beat", none), "plain_for_beat", "plain_for_beat", defArgs s_plain_for_beat, defBody s_plain_for_beat, defScope s_plain_for_beat, [], []⟩
def d_least_beat : He.DefD := ⟨("least_beat", none), "least_beat", "least_beat", defArgs s_least_beat, defBody s_least_beat, defScope s_least_beat, [], []⟩
def d_meets : He.DefD := ⟨("meets", none), "meets", "meets", defArgs s_meets, defBody s_meets, defScope s_meets, [], []⟩
def d_bar_fault : He.DefD := ⟨("bar_fault", none), "bar_fault", "bar_fault", defArgs s_bar_fault, defBody s_bar_fault, defScope s_bar_fault, [], []⟩
def d_is_whole : He.DefD := ⟨("is_whole", none), "is_whole", "is_whole", defArgs s_is_whole, defBody s_is_whole, defScope s_is_whole, [], []⟩
def d_are_lags : He.DefD := ⟨("are_lags", none), "are_lags", "are_lags", defArgs s_are_lags, defBody s_are_lags, defScope s_are_lags, [], []⟩
def d_counts : He.DefD := ⟨("counts", none), "counts", "counts", defArgs s_counts, defBody s_counts, defScope s_counts, [], []⟩
def d_registers : He.DefD := ⟨("registers", none), "registers", "registers", defArgs s_registers, defBody s_registers, defScope s_registers, [], []⟩
def d_are_entries : He.DefD := ⟨("are_entries", none), "are_entries", "are_entries", defArgs s_are_entries, defBody s_are_entries, defScope s_are_entries, [], []⟩
def d_due_at : He.DefD := ⟨("due_at", none), "due_at", "due_at", defArgs s_due_at, defBody s_due_at, defScope s_due_at, [], []⟩
def d_told_at : He.DefD := ⟨("told_at", none), "told_at", "told_at", defArgs s_told_at, defBody s_told_at, defScope s_told_at, [], []⟩
def d_plain_fault : He.DefD := ⟨("plain_fault", none), "plain_fault", "plain_fault", defArgs s_plain_fault, defBody s_plain_fault, defScope s_plain_fault, [], []⟩
def d_paper_fault : He.DefD := ⟨("paper_fault", none), "paper_fault", "paper_fault", defArgs s_paper_fault, defBody s_paper_fault, defScope s_paper_fault, [], []⟩
def d_bound_of : He.DefD := ⟨("bound_of", none), "bound_of", "bound_of", defArgs s_bound_of, defBody s_bound_of, defScope s_bound_of, [], []⟩
def d_Flow_init : He.DefD := ⟨("Flow", some "__init__"), "__init__", "Flow.__init__", defArgs s_Flow_init, defBody s_Flow_init, defScope s_Flow_init, [], []⟩
def d_Flow_links : He.DefD := ⟨("Flow", some "links"), "links", "Flow.links", defArgs s_Flow_links, defBody s_Flow_links, defScope s_Flow_links, [], []⟩
def d_Flow_better : He.DefD := ⟨("Flow", some "better"), "better", "Flow.better", defArgs s_Flow_better, defBody s_Flow_better, defScope s_Flow_better, [], []⟩
def d_Flow_sums : He.DefD := ⟨("Flow", some "sums"), "sums", "Flow.sums", defArgs s_Flow_sums, defBody s_Flow_sums, defScope s_Flow_sums, [], []⟩
def d_fewest : He.DefD := ⟨("fewest", none), "fewest", "fewest", defArgs s_fewest, defBody s_fewest, defScope s_fewest, [], []⟩
def d_is_from : He.DefD := ⟨("is_from", none), "is_from", "is_from", defArgs s_is_from, defBody s_is_from, defScope s_is_from, [], []⟩
def d_is_worth : He.DefD := ⟨("is_worth", none), "is_worth", "is_worth", defArgs s_is_worth, defBody s_is_worth, defScope s_is_worth, [], []⟩
def d_is_port : He.DefD := ⟨("is_port", none), "is_port", "is_port", defArgs s_is_port, defBody s_is_port, defScope s_is_port, [], []⟩
def d_is_gate : He.DefD := ⟨("is_gate", none), "is_gate", "is_gate", defArgs s_is_gate, defBody s_is_gate, defScope s_is_gate, [], []⟩
def d_is_wire : He.DefD := ⟨("is_wire", none), "is_wire", "is_wire", defArgs s_is_wire, defBody s_is_wire, defScope s_is_wire, [], []⟩
def d_wires_into : He.DefD := ⟨("wires_into", none), "wires_into", "wires_into", defArgs s_wires_into, defBody s_wires_into, defScope s_wires_into, [], []⟩
def d_sure_wires : He.DefD := ⟨("sure_wires", none), "sure_wires", "sure_wires", defArgs s_sure_wires, defBody s_sure_wires, defScope s_sure_wires, [], []⟩
def d_bare_order : He.DefD := ⟨("bare_order", none), "bare_order", "bare_order", defArgs s_bare_order, defBody s_bare_order, defScope s_bare_order, [], []⟩
def d_bare_ring : He.DefD := ⟨("bare_ring", none), "bare_ring", "bare_ring", defArgs s_bare_ring, defBody s_bare_ring, defScope s_bare_ring, [], []⟩
def d_Net_init : He.DefD := ⟨("Net", some "__init__"), "__init__", "Net.__init__", defArgs s_Net_init, defBody s_Net_init, defScope s_Net_init, [], []⟩
def d_law_cell_at : He.DefD := ⟨("_law_cell_at", none), "_law_cell_at", "_law_cell_at", defArgs s_law_cell_at, defBody s_law_cell_at, defScope s_law_cell_at, [], []⟩
def d_law_digit : He.DefD := ⟨("_law_digit", none), "_law_digit", "_law_digit", defArgs s_law_digit, defBody s_law_digit, defScope s_law_digit, [], []⟩
def d_law_gates : He.DefD := ⟨("_law_gates", none), "_law_gates", "_law_gates", defArgs s_law_gates, defBody s_law_gates, defScope s_law_gates, [], []⟩
def d_law_worths : He.DefD := ⟨("_law_worths", none), "_law_worths", "_law_worths", defArgs s_law_worths, defBody s_law_worths, defScope s_law_worths, [], []⟩
def d_law_wires : He.DefD := ⟨("_law_wires", none), "_law_wires", "_law_wires", defArgs s_law_wires, defBody s_law_wires, defScope s_law_wires, [], []⟩
def d_law_parts : He.DefD := ⟨("_law_parts", none), "_law_parts", "_law_parts", defArgs s_law_parts, defBody s_law_parts, defScope s_law_parts, [], []⟩
def d_law_counts : He.DefD := ⟨("_law_counts", none), "_law_counts", "_law_counts", defArgs s_law_counts, defBody s_law_counts, defScope s_law_counts, [], []⟩
def d_law_all_lags : He.DefD := ⟨("_law_all_lags", none), "_law_all_lags", "_law_all_lags", defArgs s_law_all_lags, defBody s_law_all_lags, defScope s_law_all_lags, [], []⟩
def d_law_need : He.DefD := ⟨("_law_need", none), "_law_need", "_law_need", defArgs s_law_need, defBody s_law_need, defScope s_law_need, [], []⟩
def d_law_does : He.DefD := ⟨("_law_does", none), "_law_does", "_law_does", defArgs s_law_does, defBody s_law_does, defScope s_law_does, [], []⟩
def d_law_piece : He.DefD := ⟨("_law_piece", none), "_law_piece", "_law_piece", defArgs s_law_piece, defBody s_law_piece, defScope s_law_piece, [], []⟩
def d_law_bound : He.DefD := ⟨("_law_bound", none), "_law_bound", "_law_bound", defArgs s_law_bound, defBody s_law_bound, defScope s_law_bound, [], []⟩
def d_law_refused : He.DefD := ⟨("_law_refused", none), "_law_refused", "_law_refused", defArgs s_law_refused, defBody s_law_refused, defScope s_law_refused, [], []⟩
def d_law_lone_right : He.DefD := ⟨("_law_lone_right", none), "_law_lone_right", "_law_lone_right", defArgs s_law_lone_right, defBody s_law_lone_right, defScope s_law_lone_right, [], []⟩
def d_law : He.DefD := ⟨("law", none), "law", "law", defArgs s_law, defBody s_law, defScope s_law, [], []⟩
def fn : List He.DefD := [d_NoLagsThere_init, d_is_number, d_sure_beat, d_is_fixed, d_home, d_is_piece, d_gates_of, d_held, d_wait_of, d_is_long, d_room, d_ways_from, d_pieces_for, d_Row_init, d_rows_for, d_places_of, d_settled, d_ring_by, d_lags_of, d_plain_for_beat, d_least_beat, d_meets, d_bar_fault, d_is_whole, d_are_lags, d_counts, d_registers, d_are_entries, d_due_at, d_told_at, d_plain_fault, d_paper_fault, d_bound_of, d_Flow_init, d_Flow_links, d_Flow_better, d_Flow_sums, d_fewest, d_is_from, d_is_worth, d_is_port, d_is_gate, d_is_wire, d_wires_into, d_sure_wires, d_bare_order, d_bare_ring, d_Net_init, d_law_cell_at, d_law_digit, d_law_gates, d_law_worths, d_law_wires, d_law_parts, d_law_counts, d_law_all_lags, d_law_need, d_law_does, d_law_piece, d_law_bound, d_law_refused, d_law_lone_right, d_law]
def gloN : List Str := (["is_number", "sure_beat", "is_fixed", "home", "is_piece", "gates_of", "held", "wait_of", "is_long", "room", "ways_from", "pieces_for", "rows_for", "places_of", "settled", "ring_by", "lags_of", "plain_for_beat", "least_beat", "meets", "bar_fault", "is_whole", "are_lags", "counts", "registers"] : List Str) ++ (["are_entries", "due_at", "told_at", "plain_fault", "paper_fault", "bound_of", "fewest", "is_from", "is_worth", "is_port", "is_gate", "is_wire", "wires_into", "sure_wires", "bare_order", "bare_ring", "_law_cell_at", "_law_digit", "_law_gates", "_law_worths", "_law_wires", "_law_parts", "_law_counts", "_law_all_lags", "_law_need"] : List Str) ++ (["_law_does", "_law_piece", "_law_bound", "_law_refused", "_law_lone_right", "law", "Row", "Flow", "Net", "NoLagsThere", "PORTS", "KINDS"] : List Str)
def freeN : List Str := ["len", "isinstance", "int", "bool", "list", "tuple", "str", "sum", "min", "max", "all", "any", "abs", "range", "enumerate", "zip", "sorted", "bytes", "float", "None", "ValueError"]
def intN : List (Str × Int) := [("HOUSE", -1), ("MOST_LAG", 500), ("MOST_WORTH", 96), ("MOST_WAIT", 100)]
/-! ### what the top has left -/
structure Tx (K : PySem.W.Frag) (mg : Str → Option Value) : Prop where
  defs : ∀ d ∈ fn, ∃ fd, FunD K d.name d.qual d.params d.body d.scope [] [] (He.fAd K d.at_) fd
  glo : ∀ x ∈ gloN, mg x = some (.ref (He.ga K x))
  free : ∀ x ∈ freeN, mg x = none
  int : ∀ q ∈ intN, ∃ t, mg q.1 = some (.int q.2 t)
  cNet : Cls K (He.ga K "Net")
  aNet : ∀ f ∈ (["gates", "wires"] : List Str), NoAttr K (He.ga K "Net") f
  kNet : Mk K (He.ga K "Net") (He.ma K (He.ga K "Net") "__init__")
  cRow : Cls K (He.ga K "Row")
  aRow : ∀ f ∈ (["piece", "begin", "end", "space"] : List Str), NoAttr K (He.ga K "Row") f
  kRow : Mk K (He.ga K "Row") (He.ma K (He.ga K "Row") "__init__")
  cFlow : Cls K (He.ga K "Flow")
  aFlow : ∀ f ∈ (["places", "lines", "carried"] : List Str), NoAttr K (He.ga K "Flow") f
  kFlow : Mk K (He.ga K "Flow") (He.ma K (He.ga K "Flow") "__init__")
  mFlow : ∀ m ∈ (["links", "better", "sums"] : List Str), Meth K (He.ga K "Flow") m (He.ma K (He.ga K "Flow") m)
  ports : ∀ H, SqT K H (He.ga K "PORTS") [.str "in", .str "out"]
  kinds : ∀ H, SqT K H (He.ga K "KINDS") [.str "in", .str "out", .str "sum", .str "times", .str "most", .str "least", .str "first", .str "one"]
section
variable {K : PySem.W.Frag} {mg : Str → Option Value} {P : Program} {w : World} {base : Heap}
theorem Tx.fr (T : Tx K mg) (x : Str) (h : x ∈ freeN := by decide +kernel) : mg x = none := T.free x h
theorem Tx.gl (T : Tx K mg) (x : Str) (h : x ∈ gloN := by decide +kernel) : mg x = some (.ref (He.ga K x)) := T.glo x h
theorem Tx.gI (T : Tx K mg) (x : Str) (i : Int) (h : (x, i) ∈ intN := by decide +kernel) : ∃ u, mg x = some u ∧ RelV (.int i) u := by
  obtain ⟨t, e⟩ := T.int _ h
  exact ⟨_, e, t, rfl⟩
theorem Tx.gA (T : Tx K mg) (x : Str) (h : x ∈ gloN := by decide +kernel) : ∃ u, mg x = some u ∧ RelV (.ref (He.ga K x)) u := ⟨_, T.glo x h, rfl⟩
/-- THE RULE for a def of one's own: its body as a term, the term's reading -/
theorem calG (T : Tx K mg) {d : He.DefD} {N ps : List Str} {k : Nat} {sp : Sp} (i : Nat) (hi : fn[i]? = some d) (x : Str) (hx : d.at_ = (x, none)) (hg : x ∈ gloN) (S : FnScope N ps d.scope)
    (hb : ∀ (kV doc pm : Value) (an : Option Addr) (cdv ct : Value) (us : List Value), us.length = ps.length → bindArgs (PySem.W.fnOf d.name d.qual d.params d.body d.scope .none kV doc pm an cdv ct) ⟨us, []⟩ = pure (ps.zip us))
    (len : ∀ vs H Q E, sp vs H Q E → vs.length = ps.length)
    (body : ∀ (cdv : Value) (f : Addr) (A : Around) (outer : List Env) (s : Shared) (H : Hp) (vs : List V) (Q : VK) (E : XK), Room k (A.deeper (envOfC d.qual d.scope s.heap.objs.size f cdv)) → sp vs H Q E →
      ∃ t, PSs (cxOf CX0 P w K mg base N d.qual d.scope f cdv A outer s H E).nox d.body t ∧ t { nx := fun _ H' => Q .non H', rt := Q } (start N vs) H) : CalG P w K mg base CX0 (k + 1) x ps sp := by
  obtain ⟨fd, F⟩ := T.defs d (List.mem_of_getElem? hi)
  have ef : He.fAd K d.at_ = He.ga K x := by
    rw [hx]
    rfl
  refine ⟨_, fd, F.ok S len fun cdv A outer s H vs Q E hr h => ?_, ?_, F.kp, FunD.bindsN F hb⟩
  · obtain ⟨t, h1, h2⟩ := body cdv _ A outer s H vs Q E hr h
    exact ⟨t, h1.nox, h2⟩
  · rw [ef]
    exact T.glo x hg
end
open L2H
/-! ### the program's own exception -/
abbrev eC (K : PySem.W.Frag) : Addr := He.ga K "NoLagsThere"
abbrev eI (K : PySem.W.Frag) : Addr := He.ma K (eC K) "__init__"
/-- what the top has left of it, as one test -/
def oexB (K : PySem.W.Frag) (C : Addr) : Bool := match K.lookup C with
  | some ⟨.type "type", _, .cls cd, sl⟩ => (match cd.mro, sl.toList with
    | .ref C' :: bm, [_, _, _, _, some (.builtin n), _] => (C' == C && n == "ValueError.__new__") && (!cd.hasDel && (cd.hasDict && PySem.HandSPX.refsVE bm))
    | _, _ => false)
  | _ => false
theorem oexB_cls {K : PySem.W.Frag} {C : Addr} (q : oexB K C = true) : ∃ nm q N bs bm sn sub ab col dd k0 k1 k2 k3 k5, K.lookup C = some (excClassObj nm q C N bs bm true sn sub ab col dd k0 k1 k2 k3 k5 "ValueError.__new__") ∧ PySem.HandSPX.refsVE bm = true := by
  unfold oexB at q
  split at q
  · rename_i dd cd sl ho
    split at q
    · rename_i C' bm k0 k1 k2 k3 n k5 hm hs
      obtain ⟨q1, q2⟩ := Bool.and_eq_true_iff.mp q
      obtain ⟨q3, q4⟩ := Bool.and_eq_true_iff.mp q2
      obtain ⟨q5, q6⟩ := Bool.and_eq_true_iff.mp q4
      obtain ⟨q7, q8⟩ := Bool.and_eq_true_iff.mp q1
      have e1 : C' = C := beq_iff_eq.mp q7
      have e2 : n = "ValueError.__new__" := beq_iff_eq.mp q8
      subst e1 e2
      obtain ⟨nm, bs, mro, ns, qn, hd, sn, sub, ab, col, del_⟩ := cd
      have hm : mro = .ref C' :: bm := hm
      have q5 : hd = true := q5
      have q3 : (!del_) = true := q3
      cases del_ with
      | true => cases q3
      | false =>
        subst hm q5
        obtain ⟨l⟩ := sl
        have hs : l = [k0, k1, k2, k3, some (.builtin "ValueError.__new__"), k5] := hs
        subst hs
        exact ⟨nm, qn, ns, bs, bm, sn, sub, ab, col, dd, k0, k1, k2, k3, k5, ho, q6⟩
    · cases q
  · cases q
def feB (K : PySem.W.Frag) : Bool := match PySem.W.findCls K (.ref (He.ga K "LagError")) (.type "type") "__init__" with
  | some (.val (.builtin n)) => n == "ValueError.__init__"
  | _ => false
theorem feB_ok {K : PySem.W.Frag} (h : feB K = true) : PySem.W.findCls K (.ref (He.ga K "LagError")) (.type "type") "__init__" = some (.val (.builtin "ValueError.__init__")) := by
  unfold feB at h
  split at h
  · rename_i n e
    rw [e, beq_iff_eq.mp h]
  · cases h
/-- the tests that the top passes -/
def excT (K : PySem.W.Frag) : Bool :=
  oexB K (eC K) && (decide (PySem.W.findIn K (.ref (eC K)) "__setattr__" = some (some (.builtin "object.__setattr__"))) && (decide (PySem.W.subIn K (.ref (eC K)) (.type "BaseException") = some true) && (decide (PySem.W.typeIn K (.ref (eC K)) = some (.type "type")) &&
  (PySem.W.keepIn K (.ref (eC K)) && (xfB K (eC K) && (decide (PySem.W.findIn K (.ref (eC K)) "bar" = some none) && (decide (PySem.W.findIn K (.ref (eC K)) "__init__" = some (some (.ref (eI K)))) && (decide (PySem.W.typeIn K (.ref (eI K)) = some (.type "function")) &&
  (PySem.W.readsIn K (He.ga K "LagError") (.type "type") && (decide (PySem.W.specialIn K (.ref (He.ga K "LagError")) "__getattribute__" = some (some (.builtin "type.__getattribute__"))) && (decide (PySem.W.exmOne K (.ref (eC K)) (.ref (eC K)) = some true) && feB K)))))))))))
structure TxE (K : PySem.W.Frag) (mg : Str → Option Value) : Prop where
  oex : OexC K (eC K)
  xf : XfC K (eC K)
  no : PySem.W.findIn K (.ref (eC K)) "bar" = some none
  iC : PySem.W.findIn K (.ref (eC K)) "__init__" = some (some (.ref (eI K)))
  tI : PySem.W.typeIn K (.ref (eI K)) = some (.type "function")
  gL : mg "LagError" = some (.ref (He.ga K "LagError"))
  rd : ClX.CRead K (He.ga K "LagError") (.type "type")
  fc : PySem.W.findCls K (.ref (He.ga K "LagError")) (.type "type") "__init__" = some (.val (.builtin "ValueError.__init__"))
  te : PySem.W.exmOne K (.ref (eC K)) (.ref (eC K)) = some true
theorem txE_of {K : PySem.W.Frag} {mg : Str → Option Value} (h : excT K = true) (gL : mg "LagError" = some (.ref (He.ga K "LagError"))) : TxE K mg := by
  unfold excT at h
  simp only [Bool.and_eq_true, decide_eq_true_eq] at h
  obtain ⟨h1, h2, h3, h4, h5, h6, h7, h8, h9, h10, h11, h12, h13⟩ := h
  exact ⟨⟨oexB_cls h1, h2, h3, h4, h5⟩, xfB_ok h6, h7, h8, h9, gL, ⟨h10, h11⟩, feB_ok h13, h12⟩
def looseN : List Str := (["_wall", "__name__", "LagError", "NoGates", "NoWires", "NoRing", "NoLags", "NoBeat", "NoPaper", "NoLagsThere", "HOUSE", "is_number", "sure_beat", "is_fixed", "home", "is_piece", "gates_of", "held", "wait_of", "is_long", "room", "ways_from", "pieces_for", "Row", "rows_for"] : List Str) ++ (["places_of", "settled", "ring_by", "lags_of", "plain_for_beat", "least_beat", "meets", "bar_fault", "PORTS", "MOST_LAG", "is_whole", "are_lags", "counts", "registers", "are_entries", "due_at", "told_at", "plain_fault", "paper_fault", "bound_of", "Flow", "fewest", "MOST_WORTH", "MOST_WAIT", "KINDS"] : List Str) ++ (["is_from", "is_worth", "is_port", "is_gate", "is_wire", "wires_into", "sure_wires", "bare_order", "bare_ring", "Net", "_law_cell_at", "_law_digit", "_law_gates", "_law_worths", "_law_wires", "_law_parts", "_law_lags", "_law_counts", "_law_all_lags", "_law_need", "_law_does", "_law_piece", "_law_bound", "_law_refused", "_law_lone_right"] : List Str)
def fa : List He.Fa := (((["LagError"] : List Str) ++ gloN).map He.Fa.glo ++ freeN.map He.Fa.free) ++ ((intN.map fun q => He.Fa.int q.1 q.2) ++
  ([.cls "Net", .noat "Net" "gates", .noat "Net" "wires", .mkr "Net", .cls "Row", .noat "Row" "piece", .noat "Row" "begin", .noat "Row" "end", .noat "Row" "space", .mkr "Row", .cls "Flow", .noat "Flow" "places", .noat "Flow" "lines", .noat "Flow" "carried", .mkr "Flow", .meth "Flow" "links", .meth "Flow" "better", .meth "Flow" "sums"] : List He.Fa))
abbrev Rw : PySem.W.OpenRow := PySem.W.OpenLaw.row PySem.Challenge.rw_lagshift_k54_whole_fewest_registers
def exB (K : PySem.W.Frag) : Bool := He.tupB K "PORTS" [.str "in", .str "out"] && (He.tupB K "KINDS" [.str "in", .str "out", .str "sum", .str "times", .str "most", .str "least", .str "first", .str "one"] && excT K)
/-- what is looked at: the names' objects, defs' code, classes' names, their defs and code -/
def refsZ (o : Obj) : List Addr := match o.data with
  | .dict es _ => es.toList.flatMap fun e => He.refV e.val
  | .func fd => He.refV fd.code ++ He.refV fd.defaults
  | .cls cd => [cd.ns]
  | _ => []
def asZ (g : Addr → Option Obj) : Nat → List Addr → List Addr
  | 0, as => as
  | n + 1, as => as ++ asZ g n (as.flatMap fun a => match g a with
    | some o => refsZ o
    | none => [])
def asY (g : Addr → Option Obj) : List Addr := asZ g 5 [mainGlobals] ++ [cStatics]
abbrev AlY : Type := Bool × He.AlD
def obsY (g : Addr → Option Obj) : AlY := (exB (He.frG g (asY g)), He.obsD fa fn (He.frG g (asY g)))
def hookY : PySem.W.Hook where
  α := AlY
  obs := fun s => obsY s.heap.get?
  val := fun _ => (true, He.valD fn)
  says := fun _ h => ∃ K : PySem.W.Frag, K.In h ∧ (exB K = true ∧ He.SaysD fa fn K)
  of := fun _ _ e => ⟨_, He.frG_in, congrArg (fun z : AlY => z.1) e, congrArg (fun z : AlY => z.2) e⟩
  keeps := fun _ _ _ ⟨K, hK, c⟩ k => ⟨K, PySem.W.Frag.In.keeps hK k, c⟩
def ob (s : PySem.W.SharedT) : AlY := obsY (HandSHeadRun.getT s)
theorem ob_eq (s : PySem.W.SharedT) : ob s = hookY.obs s.abs := by
  have e : HandSHeadRun.getT s = s.abs.heap.get? := funext (HandSHeadRun.getT_eq s)
  show obsY (HandSHeadRun.getT s) = obsY s.abs.heap.get?
  rw [e]
theorem run (w : World) : HandSHeadRun.RunEq Rw (PySem.W.view Rw.prog [80]) hookY ob 6000 looseN w := by
  intro os
  kernel_rfl
abbrev dLaw : DefRec := HandSHeadRun.topDef Rw.prog 80
theorem nameLaw : dLaw.name = ("law" : Str) := by kernel_rfl
theorem dfltLaw : dLaw.params.defaults = [] := by kernel_rfl
/-- the law, but for its own walk -/
theorem lawOf (call : PySem.W.WalkO (PySem.W.view Rw.prog [80]) looseN (PySem.W.XL (PySem.W.view Rw.prog [80]) []) hookY.says Rw.toRowW dLaw [] fun f vs => PySem.call f vs) : PySem.Challenge.rw_lagshift_k54_whole_fewest_registers.Holds := by
  w_on; o_law
  refine HandSHeadRun.head_any (r := PySem.W.OpenLaw.row PySem.Challenge.rw_lagshift_k54_whole_fewest_registers) (q := PySem.W.view (PySem.W.OpenLaw.row PySem.Challenge.rw_lagshift_k54_whole_fewest_registers).prog [80]) (H := hookY) (ob := ob) (M := 6000) (loose := looseN) (d := HandSHeadRun.topDef (PySem.W.OpenLaw.row PySem.Challenge.rw_lagshift_k54_whole_fewest_registers).prog 80) (kwd := []) ob_eq
    (by kernel_rfl) (fun s => by kernel_rfl) run (by kernel_rfl) (by kernel_rfl) (by kernel_rfl) (by rfl) (by first | assumption | decide +kernel) (by decide +kernel) ⟨rfl, rfl, rfl, rfl, rfl, by decide +kernel⟩ ?hw call
  case hw => w_witness2
open HotX
section
variable {prog : Program} {w : World} {A : Around} {E : Value → Shared → Prop} {s : Shared}
theorem hot_kept {x1 : Addr} {h h' : Heap} (t : HotAt A x1 h) (k : ∀ o, h.get? x1 = some o → h'.get? x1 = some o) : HotAt A x1 h' := by
  obtain ⟨a, o, vs, b, c, d⟩ := t
  exact ⟨a, o, vs, k o b, c, d⟩
/-- an end of a walk is told: a new exception, all else stands -/
theorem hot_stop {Z : Type} {x1 : Addr} {Q : Z → Shared → Prop} (hot : HotAt A x1 s.heap) (hE : ∀ h' e, (∀ b o, s.heap.get? b = some o → h'.get? b = some o) → (∃ o, h'.get? e = some o ∧ o.cls = .type "StopIteration") → E (.ref e) { s with heap := h' }) :
    wpAny (model prog w) A (newExc (.type "StopIteration") [] >>= fun e => (raiseNew e : Sem Z)) Q E s := by
  obtain ⟨hh, o1, vs1, h1, d1, c1⟩ := hot
  refine wpAny_bind ?_
  simp only [newExc, newTuple]
  refine wpAny_bind (wpAny_newObj_type ?_ (by size_fits))
  refine wpAny_bind (m := firstArgMember _ _) (wpAny_of_eq (a := Value.none) (by first | rfl | (simp only [firstArgMember]; rfl)) ?_)
  refine wpAny_newObj_type ?_ (by size_fits)
  have k2 : ∀ b o, s.heap.get? b = some o → ((s.heap.push { cls := .type "tuple", data := .seq #[] }).push { cls := Value.type "StopIteration", data := Data.fields (#[Value.ref s.heap.objs.size, Value.none, Value.none, Value.none, Value.bool false, Value.none] ++ ownMembersOf (Value.type "StopIteration") []) }).get? b = some o := fun b o q => Heap.get?_push_of_some _ (Heap.get?_push_of_some _ q)
  refine raiseNew_hot (x1 := x1) ⟨hh, o1, vs1, k2 _ _ h1, d1, c1⟩ (Nat.ne_of_lt (Heap.lt_size (Heap.get?_push_of_some _ h1))) (Heap.get?_push_size _ rfl) rfl (by first | (simp; done) | (simp; omega) | (simp only [Array.size_append]; simp; omega)) ?_
  refine hE _ _ (fun b o q => ?_) ⟨_, Heap.get?_update_self _ (Heap.get?_push_size _ rfl) rfl, rfl⟩
  rw [Heap.get?_update_other _ _ (Nat.ne_of_gt (Heap.lt_size (Heap.get?_push_of_some _ q)))]
  exact k2 b o q
/-- the end of a walk over a list -/
theorem list_end_hot {it l x1 : Addr} {i : Nat} {items : Array Value} {Q : Option Value → Shared → Prop} (hot : HotAt A x1 s.heap) (hne : x1 ≠ it) (hit : s.heap.IsListIter it l i) (hl : s.heap.IsList l items) (hx : items[i]? = none)
    (hQ : ∀ h', Heap.ExtBut it s.heap h' → Q none { s with heap := h' }) : wpAny (model prog w) A (pyNext (.ref it)) Q E s := by
  obtain ⟨o, ho, hc, hd⟩ := id hit
  obtain ⟨ol, hol, _, nl, hdl⟩ := hl
  unfold pyNext
  refine wpAny_bind (wpAny_attempt (wpAny_callSpecial?_slot (name := Str.ofString "__next__") hit.typeIs slot_listiter_next (wpAny_call_entry slot_listiter_next hit.typeIs entry_listiter_next ?_ (args_listiter_next _))))
  show wpAny _ _ (field (.ref it) 0 >>= _) _ _ s
  refine wpAny_bind (wpAny_field ho hd (x := .ref l) rfl ?_)
  show wpAny _ _ (if (Value.ref l == Value.none) = true then _ else _) _ _ s
  rw [if_neg (show ¬ ((Value.ref l == Value.none) = true) from Bool.false_ne_true)]
  show wpAny _ _ (field (.ref it) 1 >>= _) _ _ s
  refine wpAny_bind (wpAny_field ho hd (x := .int i 0) rfl ?_)
  show wpAny _ _ (seqItems? (.ref l) >>= _) _ _ s
  refine wpAny_bind (wpAny_seqItems hol hdl ?_)
  simp only [Int.toNat_natCast, hx]
  refine wpAny_bind (wpAny_rule (wpAny_bind (wpAny_setField ho hd (by simp) ?_)))
  refine hot_stop (x1 := x1) (hot_kept (A := A.in1) (h := s.heap) hot fun o q => ?_) fun h' e k ⟨oe, q1, q2⟩ => ?_
  · exact (Heap.SameBut.update ..).extBut _ _ hne q
  · refine wpAny_bind (wpAny_isInstance (T := "StopIteration") (b := true) ⟨oe, q1, q2⟩ isSubtype_stop ?_)
    exact wpAny_pure (hQ _ fun b o hb q => k b o ((Heap.SameBut.update ..).extBut b o hb q))
theorem tuple_end_hot {it t x1 : Addr} {i : Nat} {items : Array Value} {Q : Option Value → Shared → Prop} (hot : HotAt A x1 s.heap) (hne : x1 ≠ it) (hit : s.heap.IsTupleIter it t i) (ht : s.heap.IsTuple t items) (hx : items[i]? = none)
    (hQ : ∀ h', Heap.ExtBut it s.heap h' → Q none { s with heap := h' }) : wpAny (model prog w) A (pyNext (.ref it)) Q E s := by
  obtain ⟨o, ho, hc, hd⟩ := id hit
  obtain ⟨ol, hol, _, nl, hdl⟩ := ht
  unfold pyNext
  refine wpAny_bind (wpAny_attempt (wpAny_callSpecial?_slot (name := Str.ofString "__next__") hit.typeIs F.slot_tuple_iterator_next (wpAny_call_entry F.slot_tuple_iterator_next hit.typeIs F.entry_tuple_iterator_next ?_ (F.args_tuple_iterator_next_1 _))))
  show wpAny _ _ (field (.ref it) 0 >>= _) _ _ s
  refine wpAny_bind (wpAny_field ho hd (x := .ref t) rfl ?_)
  show wpAny _ _ (if (Value.ref t == Value.none) = true then _ else _) _ _ s
  rw [if_neg (show ¬ ((Value.ref t == Value.none) = true) from Bool.false_ne_true)]
  show wpAny _ _ (field (.ref it) 1 >>= _) _ _ s
  refine wpAny_bind (wpAny_field ho hd (x := .int i 0) rfl ?_)
  show wpAny _ _ (seqItems? (.ref t) >>= _) _ _ s
  refine wpAny_bind (wpAny_seqItems hol hdl ?_)
  simp only [Int.toNat_natCast, hx]
  refine wpAny_bind (wpAny_rule (wpAny_bind (wpAny_setField ho hd (by simp) ?_)))
  refine hot_stop (x1 := x1) (hot_kept (A := A.in1) (h := s.heap) hot fun o q => ?_) fun h' e k ⟨oe, q1, q2⟩ => ?_
  · exact (Heap.SameBut.update ..).extBut _ _ hne q
  · refine wpAny_bind (wpAny_isInstance (T := "StopIteration") (b := true) ⟨oe, q1, q2⟩ isSubtype_stop ?_)
    exact wpAny_pure (hQ _ fun b o hb q => k b o ((Heap.SameBut.update ..).extBut b o hb q))
theorem nextOf_end_hot {it l x1 : Addr} {i : Nat} {items : Array Value} {Q : Value → Shared → Prop} (hot : HotAt A x1 s.heap) (hne : x1 ≠ it) (hit : s.heap.IsListIter it l i) (hl : s.heap.IsList l items) (hx : items[i]? = none)
    (hE : ∀ h' e, Heap.ExtBut it s.heap h' → (∃ o, h'.get? e = some o ∧ o.cls = .type "StopIteration") → E (.ref e) { s with heap := h' }) : wpAny (model prog w) A (Builtin.SmallTypes.nextOf (.ref it)) Q E s := by
  obtain ⟨o, ho, hc, hd⟩ := id hit
  obtain ⟨ol, hol, _, nl, hdl⟩ := hl
  unfold Builtin.SmallTypes.nextOf
  refine wpAny_bind (wpAny_callSpecial?_slot (name := Str.ofString "__next__") hit.typeIs slot_listiter_next (wpAny_call_entry slot_listiter_next hit.typeIs entry_listiter_next ?_ (args_listiter_next _)))
  show wpAny _ _ (field (.ref it) 0 >>= _) _ _ s
  refine wpAny_bind (wpAny_field ho hd (x := .ref l) rfl ?_)
  show wpAny _ _ (if (Value.ref l == Value.none) = true then _ else _) _ _ s
  rw [if_neg (show ¬ ((Value.ref l == Value.none) = true) from Bool.false_ne_true)]
  show wpAny _ _ (field (.ref it) 1 >>= _) _ _ s
  refine wpAny_bind (wpAny_field ho hd (x := .int i 0) rfl ?_)
  show wpAny _ _ (seqItems? (.ref l) >>= _) _ _ s
  refine wpAny_bind (wpAny_seqItems hol hdl ?_)
  simp only [Int.toNat_natCast, hx]
  refine wpAny_bind (wpAny_rule (wpAny_bind (wpAny_setField ho hd (by simp) ?_)))
  refine hot_stop (x1 := x1) (hot_kept (A := A.in1) (h := s.heap) hot fun o q => ?_) fun h' e k q => ?_
  · exact (Heap.SameBut.update ..).extBut _ _ hne q
  · exact hE _ _ (fun b o hb q => k b o ((Heap.SameBut.update ..).extBut b o hb q)) q
theorem enum_end_hot {e it l x1 : Addr} {i : Nat} {items : Array Value} {old : Value} {Q : Option Value → Shared → Prop} (hot : HotAt A x1 s.heap) (hne : x1 ≠ it) (he : IsEnum s.heap e it i old) (hit : s.heap.IsListIter it l i) (hl : s.heap.IsList l items) (hx : items[i]? = none)
    (hQ : ∀ h', Heap.ExtBut it s.heap h' → Q none { s with heap := h' }) : wpAny (model prog w) A (pyNext (.ref e)) Q E s := by
  have hT : s.TypeIs (.ref e) "enumerate" := ⟨_, he, rfl⟩
  unfold pyNext
  refine wpAny_bind (wpAny_attempt (wpAny_callSpecial?_slot (name := Str.ofString "__next__") hT F.slot_enumerate_next (wpAny_call_entry F.slot_enumerate_next hT F.entry_enumerate_next ?_ (F.args_enumerate_next_1 _))))
  show wpAny _ _ (field (.ref e) 2 >>= _) _ _ _
  refine wpAny_bind (wpAny_field he rfl (x := .ref it) rfl ?_)
  refine wpAny_bind (nextOf_end_hot (A := A.in1) (x1 := x1) hot hne hit hl hx fun h' x he' hx' => ?_)
  obtain ⟨o, ho, hc⟩ := hx'
  refine wpAny_bind (wpAny_isInstance (T := "StopIteration") (b := true) ⟨o, ho, hc⟩ isSubtype_stop ?_)
  exact wpAny_pure (hQ _ he')
/-- a tuple's items, one by one -/
theorem unpackItems_hot {t x1 : Addr} {items : Array Value} {Q : List Value → Shared → Prop} (hot : HotAt A x1 s.heap) (ht : s.heap.IsTuple t items)
    (hQ : ∀ h', Heap.ExtBut s.heap.objs.size s.heap h' → Q items.toList { s with heap := h' }) : wpAny (model prog w) A (unpackItems (.ref t) items.size none) Q E s := by
  have hlt : t ≠ s.heap.objs.size := by
    obtain ⟨o, ho, _⟩ := ht
    exact Nat.ne_of_lt (Heap.lt_size ho)
  have hx1 : x1 ≠ s.heap.objs.size := by
    obtain ⟨_, o, _, ho, _⟩ := hot
    exact Nat.ne_of_lt (Heap.lt_size ho)
  unfold unpackItems
  refine wpAny_bind ?_
  unfold notIterableAtAll
  refine wpAny_bind (wpAny_specialOf ht.typeIs F.slot_tuple_iter.lookup ?_)
  refine wpAny_pure ?_
  simp only [Bool.false_eq_true, if_false]
  refine wpAny_bind (wpAny_holding (wpAny_pyIter_tuple ht ?_))
  refine wpAny_bind (wpAny_holding (wpAny_draw_tuple hlt items.size 0 _ _ ⟨_, Heap.get?_push_size _ rfl, rfl, rfl⟩ (ht.push _) (by omega) fun h1 hit1 hs1 => ?_))
  have hall : List.take items.size (List.drop 0 items.toList) = items.toList := by
    rw [List.drop_zero]
    exact List.take_of_length_le (by simp)
  rw [hall]
  rw [if_neg (by simp)]
  have ht1 : h1.IsTuple t items := (ht.push _).extBut hs1.extBut hlt
  refine wpAny_bind (wpAny_holding (tuple_end_hot (x1 := x1) (hot_kept (h := s.heap) hot fun o q => hs1.extBut _ _ hx1 (Heap.get?_push_of_some _ q)) hx1 hit1 ht1 (by simp) fun h2 he2 => ?_))
  simp only [Option.isSome_none, Bool.false_eq_true, if_false]
  exact wpAny_pure (hQ h2 fun b o hb e => he2 b o hb (hs1.extBut b o hb (Heap.get?_push_of_some _ e)))
theorem assign_tuple_hot {env : Env} {elts : List Expr} {x2} {pos : Pos} {t x1 : Addr} {items : Array Value} {Q : Unit → Shared → Prop} (hot : HotAt A x1 s.heap) (ht : s.heap.IsTuple t items) (hn : (assignEach elts env).length = items.size) (hstar : (assignEach elts env).findIdx? (·.1) = none)
    (h : ∀ h', Heap.ExtBut s.heap.objs.size s.heap h' → wpAny (model prog w) A (assignInOrder ((assignEach elts env).map (·.2)) items.toList) Q E { s with heap := h' }) : wpAny (model prog w) A (assign (.Tuple elts x2 pos) env (.ref t)) Q E s := by
  rw [arm_assign_Tuple]
  refine wpAny_bind (wpAny_standAt ?_)
  unfold unpack
  rw [hn, hstar]
  exact wpAny_bind (wpAny_holding (unpackItems_hot hot ht h))
/-- a list walked to its end while an exception is handled -/
theorem walks_hot {I ax x1 : Addr} (hh : A.handled = some (.ref x1)) (o1 : Obj) (hO : ∃ vs : Array Value, o1.data = .fields vs ∧ vs[2]? = some .none) (hne : ax ≠ I) (hne1 : x1 ≠ I) (items : Array Value) :
    Walks prog w A I [I, ax, x1] [I] items.size (fun i v => items[i]? = some v) (fun i h => h.IsListIter I ax i ∧ h.IsList ax items ∧ h.get? x1 = some o1) where
  sub := fun b hb => by
    rw [List.mem_singleton.mp hb]
    exact List.mem_cons_self
  frame := fun _ _ _ st hk => ⟨st.1.at fun o e => hk I (by simp) o e, st.2.1.at fun o e => hk ax (by simp) o e, hk x1 (by simp) o1 st.2.2⟩
  item := fun i s Q E hi st hQ => by
    refine wpAny_pyNext_list_item st.1 st.2.1 (x := items[i]) (by simp [hi]) fun h' hit' hs' => ?_
    exact hQ _ h' s.toks (by simp [hi]) ⟨hit', st.2.1.extBut hs'.extBut hne, hs'.extBut _ _ hne1 st.2.2⟩ fun b o hb e => hs'.extBut b o (fun h => hb (by simp [h])) e
  done := fun s Q E st hQ => by
    obtain ⟨vs, d, c⟩ := hO
    exact list_end_hot (x1 := x1) ⟨hh, o1, vs, st.2.2, d, c⟩ hne1 st.1 st.2.1 (by simp) fun h' he' => hQ h' s.toks fun b o hb e => he' b o (fun h => hb (by simp [h])) e
  self := fun _ _ _ _ st hQ => wpAny_pyIter_listiter st.1 hQ
end
/-- nothing is handled; or an exception is, that stands pinned -/
def Quiet (X : Cx) : Prop := X.calm = true ∨ HotC X
theorem quiet_at {X : Cx} {pins : List (Addr × Obj)} {σ : St} {H : Hp} {s : Shared} (q : Quiet X) (I : Inv X pins σ H s) :
    X.A.handled = none ∨ ∃ p : Addr × Obj, p ∈ X.pn ∧ HotAt X.A p.1 s.heap ∧ X.A.handled = some (.ref p.1) ∧ s.heap.get? p.1 = some p.2 ∧ ∃ vs : Array Value, p.2.data = .fields vs ∧ vs[2]? = some .none := by
  rcases q with q | ⟨p, ⟨hh, vs, d, c⟩, hp⟩
  · exact .inl (I.ok.hd q)
  · have g := (I.pin p (List.mem_append_left _ hp)).1
    exact .inr ⟨p, hp, ⟨hh, p.2, vs, g, d, c⟩, hh, g, vs, d, c⟩
structure TurnQ (P : Program) (w : World) (K : PySem.W.Frag) (tg : Expr) (J : It) (fp : List Addr) (it : Addr) (tn : Nat → Heap → Prop) : Prop where
  mem : it ∈ fp
  obj : ∀ i h, tn i h → ∀ b ∈ fp, ∃ o, h.get? b = some o ∧ ∀ v, o.data ≠ .cell v
  keep : ∀ i h h', tn i h → (∀ b ∈ fp, ∀ o, h.get? b = some o → h'.get? b = some o) → tn i h'
  item : ∀ (X : Cx), X.prog = P → X.w = w → X.K = K → Quiet X → ∀ (i : Nat) (pins : List (Addr × Obj)) (s : Shared) (σ : St) (H : Hp) (E : Value → Shared → Prop), Inv X pins σ H s → (∀ b ∈ fp, FpOk X pins H b) → tn i s.heap → J.go i H →
    wpAny (model P w) X.A (pyNext (.ref it)) (fun r s1 => ∃ u, r = some u ∧
      wpAny (model P w) X.A (letOwnedTupleGo tg (.ref it) u) (fun _ s2 => ∃ x H', Inv X pins σ H' s2 ∧ RelV x u ∧ J.yld i H x H' ∧ tn (i + 1) s2.heap ∧ ∀ b ∈ fp, H' b = none) E s1) E s
  done : ∀ (X : Cx), X.prog = P → X.w = w → X.K = K → Quiet X → ∀ (i : Nat) (pins : List (Addr × Obj)) (s : Shared) (σ : St) (H : Hp) (E : Value → Shared → Prop), Inv X pins σ H s → (∀ b ∈ fp, FpOk X pins H b) → tn i s.heap → J.stop i H →
    wpAny (model P w) X.A (pyNext (.ref it)) (fun r s1 => r = none ∧ Inv X pins σ H s1) E s
  self : ∀ (A : Around) (i : Nat) (s : Shared) (Q : Value → Shared → Prop) (E : Value → Shared → Prop), tn i s.heap → Q (.ref it) s → wpAny (model P w) A (pyIter (.ref it)) Q E s
theorem turn_listQ {P : Program} {w : World} {K : PySem.W.Frag} {tg : Expr} (a it : Addr) : TurnQ P w K tg (Itl K a) [it] it (fun i h => h.IsListIter it a i) where
  mem := by simp
  obj := (turn_list (P := P) (w := w) (K := K) (tg := tg) a it).obj
  keep := (turn_list (P := P) (w := w) (K := K) (tg := tg) a it).keep
  self := (turn_list (P := P) (w := w) (K := K) (tg := tg) a it).self
  item := fun X e1 e2 e3 q i pins s σ H E I hf st hg => by
    subst e1 e2 e3
    obtain ⟨xs, x, hq, hx⟩ := hg
    obtain ⟨its, rv, p, hz⟩ := I.list hq
    obtain ⟨u, hu, ru⟩ := rv.get hx
    obtain ⟨f0, f1, f2, f3, f4, f5⟩ := hf it (by simp)
    refine wpAny_pyNext_list_item st p.isList (x := u) (by simpa using hu) fun h2 st2 sb => ?_
    obtain ⟨o, e, c, d⟩ := id st2
    have I2 : Inv X pins σ H { s with heap := h2 } := I.turned (t' := s.toks) (fun b z hb y => (sb.2 b hb).trans y) f0 f1 f3 f4 f5
    refine ⟨u, rfl, go_of (s := { s with heap := h2 }) e c d (by decide) ⟨x, H, I2, ru, ⟨rfl, fun ys hy => ?_⟩, st2, fun b hb => (hf b hb).1⟩⟩
    rw [I.list_inj hy hq]
    exact hx
  done := fun X e1 e2 e3 q i pins s σ H E I hf st hg => by
    subst e1 e2 e3
    obtain ⟨xs, hq, hx⟩ := hg
    obtain ⟨its, rv, p, hz⟩ := I.list hq
    obtain ⟨f0, f1, f2, f3, f4, f5⟩ := hf it (by simp)
    have hl := rv.length
    have out : its.toArray[i]? = none := by
      simp
      omega
    rcases quiet_at q I with hh | ⟨p1, hp, hot, _⟩
    · exact wpAny_pyNext_list_end hh st p.isList out fun h2 eb => ⟨rfl, I.turned (t' := s.toks) (fun b o hb e => eb b o hb e) f0 f1 f3 f4 f5⟩
    · exact list_end_hot hot (f5 p1 (List.mem_append_left _ hp)) st p.isList out fun h2 eb => ⟨rfl, I.turned (t' := s.toks) (fun b o hb e => eb b o hb e) f0 f1 f3 f4 f5⟩
theorem turn_enumQ {P : Program} {w : World} {K : PySem.W.Frag} {elts : List Expr} {kk : Nat} {tpos : Pos} (a e it : Addr) :
    TurnQ P w K (.Tuple elts kk tpos) (Ite K a) [e, it] e (fun i h => (∃ old, IsEnum h e it ((i : Nat) : Int) old) ∧ h.IsListIter it a i ∧ e ≠ it) where
  mem := by simp
  obj := (turn_enum (P := P) (w := w) (K := K) (elts := elts) (kk := kk) (tpos := tpos) a e it).obj
  keep := (turn_enum (P := P) (w := w) (K := K) (elts := elts) (kk := kk) (tpos := tpos) a e it).keep
  self := (turn_enum (P := P) (w := w) (K := K) (elts := elts) (kk := kk) (tpos := tpos) a e it).self
  item := fun X e1 e2 e3 q i pins s σ H E I hf st hg => by
    subst e1 e2 e3
    obtain ⟨⟨old, he⟩, hit, hne⟩ := st
    obtain ⟨xs, x, hq, hx⟩ := hg
    obtain ⟨its, rv, p, hz⟩ := I.list hq
    obtain ⟨u, hu, ru⟩ := rv.get hx
    have le : e < s.heap.objs.size := Heap.lt_size he
    have li : it < s.heap.objs.size := by
      obtain ⟨_, y, _⟩ := hit
      exact Heap.lt_size y
    refine wpAny_pyNext_enum_item he hit p.isList (x := u) (by simpa using hu) hne fun h2 ho hit2 hT hsz hk => ⟨_, rfl, wpAny_letOwnedTupleGo_enum (s := { s with heap := h2, toks := s.toks + 1 }) ho fun h3 he3 sb => ?_⟩
    have hT3 := (sb.2 s.heap.objs.size (Nat.ne_of_gt le)).trans hT
    have new : ObjOk X.prog X.w (upd H s.heap.objs.size (.tup [.int (i : Nat), x])) h3 s.heap.objs.size (.tup [.int (i : Nat), x]) := ⟨(by show 2 ≤ sizeLine; decide), [.int i s.toks, u], .cons ⟨_, rfl⟩ (.cons ru .nil), _, hT3, rfl, _, rfl⟩
    have I3 := I.turnedNew (ch := [e, it]) (t' := s.toks + 1) (h' := h3) (fun b ob hb y => (sb.2 b (fun z => hb (by simp [z]))).trans (hk b ob (fun z => hb (by simp [z])) (fun z => hb (by simp [z])) y)) hf (Nat.le_refl _) new
    refine ⟨.ref s.heap.objs.size, _, I3, rfl, ⟨_, x, rfl, I.hok.fresh (Nat.le_refl _), rfl, fun ys hy => by rw [I.list_inj hy hq]; exact hx⟩, ⟨⟨u, ?_⟩, hit2.at fun o y => (sb.2 it (Ne.symm hne)).trans y, hne⟩, fun b hb => ?_⟩
    · have ei : ((i + 1 : Nat) : Int) = (i : Int) + 1 := by omega
      rw [ei]
      exact he3
    · have lb : b < s.heap.objs.size := by
        rcases (show b = e ∨ b = it by simpa using hb) with z | z
        · rw [z]
          exact le
        · rw [z]
          exact li
      rw [upd_ne (Nat.ne_of_lt lb)]
      exact (hf b hb).1
  done := fun X e1 e2 e3 q i pins s σ H E I hf st hg => by
    subst e1 e2 e3
    obtain ⟨⟨old, he⟩, hit, hne⟩ := st
    obtain ⟨xs, hq, hx⟩ := hg
    obtain ⟨its, rv, p, hz⟩ := I.list hq
    obtain ⟨f0, f1, f2, f3, f4, f5⟩ := hf it (by simp)
    have hl := rv.length
    have out : its.toArray[i]? = none := by
      simp
      omega
    rcases quiet_at q I with hh | ⟨p1, hp, hot, _⟩
    · exact wpAny_pyNext_enum_end hh he hit p.isList out fun h2 eb => ⟨rfl, I.turned (t' := s.toks) (fun b o hb y => eb b o hb y) f0 f1 f3 f4 f5⟩
    · exact enum_end_hot hot (f5 p1 (List.mem_append_left _ hp)) he hit p.isList out fun h2 eb => ⟨rfl, I.turned (t' := s.toks) (fun b o hb y => eb b o hb y) f0 f1 f3 f4 f5⟩
def PIEQ (X : Cx) (pins : List (Addr × Obj)) (σ : St) (tg : Expr) (R : It → Hp → Prop) (itv : Value) (s2 : Shared) : Prop :=
  ∃ (it : Addr) (fp : List Addr) (tn : Nat → Heap → Prop) (J : It) (H' : Hp), itv = .ref it ∧ Inv X pins σ H' s2 ∧ TurnQ X.prog X.w X.K tg J fp it tn ∧ tn 0 s2.heap ∧ (∀ b ∈ fp, FpOk X pins H' b) ∧ R J H'
structure PIQ (X : Cx) (tg iter : Expr) (wi : TI) : Prop where
  run : ∀ (pins : List (Addr × Obj)) (s : Shared) (σ : St) (H : Hp) (R : It → Hp → Prop), Inv X pins σ H s → wi σ H R → wpAny (model X.prog X.w) X.A (eval iter X.env) (fun v s1 => wpAny (model X.prog X.w) X.A (pyIter v) (PIEQ X pins σ tg R) X.xe s1) X.xe s
/-- an ordinary walk where nothing is handled -/
theorem turnQ_of {P : Program} {w : World} {K : PySem.W.Frag} {tg : Expr} {J : It} {fp : List Addr} {it : Addr} {tn : Nat → Heap → Prop} (T : Turn P w K tg J fp it tn) (X : Cx) (h : X.calm = true) : True := trivial
section
variable {X : Cx} {tg : Expr} {K : PySem.W.Frag}
theorem qi_list (hK : X.K = K) {l : Expr} {tl : TE} (hl : PE X l tl) : PIQ X tg l (iList K tl) := by
  subst hK
  refine ⟨fun pins s σ H R I h => ?_⟩
  refine thn (hl.run pins s σ H _ I h) fun v s1 ⟨x, H1, I1, r1, q1⟩ => ?_
  obtain ⟨a, e, ⟨xs, hq⟩, q⟩ := q1
  subst e
  cases r1
  obtain ⟨its, rv, p, hz⟩ := I1.list hq
  refine wpAny_pyIter_list p.isList ⟨s1.heap.objs.size, [s1.heap.objs.size], _, _, H1, rfl, I1.kept (t' := s1.toks) fun b o e => Heap.get?_push_of_some _ e, turn_listQ a _, ⟨_, Heap.get?_push_size _ rfl, rfl, rfl⟩, fun b hb => ?_, q⟩
  rw [List.mem_singleton.mp hb]
  exact I1.fpOk (Nat.le_refl _) (I1.hok.fresh (Nat.le_refl _))
theorem qi_enum (hK : X.K = K) {e : Expr} {ta : TA} {p pos tpos : Pos} {elts : List Expr} {kk : Nat} (hm : X.mg "enumerate" = none) (ha : PA X [e] ta) (hg : Gl X "enumerate" := by rfl) (hs : starEach [e] X.env = [(false, eval e X.env)] := by rfl) :
    PIQ X (.Tuple elts kk tpos) (.Call (.Name "enumerate" p) [e] [] pos) (iEnum K ta) := by
  subst hK
  refine ⟨fun pins s σ H R I h => ?_⟩
  refine Call_ (ld_blt I hg hm boot_enumerate (PyProof.Rows.callWith_type1 (thn (ha.run pos pins s σ H _ I h) fun us s1 ⟨vs, H1, I1, r1, q1⟩ => ?_) hs rfl))
  obtain ⟨a, xs, ex, hq, q⟩ := q1
  subst ex
  cases r1 with
  | cons r rr =>
    cases rr
    cases r
    obtain ⟨its, rv, p', hz⟩ := I1.list hq
    refine call_enumerate_list p'.isList fun h2 he hit hsz hk => wpAny_pyIter_enum he ⟨s1.heap.objs.size + 1, [s1.heap.objs.size + 1, s1.heap.objs.size], _, _, H1, rfl, I1.kept (t' := s1.toks) hk, turn_enumQ a (s1.heap.objs.size + 1) s1.heap.objs.size, ⟨⟨.none, he⟩, hit, Nat.succ_ne_self _⟩, fun b hb => ?_, q⟩
    have le : s1.heap.objs.size ≤ b := by
      rcases (show b = s1.heap.objs.size + 1 ∨ b = s1.heap.objs.size by simpa using hb) with z | z
      · rw [z]
        exact Nat.le_succ _
      · rw [z]
        exact Nat.le_refl _
    exact I1.fpOk le (I1.hok.fresh le)
/-- for, whatever is handled -/
theorem qs_for {iter : Expr} {body : List Stmt} {wi : TI} {g : TG} {tb : TS} {pos : Pos} (hp : PassesOwn (model X.prog X.w) X.A X.env X.xe) (hc : Quiet X) (hi : PIQ X tg iter wi) (hg : PG X tg g) (hb : PSs X body tb)
    (hs : ∀ x, foldedSetIterable iter X.env x = pure x := by intro _; rfl) : PS X (.For tg iter body [] pos) (tFor wi g tb) := by
  refine ⟨fun pins s σ H D I h => ?_⟩
  refine wpAny_For (thn (hi.run pins s σ H _ I h) fun v s1 h1 => thn h1 fun itv s2 ⟨it, fp, tn, J, H2, e, I2, T, st2, f2, W, ⟨m0, w0⟩, turn⟩ => ?_) hs
  subst e
  have still : ∀ {G : Hp}, (∀ b ∈ fp, G b = none) → ∀ b ∈ fp, FpOk X pins G b := fun hn b hb => ⟨hn b hb, (f2 b hb).2⟩
  refine codeAny_forLoop_any (fun n s' => ∃ i τ G, Inv X pins τ G s' ∧ tn i s'.heap ∧ (∀ b ∈ fp, G b = none) ∧ W i n τ G) (fun n s3 ⟨i, σ3, H3, I3, st3, fr3, w3⟩ => ?_) m0 ⟨0, σ, H2, I2, st2, fun b hb => (f2 b hb).1, w0⟩
  rcases turn i n σ3 H3 w3 with ⟨stop, qn⟩ | ⟨go, N, hN, step⟩
  · refine wpAny_passesOwn hp (thn (T.done X rfl rfl rfl hc i pins s3 σ3 H3 X.xe I3 (still fr3) st3 stop) fun r s4 ⟨hr, I4⟩ => ?_)
    subst hr
    exact wpAny_execs_nil ⟨σ3, H3, I4, qn⟩
  · refine wpAny_passesOwn hp (thn (T.item X rfl rfl rfl hc i pins s3 σ3 H3 X.xe I3 (still fr3) st3 go) fun r s4 ⟨u, hr, h4⟩ => ?_)
    subst hr
    refine wpAny_passesOwn hp (thn h4 fun _ s5 ⟨x, H5, I5, r5, y5, st5, fr5⟩ => ?_)
    refine wpAny_passesOwn hp (thn (hg.run _ s5 σ3 H5 x u _ (I5.pinned (still fr5) (T.obj _ _ st5)) r5 (step x H5 y5)) fun _ s6 ⟨σ6, H6, I6, q6⟩ => ?_)
    refine wpAny_passesOwn hp (thn (hb.run _ s6 σ6 H6 _ I6 q6) fun f s7 q7 => ?_)
    have pinned : ∀ {τ : St} {G : Hp}, Inv X (pins ++ pinsAt fp s5.heap) τ G s7 → ∀ b ∈ fp, ∀ o, s5.heap.get? b = some o → s7.heap.get? b = some o ∧ G b = none := fun J b hb o e =>
      let z := J.pin (b, o) (List.mem_append_right _ (List.mem_append_right _ (mem_pinsAt hb e)))
      ⟨z.1, z.2.1⟩
    have again : ∀ {τ : St} {G : Hp}, Inv X (pins ++ pinsAt fp s5.heap) τ G s7 → N τ G → ∃ m, m < n ∧ ∃ i τ G, Inv X pins τ G s7 ∧ tn i s7.heap ∧ (∀ b ∈ fp, G b = none) ∧ W i m τ G := fun {τ G} J nn => by
      obtain ⟨m', hm, w7⟩ := hN τ G nn
      refine ⟨m', hm, i + 1, τ, G, J.unpinned, T.keep _ _ _ st5 fun b hb o e => (pinned J b hb o e).1, fun b hb => ?_, w7⟩
      obtain ⟨o, e, _⟩ := T.obj _ _ st5 b hb
      exact (pinned J b hb o e).2
    cases f with
    | next =>
      obtain ⟨τ, G, J, n7⟩ := q7
      exact again J n7
    | cont =>
      obtain ⟨τ, G, J, n7⟩ := q7
      exact again J n7
    | brk =>
      obtain ⟨τ, G, J, n7⟩ := q7
      exact ⟨τ, G, J.unpinned, n7⟩
    | ret v =>
      obtain ⟨x7, τ, G, J, r7, n7⟩ := q7
      exact ⟨x7, τ, G, J.unpinned, r7, n7⟩
/-- a, b, .. = a tuple -/
theorem qg_tup (hK : X.K = K) {es : List Expr} {k : Nat} {pos : Pos} {t : TGs} {n : Nat} (hc : Quiet X) (h : PGs X es t) (hn : (assignEach es X.env).length = n := by rfl) (hst : (assignEach es X.env).findIdx? (·.1) = none := by rfl) :
    PG X (.Tuple es k pos) (gTup K n t) := by
  subst hK
  refine ⟨fun pins s σ H v u Q I r hw => ?_⟩
  obtain ⟨a, xs, e1, hq, hl, hw⟩ := hw
  subst e1
  cases r
  obtain ⟨its, rv, ht, hz⟩ := I.tuple hq
  have len : (assignEach es X.env).length = its.toArray.size := by simp [hn, ← hl, rv.length]
  have go : ∀ h2, Heap.ExtBut s.heap.objs.size s.heap h2 → wpAny (model X.prog X.w) X.A (assignInOrder ((assignEach es X.env).map (·.2)) its.toArray.toList) (fun _ s' => ∃ σ' H', Inv X pins σ' H' s' ∧ Q σ' H') X.xe { s with heap := h2 } := fun h2 hx => by
    have I1 : Inv X pins σ H { s with heap := h2 } := I.kept (t' := s.toks) fun b o e => hx b o (Nat.ne_of_lt (Heap.lt_size e)) e
    exact h.run pins _ σ H xs _ Q I1 (by simpa using rv) hw
  rcases quiet_at hc I with hh | ⟨p1, hp, hot, _⟩
  · exact assign_Tuple_tuple hh ht len hst go
  · exact assign_tuple_hot hot ht len hst go
theorem qr_sum (hK : X.K = K) (hc : Quiet X) : CallR X (.builtin "sum") (rSum K) := by
  subst hK
  rcases hc with hc | ⟨p, ⟨hh, vs1, d1, c1⟩, hp⟩
  · exact cr_sum hc
  intro pins s σ H vs us Q I r h
  obtain ⟨a, ns, rfl, hs, q⟩ := h
  obtain ⟨its, rv, hl, _⟩ := I.list hs
  rw [Vals.ref1 r]
  have hi := rv.ints
  have gp := (I.pin p (List.mem_append_left _ hp)).1
  obtain ⟨xs, e⟩ := hi.allInts.items
  have hn : numsOf (intItems xs).toList = ns := by rw [← e]; exact hi.numsOf
  rw [nums_intItems] at hn
  have hl := hl.isList
  rw [e] at hl
  refine call_sum_walkG (iter_intList hl fun s2 e2 st hfp hne => ?_)
  subst e2
  have ne1 : p.1 ≠ s.heap.objs.size := Nat.ne_of_lt (Heap.lt_size gp)
  refine ⟨_, _, _, _, _, _, numAt xs, rfl, walks_hot (A := X.A.in1) (x1 := p.1) hh p.2 ⟨vs1, d1, c1⟩ hne ne1 (intItems xs), ⟨st.1, st.2, Heap.get?_push_of_some _ gp⟩, fun b hb => ?_, (fun _ _ => intItems_at), fun h' tk t' hk => ?_⟩
  · rcases (show b = s.heap.objs.size ∨ b = a ∨ b = p.1 by simpa using hb) with z | z | z
    · exact hfp b (by simp [z])
    · exact hfp b (by simp [z])
    · rw [z]
      exact Heap.lt_size (Heap.get?_push_of_some _ gp)
  · refine ⟨.int _, H, I.kept fun b o eo => hk b o (fun hm => ?_) (Heap.get?_push_of_some _ eo), ⟨t', ?_⟩, q⟩
    · have z := List.mem_singleton.mp hm
      rw [z] at eo
      exact absurd (Heap.lt_size eo) (Nat.lt_irrefl _)
    · rw [preSum_eq, List.take_of_length_le (by simp [intItems]), hn]
theorem qr_all (hK : X.K = K) (hc : Quiet X) : CallR X (.builtin "all") (rAll K) := by
  subst hK
  rcases hc with hc | ⟨p, ⟨hh, vs1, d1, c1⟩, hp⟩
  · exact cr_all hc
  intro pins s σ H vs us Q I r h
  obtain ⟨a, bs, rfl, hs, q⟩ := h
  obtain ⟨its, rv, hl, _⟩ := I.list hs
  rw [Vals.ref1 r]
  have hb := rv.bls
  have gp := (I.pin p (List.mem_append_left _ hp)).1
  refine call_all_walk (iter_any hl.isList fun s2 e2 st hne => ?_)
  subst e2
  have ne1 : p.1 ≠ s.heap.objs.size := Nat.ne_of_lt (Heap.lt_size gp)
  refine ⟨_, _, _, _, _, _, _, rfl, walks_hot (A := X.A.in1) (x1 := p.1) hh p.2 ⟨vs1, d1, c1⟩ hne ne1 its.toArray, ⟨st.1, st.2, Heap.get?_push_of_some _ gp⟩, truth_bools hb, fun h' tk hk => ?_⟩
  refine ⟨.bl _, H, I.kept fun b o eo => hk b o (fun hm => ?_) (Heap.get?_push_of_some _ eo), ?_, q⟩
  · have z := List.mem_singleton.mp hm
    rw [z] at eo
    exact absurd (Heap.lt_size eo) (Nat.lt_irrefl _)
  · show Value.bool _ = Value.bool _
    rw [← L2.all_range, hb, List.size_toArray, List.length_map]
/-! ### list comprehensions -/
abbrev blkQ (X : Cx) (s : Shared) (H : Hp) (scope : Scope) (cenv : Env) (fp : List Addr) : Cx := { X.blk s H scope cenv fp with pn := X.pn }
theorem quiet_blk {s : Shared} {H : Hp} {scope : Scope} {cenv : Env} {fp : List Addr} (q : Quiet X) : Quiet (blkQ X s H scope cenv fp) := q
theorem block_startQ {pins : List (Addr × Obj)} {σ : St} {H : Hp} {s : Shared} {scope : Scope} {own : List (Str × Nat)} {fp : List Addr} (I : Inv X pins σ H s) (ok : BlkOk X.N X.env.scope scope own) (hN : X.N.Nodup) (hfp : ∀ b ∈ fp, FpOk X pins H b ∧ b < s.heap.objs.size) :
    Inv (blkQ X s H scope (compEnvC scope (cellsFrom (s.heap.objs.size + 1) scope.names (cloFrom X.env.cells scope.names [])) s.heap.objs.size X.env) fp) [] (wipe σ (own.map (·.2))) H { s with heap := pushCells (s.heap.push { cls := .type "dict", data := .dict #[] }) scope.names } := by
  have J := block_start I ok hN hfp
  have ok2 := J.ok
  refine ⟨⟨ok2.mod, ok2.kind, ok2.glob, ok2.blt, ok2.above, ok2.inj, ok2.has, ok2.cab, ok2.hd, ok2.frames, ok2.stk, ok2.exf, ok2.bs, ok2.bsz, ok2.noex, ok2.exfs, ok2.funs, ok2.frf⟩, J.os, J.bare, J.base, J.loc, J.cell, J.free, J.freeC, fun p hp => ?_, J.hok, J.len⟩
  have hp : p ∈ X.pn := by simpa using hp
  obtain ⟨g1, g2, g3, g4, g5⟩ := I.pin p (List.mem_append_left _ hp)
  refine ⟨pushCells_keeps _ _ _ _ (Heap.get?_push_of_some _ g1), g2, Nat.ne_of_lt (Heap.lt_size g1), fun z => ?_, g5⟩
  rcases List.mem_cons.mp (I.stkSub p.1 z) with z | z
  · exact g3 z
  · exact g4 z
theorem lc_coreQ {pins : List (Addr × Obj)} {s : Shared} {σ : St} {H : Hp} {Q : VK} {elt iter : Expr} {ifs : List Expr} {scope : Scope} {own : List (Str × Nat)} {pos pos' : Pos} {wi : TI} {g : TG} {tt : TT} {te : TE} {use : Option (Value → Sem Unit)} {Qf : Value → Shared → Prop}
    (hc : Quiet X) (hN : X.N.Nodup) (I : Inv X pins σ H s) (hi : PIQ X tg iter wi) (ok : BlkOk X.N X.env.scope scope own)
    (hg : ∀ s H C cl fp, PG (blkQ X s H scope (compEnvC scope cl C X.env) fp) tg g) (ht : ∀ s H C cl fp, PTs (blkQ X s H scope (compEnvC scope cl C X.env) fp) ifs tt)
    (he : ∀ s H C cl fp, PE (blkQ X s H scope (compEnvC scope cl C X.env) fp) elt te) (hs : ∀ x, foldedSetIterable iter X.env x = pure x) (h : tLc wi g tt te (own.map (·.2)) σ H Q)
    (hRR : ∀ D C s' m H', Inv X pins σ H' s' → Q (.ref D) H' → s'.heap.Ns C m → FpOk X pins H' C → compPost (model X.prog X.w) X.A X.xe use Qf (.ref D) C (.ok .next) s') :
    wpAny (model X.prog X.w) X.A (comprehension (.ListComp elt [⟨tg, iter, ifs, 0⟩] scope pos) scope X.env pos' (newList []) false (eval iter X.env) use) Qf X.xe s := by
  have clo : ∀ y ∈ scope.names, y.2 = .free → ∃ c, X.env.cells.lookup y.1 = some c := fun y hy e => (ok.free y hy e).elim (fun k => I.ok.has _ (.inl k)) fun k => I.ok.has _ (.inr k)
  refine wpAny_comprehension_free (use := use) rfl hs (closure_ok clo) ok.kind (fun y hy e => by rw [ok.uniq y hy, e]) (thn (hi.run pins s σ H _ I h) fun xv s1 hx => thn hx fun itv s2 ⟨it, fp, tn, J, H2, e, I2, T, st2, f2, q⟩ => ?_)
  subst e
  refine wpAny_newObj_type (newEnv_comp ?_) (by show 0 ≤ sizeLine; decide)
  generalize hD : s2.heap.objs.size = D
  obtain ⟨W, ⟨m0, w0⟩, turn⟩ := q D (I2.hok.fresh (Nat.le_of_eq hD))
  generalize hs3 : ({ s2 with heap := s2.heap.push { cls := .type "list", data := .seq ([] : List Value).toArray } } : Shared) = s3
  have h3 : s3.heap = s2.heap.push { cls := .type "list", data := .seq ([] : List Value).toArray } := by rw [← hs3]
  have I3 : Inv X pins σ (upd H2 D (.lst [])) s3 := by
    rw [← hs3]
    refine I2.laid (t' := s2.toks) (fun b o y => Heap.get?_push_of_some _ y) (Nat.le_of_eq hD) ⟨Nat.zero_le _, [], 0, .nil, ?_⟩
    rw [← hD]
    exact Heap.get?_push_size _ rfl
  have small : ∀ b ∈ fp, b < s2.heap.objs.size := fun b hb => (T.obj _ _ st2 b hb).elim fun o y => Heap.lt_size y.1
  have f3 : ∀ b ∈ fp, FpOk X pins (upd H2 D (.lst [])) b ∧ b < s3.heap.objs.size := fun b hb => by
    refine ⟨⟨?_, (f2 b hb).2⟩, ?_⟩
    · rw [upd_ne (by rw [← hD]; exact Nat.ne_of_lt (small b hb))]
      exact (f2 b hb).1
    · rw [h3, Heap.size_push]
      exact Nat.lt_succ_of_lt (small b hb)
  have st3 : tn 0 s3.heap := T.keep _ _ _ st2 fun b _ o y => by rw [h3]; exact Heap.get?_push_of_some _ y
  have I4 := block_startQ I3 ok hN f3
  have pg := hg s3 (upd H2 D (.lst [])) s3.heap.objs.size (cellsFrom (s3.heap.objs.size + 1) scope.names (cloFrom X.env.cells scope.names [])) fp
  have pt := ht s3 (upd H2 D (.lst [])) s3.heap.objs.size (cellsFrom (s3.heap.objs.size + 1) scope.names (cloFrom X.env.cells scope.names [])) fp
  have pe := he s3 (upd H2 D (.lst [])) s3.heap.objs.size (cellsFrom (s3.heap.objs.size + 1) scope.names (cloFrom X.env.cells scope.names [])) fp
  show codeAny _ _ (.compStart (.ListComp elt [⟨tg, iter, ifs, 0⟩] scope pos) 0 (.ref it) (.ref D) (compEnvC scope (cellsFrom (s3.heap.objs.size + 1) scope.names (cloFrom X.env.cells scope.names [])) s3.heap.objs.size X.env)) (compPost (model X.prog X.w) X.A X.xe use Qf (.ref D) s3.heap.objs.size) { s3 with heap := pushCells (s3.heap.push { cls := .type "dict", data := .dict #[] }) scope.names }
  have n3 : ∀ b ∈ fp, (upd H2 D (.lst [])) b = none := fun b hb => (f3 b hb).1.1
  generalize hce : compEnvC scope (cellsFrom (s3.heap.objs.size + 1) scope.names (cloFrom X.env.cells scope.names [])) s3.heap.objs.size X.env = ce at I4 pg pt pe ⊢
  have cL : ce.locals = s3.heap.objs.size := by subst hce; rfl
  generalize hH3 : upd H2 D (.lst []) = H3 at I3 I4 pg pt pe w0 n3 f3
  generalize hs4 : ({ s3 with heap := pushCells (s3.heap.push { cls := .type "dict", data := .dict #[] }) scope.names } : Shared) = s4 at I4 ⊢
  have st4 : tn 0 s4.heap := T.keep _ _ _ st3 fun b _ o y => by rw [← hs4]; exact pushCells_keeps _ _ _ _ (Heap.get?_push_of_some _ y)
  have still : ∀ {τ : St} {G : Hp} {z : Shared}, Inv (blkQ X s3 H3 scope ce fp) [] τ G z → (∀ b ∈ fp, G b = none) → ∀ b ∈ fp, FpOk (blkQ X s3 H3 scope ce fp) [] G b := fun {τ G z} Jz hn b hb => by
    refine ⟨hn b hb, (Jz.ok.exf b hb).1, Jz.ok.exfs b hb, .inl hb, fun x c y => (Jz.ok.exf b hb).2 x c y, fun p hp => ?_⟩
    have hp : p ∈ X.pn := by simpa using hp
    exact (f2 b hb).2.2.2.2.2 p (List.mem_append_left _ hp)
  have loop : codeAny (model X.prog X.w) X.A (.compLoop (.ListComp elt [⟨tg, iter, ifs, 0⟩] scope pos) 0 (.ref it) (.ref D) ce) (compPost (model X.prog X.w) X.A X.xe use Qf (.ref D) s3.heap.objs.size) s4 := by
    refine compLoop_any (fun n z => ∃ i G, Inv (blkQ X s3 H3 scope ce fp) [] (wipe σ (own.map (·.2))) G z ∧ tn i z.heap ∧ (∀ b ∈ fp, G b = none) ∧ W i n G) (fun n s5 ⟨i, H5, I5, st5, n5, w5⟩ => ?_) m0 ⟨0, H3, I4, st4, n3, w0⟩
    rcases turn i n H5 w5 with ⟨stop, qq⟩ | ⟨go, Nx, hNx, step⟩
    · refine thnF (T.done (blkQ X s3 H3 scope ce fp) rfl rfl rfl (quiet_blk hc) i [] s5 _ H5 (fun _ _ => False) I5 (still I5 n5) st5 stop) fun r s6 ⟨hr, I6⟩ => ?_
      subst hr
      have I7 : Inv X pins σ H5 s6 := I3.call' (ch := fp) I6.os I6.base I6.hok I6.bare fun b hb => ⟨(f3 b hb).1.2.2.2.1, (f3 b hb).1.2.1, (f3 b hb).1.2.2.2.2.1, (f3 b hb).1.2.2.2.2.2⟩
      have nC : H5 s3.heap.objs.size = none := by
        rw [← cL]
        exact I6.free
      obtain ⟨m, hn, _⟩ := I6.loc
      have hn : s6.heap.Ns ce.locals m := hn
      rw [cL] at hn
      exact hRR D s3.heap.objs.size s6 m H5 I7 qq hn (I3.fpOk (Nat.le_refl _) nC)
    · refine thnF (T.item (blkQ X s3 H3 scope ce fp) rfl rfl rfl (quiet_blk hc) i [] s5 _ H5 (fun _ _ => False) I5 (still I5 n5) st5 go) fun r s6 ⟨u, hr, h6⟩ => ?_
      subst hr
      refine thnF h6 fun _ s7 ⟨x, H7, I7, r7, y7, st7, n7⟩ => ?_
      refine thnF (pg.run _ s7 _ H7 x u _ (I7.pinned (still I7 n7) (T.obj _ _ st7)) r7 (step x H7 y7)) fun _ s8 ⟨σ8, H8, I8, hw8, q8⟩ => ?_
      refine thnF (pt.run _ s8 σ8 H8 _ I8 q8) fun b s9 ⟨H9, I9, q9⟩ => ?_
      have pinned : ∀ {G : Hp} {z : Shared}, Inv (blkQ X s3 H3 scope ce fp) ([] ++ pinsAt fp s7.heap) σ8 G z → ∀ b ∈ fp, ∀ o, s7.heap.get? b = some o → z.heap.get? b = some o ∧ G b = none := fun Jz b hb o y =>
        let k := Jz.pin (b, o) (List.mem_append_right _ (List.mem_append_right _ (mem_pinsAt hb y)))
        ⟨k.1, k.2.1⟩
      have fin : ∀ {z : Shared} {G : Hp}, Inv (blkQ X s3 H3 scope ce fp) ([] ++ pinsAt fp s7.heap) σ8 G z → Nx G → ∃ m, m < n ∧ ∃ i G, Inv (blkQ X s3 H3 scope ce fp) [] (wipe σ (own.map (·.2))) G z ∧ tn i z.heap ∧ (∀ b ∈ fp, G b = none) ∧ W i m G := fun {z G} Jz nx => by
        obtain ⟨m', hm, w'⟩ := hNx G nx
        refine ⟨m', hm, i + 1, G, (Jz.unpinned (pins := [])).weak (by rw [← hw8, wipe_length]) (fun j v y => ?_), T.keep _ _ _ st7 fun b hb o y => (pinned Jz b hb o y).1, fun b hb => ?_, w'⟩
        · rw [← hw8] at y
          exact (wipe_some y).1
        · obtain ⟨o, y, _⟩ := T.obj _ _ st7 b hb
          exact (pinned Jz b hb o y).2
      cases b with
      | false =>
        simp only [Bool.false_eq_true, if_false] at q9 ⊢
        exact fin I9 q9
      | true =>
        simp only [if_true] at q9 ⊢
        refine thnF (pe.run _ s9 σ8 H9 _ I9 q9) fun z s10 ⟨yv, H10, I10, r10, acc, hD10, hz10, nx⟩ => ?_
        exact app_ok (X := blkQ X s3 H3 scope ce fp) I10 hD10 hz10 r10 fun s11 I11 => fin I11 nx
  exact codeAny_compStart_list loop (T.self X.A 0 _ _ _ st4 loop)
/-- [e for .. in .. if ..] as a value -/
theorem qe_lc {elt iter : Expr} {ifs : List Expr} {scope : Scope} {own : List (Str × Nat)} {pos : Pos} {wi : TI} {g : TG} {tt : TT} {te : TE} (hc : Quiet X) (hN : X.N.Nodup) (hi : PIQ X tg iter wi) (ok : BlkOk X.N X.env.scope scope own)
    (hg : ∀ s H C cl fp, PG (blkQ X s H scope (compEnvC scope cl C X.env) fp) tg g) (ht : ∀ s H C cl fp, PTs (blkQ X s H scope (compEnvC scope cl C X.env) fp) ifs tt)
    (he : ∀ s H C cl fp, PE (blkQ X s H scope (compEnvC scope cl C X.env) fp) elt te) (hs : ∀ x, foldedSetIterable iter X.env x = pure x := by intro _; rfl) :
    PE X (.ListComp elt [⟨tg, iter, ifs, 0⟩] scope pos) (tLc wi g tt te (own.map (·.2))) := by
  refine ⟨fun pins s σ H Q I h => ?_⟩
  rw [eval_ListComp]
  refine lc_coreQ hc hN I hi ok hg ht he hs h fun D C s' m H' J q hn ⟨f0, f1, f2, f3, f4, f5⟩ => ⟨m, hn, fun h'' sb => ⟨.ref D, H', J.turned (t' := s'.toks) (fun b o hb e => (sb.2 b hb).trans e) f0 f1 f3 f4 f5, rfl, q⟩⟩
end
/-! ### rules by what is tracked -/
section
variable {X : Cx} {K : PySem.W.Frag}
def rIL : R2 := fun x y H Q => ∃ p xs i v, x = .ref p ∧ y = .int i ∧ H p = some (.lst xs) ∧ atI xs i = some v ∧ Q v H
def rIT : R2 := fun x y H Q => ∃ p xs i v, x = .ref p ∧ y = .int i ∧ H p = some (.tup xs) ∧ atI xs i = some v ∧ Q v H
theorem ixl : IxR X rIL := fun a b pins s σ H x y v u Q I rx ry ⟨p, xs, i, z, e1, e2, h, e3, q⟩ hs => ix_list a b pins s σ H x y v u Q I rx ry ⟨p, xs, i, z, e1, e2, SqL.of h, e3, q⟩ hs
theorem ixt : IxR X rIT := fun a b pins s σ H x y v u Q I rx ry ⟨p, xs, i, z, e1, e2, h, e3, q⟩ hs => ix_tup a b pins s σ H x y v u Q I rx ry ⟨p, xs, i, z, e1, e2, SqT.of h, e3, q⟩ hs
def rLnL : List V → Hp → VK → Prop := fun vs H Q => ∃ p xs, vs = [.ref p] ∧ H p = some (.lst xs) ∧ Q (.int xs.length) H
def rLnT : List V → Hp → VK → Prop := fun vs H Q => ∃ p xs, vs = [.ref p] ∧ H p = some (.tup xs) ∧ Q (.int xs.length) H
theorem c_lenL : CallR X (.builtin "len") rLnL := fun pins s σ H vs us Q I r ⟨p, xs, e, h, q⟩ => call_len_seq pins s σ H vs us Q I r ⟨p, xs, e, .inl (SqL.of h), q⟩
theorem c_lenT : CallR X (.builtin "len") rLnT := fun pins s σ H vs us Q I r ⟨p, xs, e, h, q⟩ => call_len_seq pins s σ H vs us Q I r ⟨p, xs, e, .inr (SqT.of h), q⟩
def rSm : List V → Hp → VK → Prop := fun vs H Q => ∃ a ns, vs = [V.ref a] ∧ H a = some (.lst (List.map V.int ns)) ∧ Q (.int ns.sum) H
def rAa : List V → Hp → VK → Prop := fun vs H Q => ∃ a bs, vs = [V.ref a] ∧ H a = some (.lst (List.map V.bl bs)) ∧ Q (.bl (bs.all id)) H
theorem c_sum (q : Quiet X) : CallR X (.builtin "sum") rSm := fun pins s σ H vs us Q I r ⟨a, ns, e, h, k⟩ => qr_sum rfl q pins s σ H vs us Q I r ⟨a, ns, e, SqL.of h, k⟩
theorem c_all (q : Quiet X) : CallR X (.builtin "all") rAa := fun pins s σ H vs us Q I r ⟨a, bs, e, h, k⟩ => qr_all rfl q pins s σ H vs us Q I r ⟨a, bs, e, SqL.of h, k⟩
def rMx : List V → Hp → VK → Prop := fun vs H Q => ∃ a ns, vs = [V.ref a] ∧ H a = some (.lst (List.map V.int ns)) ∧ 0 < ns.length ∧ ∀ m, m ∈ ns → (∀ y, y ∈ ns → y ≤ m) → Q (.int m) H
def rMn : List V → Hp → VK → Prop := fun vs H Q => ∃ a ns, vs = [V.ref a] ∧ H a = some (.lst (List.map V.int ns)) ∧ 0 < ns.length ∧ ∀ m, m ∈ ns → (∀ y, y ∈ ns → m ≤ y) → Q (.int m) H
theorem c_max (hc : X.calm = true) : CallR X (.builtin "max") rMx := fun pins s σ H vs us Q I r ⟨a, ns, e, h, k⟩ => cr_max hc pins s σ H vs us Q I r ⟨a, ns, e, SqL.of h, k⟩
theorem c_min (hc : X.calm = true) : CallR X (.builtin "min") rMn := fun pins s σ H vs us Q I r ⟨a, ns, e, h, k⟩ => cr_min hc pins s σ H vs us Q I r ⟨a, ns, e, SqL.of h, k⟩
def rEqQ : R2 := fun x y H Q => ∃ d e, Dq H x d ∧ Dq H y e ∧ SeqAt.shaped d = true ∧ SeqAt.shaped e = true ∧ Q (.bl (PyData.eqv d e)) H
def rNeQ : R2 := fun x y H Q => ∃ d e, Dq H x d ∧ Dq H y e ∧ SeqAt.shaped d = true ∧ SeqAt.shaped e = true ∧ Q (.bl (!PyData.eqv d e)) H
theorem o_eqQ (hu : X.A.units + 64 < cLine) : OpR X (compareOp .Eq) rEqQ := fun pins s σ H x y v u Q I rx ry ⟨d, e, h1, h2, h3, h4, q⟩ => op_eqD hu pins s σ H x y v u Q I rx ry ⟨d, e, h1.dp, h2.dp, h3, h4, q⟩
theorem o_neQ (hu : X.A.units + 64 < cLine) : OpR X (compareOp .NotEq) rNeQ := fun pins s σ H x y v u Q I rx ry ⟨d, e, h1, h2, h3, h4, q⟩ => op_neD hu pins s σ H x y v u Q I rx ry ⟨d, e, h1.dp, h2.dp, h3, h4, q⟩
def rLtQ : R2 := fun x y H Q => ∃ a b ns ms, x = .ref a ∧ y = .ref b ∧ H a = some (.tup (List.map V.int ns)) ∧ H b = some (.tup (List.map V.int ms)) ∧ Q (.bl (HT.lexLt ns ms)) H
theorem o_ltQ (hu : X.A.units < cLine) : OpR X (compareOp .Lt) rLtQ := fun pins s σ H x y v u Q I rx ry ⟨a, b, ns, ms, e1, e2, h1, h2, q⟩ => op_ltT hu pins s σ H x y v u Q I rx ry ⟨a, b, ns, ms, e1, e2, SqT.of h1, SqT.of h2, q⟩
def rInQ (neg : Bool) : R2 := fun x y H Q => ∃ p xs, y = .ref p ∧ (H p = some (.lst xs) ∨ H p = some (.tup xs)) ∧ flatV x = true ∧ xs.all flatV = true ∧ Q (.bl (if neg then !inV x xs else inV x xs)) H
theorem o_inQ : OpR X (compareOp .In) (rInQ false) := fun pins s σ H x y v u Q I rx ry ⟨p, xs, e, h, f1, f2, q⟩ => op_in_seq pins s σ H x y v u Q I rx ry ⟨p, xs, e, h.elim (fun h => .inl (SqL.of h)) (fun h => .inr (SqT.of h)), f1, f2, q⟩
theorem o_ninQ : OpR X (compareOp .NotIn) (rInQ true) := fun pins s σ H x y v u Q I rx ry ⟨p, xs, e, h, f1, f2, q⟩ => op_notIn_seq pins s σ H x y v u Q I rx ry ⟨p, xs, e, h.elim (fun h => .inl (SqL.of h)) (fun h => .inr (SqT.of h)), f1, f2, q⟩
/-- in a written tuple of the module -/
theorem o_inK (hK : X.K = K) : OpR X (compareOp .In) (rIn K false) := by
  subst hK
  exact op_in_seq
theorem o_ninK (hK : X.K = K) : OpR X (compareOp .NotIn) (rIn K true) := by
  subst hK
  exact op_notIn_seq
def gT (n : Nat) (t : TGs) : TG := fun v σ H Q => ∃ a xs, v = .ref a ∧ H a = some (.tup xs) ∧ xs.length = n ∧ t xs σ H Q
theorem g_tup {es : List Expr} {k : Nat} {pos : Pos} {t : TGs} {n : Nat} (hc : Quiet X) (h : PGs X es t) (hn : (assignEach es X.env).length = n := by rfl) (hst : (assignEach es X.env).findIdx? (·.1) = none := by rfl) : PG X (.Tuple es k pos) (gT n t) :=
  ⟨fun pins s σ H v u Q I r ⟨a, xs, e, h1, h2, q⟩ => (qg_tup (K := X.K) rfl hc h hn hst).run pins s σ H v u Q I r ⟨a, xs, e, SqT.of h1, h2, q⟩⟩
/-- what kind of thing -/
inductive TyQ (H : Hp) : V → String → Prop
  | non : TyQ H .non "NoneType"
  | bl (b : Bool) : TyQ H (.bl b) "bool"
  | int (i : Int) : TyQ H (.int i) "int"
  | str (x : Str) : TyQ H (.str x) "str"
  | lst {a : Addr} {xs : List V} (h : H a = some (.lst xs)) : TyQ H (.ref a) "list"
  | tup {a : Addr} {xs : List V} (h : H a = some (.tup xs)) : TyQ H (.ref a) "tuple"
def rIsq : List V → Hp → VK → Prop := fun vs H Q => ∃ x c t b, vs = [x, .ty c] ∧ TyQ H x t ∧ kitB t c = some b ∧ Q (.bl b) H
theorem c_isi : CallR X (.builtin "isinstance") rIsq := fun pins s σ H vs us Q I r ⟨x, c, t, b, e, ty, kt, q⟩ => by
  refine call_isi pins s σ H vs us Q I r ⟨x, .ty c, .type t, .type c, b, e, .ty c, ?_, kit_ty kt, q⟩
  cases ty with
  | non => exact .base .non
  | bl b => exact .base (.bl b)
  | int i => exact .base (.int i)
  | str z => exact .base (.str z)
  | lst h => exact .base (.lst h)
  | tup h => exact .base (.tup h)
def rSlQ : V → Option Int → Option Int → Hp → VK → Prop := fun x lo hi H Q => ∃ a xs, x = .ref a ∧ H a = some (.lst xs) ∧ ∀ p, H p = none → Q (.ref p) (upd H p (.lst (cutV xs lo hi)))
theorem s_slQ : SlR X rSlQ := fun pins s σ H x v vl vu lo hi sl Q I rx hs pl pu ⟨a, xs, e, h, q⟩ => sl_list pins s σ H x v vl vu lo hi sl Q I rx hs pl pu ⟨a, xs, e, SqL.of h, q⟩
def rLsQ : List V → Hp → VK → Prop := fun vs H Q => ∃ p xs, vs = [.ref p] ∧ H p = some (.lst xs) ∧ ∀ l, H l = none → Q (.ref l) (upd H l (.lst xs))
def rTuQ : List V → Hp → VK → Prop := fun vs H Q => ∃ p xs, vs = [.ref p] ∧ H p = some (.lst xs) ∧ ∀ l, H l = none → Q (.ref l) (upd H l (.tup xs))
theorem c_lst : CallR X (.type "list") rLsQ := fun pins s σ H vs us Q I r ⟨p, xs, e, h, q⟩ => call_list_of pins s σ H vs us Q I r ⟨p, xs, e, .inl (SqL.of h), q⟩
theorem c_tup : CallR X (.type "tuple") rTuQ := fun pins s σ H vs us Q I r ⟨p, xs, e, h, q⟩ => call_tuple_of pins s σ H vs us Q I r ⟨p, xs, e, .inl ⟨SqL.of h, q⟩⟩
/-! fields -/
section
variable {C : Addr} {o e : Expr} {ta tv : TE} {f : Str} {pos pos' : Pos}
def tF (C : Addr) (f : Str) (ta : TE) : TE := fun σ H Q => ta σ H fun x H1 => ∃ a dx fs v, x = .ref a ∧ H1 a = some (.ins C dx fs) ∧ fs.lookup f = some v ∧ Q v H1
def sF (C : Addr) (f : Str) (ta tv : TE) : TS := fun D σ H => tv σ H fun y H1 => ta σ H1 fun x H2 => ∃ a dx fs, x = .ref a ∧ H2 a = some (.ins C dx fs) ∧ fs.length < 1000 ∧ D.nx σ (upd H2 a (.ins C dx (putF f y fs)))
theorem e_fld (hK : X.K = K) (c : Cls K C) (n : NoAttr K C f) (he : PE X o ta) (hb : attributeBase o f X.env (eval o X.env) = eval o X.env := by rfl) : PE X (.Attribute o f pos) (tF C f ta) := by
  subst hK
  refine ⟨fun pins s σ H Q I h => attr_of hb (thn (he.run pins s σ H _ I h) fun u s1 ⟨x, H1, I1, rx, a, dx, fs, v, ex, ea, l, q⟩ => ?_)⟩
  subst ex
  obtain rfl : u = Value.ref a := rx
  exact getattr_ok I1 ea c n l fun u' s2 I2 ru => ⟨v, H1, I2, ru, q⟩
theorem s_fld (hK : X.K = K) (c : Cls K C) (n : NoAttr K C f) (ho : PE X o ta) (hv : PE X e tv) (hs : swapsWith e (some (.Attribute o f pos')) pos.line X.env = pure false := by rfl) : PS X (.Assign [.Attribute o f pos'] e pos) (sF C f ta tv) := by
  subst hK
  refine ⟨fun pins s σ H D I h => plainObj_wpAny_Assign_Attribute (thn (hv.run pins s σ H _ I h) fun u s1 ⟨y, H1, I1, ry, q⟩ => thn (ho.run pins s1 σ H1 _ I1 q) fun ov s2 ⟨x, H2, I2, rx, a, dx, fs, ex, ea, l, q2⟩ => ?_) hs⟩
  subst ex
  obtain rfl : ov = Value.ref a := rx
  exact setattr_ok I2 ea c n l ry fun s3 I3 => ⟨σ, _, I3, q2⟩
end
/-! what is walked -/
section
variable {tg l e e2 : Expr} {tl : TE} {ta : TA} {elts : List Expr} {kk : Nat} {tpos p pos apos : Pos}
theorem k_list (hK : X.K = K) (h : PE X l tl) : PI X tg l (iList K tl) := by
  subst hK
  exact pi_list h
theorem k_enum (hK : X.K = K) (hm : X.mg "enumerate" = none) (ha : PA X [e] ta) (hg : Gl X "enumerate" := by rfl) (hs : starEach [e] X.env = [(false, eval e X.env)] := by rfl) : PI X (.Tuple elts kk tpos) (.Call (.Name "enumerate" p) [e] [] pos) (iEnum K ta) := by
  subst hK
  exact pi_enum hg hm ha hs
theorem k_zip (hK : X.K = K) (hm : X.mg "zip" = none) (ha : PA X [e, e2] ta) (hg : Gl X "zip" := by rfl)
    (hs : starEach [e, e2] X.env = (false, eval e X.env) :: starEach [e2] X.env := by rfl) (hpl : (backTo pos (starEach [e2] X.env)).any (·.1) = false := by rfl) : PI X (.Tuple elts kk tpos) (.Call (.Name "zip" p) [e, e2] [] pos) (iZip K ta) := by
  subst hK
  exact pi_zip hg hm ha hs hpl
/-- a dict just made, from here on as it is -/
def tFz (td : TE) : TE := fun σ H Q => td σ H fun x H1 => ∃ d kvs, x = .ref d ∧ H1 d = some (.dK kvs) ∧ ∀ o, Q x (upd H1 d (.frz o (.dK kvs)))
theorem e_fz (h : PE X e tl) : PE X e (tFz tl) := by
  refine ⟨fun pins s σ H Q I hq => thn (h.run pins s σ H _ I hq) fun u s1 ⟨x, H1, I1, rx, d, kvs, ex, hd, q⟩ => ?_⟩
  obtain ⟨od, I2⟩ := I1.lock hd trivial
  exact ⟨x, _, I2, rx, q od⟩
end
/-! a list's place read ahead of a store -/
def rGL : V → V → Hp → VK → Prop := fun o i H Q => ∃ (p : Addr) (xs : List V) (j : Nat) (v : V), o = .ref p ∧ i = .int (j : Int) ∧ H p = some (.lst xs) ∧ xs[j]? = some v ∧ Q v H
theorem get_list : PGet X rGL := fun pins s σ H o i ov iv Q I ro ri ⟨p, xs, j, v, e1, e2, h, e3, q⟩ => by
  subst e1 e2
  cases ro
  obtain ⟨t, rfl⟩ := ri
  obtain ⟨its, r, pl, hz⟩ := I.list (SqL.of h)
  obtain ⟨w', ew, rw'⟩ := r.get e3
  have hj : j < xs.length := (List.getElem?_eq_some_iff.mp e3).1
  have hn := line63
  exact wpAny_getItem_list pl.isList (Int.natCast_nonneg j) (by omega) (x := w') (by simpa using ew) ⟨v, H, I, rw', q⟩
/-! name = {..} on one line -/
theorem sw_dict {kx vx : Expr} {gs : List Comprehension} {scope : Scope} {pos py : Pos} {y : Str} {l : Nat} {env : Env} (hk : env.scope.kind = .function) (hy : env.scope.names.lookup y = some .local) (hl : (py.line == pos.line) = true)
    (ha : (scope.names.any fun (n, k) => n == y && (k == .local || k == .cell)) = false) : swapsWith (.DictComp kx vx gs scope pos) (some (.Name y py)) l env = pure true := by
  have ky : env.kindOf y = some .local := hy
  have hb : env.blockKind = .function := by
    unfold Env.blockKind
    rw [hk]
    rfl
  unfold swapsWith
  simp only [hb, ky, ha, Expr.pos, hl]
  rfl
theorem s_setDc {i : Nat} {y : Str} {py : Pos} {kx vx tg iter : Expr} {ifs : List Expr} {scope : Scope} {own : List (Str × Nat)} {pos spos : Pos} {wi : TI} {g : TG} {tt : TT} {tk tv : TE} (hc : X.calm = true) (hN : X.N.Nodup) (hy : X.N[i]? = some y) (hyl : X.env.scope.names.lookup y = some .local)
    (hsw : swapsWith (.DictComp kx vx [⟨tg, iter, ifs, 0⟩] scope pos) (some (.Name y py)) spos.line X.env = pure true) (hi : PI X tg iter wi) (ok : BlkOk X.N X.env.scope scope own)
    (hg : ∀ s H C cl fp, PG (X.blk s H scope (compEnvC scope cl C X.env) fp) tg g) (ht : ∀ s H C cl fp, PTs (X.blk s H scope (compEnvC scope cl C X.env) fp) ifs tt)
    (hk : ∀ s H C cl fp, PE (X.blk s H scope (compEnvC scope cl C X.env) fp) kx tk) (he : ∀ s H C cl fp, PE (X.blk s H scope (compEnvC scope cl C X.env) fp) vx tv) (hs : ∀ x, foldedSetIterable iter X.env x = pure x := by intro _; rfl) :
    PS X (.Assign [.Name y py] (.DictComp kx vx [⟨tg, iter, ifs, 0⟩] scope pos) spos) (tAsg (tDc wi g tt tk tv (own.map (·.2))) (gName i)) := by
  refine ⟨fun pins s σ H D I h => ?_⟩
  rw [exec_Assign_Name_used _ _ _ _ hsw]
  refine wpAny_bind (wpAny_standAt (wpAny_bind ?_))
  show wpAny _ X.A (do let _ ← comprehension (.DictComp kx vx [⟨tg, iter, ifs, 0⟩] scope pos) scope X.env (firstIterPos [⟨tg, iter, ifs, 0⟩] pos) newDict false (eval iter X.env) (some (assign (.Name y py) X.env))) _ _ s
  have h : tDc wi g tt tk tv (own.map (·.2)) σ H (fun x H1 => gName i x σ H1 D.nx) := h
  refine wpAny_bind (thn (dc_core (Qf := fun _ s' => SP X pins D .next s') hc hN I hi ok hg ht hk he hs h fun L C s' m H' J q hn ⟨f0, f1, f2, f3, f4, f5⟩ => ?_) fun _ s' hq => wpAny_pure (wpAny_pure hq))
  show wpAny _ _ (assign (.Name y py) X.env (.ref L)) _ _ _
  refine wpAny_assign_Name (store_ok2 (v := V.ref L) J hN hy (.inl hyl) rfl (fun s2 I2 ⟨a, sb, ha⟩ => ?_) (.inr hyl))
  have ne : C ≠ a := by
    rcases ha with z | z
    · rw [z]
      exact f1
    · exact fun e => f4 y a z e.symm
  exact ⟨m, hn.sameBut sb ne, fun h3 sb3 => ⟨_, H', I2.turned (t' := s2.toks) (fun b o hb e => (sb3.2 b hb).trans e) f0 f1 f3 f4 f5, q⟩⟩
end
/-! ### defs that are called with or without an exception handled -/
/-- room for j calls, and quiet -/
def QR (j : Nat) (X : Cx) : Prop := (X.calm = true ∧ Room j X.A) ∨ (HotC X ∧ RoomH j X.A)
theorem QR.q {j : Nat} {X : Cx} (h : QR j X) : Quiet X := h.elim (fun h => .inl h.1) fun h => .inr h.1
theorem QR.un {j : Nat} {X : Cx} (h : QR j X) : X.A.units + 64 < cLine := h.elim (fun h => by have := h.2.un; omega) fun h => by have := h.2.un; omega
def cxB (P : Program) (w : World) (K : PySem.W.Frag) (mg : Str → Option Value) (base : Heap) (N : List Str) (qual : Str) (scope : Scope) (f : Addr) (cd : Value) (A : Around) (outer : List Env) (s : Shared) (H : Hp) (E : XK) (b : Bool) (pl : List (Addr × Obj)) : Cx :=
  { (cxOf CX0 P w K mg base N qual scope f cd A outer s H E).nox with calm := b, pn := pl }
structure CalQ (P : Program) (w : World) (K : PySem.W.Frag) (mg : Str → Option Value) (base : Heap) (k : Nat) (x : Str) (ps : List Str) (sp : Sp) : Prop where
  ex : ∃ (f : Addr) (fd : FuncData), FnOk P w K mg base CX0 k f fd ps sp ∧ FnH P w K mg base CX0 k f fd ps sp ∧ mg x = some (.ref f) ∧ PySem.W.keepIn K (.ref f) = true ∧ Binds K fd ps []
theorem CalQ.g {P : Program} {w : World} {K : PySem.W.Frag} {mg : Str → Option Value} {base : Heap} {k : Nat} {x : Str} {ps : List Str} {sp : Sp} (c : CalQ P w K mg base k x ps sp) : CalG P w K mg base CX0 k x ps sp := by
  obtain ⟨f, fd, F, _, h1, h2, h3⟩ := c.ex
  exact ⟨f, fd, F, h1, h2, h3⟩
def tK (sp : Sp) (t : TA) : TE := fun σ H Q => t σ H fun vs H1 => sp vs H1 Q E0
section
variable {X : Cx} {k j : Nat} {x : Str} {ps : List Str} {sp : Sp} {p pos : Pos} {e : Expr} {es : List Expr} {t : TA}
theorem FnH.mono {P : Program} {w : World} {K : PySem.W.Frag} {mg : Str → Option Value} {base : Heap} {CX : CXT} {j k : Nat} {f : Addr} {fd : FuncData} {ps : List Str} {sp : Sp} (F : FnH P w K mg base CX j f fd ps sp) (h : j ≤ k) : FnH P w K mg base CX k f fd ps sp :=
  ⟨F.len, fun A outer s H args us vs Q E p hr => F.run A outer s H args us vs Q E p (hr.mono h)⟩
/-- f(e, ..), whatever is handled -/
theorem pkq (c : CalQ X.prog X.w X.K X.mg X.base k x ps sp) (q : QR j X) (hk : k ≤ j) (ha : PA X (e :: es) t) (hg : Gl X x := by rfl)
    (hdb : (x == ("__debug__" : Str)) = false := by decide) (he : starEach (e :: es) X.env = (false, eval e X.env) :: starEach es X.env := by rfl) (hpl : (backTo pos (starEach es X.env)).any (·.1) = false := by rfl) :
    PE X (.Call (.Name x p) (e :: es) [] pos) (tK sp t) := by
  obtain ⟨f, fd, F, F', hm, kp, b⟩ := c.ex
  rcases q with ⟨_, hr⟩ | ⟨hot, hr⟩
  · exact (pe_callS (E := fun _ => E0) F (hr.mono hk) hg hm kp b (fun _ _ _ _ _ _ _ z => False.elim z) ha hdb he hpl : PE X (.Call (.Name x p) (e :: es) [] pos) (tCallS sp (fun _ => E0) t))
  · exact (pe_callH (E := fun _ => E0) F' (hr.mono hk) hot hg hm kp b (fun _ _ _ _ _ _ _ z => False.elim z) ha hdb he hpl : PE X (.Call (.Name x p) (e :: es) [] pos) (tCallS sp (fun _ => E0) t))
end
section
variable {K : PySem.W.Frag} {mg : Str → Option Value} {P : Program} {w : World} {base : Heap}
theorem hot_deeper {A : Around} {p : Addr × Obj} {env : Env} (h : Hot1 A p) : Hot1 (A.deeper env) p := h
/-- THE RULE for such a def -/
theorem calQ (T : Tx K mg) {d : He.DefD} {N ps : List Str} {k : Nat} {sp : Sp} (i : Nat) (hi : fn[i]? = some d) (x : Str) (hx : d.at_ = (x, none)) (hg : x ∈ gloN) (S : FnScope N ps d.scope)
    (hb : ∀ (kV doc pm : Value) (an : Option Addr) (cdv ct : Value) (us : List Value), us.length = ps.length → bindArgs (PySem.W.fnOf d.name d.qual d.params d.body d.scope .none kV doc pm an cdv ct) ⟨us, []⟩ = pure (ps.zip us))
    (len : ∀ vs H Q E, sp vs H Q E → vs.length = ps.length)
    (body : ∀ (cdv : Value) (f : Addr) (A : Around) (outer : List Env) (s : Shared) (H : Hp) (vs : List V) (Q : VK) (E : XK) (b : Bool) (pl : List (Addr × Obj)), QR k (cxB P w K mg base N d.qual d.scope f cdv A outer s H E b pl) → sp vs H Q E →
      ∃ t, PSs (cxB P w K mg base N d.qual d.scope f cdv A outer s H E b pl) d.body t ∧ t { nx := fun _ H' => Q .non H', rt := Q } (start N vs) H) : CalQ P w K mg base (k + 1) x ps sp := by
  obtain ⟨fd, F⟩ := T.defs d (List.mem_of_getElem? hi)
  have ef : He.fAd K d.at_ = He.ga K x := by
    rw [hx]
    rfl
  refine ⟨_, fd, F.ok S len fun cdv A outer s H vs Q E hr h => ?_, ?_, ?_, F.kp, FunD.bindsN F hb⟩
  · obtain ⟨t, h1, h2⟩ := body cdv _ A outer s H vs Q E true [] (.inl ⟨rfl, hr⟩) h
    exact ⟨t, PSs.nox (X := cxOf CX0 P w K mg base N d.qual d.scope _ cdv A outer s H E) h1, h2⟩
  · obtain ⟨oc, od, dV, kV, doc, pm, an, cdv, ct, osl, rfl, lk, hcd, hdf, _⟩ := F.ex
    refine fn_ofH lk hcd S len fun A outer s H vs Q E p hot hr h => ?_
    obtain ⟨t, h1, h2⟩ := body cdv _ A outer s H vs Q E false [p] (.inr ⟨⟨p, hot_deeper hot, List.mem_singleton.mpr rfl⟩, hr⟩) h
    exact ⟨t, PSs.nox (X := cxH CX0 P w K mg base N d.qual d.scope _ cdv A outer s H E p) h1, h2⟩
  · rw [ef]
    exact T.glo x hg
end
theorem un_of {A : Around} {k : Nat} (hr : Room k A) : A.units + 64 < cLine := by
  have := hr.un
  omega
theorem un_lt {A : Around} {k : Nat} (hr : Room k A) : A.units < cLine := by
  have := hr.un
  omega
section
variable {X : Cx} {K : PySem.W.Frag}
theorem ixk (hK : X.K = K) : IxR X (rIxL K) := by
  subst hK
  exact ix_list
def rLnK (K : PySem.W.Frag) : List V → Hp → VK → Prop := fun vs H Q => ∃ p xs, vs = [.ref p] ∧ SqL K H p xs ∧ Q (.int xs.length) H
theorem c_lenK (hK : X.K = K) : CallR X (.builtin "len") (rLnK K) := by
  subst hK
  exact fun pins s σ H vs us Q I r ⟨p, xs, e, h, q⟩ => call_len_seq pins s σ H vs us Q I r ⟨p, xs, e, .inl h, q⟩
end
/-- a class's making -/
structure CalM (P : Program) (w : World) (K : PySem.W.Frag) (mg : Str → Option Value) (base : Heap) (k : Nat) (x : Str) (C : Addr) (ps : List Str) (sp : Sp) : Prop where
  ex : ∃ (f : Addr) (fd : FuncData), Mk K C f ∧ FnOk P w K mg base CX0 k f fd ps sp ∧ mg x = some (.ref C) ∧ Binds K fd ps []
/-- a method -/
structure CalT (P : Program) (w : World) (K : PySem.W.Frag) (mg : Str → Option Value) (base : Heap) (k : Nat) (C : Addr) (m : Str) (ps : List Str) (sp : Sp) : Prop where
  ex : ∃ (f : Addr) (fd : FuncData), Cls K C ∧ Meth K C m f ∧ FnOk P w K mg base CX0 k f fd ps sp ∧ Binds K fd ps []
section
variable {X : Cx} {k j : Nat} {C : Addr} {x m : Str} {ps : List Str} {sp : Sp} {p pos apos : Pos} {e o : Expr} {es : List Expr} {t : TA} {ta : TE}
theorem pmk (c : CalM X.prog X.w X.K X.mg X.base k x C ps sp) (hr : Room j X.A) (hk : k + 1 ≤ j) (ha : PA X (e :: es) t) (hg : Gl X x := by rfl)
    (hdb : (x == ("__debug__" : Str)) = false := by decide) (he : starEach (e :: es) X.env = (false, eval e X.env) :: starEach es X.env := by rfl) (hpl : (backTo pos (starEach es X.env)).any (·.1) = false := by rfl) :
    PE X (.Call (.Name x p) (e :: es) [] pos) (tMake C sp [] E0 t) := by
  obtain ⟨f, fd, M, F, hm, b⟩ := c.ex
  exact pe_make M F (hr.mono hk) hg hm b .nil pass0 ha hdb he hpl
theorem pmt0 {pl : Sem Bool} (c : CalT X.prog X.w X.K X.mg X.base k C m ps sp) (hr : Room j X.A) (hk : k ≤ j) (ho : PE X o ta)
    (ht : eval (.Call (.Attribute o m apos) [] [] pos) X.env = (do
      let ov ← eval o X.env
      standAt apos.atName
      let (f, first) ← holding [ov] (getMethod ov m pl)
      callWith pos f first (backTo pos (starEach [] X.env)) (backToKw pos (keywordEach [] X.env))) := by rfl) :
    PE X (.Call (.Attribute o m apos) [] [] pos) (tMeth C m sp [] E0 ta tNil) := by
  obtain ⟨f, fd, hc, hm, F, b⟩ := c.ex
  exact pe_meth0 (pl := pl) ho hc hm F (hr.mono hk) b .nil pass0 ht
end
section
variable {K : PySem.W.Frag} {mg : Str → Option Value} {P : Program} {w : World} {base : Heap}
/-- .. of a class's __init__ -/
theorem calM (T : Tx K mg) {d : He.DefD} {C : Addr} {N ps : List Str} {k : Nat} {sp : Sp} (i : Nat) (hi : fn[i]? = some d) (x : Str) (M : Mk K C (He.fAd K d.at_)) (hx : mg x = some (.ref C)) (S : FnScope N ps d.scope)
    (hb : ∀ (kV doc pm : Value) (an : Option Addr) (cdv ct : Value) (us : List Value), us.length = ps.length → bindArgs (PySem.W.fnOf d.name d.qual d.params d.body d.scope .none kV doc pm an cdv ct) ⟨us, []⟩ = pure (ps.zip us))
    (len : ∀ vs H Q E, sp vs H Q E → vs.length = ps.length)
    (body : ∀ (cdv : Value) (f : Addr) (A : Around) (outer : List Env) (s : Shared) (H : Hp) (vs : List V) (Q : VK) (E : XK), Room k (A.deeper (envOfC d.qual d.scope s.heap.objs.size f cdv)) → sp vs H Q E →
      ∃ t, PSs (cxOf CX0 P w K mg base N d.qual d.scope f cdv A outer s H E).nox d.body t ∧ t { nx := fun _ H' => Q .non H', rt := Q } (start N vs) H) : CalM P w K mg base (k + 1) x C ps sp := by
  obtain ⟨fd, F⟩ := T.defs d (List.mem_of_getElem? hi)
  refine ⟨_, fd, M, F.ok S len fun cdv A outer s H vs Q E hr h => ?_, hx, FunD.bindsN F hb⟩
  obtain ⟨t, h1, h2⟩ := body cdv _ A outer s H vs Q E hr h
  exact ⟨t, h1.nox, h2⟩
theorem calT (T : Tx K mg) {d : He.DefD} {C : Addr} {N ps : List Str} {k : Nat} {sp : Sp} (i : Nat) (hi : fn[i]? = some d) (m : Str) (c : Cls K C) (M : Meth K C m (He.fAd K d.at_)) (S : FnScope N ps d.scope)
    (hb : ∀ (kV doc pm : Value) (an : Option Addr) (cdv ct : Value) (us : List Value), us.length = ps.length → bindArgs (PySem.W.fnOf d.name d.qual d.params d.body d.scope .none kV doc pm an cdv ct) ⟨us, []⟩ = pure (ps.zip us))
    (len : ∀ vs H Q E, sp vs H Q E → vs.length = ps.length)
    (body : ∀ (cdv : Value) (f : Addr) (A : Around) (outer : List Env) (s : Shared) (H : Hp) (vs : List V) (Q : VK) (E : XK), Room k (A.deeper (envOfC d.qual d.scope s.heap.objs.size f cdv)) → sp vs H Q E →
      ∃ t, PSs (cxOf CX0 P w K mg base N d.qual d.scope f cdv A outer s H E).nox d.body t ∧ t { nx := fun _ H' => Q .non H', rt := Q } (start N vs) H) : CalT P w K mg base (k + 1) C m ps sp := by
  obtain ⟨fd, F⟩ := T.defs d (List.mem_of_getElem? hi)
  refine ⟨_, fd, c, M, F.ok S len fun cdv A outer s H vs Q E hr h => ?_, FunD.bindsN F hb⟩
  obtain ⟨t, h1, h2⟩ := body cdv _ A outer s H vs Q E hr h
  exact ⟨t, h1.nox, h2⟩
end
/-! ### steps of a walk, backwards -/
section
variable {K : PySem.W.Frag} {σ : St} {H H' D : Hp} {Q : VK} {v x y z : V} {i j : Nat} {p p' a C : Addr} {xs ys : List V} {ta tb tc : TE} {t : TA} {tt tu : TT} {sp : Sp} {E : XK} {r r' : R2} {Ed : Ends}
theorem at_same {o : HO} (s : Same H H') (h : H p = some o) : H' p = some o := s _ _ h
theorem at_upd {o o' : HO} (n : H p = none) (h : H a = some o) : upd H p o' a = some o := same_upd n _ _ h
theorem at_mut {o o' : HO} (n : a ≠ p) (h : H a = some o) : upd H p o' a = some o := by rw [upd_ne n]; exact h
theorem atN (e : xs[j]? = some v) : atI xs (j : Int) = some v := by
  have hj : j < xs.length := (List.getElem?_eq_some_iff.mp e).1
  unfold atI ixN
  rw [if_pos (Int.natCast_nonneg j), if_pos (by omega)]
  simpa using e
theorem ixNn {n : Nat} (h : j < n) : ixN n (j : Int) = some j := by
  unfold ixN
  rw [if_pos (Int.natCast_nonneg j), if_pos (by omega)]
  simp
theorem w_var (e : σ[i]? = some (some v)) (q : Q v H) : tVar i σ H Q := ⟨v, e, q⟩
theorem w_c (q : Q v H) : tC v σ H Q := q
theorem w_op (h : ta σ H fun x H1 => tb σ H1 fun y H2 => r x y H2 Q) : tOp r ta tb σ H Q := h
theorem w_un {r : V → Hp → VK → Prop} (h : ta σ H fun x H1 => r x H1 Q) : tUn r ta σ H Q := h
theorem w_cb {r : List V → Hp → VK → Prop} (h : t σ H fun vs H1 => r vs H1 Q) : tCB r t σ H Q := h
theorem w_nil {Q : List V → Hp → Prop} (h : Q [] H) : tNil σ H Q := h
theorem w_cons {Q : List V → Hp → Prop} (h : ta σ H fun x H1 => t σ H1 fun xs H2 => Q (x :: xs) H2) : tCons ta t σ H Q := h
theorem w_call (h : t σ H fun vs H1 => sp vs H1 Q E) : tCall sp [] E t σ H Q := by
  unfold tCall
  simp only [List.append_nil]
  exact h
theorem w_tK (h : t σ H fun vs H1 => sp vs H1 Q E0) : tK sp t σ H Q := h
/-- a field -/
def rF (C : Addr) (f : Str) : V → Hp → VK → Prop := fun x H Q => ∃ a dx fs v, x = .ref a ∧ H a = some (.ins C dx fs) ∧ fs.lookup f = some v ∧ Q v H
theorem w_tF {f : Str} (h : ta σ H fun x H1 => rF C f x H1 Q) : tF C f ta σ H Q := h
theorem w_rF {f : Str} {dx : Addr} {fs : List (Str × V)} (h : H p = some (.ins C dx fs)) (e : fs.lookup f = some v) (q : Q v H) : rF C f (.ref p) H Q := ⟨p, dx, fs, v, rfl, h, e, q⟩
def rSF (C : Addr) (f : Str) : V → V → Hp → (Hp → Prop) → Prop := fun y x H Q => ∃ a dx fs, x = .ref a ∧ H a = some (.ins C dx fs) ∧ fs.length < 1000 ∧ Q (upd H a (.ins C dx (putF f y fs)))
theorem w_sF {f : Str} (h : tb σ H fun y H1 => ta σ H1 fun x H2 => rSF C f y x H2 (Ed.nx σ)) : sF C f ta tb Ed σ H := h
theorem w_rSF {Q : Hp → Prop} {f : Str} {dx : Addr} {fs : List (Str × V)} (h : H p = some (.ins C dx fs)) (l : fs.length < 1000) (q : Q (upd H p (.ins C dx (putF f y fs)))) : rSF C f y (.ref p) H Q := ⟨p, dx, fs, rfl, h, l, q⟩
theorem w_it {n : Int} (h : H p = some (.tup xs)) (e : atI xs n = some v) (q : Q v H) : rIT (.ref p) (.int n) H Q := ⟨p, xs, n, v, rfl, rfl, h, e, q⟩
theorem w_il {n : Int} (h : H p = some (.lst xs)) (e : atI xs n = some v) (q : Q v H) : rIL (.ref p) (.int n) H Q := ⟨p, xs, n, v, rfl, rfl, h, e, q⟩
theorem w_lnL (h : H p = some (.lst xs)) (q : Q (.int xs.length) H) : rLnL [.ref p] H Q := ⟨p, xs, rfl, h, q⟩
theorem w_lnT (h : H p = some (.tup xs)) (q : Q (.int xs.length) H) : rLnT [.ref p] H Q := ⟨p, xs, rfl, h, q⟩
theorem w_lnK (h : SqL K H p xs) (q : Q (.int xs.length) H) : rLnK K [.ref p] H Q := ⟨p, xs, rfl, h, q⟩
theorem w_sm {ns : List Int} (h : H p = some (.lst (ns.map .int))) (q : Q (.int ns.sum) H) : rSm [.ref p] H Q := ⟨p, ns, rfl, h, q⟩
theorem w_aa {bs : List Bool} (h : H p = some (.lst (bs.map .bl))) (q : Q (.bl (bs.all id)) H) : rAa [.ref p] H Q := ⟨p, bs, rfl, h, q⟩
theorem w_tyL {c : String} {b : Bool} (h : H p = some (.lst xs)) (k : kitB "list" c = some b) (q : Q (.bl b) H) : rIsq [.ref p, .ty c] H Q := ⟨_, c, "list", b, rfl, .lst h, k, q⟩
theorem w_tyT {c : String} {b : Bool} (h : H p = some (.tup xs)) (k : kitB "tuple" c = some b) (q : Q (.bl b) H) : rIsq [.ref p, .ty c] H Q := ⟨_, c, "tuple", b, rfl, .tup h, k, q⟩
theorem w_tyI {c : String} {n : Int} {b : Bool} (k : kitB "int" c = some b) (q : Q (.bl b) H) : rIsq [.int n, .ty c] H Q := ⟨_, c, "int", b, rfl, .int n, k, q⟩
theorem w_tyS {c : String} {n : Str} {b : Bool} (k : kitB "str" c = some b) (q : Q (.bl b) H) : rIsq [.str n, .ty c] H Q := ⟨_, c, "str", b, rfl, .str n, k, q⟩
theorem w_i0 {g : Int → Int → V} {m n : Int} (q : Q (g m n) H) : rI0 g (.int m) (.int n) H Q := ⟨m, n, rfl, rfl, q⟩
theorem w_iC {c : Int → Int → Prop} {g : Int → Int → V} {m n : Int} (h : c m n) (q : Q (g m n) H) : rI c g (.int m) (.int n) H Q := ⟨m, n, rfl, rfl, h, q⟩
theorem w_rU {g : Int → V} {m : Int} (q : Q (g m) H) : rU g (.int m) H Q := ⟨m, rfl, q⟩
theorem w_eqI {m n : Int} (q : Q (.bl (decide (m = n))) H) : rEq (.int m) (.int n) H Q := ⟨rfl, by
  have e : decide (V.int m = V.int n) = decide (m = n) := by simp
  rw [e]
  exact q⟩
theorem w_eqS {m n : Str} (q : Q (.bl (decide (m = n))) H) : rEq (.str m) (.str n) H Q := ⟨rfl, by
  have e : decide (V.str m = V.str n) = decide (m = n) := by simp
  rw [e]
  exact q⟩
theorem w_neI {m n : Int} (q : Q (.bl (decide (m ≠ n))) H) : rNe (.int m) (.int n) H Q := ⟨rfl, by
  have e : (!decide (V.int m = V.int n)) = decide (m ≠ n) := by simp
  rw [e]
  exact q⟩
theorem w_neS {m n : Str} (q : Q (.bl (decide (m ≠ n))) H) : rNe (.str m) (.str n) H Q := ⟨rfl, by
  have e : (!decide (V.str m = V.str n)) = decide (m ≠ n) := by simp
  rw [e]
  exact q⟩
end
section
variable {K : PySem.W.Frag} {σ : St} {H H' D : Hp} {Q : VK} {QB : Bool → Hp → Prop} {v x y z : V} {i j : Nat} {p p' a C : Addr} {xs ys : List V} {ta tb tc : TE} {t : TA} {tt tu : TT} {sp : Sp} {E : XK} {r r' : R2} {Ed : Ends} {s1 s2 : TS} {g : TG} {b : Bool}
def rMk (C : Addr) (sp : Sp) (E : XK) (vs : List V) (H : Hp) (Q : VK) : Prop := ∀ x dx, H x = none → H dx = none → dx ≠ x → sp (.ref x :: vs) (upd (upd H dx (.own x)) x (.ins C dx [])) (fun v H2 => v = .non ∧ Q (.ref x) H2) E
def rMt (C : Addr) (m : Str) (sp : Sp) (E : XK) (x : V) (H : Hp) (Q : VK) : Prop := ∃ a dx fs, x = .ref a ∧ H a = some (.ins C dx fs) ∧ fs.lookup m = none ∧ sp [x] H Q E
theorem w_mt0 {m : Str} (h : ta σ H fun x H1 => rMt C m sp E x H1 Q) : tMeth C m sp [] E ta tNil σ H Q := h
theorem w_rMt {m : Str} {dx : Addr} {fs : List (Str × V)} (h : H p = some (.ins C dx fs)) (e : fs.lookup m = none) (q : sp [.ref p] H Q E) : rMt C m sp E (.ref p) H Q := ⟨p, dx, fs, rfl, h, e, q⟩
/-- what is asked of a truth -/
def rB (QB : Bool → Hp → Prop) : VK := fun x H1 => ∃ c, x = .bl c ∧ QB c H1
theorem w_tB (h : ta σ H (rB QB)) : tB ta σ H QB := h
theorem w_tTest (h : ta σ H (rB QB)) : tTest ta σ H QB := h
theorem w_rB (q : QB b H) : rB QB (.bl b) H := ⟨b, rfl, q⟩
theorem w_not (h : tt σ H fun c H1 => QB (!c) H1) : tNot tt σ H QB := h
theorem w_notV (h : ta σ H (rB fun c H1 => Q (.bl (!c)) H1)) : tNotV ta σ H Q := h
theorem w_and (h : tt σ H fun c H1 => if c = true then tu σ H1 QB else QB false H1) : tAnd tt tu σ H QB := h
theorem w_or (h : tt σ H fun c H1 => if c = true then QB true H1 else tu σ H1 QB) : tOr tt tu σ H QB := h
theorem w_andV (h : ta σ H (rB fun c H1 => if c = true then tb σ H1 Q else Q (.bl false) H1)) : tAndV ta tb σ H Q := h
theorem w_orV (h : ta σ H (rB fun c H1 => if c = true then Q (.bl true) H1 else tb σ H1 Q)) : tOrV ta tb σ H Q := h
theorem w_ifE (h : tt σ H fun c H1 => if c = true then ta σ H1 Q else tb σ H1 Q) : tIf tt ta tb σ H Q := h
theorem w_chn (h : ta σ H fun x H1 => tb σ H1 fun y H2 => r x y H2 (rB fun k H3 => if k = true then tc σ H3 fun w' H4 => r' y w' H4 Q else Q (.bl false) H3)) : tChain r r' ta tb tc σ H Q := h
theorem w_t {P R : Prop} (h : b = true) (q : P) : if b = true then P else R := by rw [if_pos h]; exact q
theorem w_f {P R : Prop} (h : b = false) (q : R) : if b = true then P else R := by rw [if_neg (by rw [h]; exact Bool.false_ne_true)]; exact q
theorem w_wp {P : Prop} {σ' : St} {vs : List Nat} (e : wipe σ' vs = wipe σ vs) (q : P) : wipe σ' vs = wipe σ vs ∧ P := ⟨e, q⟩
theorem w_bl' {Q : VK} {H : Hp} {b c : Bool} (h : b = c) (k : Q (.bl c) H) : Q (.bl b) H := by rw [h]; exact k
theorem w_in' {Q : VK} {H : Hp} {b c : Int} (h : b = c) (k : Q (.int c) H) : Q (.int b) H := by rw [h]; exact k
theorem w_inQ (h : H p = some (.lst xs) ∨ H p = some (.tup xs)) (f1 : flatV v = true) (f2 : xs.all flatV = true) (q : Q (.bl (inV v xs)) H) : rInQ false v (.ref p) H Q := ⟨p, xs, rfl, h, f1, f2, q⟩
theorem w_ninQ (h : H p = some (.lst xs) ∨ H p = some (.tup xs)) (f1 : flatV v = true) (f2 : xs.all flatV = true) (q : Q (.bl (!inV v xs)) H) : rInQ true v (.ref p) H Q := ⟨p, xs, rfl, h, f1, f2, q⟩
theorem beq_str {a k : Str} : (a == k) = decide (k = a) := by
  by_cases c : k = a
  · subst c
    rw [decide_eq_true rfl]
    exact beq_self_eq_true k
  · rw [decide_eq_false c]
    exact beq_false_of_ne fun e => c e.symm
theorem in_str2 {k a b : Str} : inV (.str k) [.str a, .str b] = (decide (k = a) || decide (k = b)) := by
  show ((a == k) || ((b == k) || false)) = _
  rw [beq_str, beq_str, Bool.or_false]
theorem w_yes (q : QB true H) : tYes σ H QB := q
theorem w_tup (h : t σ H fun xs H1 => xs.length ≤ sizeLine ∧ ∀ p, H1 p = none → Q (.ref p) (upd H1 p (.tup xs))) : tTup t σ H Q := h
theorem w_lst (h : t σ H fun xs H1 => xs.length ≤ sizeLine ∧ ∀ p, H1 p = none → Q (.ref p) (upd H1 p (.lst xs))) : tLst t σ H Q := h
theorem w_new {P : Addr → Prop} (l : xs.length < 1000) (q : ∀ p, H p = none → P p) : xs.length ≤ sizeLine ∧ ∀ p, H p = none → P p := ⟨Nat.le_trans (Nat.le_of_lt l) (by decide), q⟩
/-! statements -/
theorem w_mk (h : t σ H fun vs H1 => rMk C sp E vs H1 Q) : tMake C sp [] E t σ H Q := by
  unfold tMake
  simp only [List.append_nil]
  exact h
theorem w_make {vs : List V} (h : ∀ x dx, H x = none → H dx = none → dx ≠ x → sp (.ref x :: vs) (upd (upd H dx (.own x)) x (.ins C dx [])) (fun v H2 => v = .non ∧ Q (.ref x) H2) E) : rMk C sp E vs H Q := h
theorem w_seq (h : s1 { Ed with nx := s2 Ed } σ H) : tSeq s1 s2 Ed σ H := h
theorem w_next (h : Ed.nx σ H) : tNext Ed σ H := h
theorem w_ret (h : ta σ H Ed.rt) : tRet ta Ed σ H := h
theorem w_retN (h : Ed.rt .non H) : tRetN Ed σ H := h
theorem w_drop (h : ta σ H fun _ H1 => Ed.nx σ H1) : tDrop ta Ed σ H := h
theorem w_ifS (h : tt σ H fun b H1 => if b = true then s1 Ed σ H1 else s2 Ed σ H1) : tIfS tt s1 s2 Ed σ H := h
theorem w_asg (h : ta σ H fun x H1 => g x σ H1 Ed.nx) : tAsg ta g Ed σ H := h
theorem w_gn {Q : St → Hp → Prop} (h : Q (σ.set i (some v)) H) : gName i v σ H Q := h
theorem w_gT {n : Nat} {tg : TGs} {Q : St → Hp → Prop} (h : H p = some (.tup xs)) (l : xs.length = n) (q : tg xs σ H Q) : gT n tg (.ref p) σ H Q := ⟨p, xs, rfl, h, l, q⟩
theorem w_gc {tg : TGs} {Q : St → Hp → Prop} (q : g v σ H fun σ' H' => tg xs σ' H' Q) : gCons g tg (v :: xs) σ H Q := ⟨v, xs, rfl, q⟩
theorem w_gnil {Q : St → Hp → Prop} (q : Q σ H) : gNil [] σ H Q := ⟨rfl, q⟩
theorem w_aug {n : Int} {f : Int → Int → Int} (e : σ[i]? = some (some (.int n))) (h : ta σ H fun y H1 => ipI f (.int n) y H1 fun z H2 => Ed.nx (σ.set i (some z)) H2) : tAug i ta (ipI f) Ed σ H := ⟨_, e, h⟩
theorem w_ip {n m : Int} {f : Int → Int → Int} (q : Q (.int (f n m)) H) : ipI f (.int n) (.int m) H Q := ⟨n, m, rfl, rfl, q⟩
/-! builtins by their arguments -/
theorem w_ex2 {P : Int → Int → Prop} {m n : Int} (q : P m n) : ∃ i j, [V.int m, V.int n] = [V.int i, V.int j] ∧ P i j := ⟨m, n, rfl, q⟩
theorem w_ex1 {P : Int → Prop} {m : Int} (q : P m) : ∃ i, [V.int m] = [V.int i] ∧ P i := ⟨m, rfl, q⟩
theorem w_int {P : Int → Prop} {k : Bool} {P' : Bool → Prop} (q : P' k) : (∃ i, [V.bl k] = [V.int i] ∧ P i) ∨ ∃ k', [V.bl k] = [V.bl k'] ∧ P' k' := .inr ⟨k, rfl, q⟩
theorem w_isN {P : Prop} {v : V} (q : P) : v = v ∧ P := ⟨rfl, q⟩
theorem w_cat (h1 : H p = some (.lst xs)) (h2 : H a = some (.lst ys)) (l : xs.length + ys.length < 100000) (q : ∀ n, H n = none → Q (.ref n) (upd H n (.lst (xs ++ ys)))) : rCat (.ref p) (.ref a) H Q :=
  ⟨p, a, xs, ys, rfl, rfl, h1, h2, Nat.le_trans (Nat.le_of_lt l) (by decide), q⟩
theorem w_bm {r : V → List V → Hp → VK → Prop} (h : ta σ H fun x H1 => tyV K "list" x H1 ∧ t σ H1 fun xs H2 => r x xs H2 Q) : tBM K "list" r ta t σ H Q := h
theorem w_bm0 {r : V → List V → Hp → VK → Prop} (h : ta σ H fun x H1 => tyV K "list" x H1 ∧ r x [] H1 Q) : tBM0 K "list" r ta σ H Q := h
theorem w_ty {P : Prop} (h : H p = some (.lst xs)) (q : P) : tyV K "list" (.ref p) H ∧ P := ⟨.inl ⟨rfl, xs, SqL.of h⟩, q⟩
theorem w_app (h : H p = some (.lst xs)) (l : xs.length < 16000000) (q : Q .non (upd H p (.lst (xs ++ [v])))) : rAppend (.ref p) [v] H Q := ⟨p, xs, v, rfl, rfl, h, Nat.lt_of_lt_of_le l (by decide), q⟩
theorem w_slice {rs : V → Option Int → Option Int → Hp → VK → Prop} {tl th : TO} (h : ta σ H fun x H1 => tl σ H1 fun l H2 => th σ H2 fun u H3 => rs x l u H3 Q) : tSl rs ta tl th σ H Q := h
theorem w_slQ {lo hi : Option Int} (h : H p = some (.lst xs)) (q : ∀ n, H n = none → Q (.ref n) (upd H n (.lst (cutV xs lo hi)))) : rSlQ (.ref p) lo hi H Q := ⟨p, xs, rfl, h, q⟩
theorem w_noP {Q : Option Int → Hp → Prop} (q : Q none H) : tNoPart σ H Q := q
theorem w_part {Q : Option Int → Hp → Prop} (h : ta σ H fun x H1 => ∃ i, x = .int i ∧ Q (some i) H1) : tPart ta σ H Q := h
theorem w_exI {P : Int → Prop} {m : Int} (q : P m) : ∃ i, V.int m = V.int i ∧ P i := ⟨m, rfl, q⟩
theorem w_dnew (q : ∀ n, H n = none → Q (.ref n) (upd H n (.dK []))) : tDNewK σ H Q := q
end
theorem Ext.newly {D H H' : Hp} {p : Addr} {o : HO} (e : Same D H) (h : H p = none) (s : Same H H') (q : H' p = some o) : Ext D H (upd D p o) H' := by
  have hd : D p = none := e.free h
  refine ⟨same_upd hd, s, fun b x u => ?_, fun a ha => upd_ne fun c => ha (by rw [c]; exact h)⟩
  by_cases c : b = p
  · subst c
    rw [upd_same] at u
    rw [← u]
    exact q
  · rw [upd_ne c] at u
    exact s _ _ (e _ _ u)
theorem Ext.dh {D H D' H' : Hp} (x : Ext D H D' H') : Same D H' := x.d.trans x.s
/-- what a def gives: something new, seen in D -/
def New (D H : Hp) (Post : V → Hp → Prop) (Q : VK) : Prop := ∀ v D' H', Ext D H D' H' → Post v D' → Q v H'
section
variable {K : PySem.W.Frag} {σ : St} {H H' D : Hp} {Q : VK} {QB : Bool → Hp → Prop} {v x y z : V} {i j : Nat} {p p' a C : Addr} {xs ys : List V} {ta tb tc te tk tv tl : TE} {t : TA} {tt tu : TT} {sp : Sp} {E : XK} {r r' : R2} {Ed : Ends} {s1 s2 : TS} {g : TG} {b : Bool} {R : It → Hp → Prop} {J : It} {wi : TI} {vs : List Nat} {body : TS}
/-! what is walked -/
def WF (J : It) (g : TG) (tb : TS) (E : Ends) (σ : St) (H : Hp) : Prop := ∃ W : Nat → Nat → St → Hp → Prop, (∃ m, W 0 m σ H) ∧ ∀ i m σ H, W i m σ H →
      (J.stop i H ∧ E.nx σ H) ∨ (J.go i H ∧ ∃ N : St → Hp → Prop, (∀ σ' H', N σ' H' → ∃ m', m' < m ∧ W (i + 1) m' σ' H') ∧ ∀ x H', J.yld i H x H' → g x σ H' fun σ2 H2 => tb { E with nx := N, ct := N, bk := E.nx } σ2 H2)
def WL (J : It) (g : TG) (tt : TT) (te : TE) (vs : List Nat) (σ : St) (H : Hp) (Q : VK) : Prop := ∀ L, H L = none → ∃ W : Nat → Nat → Hp → Prop, (∃ m, W 0 m (upd H L (.lst []))) ∧ ∀ i m H, W i m H →
      (J.stop i H ∧ Q (.ref L) H) ∨ (J.go i H ∧ ∃ Nx : Hp → Prop, (∀ H', Nx H' → ∃ m', m' < m ∧ W (i + 1) m' H') ∧ ∀ x H', J.yld i H x H' → g x (wipe σ vs) H' fun σ2 H2 => wipe σ2 vs = wipe σ vs ∧ tt σ2 H2 fun b H3 =>
        if b = true then te σ2 H3 fun y H4 => ∃ acc, H4 L = some (.lst acc) ∧ acc.length < sizeLine ∧ Nx (upd H4 L (.lst (acc ++ [y]))) else Nx H3)
def WD (J : It) (g : TG) (tt : TT) (tk tv : TE) (vs : List Nat) (σ : St) (H : Hp) (Q : VK) : Prop := ∀ D, H D = none → ∃ W : Nat → Nat → Hp → Prop, (∃ m, W 0 m (upd H D (.dK []))) ∧ ∀ i m H, W i m H →
  (J.stop i H ∧ Q (.ref D) H) ∨ (J.go i H ∧ ∃ Nx : Hp → Prop, (∀ H', Nx H' → ∃ m', m' < m ∧ W (i + 1) m' H') ∧ ∀ x H', J.yld i H x H' → g x (wipe σ vs) H' fun σ2 H2 => wipe σ2 vs = wipe σ vs ∧ tt σ2 H2 fun b H3 =>
    if b = true then tk σ2 H3 fun y H4 => tv σ2 H4 fun z H5 => ∃ kvs k, y = kV k ∧ H5 D = some (.dK kvs) ∧ kvs.length < sizeLine ∧ Nx (upd H5 D (.dK (putK kvs k z))) else Nx H3)
theorem w_for (h : wi σ H fun J H1 => WF J g body Ed σ H1) : tFor wi g body Ed σ H := h
theorem w_lc (h : wi σ H fun J H1 => WL J g tt te vs σ H1 Q) : tLc wi g tt te vs σ H Q := h
theorem w_dc (h : wi σ H fun J H1 => WD J g tt tk tv vs σ H1 Q) : tDc wi g tt tk tv vs σ H Q := h
def rIL' (K : PySem.W.Frag) (x : V) (H : Hp) (R : It → Hp → Prop) : Prop := ∃ a, x = .ref a ∧ (∃ xs, SqL K H a xs) ∧ R (Itl K a) H
theorem w_iL (h : tl σ H fun x H1 => rIL' K x H1 R) : iList K tl σ H R := h
theorem w_rIL (h : H p = some (.lst xs)) (q : R (Itl K p) H) : rIL' K (.ref p) H R := ⟨p, rfl, ⟨xs, SqL.of h⟩, q⟩
def rIE (K : PySem.W.Frag) (x : List V) (H : Hp) (R : It → Hp → Prop) : Prop := ∃ a xs, x = [.ref a] ∧ SqL K H a xs ∧ R (Ite K a) H
theorem w_iE (h : t σ H fun x H1 => rIE K x H1 R) : iEnum K t σ H R := h
theorem w_rIE (h : H p = some (.lst xs)) (q : R (Ite K p) H) : rIE K [.ref p] H R := ⟨p, xs, rfl, SqL.of h, q⟩
def rIZ (K : PySem.W.Frag) (x : List V) (H : Hp) (R : It → Hp → Prop) : Prop := ∃ a b xs ys, x = [.ref a, .ref b] ∧ SqL K H a xs ∧ SqL K H b ys ∧ R (Itz K a b) H
theorem w_iZ (h : t σ H fun x H1 => rIZ K x H1 R) : iZip K t σ H R := h
theorem w_rIZ (h : H p = some (.lst xs)) (h' : H p' = some (.lst ys)) (q : R (Itz K p p') H) : rIZ K [.ref p, .ref p'] H R := ⟨p, p', xs, ys, rfl, SqL.of h, SqL.of h', q⟩
def rR1 (x : List V) (H : Hp) (R : It → Hp → Prop) : Prop := ∃ j : Int, x = [.int j] ∧ -(2 ^ 62) ≤ j ∧ j < 2 ^ 62 ∧ R (Itr 0 j.toNat) H
theorem w_iR1 (h : t σ H fun x H1 => rR1 x H1 R) : iRng1 t σ H R := h
theorem w_rR1 {k : Int} {n : Nat} (e : k = n) (l : n < 100000) (q : R (Itr 0 n) H) : rR1 [.int k] H R := ⟨k, rfl, by omega, by omega, by
  subst e
  exact q⟩
def rR2 (x : List V) (H : Hp) (R : It → Hp → Prop) : Prop := ∃ i j : Int, x = [.int i, .int j] ∧ (-(2 ^ 62) ≤ i ∧ i < 2 ^ 62 ∧ -(2 ^ 62) ≤ j ∧ j < 2 ^ 62) ∧ R (Itr i (j - i).toNat) H
theorem w_iR2 (h : t σ H fun x H1 => rR2 x H1 R) : iRng2 t σ H R := h
theorem w_rR2 {k l : Int} {n : Nat} (e : (l - k).toNat = n) (b1 : -100000 < k ∧ k < 100000) (b2 : -100000 < l ∧ l < 100000) (q : R (Itr k n) H) : rR2 [.int k, .int l] H R := ⟨k, l, rfl, by omega, by
  subst e
  exact q⟩
def rIV (x : V) (H : Hp) (R : It → Hp → Prop) : Prop := ∃ d o kvs, x = .ref d ∧ H d = some (.frz o (.dK kvs)) ∧ R (Itd d o kvs) H
def rFz (x : V) (H1 : Hp) (Q : VK) : Prop := ∃ d kvs, x = .ref d ∧ H1 d = some (.dK kvs) ∧ ∀ o, Q x (upd H1 d (.frz o (.dK kvs)))
theorem w_fz (h : tl σ H fun x H1 => rFz x H1 Q) : tFz tl σ H Q := h
theorem w_iV (h : tl σ H fun x H1 => rIV x H1 R) : iVals tl σ H R := h
/-! loops -/
/-- the general for -/
theorem for_src {n : Nat} {R : Nat → V → Hp → Hp → Prop} (S : Src J D n R) (e : Same D H) (Pv : Nat → St → Hp → Prop) (h0 : Pv 0 σ H)
    (hs : ∀ i x σ H H', i < n → Same D H → Pv i σ H → R i x H H' → g x σ H' fun σ2 H2 => body { Ed with nx := fun σ H => Same D H ∧ Pv (i + 1) σ H, ct := fun σ H => Same D H ∧ Pv (i + 1) σ H, bk := Ed.nx } σ2 H2) (hd : ∀ σ H, Same D H → Pv n σ H → Ed.nx σ H) : WF J g body Ed σ H :=
  forS S (fun i σ H => Same D H ∧ Pv i σ H) ⟨e, h0⟩ (fun _ _ _ q => q.1) (fun i x σ H H' hi q r => hs i x σ H H' hi q.1 q.2 r) fun σ H q => hd σ H q.1 q.2
theorem for_list (h : D p = some (.lst xs)) (e : Same D H) (Pv : Nat → St → Hp → Prop) (h0 : Pv 0 σ H)
    (hs : ∀ i x σ H, xs[i]? = some x → Same D H → Pv i σ H → g x σ H fun σ2 H2 => body { Ed with nx := fun σ H => Same D H ∧ Pv (i + 1) σ H, ct := fun σ H => Same D H ∧ Pv (i + 1) σ H, bk := Ed.nx } σ2 H2) (hd : ∀ σ H, Same D H → Pv xs.length σ H → Ed.nx σ H) : WF (Itl K p) g body Ed σ H :=
  for_src (src_list (SqL.of h)) e Pv h0 (fun i x σ H H' _ s q r => by
    rw [r.1]
    exact hs i x σ H r.2 s q) hd
theorem for_enum (h : D p = some (.lst xs)) (e : Same D H) (Pv : Nat → St → Hp → Prop) (h0 : Pv 0 σ H)
    (hs : ∀ i y σ H T, xs[i]? = some y → H T = none → Same D H → Pv i σ H → g (.ref T) σ (upd H T (.tup [.int (i : Nat), y])) fun σ2 H2 => body { Ed with nx := fun σ H => Same D H ∧ Pv (i + 1) σ H, ct := fun σ H => Same D H ∧ Pv (i + 1) σ H, bk := Ed.nx } σ2 H2) (hd : ∀ σ H, Same D H → Pv xs.length σ H → Ed.nx σ H) : WF (Ite K p) g body Ed σ H :=
  for_src (src_enum (SqL.of h)) e Pv h0 (fun i x σ H H' _ s q ⟨T, y, e1, e2, e3, e4⟩ => by
    subst e1 e3
    exact hs i y σ H T e4 e2 s q) hd
theorem for_range {lo : Int} {n : Nat} (D : Hp) (e : Same D H) (Pv : Nat → St → Hp → Prop) (h0 : Pv 0 σ H)
    (hs : ∀ i σ H, i < n → Same D H → Pv i σ H → g (.int (lo + (i : Nat))) σ H fun σ2 H2 => body { Ed with nx := fun σ H => Same D H ∧ Pv (i + 1) σ H, ct := fun σ H => Same D H ∧ Pv (i + 1) σ H, bk := Ed.nx } σ2 H2) (hd : ∀ σ H, Same D H → Pv n σ H → Ed.nx σ H) : WF (Itr lo n) g body Ed σ H :=
  for_src (src_range (D := D)) e Pv h0 (fun i x σ H H' hi s q r => by
    rw [r.1, r.2]
    exact hs i σ H hi s q) hd
theorem for_vals {d : Addr} {o : Obj} {kvs : List (Key × V)} (h : D d = some (.frz o (.dK kvs))) (e : Same D H) (Pv : Nat → St → Hp → Prop) (h0 : Pv 0 σ H)
    (hs : ∀ i k x σ H, kvs[i]? = some (k, x) → Same D H → Pv i σ H → g x σ H fun σ2 H2 => body { Ed with nx := fun σ H => Same D H ∧ Pv (i + 1) σ H, ct := fun σ H => Same D H ∧ Pv (i + 1) σ H, bk := Ed.nx } σ2 H2) (hd : ∀ σ H, Same D H → Pv kvs.length σ H → Ed.nx σ H) : WF (Itd d o kvs) g body Ed σ H :=
  for_src (src_vals h) e Pv h0 (fun i x σ H H' _ s q ⟨r, k, e4⟩ => by
    rw [r]
    exact hs i k x σ H e4 s q) hd
/-- the general while -/
theorem while_ {c : TT} (Pv : Nat → St → Hp → Prop) (m : Nat) (h0 : Pv m σ H)
    (hs : ∀ m σ H, Pv m σ H → c σ H fun b H1 => if b = true then ∃ N : St → Hp → Prop, (∀ σ' H', N σ' H' → ∃ m', m' < m ∧ Pv m' σ' H') ∧ body { Ed with nx := N, ct := N, bk := Ed.nx } σ H1 else Ed.nx σ H1) : tWhile c body Ed σ H := ⟨Pv, ⟨m, h0⟩, hs⟩
theorem w_turn {m : Nat} {Pv : Nat → St → Hp → Prop} (h : body { Ed with nx := fun σ' H' => ∃ m', m' < m ∧ Pv m' σ' H', ct := fun σ' H' => ∃ m', m' < m ∧ Pv m' σ' H', bk := Ed.nx } σ H) :
    ∃ N : St → Hp → Prop, (∀ σ' H', N σ' H' → ∃ m', m' < m ∧ Pv m' σ' H') ∧ body { Ed with nx := N, ct := N, bk := Ed.nx } σ H := ⟨_, fun _ _ q => q, h⟩
/-! comprehensions -/
/-- each item gives a plain value -/
theorem lcM {n : Nat} {R : Nat → V → Hp → Hp → Prop} (S : Src J D n R) (e : Same D H) (small : n < 100000) (f : Nat → V)
    (turn : ∀ i x H' H'', i < n → Same D H' → R i x H' H'' → ∀ Qy : VK, (∀ H4, Same H' H4 → Qy (f i) H4) → g x (wipe σ vs) H'' fun σ2 H2 => wipe σ2 vs = wipe σ vs ∧ te σ2 H2 Qy)
    (fin : ∀ q H', H q = none → Same H H' → H' q = some (.lst ((List.range n).map f)) → Q (.ref q) H') : WL J g tYes te vs σ H Q := by
  refine lcN S e (fun i acc _ => acc = (List.range i).map f) rfl small (fun i acc _ q => by rw [q]; simp) (fun i x acc D' H' H'' hi X r q Qy Qn ky _ => ?_) fun p acc D' H' h X _ hp q => fin p H' h X.h (by rw [hp, q])
  have h := turn i x H' H'' hi X.dh r Qy fun H4 s4 => ky (f i) D' H4 (Ext.grow X.s s4) (by rw [q, List.range_succ, List.map_append]; rfl)
  exact h
theorem lcL {n : Nat} {R : Nat → V → Hp → Hp → Prop} (S : Src J D n R) (e : Same D H) (small : n < 100000) (us : List V) (l : us.length = n)
    (turn : ∀ (i : Nat) (x y : V) (H' H'' : Hp), us[i]? = some y → Same D H' → R i x H' H'' → ∀ Qy : VK, (∀ H4, Same H' H4 → Qy y H4) → g x (wipe σ vs) H'' fun σ2 H2 => wipe σ2 vs = wipe σ vs ∧ te σ2 H2 Qy)
    (fin : ∀ q H', H q = none → Same H H' → H' q = some (.lst us) → Q (.ref q) H') : WL J g tYes te vs σ H Q := by
  refine lcM S e small (fun i => us.getD i .non) (fun i x H' H'' hi s r Qy ky => turn i x (us.getD i .non) H' H'' ?_ s r Qy ky) fun q H' h s hq => fin q H' h s ?_
  · rw [List.getD_eq_getElem?_getD, List.getElem?_eq_getElem (by omega)]
    rfl
  · rw [hq]
    congr 2
    apply List.ext_getElem?
    intro k
    rw [List.getElem?_map]
    by_cases c : k < n
    · rw [List.getElem?_range c, List.getElem?_eq_getElem (by omega)]
      show some (us.getD k .non) = _
      rw [List.getD_eq_getElem?_getD, List.getElem?_eq_getElem (by omega)]
      rfl
    · rw [List.getElem?_eq_none (by rw [List.length_range]; omega), List.getElem?_eq_none (by omega)]
      rfl
/-- over a list -/
theorem lc_list (h : D p = some (.lst xs)) (e : Same D H) (small : xs.length < 100000) (us : List V) (l : us.length = xs.length)
    (turn : ∀ (i : Nat) (x y : V) (H' : Hp), xs[i]? = some x → us[i]? = some y → Same D H' → ∀ Qy : VK, (∀ H4, Same H' H4 → Qy y H4) → g x (wipe σ vs) H' fun σ2 H2 => wipe σ2 vs = wipe σ vs ∧ te σ2 H2 Qy)
    (fin : ∀ q H', H q = none → Same H H' → H' q = some (.lst us) → Q (.ref q) H') : WL (Itl K p) g tYes te vs σ H Q :=
  lcL (src_list (SqL.of h)) e small us l (fun i x y H' H'' hy s r Qy ky => by
    rw [r.1]
    exact turn i x y H' r.2 hy s Qy ky) fin
/-- .. of the items that are asked for -/
theorem lcF {n : Nat} {R : Nat → V → Hp → Hp → Prop} (S : Src J D n R) (e : Same D H) (small : n < 100000) (b : Nat → Bool) (f : Nat → V)
    (turn : ∀ i x H' H'', i < n → Same D H' → R i x H' H'' → ∀ (Qy : VK) (Qn : Hp → Prop), (b i = true → ∀ H4, Same H' H4 → Qy (f i) H4) → (b i = false → ∀ H4, Same H' H4 → Qn H4) → g x (wipe σ vs) H'' fun σ2 H2 => wipe σ2 vs = wipe σ vs ∧ tt σ2 H2 fun c H3 => if c = true then te σ2 H3 Qy else Qn H3)
    (fin : ∀ q H', H q = none → Same H H' → H' q = some (.lst (((List.range n).filter b).map f)) → Q (.ref q) H') : WL J g tt te vs σ H Q := by
  refine lcN S e (fun i acc _ => acc = ((List.range i).filter b).map f) rfl small (fun i acc _ q => by
    rw [q, List.length_map]
    exact Nat.le_trans (List.length_filter_le _ _) (by simp)) (fun i x acc D' H' H'' hi X r q Qy Qn ky kn => ?_) fun p acc D' H' h X _ hp q => fin p H' h X.h (by rw [hp, q])
  refine turn i x H' H'' hi X.dh r Qy Qn (fun hb H4 s4 => ky (f i) D' H4 (Ext.grow X.s s4) ?_) fun hb H4 s4 => kn D' H4 (Ext.grow X.s s4) ?_
  · rw [q, List.range_succ, List.filter_append, List.map_append]
    simp [hb]
  · rw [q, List.range_succ, List.filter_append, List.map_append]
    simp [hb]
/-- each item gives something new -/
theorem lcG {n : Nat} {R : Nat → V → Hp → Hp → Prop} (S : Src J D n R) (e : Same D H) (small : n < 100000) (El : Nat → V → Hp → Prop) (mono : ∀ i v D1 D2, Same D1 D2 → El i v D1 → El i v D2)
    (turn : ∀ i x D' H' H'', i < n → Ext D H D' H' → R i x H' H'' → ∀ Qy : VK, (∀ y D4 H4, Ext D' H' D4 H4 → El i y D4 → Qy y H4) → g x (wipe σ vs) H'' fun σ2 H2 => wipe σ2 vs = wipe σ vs ∧ te σ2 H2 Qy)
    (fin : ∀ q acc D' H', H q = none → Ext D H D' H' → D' q = none → H' q = some (.lst acc) → acc.length = n → (∀ i v, acc[i]? = some v → El i v D') → Q (.ref q) H') : WL J g tYes te vs σ H Q := by
  refine lcN S e (fun i acc D' => acc.length = i ∧ ∀ k v, acc[k]? = some v → El k v D') ⟨rfl, fun k v h => by cases h⟩ small (fun i acc _ q => Nat.le_of_eq q.1) (fun i x acc D' H' H'' hi X r q Qy Qn ky _ => ?_) fun p acc D' H' h X hd hp q => fin p acc D' H' h X hd hp q.1 q.2
  have h := turn i x D' H' H'' hi X r Qy fun y D4 H4 X4 hy => ky y D4 H4 X4 ⟨by rw [List.length_append, q.1]; rfl, fun k v hk => ?_⟩
  · exact h
  · by_cases c : k < acc.length
    · rw [List.getElem?_append_left c] at hk
      exact mono _ _ _ _ X4.d (q.2 k v hk)
    · rw [List.getElem?_append_right (by omega)] at hk
      have z : k - acc.length = 0 := by
        rcases Nat.eq_zero_or_pos (k - acc.length) with h | h
        · exact h
        · rw [List.getElem?_eq_none (by rw [List.length_singleton]; exact h)] at hk
          cases hk
      rw [z] at hk
      have hk := Option.some.inj hk
      have : k = i := by omega
      subst this hk
      exact hy
end
/-! ### x == [] -/
def shp (k : Nat) (d : PyData) : Prop := d.canLay0 = true ∧ d.depth ≤ k
theorem shp_int {k : Nat} {i : Int} : shp k (.int i) := ⟨rfl, Nat.zero_le _⟩
theorem shp_str {k : Nat} {x : Str} (h : PyData.strOk x = true) : shp k (.str x) := ⟨h, Nat.zero_le _⟩
theorem shp_all {k : Nat} : ∀ {ds : List PyData}, (∀ d ∈ ds, shp k d) → PyData.canLayAll0 ds = true ∧ PyData.depthAll ds ≤ k
  | [], _ => ⟨rfl, Nat.zero_le _⟩
  | d :: ds, h => by
    have ih := shp_all (ds := ds) fun e he => h e (List.mem_cons_of_mem _ he)
    have a := h d List.mem_cons_self
    exact ⟨by
      show (PyData.canLay0 d && PyData.canLayAll0 ds) = true
      rw [a.1, ih.1]
      rfl, Nat.max_le.mpr ⟨a.2, ih.2⟩⟩
theorem shp_lst {k : Nat} {ds : List PyData} (h : ∀ d ∈ ds, shp k d) : shp (k + 1) (.list ds) := ⟨(shp_all h).1, Nat.succ_le_succ (shp_all h).2⟩
theorem shp_tup {k : Nat} {ds : List PyData} (h : ∀ d ∈ ds, shp k d) : shp (k + 1) (.tuple ds) := ⟨(shp_all h).1, Nat.succ_le_succ (shp_all h).2⟩
theorem shp.sh {k : Nat} {d : PyData} (h : shp k d) (hk : k ≤ 64) : SeqAt.shaped d = true := by
  unfold SeqAt.shaped
  rw [h.1, decide_eq_true (Nat.le_trans h.2 hk)]
  rfl
theorem shp.up {k l : Nat} {d : PyData} (h : shp k d) (hk : k ≤ l) : shp l d := ⟨h.1, Nat.le_trans h.2 hk⟩
theorem eqv_nil {H : Hp} {xs : List V} {ds : List PyData} (h : DqA H xs ds) : PyData.eqv (.list ds) (.list []) = xs.isEmpty ∧ PyData.eqv (.tuple ds) (.tuple []) = xs.isEmpty := by
  cases h with
  | nil => exact ⟨rfl, rfl⟩
  | cons _ _ => exact ⟨rfl, rfl⟩
section
variable {H : Hp} {Q : VK} {p q : Addr} {xs : List V} {ds : List PyData}
theorem w_eqE (h : H p = some (.lst xs)) (d : DqA H xs ds) (sh : ∀ d ∈ ds, shp 20 d) (h' : H q = some (.lst [])) (k : Q (.bl xs.isEmpty) H) : rEqQ (.ref p) (.ref q) H Q :=
  ⟨.list ds, .list [], .lst h d, .lst h' .nil, (shp_lst sh).sh (by decide), rfl, by rw [(eqv_nil d).1]; exact k⟩
theorem w_neE (h : H p = some (.lst xs)) (d : DqA H xs ds) (sh : ∀ d ∈ ds, shp 20 d) (h' : H q = some (.lst [])) (k : Q (.bl (!xs.isEmpty)) H) : rNeQ (.ref p) (.ref q) H Q :=
  ⟨.list ds, .list [], .lst h d, .lst h' .nil, (shp_lst sh).sh (by decide), rfl, by rw [(eqv_nil d).1]; exact k⟩
theorem w_eqT (h : H p = some (.tup xs)) (d : DqA H xs ds) (sh : ∀ d ∈ ds, shp 20 d) (h' : H q = some (.tup [])) (k : Q (.bl xs.isEmpty) H) : rEqQ (.ref p) (.ref q) H Q :=
  ⟨.tuple ds, .tuple [], .tup h d, .tup h' .nil, (shp_tup sh).sh (by decide), rfl, by rw [(eqv_nil d).2]; exact k⟩
end
theorem shp_ints {is : List Int} : ∀ d ∈ is.map PyData.int, shp 20 d := fun d h => by
  obtain ⟨i, _, rfl⟩ := List.mem_map.mp h
  exact shp_int
theorem atLast {xs : List V} {v : V} (h : xs.getLast? = some v) : atI xs (-1) = some v := by
  have hn : xs ≠ [] := fun e => by
    subst e
    cases h
  have hl : 0 < xs.length := List.length_pos_iff.mpr hn
  unfold atI ixN
  rw [if_neg (by omega), if_pos (by omega)]
  show xs[((-1 : Int) + (xs.length : Nat)).toNat]? = some v
  rw [List.getLast?_eq_getElem?] at h
  have e : ((-1 : Int) + (xs.length : Nat)).toNat = xs.length - 1 := by omega
  rw [e]
  exact h
section
variable {K : PySem.W.Frag} {σ : St} {H H' D : Hp} {Q : VK} {v x y z : V} {i j : Nat} {p p' a C : Addr} {xs ys : List V} {ta tb tc td ty tv tk : TE} {t : TA} {Ed : Ends} {kvs : List (Key × V)} {n : Int}
def rDG (x y : V) (H : Hp) (Q : VK) : Prop := ∃ a v, x = .ref a ∧ DGet H a y (some v) ∧ Q v H
theorem w_tDG (h : td σ H fun x H1 => ty σ H1 fun y H2 => rDG x y H2 Q) : tDGet td ty σ H Q := h
theorem w_rDG (h : H p = some (.dK kvs)) (e : valV kvs (.inl n) = some v) (q : Q v H) : rDG (.ref p) (.int n) H Q := ⟨p, v, rfl, by rw [← e]; exact DGet.k (k := .inl n) h, q⟩
def rDI (neg : Bool) (y x : V) (H : Hp) (Q : VK) : Prop := ∃ a o, x = .ref a ∧ DGet H a y o ∧ Q (.bl (if neg then !o.isSome else o.isSome)) H
theorem w_tDI (h : ty σ H fun y H1 => td σ H1 fun x H2 => rDI false y x H2 Q) : tDIn ty td σ H Q := h
theorem w_tDN (h : ty σ H fun y H1 => td σ H1 fun x H2 => rDI true y x H2 Q) : tDNotIn ty td σ H Q := h
theorem w_rDI (h : H p = some (.dK kvs)) (q : Q (.bl (valV kvs (.inl n)).isSome) H) : rDI false (.int n) (.ref p) H Q := ⟨p, _, rfl, DGet.k (k := .inl n) h, q⟩
theorem w_rDN (h : H p = some (.dK kvs)) (q : Q (.bl (!(valV kvs (.inl n)).isSome)) H) : rDI true (.int n) (.ref p) H Q := ⟨p, _, rfl, DGet.k (k := .inl n) h, q⟩
def rDP (v x y : V) (H : Hp) (Q : Hp → Prop) : Prop := ∃ a H4, x = .ref a ∧ DPut H a y v H4 ∧ Q H4
theorem w_sDP (h : tv σ H fun v H1 => td σ H1 fun x H2 => ty σ H2 fun y H3 => rDP v x y H3 (Ed.nx σ)) : sDPut td ty tv Ed σ H := h
theorem w_rDP {Q : Hp → Prop} (h : H p = some (.dK kvs)) (l : kvs.length < 100000) (q : Q (upd H p (.dK (putK kvs (.inl n) v)))) : rDP v (.ref p) (.int n) H Q := ⟨p, _, rfl, DPut.k (k := .inl n) h (Nat.lt_of_lt_of_le l (by decide)), q⟩
def rD1 (p : Addr) (x y : V) (H : Hp) (Q : VK) : Prop := H p = some (.dK []) ∧ ∃ kvs : List (Key × V), [(x, y)] = kvs.map (fun kv => (kV kv.1, kv.2)) ∧ kvs.length ≤ 15 ∧ Q (.ref p) (upd H p (.dK (mergeK [] kvs)))
theorem w_disp (h : ∀ p, H p = none → tk σ (upd H p (.dK [])) fun x H1 => tv σ H1 fun y H2 => rD1 p x y H2 Q) : tDisp [(tk, tv)] σ H Q := h
theorem w_rD1 (h : H p = some (.dK [])) (q : Q (.ref p) (upd H p (.dK [(.inl n, y)]))) : rD1 p (.int n) y H Q := ⟨h, [(.inl n, y)], rfl, (by decide : 1 ≤ 15), q⟩
end
section
variable {H : Hp} {Q : VK} {v : V} {p p' : Addr} {xs : List V}
theorem w_pop0 (h : H p = some (.lst (v :: xs))) (q : Q v (upd H p (.lst xs))) : rPopAt (.ref p) [.int 0] H Q :=
  ⟨p, v :: xs, 0, 0, v, rfl, rfl, h, by decide, by decide, by
    unfold seqIndex?
    simp, rfl, q⟩
theorem w_ltQ {ns ms : List Int} (h : H p = some (.tup (ns.map V.int))) (h' : H p' = some (.tup (ms.map V.int))) (q : Q (.bl (HT.lexLt ns ms)) H) : rLtQ (.ref p) (.ref p') H Q := ⟨p, p', ns, ms, rfl, rfl, h, h', q⟩
end
/-- a dict by gates (or by places) -/
structure DK {B : Type} (ok : Int → Prop) (kvs : List (Key × V)) (wy : Int → Option B) (R : Int → B → V → Prop) : Prop where
  nd : (kvs.map (·.1)).Nodup
  ks : ∀ k ∈ kvs.map (·.1), ∃ g, ok g ∧ k = .inl g ∧ ∃ p, wy g = some p
  get : ∀ g p, wy g = some p → ∃ v, valV kvs (.inl g) = some v ∧ R g p v
  non : ∀ g, wy g = none → valV kvs (.inl g) = none
section
variable {B : Type} {ok : Int → Prop} {kvs : List (Key × V)} {wy : Int → Option B} {R : Int → B → V → Prop}
theorem DK.len (d : DK ok kvs wy R) (ps : List Int) (h : ∀ g, ok g → g ∈ ps) : kvs.length ≤ ps.length := by
  have e := nodup_leG (kvs.map (·.1)) (ps.map fun g => (Sum.inl g : Key)) d.nd fun k hk => by
    obtain ⟨g, hg, rfl, _⟩ := d.ks k hk
    exact List.mem_map.mpr ⟨g, h g hg, rfl⟩
  rw [List.length_map, List.length_map] at e
  exact e
theorem DK.mono {R' : Int → B → V → Prop} (d : DK ok kvs wy R) (h : ∀ g p v, R g p v → R' g p v) : DK ok kvs wy R' := ⟨d.nd, d.ks, fun g p e => by
  obtain ⟨v, e1, e2⟩ := d.get g p e
  exact ⟨v, e1, h _ _ _ e2⟩, d.non⟩
theorem putK_keys {k : Key} {v : V} : ∀ {kvs : List (Key × V)}, (putK kvs k v).map (·.1) = if (valV kvs k).isSome = true then kvs.map (·.1) else kvs.map (·.1) ++ [k] := by
  intro kvs
  unfold putK
  rw [valV_any]
  split
  · rw [List.map_map]
    apply List.map_congr_left
    intro a _
    show (if a.1 = k then (a.1, v) else a).1 = a.1
    split <;> rfl
  · rw [List.map_append]
    rfl
theorem DK.put (d : DK ok kvs wy R) {g : Int} {p : B} {v : V} (hg : ok g) (r : R g p v) : DK ok (putK kvs (.inl g) v) (put wy g (some p)) R := by
  refine ⟨?_, fun k hk => ?_, fun g' p' e => ?_, fun g' e => ?_⟩
  · rw [putK_keys]
    split
    · exact d.nd
    · rename_i c
      have c : valV kvs (.inl g) = none := by
        cases e : valV kvs (.inl g) with
        | none => rfl
        | some _ =>
          rw [e] at c
          exact absurd rfl c
      exact List.nodup_append.mpr ⟨d.nd, List.nodup_cons.mpr ⟨(fun z => by cases z), List.nodup_nil⟩, fun a ha b hb e => valV_not c (by rw [List.mem_singleton.mp hb] at e; rw [← e]; exact ha)⟩
  · rw [putK_keys] at hk
    have hk : k ∈ kvs.map (·.1) ∨ k = .inl g := by
      split at hk
      · exact .inl hk
      · rcases List.mem_append.mp hk with h | h
        · exact .inl h
        · exact .inr (List.mem_singleton.mp h)
    rcases hk with hk | hk
    · obtain ⟨g', h1, h2, p', h3⟩ := d.ks k hk
      by_cases c : g' = g
      · exact ⟨g', h1, h2, p, by rw [c]; exact put_same⟩
      · exact ⟨g', h1, h2, p', by rw [put_ne c]; exact h3⟩
    · exact ⟨g, hg, hk, p, put_same⟩
  · rw [valV_put]
    by_cases c : g' = g
    · subst c
      rw [put_same] at e
      cases e
      exact ⟨v, by rw [if_pos rfl], r⟩
    · rw [put_ne c] at e
      rw [if_neg (fun z => c (Sum.inl.inj z))]
      exact d.get g' p' e
  · rw [valV_put]
    by_cases c : g' = g
    · subst c
      rw [put_same] at e
      cases e
    · rw [put_ne c] at e
      rw [if_neg (fun z => c (Sum.inl.inj z))]
      exact d.non g' e
theorem DK.nil : DK ok [] (fun _ => (none : Option B)) R := ⟨List.nodup_nil, (fun k hk => by cases hk), (fun g p e => by cases e), fun g _ => rfl⟩
theorem DK.each (d : DK ok kvs wy R) {i : Nat} {k : Key} {y : V} (h : kvs[i]? = some (k, y)) : ∃ g p, ok g ∧ k = .inl g ∧ wy g = some p ∧ R g p y := by
  have hm := List.mem_of_getElem? h
  obtain ⟨g, h1, h2, p, h3⟩ := d.ks k (List.mem_map.mpr ⟨_, hm, rfl⟩)
  have h2 : k = .inl g := h2
  subst h2
  obtain ⟨v, e1, e2⟩ := d.get g p h3
  have e3 := val_nodup d.nd _ hm
  have e3 : valV kvs (.inl g) = some y := e3
  rw [e1] at e3
  have e3 := Option.some.inj e3
  subst e3
  exact ⟨g, p, h1, rfl, h3, e2⟩
theorem valV_mem {k : Key} {v : V} : ∀ {kvs : List (Key × V)}, valV kvs k = some v → (k, v) ∈ kvs := by
  intro kvs h
  unfold valV at h
  cases e : kvs.find? fun kv => decide (kv.1 = k) with
  | none =>
    rw [e] at h
    cases h
  | some kv =>
    rw [e] at h
    have h : kv.2 = v := Option.some.inj h
    have h1 := List.find?_some e
    have h1 : kv.1 = k := of_decide_eq_true h1
    have h2 := List.mem_of_find?_eq_some e
    rw [← h, ← h1]
    exact h2
theorem DK.find (d : DK ok kvs wy R) {g : Int} {p : B} (h : wy g = some p) : ∃ (i : Nat) (y : V), kvs[i]? = some (.inl g, y) ∧ R g p y := by
  obtain ⟨v, e1, e2⟩ := d.get g p h
  obtain ⟨i, hi⟩ := List.mem_iff_getElem?.mp (valV_mem e1)
  exact ⟨i, v, hi, e2⟩
end
/-! a dict comprehension -/
def putAll (us : List (Key × V)) (kvs : List (Key × V)) : List (Key × V) := us.foldl (fun k u => putK k u.1 u.2) kvs
theorem putAll_len : ∀ (us kvs : List (Key × V)), (putAll us kvs).length ≤ kvs.length + us.length
  | [], kvs => Nat.le_refl _
  | u :: us, kvs => by
    have h1 := putAll_len us (putK kvs u.1 u.2)
    have h2 := length_putK kvs u.1 u.2
    show (putAll us (putK kvs u.1 u.2)).length ≤ kvs.length + (us.length + 1)
    omega
theorem putAll_app {us ws kvs : List (Key × V)} : putAll (us ++ ws) kvs = putAll ws (putAll us kvs) := List.foldl_append
theorem dcO {J : It} {D H : Hp} {σ : St} {Q : VK} {g : TG} {tt : TT} {tk tv : TE} {vs : List Nat} {n : Nat} {R : Nat → V → Hp → Hp → Prop} (S : Src J D n R) (e : Same D H) (small : n < 100000) (us : List (Option (Key × V))) (l : us.length = n)
    (turn : ∀ (i : Nat) (x : V) (H' H'' : Hp) (u : Option (Key × V)), us[i]? = some u → Same D H' → R i x H' H'' → ∀ (Qk : V → V → Hp → Prop) (Qn : Hp → Prop), (∀ k v, u = some (k, v) → ∀ H4, Same H' H4 → Qk (kV k) v H4) → (u = none → ∀ H4, Same H' H4 → Qn H4) →
      g x (wipe σ vs) H'' fun σ2 H2 => wipe σ2 vs = wipe σ vs ∧ tt σ2 H2 fun c H3 => if c = true then tk σ2 H3 fun y H4 => tv σ2 H4 fun z H5 => Qk y z H5 else Qn H3)
    (fin : ∀ d H', H d = none → D d = none → Ext D H D H' → H' d = some (.dK (putAll (us.filterMap id) [])) → Q (.ref d) H') : WD J g tt tk tv vs σ H Q := fun d hd => by
  have dd : D d = none := e.free hd
  refine ⟨fun i m H' => m + i = n ∧ Ext D H D H' ∧ H' d = some (.dK (putAll ((us.take i).filterMap id) [])), ⟨n, rfl, Ext.hide e hd, upd_same⟩, fun i m H' hw => ?_⟩
  obtain ⟨hm, x, hA⟩ := hw
  have sD : Same D H' := x.s
  by_cases hi : i < n
  · refine .inr ⟨S.go i H' sD hi, fun H2 => Ext D H D H2 ∧ H2 d = some (.dK (putAll ((us.take (i + 1)).filterMap id) [])), fun H2 p => ⟨m - 1, by omega, by omega, p⟩, fun v H'' y => ?_⟩
    have hu : us[i]? = some (us[i]'(by omega)) := List.getElem?_eq_getElem (by omega)
    have et : us.take (i + 1) = us.take i ++ [us[i]'(by omega)] := by
      rw [List.take_succ, hu]
      rfl
    refine turn i v H' H'' _ hu sD (S.yl i H' v H'' sD hi y) _ _ (fun k z ek H4 s4 => ?_) (fun ek H4 s4 => ?_)
    · refine ⟨_, k, rfl, s4 _ _ hA, ?_, (x.trans (Ext.grow x.s s4)).mut hd dd, ?_⟩
      · have h1 := putAll_len ((us.take i).filterMap id) []
        have h2 := List.length_filterMap_le id (us.take i)
        rw [List.length_take] at h2
        have h3 : ([] : List (Key × V)).length = 0 := rfl
        exact Nat.lt_of_lt_of_le (show _ < 100000 by omega) (by decide)
      · rw [upd_same, et, List.filterMap_append, putAll_app, ek]
        rfl
    · refine ⟨x.trans (Ext.grow x.s s4), ?_⟩
      rw [s4 _ _ hA, et, List.filterMap_append, ek]
      simp
  · have e2 : i = n := by omega
    subst e2
    refine .inl ⟨S.stop H' sD, fin d H' hd dd x ?_⟩
    rw [hA, List.take_of_length_le (by omega)]
local macro_rules | `(tactic| walk_at "lg hp") => `(tactic| first | assumption | exact upd_same | exact at_same (by assumption) (by assumption) | (refine at_same ?_ (by assumption); assumption) | exact at_upd (by assumption) (by assumption) | exact at_same (same_upd (by assumption)) (by assumption) | exact at_same (Ext.dh (by assumption)) (by assumption) | exact at_same (Ext.s (by assumption)) (by assumption))
local macro_rules | `(tactic| walk_at "lg tt") => `(tactic| first | assumption | rfl | exact decide_eq_true (by assumption) | exact decide_eq_true (by omega))
local macro_rules | `(tactic| walk_at "lg ff") => `(tactic| first | assumption | rfl | exact decide_eq_false (by assumption) | exact decide_eq_false (by omega))
local macro_rules | `(tactic| walk_at "lg s") => `(tactic| first
  | ((with_reducible refine' w_var ?e ?q); (case e => rfl))
  | with_reducible refine w_c ?_
  | with_reducible refine w_op ?_
  | with_reducible refine w_tF ?_
  | ((with_reducible refine' w_rF ?h ?e ?q); (case h => walk_at "lg hp"); (case e => rfl))
  | ((with_reducible refine' w_it ?h ?e ?q); (case h => walk_at "lg hp"); (case e => first | rfl | exact atN (by assumption)))
  | ((with_reducible refine' w_il ?h ?e ?q); (case h => walk_at "lg hp"); (case e => first | exact atN (by assumption) | rfl))
  | with_reducible refine w_cb ?_
  | with_reducible refine w_cons ?_
  | with_reducible refine w_nil ?_
  | ((with_reducible refine' w_lnL ?h ?q); (case h => walk_at "lg hp"))
  | ((with_reducible refine' w_lnT ?h ?q); (case h => walk_at "lg hp"))
  | with_reducible refine w_i0 ?_
  | with_reducible refine w_un ?_
  | with_reducible refine w_rU ?_
  | ((with_reducible refine' w_iC ?h ?q); (case h => first | decide | omega | (refine ⟨?_, ?_⟩ <;> first | decide | omega)))
  | with_reducible refine w_eqI ?_
  | with_reducible refine w_neI ?_
  | with_reducible refine w_eqS ?_
  | with_reducible refine w_neS ?_
  | with_reducible refine w_tB ?_
  | with_reducible refine w_tTest ?_
  | with_reducible refine w_rB ?_
  | with_reducible refine w_not ?_
  | with_reducible refine w_notV ?_
  | with_reducible refine w_and ?_
  | with_reducible refine w_or ?_
  | with_reducible refine w_andV ?_
  | with_reducible refine w_orV ?_
  | with_reducible refine w_ifE ?_
  | with_reducible refine w_chn ?_
  | with_reducible refine w_yes ?_
  | with_reducible refine w_mk ?_
  | with_reducible refine w_mt0 ?_
  | ((with_reducible refine' w_rMt ?h ?e ?q); (case h => walk_at "lg hp"); (case e => rfl))
  | ((with_reducible refine' w_new ?l ?q); (case l => exact of_decide_eq_true rfl))
  | ((with_reducible refine' w_inQ ?h ?f ?g ?q); (case h => first | exact .inr (by walk_at "lg hp") | exact .inl (by walk_at "lg hp")); (case f => rfl); (case g => rfl))
  | ((with_reducible refine' w_ninQ ?h ?f ?g ?q); (case h => first | exact .inr (by walk_at "lg hp") | exact .inl (by walk_at "lg hp")); (case f => rfl); (case g => rfl))
  | ((with_reducible refine' w_wp ?e ?q); (case e => rfl))
  | ((with_reducible refine' w_sm ?h ?q); (case h => walk_at "lg hp"))
  | ((with_reducible refine' w_aa ?h ?q); (case h => walk_at "lg hp"))
  | with_reducible refine w_seq ?_
  | with_reducible refine w_next ?_
  | with_reducible refine w_ret ?_
  | with_reducible refine w_retN ?_
  | with_reducible refine w_drop ?_
  | with_reducible refine w_ifS ?_
  | with_reducible refine w_asg ?_
  | with_reducible refine w_gn ?_
  | ((with_reducible refine' w_gT ?h ?l ?q); (case h => walk_at "lg hp"); (case l => rfl))
  | with_reducible refine w_gc ?_
  | with_reducible refine w_gnil ?_
  | with_reducible refine w_call ?_
  | with_reducible refine w_tK ?_
  | with_reducible refine w_ex2 ?_
  | with_reducible refine w_ex1 ?_
  | with_reducible refine w_int ?_
  | with_reducible refine w_isN ?_
  | with_reducible refine w_tup ?_
  | with_reducible refine w_lst ?_
  | ((with_reducible refine' w_t ?h ?q); (case h => walk_at "lg tt"))
  | ((with_reducible refine' w_f ?h ?q); (case h => walk_at "lg ff"))
  | with_reducible refine w_for ?_
  | with_reducible refine w_lc ?_
  | with_reducible refine w_dc ?_
  | with_reducible refine w_iL ?_
  | ((with_reducible refine' w_rIL ?h ?q); (case h => walk_at "lg hp"))
  | with_reducible refine w_iE ?_
  | ((with_reducible refine' w_rIE ?h ?q); (case h => walk_at "lg hp"))
  | with_reducible refine w_iZ ?_
  | ((with_reducible refine' w_rIZ ?h ?g ?q); (case h => walk_at "lg hp"); (case g => walk_at "lg hp"))
  | with_reducible refine w_iR1 ?_
  | with_reducible refine w_iR2 ?_
  | with_reducible refine w_iV ?_
  | with_reducible refine w_fz ?_
  | with_reducible refine w_bm ?_
  | with_reducible refine w_bm0 ?_
  | ((with_reducible refine' w_ty ?h ?q); (case h => walk_at "lg hp"))
  | with_reducible refine w_slice ?_
  | with_reducible refine w_noP ?_
  | with_reducible refine w_part ?_
  | with_reducible refine w_exI ?_
  | with_reducible refine w_dnew ?_
  | ((with_reducible refine' w_tyL ?h ?k ?q); (case h => walk_at "lg hp"); (case k => rfl))
  | ((with_reducible refine' w_tyT ?h ?k ?q); (case h => walk_at "lg hp"); (case k => rfl))
  | ((with_reducible refine' w_tyI ?k ?q); (case k => rfl))
  | ((with_reducible refine' w_tyS ?k ?q); (case k => rfl))
  | ((with_reducible refine' w_cat ?h ?g ?l ?q); (case h => walk_at "lg hp"); (case g => walk_at "lg hp"))
  | ((with_reducible refine' w_slQ ?h ?q); (case h => walk_at "lg hp"))
  | with_reducible refine w_sF ?_
  | ((with_reducible refine' w_rSF ?h ?l ?q); (case h => walk_at "lg hp"); (case l => exact of_decide_eq_true rfl))
  | ((with_reducible refine' w_aug ?e ?q); (case e => rfl))
  | with_reducible refine w_ip ?_)
local macro_rules | `(tactic| walk_at "lg d") => `(tactic| first
  | walk_at "lg s"
  | with_reducible refine w_tDG ?_
  | ((with_reducible refine' w_rDG ?h ?e ?q); (case h => walk_at "lg hp"); (case e => assumption))
  | with_reducible refine w_tDI ?_
  | with_reducible refine w_tDN ?_
  | ((with_reducible refine' w_rDI ?h ?q); (case h => walk_at "lg hp"))
  | ((with_reducible refine' w_rDN ?h ?q); (case h => walk_at "lg hp"))
  | with_reducible refine w_sDP ?_
  | ((with_reducible refine' w_rDP ?h ?l ?q); (case h => walk_at "lg hp"); (case l => omega))
  | with_reducible refine w_disp ?_
  | ((with_reducible refine' w_rD1 ?h ?q); (case h => walk_at "lg hp")))
local macro_rules | `(tactic| walk_at "lgd") => `(tactic| repeat walk_at "lg d")
local macro_rules | `(tactic| walk_at "lg") => `(tactic| repeat walk_at "lg s")

/-! ### a net, its pieces, as values -/
/-- the gates in the list xs -/
def GX (H : Hp) (xs : List V) (N : Nt) : Prop := xs.length = N.n ∧ ∀ i, i < N.n → ∃ (p : Addr) (k : Str), xs[i]? = some (.ref p) ∧ H p = some (.tup [.str k, .int (N.wt i)]) ∧ N.fx i = (decide (k = "in") || decide (k = "out"))
def WX' (H : Hp) (ys : List V) (N : Nt) : Prop := ys.length = N.ws.length ∧ ∀ j, j < N.ws.length → ∃ (p q : Addr) (zs : List V), ys[j]? = some (.ref p) ∧ H p = some (.tup [.int (N.w j).s, .int (N.w j).e, .ref q]) ∧ H q = some (.tup zs) ∧ zs.length = (N.w j).k
def NetV (K : PySem.W.Frag) (H : Hp) (v : V) (N : Nt) : Prop := ∃ (a dx pg pw : Addr) (xs ys : List V), v = .ref a ∧ H a = some (.ins (He.ga K "Net") dx [("gates", .ref pg), ("wires", .ref pw)]) ∧ H pg = some (.lst xs) ∧ H pw = some (.lst ys) ∧ GX H xs N ∧ WX' H ys N
def nl (p : List Nat) : List V := p.map fun k => V.int (k : Nat)
def PcV (H : Hp) (v : V) (a : Nat) (p : List Nat) : Prop := ∃ t l : Addr, v = .ref t ∧ H t = some (.tup [.int (a : Nat), .ref l]) ∧ H l = some (.lst (nl p))
theorem GX.up {H H' : Hp} {xs : List V} {N : Nt} (e : Same H H') (g : GX H xs N) : GX H' xs N := ⟨g.1, fun i hi => by
  obtain ⟨p, k, h1, h2, h3⟩ := g.2 i hi
  exact ⟨p, k, h1, e _ _ h2, h3⟩⟩
theorem WX'.up {H H' : Hp} {xs : List V} {N : Nt} (e : Same H H') (g : WX' H xs N) : WX' H' xs N := ⟨g.1, fun i hi => by
  obtain ⟨p, q, zs, h1, h2, h3, h4⟩ := g.2 i hi
  exact ⟨p, q, zs, h1, e _ _ h2, e _ _ h3, h4⟩⟩
theorem NetV.up {K : PySem.W.Frag} {H H' : Hp} {v : V} {N : Nt} (e : Same H H') (n : NetV K H v N) : NetV K H' v N := by
  obtain ⟨a, dx, pg, pw, xs, ys, e0, h1, h2, h3, g, w⟩ := n
  exact ⟨a, dx, pg, pw, xs, ys, e0, e _ _ h1, e _ _ h2, e _ _ h3, g.up e, w.up e⟩
theorem PcV.up {H H' : Hp} {v : V} {a : Nat} {p : List Nat} (e : Same H H') (n : PcV H v a p) : PcV H' v a p := by
  obtain ⟨t, l, e0, h1, h2⟩ := n
  exact ⟨t, l, e0, e _ _ h1, e _ _ h2⟩
theorem nl_at {p : List Nat} {i : Nat} {x : V} (h : (nl p)[i]? = some x) : ∃ k, p[i]? = some k ∧ x = .int (k : Nat) := by
  unfold nl at h
  rw [List.getElem?_map] at h
  cases e : p[i]? with
  | none =>
    rw [e] at h
    cases h
  | some k =>
    rw [e] at h
    exact ⟨k, rfl, (Option.some.inj h).symm⟩
theorem nl_get {p : List Nat} {i k : Nat} (h : p[i]? = some k) : (nl p)[i]? = some (.int (k : Nat)) := by
  unfold nl
  rw [List.getElem?_map, h]
  rfl
theorem nl_len {p : List Nat} : (nl p).length = p.length := List.length_map _
section
variable {K : PySem.W.Frag} {mg : Str → Option Value} {P : Program} {w : World} {base : Heap}
/-! ### is_number -/
abbrev N_is_number : List Str := ["thing", "many"]
theorem sc_is_number : FnScope N_is_number (["thing", "many"] : List Str) (defScope s_is_number) := ⟨rfl, rfl, rfl, by decide +kernel, rfl, by decide +kernel, by decide +kernel⟩

def sp_is_number : Sp := fun vs H Q _ => ∃ i m : Int, vs = [.int i, .int m] ∧ 0 ≤ i ∧ i < m ∧ Q (.bl true) H
theorem ok_is_number (T : Tx K mg) : CalQ P w K mg base 1 "is_number" ["thing", "many"] sp_is_number :=
  calQ T 1 rfl "is_number" rfl (by decide +kernel) sc_is_number (fun _ _ _ _ _ _ us hl => match us, hl with | [_, _], _ => rfl) (fun vs H Q E ⟨_, _, e, _⟩ => by rw [e]; rfl) fun cdv f A outer s H vs Q E b pl q ⟨i, m, e, h0, h1, k⟩ => by
    subst e
    refine ⟨_, (pss_one (ps_ret (pe_and (pe_callB c_isi (by rfl) (T.fr "isinstance") (by decide +kernel) (pa_cons (pv 0) (pa_cons (pe_bltn (v := .ty "int") (by rfl) (T.fr "int") (by decide +kernel) rfl) pa_nil))) (pe_and (pe_not (pe_callB c_isi (by rfl) (T.fr "isinstance") (by decide +kernel) (pa_cons (pv 0) (pa_cons (pe_bltn (v := .ty "bool") (by rfl) (T.fr "bool") (by decide +kernel) rfl) pa_nil)))) (pe_one (pe_chain op_le op_lt pe_int (pv 0) (pv 1))))))), ?_⟩
    walk_at "lg"
    exact w_bl' (decide_eq_true h1) k
/-! ### held -/
abbrev N_held : List Str := ["net", "piece", "place"]
theorem sc_held : FnScope N_held (["net", "piece"] : List Str) (defScope s_held) := ⟨rfl, rfl, rfl, by decide +kernel, rfl, by decide +kernel, by decide +kernel⟩

def sp_held (K : PySem.W.Frag) : Sp := fun vs H Q _ => ∃ (v x : V) (N : Nt) (a : Nat) (p : List Nat), vs = [v, x] ∧ NetV K H v N ∧ PcV H x a p ∧ N.Ok ∧ Way N a p ∧ p.length ≤ 100 ∧ ∀ H', Same H H' → Q (.int (heldN N p)) H'
theorem ok_held (T : Tx K mg) : CalQ P w K mg base 1 "held" ["net", "piece"] (sp_held K) :=
  calQ T 7 rfl "held" rfl (by decide +kernel) sc_held (fun _ _ _ _ _ _ us hl => match us, hl with | [_, _], _ => rfl) (fun vs H Q E ⟨_, _, _, _, _, e, _⟩ => by rw [e]; rfl) fun cdv f A outer s H vs Q E b pl q ⟨v, x, N, a, p, e, ⟨na, dx, pg, pw, xs, ys, ev, h1, h2, h3, G, W⟩, ⟨t, l, ex, h4, h5⟩, O, wy, hl, k⟩ => by
    subst e ev ex
    refine ⟨_, (pss_one (ps_ret (pe_callB (c_sum q.q) (by rfl) (T.fr "sum") (by decide +kernel) (pa_cons (qe_lc (own := [("place", 2)]) (g := gName 2) (tt := tYes) q.q sc_held.nd (qi_list (K := K) rfl (pe_ix ixt (pv 1) pe_int (fun _ _ => rfl))) (blkOk_by (N := N_held) (sc := defScope s_held) (by decide +kernel)) (fun _ _ _ _ _ => (pg_name (i := 2) sc_held.nd rfl (Or.inl rfl))) (fun _ _ _ _ _ => pts_nil) (fun _ _ _ _ _ => (pe_callB c_lenT (by rfl) (T.fr "len") PySem.boot_len (pa_cons (pe_ix ixt (pe_ix ixl (e_fld rfl T.cNet (T.aNet "wires" (by decide +kernel)) (pv 0)) (pv 2) (fun _ _ => rfl)) pe_int (fun _ _ => rfl)) pa_nil)))) pa_nil)))), ?_⟩
    walk_at "lg"
    refine lc_list h5 (Same.refl H) (by rw [nl_len]; omega) (p.map fun k => V.int ((N.w k).k : Nat)) (by rw [nl_len, List.length_map]) (fun i x y H' hx hy s Qy ky => ?_) fun q H' hq s hl => ?_
    · obtain ⟨k, hk, rfl⟩ := nl_at hx
      obtain ⟨p1, p2, zs, w1, w2, w3, w4⟩ := W.2 k (wy.lt k (List.mem_of_getElem? hk))
      walk_at "lg"
      rw [List.getElem?_map, hk] at hy
      cases Option.some.inj hy
      rw [w4]
      exact ky H' (Same.refl _)
    · have hl : H' q = some (.lst ((p.map fun k => ((N.w k).k : Int)).map V.int)) := by rw [hl, List.map_map]; rfl
      walk_at "lg"
      exact k H' s
/-! ### sure_beat, is_fixed -/
abbrev N_sure_beat : List Str := ["beat"]
theorem sc_sure_beat : FnScope N_sure_beat (["beat"] : List Str) (defScope s_sure_beat) := ⟨rfl, rfl, rfl, by decide +kernel, rfl, by decide +kernel, by decide +kernel⟩

def sp_sure_beat : Sp := fun vs H Q _ => ∃ b : Int, vs = [.int b] ∧ 0 ≤ b ∧ Q .non H
theorem ok_sure_beat (T : Tx K mg) : CalQ P w K mg base 1 "sure_beat" ["beat"] sp_sure_beat :=
  calQ T 2 rfl "sure_beat" rfl (by decide +kernel) sc_sure_beat (fun _ _ _ _ _ _ us hl => match us, hl with | [_], _ => rfl) (fun vs H Q E ⟨_, e, _⟩ => by rw [e]; rfl) fun cdv f A outer s H vs Q E b pl q ⟨i, e, h0, k⟩ => by
    subst e
    refine ⟨_, (pss_one (ps_if (PW.pt (pw_or (pt_not (pt_val (pe_callB c_isi (by rfl) (T.fr "isinstance") (by decide +kernel) (pa_cons (pv 0) (pa_cons (pe_bltn (v := .ty "int") (by rfl) (T.fr "int") (by decide +kernel) rfl) pa_nil))))) (pw_or (pt_val (pe_callB c_isi (by rfl) (T.fr "isinstance") (by decide +kernel) (pa_cons (pv 0) (pa_cons (pe_bltn (v := .ty "bool") (by rfl) (T.fr "bool") (by decide +kernel) rfl) pa_nil)))) (pw_or1 (pt_cmpR op_lt (pv 0) pe_int (nomark _)))))) (pss_one ps_never) pss_nil)), ?_⟩
    walk_at "lg"
    exact k
abbrev N_is_fixed : List Str := ["net", "gate"]
theorem sc_is_fixed : FnScope N_is_fixed (["net", "gate"] : List Str) (defScope s_is_fixed) := ⟨rfl, rfl, rfl, by decide +kernel, rfl, by decide +kernel, by decide +kernel⟩

def sp_is_fixed (K : PySem.W.Frag) : Sp := fun vs H Q _ => ∃ (v : V) (N : Nt) (g : Nat), vs = [v, .int (g : Nat)] ∧ NetV K H v N ∧ g < N.n ∧ ∀ H', Same H H' → Q (.bl (N.fx g)) H'
theorem ok_is_fixed (T : Tx K mg) : CalQ P w K mg base 1 "is_fixed" ["net", "gate"] (sp_is_fixed K) :=
  calQ T 3 rfl "is_fixed" rfl (by decide +kernel) sc_is_fixed (fun _ _ _ _ _ _ us hl => match us, hl with | [_, _], _ => rfl) (fun vs H Q E ⟨_, _, _, e, _⟩ => by rw [e]; rfl) fun cdv f A outer s H vs Q E b pl q ⟨v, N, g, e, ⟨na, dx, pg, pw, xs, ys, ev, h1, h2, h3, G, W⟩, hg, k⟩ => by
    subst e ev
    obtain ⟨p1, kd, g1, g2, g3⟩ := G.2 g hg
    refine ⟨_, (pss_one (ps_ret (pe_cmpR o_inQ (pe_ix ixt (pe_ix ixl (e_fld rfl T.cNet (T.aNet "gates" (by decide +kernel)) (pv 0)) (pv 1) (fun _ _ => rfl)) pe_int (fun _ _ => rfl)) (pe_tup (pa_cons pe_str (pa_cons pe_str pa_nil))) (by rfl)))), ?_⟩
    walk_at "lg"
    intro t ht
    walk_at "lg"
    rw [in_str2, ← g3]
    exact k _ (same_upd ht)
/-! ### home -/
abbrev N_home : List Str := ["net", "gate"]
theorem sc_home : FnScope N_home (["net", "gate"] : List Str) (defScope s_home) := ⟨rfl, rfl, rfl, by decide +kernel, rfl, by decide +kernel, by decide +kernel⟩

def sp_home (K : PySem.W.Frag) : Sp := fun vs H Q _ => ∃ (v : V) (N : Nt) (g : Nat), vs = [v, .int (g : Nat)] ∧ NetV K H v N ∧ g < N.n ∧ ∀ H', Same H H' → Q (.int (homeN N g)) H'
theorem ok_home (T : Tx K mg) : CalG P w K mg base CX0 2 "home" ["net", "gate"] (sp_home K) :=
  calG T 4 rfl "home" rfl (by decide +kernel) sc_home (fun _ _ _ _ _ _ us hl => match us, hl with | [_, _], _ => rfl) (fun vs H Q E ⟨_, _, _, e, _⟩ => by rw [e]; rfl) fun cdv f A outer s H vs Q E hr ⟨v, N, g, e, n, hg, k⟩ => by
    subst e
    refine ⟨_, (pss_one (ps_ret (pe_ifExp (pt_val (pk (ok_is_fixed T).g hr (by decide) (pa_cons (pv 0) (pa_cons (pv 1) pa_nil)))) (C8.pe_gc (by rfl) (T.gI "HOUSE" (-1))) (pv 1)))), ?_⟩
    walk_at "lg"
    refine ⟨v, N, g, rfl, n, hg, fun H1 s1 => ?_⟩
    have k := k H1 s1
    unfold homeN at k
    walk_at "lg"
    cases c : N.fx g with
    | true =>
      rw [c] at k
      walk_at "lg"
      exact k
    | false =>
      rw [c] at k
      walk_at "lg"
      exact k
/-! ### gates_of -/
abbrev N_gates_of : List Str := ["net", "piece", "start", "places", "place"]
theorem sc_gates_of : FnScope N_gates_of (["net", "piece"] : List Str) (defScope s_gates_of) := ⟨rfl, rfl, rfl, by decide +kernel, rfl, by decide +kernel, by decide +kernel⟩

def sp_gates_of (K : PySem.W.Frag) : Sp := fun vs H Q _ => ∃ (v x : V) (N : Nt) (a : Nat) (p : List Nat), vs = [v, x] ∧ NetV K H v N ∧ PcV H x a p ∧ N.Ok ∧ Way N a p ∧ p.length ≤ 100 ∧ ∀ q H', Same H H' → H q = none → H' q = some (.lst (nl (gatesN N a p))) → Q (.ref q) H'
theorem ok_gates_of (T : Tx K mg) : CalQ P w K mg base 1 "gates_of" ["net", "piece"] (sp_gates_of K) :=
  calQ T 6 rfl "gates_of" rfl (by decide +kernel) sc_gates_of (fun _ _ _ _ _ _ us hl => match us, hl with | [_, _], _ => rfl) (fun vs H Q E ⟨_, _, _, _, _, e, _⟩ => by rw [e]; rfl) fun cdv f A outer s H vs Q E b pl q ⟨v, x, N, a, p, e, ⟨na, dx, pg, pw, xs, ys, ev, h1, h2, h3, G, W⟩, ⟨t, l, ex, h4, h5⟩, O, wy, hl, k⟩ => by
    subst e ev ex
    refine ⟨_, (pss_cons (ps_asg (pv 1) (g_tup (n := 2) q.q (pgs_cons (pg_name (i := 2) sc_gates_of.nd rfl (Or.inl rfl)) (pgs_cons (pg_name (i := 3) sc_gates_of.nd rfl (Or.inl rfl)) pgs_nil))))
    (pss_one (ps_ret (pe_op op_cat (pe_lst (pa_cons (pv 2) pa_nil)) (qe_lc (own := [("place", 4)]) (g := gName 4) (tt := tYes) q.q sc_gates_of.nd (qi_list (K := K) rfl (pv 3)) (blkOk_by (N := N_gates_of) (sc := defScope s_gates_of) (by decide +kernel)) (fun _ _ _ _ _ => (pg_name (i := 4) sc_gates_of.nd rfl (Or.inl rfl))) (fun _ _ _ _ _ => pts_nil) (fun _ _ _ _ _ => (pe_ix ixt (pe_ix ixl (e_fld rfl T.cNet (T.aNet "wires" (by decide +kernel)) (pv 0)) (pv 4) (fun _ _ => rfl)) pe_int (fun _ _ => rfl)))))))), ?_⟩
    walk_at "lg"
    intro l1 hl1
    walk_at "lg"
    refine lc_list (at_upd hl1 h5) (Same.refl _) (by rw [nl_len]; omega) (p.map fun k => V.int ((N.w k).e : Nat)) (by rw [nl_len, List.length_map]) (fun i x y H' hx hy s Qy ky => ?_) fun q H' hq s hl' => ?_
    · obtain ⟨k, hk, rfl⟩ := nl_at hx
      obtain ⟨p1, p2, zs, w1, w2, w3, w4⟩ := W.2 k (wy.lt k (List.mem_of_getElem? hk))
      have s := (same_upd hl1).trans s
      walk_at "lg"
      rw [List.getElem?_map, hk] at hy
      cases Option.some.inj hy
      exact ky H' (Same.refl _)
    · have e1 : H' l1 = some (.lst [V.int (a : Nat)]) := s _ _ upd_same
      walk_at "lg"
      · show 1 + (List.map _ p).length < 100000
        rw [List.length_map]
        omega
      intro n hn
      have s' := (same_upd hl1).trans s
      refine k n _ (s'.trans (same_upd hn)) (s'.free hn) ?_
      rw [upd_same]
      unfold gatesN nl
      rw [List.map_cons, List.map_map]
      rfl
/-! ### wait_of, is_long, room -/
abbrev N_wait_of : List Str := ["net", "piece", "gate"]
theorem sc_wait_of : FnScope N_wait_of (["net", "piece"] : List Str) (defScope s_wait_of) := ⟨rfl, rfl, rfl, by decide +kernel, rfl, by decide +kernel, by decide +kernel⟩

def sp_wait_of (K : PySem.W.Frag) : Sp := fun vs H Q _ => ∃ (v x : V) (N : Nt) (a : Nat) (p : List Nat), vs = [v, x] ∧ NetV K H v N ∧ PcV H x a p ∧ N.Ok ∧ Way N a p ∧ a < N.n ∧ p.length ≤ 100 ∧ ∀ H', Same H H' → Q (.int (waitN N a p)) H'
theorem ok_wait_of (T : Tx K mg) : CalQ P w K mg base 2 "wait_of" ["net", "piece"] (sp_wait_of K) :=
  calQ T 8 rfl "wait_of" rfl (by decide +kernel) sc_wait_of (fun _ _ _ _ _ _ us hl => match us, hl with | [_, _], _ => rfl) (fun vs H Q E ⟨_, _, _, _, _, e, _⟩ => by rw [e]; rfl) fun cdv f A outer s H vs Q E b pl q ⟨v, x, N, a, p, e, hN, hP, O, wy, ha, hl, k⟩ => by
    subst e
    obtain ⟨na, dx, pg, pw, xs, ys, ev, h1, h2, h3, G, W⟩ := id hN
    subst ev
    refine ⟨_, (pss_one (ps_ret (pe_callB (c_sum q.q) (by rfl) (T.fr "sum") (by decide +kernel) (pa_cons (qe_lc (own := [("gate", 2)]) (g := gName 2) (tt := tYes) q.q sc_wait_of.nd (qi_list (K := K) rfl (pkq (ok_gates_of T) q (by decide) (pa_cons (pv 0) (pa_cons (pv 1) pa_nil)))) (blkOk_by (N := N_wait_of) (sc := defScope s_wait_of) (by decide +kernel)) (fun _ _ _ _ _ => (pg_name (i := 2) sc_wait_of.nd rfl (Or.inl rfl))) (fun _ _ _ _ _ => pts_nil) (fun _ _ _ _ _ => (pe_ix ixt (pe_ix ixl (e_fld rfl T.cNet (T.aNet "gates" (by decide +kernel)) (pv 0)) (pv 2) (fun _ _ => rfl)) pe_int (fun _ _ => rfl)))) pa_nil)))), ?_⟩
    walk_at "lg"
    refine ⟨_, _, N, a, p, rfl, hN, hP, O, wy, hl, fun l1 H1 s1 hf hl1 => ?_⟩
    walk_at "lg"
    have len : (gatesN N a p).length = p.length + 1 := by simp [gatesN]
    refine lc_list hl1 (Same.refl _) (by rw [nl_len]; omega) ((gatesN N a p).map fun g => V.int (N.wt g)) (by rw [nl_len, List.length_map]) (fun i x y H' hx hy s Qy ky => ?_) fun q H' hq s hl' => ?_
    · obtain ⟨g, hk, rfl⟩ := nl_at hx
      obtain ⟨p1, kd, g1, g2, g3⟩ := G.2 g (O.gates_lt ha wy g (List.mem_of_getElem? hk))
      have s := s1.trans s
      walk_at "lg"
      rw [List.getElem?_map, hk] at hy
      cases Option.some.inj hy
      exact ky H' (Same.refl _)
    · have hl' : H' q = some (.lst (((gatesN N a p).map fun g => N.wt g).map V.int)) := by rw [hl', List.map_map]; rfl
      walk_at "lg"
      refine w_in' ?_ (k H' (s1.trans s))
      show (N.wt a :: (p.map fun k => (N.w k).e).map fun g => N.wt g).sum = _
      rw [List.map_map]
      rfl
abbrev N_is_long : List Str := ["net", "piece", "beat"]
theorem sc_is_long : FnScope N_is_long (["net", "piece", "beat"] : List Str) (defScope s_is_long) := ⟨rfl, rfl, rfl, by decide +kernel, rfl, by decide +kernel, by decide +kernel⟩

def sp_is_long (K : PySem.W.Frag) : Sp := fun vs H Q _ => ∃ (v x : V) (N : Nt) (a : Nat) (p : List Nat) (b : Int), vs = [v, x, .int b] ∧ NetV K H v N ∧ PcV H x a p ∧ N.Ok ∧ Way N a p ∧ a < N.n ∧ p.length ≤ 100 ∧ ∀ H', Same H H' → Q (.bl (longN N b a p)) H'
theorem ok_is_long (T : Tx K mg) : CalQ P w K mg base 3 "is_long" ["net", "piece", "beat"] (sp_is_long K) :=
  calQ T 9 rfl "is_long" rfl (by decide +kernel) sc_is_long (fun _ _ _ _ _ _ us hl => match us, hl with | [_, _, _], _ => rfl) (fun vs H Q E ⟨_, _, _, _, _, _, e, _⟩ => by rw [e]; rfl) fun cdv f A outer s H vs Q E b pl q ⟨v, x, N, a, p, bt, e, hN, hP, O, wy, ha, hl, k⟩ => by
    subst e
    refine ⟨_, (pss_one (ps_ret (pe_cmpR op_gt (pkq (ok_wait_of T) q (by decide) (pa_cons (pv 0) (pa_cons (pv 1) pa_nil))) (pv 2) (nomark _)))), ?_⟩
    walk_at "lg"
    refine ⟨_, _, N, a, p, rfl, hN, hP, O, wy, ha, hl, fun H1 s1 => ?_⟩
    walk_at "lg"
    exact k H1 s1
abbrev N_room : List Str := ["net", "piece", "beat"]
theorem sc_room : FnScope N_room (["net", "piece", "beat"] : List Str) (defScope s_room) := ⟨rfl, rfl, rfl, by decide +kernel, rfl, by decide +kernel, by decide +kernel⟩

def sp_room (K : PySem.W.Frag) : Sp := fun vs H Q _ => ∃ (v x : V) (N : Nt) (a : Nat) (p : List Nat) (b : Int), vs = [v, x, .int b] ∧ NetV K H v N ∧ PcV H x a p ∧ N.Ok ∧ Way N a p ∧ a < N.n ∧ p.length ≤ 100 ∧ ∀ H', Same H H' → Q (.int (roomN N b a p)) H'
theorem ok_room (T : Tx K mg) : CalQ P w K mg base 4 "room" ["net", "piece", "beat"] (sp_room K) :=
  calQ T 10 rfl "room" rfl (by decide +kernel) sc_room (fun _ _ _ _ _ _ us hl => match us, hl with | [_, _, _], _ => rfl) (fun vs H Q E ⟨_, _, _, _, _, _, e, _⟩ => by rw [e]; rfl) fun cdv f A outer s H vs Q E b pl q ⟨v, x, N, a, p, bt, e, hN, hP, O, wy, ha, hl, k⟩ => by
    subst e
    refine ⟨_, (pss_one (ps_ret (pe_op op_sub (pkq (ok_held T) q (by decide) (pa_cons (pv 0) (pa_cons (pv 1) pa_nil))) (pe_callTy call_int1 (by rfl) (T.fr "int") (by decide +kernel) (pa_cons (pkq (ok_is_long T) q (by decide) (pa_cons (pv 0) (pa_cons (pv 1) (pa_cons (pv 2) pa_nil)))) pa_nil))))), ?_⟩
    walk_at "lg"
    refine ⟨_, _, N, a, p, rfl, hN, hP, O, wy, hl, fun H1 s1 => ?_⟩
    walk_at "lg"
    refine ⟨_, _, N, a, p, bt, rfl, hN.up s1, hP.up s1, O, wy, ha, hl, fun H2 s2 => ?_⟩
    walk_at "lg"
    refine w_in' ?_ (k H2 (s1.trans s2))
    rfl
end

def nlD (p : List Nat) : List PyData := p.map fun k => .int (k : Nat)
def pcD (r : Nat × List Nat) : PyData := .tuple [.int (r.1 : Nat), .list (nlD r.2)]
theorem nl_eq {p : List Nat} : nl p = (p.map fun k : Nat => (k : Int)).map V.int := by
  unfold nl
  rw [List.map_map]
  rfl
theorem nlD_eq {p : List Nat} : nlD p = (p.map fun k : Nat => (k : Int)).map PyData.int := by
  unfold nlD
  rw [List.map_map]
  rfl
theorem nl_dq {H : Hp} {p : List Nat} : DqA H (nl p) (nlD p) := by
  rw [nl_eq, nlD_eq]
  exact dqa_of_ints
theorem nlD_shp {p : List Nat} : ∀ d ∈ nlD p, shp 20 d := by
  rw [nlD_eq]
  exact shp_ints
theorem PcV.dq {H : Hp} {x : V} {a : Nat} {p : List Nat} (h : PcV H x a p) : Dq H x (pcD (a, p)) := by
  obtain ⟨t, l, rfl, h1, h2⟩ := h
  exact .tup h1 (.cons (.int _) (.cons (.lst h2 nl_dq) .nil))
theorem pcD_shp {r : Nat × List Nat} : shp 20 (pcD r) := by
  refine shp.up (k := 2) (shp_tup fun d hd => ?_) (by decide)
  rcases List.mem_cons.mp hd with e | e
  · rw [e]
    exact shp_int
  · rw [List.mem_singleton.mp e]
    refine shp_lst fun d hd => ?_
    unfold nlD at hd
    obtain ⟨k, _, rfl⟩ := List.mem_map.mp hd
    exact shp_int
/-- a list of pieces -/
def PcsV (H : Hp) (xs : List V) (rs : List (Nat × List Nat)) : Prop := Al (fun v H (r : Nat × List Nat) => PcV H v r.1 r.2) H xs rs
theorem PcsV.up {H H' : Hp} {xs : List V} {rs : List (Nat × List Nat)} (e : Same H H') (h : PcsV H xs rs) : PcsV H' xs rs := al_mono (fun v a q => q.up e) h
theorem PcsV.dq {H : Hp} : ∀ {xs : List V} {rs : List (Nat × List Nat)}, PcsV H xs rs → DqA H xs (rs.map pcD)
  | [], [], _ => .nil
  | [], _ :: _, h => h.elim
  | _ :: _, [], h => h.elim
  | v :: vs, a :: as, h => .cons h.1.dq (PcsV.dq h.2)
theorem fmodN {a b : Nat} : ((a : Nat) : Int).fmod (b : Nat) = ((a % b : Nat) : Int) := by
  rw [Int.fmod_eq_emod_of_nonneg _ (Int.natCast_nonneg b)]
  rfl
theorem way_at {N : Nt} : ∀ {p : List Nat} {a i k : Nat}, Way N a p → p[i]? = some k → (N.w k).s = endOf N a (p.take i) ∧ (N.w k).e = endOf N a (p.take (i + 1)) ∧ k < N.ws.length
  | [], _, _, _, _, e => by cases e
  | j :: p, a, 0, k, h, e => by
    have e := Option.some.inj e
    subst e
    exact ⟨h.2.1, rfl, h.1⟩
  | j :: p, a, i + 1, k, h, e => way_at (p := p) (i := i) h.2.2 e
section
variable {K : PySem.W.Frag} {mg : Str → Option Value} {P : Program} {w : World} {base : Heap}
/-! ### is_piece -/
abbrev N_is_piece : List Str := ["net", "thing", "at", "place"]
theorem sc_is_piece : FnScope N_is_piece (["net", "thing"] : List Str) (defScope s_is_piece) := ⟨rfl, rfl, rfl, by decide +kernel, rfl, by decide +kernel, by decide +kernel⟩

def sp_is_piece (K : PySem.W.Frag) : Sp := fun vs H Q _ => ∃ (v x : V) (N : Nt) (a : Nat) (p : List Nat), vs = [v, x] ∧ NetV K H v N ∧ PcV H x a p ∧ N.Ok ∧ Way N a p ∧ a < N.n ∧ p.length ≤ 100 ∧ ∀ H', Same H H' → Q (.bl true) H'
theorem ok_is_piece (T : Tx K mg) : CalQ P w K mg base 2 "is_piece" ["net", "thing"] (sp_is_piece K) :=
  calQ T 5 rfl "is_piece" rfl (by decide +kernel) sc_is_piece (fun _ _ _ _ _ _ us hl => match us, hl with | [_, _], _ => rfl) (fun vs H Q E ⟨_, _, _, _, _, e, _⟩ => by rw [e]; rfl) fun cdv f A outer s H vs Q E b pl q ⟨v, x, N, a, p, e, ⟨na, dx, pg, pw, xs, ys, ev, h1, h2, h3, G, W⟩, ⟨t, l, ex, h4, h5⟩, O, wy, ha, hl, k⟩ => by
    subst e ev ex
    refine ⟨_, (pss_cons (ps_if (PW.pt (pw_or (pt_not (pt_val (pe_callB c_isi (by rfl) (T.fr "isinstance") (by decide +kernel) (pa_cons (pv 1) (pa_cons (pe_bltn (v := .ty "tuple") (by rfl) (T.fr "tuple") (by decide +kernel) rfl) pa_nil))))) (pw_or (pt_cmpR op_ne (pe_callB c_lenT (by rfl) (T.fr "len") PySem.boot_len (pa_cons (pv 1) pa_nil)) pe_int (nomark _)) (pw_or1 (pt_not (pt_val (pkq (ok_is_number T) q (by decide) (pa_cons (pe_ix ixt (pv 1) pe_int (fun _ _ => rfl)) (pa_cons (pe_callB c_lenL (by rfl) (T.fr "len") PySem.boot_len (pa_cons (e_fld rfl T.cNet (T.aNet "gates" (by decide +kernel)) (pv 0)) pa_nil)) pa_nil))))))))) (pss_one (ps_ret pe_bl)) pss_nil)
    (pss_cons (ps_if (pt_not (pt_val (pe_callB c_isi (by rfl) (T.fr "isinstance") (by decide +kernel) (pa_cons (pe_ix ixt (pv 1) pe_int (fun _ _ => rfl)) (pa_cons (pe_bltn (v := .ty "list") (by rfl) (T.fr "list") (by decide +kernel) rfl) pa_nil))))) (pss_one (ps_ret pe_bl)) pss_nil)
    (pss_cons (ps_set (i := 2) sc_is_piece.nd rfl (Or.inl rfl) (pe_ix ixt (pv 1) pe_int (fun _ _ => rfl)))
    (pss_cons (qs_for PassesOwn.never q.q (qi_list (K := K) rfl (pe_ix ixt (pv 1) pe_int (fun _ _ => rfl))) (pg_name (i := 3) sc_is_piece.nd rfl (Or.inl rfl)) (pss_cons (ps_if (PW.pt (pw_or (pt_not (pt_val (pkq (ok_is_number T) q (by decide) (pa_cons (pv 3) (pa_cons (pe_callB c_lenL (by rfl) (T.fr "len") PySem.boot_len (pa_cons (e_fld rfl T.cNet (T.aNet "wires" (by decide +kernel)) (pv 0)) pa_nil)) pa_nil))))) (pw_or1 (pt_cmpR op_ne (pe_ix ixt (pe_ix ixl (e_fld rfl T.cNet (T.aNet "wires" (by decide +kernel)) (pv 0)) (pv 3) (fun _ _ => rfl)) pe_int (fun _ _ => rfl)) (pv 2) (nomark _))))) (pss_one (ps_ret pe_bl)) pss_nil)
    (pss_one (ps_set (i := 2) sc_is_piece.nd rfl (Or.inl rfl) (pe_ix ixt (pe_ix ixl (e_fld rfl T.cNet (T.aNet "wires" (by decide +kernel)) (pv 0)) (pv 3) (fun _ _ => rfl)) pe_int (fun _ _ => rfl))))))
    (pss_one (ps_ret pe_bl)))))), ?_⟩
    have g1 := G.1
    have w1 := W.1
    walk_at "lg"
    refine ⟨_, _, rfl, by omega, by omega, ?_⟩
    walk_at "lg"
    refine for_list h5 (Same.refl H) (fun i σ H' => ∃ z, σ = [some (.ref na), some (.ref t), some (.int (endOf N a (p.take i) : Nat)), z]) ⟨_, rfl⟩ (fun i y σ H' hy s ⟨z, e⟩ => ?_) fun σ H' s _ => ?_
    · subst e
      obtain ⟨k, hk, rfl⟩ := nl_at hy
      obtain ⟨e1, e2, hk2⟩ := way_at wy hk
      obtain ⟨p1, p2, zs, w2, w3, w4, w5⟩ := W.2 k hk2
      walk_at "lg"
      refine ⟨_, _, rfl, by omega, by omega, ?_⟩
      walk_at "lg"
      exact ⟨s, _, by rw [← e2]; rfl⟩
    · walk_at "lg"
      exact k _ s
/-! ### meets -/
abbrev N_meets : List Str := ["net", "piece", "other", "end"]
theorem sc_meets : FnScope N_meets (["net", "piece", "other"] : List Str) (defScope s_meets) := ⟨rfl, rfl, rfl, by decide +kernel, rfl, by decide +kernel, by decide +kernel⟩

def sp_meets (K : PySem.W.Frag) : Sp := fun vs H Q _ => ∃ (v x y : V) (N : Nt) (a : Nat) (p : List Nat) (a2 : Nat) (p2 : List Nat), vs = [v, x, y] ∧ NetV K H v N ∧ PcV H x a p ∧ PcV H y a2 p2 ∧ N.Ok ∧ Way N a p ∧ a < N.n ∧ a2 < N.n ∧ p.length ≤ 100 ∧ homeN N (endOf N a p) = homeN N a2 ∧ ∀ H', Same H H' → Q (.bl true) H'
theorem ok_meets (T : Tx K mg) : CalQ P w K mg base 2 "meets" ["net", "piece", "other"] (sp_meets K) :=
  calQ T 21 rfl "meets" rfl (by decide +kernel) sc_meets (fun _ _ _ _ _ _ us hl => match us, hl with | [_, _, _], _ => rfl) (fun vs H Q E ⟨_, _, _, _, _, _, _, _, e, _⟩ => by rw [e]; rfl) fun cdv f A outer s H vs Q E b pl q ⟨v, x, y, N, a, p, a2, p2, e, hN, hP, ⟨t, l, ex, h4, h5⟩, O, wy, ha, ha2, hl, hm, k⟩ => by
    subst e ex
    refine ⟨_, (pss_cons (ps_set (i := 3) sc_meets.nd rfl (Or.inl rfl) (pe_ix ixl (pkq (ok_gates_of T) q (by decide) (pa_cons (pv 0) (pa_cons (pv 1) pa_nil))) (pe_un un_neg pe_int) (fun _ _ => rfl)))
    (pss_one (ps_ret (pe_or (pe_cmpR op_eq (pv 3) (pe_ix ixt (pv 2) pe_int (fun _ _ => rfl)) (nomark _)) (pe_one (pe_and (pkq (ok_is_fixed T) q (by decide) (pa_cons (pv 0) (pa_cons (pv 3) pa_nil))) (pe_one (pkq (ok_is_fixed T) q (by decide) (pa_cons (pv 0) (pa_cons (pe_ix ixt (pv 2) pe_int (fun _ _ => rfl)) pa_nil)))))))))), ?_⟩
    walk_at "lg"
    refine ⟨_, _, N, a, p, rfl, hN, hP, O, wy, hl, fun l1 H1 s1 hf hl1 => ?_⟩
    walk_at "lg"
    refine w_il hl1 (atLast (v := .int (endOf N a p : Nat)) ?_) ?_
    · unfold nl
      rw [List.getLast?_map, endOf_last]
      rfl
    have he := O.end_lt ha wy
    walk_at "lg"
    by_cases c : endOf N a p = a2
    · have c' : ((endOf N a p : Nat) : Int) = (a2 : Nat) := by rw [c]
      walk_at "lg"
      exact k H1 s1
    · have c' : ¬ ((endOf N a p : Nat) : Int) = (a2 : Nat) := by omega
      walk_at "lg"
      refine ⟨_, N, _, rfl, hN.up s1, he, fun H2 s2 => ?_⟩
      have f1 : N.fx (endOf N a p) = true := by
        unfold homeN at hm
        cases c1 : N.fx (endOf N a p) with
        | true => rfl
        | false =>
          rw [c1] at hm
          cases c2 : N.fx a2 with
          | true =>
            rw [c2] at hm
            have hm : ((endOf N a p : Nat) : Int) = -1 := hm
            omega
          | false =>
            rw [c2] at hm
            have hm : ((endOf N a p : Nat) : Int) = (a2 : Nat) := hm
            omega
      have f2 : N.fx a2 = true := by
        unfold homeN at hm
        rw [f1] at hm
        cases c2 : N.fx a2 with
        | true => rfl
        | false =>
          rw [c2] at hm
          have hm : -1 = ((a2 : Nat) : Int) := hm
          omega
      have s3 := s1.trans s2
      walk_at "lg"
      refine ⟨_, N, _, rfl, hN.up s3, ha2, fun H3 s4 => ?_⟩
      rw [f2]
      exact k H3 (s3.trans s4)
/-! ### bar_fault -/
abbrev N_bar_fault : List Str := ["net", "beat", "thing", "k", "piece", "left"]
theorem sc_bar_fault : FnScope N_bar_fault (["net", "beat", "thing"] : List Str) (defScope s_bar_fault) := ⟨rfl, rfl, rfl, by decide +kernel, rfl, by decide +kernel, by decide +kernel⟩

def sp_bar_fault (K : PySem.W.Frag) : Sp := fun vs H Q _ => ∃ (v : V) (b : Int) (L : Addr) (xs : List V) (N : Nt) (rs : List (Nat × List Nat)), vs = [v, .int b, .ref L] ∧ NetV K H v N ∧ H L = some (.lst xs) ∧ PcsV H xs rs ∧ N.Ok ∧ 0 ≤ b ∧ rs ≠ [] ∧ rs.length ≤ 1000 ∧
  (∀ r ∈ rs, Way N r.1 r.2 ∧ r.1 < N.n ∧ r.2.length ≤ 100) ∧ (∀ (i : Nat) (r r' : Nat × List Nat), rs[i]? = some r → rs[(i + 1) % rs.length]? = some r' → homeN N (endOf N r.1 r.2) = homeN N r'.1) ∧ sm rs (fun r => roomN N b r.1 r.2) < 0 ∧ ∀ H', Same H H' → Q .non H'
theorem ok_bar_fault (T : Tx K mg) : CalQ P w K mg base 5 "bar_fault" ["net", "beat", "thing"] (sp_bar_fault K) :=
  calQ T 22 rfl "bar_fault" rfl (by decide +kernel) sc_bar_fault (fun _ _ _ _ _ _ us hl => match us, hl with | [_, _, _], _ => rfl) (fun vs H Q E ⟨_, _, _, _, _, _, e, _⟩ => by rw [e]; rfl) fun cdv f A outer s H vs Q E b pl q ⟨v, bt, L, xs, N, rs, e, hN, hL, hP, O, hb, ne, hl, hr, hm, hs, k⟩ => by
    subst e
    refine ⟨_, (pss_cons (ps_expr (pkq (ok_sure_beat T) q (by decide) (pa_cons (pv 1) pa_nil)))
    (pss_cons (ps_if (PW.pt (pw_or (pt_not (pt_val (pe_callB c_isi (by rfl) (T.fr "isinstance") (by decide +kernel) (pa_cons (pv 2) (pa_cons (pe_bltn (v := .ty "list") (by rfl) (T.fr "list") (by decide +kernel) rfl) pa_nil))))) (pw_or (pt_cmpR (o_eqQ q.un) (pv 2) (pe_lst pa_nil) (nomark _)) (pw_or1 (pt_not (pt_val (pe_callB (c_all q.q) (by rfl) (T.fr "all") (by decide +kernel) (pa_cons (qe_lc (own := [("piece", 4)]) (g := gName 4) (tt := tYes) q.q sc_bar_fault.nd (qi_list (K := K) rfl (pv 2)) (blkOk_by (N := N_bar_fault) (sc := defScope s_bar_fault) (by decide +kernel)) (fun _ _ _ _ _ => (pg_name (i := 4) sc_bar_fault.nd rfl (Or.inl rfl))) (fun _ _ _ _ _ => pts_nil) (fun _ _ _ _ _ => (pkq (ok_is_piece T) q (by decide) (pa_cons (pv 0) (pa_cons (pv 4) pa_nil))))) pa_nil)))))))) (pss_one (ps_ret (pe_tup (pa_cons pe_str pa_nil)))) pss_nil)
    (pss_cons (qs_for PassesOwn.never q.q (qi_enum (K := K) rfl (T.fr "enumerate") (pa_cons (pv 2) pa_nil)) (g_tup (n := 2) q.q (pgs_cons (pg_name (i := 3) sc_bar_fault.nd rfl (Or.inl rfl)) (pgs_cons (pg_name (i := 4) sc_bar_fault.nd rfl (Or.inl rfl)) pgs_nil))) (pss_one (ps_if (pt_not (pt_val (pkq (ok_meets T) q (by decide) (pa_cons (pv 0) (pa_cons (pv 4) (pa_cons (pe_ix ixl (pv 2) (pe_op op_modN (pe_op op_add (pv 3) pe_int) (pe_callB c_lenL (by rfl) (T.fr "len") PySem.boot_len (pa_cons (pv 2) pa_nil))) (fun _ _ => rfl)) pa_nil)))))) (pss_one (ps_ret (pe_tup (pa_cons pe_str (pa_cons (pv 3) pa_nil))))) pss_nil)))
    (pss_cons (ps_set (i := 5) sc_bar_fault.nd rfl (Or.inl rfl) (pe_callB (c_sum q.q) (by rfl) (T.fr "sum") (by decide +kernel) (pa_cons (qe_lc (own := [("piece", 4)]) (g := gName 4) (tt := tYes) q.q sc_bar_fault.nd (qi_list (K := K) rfl (pv 2)) (blkOk_by (N := N_bar_fault) (sc := defScope s_bar_fault) (by decide +kernel)) (fun _ _ _ _ _ => (pg_name (i := 4) sc_bar_fault.nd rfl (Or.inl rfl))) (fun _ _ _ _ _ => pts_nil) (fun _ _ _ _ _ => (pkq (ok_room T) q (by decide) (pa_cons (pv 0) (pa_cons (pv 4) (pa_cons (pv 1) pa_nil)))))) pa_nil)))
    (pss_one (ps_ret (pe_ifExp (pt_cmpR op_lt (pv 5) pe_int (nomark _)) pe_non (pe_tup (pa_cons pe_str (pa_cons (pv 5) pa_nil)))))))))), ?_⟩
    have len := al_len hP
    walk_at "lg"
    refine ⟨bt, rfl, hb, ?_⟩
    walk_at "lg"
    intro l1 hl1
    refine w_eqE (at_upd hl1 hL) (hP.up (same_upd hl1)).dq (fun d hd => ?_) upd_same ?_
    · obtain ⟨r, _, rfl⟩ := List.mem_map.mp hd
      exact pcD_shp
    have e0 : xs.isEmpty = false := by
      cases xs with
      | nil =>
        exact absurd (List.length_eq_zero_iff.mp len.symm) ne
      | cons _ _ => rfl
    rw [e0]
    have s1 : Same H (upd H l1 (.lst [])) := same_upd hl1
    walk_at "lg"
    refine lc_list hL s1 (by omega) ((List.replicate xs.length true).map V.bl) (by simp) (fun i x y H' hx hy s Qy ky => ?_) fun q H2 hq s2 hl2 => ?_
    · obtain ⟨r, hr', hp⟩ := al_get hP hx
      obtain ⟨w1, w2, w3⟩ := hr r (List.mem_of_getElem? hr')
      walk_at "lg"
      refine ⟨_, _, N, r.1, r.2, rfl, hN.up s, hp.up s, O, w1, w2, w3, fun H3 s3 => ?_⟩
      rw [List.getElem?_map] at hy
      have hy : y = .bl true := by
        cases e : (List.replicate xs.length true)[i]? with
        | none =>
          rw [e] at hy
          cases hy
        | some z =>
          rw [e] at hy
          rw [← Option.some.inj hy, List.eq_of_mem_replicate (List.mem_of_getElem? e)]
      subst hy
      exact ky H3 s3
    have s2 := s1.trans s2
    walk_at "lg"
    have e1 : (List.replicate xs.length true).all id = true := by simp
    rw [e1]
    walk_at "lg"
    refine for_enum hL s2 (fun i σ H' => ∃ z1 z2, σ = [some v, some (.int bt), some (.ref L), z1, z2, none]) ⟨_, _, rfl⟩ (fun i y σ H' t hy ht s ⟨z1, z2, e⟩ => ?_) fun σ H' s ⟨z1, z2, e⟩ => ?_
    · subst e
      obtain ⟨r, hr', hp⟩ := al_get hP hy
      obtain ⟨w1, w2, w3⟩ := hr r (List.mem_of_getElem? hr')
      have s' := s.trans (same_upd (o := HO.tup [V.int (i : Nat), y]) ht)
      have hi : i < xs.length := (List.getElem?_eq_some_iff.mp hy).1
      have hj : (i + 1) % rs.length < rs.length := Nat.mod_lt _ (by omega)
      obtain ⟨y', hy', hp'⟩ := al_at hP (List.getElem?_eq_getElem hj)
      obtain ⟨w1', w2', w3'⟩ := hr _ (List.getElem_mem hj)
      walk_at "lg"
      have e2 : ((i : Nat) + 1 : Int).fmod (xs.length : Nat) = (((i + 1) % rs.length : Nat) : Int) := by
        rw [len]
        exact fmodN (a := i + 1)
      rw [e2]
      walk_at "lg"
      refine ⟨_, _, _, N, r.1, r.2, _, _, rfl, hN.up s', hp.up s', hp'.up s', O, w1, w2, w2', w3, hm i _ _ hr' (List.getElem?_eq_getElem hj), fun H3 s3 => ?_⟩
      walk_at "lg"
      exact ⟨s'.trans s3, _, _, rfl⟩
    · subst e
      walk_at "lg"
      refine lc_list hL s (by omega) ((rs.map fun r => roomN N bt r.1 r.2).map V.int) (by rw [List.length_map, List.length_map, len]) (fun i x y H' hx hy s Qy ky => ?_) fun q H2 hq s2 hl2 => ?_
      · obtain ⟨r, hr', hp⟩ := al_get hP hx
        obtain ⟨w1, w2, w3⟩ := hr r (List.mem_of_getElem? hr')
        walk_at "lg"
        rw [List.getElem?_map, List.getElem?_map, hr'] at hy
        cases Option.some.inj hy
        refine ⟨_, _, N, r.1, r.2, bt, rfl, hN.up s, hp.up s, O, w1, w2, w3, fun H3 s3 => ?_⟩
        exact ky H3 s3
      · have c1 : (rs.map fun r => roomN N bt r.1 r.2).sum < 0 := hs
        walk_at "lg"
        exact k _ (s.trans s2)
end

def lf {B : Type} (wy : Nat → Option B) : Int → Option B := fun x => if 0 ≤ x then wy x.toNat else none
theorem lf_at {B : Type} {wy : Nat → Option B} {g : Nat} : lf wy (g : Nat) = wy g := by
  unfold lf
  rw [if_pos (Int.natCast_nonneg g)]
  rfl
theorem lf_put {B : Type} {wy : Nat → Option B} {g : Nat} {o : Option B} : put (lf wy) (g : Nat) o = lf (putN wy g o) := by
  funext x
  by_cases c : x = (g : Nat)
  · subst c
    rw [put_same, lf_at, putN_same]
  · rw [put_ne c]
    unfold lf
    by_cases d : 0 ≤ x
    · rw [if_pos d, if_pos d, putN_ne (by omega)]
    · rw [if_neg d, if_neg d]
theorem lf_none {B : Type} : lf (fun _ => (none : Option B)) = fun _ => none := by
  funext x
  unfold lf
  split <;> rfl
def okN (n : Nat) (x : Int) : Prop := 0 ≤ x ∧ x < n
theorem okN_mem {n : Nat} {x : Int} (h : okN n x) : x ∈ (List.range n).map fun k : Nat => (k : Int) :=
  List.mem_map.mpr ⟨x.toNat, List.mem_range.mpr (by have := h.1; have := h.2; omega), by have := h.1; omega⟩
def RB (N : Nt) (a : Nat) (D : Hp) (g : Int) (p : List Nat) (v : V) : Prop := ∃ t, v = .ref t ∧ D t = some (.tup ([heldN N p, -(waitN N a p)].map V.int))
def RW (D : Hp) (g : Int) (p : List Nat) (v : V) : Prop := ∃ l, v = .ref l ∧ D l = some (.lst (nl p))
theorem RB.up {N : Nt} {a : Nat} {D D' : Hp} (e : Same D D') {g : Int} {p : List Nat} {v : V} (r : RB N a D g p v) : RB N a D' g p v := by
  obtain ⟨t, e1, e2⟩ := r
  exact ⟨t, e1, e _ _ e2⟩
theorem RW.up {D D' : Hp} (e : Same D D') {g : Int} {p : List Nat} {v : V} (r : RW D g p v) : RW D' g p v := by
  obtain ⟨t, e1, e2⟩ := r
  exact ⟨t, e1, e _ _ e2⟩
/-- the three things that ways_from changes -/
def WInv (D H0 : Hp) (pb pw pt : Addr) (N : Nt) (a : Nat) (wy : Nat → Option (List Nat)) (td : List Nat) (H : Hp) : Prop :=
  ∃ D' kb kw, Ext D H0 D' H ∧ D' pb = none ∧ D' pw = none ∧ D' pt = none ∧ H pb = some (.dK kb) ∧ H pw = some (.dK kw) ∧ H pt = some (.lst (nl td)) ∧ DK (okN N.n) kb (lf wy) (RB N a D') ∧ DK (okN N.n) kw (lf wy) (RW D')
theorem mu_bound {f : Nat → Nat} : ∀ n, (∀ i, i < n → f i ≤ 30000) → mu f n ≤ 30000 * n
  | 0, _ => Nat.le_refl _
  | n + 1, h => by
    have := mu_bound (f := f) n fun i hi => h i (by omega)
    have := h n (by omega)
    show mu f n + f n ≤ _
    omega
theorem lexLt2 {a b c d : Int} : HT.lexLt [a, b] [c, d] = decide (a < c ∨ (a = c ∧ b < d)) := by
  rw [HT.lexLt_cons, HT.lexLt_cons, HT.lexLt_nil_nil]
  by_cases e : a = c
  · rw [if_pos e]
    by_cases e2 : b = d
    · rw [if_pos e2]
      exact (decide_eq_false (by omega)).symm
    · rw [if_neg e2]
      rw [Bool.eq_iff_iff]
      simp [e]
  · rw [if_neg e]
    rw [Bool.eq_iff_iff]
    simp [e]
section
variable {K : PySem.W.Frag} {mg : Str → Option Value} {P : Program} {w : World} {base : Heap}
/-! ### ways_from -/
abbrev N_ways_from : List Str := ["net", "start", "best", "ways", "todo", "at", "place", "begin", "end", "worths", "cost"]
theorem sc_ways_from : FnScope N_ways_from (["net", "start"] : List Str) (defScope s_ways_from) := ⟨rfl, rfl, rfl, by decide +kernel, rfl, by decide +kernel, by decide +kernel⟩

def sp_ways_from (K : PySem.W.Frag) : Sp := fun vs H Q _ => ∃ (v : V) (a : Nat) (N : Nt) (D : Hp), vs = [v, .int (a : Nat)] ∧ Same D H ∧ NetV K D v N ∧ N.Ok ∧ a < N.n ∧
  ∀ (d : Addr) (D' H' : Hp) (kvs : List (Key × V)) (wy : Nat → Option (List Nat)), Ext D H D' H' → H d = none → D' d = none → H' d = some (.dK kvs) → DK (okN N.n) kvs (lf wy) (RW D') → WaysOk N a wy → Q (.ref d) H'
theorem ok_ways_from (T : Tx K mg) : CalG P w K mg base CX0 1 "ways_from" ["net", "start"] (sp_ways_from K) :=
  calG T 11 rfl "ways_from" rfl (by decide +kernel) sc_ways_from (fun _ _ _ _ _ _ us hl => match us, hl with | [_, _], _ => rfl) (fun vs H Q E ⟨_, _, _, _, e, _⟩ => by rw [e]; rfl) fun cdv f A outer s H vs Q E hr ⟨v, a, N, D, e, sD, ⟨na, dx, pg, pw0, xs, ys, ev, h1, h2, h3, G, W⟩, O, ha, k⟩ => by
    subst e ev
    obtain ⟨p1, kd, g1, g2, g3⟩ := G.2 a ha
    refine ⟨_, (pss_cons (ps_set (i := 2) sc_ways_from.nd rfl (Or.inl rfl) (pe_disp (pps_cons (pv 1) (pe_tup (pa_cons pe_int (pa_cons (pe_op op_sub pe_int (pe_ix ixt (pe_ix ixl (e_fld rfl T.cNet (T.aNet "gates" (by decide +kernel)) (pv 0)) (pv 1) (fun _ _ => rfl)) pe_int (fun _ _ => rfl))) pa_nil))) pps_nil) (by rfl) (by rfl) (fun z => by cases z) (by decide)))
    (pss_cons (ps_set (i := 3) sc_ways_from.nd rfl (Or.inl rfl) (pe_disp (pps_cons (pv 1) (pe_lst pa_nil) pps_nil) (by rfl) (by rfl) (fun z => by cases z) (by decide)))
    (pss_cons (ps_set (i := 4) sc_ways_from.nd rfl (Or.inl rfl) (pe_lst (pa_cons (pv 1) pa_nil)))
    (pss_cons (ps_while PassesOwn.never (pt_cmpR (o_neQ (un_of hr)) (pv 4) (pe_lst pa_nil) (nomark _)) (pss_cons (ps_set (i := 5) sc_ways_from.nd rfl (Or.inl rfl) (pe_bm PySem.F.plainAttrs_list PySem.F.slot_list_pop PySem.F.type_list_pop mt_popAt (pv 4) (pa_cons pe_int pa_nil)))
    (pss_one (ps_for PassesOwn.never rfl (k_enum (K := K) rfl (T.fr "enumerate") (pa_cons (e_fld rfl T.cNet (T.aNet "wires" (by decide +kernel)) (pv 0)) pa_nil)) (g_tup (n := 2) (.inl rfl) (pgs_cons (pg_name (i := 6) sc_ways_from.nd rfl (Or.inl rfl)) (pgs_cons (g_tup (n := 3) (.inl rfl) (pgs_cons (pg_name (i := 7) sc_ways_from.nd rfl (Or.inl rfl)) (pgs_cons (pg_name (i := 8) sc_ways_from.nd rfl (Or.inl rfl)) (pgs_cons (pg_name (i := 9) sc_ways_from.nd rfl (Or.inl rfl)) pgs_nil)))) pgs_nil))) (pss_one (ps_if (pt_cmpR op_eq (pv 7) (pv 5) (nomark _)) (pss_cons (ps_set (i := 10) sc_ways_from.nd rfl (Or.inl rfl) (pe_tup (pa_cons (pe_op op_add (pe_ix ixt (pe_dget (hu_of hr) (pv 2) (pv 5) (fun _ _ => rfl)) pe_int (fun _ _ => rfl)) (pe_callB c_lenT (by rfl) (T.fr "len") PySem.boot_len (pa_cons (pv 9) pa_nil))) (pa_cons (pe_op op_sub (pe_ix ixt (pe_dget (hu_of hr) (pv 2) (pv 5) (fun _ _ => rfl)) pe_int (fun _ _ => rfl)) (pe_ix ixt (pe_ix ixl (e_fld rfl T.cNet (T.aNet "gates" (by decide +kernel)) (pv 0)) (pv 8) (fun _ _ => rfl)) pe_int (fun _ _ => rfl))) pa_nil))))
    (pss_one (ps_if (PW.pt (pw_or (pt_cmp (pc_dnotin (hu_of hr) (pv 8) (pv 2))) (pw_or1 (pt_cmpR (o_ltQ (un_lt hr)) (pv 10) (pe_dget (hu_of hr) (pv 2) (pv 8) (fun _ _ => rfl)) (nomark _))))) (pss_cons (ps_dput (hu_of hr) (pv 2) (pv 8) (pv 10) rfl)
    (pss_cons (ps_dput (hu_of hr) (pv 3) (pv 8) (pe_op op_cat (pe_dget (hu_of hr) (pv 3) (pv 5) (fun _ _ => rfl)) (pe_lst (pa_cons (pv 6) pa_nil))) rfl)
    (pss_one (ps_expr (pe_bm PySem.F.plainAttrs_list PySem.F.slot_list_append PySem.F.type_list_append mt_append (pv 4) (pa_cons (pv 8) pa_nil)))))) pss_nil))) pss_nil))))))
    (pss_one (ps_ret (pv 3))))))), ?_⟩
    walk_at "lgd"
    intro pb hpb
    have X1 := Ext.hide (o := .dK []) sD hpb
    have s1 := X1.dh
    have f1 := sD.free hpb
    walk_at "lgd"
    intro t1 ht1
    have Y2 := Ext.new (o := HO.tup [V.int 0, V.int (0 - N.wt a)]) X1.s ht1
    have f2 := Y2.out upd_same f1
    have X2 := X1.trans Y2
    have s2 := X2.dh
    have b2 := at_upd (o' := HO.tup [V.int 0, V.int (0 - N.wt a)]) ht1 (upd_same (H := H) (a := pb) (o := .dK []))
    have X3 := X2.mut (o := HO.dK [(Sum.inl (a : Nat), V.ref t1)]) hpb f2
    have s3 := X3.dh
    walk_at "lgd"
    intro pw hpw
    have X4 := X3.trans (Ext.hide (o := .dK []) X3.s hpw)
    have s4 := X4.dh
    have fw := X3.h.free hpw
    have f4 := X3.s.free hpw
    walk_at "lgd"
    intro l1 hl1
    have Y5 := Ext.new (o := HO.lst []) X4.s hl1
    have f5 := Y5.out upd_same f4
    have X5 := X4.trans Y5
    have b5 := at_upd (o' := HO.lst []) hl1 (upd_same (a := pw) (o := .dK []) (H := upd (upd (upd H pb (HO.dK [])) t1 (HO.tup [V.int 0, V.int (0 - N.wt a)])) pb (HO.dK [(Sum.inl (a : Nat), V.ref t1)])))
    have X6 := X5.mut (o := HO.dK [(Sum.inl (a : Nat), V.ref l1)]) fw f5
    walk_at "lgd"
    intro pt hpt
    have X7 := X6.trans (Ext.hide (o := .lst [V.int (a : Nat)]) X6.s hpt)
    have fb : pb ≠ pw := fun e => by
      subst e
      rw [upd_same] at hpw
      cases hpw
    have nb5 : pb ≠ l1 := fun e => by
      subst e
      rw [upd_ne fb, upd_same] at hl1
      cases hl1
    have ft := X6.h.free hpt
    have Hb : (upd (upd (upd (upd (upd (upd (upd H pb (HO.dK [])) t1 (HO.tup [V.int 0, V.int (0 - N.wt a)])) pb (HO.dK [(Sum.inl (a : Nat), V.ref t1)])) pw (HO.dK [])) l1 (HO.lst [])) pw (HO.dK [(Sum.inl (a : Nat), V.ref l1)])) pt (.lst [V.int (a : Nat)])) pb = some (HO.dK [(Sum.inl (a : Nat), V.ref t1)]) := by
      refine at_upd hpt ?_
      rw [upd_ne fb, upd_ne nb5, upd_ne fb, upd_same]
    have inv0 : WInv D H pb pw pt N a (putN (fun _ => none) a (some [])) [a] (upd (upd (upd (upd (upd (upd (upd H pb (HO.dK [])) t1 (HO.tup [V.int 0, V.int (0 - N.wt a)])) pb (HO.dK [(Sum.inl (a : Nat), V.ref t1)])) pw (HO.dK [])) l1 (HO.lst [])) pw (HO.dK [(Sum.inl (a : Nat), V.ref l1)])) pt (.lst [V.int (a : Nat)])) := by
      refine ⟨_, _, _, X7, ?_, f5, X6.s.free hpt, Hb, at_upd hpt upd_same, upd_same, ?_, ?_⟩
      · rw [upd_ne nb5]
        exact f2
      · rw [← lf_put, lf_none]
        refine DK.put (kvs := []) DK.nil ⟨Int.natCast_nonneg a, by omega⟩ ⟨t1, rfl, ?_⟩
        refine same_upd (X4.s.free hl1) _ _ ?_
        rw [upd_same]
        have e1 : heldN N [] = 0 := rfl
        have e2 : waitN N a [] = N.wt a := by
          show N.wt a + 0 = _
          omega
        rw [e1, e2]
        have e3 : 0 - N.wt a = - N.wt a := by omega
        rw [e3]
        rfl
      · rw [← lf_put, lf_none]
        exact DK.put (kvs := []) DK.nil ⟨Int.natCast_nonneg a, by omega⟩ ⟨l1, rfl, upd_same⟩
    walk_at "lgd"
    generalize (upd (upd (upd (upd (upd (upd (upd H pb (HO.dK [])) t1 (HO.tup [V.int 0, V.int (0 - N.wt a)])) pb (HO.dK [(Sum.inl (a : Nat), V.ref t1)])) pw (HO.dK [])) l1 (HO.lst [])) pw (HO.dK [(Sum.inl (a : Nat), V.ref l1)])) pt (.lst [V.int (a : Nat)])) = Hc at inv0 ⊢
    have m0 : 2 * muW N a (putN (fun _ => none) a (some [])) + 1 ≤ 500000 := by
      have b := mu_bound (f := fun g => valW N a (putN (fun _ => none) a (some []) g)) N.n fun g _ => by
        show valW N a (putN (fun _ => none) a (some []) g) ≤ 30000
        by_cases c : g = a
        · rw [c, putN_same]
          show (heldN N [] * 1000 + 1000 - waitN N a []).toNat ≤ 30000
          have e1 : heldN N [] = 0 := rfl
          have e2 : waitN N a [] = N.wt a + 0 := rfl
          have := O.wt0 a ha
          rw [e1, e2]
          omega
        · rw [putN_ne c]
          exact Nat.le_refl _
      have := O.n7
      unfold muW
      omega
    refine while_ (fun m σ Hc => ∃ wy td, OI N a wy td ∧ m = 2 * muW N a wy + td.length ∧ m ≤ 500000 ∧ WInv D H pb pw pt N a wy td Hc ∧ ∃ z5 z6 z7 z8 z9 z10, σ = [some (.ref na), some (.int (a : Nat)), some (.ref pb), some (.ref pw), some (.ref pt), z5, z6, z7, z8, z9, z10]) _ ⟨_, _, OI.start O ha, rfl, m0, inv0, none, none, none, none, none, none, rfl⟩ ?_
    intro m σ Hw ⟨wy, td, oi, em, lm, ⟨D', kb, kw, X, nb, nw, nt, hb, hw, ht, kdb, kdw⟩, z5, z6, z7, z8, z9, z10, e⟩
    subst e
    walk_at "lgd"
    intro n0 hn0
    have lt : td.length ≤ 500000 := by omega
    refine w_neE (at_upd hn0 ht) nl_dq nlD_shp upd_same ?_
    have X' := X.trans (Ext.hide (o := .lst []) X.s hn0)
    have hb' := at_upd (o' := .lst []) hn0 hb
    have hw' := at_upd (o' := .lst []) hn0 hw
    have ht' := at_upd (o' := .lst []) hn0 ht
    generalize upd Hw n0 (.lst []) = H1 at X' hb' hw' ht' ⊢
    clear X hb hw ht hn0
    cases td with
    | nil =>
      have e0 : (!(nl []).isEmpty) = false := rfl
      rw [e0]
      walk_at "lgd"
      exact k pw D' H1 kw wy X' fw nw hw' kdw (oi.ways O ha)
    | cons g td =>
      have e0 : (!(nl (g :: td)).isEmpty) = true := rfl
      rw [e0]
      have sH := X'.dh
      obtain ⟨p, ii⟩ := oi.pop
      walk_at "lgd"
      refine w_turn ?_
      walk_at "lgd"
      refine w_pop0 (xs := nl td) ht' ?_
      have X2 := X'.mut (o := .lst (nl td)) ft nt
      have nbt : pb ≠ pt := ne_of hb' ht' (fun z => by cases z)
      have nwt : pw ≠ pt := ne_of hw' ht' (fun z => by cases z)
      have hb2 := at_mut (o' := .lst (nl td)) nbt hb'
      have hw2 := at_mut (o' := .lst (nl td)) nwt hw'
      have ht2 := upd_same (H := H1) (a := pt) (o := .lst (nl td))
      generalize upd H1 pt (.lst (nl td)) = H2 at X2 hb2 hw2 ht2 ⊢
      have sH2 := X2.dh
      walk_at "lgd"
      refine for_enum h3 X2.dh (fun j σ Hc => ∃ wy td, II N a g p j wy td ∧ 2 * muW N a wy + td.length < m ∧ WInv D H pb pw pt N a wy td Hc ∧ ∃ z6 z7 z8 z9 z10, σ = [some (.ref na), some (.int (a : Nat)), some (.ref pb), some (.ref pw), some (.ref pt), some (.int (g : Nat)), z6, z7, z8, z9, z10]) ⟨wy, td, ii, ?_, ⟨D', kb, kw, X2, nb, nw, nt, hb2, hw2, ht2, kdb, kdw⟩, _, _, _, _, _, rfl⟩ (fun j y σ Hx t hy htn sx ⟨wy, td, ii, lm2, ⟨D', kb, kw, X, nb, nw, nt, hb, hw, ht, kdb, kdw⟩, z6, z7, z8, z9, z10, e⟩ => ?_) fun σ Hx sx ⟨wy, td, ii, lm2, iv, z6, z7, z8, z9, z10, e⟩ => ?_
      · rw [em]
        simp
      · subst e
        have hj : j < N.ws.length := by
          have := (List.getElem?_eq_some_iff.mp hy).1
          have := W.1
          omega
        obtain ⟨pj, qj, zs, w1, w2, w3, w4⟩ := W.2 j hj
        rw [hy] at w1
        cases Option.some.inj w1
        have X2 := X.trans (Ext.hide (o := .tup [V.int (j : Nat), .ref pj]) X.s htn)
        have hT := upd_same (H := Hx) (a := t) (o := .tup [V.int (j : Nat), .ref pj])
        have hb2 := at_upd (o' := .tup [V.int (j : Nat), .ref pj]) htn hb
        have hw2 := at_upd (o' := .tup [V.int (j : Nat), .ref pj]) htn hw
        have ht2 := at_upd (o' := .tup [V.int (j : Nat), .ref pj]) htn ht
        generalize upd Hx t (.tup [V.int (j : Nat), .ref pj]) = H3 at X2 hT hb2 hw2 ht2 ⊢
        clear X hb hw ht htn
        have sD3 := X2.dh
        have sD3' := X2.s
        walk_at "lgd"
        by_cases c : (((N.w j).s : Nat) : Int) = (g : Nat)
        · have c' : (N.w j).s = g := by omega
          obtain ⟨tb, gb, tb', rb1, rb2⟩ := kdb.get g p (by rw [lf_at]; exact ii.at_)
          subst rb1
          obtain ⟨lw, gw, lw', rw1, rw2⟩ := kdw.get g p (by rw [lf_at]; exact ii.at_)
          subst rw1
          have he := (O.ends _ (Nt.w_mem hj)).2
          obtain ⟨pe, ke, ge1, ge2, ge3⟩ := G.2 _ he
          walk_at "lgd"
          intro pc hpc
          have c0 : heldN N p + ((N.w j).k : Int) = heldN N (p ++ [j]) := by
            rw [held_append]
            show _ = heldN N p + (((N.w j).k : Int) + 0)
            omega
          have c1 : -(waitN N a p) - N.wt (N.w j).e = -(waitN N a (p ++ [j])) := by
            rw [wait_append]
            show _ = -(waitN N a p + (N.wt (N.w j).e + 0))
            omega
          rw [w4, c0, c1]
          have Y := Ext.new (o := HO.tup [V.int (heldN N (p ++ [j])), V.int (-(waitN N a (p ++ [j])))]) X2.s hpc
          have nb3 := Y.out hb2 nb
          have nw3 := Y.out hw2 nw
          have nt3 := Y.out ht2 nt
          have hp3 : upd D' pc (HO.tup [V.int (heldN N (p ++ [j])), V.int (-(waitN N a (p ++ [j])))]) pc = _ := upd_same
          have hb3 := at_upd (o' := HO.tup [V.int (heldN N (p ++ [j])), V.int (-(waitN N a (p ++ [j])))]) hpc hb2
          have hw3 := at_upd (o' := HO.tup [V.int (heldN N (p ++ [j])), V.int (-(waitN N a (p ++ [j])))]) hpc hw2
          have ht3 := at_upd (o' := HO.tup [V.int (heldN N (p ++ [j])), V.int (-(waitN N a (p ++ [j])))]) hpc ht2
          have X3 := X2.trans Y
          have yd := Y.d
          clear Y
          generalize upd H3 pc (HO.tup [V.int (heldN N (p ++ [j])), V.int (-(waitN N a (p ++ [j])))]) = H4 at X3 hb3 hw3 ht3 ⊢
          generalize upd D' pc (HO.tup [V.int (heldN N (p ++ [j])), V.int (-(waitN N a (p ++ [j])))]) = D4 at X3 nb3 nw3 nt3 hp3 yd ⊢
          replace kdb := kdb.mono fun _ _ _ r => RB.up yd r
          replace kdw := kdw.mono fun _ _ _ r => RW.up yd r
          have rw3 := yd _ _ rw2
          clear X2 hb2 hw2 ht2 hT
          have sD4 := X3.dh
          have sD4' := X3.s
          walk_at "lgd"
          have skip : (∃ q, wy (N.w j).e = some q ∧ Best N a q (p ++ [j])) → Same D H4 ∧ ∃ wy td, II N a g p (j + 1) wy td ∧ 2 * muW N a wy + td.length < m ∧ WInv D H pb pw pt N a wy td H4 ∧ ∃ z6 z7 z8 z9 z10, [some (V.ref na), some (.int (a : Nat)), some (.ref pb), some (.ref pw), some (.ref pt), some (.int (g : Nat)), some (.int (j : Nat)), some (.int ((N.w j).s : Nat)), some (.int ((N.w j).e : Nat)), some (.ref qj), some (.ref pc)] = [some (.ref na), some (.int (a : Nat)), some (.ref pb), some (.ref pw), some (.ref pt), some (.int (g : Nat)), z6, z7, z8, z9, z10] := fun bq =>
            ⟨X3.dh, wy, td, ii.skip fun _ => bq, lm2, ⟨D4, kb, kw, X3, nb3, nw3, nt3, hb3, hw3, ht3, kdb, kdw⟩, _, _, _, _, _, rfl⟩
          have lk : kb.length < 100000 := by
            have := kdb.len _ fun x hx => okN_mem hx
            rw [List.length_map, List.length_range] at this
            have := O.n7
            omega
          have lk2 : kw.length < 100000 := by
            have := kdw.len _ fun x hx => okN_mem hx
            rw [List.length_map, List.length_range] at this
            have := O.n7
            omega
          have lp : p.length < 100 := by
            have := ii.wi.short O ha ii.at_
            have := O.n7
            omega
          have ltd : td.length < 16000000 := by omega
          have oke : okN N.n ((N.w j).e : Nat) := ⟨Int.natCast_nonneg _, by omega⟩
          cases cwy : wy (N.w j).e with
          | none =>
            have vn := kdb.non ((N.w j).e : Nat) (by rw [lf_at]; exact cwy)
            have vn' : (!(valV kb (Sum.inl ((N.w j).e : Nat))).isSome) = true := by rw [vn]; rfl
            have ⟨ii', ml⟩ := ii.take O ha hj c' fun q hq => by rw [cwy] at hq; cases hq
            walk_at "lgd"
            have X5 := X3.mut (o := .dK (putK kb (.inl ((N.w j).e : Nat)) (.ref pc))) hpb nb3
            have hb5 := upd_same (H := H4) (a := pb) (o := .dK (putK kb (.inl ((N.w j).e : Nat)) (.ref pc)))
            have hw5 := at_mut (o' := .dK (putK kb (.inl ((N.w j).e : Nat)) (.ref pc))) (Ne.symm fb) hw3
            have ht5 := at_mut (o' := .dK (putK kb (.inl ((N.w j).e : Nat)) (.ref pc))) (Ne.symm nbt) ht3
            generalize upd H4 pb (.dK (putK kb (.inl ((N.w j).e : Nat)) (.ref pc))) = H5 at X5 hb5 hw5 ht5 ⊢
            have sD5 := X5.dh
            have sD5' := X5.s
            walk_at "lgd"
            intro n1 hn1
            have X6 := X5.trans (Ext.hide (o := .lst [V.int (j : Nat)]) X5.s hn1)
            have hn6 := upd_same (H := H5) (a := n1) (o := .lst [V.int (j : Nat)])
            have hb6 := at_upd (o' := .lst [V.int (j : Nat)]) hn1 hb5
            have hw6 := at_upd (o' := .lst [V.int (j : Nat)]) hn1 hw5
            have ht6 := at_upd (o' := .lst [V.int (j : Nat)]) hn1 ht5
            generalize upd H5 n1 (.lst [V.int (j : Nat)]) = H6 at X6 hn6 hb6 hw6 ht6 ⊢
            have sD6 := X6.s
            refine w_cat (sD6 _ _ rw3) hn6 (by rw [nl_len]; show p.length + 1 < 100000; omega) fun n2 hn2 => ?_
            have enl : nl p ++ [V.int (j : Nat)] = nl (p ++ [j]) := by
              unfold nl
              rw [List.map_append]
              rfl
            rw [enl]
            have Y7 := Ext.new (o := .lst (nl (p ++ [j]))) X6.s hn2
            have X7 := X6.trans Y7
            have nb7 := Y7.out hb6 nb3
            have nw7 := Y7.out hw6 nw3
            have nt7 := Y7.out ht6 nt3
            have hn7 : upd D4 n2 (.lst (nl (p ++ [j]))) n2 = _ := upd_same
            have hb7 := at_upd (o' := .lst (nl (p ++ [j]))) hn2 hb6
            have hw7 := at_upd (o' := .lst (nl (p ++ [j]))) hn2 hw6
            have ht7 := at_upd (o' := .lst (nl (p ++ [j]))) hn2 ht6
            have yd7 := Y7.d
            clear Y7
            generalize upd H6 n2 (.lst (nl (p ++ [j]))) = H7 at X7 hb7 hw7 ht7 ⊢
            generalize upd D4 n2 (.lst (nl (p ++ [j]))) = D7 at X7 nb7 nw7 nt7 hn7 yd7 ⊢
            walk_at "lgd"
            have X8 := X7.mut (o := .dK (putK kw (.inl ((N.w j).e : Nat)) (.ref n2))) fw nw7
            have hw8 := upd_same (H := H7) (a := pw) (o := .dK (putK kw (.inl ((N.w j).e : Nat)) (.ref n2)))
            have hb8 := at_mut (o' := .dK (putK kw (.inl ((N.w j).e : Nat)) (.ref n2))) fb hb7
            have ht8 := at_mut (o' := .dK (putK kw (.inl ((N.w j).e : Nat)) (.ref n2))) (Ne.symm nwt) ht7
            generalize upd H7 pw (.dK (putK kw (.inl ((N.w j).e : Nat)) (.ref n2))) = H8 at X8 hb8 hw8 ht8 ⊢
            walk_at "lgd"
            refine w_app ht8 (by rw [nl_len]; exact ltd) ?_
            have ent : nl td ++ [V.int ((N.w j).e : Nat)] = nl (td ++ [(N.w j).e]) := by
              unfold nl
              rw [List.map_append]
              rfl
            rw [ent]
            have X9 := X8.mut (o := .lst (nl (td ++ [(N.w j).e]))) ft nt7
            walk_at "lgd"
            refine ⟨X9.dh, _, _, ii', ?_, ⟨D7, _, _, X9, nb7, nw7, nt7, at_mut nbt hb8, at_mut nwt hw8, upd_same, ?_, ?_⟩, _, _, _, _, _, rfl⟩
            · rw [List.length_append, List.length_singleton]
              omega
            · rw [← lf_put]
              exact DK.put (kdb.mono fun _ _ _ r => RB.up yd7 r) oke ⟨pc, rfl, yd7 _ _ hp3⟩
            · rw [← lf_put]
              exact DK.put (kdw.mono fun _ _ _ r => RW.up yd7 r) oke ⟨n2, rfl, hn7⟩
          | some q =>
            obtain ⟨tq, vs, tq', rq1, rq2⟩ := kdb.get ((N.w j).e : Nat) q (by rw [lf_at]; exact cwy)
            subst rq1
            have vn' : (!(valV kb (Sum.inl ((N.w j).e : Nat))).isSome) = false := by rw [vs]; rfl
            walk_at "lgd"
            refine w_ltQ (ns := [heldN N (p ++ [j]), -(waitN N a (p ++ [j]))]) (sD4' _ _ hp3) (sD4' _ _ rq2) ?_
            rw [lexLt2]
            by_cases bq : Best N a q (p ++ [j])
            · have bn : ¬ (heldN N (p ++ [j]) < heldN N q ∨ heldN N (p ++ [j]) = heldN N q ∧ -(waitN N a (p ++ [j])) < -(waitN N a q)) := by
                rcases bq with h | ⟨h, h'⟩ <;> omega
              walk_at "lgd"
              exact skip ⟨q, cwy, bq⟩
            · have bn : heldN N (p ++ [j]) < heldN N q ∨ heldN N (p ++ [j]) = heldN N q ∧ -(waitN N a (p ++ [j])) < -(waitN N a q) := by
                rcases best_not bq with h | ⟨h, h'⟩ <;> omega
              have ⟨ii', ml⟩ := ii.take O ha hj c' fun q' hq => by
                rw [cwy] at hq
                cases hq
                exact bq
              walk_at "lgd"
              have X5 := X3.mut (o := .dK (putK kb (.inl ((N.w j).e : Nat)) (.ref pc))) hpb nb3
              have hb5 := upd_same (H := H4) (a := pb) (o := .dK (putK kb (.inl ((N.w j).e : Nat)) (.ref pc)))
              have hw5 := at_mut (o' := .dK (putK kb (.inl ((N.w j).e : Nat)) (.ref pc))) (Ne.symm fb) hw3
              have ht5 := at_mut (o' := .dK (putK kb (.inl ((N.w j).e : Nat)) (.ref pc))) (Ne.symm nbt) ht3
              generalize upd H4 pb (.dK (putK kb (.inl ((N.w j).e : Nat)) (.ref pc))) = H5 at X5 hb5 hw5 ht5 ⊢
              have sD5 := X5.dh
              have sD5' := X5.s
              walk_at "lgd"
              intro n1 hn1
              have X6 := X5.trans (Ext.hide (o := .lst [V.int (j : Nat)]) X5.s hn1)
              have hn6 := upd_same (H := H5) (a := n1) (o := .lst [V.int (j : Nat)])
              have hb6 := at_upd (o' := .lst [V.int (j : Nat)]) hn1 hb5
              have hw6 := at_upd (o' := .lst [V.int (j : Nat)]) hn1 hw5
              have ht6 := at_upd (o' := .lst [V.int (j : Nat)]) hn1 ht5
              generalize upd H5 n1 (.lst [V.int (j : Nat)]) = H6 at X6 hn6 hb6 hw6 ht6 ⊢
              have sD6 := X6.s
              refine w_cat (sD6 _ _ rw3) hn6 (by rw [nl_len]; show p.length + 1 < 100000; omega) fun n2 hn2 => ?_
              have enl : nl p ++ [V.int (j : Nat)] = nl (p ++ [j]) := by
                unfold nl
                rw [List.map_append]
                rfl
              rw [enl]
              have Y7 := Ext.new (o := .lst (nl (p ++ [j]))) X6.s hn2
              have X7 := X6.trans Y7
              have nb7 := Y7.out hb6 nb3
              have nw7 := Y7.out hw6 nw3
              have nt7 := Y7.out ht6 nt3
              have hn7 : upd D4 n2 (.lst (nl (p ++ [j]))) n2 = _ := upd_same
              have hb7 := at_upd (o' := .lst (nl (p ++ [j]))) hn2 hb6
              have hw7 := at_upd (o' := .lst (nl (p ++ [j]))) hn2 hw6
              have ht7 := at_upd (o' := .lst (nl (p ++ [j]))) hn2 ht6
              have yd7 := Y7.d
              clear Y7
              generalize upd H6 n2 (.lst (nl (p ++ [j]))) = H7 at X7 hb7 hw7 ht7 ⊢
              generalize upd D4 n2 (.lst (nl (p ++ [j]))) = D7 at X7 nb7 nw7 nt7 hn7 yd7 ⊢
              walk_at "lgd"
              have X8 := X7.mut (o := .dK (putK kw (.inl ((N.w j).e : Nat)) (.ref n2))) fw nw7
              have hw8 := upd_same (H := H7) (a := pw) (o := .dK (putK kw (.inl ((N.w j).e : Nat)) (.ref n2)))
              have hb8 := at_mut (o' := .dK (putK kw (.inl ((N.w j).e : Nat)) (.ref n2))) fb hb7
              have ht8 := at_mut (o' := .dK (putK kw (.inl ((N.w j).e : Nat)) (.ref n2))) (Ne.symm nwt) ht7
              generalize upd H7 pw (.dK (putK kw (.inl ((N.w j).e : Nat)) (.ref n2))) = H8 at X8 hb8 hw8 ht8 ⊢
              walk_at "lgd"
              refine w_app ht8 (by rw [nl_len]; exact ltd) ?_
              have ent : nl td ++ [V.int ((N.w j).e : Nat)] = nl (td ++ [(N.w j).e]) := by
                unfold nl
                rw [List.map_append]
                rfl
              rw [ent]
              have X9 := X8.mut (o := .lst (nl (td ++ [(N.w j).e]))) ft nt7
              walk_at "lgd"
              refine ⟨X9.dh, _, _, ii', ?_, ⟨D7, _, _, X9, nb7, nw7, nt7, at_mut nbt hb8, at_mut nwt hw8, upd_same, ?_, ?_⟩, _, _, _, _, _, rfl⟩
              · rw [List.length_append, List.length_singleton]
                omega
              · rw [← lf_put]
                exact DK.put (kdb.mono fun _ _ _ r => RB.up yd7 r) oke ⟨pc, rfl, yd7 _ _ hp3⟩
              · rw [← lf_put]
                exact DK.put (kdw.mono fun _ _ _ r => RW.up yd7 r) oke ⟨n2, rfl, hn7⟩
        · walk_at "lgd"
          exact ⟨X2.dh, wy, td, ii.skip fun h => absurd (by rw [h]) c, lm2, ⟨D', kb, kw, X2, nb, nw, nt, hb2, hw2, ht2, kdb, kdw⟩, _, _, _, _, _, rfl⟩
      · subst e
        rw [W.1] at ii
        exact ⟨_, lm2, wy, td, ii.done, rfl, by omega, iv, _, _, _, _, _, _, rfl⟩
end

theorem src_range0 {D : Hp} {n : Nat} : Src (Itr 0 n) D n (fun i x H H' => H' = H ∧ x = .int (i : Nat)) :=
  ⟨fun _ _ _ hi => hi, fun _ _ => Nat.le_refl _, fun i H x H' e hi q => ⟨q.1, by rw [q.2, Int.zero_add]⟩⟩
theorem al_idx {A : Type} {R : V → Hp → A → Prop} {H : Hp} : ∀ {vs : List V} {as : List A}, vs.length = as.length → (∀ (i : Nat) (v : V) (a : A), vs[i]? = some v → as[i]? = some a → R v H a) → Al R H vs as
  | [], [], _, _ => trivial
  | [], _ :: _, e, _ => by cases e
  | _ :: _, [], e, _ => by cases e
  | v :: vs, a :: as, e, h => ⟨h 0 v a rfl rfl, al_idx (Nat.succ.inj e) fun i v' a' e1 e2 => h (i + 1) v' a' e1 e2⟩
/-- what pieces_for has when the first s gates are gone through -/
structure PI0 (N : Nt) (b : Int) (rs : List (Nat × List Nat)) (s : Nat) : Prop where
  wires : rs.take N.ws.length = (List.range N.ws.length).map fun k => ((N.w k).s, [k])
  way : ∀ r ∈ rs, r.1 < N.n ∧ Way N r.1 r.2 ∧ r.2.length ≤ N.n
  len : N.ws.length ≤ rs.length
  all : ∀ a, a < s → ∀ q, Way N a q → ∃ p, Way N a p ∧ endOf N a p = endOf N a q ∧ Best N a p q ∧ p.length ≤ N.n ∧ (b < waitN N a p → (a, p) ∈ rs)
theorem PI0.snoc {N : Nt} {b : Int} {rs : List (Nat × List Nat)} {s : Nat} (I : PI0 N b rs s) {r : Nat × List Nat} (h : r.1 < N.n ∧ Way N r.1 r.2 ∧ r.2.length ≤ N.n) : PI0 N b (rs ++ [r]) s :=
  ⟨by rw [List.take_append_of_le_length I.len, I.wires], fun r' hr => by
    rcases List.mem_append.mp hr with e | e
    · exact I.way r' e
    · rw [List.mem_singleton.mp e]
      exact h, by rw [List.length_append]; have := I.len; omega, fun a ha q hq => by
    obtain ⟨p, h1, h2, h3, h4, h5⟩ := I.all a ha q hq
    exact ⟨p, h1, h2, h3, h4, fun z => List.mem_append_left _ (h5 z)⟩⟩
theorem PI0.start {N : Nt} {b : Int} (O : N.Ok) : PI0 N b ((List.range N.ws.length).map fun k => ((N.w k).s, [k])) 0 :=
  ⟨List.take_of_length_le (by rw [List.length_map, List.length_range]; exact Nat.le_refl _), fun r hr => by
    obtain ⟨k, hk, rfl⟩ := List.mem_map.mp hr
    have hk := List.mem_range.mp hk
    exact ⟨(O.ends _ (Nt.w_mem hk)).1, ⟨hk, rfl, trivial⟩, O.pos⟩, by rw [List.length_map, List.length_range]; exact Nat.le_refl _, fun a ha => absurd ha (Nat.not_lt_zero a)⟩
theorem PI0.done {N : Nt} {b : Int} {rs : List (Nat × List Nat)} (I : PI0 N b rs N.n) : RowsOk N b rs := ⟨I.wires, I.way, I.all⟩
/-- one row's piece list as values, seen in D -/
def PcsQ (N : Nt) (b : Int) (v : V) (D : Hp) : Prop := ∃ (q : Addr) (xs : List V) (rs : List (Nat × List Nat)), v = .ref q ∧ D q = some (.lst xs) ∧ PcsV D xs rs ∧ RowsOk N b rs ∧ rs.length ≤ 100
section
variable {K : PySem.W.Frag} {mg : Str → Option Value} {P : Program} {w : World} {base : Heap}
/-! ### pieces_for -/
abbrev N_pieces_for : List Str := ["net", "beat", "found", "start", "places", "place", "begin", "end", "worths"]
theorem sc_pieces_for : FnScope N_pieces_for (["net", "beat"] : List Str) (defScope s_pieces_for) := ⟨rfl, rfl, rfl, by decide +kernel, rfl, by decide +kernel, by decide +kernel⟩

def sp_pieces_for (K : PySem.W.Frag) : Sp := fun vs H Q _ => ∃ (v : V) (b : Int) (N : Nt) (D : Hp), vs = [v, .int b] ∧ Same D H ∧ NetV K D v N ∧ N.Ok ∧ New D H (PcsQ N b) Q
theorem ok_pieces_for (T : Tx K mg) : CalG P w K mg base CX0 4 "pieces_for" ["net", "beat"] (sp_pieces_for K) :=
  calG T 12 rfl "pieces_for" rfl (by decide +kernel) sc_pieces_for (fun _ _ _ _ _ _ us hl => match us, hl with | [_, _], _ => rfl) (fun vs H Q E ⟨_, _, _, _, e, _⟩ => by rw [e]; rfl) fun cdv f A outer s H vs Q E hr ⟨v, b, N, D, e, sD, hN, O, k⟩ => by
    subst e
    obtain ⟨na, dx, pg, pw0, xs, ys, ev, h1, h2, h3, G, W⟩ := id hN
    subst ev
    have n7 := O.n7
    have w12 := O.ws12
    have G1 := G.1
    have W1 := W.1
    refine ⟨_, (pss_cons (ps_setLc (i := 2) (own := [("place", 5), ("begin", 6), ("end", 7), ("worths", 8)]) (g := gT 2 (gCons (gName 5) (gCons (gT 3 (gCons (gName 6) (gCons (gName 7) (gCons (gName 8) gNil)))) gNil))) (tt := tYes) rfl sc_pieces_for.nd rfl rfl (sw_true rfl rfl rfl (by decide +kernel)) (k_enum (K := K) rfl (T.fr "enumerate") (pa_cons (e_fld rfl T.cNet (T.aNet "wires" (by decide +kernel)) (pv 0)) pa_nil)) (blkOk_by (N := N_pieces_for) (sc := defScope s_pieces_for) (by decide +kernel)) (fun _ _ _ _ _ => (g_tup (n := 2) (.inl rfl) (pgs_cons (pg_name (i := 5) sc_pieces_for.nd rfl (Or.inl rfl)) (pgs_cons (g_tup (n := 3) (.inl rfl) (pgs_cons (pg_name (i := 6) sc_pieces_for.nd rfl (Or.inl rfl)) (pgs_cons (pg_name (i := 7) sc_pieces_for.nd rfl (Or.inl rfl)) (pgs_cons (pg_name (i := 8) sc_pieces_for.nd rfl (Or.inl rfl)) pgs_nil)))) pgs_nil)))) (fun _ _ _ _ _ => pts_nil) (fun _ _ _ _ _ => (pe_tup (pa_cons (pv 6) (pa_cons (pe_lst (pa_cons (pv 5) pa_nil)) pa_nil)))))
    (pss_cons (ps_for PassesOwn.never rfl (pi_range1 (by rfl) (T.fr "range") (pa_cons (pe_callB c_lenL (by rfl) (T.fr "len") PySem.boot_len (pa_cons (e_fld rfl T.cNet (T.aNet "gates" (by decide +kernel)) (pv 0)) pa_nil)) pa_nil)) (pg_name (i := 3) sc_pieces_for.nd rfl (Or.inl rfl)) (pss_one (ps_for PassesOwn.never rfl (pi_values (e_fz (pk (ok_ways_from T) hr (by decide) (pa_cons (pv 0) (pa_cons (pv 3) pa_nil))))) (pg_name (i := 4) sc_pieces_for.nd rfl (Or.inl rfl)) (pss_one (ps_if (pt_val (pk (ok_is_long T).g hr (by decide) (pa_cons (pv 0) (pa_cons (pe_tup (pa_cons (pv 3) (pa_cons (pv 4) pa_nil))) (pa_cons (pv 1) pa_nil))))) (pss_one (ps_expr (pe_bm PySem.F.plainAttrs_list PySem.F.slot_list_append PySem.F.type_list_append mt_append (pv 2) (pa_cons (pe_tup (pa_cons (pv 3) (pa_cons (pv 4) pa_nil))) pa_nil)))) pss_nil)))))
    (pss_one (ps_ret (pv 2))))), ?_⟩
    walk_at "lgd"
    refine lcG (src_enum (SqL.of h3)) sD (by omega) (fun i v D => PcV D v (N.w i).s [i]) (fun i v D1 D2 e h => h.up e) (fun i x D' H' H'' hi X ⟨t, y, e1, e2, e3, e4⟩ Qy ky => ?_) fun q acc D' H' hq X dq hq' la ha => ?_
    · subst e1 e3
      obtain ⟨pj, qj, zs, w1, w2, w3, w4⟩ := W.2 i (by omega)
      rw [e4] at w1
      cases Option.some.inj w1
      have X2 := (Ext.refl X.s).trans (Ext.hide (o := .tup [V.int (i : Nat), .ref pj]) X.s e2)
      have ht := upd_same (H := H') (a := t) (o := .tup [V.int (i : Nat), .ref pj])
      generalize upd H' t (.tup [V.int (i : Nat), .ref pj]) = H2 at X2 ht ⊢
      have sD2 := X.d.trans X2.dh
      walk_at "lgd"
      intro l1 hl1
      have X3 := X2.trans (Ext.new (o := .lst [V.int (i : Nat)]) X2.s hl1)
      have d3 : upd D' l1 (.lst [V.int (i : Nat)]) l1 = _ := upd_same
      generalize upd H2 l1 (.lst [V.int (i : Nat)]) = H3 at X3 ⊢
      generalize upd D' l1 (.lst [V.int (i : Nat)]) = D3 at X3 d3 ⊢
      walk_at "lgd"
      intro t2 ht2
      have Y := Ext.new (o := .tup [V.int ((N.w i).s : Nat), .ref l1]) X3.s ht2
      exact ky _ _ _ (X3.trans Y) ⟨t2, l1, rfl, upd_same, Y.d _ _ d3⟩
    · walk_at "lgd"
      refine w_rR1 (n := N.n) ?_ ?_ ?_
      · omega
      · omega
      refine for_src src_range0 X.dh (fun s σ Hc => ∃ D' acc rs, Ext D H D' Hc ∧ D' q = none ∧ Hc q = some (.lst acc) ∧ PcsV D' acc rs ∧ PI0 N b rs s ∧ rs.length ≤ 12 + 7 * s ∧ ∃ z3 z4, σ = [some (.ref na), some (.int b), some (.ref q), z3, z4, none, none, none, none]) ⟨D', acc, (List.range N.ws.length).map fun k => ((N.w k).s, [k]), X, dq, hq', ?_, PI0.start O, ?_, none, none, rfl⟩ (fun st x σ Hc H'' hst sc ⟨D1, acc1, rs1, X1, dq1, hq1, pv1, pi1, lr1, z3, z4, e⟩ ⟨r1, r2⟩ => ?_) fun σ Hc sc ⟨D1, acc1, rs1, X1, dq1, hq1, pv1, pi1, lr1, z3, z4, e⟩ => ?_
      · exact al_idx (by rw [la, List.length_map, List.length_range, W1]) fun i v r hv hr => by
          have h := ha i v hv
          rw [List.getElem?_map] at hr
          have li : i < N.ws.length := by
            have := (List.getElem?_eq_some_iff.mp hv).1
            omega
          rw [List.getElem?_range li] at hr
          cases Option.some.inj hr
          exact h
      · rw [List.length_map, List.length_range]
        omega
      · subst r1 r2 e
        walk_at "lgd"
        refine ⟨_, st, N, D1, rfl, X1.s, hN.up X1.d, O, hst, fun d D2 H2 kvs wy X2 hd dd hkv kd wo => ?_⟩
        walk_at "lgd"
        refine ⟨d, kvs, rfl, hkv, fun o => ?_⟩
        have lk := kd.len _ fun x hx => okN_mem hx
        rw [List.length_map, List.length_range] at lk
        have q2 := X2.out hq1 dq1
        have hq2 := X2.h _ _ hq1
        have nq : q ≠ d := ne_of hq2 hkv (fun z => by cases z)
        have X3 := (X2.mut (o := .frz o (.dK kvs)) hd dd).fix hd dd upd_same
        have hq3 := at_mut (o' := .frz o (.dK kvs)) nq hq2
        have d3 : upd D2 d (.frz o (.dK kvs)) d = _ := upd_same
        have q3 : upd D2 d (.frz o (.dK kvs)) q = none := by rw [upd_ne nq]; exact q2
        have kd3 := kd.mono fun _ _ _ r => RW.up (same_upd (o := .frz o (.dK kvs)) dd) r
        generalize upd H2 d (.frz o (.dK kvs)) = H3 at X3 hq3 ⊢
        generalize upd D2 d (.frz o (.dK kvs)) = D3 at X3 d3 q3 kd3 ⊢
        clear X2 hkv hq2 kd
        have X4 := X1.trans X3
        refine ⟨d, o, kvs, rfl, X3.s _ _ d3, ?_⟩
        refine for_vals d3 X3.s (fun i σ Hc => ∃ D' acc rs, Ext D H D' Hc ∧ Same D3 D' ∧ D' q = none ∧ Hc q = some (.lst acc) ∧ PcsV D' acc rs ∧ PI0 N b rs st ∧ rs.length ≤ 12 + 7 * st + i ∧ (∀ (j : Nat) (g : Int) (y : V) (p : List Nat), j < i → kvs[j]? = some (.inl g, y) → lf wy g = some p → b < waitN N st p → (st, p) ∈ rs) ∧ ∃ z4, σ = [some (.ref na), some (.int b), some (.ref q), some (.int (st : Nat)), z4, none, none, none, none]) ⟨D3, acc1, rs1, X4, Same.refl _, q3, hq3, pv1.up X3.d, pi1, lr1, fun j _ _ _ hj => absurd hj (Nat.not_lt_zero j), z4, rfl⟩ (fun i kk x σ Hc hi sc ⟨D5, acc5, rs5, X5, s5, q5, hq5, pv5, pi5, lr5, al5, z4, e⟩ => ?_) fun σ Hc sc ⟨D5, acc5, rs5, X5, s5, q5, hq5, pv5, pi5, lr5, al5, z4, e⟩ => ?_
        · subst e
          obtain ⟨g, p, hg, ek, hw, l, el, hl⟩ := kd3.each hi
          subst ek el
          have hgn : lf wy g = some p := hw
          have hw' : wy g.toNat = some p := by
            unfold lf at hw
            rw [if_pos hg.1] at hw
            exact hw
          obtain ⟨w1, w2, w3, w4⟩ := wo.ent _ _ hw'
          have hl5 := s5 _ _ hl
          have sD5 := X5.dh
          walk_at "lgd"
          intro t1 ht1
          have X6 := X5.trans (Ext.hide (o := .tup [V.int (st : Nat), .ref l]) X5.s ht1)
          have ht6 := upd_same (H := Hc) (a := t1) (o := .tup [V.int (st : Nat), .ref l])
          have hq6 := at_upd (o' := .tup [V.int (st : Nat), .ref l]) ht1 hq5
          generalize upd Hc t1 (.tup [V.int (st : Nat), .ref l]) = H6 at X6 ht6 hq6 ⊢
          walk_at "lgd"
          refine ⟨_, _, N, st, p, b, rfl, hN.up X6.dh, ⟨t1, l, rfl, ht6, X6.s _ _ hl5⟩, O, w2, hst, by omega, fun H7 s7 => ?_⟩
          have X7 := X6.trans (Ext.grow X6.s s7)
          have hq7 := s7 _ _ hq6
          have li : i < kvs.length := (List.getElem?_eq_some_iff.mp hi).1
          cases c : longN N b st p with
          | false =>
            walk_at "lgd"
            have c' : ¬ b < waitN N st p := of_decide_eq_false c
            refine ⟨s5.trans X7.s, D5, acc5, rs5, X7, s5, q5, hq7, pv5, pi5, by omega, fun j g' y' p' hj hy' hw'' hb => ?_, _, rfl⟩
            rcases Nat.lt_succ_iff_lt_or_eq.mp hj with e | e
            · exact al5 j g' y' p' e hy' hw'' hb
            · subst e
              rw [hi] at hy'
              cases Option.some.inj hy'
              rw [hgn] at hw''
              cases hw''
              exact absurd hb c'
          | true =>
            walk_at "lgd"
            intro t2 ht2
            have Y := Ext.new (o := .tup [V.int (st : Nat), .ref l]) X7.s ht2
            have X8 := X7.trans Y
            have q8 := Y.out hq7 q5
            have hq8 := at_upd (o' := .tup [V.int (st : Nat), .ref l]) ht2 hq7
            have d8 : upd D5 t2 (.tup [V.int (st : Nat), .ref l]) t2 = _ := upd_same
            have y8 := Y.d
            clear Y
            generalize upd H7 t2 (.tup [V.int (st : Nat), .ref l]) = H8 at X8 hq8 ⊢
            generalize upd D5 t2 (.tup [V.int (st : Nat), .ref l]) = D8 at X8 d8 q8 y8 ⊢
            have ll : acc5.length = rs5.length := al_len pv5
            walk_at "lgd"
            refine w_app hq8 (by omega) ?_
            have X9 := X8.mut (o := .lst (acc5 ++ [.ref t2])) hq q8
            walk_at "lgd"
            refine ⟨s5.trans (y8.trans X9.s), D8, _, rs5 ++ [(st, p)], X9, s5.trans y8, q8, upd_same, al_snoc (pv5.up y8) ⟨t2, l, rfl, d8, y8 _ _ hl5⟩, pi5.snoc ⟨hst, w2, w4⟩, ?_, fun j g' y' p' hj hy' hw'' hb => ?_, _, rfl⟩
            · rw [List.length_append, List.length_singleton]
              omega
            · rcases Nat.lt_succ_iff_lt_or_eq.mp hj with e | e
              · exact List.mem_append_left _ (al5 j g' y' p' e hy' hw'' hb)
              · subst e
                rw [hi] at hy'
                cases Option.some.inj hy'
                rw [hgn] at hw''
                cases hw''
                exact List.mem_append_right _ (List.mem_singleton.mpr rfl)
        · subst e
          refine ⟨X5.dh, D5, acc5, rs5, X5, q5, hq5, pv5, ⟨pi5.wires, pi5.way, pi5.len, fun a ha q hq => ?_⟩, by omega, _, _, rfl⟩
          rcases Nat.lt_succ_iff_lt_or_eq.mp ha with e | e
          · exact pi5.all a e q hq
          · subst e
            obtain ⟨p, hp, hb⟩ := wo.all q hq
            obtain ⟨w1, w2, w3, w4⟩ := wo.ent _ _ hp
            obtain ⟨i, y, hi, _⟩ := kd3.find (g := (endOf N a q : Nat)) (p := p) (by rw [lf_at]; exact hp)
            have li : i < kvs.length := (List.getElem?_eq_some_iff.mp hi).1
            exact ⟨p, w2, w3, hb, w4, fun z => al5 i _ y p li hi (by rw [lf_at]; exact hp) z⟩
      · subst e
        walk_at "lgd"
        exact k _ _ _ (X1.fix hq dq1 hq1) ⟨q, acc1, rs1, rfl, upd_same, pv1.up (same_upd dq1), pi1.done, by omega⟩
end

/-- a row, seen in D -/
def RowV (K : PySem.W.Frag) (N : Nt) (b : Int) (v : V) (D : Hp) (r : Nat × List Nat) : Prop := ∃ (p dx : Addr) (x : V), v = .ref p ∧ D p = some (.ins (He.ga K "Row") dx [("piece", x), ("begin", .int (homeN N r.1)), ("end", .int (homeN N (endOf N r.1 r.2))), ("space", .int (roomN N b r.1 r.2))]) ∧ PcV D x r.1 r.2
theorem RowV.up {K : PySem.W.Frag} {N : Nt} {b : Int} {v : V} {D D' : Hp} {r : Nat × List Nat} (e : Same D D') (h : RowV K N b v D r) : RowV K N b v D' r := by
  obtain ⟨p, dx, x, h1, h2, h3⟩ := h
  exact ⟨p, dx, x, h1, e _ _ h2, h3.up e⟩
def RowsQ (K : PySem.W.Frag) (N : Nt) (b : Int) (rs : List (Nat × List Nat)) (xs : List V) (D : Hp) : Prop := Al (fun v H r => RowV K N b v H r) D xs rs
theorem RowsQ.up {K : PySem.W.Frag} {N : Nt} {b : Int} {rs : List (Nat × List Nat)} {xs : List V} {D D' : Hp} (e : Same D D') (h : RowsQ K N b rs xs D) : RowsQ K N b rs xs D' := al_mono (fun _ _ q => q.up e) h
def RowsN (K : PySem.W.Frag) (N : Nt) (b : Int) (v : V) (D : Hp) : Prop := ∃ (q : Addr) (xs : List V) (rs : List (Nat × List Nat)), v = .ref q ∧ D q = some (.lst xs) ∧ RowsQ K N b rs xs D ∧ RowsOk N b rs ∧ rs.length ≤ 100
section
variable {K : PySem.W.Frag} {mg : Str → Option Value} {P : Program} {w : World} {base : Heap}
abbrev N_Row_init : List Str := ["self", "net", "piece", "beat", "ends"]
theorem sc_Row_init : FnScope N_Row_init (["self", "net", "piece", "beat"] : List Str) (defScope s_Row_init) := ⟨rfl, rfl, rfl, by decide +kernel, rfl, by decide +kernel, by decide +kernel⟩

def sp_Row_init (K : PySem.W.Frag) : Sp := fun vs H Q _ => ∃ (v x : V) (b : Int) (N : Nt) (a : Nat) (p : List Nat) (self dx : Addr) (D H0 D0 : Hp), vs = [.ref self, v, x, .int b] ∧ Ext D H0 D0 H ∧ H0 self = none ∧ D0 self = none ∧ H self = some (.ins (He.ga K "Row") dx []) ∧ NetV K D v N ∧ PcV D x a p ∧ N.Ok ∧ Way N a p ∧ a < N.n ∧ p.length ≤ 100 ∧
  ∀ H', Ext D H0 D0 H' → H' self = some (.ins (He.ga K "Row") dx [("piece", x), ("begin", .int (homeN N a)), ("end", .int (homeN N (endOf N a p))), ("space", .int (roomN N b a p))]) → Q .non H'
theorem ok_Row_init (T : Tx K mg) : CalM P w K mg base 5 "Row" (He.ga K "Row") ["self", "net", "piece", "beat"] (sp_Row_init K) :=
  calM T 13 rfl "Row" T.kRow (T.gl "Row") sc_Row_init (fun _ _ _ _ _ _ us hl => match us, hl with | [_, _, _, _], _ => rfl) (fun vs H Q E ⟨_, _, _, _, _, _, _, _, _, _, _, e, _⟩ => by rw [e]; rfl) fun cdv f A outer s H vs Q E hr ⟨v, x, b, N, a, p, self, dx, D, H0, D0, e, X, f1, f2, hs, hN, hP, O, wy, ha, hl, k⟩ => by
    subst e
    refine ⟨_, (pss_cons (ps_set (i := 4) sc_Row_init.nd rfl (Or.inl rfl) (pk (ok_gates_of T).g hr (by decide) (pa_cons (pv 1) (pa_cons (pv 2) pa_nil))))
    (pss_cons (s_fld rfl T.cRow (T.aRow "piece" (by decide +kernel)) (pv 0) (pv 2))
    (pss_cons (s_fld rfl T.cRow (T.aRow "begin" (by decide +kernel)) (pv 0) (pk (ok_home T) hr (by decide) (pa_cons (pv 1) (pa_cons (pe_ix ixl (pv 4) pe_int (fun _ _ => rfl)) pa_nil))))
    (pss_cons (s_fld rfl T.cRow (T.aRow "end" (by decide +kernel)) (pv 0) (pk (ok_home T) hr (by decide) (pa_cons (pv 1) (pa_cons (pe_ix ixl (pv 4) (pe_un un_neg pe_int) (fun _ _ => rfl)) pa_nil))))
    (pss_one (s_fld rfl T.cRow (T.aRow "space" (by decide +kernel)) (pv 0) (pk (ok_room T).g hr (by decide) (pa_cons (pv 1) (pa_cons (pv 2) (pa_cons (pv 3) pa_nil)))))))))), ?_⟩
    walk_at "lgd"
    refine ⟨_, _, N, a, p, rfl, hN.up X.dh, hP.up X.dh, O, wy, hl, fun l1 H1 s1 hf hl1 => ?_⟩
    replace X := X.trans (Ext.grow X.s s1)
    replace hs := s1 _ _ hs
    walk_at "lgd"
    have hll : l1 ≠ self := ne_of hl1 hs (fun z => by cases z)
    replace X := X.mut (o := .ins (He.ga K "Row") dx (putF "piece" x [])) f1 f2
    replace hl1 := at_mut (o' := .ins (He.ga K "Row") dx (putF "piece" x [])) hll hl1
    replace hs := upd_same (H := H1) (a := self) (o := .ins (He.ga K "Row") dx (putF "piece" x []))
    generalize upd H1 self (.ins (He.ga K "Row") dx (putF "piece" x [])) = H2 at X hl1 hs ⊢
    clear s1 hf
    walk_at "lgd"
    refine w_il (v := .int (a : Nat)) hl1 (atN (j := 0) rfl) ?_
    walk_at "lgd"
    refine ⟨v, N, a, rfl, hN.up X.dh, ha, fun H3 s3 => ?_⟩
    replace X := X.trans (Ext.grow X.s s3)
    replace hs := s3 _ _ hs
    replace hl1 := s3 _ _ hl1
    clear s3
    walk_at "lgd"
    have hll : l1 ≠ self := ne_of hl1 hs (fun z => by cases z)
    replace X := X.mut (o := .ins (He.ga K "Row") dx (putF "begin" (.int (homeN N a)) (putF "piece" x []))) f1 f2
    replace hl1 := at_mut (o' := .ins (He.ga K "Row") dx (putF "begin" (.int (homeN N a)) (putF "piece" x []))) hll hl1
    replace hs := upd_same (H := H3) (a := self) (o := .ins (He.ga K "Row") dx (putF "begin" (.int (homeN N a)) (putF "piece" x [])))
    generalize upd H3 self (.ins (He.ga K "Row") dx (putF "begin" (.int (homeN N a)) (putF "piece" x []))) = H4 at X hl1 hs ⊢
    walk_at "lgd"
    refine w_il hl1 (atLast (v := .int (endOf N a p : Nat)) ?_) ?_
    · unfold nl
      rw [List.getLast?_map, endOf_last]
      rfl
    have he := O.end_lt ha wy
    walk_at "lgd"
    refine ⟨v, N, endOf N a p, rfl, hN.up X.dh, he, fun H5 s5 => ?_⟩
    replace X := X.trans (Ext.grow X.s s5)
    replace hs := s5 _ _ hs
    clear s5
    walk_at "lgd"
    replace X := X.mut (o := .ins (He.ga K "Row") dx (putF "end" (.int (homeN N (endOf N a p))) (putF "begin" (.int (homeN N a)) (putF "piece" x [])))) f1 f2
    replace hs := upd_same (H := H5) (a := self) (o := .ins (He.ga K "Row") dx (putF "end" (.int (homeN N (endOf N a p))) (putF "begin" (.int (homeN N a)) (putF "piece" x []))))
    generalize upd H5 self (.ins (He.ga K "Row") dx (putF "end" (.int (homeN N (endOf N a p))) (putF "begin" (.int (homeN N a)) (putF "piece" x [])))) = H6 at X hs ⊢
    walk_at "lgd"
    refine ⟨v, x, N, a, p, b, rfl, hN.up X.dh, hP.up X.dh, O, wy, ha, hl, fun H7 s7 => ?_⟩
    replace X := X.trans (Ext.grow X.s s7)
    replace hs := s7 _ _ hs
    walk_at "lgd"
    exact k _ (X.mut f1 f2) upd_same
/-! ### rows_for -/
abbrev N_rows_for : List Str := ["net", "beat", "piece"]
theorem sc_rows_for : FnScope N_rows_for (["net", "beat"] : List Str) (defScope s_rows_for) := ⟨rfl, rfl, rfl, by decide +kernel, rfl, by decide +kernel, by decide +kernel⟩

def sp_rows_for (K : PySem.W.Frag) : Sp := fun vs H Q _ => ∃ (v : V) (b : Int) (N : Nt) (D : Hp), vs = [v, .int b] ∧ Same D H ∧ NetV K D v N ∧ N.Ok ∧ New D H (RowsN K N b) Q
theorem ok_rows_for (T : Tx K mg) : CalG P w K mg base CX0 7 "rows_for" ["net", "beat"] (sp_rows_for K) :=
  calG T 14 rfl "rows_for" rfl (by decide +kernel) sc_rows_for (fun _ _ _ _ _ _ us hl => match us, hl with | [_, _], _ => rfl) (fun vs H Q E ⟨_, _, _, _, e, _⟩ => by rw [e]; rfl) fun cdv f A outer s H vs Q E hr ⟨v, b, N, D, e, sD, hN, O, k⟩ => by
    subst e
    refine ⟨_, (pss_one (ps_ret (pe_lc (own := [("piece", 2)]) (g := gName 2) (tt := tYes) rfl sc_rows_for.nd (k_list (K := K) rfl (pk (ok_pieces_for T) hr (by decide) (pa_cons (pv 0) (pa_cons (pv 1) pa_nil)))) (blkOk_by (N := N_rows_for) (sc := defScope s_rows_for) (by decide +kernel)) (fun _ _ _ _ _ => (pg_name (i := 2) sc_rows_for.nd rfl (Or.inl rfl))) (fun _ _ _ _ _ => pts_nil) (fun _ _ _ _ _ => (pmk (ok_Row_init T) hr (by decide) (pa_cons (pv 0) (pa_cons (pv 2) (pa_cons (pv 1) pa_nil)))))))), ?_⟩
    walk_at "lgd"
    refine ⟨v, b, N, D, rfl, sD, hN, O, fun v1 D1 H1 X ⟨q1, xs1, rs, e1, h1, pv, ro, lr⟩ => ?_⟩
    subst e1
    have ll := al_len pv
    walk_at "lgd"
    refine lcG (src_list (SqL.of h1)) X.s (by omega) (fun i v D => ∀ r, rs[i]? = some r → RowV K N b v D r) (fun i v D1 D2 e h r hr => (h r hr).up e) (fun i x D' H' H'' hi X2 ⟨e1, e2⟩ Qy ky => ?_) fun q acc D' H' hq X2 dq hq' la ha => ?_
    · subst e1
      obtain ⟨r, hr', hp⟩ := al_get pv e2
      obtain ⟨w1, w2, w3⟩ := ro.way r (List.mem_of_getElem? hr')
      have n7 := O.n7
      walk_at "lgd"
      refine w_make fun x2 dx hx2 hdx ne => ?_
      have Z := (Ext.refl X2.s).trans (Ext.hide (o := .own x2) X2.s hdx)
      have fx : upd H'' dx (.own x2) x2 = none := by rw [upd_ne (Ne.symm ne)]; exact hx2
      have Z2 := Z.trans (Ext.hide (o := .ins (He.ga K "Row") dx []) Z.s fx)
      have dd : D' x2 = none := X2.s.free hx2
      refine ⟨v, x, b, N, r.1, r.2, x2, dx, D', H'', D', rfl, Z2, hx2, dd, upd_same, hN.up (X.d.trans X2.d), hp.up X2.d, O, w2, w1, by omega, fun H3 Z3 h3 => ⟨rfl, ?_⟩⟩
      refine ky _ _ _ (Z3.fix hx2 dd h3) fun r' hr2 => ?_
      rw [hr'] at hr2
      cases hr2
      exact ⟨x2, dx, x, rfl, upd_same, (hp.up X2.d).up (same_upd dd)⟩
    · walk_at "lgd"
      refine k _ _ _ (X.trans (X2.fix hq dq hq')) ⟨q, acc, rs, rfl, upd_same, ?_, ro, lr⟩
      exact RowsQ.up (same_upd dq) (al_idx (by omega) fun i v r hv hr => ha i v hv r hr)
/-! ### places_of -/
abbrev N_places_of : List Str := ["net", "gate"]
theorem sc_places_of : FnScope N_places_of (["net"] : List Str) (defScope s_places_of) := ⟨rfl, rfl, rfl, by decide +kernel, rfl, by decide +kernel, by decide +kernel⟩

def sp_places_of (K : PySem.W.Frag) : Sp := fun vs H Q _ => ∃ (v : V) (N : Nt), vs = [v] ∧ NetV K H v N ∧ N.Ok ∧ ∀ q H', Same H H' → H q = none → H' q = some (.lst ((placesN N).map V.int)) → Q (.ref q) H'
theorem ok_places_of (T : Tx K mg) : CalG P w K mg base CX0 2 "places_of" ["net"] (sp_places_of K) :=
  calG T 15 rfl "places_of" rfl (by decide +kernel) sc_places_of (fun _ _ _ _ _ _ us hl => match us, hl with | [_], _ => rfl) (fun vs H Q E ⟨_, _, e, _⟩ => by rw [e]; rfl) fun cdv f A outer s H vs Q E hr ⟨v, N, e, hN, O, k⟩ => by
    subst e
    obtain ⟨na, dx, pg, pw0, xs, ys, ev, h1, h2, h3, G, W⟩ := id hN
    subst ev
    have n7 := O.n7
    have G1 := G.1
    refine ⟨_, (pss_one (ps_ret (pe_op op_cat (pe_lst (pa_cons (C8.pe_gc (by rfl) (T.gI "HOUSE" (-1))) pa_nil)) (pe_lc (own := [("gate", 1)]) (g := gName 1) (tt := _) rfl sc_places_of.nd (pi_range1 (by rfl) (T.fr "range") (pa_cons (pe_callB c_lenL (by rfl) (T.fr "len") PySem.boot_len (pa_cons (e_fld rfl T.cNet (T.aNet "gates" (by decide +kernel)) (pv 0)) pa_nil)) pa_nil)) (blkOk_by (N := N_places_of) (sc := defScope s_places_of) (by decide +kernel)) (fun _ _ _ _ _ => (pg_name (i := 1) sc_places_of.nd rfl (Or.inl rfl))) (fun _ _ _ _ _ => (pts_one (pt_not (pt_val (pk (ok_is_fixed T).g hr (by decide) (pa_cons (pv 0) (pa_cons (pv 1) pa_nil))))))) (fun _ _ _ _ _ => (pv 1)))))), ?_⟩
    walk_at "lgd"
    intro l1 hl1
    have s1 := same_upd (o := .lst [V.int (-1)]) hl1
    walk_at "lgd"
    refine w_rR1 (n := N.n) ?_ ?_ ?_
    · omega
    · omega
    refine lcF src_range0 (Same.refl _) (by omega) (fun i => !N.fx i) (fun i => .int (i : Nat)) (fun i x H' H'' hi s ⟨e1, e2⟩ Qy Qn ky kn => ?_) fun q H' hq s hl' => ?_
    · subst e1 e2
      walk_at "lgd"
      refine ⟨_, N, i, rfl, hN.up (s1.trans s), hi, fun H3 s3 => ?_⟩
      cases c : N.fx i with
      | true =>
        walk_at "lgd"
        exact kn (by rw [c]; rfl) _ s3
      | false =>
        walk_at "lgd"
        exact ky (by rw [c]; rfl) _ s3
    · have e1 : H' l1 = some (.lst [V.int (-1)]) := s _ _ upd_same
      have s2 := s1.trans s
      refine w_cat e1 hl' ?_ fun n hn => ?_
      · have := List.length_filter_le (fun i => !N.fx i) (List.range N.n)
        rw [List.length_range] at this
        show 1 + (List.map _ _).length < 100000
        rw [List.length_map]
        omega
      walk_at "lgd"
      refine k n _ (s2.trans (same_upd hn)) (s2.free hn) ?_
      rw [upd_same]
      unfold placesN
      rw [List.map_cons, List.map_map]
      rfl
end

def fsum (ps : List Int) (f : Int → Int) : Int → Option Int := fun x => if x ∈ ps then some (f x) else none
def RI (_ : Int) (i : Int) (v : V) : Prop := v = .int i
theorem fsum_put {ps : List Int} {f : Int → Int} {g i : Int} (h : g ∈ ps) : put (fsum ps f) g (some i) = fsum ps (put f g i) := by
  funext x
  by_cases c : x = g
  · subst c
    rw [put_same]
    unfold fsum
    rw [if_pos h, put_same]
  · rw [put_ne c]
    unfold fsum
    rw [put_ne c]
theorem dk_zero {ps : List Int} : ∀ (l qs : List Int) (kvs : List (Key × V)), (∀ x ∈ l, x ∈ ps) → DK (fun x => x ∈ ps) kvs (fsum qs fun _ => 0) RI → DK (fun x => x ∈ ps) (putAll (l.map fun p => ((.inl p : Key), V.int 0)) kvs) (fsum (qs ++ l) fun _ => 0) RI
  | [], qs, kvs, _, d => by
    rw [List.append_nil]
    exact d
  | p :: l, qs, kvs, h, d => by
    have d2 := DK.put d (g := p) (p := (0 : Int)) (v := .int 0) (h p List.mem_cons_self) rfl
    have e : put (fsum qs fun _ => 0) p (some 0) = fsum (qs ++ [p]) fun _ => 0 := by
      funext x
      by_cases c : x = p
      · subst c
        rw [put_same]
        unfold fsum
        rw [if_pos (List.mem_append_right _ (List.mem_singleton.mpr rfl))]
      · rw [put_ne c]
        unfold fsum
        by_cases m : x ∈ qs
        · rw [if_pos m, if_pos (List.mem_append_left _ m)]
        · rw [if_neg m, if_neg fun z => (List.mem_append.mp z).elim m fun z => c (List.mem_singleton.mp z)]
    rw [e] at d2
    have r := dk_zero l (qs ++ [p]) _ (fun x hx => h x (List.mem_cons_of_mem _ hx)) d2
    rw [List.append_assoc] at r
    exact r
section
variable {A : Type}
def LkV (Rw : A → V → Hp → Prop) (D : Hp) (x : V) (L : Lk A) : Prop := ∃ (t : Addr) (wv : V), x = .ref t ∧ D t = some (.tup [.int L.s, .int L.g, .int L.m, wv]) ∧ Rw L.w wv D
def RL (Rw : A → V → Hp → Prop) (D : Hp) (g : Int) (L : Lk A) (v : V) : Prop := LkV Rw D v L
theorem LkV.up {Rw : A → V → Hp → Prop} {D D' : Hp} {x : V} {L : Lk A} (m : ∀ a v, Rw a v D → Rw a v D') (e : Same D D') (h : LkV Rw D x L) : LkV Rw D' x L := by
  obtain ⟨t, wv, h1, h2, h3⟩ := h
  exact ⟨t, wv, h1, e _ _ h2, m _ _ h3⟩
def fallV : Option Int → V
  | none => .non
  | some p => .int p
/-- what settled gives, seen in D -/
def SetQ (Rw : A → V → Hp → Prop) (D0 : Hp) (ps : List Int) (ls : List (Lk A)) (v : V) (D : Hp) : Prop := ∃ (t ds dl : Addr) (ks kl : List (Key × V)), v = .ref t ∧ D t = some (.tup [.ref ds, .ref dl, fallV (settledM ps.length ls).fall]) ∧ D ds = some (.dK ks) ∧ D dl = some (.dK kl) ∧
  DK (fun x => x ∈ ps) ks (fsum ps (settledM ps.length ls).f) RI ∧ DK (fun x => x ∈ ps) kl (settledM ps.length ls).l (RL Rw D0)
end
def SI {A : Type} (D H : Hp) (ds dl : Addr) (ps : List Int) (Rw : A → V → Hp → Prop) (st : Sst A) (Hc : Hp) : Prop := ∃ ks kl, Ext D H D Hc ∧ Hc ds = some (.dK ks) ∧ Hc dl = some (.dK kl) ∧ DK (fun x => x ∈ ps) ks (fsum ps st.f) RI ∧ DK (fun x => x ∈ ps) kl st.l (RL Rw D)
theorem SI.fin {A : Type} {D H Hc : Hp} {ds dl t : Addr} {ps : List Int} {Rw : A → V → Hp → Prop} {ls : List (Lk A)} {st : Sst A} {Q : VK} (I : SI D H ds dl ps Rw st Hc) (e : settledM ps.length ls = st) (h1 : H ds = none) (h2 : H dl = none) (d1 : D ds = none) (d2 : D dl = none) (ne : ds ≠ dl) (ht : Hc t = none) (k : New D H (SetQ Rw D ps ls) Q) : Q (.ref t) (upd Hc t (.tup [.ref ds, .ref dl, fallV st.fall])) := by
  obtain ⟨ks, kl, X, a1, a2, k1, k2⟩ := I
  have X1 := X.fix h1 d1 a1
  have d3 : upd D ds (.dK ks) dl = none := by rw [upd_ne (Ne.symm ne)]; exact d2
  have X2 := X1.fix h2 d3 a2
  have X3 := X2.trans (Ext.new (o := .tup [.ref ds, .ref dl, fallV st.fall]) X2.s ht)
  subst e
  refine k _ _ _ X3 ⟨t, ds, dl, ks, kl, rfl, upd_same, ?_, ?_, k1, k2⟩
  · refine same_upd (X2.s.free ht) _ _ (same_upd d3 _ _ upd_same)
  · exact same_upd (X2.s.free ht) _ _ upd_same
section
variable {K : PySem.W.Frag} {mg : Str → Option Value} {P : Program} {w : World} {base : Heap}
abbrev N_settled : List Str := ["places", "links", "sums", "last", "falling", "turn", "link", "start", "goal", "more", "what", "place"]
theorem sc_settled : FnScope N_settled (["places", "links"] : List Str) (defScope s_settled) := ⟨rfl, rfl, rfl, by decide +kernel, rfl, by decide +kernel, by decide +kernel⟩

def sp_settled : Sp := fun vs H Q _ => ∃ (pl lk : Addr) (ps : List Int) (xs : List V) (A : Type) (Rw : A → V → Hp → Prop) (ls : List (Lk A)) (D : Hp), vs = [.ref pl, .ref lk] ∧ Same D H ∧ D pl = some (.lst (ps.map V.int)) ∧ ps.length ≤ 100 ∧ D lk = some (.lst xs) ∧ xs.length ≤ 1000 ∧
  Al (fun v H L => LkV Rw H v L) D xs ls ∧ (∀ L ∈ ls, L.s ∈ ps ∧ L.g ∈ ps) ∧ New D H (SetQ Rw D ps ls) Q
theorem ok_settled (T : Tx K mg) : CalG P w K mg base CX0 1 "settled" ["places", "links"] sp_settled :=
  calG T 16 rfl "settled" rfl (by decide +kernel) sc_settled (fun _ _ _ _ _ _ us hl => match us, hl with | [_, _], _ => rfl) (fun vs H Q E ⟨_, _, _, _, _, _, _, _, e, _⟩ => by rw [e]; rfl) fun cdv f A0 outer s H vs Q E hr ⟨pl, lk, ps, xs, A, Rw, ls, D, e, sD, hpl, lps, hlk, lxs, hls, hin, k⟩ => by
    subst e
    have len := al_len hls
    refine ⟨_, (pss_cons (s_setDc (i := 2) (own := [("place", 11)]) (g := gName 11) (tt := tYes) rfl sc_settled.nd rfl rfl (sw_dict rfl rfl rfl (by decide +kernel)) (k_list (K := K) rfl (pv 0)) (blkOk_by (N := N_settled) (sc := defScope s_settled) (by decide +kernel)) (fun _ _ _ _ _ => (pg_name (i := 11) sc_settled.nd rfl (Or.inl rfl))) (fun _ _ _ _ _ => pts_nil) (fun _ _ _ _ _ => (pv 11)) (fun _ _ _ _ _ => pe_int))
    (pss_cons (ps_set (i := 3) sc_settled.nd rfl (Or.inl rfl) pe_dnewK)
    (pss_cons (ps_set (i := 4) sc_settled.nd rfl (Or.inl rfl) pe_non)
    (pss_cons (ps_for PassesOwn.never rfl (pi_range1 (by rfl) (T.fr "range") (pa_cons (pe_op op_add (pe_callB c_lenL (by rfl) (T.fr "len") PySem.boot_len (pa_cons (pv 0) pa_nil)) pe_int) pa_nil)) (pg_name (i := 5) sc_settled.nd rfl (Or.inl rfl)) (pss_cons (ps_set (i := 4) sc_settled.nd rfl (Or.inl rfl) pe_non)
    (pss_cons (ps_for PassesOwn.never rfl (k_list (K := K) rfl (pv 1)) (pg_name (i := 6) sc_settled.nd rfl (Or.inl rfl)) (pss_cons (ps_asg (pv 6) (g_tup (n := 4) (.inl rfl) (pgs_cons (pg_name (i := 7) sc_settled.nd rfl (Or.inl rfl)) (pgs_cons (pg_name (i := 8) sc_settled.nd rfl (Or.inl rfl)) (pgs_cons (pg_name (i := 9) sc_settled.nd rfl (Or.inl rfl)) (pgs_cons (pg_name (i := 10) sc_settled.nd rfl (Or.inl rfl)) pgs_nil))))))
    (pss_one (ps_if (pt_cmpR op_lt (pe_op op_add (pe_dget (hu_of hr) (pv 2) (pv 7) (fun _ _ => rfl)) (pv 9)) (pe_dget (hu_of hr) (pv 2) (pv 8) (fun _ _ => rfl)) (nomark _)) (pss_cons (ps_dput (hu_of hr) (pv 2) (pv 8) (pe_op op_add (pe_dget (hu_of hr) (pv 2) (pv 7) (fun _ _ => rfl)) (pv 9)) rfl)
    (pss_cons (ps_dput (hu_of hr) (pv 3) (pv 8) (pv 6) rfl)
    (pss_one (ps_set (i := 4) sc_settled.nd rfl (Or.inl rfl) (pv 8))))) pss_nil))))
    (pss_one (ps_if (pt_cmpR op_isN (pv 4) pe_non (nomark _)) (pss_one (ps_ret (pe_tup (pa_cons (pv 2) (pa_cons (pv 3) (pa_cons pe_non pa_nil)))))) pss_nil)))))
    (pss_one (ps_ret (pe_tup (pa_cons (pv 2) (pa_cons (pv 3) (pa_cons (pv 4) pa_nil)))))))))), ?_⟩
    walk_at "lgd"
    refine dcO (src_list (SqL.of hpl)) sD (by rw [List.length_map]; omega) (ps.map fun p => some ((.inl p : Key), V.int 0)) (by rw [List.length_map, List.length_map]) (fun i x H' H'' u hu s ⟨e1, e2⟩ Qk Qn ky kn => ?_) fun ds H1 hds dds X hd1 => ?_
    · subst e1
      rw [List.getElem?_map] at hu e2
      cases c : ps[i]? with
      | none =>
        rw [c] at e2
        cases e2
      | some p =>
        rw [c] at hu e2
        cases Option.some.inj hu
        cases Option.some.inj e2
        walk_at "lgd"
        exact ky _ _ rfl _ (Same.refl _)
    have kd0 : DK (fun x => x ∈ ps) (putAll (ps.map fun p => ((.inl p : Key), V.int 0)) []) (fsum ps fun _ => 0) RI := by
      have h := dk_zero (ps := ps) ps [] [] (fun x hx => hx) (by
        have e : fsum [] (fun _ => 0) = fun _ => none := by
          funext x
          unfold fsum
          rw [if_neg (by simp)]
        rw [e]
        exact DK.nil)
      exact h
    have em : (ps.map fun p => some ((.inl p : Key), V.int 0)).filterMap id = ps.map fun p => ((.inl p : Key), V.int 0) := by
      rw [List.filterMap_map]
      induction ps with
      | nil => rfl
      | cons a l ih => simp
    rw [em] at hd1
    generalize putAll (ps.map fun p => ((.inl p : Key), V.int 0)) [] = ks0 at kd0 hd1
    walk_at "lgd"
    intro dl hdl
    have X2 := X.trans (Ext.hide (o := .dK []) X.s hdl)
    have hs2 := at_upd (o' := .dK []) hdl hd1
    have hl2 := upd_same (H := H1) (a := dl) (o := .dK [])
    have ddl := X.s.free hdl
    have hdl0 := X.h.free hdl
    have ne : ds ≠ dl := fun e => by
      subst e
      rw [hd1] at hdl
      cases hdl
    have si0 : SI D H ds dl ps Rw (st0 : Sst A) (upd H1 dl (.dK [])) := ⟨ks0, [], X2, hs2, hl2, kd0, DK.nil⟩
    generalize upd H1 dl (.dK []) = H2 at si0 X2 ⊢
    clear X hs2 hl2
    walk_at "lgd"
    refine w_rR1 (n := ps.length + 1) ?_ ?_ ?_
    · rw [List.length_map]
      rfl
    · omega
    refine for_src src_range0 X2.s (fun i σ Hc => ∃ st : Sst A, settledM ps.length ls = runS ls (ps.length + 1 - i) st ∧ SI D H ds dl ps Rw st Hc ∧ ∃ z5 z6 z7 z8 z9 z10, σ = [some (.ref pl), some (.ref lk), some (.ref ds), some (.ref dl), some (fallV st.fall), z5, z6, z7, z8, z9, z10, none]) ⟨st0, rfl, si0, _, _, _, _, _, _, rfl⟩ (fun i x σ Hc H'' hi s ⟨st, es, si, z5, z6, z7, z8, z9, z10, e⟩ ⟨r1, r2⟩ => ?_) fun σ Hc s ⟨st, es, si, z5, z6, z7, z8, z9, z10, e⟩ => ?_
    · subst r1 r2 e
      walk_at "lgd"
      refine for_list hlk s (fun j σ Hc => SI D H ds dl ps Rw ((ls.take j).foldl relax ⟨st.f, st.l, none⟩) Hc ∧ ∃ z6 z7 z8 z9 z10, σ = [some (.ref pl), some (.ref lk), some (.ref ds), some (.ref dl), some (fallV ((ls.take j).foldl relax ⟨st.f, st.l, none⟩).fall), some (.int (i : Nat)), z6, z7, z8, z9, z10, none]) ⟨si, _, _, _, _, _, rfl⟩ (fun j x σ Hc hx s ⟨si, z6, z7, z8, z9, z10, e⟩ => ?_) fun σ Hc s ⟨si, z6, z7, z8, z9, z10, e⟩ => ?_
      · subst e
        obtain ⟨L, hL, t, wv, ex, ht, hw⟩ := al_get hls hx
        subst ex
        have et : ls.take (j + 1) = ls.take j ++ [L] := by
          rw [List.take_succ, hL]
          rfl
        rw [et, List.foldl_append]
        generalize (ls.take j).foldl relax ⟨st.f, st.l, none⟩ = st' at si ⊢
        obtain ⟨ks, kl, X, a1, a2, k1, k2⟩ := si
        obtain ⟨is, ig⟩ := hin L (List.mem_of_getElem? hL)
        obtain ⟨v1, g1, e1⟩ := k1.get L.s (st'.f L.s) (if_pos is)
        obtain ⟨v2, g2, e2⟩ := k1.get L.g (st'.f L.g) (if_pos ig)
        have e1 : v1 = _ := e1
        have e2 : v2 = _ := e2
        subst e1 e2
        have l1 : ks.length < 100000 := by
          have := k1.len ps fun _ h => h
          omega
        have l2 : kl.length < 100000 := by
          have := k2.len ps fun _ h => h
          omega
        walk_at "lgd"
        by_cases c : st'.f L.s + L.m < st'.f L.g
        · have er : [L].foldl relax st' = ⟨put st'.f L.g (st'.f L.s + L.m), put st'.l L.g (some L), some L.g⟩ := by
            show relax st' L = _
            unfold relax
            rw [if_pos c]
          rw [er]
          have b2 := at_mut (o' := .dK (putK ks (.inl L.g) (.int (st'.f L.s + L.m)))) (Ne.symm ne) a2
          walk_at "lgd"
          refine ⟨((X.mut hds dds).mut hdl0 ddl).s, ⟨_, _, (X.mut hds dds).mut hdl0 ddl, at_mut ne upd_same, upd_same, ?_, DK.put k2 ig ⟨t, wv, rfl, ht, hw⟩⟩, _, _, _, _, _, rfl⟩
          rw [← fsum_put ig]
          exact DK.put k1 ig rfl
        · have er : [L].foldl relax st' = st' := by
            show relax st' L = _
            unfold relax
            rw [if_neg c]
          rw [er]
          walk_at "lgd"
          exact ⟨s, ⟨ks, kl, X, a1, a2, k1, k2⟩, _, _, _, _, _, rfl⟩
      · subst e
        have el : ls.take xs.length = ls := List.take_of_length_le (by omega)
        rw [el] at si ⊢
        have er : ls.foldl relax ⟨st.f, st.l, none⟩ = round ls st := rfl
        rw [er] at si ⊢
        have en : ps.length + 1 - i = (ps.length + 1 - (i + 1)) + 1 := by omega
        rw [en] at es
        walk_at "lgd"
        cases c : (round ls st).fall with
        | none =>
          have es : settledM ps.length ls = round ls st := by
            rw [es]
            show (if (round ls st).fall = none then _ else _) = _
            rw [if_pos c]
          walk_at "lgd"
          intro t ht
          have h := SI.fin si es hds hdl0 dds ddl ne ht k
          rw [c] at h
          exact h
        | some p =>
          have es : settledM ps.length ls = runS ls (ps.length + 1 - (i + 1)) (round ls st) := by
            rw [es]
            show (if (round ls st).fall = none then _ else _) = _
            rw [if_neg (by rw [c]; exact fun z => nomatch z)]
          walk_at "lgd"
          exact ⟨s, round ls st, es, si, _, _, _, _, _, _, by rw [c]⟩
    · subst e
      rw [Nat.sub_self] at es
      walk_at "lgd"
      intro t ht
      exact SI.fin si es hds hdl0 dds ddl ne ht k
end

section
variable {K : PySem.W.Frag} {mg : Str → Option Value} {P : Program} {w : World} {base : Heap}
abbrev N_ring_by : List Str := ["last", "falling", "many", "at", "turn", "found", "here"]
theorem sc_ring_by : FnScope N_ring_by (["last", "falling", "many"] : List Str) (defScope s_ring_by) := ⟨rfl, rfl, rfl, by decide +kernel, rfl, by decide +kernel, by decide +kernel⟩

def sp_ring_by : Sp := fun vs H Q _ => ∃ (dl : Addr) (kl : List (Key × V)) (p : Int) (m : Nat) (A : Type) (Rw : A → V → Hp → Prop) (l : Int → Option (Lk A)) (ok : Int → Prop) (D : Hp) (rl : List (Lk A)), vs = [.ref dl, .int p, .int (m : Nat)] ∧ H dl = some (.dK kl) ∧ Same D H ∧ DK ok kl l (RL Rw D) ∧ m ≤ 1000 ∧ (∀ i, (l (it l i p)).isSome = true) ∧
  rl ≠ [] ∧ Chn (it l m p) rl (it l m p) ∧ (∀ L ∈ rl, l L.g = some L) ∧ (rl.map (·.g)).Nodup ∧ rl.length ≤ 1000 ∧ ∀ q H' ws, Same H H' → H q = none → H' q = some (.lst ws) → Al (fun v H (L : Lk A) => Rw L.w v H) D ws rl → Q (.ref q) H'
theorem ok_ring_by (T : Tx K mg) : CalG P w K mg base CX0 1 "ring_by" ["last", "falling", "many"] sp_ring_by :=
  calG T 17 rfl "ring_by" rfl (by decide +kernel) sc_ring_by (fun _ _ _ _ _ _ us hl => match us, hl with | [_, _, _], _ => rfl) (fun vs H Q E ⟨_, _, _, _, _, _, _, _, _, _, e, _⟩ => by rw [e]; rfl) fun cdv f A0 outer s H vs Q E hr ⟨dl, kl, p, m, A, Rw, l, ok, D, rl, e, hdl, sD, kd, hm, hs, ne, hc, hl, nd, lr, k⟩ => by
    subst e
    refine ⟨_, (pss_cons (ps_set (i := 3) sc_ring_by.nd rfl (Or.inl rfl) (pv 1))
    (pss_cons (ps_for PassesOwn.never rfl (pi_range1 (by rfl) (T.fr "range") (pa_cons (pv 2) pa_nil)) (pg_name (i := 4) sc_ring_by.nd rfl (Or.inl rfl)) (pss_one (ps_set (i := 3) sc_ring_by.nd rfl (Or.inl rfl) (pe_ix ixt (pe_dget (hu_of hr) (pv 0) (pv 3) (fun _ _ => rfl)) pe_int (fun _ _ => rfl)))))
    (pss_cons (ps_set (i := 5) sc_ring_by.nd rfl (Or.inl rfl) (pe_lst (pa_cons (pe_ix ixt (pe_dget (hu_of hr) (pv 0) (pv 3) (fun _ _ => rfl)) pe_int (fun _ _ => rfl)) pa_nil)))
    (pss_cons (ps_set (i := 6) sc_ring_by.nd rfl (Or.inl rfl) (pe_ix ixt (pe_dget (hu_of hr) (pv 0) (pv 3) (fun _ _ => rfl)) pe_int (fun _ _ => rfl)))
    (pss_cons (ps_while PassesOwn.never (pt_cmpR op_ne (pv 6) (pv 3) (nomark _)) (pss_cons (ps_expr (pe_bm PySem.F.plainAttrs_list PySem.F.slot_list_append PySem.F.type_list_append mt_append (pv 5) (pa_cons (pe_ix ixt (pe_dget (hu_of hr) (pv 0) (pv 6) (fun _ _ => rfl)) pe_int (fun _ _ => rfl)) pa_nil)))
    (pss_one (ps_set (i := 6) sc_ring_by.nd rfl (Or.inl rfl) (pe_ix ixt (pe_dget (hu_of hr) (pv 0) (pv 6) (fun _ _ => rfl)) pe_int (fun _ _ => rfl))))))
    (pss_one (ps_ret (pv 5)))))))), ?_⟩
    walk_at "lgd"
    refine w_rR1 (n := m) rfl (by omega) ?_
    refine for_src src_range0 (Same.refl H) (fun i σ Hc => Hc = H ∧ ∃ z4, σ = [some (.ref dl), some (.int p), some (.int (m : Nat)), some (.int (it l i p)), z4, none, none]) ⟨rfl, _, rfl⟩ (fun i x σ Hc H'' hi s ⟨eH, z4, e⟩ ⟨r1, r2⟩ => ?_) fun σ Hc s ⟨eH, z4, e⟩ => ?_
    · subst r1 r2 e eH
      obtain ⟨L, hL⟩ := Option.isSome_iff_exists.mp (hs i)
      obtain ⟨v, g, t, wv, ev, ht, hw⟩ := kd.get _ _ hL
      subst ev
      have ht := sD _ _ ht
      walk_at "lgd"
      exact ⟨s, rfl, _, by rw [it_succ, nx_some hL]; rfl⟩
    · subst e eH
      cases rl with
      | nil => exact absurd rfl ne
      | cons L r =>
        obtain ⟨c1, c2⟩ := hc
        have hL := hl L List.mem_cons_self
        rw [c1] at hL
        obtain ⟨v, g, t, wv, ev, ht0, hw⟩ := kd.get _ _ hL
        subst ev
        have ht := sD _ _ ht0
        walk_at "lgd"
        intro q hq
        have X := Ext.hide (o := .lst [wv]) (Same.refl Hc) hq
        have hq1 := upd_same (H := Hc) (a := q) (o := .lst [wv])
        generalize upd Hc q (.lst [wv]) = H1 at X hq1 ⊢
        have ht1 := X.h _ _ ht
        have hd1 := X.h _ _ hdl
        walk_at "lgd"
        refine while_ (fun n σ H' => ∃ ws done rest here, rest.length = n ∧ L :: r = done ++ rest ∧ done ≠ [] ∧ Chn here rest (it l m p) ∧ Ext Hc Hc Hc H' ∧ H' q = some (.lst ws) ∧ Al (fun v H (L : Lk A) => Rw L.w v H) D ws done ∧ ∃ z4, σ = [some (.ref dl), some (.int p), some (.int (m : Nat)), some (.int (it l m p)), z4, some (.ref q), some (.int here)]) r.length ⟨[wv], [L], r, L.s, rfl, rfl, (by simp), c2, X, hq1, ⟨hw, trivial⟩, z4, rfl⟩ ?_
        intro n σ H' ⟨ws, done, rest, here, en, ed, nd', ch, X', hq', al, z4, e⟩
        subst e
        walk_at "lgd"
        cases rest with
        | nil =>
          have ch : here = it l m p := ch
          walk_at "lgd"
          rw [List.append_nil] at ed
          exact k q H' ws X'.h hq hq' (by rw [ed]; exact al)
        | cons M r2 =>
          obtain ⟨d1, d2⟩ := ch
          have hne : here ≠ it l m p := fun e => by
            rw [ed, List.map_append] at nd
            cases done with
            | nil => exact nd' rfl
            | cons L' dn =>
              have e1 : L' = L := (List.cons.inj ed).1.symm
              subst e1
              have := (List.nodup_append.mp nd).2.2 L'.g (List.mem_map.mpr ⟨L', List.mem_cons_self, rfl⟩) M.g (List.mem_map.mpr ⟨M, List.mem_cons_self, rfl⟩)
              exact this (by rw [c1, d1, e])
          have hM := hl M (by rw [ed]; exact List.mem_append_right _ List.mem_cons_self)
          rw [d1] at hM
          obtain ⟨v2, g2, t2, wv2, ev2, ht2, hw2⟩ := kd.get _ _ hM
          subst ev2
          have ht2 := X'.h _ _ (sD _ _ ht2)
          have hd2 := X'.h _ _ hdl
          have lw := al_len al
          have ld : done.length ≤ 1000 := by
            have := congrArg List.length ed
            rw [List.length_append] at this
            omega
          have hne2 : dl ≠ q := ne_of hd2 hq' (fun z => by cases z)
          have hne3 : t2 ≠ q := ne_of ht2 hq' (fun z => by cases z)
          have hd3 := at_mut (o' := .lst (ws ++ [wv2])) hne2 hd2
          have ht3 := at_mut (o' := .lst (ws ++ [wv2])) hne3 ht2
          walk_at "lgd"
          refine w_turn ?_
          walk_at "lgd"
          refine w_app hq' (by omega) ?_
          walk_at "lgd"
          refine ⟨r2.length, ?_, _, done ++ [M], r2, M.s, rfl, by rw [ed, List.append_assoc]; rfl, by simp, d2, X'.mut hq hq, upd_same, al_snoc al hw2, _, rfl⟩
          rw [← en]
          exact Nat.lt_succ_self _
/-! ### lags_of -/
abbrev N_lags_of : List Str := ["net", "sums", "gate"]
theorem sc_lags_of : FnScope N_lags_of (["net", "sums"] : List Str) (defScope s_lags_of) := ⟨rfl, rfl, rfl, by decide +kernel, rfl, by decide +kernel, by decide +kernel⟩

def sp_lags_of (K : PySem.W.Frag) : Sp := fun vs H Q _ => ∃ (v : V) (ds : Addr) (ks : List (Key × V)) (ok : Int → Prop) (f : Int → Int) (N : Nt), vs = [v, .ref ds] ∧ NetV K H v N ∧ N.Ok ∧ H ds = some (.dK ks) ∧ DK ok ks (fsum (placesN N) f) RI ∧
  ∀ q H', Same H H' → H q = none → H' q = some (.lst ((List.range N.n).map fun g => V.int (lagsN N f g))) → Q (.ref q) H'
theorem ok_lags_of (T : Tx K mg) : CalG P w K mg base CX0 3 "lags_of" ["net", "sums"] (sp_lags_of K) :=
  calG T 18 rfl "lags_of" rfl (by decide +kernel) sc_lags_of (fun _ _ _ _ _ _ us hl => match us, hl with | [_, _], _ => rfl) (fun vs H Q E ⟨_, _, _, _, _, _, e, _⟩ => by rw [e]; rfl) fun cdv f0 A0 outer s H vs Q E hr ⟨v, ds, ks, ok, f, N, e, hN, O, hds, kd, k⟩ => by
    subst e
    obtain ⟨na, dx, pg, pw0, xs, ys, ev, h1, h2, h3, G, W⟩ := id hN
    subst ev
    have n7 := O.n7
    have G1 := G.1
    refine ⟨_, (pss_one (ps_ret (pe_lc (own := [("gate", 2)]) (g := gName 2) (tt := tYes) rfl sc_lags_of.nd (pi_range1 (by rfl) (T.fr "range") (pa_cons (pe_callB c_lenL (by rfl) (T.fr "len") PySem.boot_len (pa_cons (e_fld rfl T.cNet (T.aNet "gates" (by decide +kernel)) (pv 0)) pa_nil)) pa_nil)) (blkOk_by (N := N_lags_of) (sc := defScope s_lags_of) (by decide +kernel)) (fun _ _ _ _ _ => (pg_name (i := 2) sc_lags_of.nd rfl (Or.inl rfl))) (fun _ _ _ _ _ => pts_nil) (fun _ _ _ _ _ => (pe_op op_sub (pe_dget (hu_of hr) (pv 1) (pk (ok_home T) hr (by decide) (pa_cons (pv 0) (pa_cons (pv 2) pa_nil))) (fun _ _ => rfl)) (pe_dget (hu_of hr) (pv 1) (C8.pe_gc (by rfl) (T.gI "HOUSE" (-1))) (fun _ _ => rfl))))))), ?_⟩
    walk_at "lgd"
    refine w_rR1 (n := N.n) ?_ ?_ ?_
    · omega
    · omega
    refine lcM src_range0 (Same.refl H) (by omega) (fun g => V.int (lagsN N f g)) (fun i x H' H'' hi s ⟨r1, r2⟩ Qy ky => ?_) fun q H' hq s hq' => ?_
    · subst r1 r2
      walk_at "lgd"
      refine ⟨_, N, i, rfl, hN.up s, hi, fun H3 s3 => ?_⟩
      have hd3 := s3 _ _ (s _ _ hds)
      obtain ⟨v1, g1, e1⟩ := kd.get (homeN N i) (f (homeN N i)) (if_pos (home_mem hi))
      obtain ⟨v2, g2, e2⟩ := kd.get (-1) (f (-1)) (if_pos List.mem_cons_self)
      have e1 : v1 = _ := e1
      have e2 : v2 = _ := e2
      subst e1 e2
      walk_at "lgd"
      exact ky _ s3
    · walk_at "lgd"
      exact k q H' s hq hq'
end

def RwP (r : Nat × List Nat) (v : V) (D : Hp) : Prop := PcV D v r.1 r.2
theorem chn_first {A : Type} {a b : Int} {rl : List (Lk A)} {L : Lk A} (h : Chn a rl b) (e : rl[0]? = some L) : L.g = a := by
  cases rl with
  | nil => cases e
  | cons M r =>
    cases Option.some.inj e
    exact h.1
theorem chn_last {A : Type} {b : Int} : ∀ {rl : List (Lk A)} {a : Int} {i : Nat} {L : Lk A}, Chn a rl b → rl[i]? = some L → i + 1 = rl.length → L.s = b
  | [], _, _, _, _, e, _ => by cases e
  | M :: [], _, 0, L, h, e, _ => by
    cases Option.some.inj e
    exact h.2
  | M :: [], _, i + 1, L, h, e, _ => by cases e
  | M :: M' :: r, _, 0, L, h, e, z => by cases z
  | M :: M' :: r, _, i + 1, L, h, e, z => chn_last (rl := M' :: r) (i := i) h.2 e (Nat.succ.inj z)
theorem chn_next {A : Type} {b : Int} : ∀ {rl : List (Lk A)} {a : Int} {i : Nat} {L L' : Lk A}, Chn a rl b → rl[i]? = some L → rl[i + 1]? = some L' → L.s = L'.g
  | [], _, _, _, _, _, e, _ => by cases e
  | M :: r, _, 0, L, L', h, e, e' => by
    cases Option.some.inj e
    exact (chn_first (rl := r) h.2 e').symm
  | M :: r, _, i + 1, L, L', h, e, e' => chn_next (rl := r) (i := i) h.2 e e'
theorem chn_meet {A : Type} {a : Int} {rl : List (Lk A)} {i : Nat} {L L' : Lk A} (h : Chn a rl a) (e : rl[i]? = some L) (e' : rl[(i + 1) % rl.length]? = some L') : L.s = L'.g := by
  have hi : i < rl.length := (List.getElem?_eq_some_iff.mp e).1
  by_cases c : i + 1 < rl.length
  · rw [Nat.mod_eq_of_lt c] at e'
    exact chn_next h e e'
  · have z : i + 1 = rl.length := by omega
    rw [z, Nat.mod_self] at e'
    rw [chn_last h e z, chn_first h e']
/-- a bar's pieces -/
def BarV (N : Nt) (b : Int) (D : Hp) (ws : List V) : Prop := ∃ rs : List (Nat × List Nat), PcsV D ws rs ∧ rs ≠ [] ∧ rs.length ≤ 1000 ∧ (∀ r ∈ rs, Way N r.1 r.2 ∧ r.1 < N.n ∧ r.2.length ≤ 100) ∧
  (∀ (i : Nat) (r r' : Nat × List Nat), rs[i]? = some r → rs[(i + 1) % rs.length]? = some r' → homeN N (endOf N r.1 r.2) = homeN N r'.1) ∧ sm rs (fun r => roomN N b r.1 r.2) < 0
theorem BarV.up {N : Nt} {b : Int} {D D' : Hp} {ws : List V} (e : Same D D') (h : BarV N b D ws) : BarV N b D' ws := by
  obtain ⟨rs, h1, h2⟩ := h
  exact ⟨rs, h1.up e, h2⟩
def PlainQ (N : Nt) (b : Int) (v : V) (D : Hp) : Prop := ∃ t q : Addr, v = .ref t ∧ ((D t = some (.tup [.str "lags", .ref q]) ∧ ∃ l, Feas N b l) ∨
  (D t = some (.tup [.str "bar", .ref q]) ∧ (∀ l, ¬ Feas N b l) ∧ ∃ ws, D q = some (.lst ws) ∧ BarV N b D ws))
theorem places_le {N : Nt} (O : N.Ok) : (placesN N).length ≤ 8 := Nat.le_trans (places_len O) (by decide)
section
variable {K : PySem.W.Frag} {mg : Str → Option Value} {P : Program} {w : World} {base : Heap}
abbrev N_plain_for_beat : List Str := ["net", "beat", "places", "links", "sums", "last", "falling", "row"]
theorem sc_plain_for_beat : FnScope N_plain_for_beat (["net", "beat"] : List Str) (defScope s_plain_for_beat) := ⟨rfl, rfl, rfl, by decide +kernel, rfl, by decide +kernel, by decide +kernel⟩

def sp_plain_for_beat (K : PySem.W.Frag) : Sp := fun vs H Q _ => ∃ (v : V) (b : Int) (N : Nt) (D : Hp), vs = [v, .int b] ∧ Same D H ∧ NetV K D v N ∧ N.Ok ∧ New D H (PlainQ N b) Q
theorem ok_plain_for_beat (T : Tx K mg) : CalG P w K mg base CX0 8 "plain_for_beat" ["net", "beat"] (sp_plain_for_beat K) :=
  calG T 19 rfl "plain_for_beat" rfl (by decide +kernel) sc_plain_for_beat (fun _ _ _ _ _ _ us hl => match us, hl with | [_, _], _ => rfl) (fun vs H Q E ⟨_, _, _, _, e, _⟩ => by rw [e]; rfl) fun cdv f A outer s H vs Q E hr ⟨v, b, N, D, e, sD, hN, O, k⟩ => by
    subst e
    refine ⟨_, (pss_cons (ps_set (i := 2) sc_plain_for_beat.nd rfl (Or.inl rfl) (pk (ok_places_of T) hr (by decide) (pa_cons (pv 0) pa_nil)))
    (pss_cons (ps_setLc (i := 3) (own := [("row", 7)]) (g := gName 7) (tt := tYes) rfl sc_plain_for_beat.nd rfl rfl (sw_true rfl rfl rfl (by decide +kernel)) (k_list (K := K) rfl (pk (ok_rows_for T) hr (by decide) (pa_cons (pv 0) (pa_cons (pv 1) pa_nil)))) (blkOk_by (N := N_plain_for_beat) (sc := defScope s_plain_for_beat) (by decide +kernel)) (fun _ _ _ _ _ => (pg_name (i := 7) sc_plain_for_beat.nd rfl (Or.inl rfl))) (fun _ _ _ _ _ => pts_nil) (fun _ _ _ _ _ => (pe_tup (pa_cons (e_fld rfl T.cRow (T.aRow "end" (by decide +kernel)) (pv 7)) (pa_cons (e_fld rfl T.cRow (T.aRow "begin" (by decide +kernel)) (pv 7)) (pa_cons (e_fld rfl T.cRow (T.aRow "space" (by decide +kernel)) (pv 7)) (pa_cons (e_fld rfl T.cRow (T.aRow "piece" (by decide +kernel)) (pv 7)) pa_nil)))))))
    (pss_cons (ps_asg (pk (ok_settled T) hr (by decide) (pa_cons (pv 2) (pa_cons (pv 3) pa_nil))) (g_tup (n := 3) (.inl rfl) (pgs_cons (pg_name (i := 4) sc_plain_for_beat.nd rfl (Or.inl rfl)) (pgs_cons (pg_name (i := 5) sc_plain_for_beat.nd rfl (Or.inl rfl)) (pgs_cons (pg_name (i := 6) sc_plain_for_beat.nd rfl (Or.inl rfl)) pgs_nil)))))
    (pss_cons (ps_if (pt_cmpR op_isN (pv 6) pe_non (nomark _)) (pss_one (ps_ret (pe_tup (pa_cons pe_str (pa_cons (pk (ok_lags_of T) hr (by decide) (pa_cons (pv 0) (pa_cons (pv 4) pa_nil))) pa_nil))))) pss_nil)
    (pss_one (ps_ret (pe_tup (pa_cons pe_str (pa_cons (pk (ok_ring_by T) hr (by decide) (pa_cons (pv 5) (pa_cons (pv 6) (pa_cons (pe_op op_add (pe_callB c_lenL (by rfl) (T.fr "len") PySem.boot_len (pa_cons (pv 2) pa_nil)) pe_int) pa_nil)))) pa_nil))))))))), ?_⟩
    walk_at "lgd"
    refine ⟨v, N, rfl, hN.up sD, O, fun q1 H1 s1 f1 h1 => ?_⟩
    have X1 := Ext.newly sD f1 s1 h1
    have d1 : upd D q1 (.lst ((placesN N).map V.int)) q1 = _ := upd_same
    generalize upd D q1 (.lst ((placesN N).map V.int)) = D1 at X1 d1
    walk_at "lgd"
    refine ⟨v, b, N, D1, rfl, X1.s, hN.up X1.d, O, fun v2 D2 H2 X2 ⟨q2, xs2, rs, e2, d2, rv, ro, lr⟩ => ?_⟩
    subst e2
    have ll := al_len rv
    walk_at "lgd"
    refine lcG (src_list (SqL.of d2)) X2.s (by omega) (fun i v D => ∀ r, rs[i]? = some r → LkV RwP D v (rowLk N b r)) (fun i v D1 D2 e h r hr => (h r hr).up (fun a v q => PcV.up e q) e) (fun i x D' H' H'' hi X ⟨e1, e2⟩ Qy ky => ?_) fun q acc D' H' hq X dq hq' la ha => ?_
    · subst e1
      obtain ⟨r, hr', p, dx, px, e3, h3, hp⟩ := al_get rv e2
      subst e3
      have h3 := X.d _ _ h3
      walk_at "lgd"
      intro t ht
      have Y := Ext.new (o := .tup [.int (homeN N (endOf N r.1 r.2)), .int (homeN N r.1), .int (roomN N b r.1 r.2), px]) X.s ht
      refine ky _ _ _ Y fun r' hr2 => ?_
      rw [hr'] at hr2
      cases hr2
      exact ⟨t, px, rfl, upd_same, (hp.up X.d).up Y.d⟩
    · have X3 := X1.trans (X2.trans (X.fix hq dq hq'))
      have al : Al (fun v H L => LkV RwP H v L) (upd D' q (.lst acc)) acc (rs.map (rowLk N b)) := al_idx (by rw [List.length_map]; omega) fun i v L hv hL => by
        rw [List.getElem?_map] at hL
        cases c : rs[i]? with
        | none =>
          rw [c] at hL
          cases hL
        | some r =>
          rw [c] at hL
          cases Option.some.inj hL
          exact (ha i v hv r c).up (fun a v z => PcV.up (same_upd dq) z) (same_upd dq)
      have d3 := (X2.d.trans X.d |>.trans (same_upd (o := .lst acc) dq)) _ _ d1
      have d4 : upd D' q (.lst acc) q = _ := upd_same
      have pl := places_le O
      generalize upd D' q (.lst acc) = D4 at X3 al d3 d4
      walk_at "lgd"
      refine ⟨q1, q, placesN N, acc, _, RwP, rs.map (rowLk N b), D4, rfl, X3.s, d3, by omega, d4, by omega, al, rowLk_in O ro, fun v5 D5 H5 X5 ⟨t, ds, dl, ks, kl, e5, ht, hds, hdl, kds, kdl⟩ => ?_⟩
      subst e5
      have X6 := X3.trans X5
      have hN6 := hN.up X6.dh
      have hp6 := X5.dh _ _ d3
      walk_at "lgd"
      cases c : (settledM (placesN N).length (rs.map (rowLk N b))).fall with
      | none =>
        walk_at "lgd"
        refine ⟨v, ds, ks, _, _, N, rfl, hN6, O, X5.s _ _ hds, kds, fun q7 H7 s7 f7 h7 => ?_⟩
        have X7 := X6.trans (Ext.newly X6.s f7 s7 h7)
        walk_at "lgd"
        intro t8 ht8
        exact k _ _ _ (X7.trans (Ext.new X7.s ht8)) ⟨t8, q7, rfl, .inl ⟨upd_same, _, plain_lags O ro c⟩⟩
      | some p =>
        obtain ⟨g1, g2, rl, r1, r2, r3, r4, r5⟩ := settled_ring (Nat.le_refl _) (rowLk_in O ro) c
        have hgl : rl.length ≤ 8 := by
          have := nodup_leG (rl.map (·.g)) (placesN N) r5 fun x hx => by
            obtain ⟨L, hL, rfl⟩ := List.mem_map.mp hx
            exact (rowLk_in O ro L (r3 L hL).2).2
          rw [List.length_map] at this
          omega
        walk_at "lgd"
        refine ⟨dl, kl, p, (placesN N).length + 1, _, RwP, _, _, D4, rl, ?_, X5.s _ _ hdl, X5.dh, kdl, by omega, g1, r1, r2, fun L hL => (r3 L hL).1, r5, by omega, fun q7 H7 ws s7 f7 h7 al7 => ?_⟩
        · rw [List.length_map]
          rfl
        have X7 := X6.trans (Ext.newly X6.s f7 s7 h7)
        walk_at "lgd"
        intro t8 ht8
        have Y8 := Ext.new (o := .tup [.str "bar", .ref q7]) X7.s ht8
        have hmem : ∀ L ∈ rl, L.w ∈ rs ∧ L = rowLk N b L.w := fun L hL => by
          obtain ⟨r, hr, rfl⟩ := List.mem_map.mp (r3 L hL).2
          exact ⟨hr, rfl⟩
        refine k _ _ _ (X7.trans Y8) ⟨t8, q7, rfl, .inr ⟨upd_same, rows_bar O ro r2 (fun L hL => (r3 L hL).2) (by rw [← sum_m]; exact r4), ws, Y8.d _ _ upd_same, rl.map (·.w), ?_, ?_, ?_, ?_, ?_, ?_⟩⟩
        · have s : Same D4 _ := X5.d.trans ((Ext.newly X6.s f7 s7 h7).d.trans Y8.d)
          refine al_idx (by rw [List.length_map]; exact al_len al7) fun i v r hv hr => ?_
          rw [List.getElem?_map] at hr
          obtain ⟨L, hL, hw⟩ := al_get al7 hv
          rw [hL] at hr
          cases Option.some.inj hr
          exact PcV.up s hw
        · cases rl with
          | nil => exact absurd rfl r1
          | cons _ _ => exact fun z => nomatch z
        · rw [List.length_map]
          omega
        · intro r hr
          obtain ⟨L, hL, rfl⟩ := List.mem_map.mp hr
          obtain ⟨w1, w2, w3⟩ := ro.way _ (hmem L hL).1
          have n7 := O.n7
          exact ⟨w2, w1, by omega⟩
        · intro i r r' h1 h2
          rw [List.length_map] at h2
          rw [List.getElem?_map] at h1 h2
          cases c1 : rl[i]? with
          | none =>
            rw [c1] at h1
            cases h1
          | some L =>
            rw [c1] at h1
            cases Option.some.inj h1
            cases c2 : rl[(i + 1) % rl.length]? with
            | none =>
              rw [c2] at h2
              cases h2
            | some L' =>
              rw [c2] at h2
              cases Option.some.inj h2
              have e := chn_meet r2 c1 c2
              rw [(hmem L (List.mem_of_getElem? c1)).2, (hmem L' (List.mem_of_getElem? c2)).2] at e
              exact e
        · rw [sm_map]
          have e : sm rl (fun L => roomN N b L.w.1 L.w.2) = sm rl (fun L => L.m) := sm_congr fun L hL => by
            conv => rhs; rw [(hmem L hL).2]
            rfl
          rw [e, ← sum_m]
          exact r4
end

def LeastQ (N : Nt) (v : V) (D : Hp) : Prop := ∃ (t : Addr) (b : Int) (y : V), v = .ref t ∧ D t = some (.tup [.int b, y]) ∧ LeastOk N b
theorem fdiv2 {a b : Nat} : ((a : Int) + (b : Int)).fdiv 2 = (((a + b) / 2 : Nat) : Int) := by
  rw [Int.fdiv_eq_ediv_of_nonneg _ (by decide)]
  omega
/-- sorted, each once: from below -/
theorem sorted_lt {ks ys : List Int} (hp : ys.Perm ks) (nd : ks.Nodup) (hs : ys.Pairwise (· ≤ ·)) : ∀ j k (hk : k < ys.length) (hj : j < k), ys[j] < ys[k] := by
  intro j k hk hj
  have nd2 : ys.Nodup := hp.nodup_iff.mpr nd
  have h1 := List.pairwise_iff_getElem.mp hs j k (by omega) hk hj
  have h2 := List.pairwise_iff_getElem.mp nd2 j k (by omega) hk hj
  omega
section
variable {K : PySem.W.Frag} {mg : Str → Option Value} {P : Program} {w : World} {base : Heap}
abbrev N_least_beat : List Str := ["net", "waits", "start", "places", "some", "low", "high", "middle"]
theorem sc_least_beat : FnScope N_least_beat (["net"] : List Str) (defScope s_least_beat) := ⟨rfl, rfl, rfl, by decide +kernel, rfl, by decide +kernel, by decide +kernel⟩

def sp_least_beat (K : PySem.W.Frag) : Sp := fun vs H Q _ => ∃ (v : V) (N : Nt) (D : Hp), vs = [v] ∧ Same D H ∧ NetV K D v N ∧ N.Ok ∧ New D H (LeastQ N) Q
theorem ok_least_beat (T : Tx K mg) : CalG P w K mg base CX0 9 "least_beat" ["net"] (sp_least_beat K) :=
  calG T 20 rfl "least_beat" rfl (by decide +kernel) sc_least_beat (fun _ _ _ _ _ _ us hl => match us, hl with | [_], _ => rfl) (fun vs H Q E ⟨_, _, _, e, _⟩ => by rw [e]; rfl) fun cdv f A outer s H vs Q E hr ⟨v, N, D, e, sD, hN, O, k⟩ => by
    subst e
    obtain ⟨na, dx, pg, pw0, xs, ys, ev, h1, h2, h3, G, W⟩ := id hN
    subst ev
    have n7 := O.n7
    have G1 := G.1
    refine ⟨_, (pss_cons (ps_set (i := 1) sc_least_beat.nd rfl (Or.inl rfl) (pe_disp (pps_cons pe_int pe_bl pps_nil) (by rfl) (by rfl) (fun z => by cases z) (by decide)))
    (pss_cons (ps_for PassesOwn.never rfl (pi_range1 (by rfl) (T.fr "range") (pa_cons (pe_callB c_lenL (by rfl) (T.fr "len") PySem.boot_len (pa_cons (e_fld rfl T.cNet (T.aNet "gates" (by decide +kernel)) (pv 0)) pa_nil)) pa_nil)) (pg_name (i := 2) sc_least_beat.nd rfl (Or.inl rfl)) (pss_one (ps_for PassesOwn.never rfl (pi_values (e_fz (pk (ok_ways_from T) hr (by decide) (pa_cons (pv 0) (pa_cons (pv 2) pa_nil))))) (pg_name (i := 3) sc_least_beat.nd rfl (Or.inl rfl)) (pss_one (ps_dput (hu_of hr) (pv 1) (pk (ok_wait_of T).g hr (by decide) (pa_cons (pv 0) (pa_cons (pe_tup (pa_cons (pv 2) (pa_cons (pv 3) pa_nil))) pa_nil))) pe_bl rfl)))))
    (pss_cons (ps_set (i := 4) sc_least_beat.nd rfl (Or.inl rfl) (pe_callB (call_sortedDI rfl) (by rfl) (T.fr "sorted") (by decide +kernel) (pa_cons (pv 1) pa_nil)))
    (pss_cons (ps_set (i := 5) sc_least_beat.nd rfl (Or.inl rfl) pe_int)
    (pss_cons (ps_set (i := 6) sc_least_beat.nd rfl (Or.inl rfl) (pe_op op_sub (pe_callB c_lenL (by rfl) (T.fr "len") PySem.boot_len (pa_cons (pv 4) pa_nil)) pe_int))
    (pss_cons (ps_while PassesOwn.never (pt_cmpR op_lt (pv 5) (pv 6) (nomark _)) (pss_cons (ps_set (i := 7) sc_least_beat.nd rfl (Or.inl rfl) (pe_op op_fdivN (pe_op op_add (pv 5) (pv 6)) pe_int))
    (pss_one (ps_if (pt_cmpR op_eq (pe_ix ixt (pk (ok_plain_for_beat T) hr (by decide) (pa_cons (pv 0) (pa_cons (pe_ix ixl (pv 4) (pv 7) (fun _ _ => rfl)) pa_nil))) pe_int (fun _ _ => rfl)) pe_str (nomark _)) (pss_one (ps_set (i := 6) sc_least_beat.nd rfl (Or.inl rfl) (pv 7))) (pss_one (ps_set (i := 5) sc_least_beat.nd rfl (Or.inl rfl) (pe_op op_add (pv 7) pe_int)))))))
    (pss_one (ps_ret (pe_tup (pa_cons (pe_ix ixl (pv 4) (pv 5) (fun _ _ => rfl)) (pa_cons (pe_ix ixt (pk (ok_plain_for_beat T) hr (by decide) (pa_cons (pv 0) (pa_cons (pe_ix ixl (pv 4) (pv 5) (fun _ _ => rfl)) pa_nil))) pe_int (fun _ _ => rfl)) pa_nil))))))))))), ?_⟩
    walk_at "lgd"
    intro dw hdw
    walk_at "lgd"
    have X1 := Ext.hide (o := .dK []) sD hdw
    have ddw := sD.free hdw
    have X2 := X1.mut (o := .dK [(.inl 0, .bl true)]) hdw ddw
    have hw2 := upd_same (H := upd H dw (.dK [])) (a := dw) (o := .dK [(.inl 0, .bl true)])
    generalize upd (upd H dw (.dK [])) dw (.dK [(.inl 0, .bl true)]) = H2 at X2 hw2 ⊢
    clear X1
    walk_at "lgd"
    refine w_rR1 (n := N.n) ?_ ?_ ?_
    · omega
    · omega
    have kd0 : DK (fun x => 0 ≤ x) [((.inl 0 : Key), V.bl true)] (put (fun _ => none) 0 (some ())) (fun _ _ _ => True) := DK.put (kvs := []) DK.nil (Int.le_refl 0) trivial
    refine for_src src_range0 X2.dh (fun st σ Hc => ∃ D' kvs wy, Ext D H D' Hc ∧ D' dw = none ∧ Hc dw = some (.dK kvs) ∧ DK (fun x => 0 ≤ x) kvs wy (fun _ (_ : Unit) _ => True) ∧ wy 0 = some () ∧ kvs.length ≤ 1 + 7 * st ∧ (∀ a, a < st → ∀ q, Way N a q → ∃ p, Way N a p ∧ endOf N a p = endOf N a q ∧ Best N a p q ∧ p.length ≤ N.n ∧ wy (waitN N a p) = some ()) ∧ ∃ z2 z3, σ = [some (.ref na), some (.ref dw), z2, z3, none, none, none, none]) ⟨D, _, _, X2, ddw, hw2, kd0, put_same, Nat.le_refl _, fun a ha => absurd ha (Nat.not_lt_zero a), _, _, rfl⟩ (fun st x σ Hc H'' hst sc ⟨D1, kvs1, wy1, X1, dq1, hq1, kd1, z1, lr1, al1, z2, z3, e⟩ ⟨r1, r2⟩ => ?_) fun σ Hc sc ⟨D1, kvs1, wy1, X1, dq1, hq1, kd1, z1, lr1, al1, z2, z3, e⟩ => ?_
    · subst r1 r2 e
      walk_at "lgd"
      refine ⟨_, st, N, D1, rfl, X1.s, hN.up X1.d, O, hst, fun d D2 H2 kvs wy X2 hd dd hkv kd wo => ?_⟩
      walk_at "lgd"
      refine ⟨d, kvs, rfl, hkv, fun o => ?_⟩
      have lk := kd.len _ fun x hx => okN_mem hx
      rw [List.length_map, List.length_range] at lk
      have q2 := X2.out hq1 dq1
      have hq2 := X2.h _ _ hq1
      have nq : dw ≠ d := fun e => by
        subst e
        rw [hq1] at hd
        cases hd
      have X3 := (X2.mut (o := .frz o (.dK kvs)) hd dd).fix hd dd upd_same
      have hq3 := at_mut (o' := .frz o (.dK kvs)) nq hq2
      have d3 : upd D2 d (.frz o (.dK kvs)) d = _ := upd_same
      have q3 : upd D2 d (.frz o (.dK kvs)) dw = none := by rw [upd_ne nq]; exact q2
      have kd3 := kd.mono fun _ _ _ r => RW.up (same_upd (o := .frz o (.dK kvs)) dd) r
      generalize upd H2 d (.frz o (.dK kvs)) = H3 at X3 hq3 ⊢
      generalize upd D2 d (.frz o (.dK kvs)) = D3 at X3 d3 q3 kd3 ⊢
      clear X2 hkv hq2 kd
      have X4 := X1.trans X3
      refine ⟨d, o, kvs, rfl, X3.s _ _ d3, ?_⟩
      refine for_vals d3 X3.s (fun i σ Hc => ∃ D' kvs' wy', Ext D H D' Hc ∧ Same D3 D' ∧ D' dw = none ∧ Hc dw = some (.dK kvs') ∧ DK (fun x => 0 ≤ x) kvs' wy' (fun _ (_ : Unit) _ => True) ∧ wy' 0 = some () ∧ kvs'.length ≤ 1 + 7 * st + i ∧ (∀ x, wy1 x = some () → wy' x = some ()) ∧ (∀ (j : Nat) (g : Int) (y : V) (p : List Nat), j < i → kvs[j]? = some (.inl g, y) → lf wy g = some p → wy' (waitN N st p) = some ()) ∧ ∃ z4, σ = [some (.ref na), some (.ref dw), some (.int (st : Nat)), z4, none, none, none, none]) ⟨D3, kvs1, wy1, X4, Same.refl _, q3, hq3, kd1, z1, lr1, fun _ h => h, fun j _ _ _ hj => absurd hj (Nat.not_lt_zero j), z3, rfl⟩ (fun i kk x σ Hc hi sc ⟨D5, kvs5, wy5, X5, s5, q5, hq5, kd5, z5, lr5, up5, al5, z4, e⟩ => ?_) fun σ Hc sc ⟨D5, kvs5, wy5, X5, s5, q5, hq5, kd5, z5, lr5, up5, al5, z4, e⟩ => ?_
      · subst e
        obtain ⟨g, p, hg, ek, hw, l, el, hl⟩ := kd3.each hi
        subst ek el
        have hgn : lf wy g = some p := hw
        have hw' : wy g.toNat = some p := by
          unfold lf at hw
          rw [if_pos hg.1] at hw
          exact hw
        obtain ⟨w1, w2, w3, w4⟩ := wo.ent _ _ hw'
        have hl5 := s5 _ _ hl
        walk_at "lgd"
        intro t1 ht1
        have X6 := X5.trans (Ext.hide (o := .tup [V.int (st : Nat), .ref l]) X5.s ht1)
        have ht6 := upd_same (H := Hc) (a := t1) (o := .tup [V.int (st : Nat), .ref l])
        have hq6 := at_upd (o' := .tup [V.int (st : Nat), .ref l]) ht1 hq5
        generalize upd Hc t1 (.tup [V.int (st : Nat), .ref l]) = H6 at X6 ht6 hq6 ⊢
        walk_at "lgd"
        refine ⟨_, _, N, st, p, rfl, hN.up X6.dh, ⟨t1, l, rfl, ht6, X6.s _ _ hl5⟩, O, w2, hst, by omega, fun H7 s7 => ?_⟩
        have X7 := X6.trans (Ext.grow X6.s s7)
        have hq7 := s7 _ _ hq6
        have li : i < kvs.length := (List.getElem?_eq_some_iff.mp hi).1
        have lk5 : kvs5.length < 100000 := by omega
        walk_at "lgd"
        have X8 := X7.mut (o := .dK (putK kvs5 (.inl (waitN N st p)) (.bl true))) hdw q5
        have wr : 0 ≤ waitN N st p := by
          have := O.wt0 st hst
          have h : 0 ≤ sm p (fun k => N.wt (N.w k).e) := sm_nonneg fun k hk => (O.wt0 _ (O.ends _ (Nt.w_mem (w2.lt k hk))).2).1
          show 0 ≤ N.wt st + sm p _
          omega
        refine ⟨X8.s.trans (Same.refl _) |> fun s => s5.trans s, D5, _, _, X8, s5, q5, upd_same, DK.put (p := ()) kd5 wr trivial, ?_, ?_, fun x hx => ?_, fun j g' y' p' hj hy' hw'' => ?_, _, rfl⟩
        · by_cases c : (0 : Int) = waitN N st p
          · rw [← c]
            exact put_same
          · rw [put_ne c]
            exact z5
        · have := length_putK kvs5 (.inl (waitN N st p)) (.bl true)
          omega
        · by_cases c : x = waitN N st p
          · rw [c]
            exact put_same
          · rw [put_ne c]
            exact up5 x hx
        · by_cases c : waitN N st p' = waitN N st p
          · rw [c]
            exact put_same
          · rw [put_ne c]
            rcases Nat.lt_succ_iff_lt_or_eq.mp hj with e | e
            · exact al5 j g' y' p' e hy' hw''
            · subst e
              rw [hi] at hy'
              cases Option.some.inj hy'
              rw [hgn] at hw''
              cases hw''
              exact absurd rfl c
      · subst e
        refine ⟨X5.dh, D5, kvs5, wy5, X5, q5, hq5, kd5, z5, by omega, fun a ha q hq => ?_, _, _, rfl⟩
        rcases Nat.lt_succ_iff_lt_or_eq.mp ha with e | e
        · obtain ⟨p, p1, p2, p3, p4, p5⟩ := al1 a e q hq
          exact ⟨p, p1, p2, p3, p4, up5 _ p5⟩
        · subst e
          obtain ⟨p, hp, hb⟩ := wo.all q hq
          obtain ⟨w1, w2, w3, w4⟩ := wo.ent _ _ hp
          obtain ⟨i, y, hi, _⟩ := kd3.find (g := (endOf N a q : Nat)) (p := p) (by rw [lf_at]; exact hp)
          have li : i < kvs.length := (List.getElem?_eq_some_iff.mp hi).1
          exact ⟨p, w2, w3, hb, w4, al5 i _ y p li hi (by rw [lf_at]; exact hp)⟩
    · subst e
      walk_at "lgd"
      have hkeys : kvs1.map (·.1) = (kvs1.map fun kv => match kv.1 with | .inl i => i | .inr _ => 0).map Sum.inl := by
        rw [List.map_map]
        apply List.map_congr_left
        intro kv hkv
        obtain ⟨g, h0, hk, _⟩ := kd1.ks kv.1 (List.mem_map.mpr ⟨kv, hkv, rfl⟩)
        show kv.1 = Sum.inl (match kv.1 with | .inl i => i | .inr _ => 0)
        rw [hk]
      generalize (kvs1.map fun kv => match kv.1 with | .inl i => i | .inr _ => 0) = ks at hkeys
      have lks : ks.length = kvs1.length := by
        have := congrArg List.length hkeys
        rw [List.length_map, List.length_map] at this
        exact this.symm
      have ndk : ks.Nodup := by
        have h := kd1.nd
        rw [hkeys] at h
        exact List.Pairwise.of_map Sum.inl (fun a b h e => h (by rw [e])) h
      have ink : ∀ x, wy1 x = some () → x ∈ ks := fun x hx => by
        obtain ⟨i, y, hi, _⟩ := kd1.find hx
        have h : (Sum.inl x : Key) ∈ kvs1.map (·.1) := List.mem_map.mpr ⟨_, List.mem_of_getElem? hi, rfl⟩
        rw [hkeys] at h
        obtain ⟨z, hz, e⟩ := List.mem_map.mp h
        cases e
        exact hz
      have pos : ∀ x ∈ ks, 0 ≤ x := fun x hx => by
        obtain ⟨g, h0, hk, _⟩ := kd1.ks (.inl x) (by rw [hkeys]; exact List.mem_map.mpr ⟨x, hx, rfl⟩)
        cases hk
        exact h0
      refine ⟨dw, kvs1, ks, rfl, .inl hq1, hkeys, by omega, fun ys p hperm hsort hp => ?_⟩
      have X2 := X1.trans (Ext.new (o := .lst (ys.map V.int)) X1.s hp)
      have d2 : upd D1 p (.lst (ys.map V.int)) p = _ := upd_same
      generalize upd Hc p (.lst (ys.map V.int)) = H2 at X2 ⊢
      generalize upd D1 p (.lst (ys.map V.int)) = D2 at X2 d2
      have srt := sorted_lt hperm ndk hsort
      have ly : ys.length = ks.length := hperm.length_eq
      have hW : HasW N ys := fun a ha q hq => by
        obtain ⟨p, p1, p2, p3, p4, p5⟩ := al1 a ha q hq
        exact ⟨p, p1, p2, p3, p4, hperm.mem_iff.mpr (ink _ p5)⟩
      have z0 : (0 : Int) ∈ ys := hperm.mem_iff.mpr (ink 0 z1)
      have ly0 : 0 < ys.length := List.length_pos_of_mem z0
      have y0 : ys[0]? = some 0 := by
        obtain ⟨i, hi⟩ := List.mem_iff_getElem?.mp z0
        obtain ⟨li, ei⟩ := List.getElem?_eq_some_iff.mp hi
        by_cases c : i = 0
        · rw [← c]
          exact hi
        · have := srt 0 i li (by omega)
          have h2 := pos (ys[0]) (hperm.mem_iff.mp (List.getElem_mem _))
          omega
      walk_at "lgd"
      refine while_ (fun m σ Hc => ∃ (low high : Nat) (D' : Hp) (z : Option V), m = high - low ∧ ∃ (lh : low ≤ high) (hh : high < ys.length), (∃ l, Feas N ys[high] l) ∧ (∀ j (hj : j < low) l, ¬ Feas N ys[j] l) ∧ Ext D H D' Hc ∧ D' p = some (.lst (ys.map V.int)) ∧ ∃ z2 z3, σ = [some (.ref na), some (.ref dw), z2, z3, some (.ref p), some (.int (low : Nat)), some (.int (high : Nat)), z]) (ys.length - 1 - 0) ⟨0, ys.length - 1, D2, none, rfl, by omega, by omega, ⟨_, feas_top hW fun x hx => ?_⟩, fun j hj => absurd hj (Nat.not_lt_zero j), X2, d2, z2, z3, ?_⟩ ?_
      · obtain ⟨i, hi⟩ := List.mem_iff_getElem?.mp hx
        obtain ⟨li, ei⟩ := List.getElem?_eq_some_iff.mp hi
        by_cases c : i = ys.length - 1
        · subst c
          omega
        · have := srt i (ys.length - 1) (by omega) (by omega)
          omega
      · have e : (((ys.map V.int).length : Nat) : Int) - 1 = ((ys.length - 1 : Nat) : Int) := by
          rw [List.length_map]
          omega
        rw [e]
        rfl
      · intro m σ Hc ⟨low, high, D', z, em, lh, hh, hf, hn, X, dp, z2, z3, e⟩
        subst e
        walk_at "lgd"
        by_cases c : (low : Int) < (high : Nat)
        · walk_at "lgd"
          refine w_turn ?_
          walk_at "lgd"
          rw [fdiv2]
          have hm : (low + high) / 2 < ys.length := by omega
          have gm : (ys.map V.int)[(low + high) / 2]? = some (.int ys[(low + high) / 2]) := by
            rw [List.getElem?_map, List.getElem?_eq_getElem hm]
            rfl
          walk_at "lgd"
          refine ⟨_, _, N, D', rfl, X.s, hN.up X.d, O, fun v5 D5 H5 X5 ⟨t5, q5, e5, h5⟩ => ?_⟩
          subst e5
          have X6 := X.trans X5
          have dp6 := X5.d _ _ dp
          rcases h5 with ⟨h5, hf5⟩ | ⟨h5, hn5, _⟩
          · walk_at "lgd"
            exact ⟨_, by rw [em]; omega, low, (low + high) / 2, D5, _, rfl, by omega, hm, hf5, hn, X6, dp6, _, _, rfl⟩
          · have ne : ¬ (Str.ofString "bar" = Str.ofString "lags") := by decide
            walk_at "lgd"
            refine ⟨_, ?_, (low + high) / 2 + 1, high, D5, _, rfl, by omega, hh, hf, fun j hj l F => ?_, X6, dp6, _, _, rfl⟩
            · rw [em]
              omega
            · by_cases cj : j = (low + high) / 2
              · subst cj
                exact hn5 l F
              · exact hn5 l (Feas.mono (Int.le_of_lt (srt j _ hm (by omega))) F)
        · have el : low = high := by omega
          subst el
          walk_at "lgd"
          have gm : (ys.map V.int)[low]? = some (.int ys[low]) := by
            rw [List.getElem?_map, List.getElem?_eq_getElem hh]
            rfl
          walk_at "lgd"
          refine ⟨_, _, N, D', rfl, X.s, hN.up X.d, O, fun v5 D5 H5 X5 ⟨t5, q5, e5, h5⟩ => ?_⟩
          subst e5
          have X6 := X.trans X5
          have lo := least_of hW hh y0 srt hf hn
          rcases h5 with ⟨h5, _⟩ | ⟨h5, _⟩
          · walk_at "lgd"
            intro t7 ht7
            exact k _ _ _ (X6.trans (Ext.new X6.s ht7)) ⟨t7, _, _, rfl, upd_same, lo⟩
          · walk_at "lgd"
            intro t7 ht7
            exact k _ _ _ (X6.trans (Ext.new X6.s ht7)) ⟨t7, _, _, rfl, upd_same, lo⟩
end

theorem rng_get {B : Type} {n i : Nat} {f : Nat → B} (h : i < n) : ((List.range n).map f)[i]? = some (f i) := by
  rw [List.getElem?_map, List.getElem?_range h]
  rfl
theorem rng_some {B : Type} {n i : Nat} {f : Nat → B} {x : B} (h : ((List.range n).map f)[i]? = some x) : i < n ∧ x = f i := by
  have hi : i < n := by
    have := (List.getElem?_eq_some_iff.mp h).1
    rw [List.length_map, List.length_range] at this
    exact this
  rw [rng_get hi] at h
  exact ⟨hi, (Option.some.inj h).symm⟩
theorem w_rInK {K : PySem.W.Frag} {H : Hp} {Q : VK} {v : V} {p : Addr} {xs : List V} (h : SqT K H p xs) (f1 : flatV v = true) (f2 : xs.all flatV = true) (q : Q (.bl (inV v xs)) H) : rIn K false v (.ref p) H Q := ⟨p, xs, rfl, .inr h, f1, f2, q⟩
theorem w_rNinK {K : PySem.W.Frag} {H : Hp} {Q : VK} {v : V} {p : Addr} {xs : List V} (h : SqT K H p xs) (f1 : flatV v = true) (f2 : xs.all flatV = true) (q : Q (.bl (!inV v xs)) H) : rIn K true v (.ref p) H Q := ⟨p, xs, rfl, .inr h, f1, f2, q⟩
/-- entries of a paper -/
abbrev En := (Nat × List Nat) × Int
def EntV (v : V) (D : Hp) (e : En) : Prop := ∃ (t : Addr) (x : V), v = .ref t ∧ D t = some (.tup [x, .int e.2]) ∧ PcV D x e.1.1 e.1.2
def EntsV (D : Hp) (xs : List V) (es : List En) : Prop := Al EntV D xs es
theorem EntV.up {D D' : Hp} {v : V} {e : En} (s : Same D D') (h : EntV v D e) : EntV v D' e := by
  obtain ⟨t, x, h1, h2, h3⟩ := h
  exact ⟨t, x, h1, s _ _ h2, h3.up s⟩
theorem EntsV.up {D D' : Hp} {xs : List V} {es : List En} (s : Same D D') (h : EntsV D xs es) : EntsV D' xs es := al_mono (fun _ _ q => q.up s) h
/-- entries that are in order -/
def EnOk (N : Nt) (es : List En) : Prop := es.length ≤ 1000 ∧ ∀ e ∈ es, e.1.1 < N.n ∧ Way N e.1.1 e.1.2 ∧ e.1.2.length ≤ 100 ∧ 1 ≤ e.2
def LagL (N : Nt) (l : Nat → Int) : List V := (List.range N.n).map fun g => V.int (l g)
theorem filter_ind {ws : List Wr} (f : Wr → Nat) (g : Nat) : ∀ (d : Wr), ((((List.range ws.length).filter fun k => decide (((f (ws.getD k d) : Nat) : Int) = (g : Nat))).length : Nat) : Int) = sm ws (fun w => ind g (f w)) := by
  induction ws with
  | nil => intro d; rfl
  | cons w ws ih =>
    intro d
    rw [List.length_cons, List.range_succ_eq_map, sm_cons, ← ih d]
    have e0 : (decide (((f ((w :: ws).getD 0 d) : Nat) : Int) = (g : Nat))) = decide (f w = g) := by
      show decide (((f w : Nat) : Int) = (g : Nat)) = _
      by_cases c : f w = g
      · rw [decide_eq_true c, decide_eq_true (by omega)]
      · rw [decide_eq_false c, decide_eq_false (by omega)]
    have e1 : (List.filter (fun k => decide (((f ((w :: ws).getD k d) : Nat) : Int) = (g : Nat))) (List.map Nat.succ (List.range ws.length))).length = (List.filter (fun k => decide (((f (ws.getD k d) : Nat) : Int) = (g : Nat))) (List.range ws.length)).length := by
      rw [List.filter_map, List.length_map]
      rfl
    rw [List.filter_cons, e0]
    unfold ind
    by_cases c : f w = g
    · rw [decide_eq_true c, if_pos rfl, if_pos c, List.length_cons, e1]
      omega
    · rw [decide_eq_false c, if_neg Bool.false_ne_true, if_neg c, e1]
      omega
section
variable {K : PySem.W.Frag} {mg : Str → Option Value} {P : Program} {w : World} {base : Heap}
abbrev N_is_whole : List Str := ["thing"]
theorem sc_is_whole : FnScope N_is_whole (["thing"] : List Str) (defScope s_is_whole) := ⟨rfl, rfl, rfl, by decide +kernel, rfl, by decide +kernel, by decide +kernel⟩

def sp_is_whole : Sp := fun vs H Q _ => ∃ i : Int, vs = [.int i] ∧ Q (.bl true) H
theorem ok_is_whole (T : Tx K mg) : CalG P w K mg base CX0 1 "is_whole" ["thing"] sp_is_whole :=
  calG T 23 rfl "is_whole" rfl (by decide +kernel) sc_is_whole (fun _ _ _ _ _ _ us hl => match us, hl with | [_], _ => rfl) (fun vs H Q E ⟨_, e, _⟩ => by rw [e]; rfl) fun cdv f A outer s H vs Q E hr ⟨i, e, k⟩ => by
    subst e
    refine ⟨_, (pss_one (ps_ret (pe_and (pe_callB c_isi (by rfl) (T.fr "isinstance") (by decide +kernel) (pa_cons (pv 0) (pa_cons (pe_bltn (v := .ty "int") (by rfl) (T.fr "int") (by decide +kernel) rfl) pa_nil))) (pe_one (pe_not (pe_callB c_isi (by rfl) (T.fr "isinstance") (by decide +kernel) (pa_cons (pv 0) (pa_cons (pe_bltn (v := .ty "bool") (by rfl) (T.fr "bool") (by decide +kernel) rfl) pa_nil)))))))), ?_⟩
    walk_at "lgd"
    exact k
abbrev N_are_lags : List Str := ["net", "thing", "lag", "gate"]
theorem sc_are_lags : FnScope N_are_lags (["net", "thing"] : List Str) (defScope s_are_lags) := ⟨rfl, rfl, rfl, by decide +kernel, rfl, by decide +kernel, by decide +kernel⟩

def LagOk (N : Nt) (l : Nat → Int) : Prop := ∀ g, g < N.n → (-500 ≤ l g ∧ l g ≤ 500) ∧ (N.fx g = true → l g = 0)
def sp_are_lags (K : PySem.W.Frag) : Sp := fun vs H Q _ => ∃ (v : V) (q : Addr) (N : Nt) (l : Nat → Int), vs = [v, .ref q] ∧ NetV K H v N ∧ N.Ok ∧ H q = some (.lst (LagL N l)) ∧ LagOk N l ∧ ∀ H', Same H H' → Q (.bl true) H'
theorem ok_are_lags (T : Tx K mg) : CalG P w K mg base CX0 2 "are_lags" ["net", "thing"] (sp_are_lags K) :=
  calG T 24 rfl "are_lags" rfl (by decide +kernel) sc_are_lags (fun _ _ _ _ _ _ us hl => match us, hl with | [_, _], _ => rfl) (fun vs H Q E ⟨_, _, _, _, e, _⟩ => by rw [e]; rfl) fun cdv f A outer s H vs Q E hr ⟨v, q, N, l, e, hN, O, hq, lo, k⟩ => by
    subst e
    obtain ⟨na, dx, pg, pw0, xs, ys, ev, h1, h2, h3, G, W⟩ := id hN
    subst ev
    have n7 := O.n7
    have G1 := G.1
    have ll : (LagL N l).length = N.n := by unfold LagL; rw [List.length_map, List.length_range]
    refine ⟨_, (pss_cons (ps_if (PW.pt (pw_or (pt_not (pt_val (pe_callB c_isi (by rfl) (T.fr "isinstance") (by decide +kernel) (pa_cons (pv 1) (pa_cons (pe_bltn (v := .ty "list") (by rfl) (T.fr "list") (by decide +kernel) rfl) pa_nil))))) (pw_or1 (pt_cmpR op_ne (pe_callB c_lenL (by rfl) (T.fr "len") PySem.boot_len (pa_cons (pv 1) pa_nil)) (pe_callB c_lenL (by rfl) (T.fr "len") PySem.boot_len (pa_cons (e_fld rfl T.cNet (T.aNet "gates" (by decide +kernel)) (pv 0)) pa_nil)) (nomark _))))) (pss_one (ps_ret pe_bl)) pss_nil)
    (pss_cons (ps_if (pt_not (pt_val (pe_callB (c_all (.inl rfl)) (by rfl) (T.fr "all") (by decide +kernel) (pa_cons (pe_lc (own := [("lag", 2)]) (g := gName 2) (tt := tYes) rfl sc_are_lags.nd (k_list (K := K) rfl (pv 1)) (blkOk_by (N := N_are_lags) (sc := defScope s_are_lags) (by decide +kernel)) (fun _ _ _ _ _ => (pg_name (i := 2) sc_are_lags.nd rfl (Or.inl rfl))) (fun _ _ _ _ _ => pts_nil) (fun _ _ _ _ _ => (pe_and (pk (ok_is_whole T) hr (by decide) (pa_cons (pv 2) pa_nil)) (pe_one (pe_cmpR op_le (pe_callB call_abs (by rfl) (T.fr "abs") (by decide +kernel) (pa_cons (pv 2) pa_nil)) (C8.pe_gc (by rfl) (T.gI "MOST_LAG" 500)) (nomark _)))))) pa_nil)))) (pss_one (ps_ret pe_bl)) pss_nil)
    (pss_one (ps_ret (pe_callB (c_all (.inl rfl)) (by rfl) (T.fr "all") (by decide +kernel) (pa_cons (pe_lc (own := [("lag", 2), ("gate", 3)]) (g := gT 2 (gCons (gName 2) (gCons (gName 3) gNil))) (tt := _) rfl sc_are_lags.nd (k_zip (K := K) rfl (T.fr "zip") (pa_cons (pv 1) (pa_cons (e_fld rfl T.cNet (T.aNet "gates" (by decide +kernel)) (pv 0)) pa_nil))) (blkOk_by (N := N_are_lags) (sc := defScope s_are_lags) (by decide +kernel)) (fun _ _ _ _ _ => (g_tup (n := 2) (.inl rfl) (pgs_cons (pg_name (i := 2) sc_are_lags.nd rfl (Or.inl rfl)) (pgs_cons (pg_name (i := 3) sc_are_lags.nd rfl (Or.inl rfl)) pgs_nil)))) (fun _ _ _ _ _ => (pts_one (pt_cmpR (o_inK (K := K) rfl) (pe_ix ixt (pv 3) pe_int (fun _ _ => rfl)) (C8.pe_gc (by rfl) (T.gA "PORTS")) (by rfl)))) (fun _ _ _ _ _ => (pe_cmpR op_eq (pv 2) pe_int (nomark _)))) pa_nil)))))), ?_⟩
    walk_at "lgd"
    refine lc_list hq (Same.refl H) (by omega) ((List.replicate N.n true).map V.bl) (by simp [ll]) (fun i x y H' hx hy s Qy ky => ?_) fun q2 H2 hq2 s2 hl2 => ?_
    · obtain ⟨hi, ex⟩ := rng_some hx
      subst ex
      have lb := (lo i hi).1
      have ey : y = .bl true := by
        rw [List.getElem?_map, List.getElem?_replicate, if_pos hi] at hy
        exact (Option.some.inj hy).symm
      subst ey
      walk_at "lgd"
      refine ⟨_, rfl, ?_⟩
      walk_at "lgd"
      refine w_bl' (c := true) ?_ (ky H' (Same.refl _))
      refine decide_eq_true ?_
      split <;> omega
    · have e1 : (List.replicate N.n true).all id = true := by simp
      walk_at "lgd"
      rw [e1]
      walk_at "lgd"
      refine lcF (src_zip (SqL.of hq) (SqL.of h2) (by omega)) s2 (by omega) (fun i => N.fx i) (fun _ => .bl true) (fun i x H' H'' hi s ⟨t, y, z, e1, e2, e3, e4, e5⟩ Qy Qn ky kn => ?_) fun q3 H3 hq3 s3 hl3 => ?_
      · subst e1 e3
        obtain ⟨hi, ex⟩ := rng_some e4
        subst ex
        obtain ⟨p1, kd, g1, g2, g3⟩ := G.2 i hi
        rw [e5] at g1
        cases Option.some.inj g1
        have st := same_upd (o := .tup [V.int (l i), .ref p1]) e2
        have ht := upd_same (H := H') (a := t) (o := .tup [V.int (l i), .ref p1])
        generalize upd H' t (.tup [V.int (l i), .ref p1]) = H4 at st ht ⊢
        have sH4 := s.trans st
        walk_at "lgd"
        refine w_rInK (T.ports _) rfl rfl ?_
        walk_at "lgd"
        rw [in_str2, ← g3]
        cases c : N.fx i with
        | true =>
          have z := (lo i hi).2 c
          walk_at "lgd"
          exact w_bl' (decide_eq_true z) (ky c _ st)
        | false =>
          walk_at "lgd"
          exact kn c _ st
      · have hl4 : H3 q3 = some (.lst ((List.map (fun _ => true) (List.filter (fun i => N.fx i) (List.range (LagL N l).length))).map V.bl)) := by
          rw [hl3, List.map_map]
          rfl
        walk_at "lgd"
        refine w_bl' (c := true) ?_ (k _ (s2.trans s3))
        rw [List.all_eq_true]
        intro b hb
        obtain ⟨_, _, rfl⟩ := List.mem_map.mp hb
        rfl
abbrev N_counts : List Str := ["net", "lags", "start", "end", "worths"]
theorem sc_counts : FnScope N_counts (["net", "lags"] : List Str) (defScope s_counts) := ⟨rfl, rfl, rfl, by decide +kernel, rfl, by decide +kernel, by decide +kernel⟩

def sp_counts (K : PySem.W.Frag) : Sp := fun vs H Q _ => ∃ (v : V) (q : Addr) (N : Nt) (l : Nat → Int), vs = [v, .ref q] ∧ NetV K H v N ∧ N.Ok ∧ H q = some (.lst (LagL N l)) ∧ LagOk N l ∧ ∀ q' H', Same H H' → H q' = none → H' q' = some (.lst ((List.range N.ws.length).map fun k => V.int (cnt N l k))) → Q (.ref q') H'
theorem ok_counts (T : Tx K mg) : CalG P w K mg base CX0 3 "counts" ["net", "lags"] (sp_counts K) :=
  calG T 25 rfl "counts" rfl (by decide +kernel) sc_counts (fun _ _ _ _ _ _ us hl => match us, hl with | [_, _], _ => rfl) (fun vs H Q E ⟨_, _, _, _, e, _⟩ => by rw [e]; rfl) fun cdv f A outer s H vs Q E hr ⟨v, q, N, l, e, hN, O, hq, lo, k⟩ => by
    subst e
    obtain ⟨na, dx, pg, pw0, xs, ys, ev, h1, h2, h3, G, W⟩ := id hN
    subst ev
    have w12 := O.ws12
    have W1 := W.1
    refine ⟨_, (pss_cons (ps_if (pt_not (pt_val (pk (ok_are_lags T) hr (by decide) (pa_cons (pv 0) (pa_cons (pv 1) pa_nil))))) (pss_one ps_never) pss_nil)
    (pss_one (ps_ret (pe_lc (own := [("start", 2), ("end", 3), ("worths", 4)]) (g := gT 3 (gCons (gName 2) (gCons (gName 3) (gCons (gName 4) gNil)))) (tt := tYes) rfl sc_counts.nd (k_list (K := K) rfl (e_fld rfl T.cNet (T.aNet "wires" (by decide +kernel)) (pv 0))) (blkOk_by (N := N_counts) (sc := defScope s_counts) (by decide +kernel)) (fun _ _ _ _ _ => (g_tup (n := 3) (.inl rfl) (pgs_cons (pg_name (i := 2) sc_counts.nd rfl (Or.inl rfl)) (pgs_cons (pg_name (i := 3) sc_counts.nd rfl (Or.inl rfl)) (pgs_cons (pg_name (i := 4) sc_counts.nd rfl (Or.inl rfl)) pgs_nil))))) (fun _ _ _ _ _ => pts_nil) (fun _ _ _ _ _ => (pe_op op_sub (pe_op op_add (pe_callB c_lenT (by rfl) (T.fr "len") PySem.boot_len (pa_cons (pv 4) pa_nil)) (pe_ix ixl (pv 1) (pv 3) (fun _ _ => rfl))) (pe_ix ixl (pv 1) (pv 2) (fun _ _ => rfl)))))))), ?_⟩
    walk_at "lgd"
    refine ⟨_, q, N, l, rfl, hN, O, hq, lo, fun H1 s1 => ?_⟩
    walk_at "lgd"
    refine lc_list h3 s1 (by omega) ((List.range N.ws.length).map fun k => V.int (cnt N l k)) (by rw [List.length_map, List.length_range, W1]) (fun i x y H' hx hy s Qy ky => ?_) fun q2 H2 hq2 s2 hl2 => ?_
    · obtain ⟨hi, ey⟩ := rng_some hy
      subst ey
      obtain ⟨p1, p2, zs, w1, w2, w3, w4⟩ := W.2 i hi
      rw [hx] at w1
      cases Option.some.inj w1
      obtain ⟨he1, he2⟩ := O.ends _ (Nt.w_mem hi)
      have a1 : (LagL N l)[(N.w i).e]? = _ := rng_get he2
      have a2 : (LagL N l)[(N.w i).s]? = _ := rng_get he1
      walk_at "lgd"
      refine w_in' ?_ (ky H' (Same.refl _))
      rw [w4]
      rfl
    · walk_at "lgd"
      exact k q2 H2 (s1.trans s2) (s1.free hq2) hl2
abbrev N_registers : List Str := ["net", "start", "end", "worths"]
theorem sc_registers : FnScope N_registers (["net"] : List Str) (defScope s_registers) := ⟨rfl, rfl, rfl, by decide +kernel, rfl, by decide +kernel, by decide +kernel⟩

def sp_registers (K : PySem.W.Frag) : Sp := fun vs H Q _ => ∃ (v : V) (N : Nt), vs = [v] ∧ NetV K H v N ∧ N.Ok ∧ ∀ H', Same H H' → Q (.int (regs N)) H'
theorem ok_registers (T : Tx K mg) : CalG P w K mg base CX0 1 "registers" ["net"] (sp_registers K) :=
  calG T 26 rfl "registers" rfl (by decide +kernel) sc_registers (fun _ _ _ _ _ _ us hl => match us, hl with | [_], _ => rfl) (fun vs H Q E ⟨_, _, e, _⟩ => by rw [e]; rfl) fun cdv f A outer s H vs Q E hr ⟨v, N, e, hN, O, k⟩ => by
    subst e
    obtain ⟨na, dx, pg, pw0, xs, ys, ev, h1, h2, h3, G, W⟩ := id hN
    subst ev
    have w12 := O.ws12
    have W1 := W.1
    refine ⟨_, (pss_one (ps_ret (pe_callB (c_sum (.inl rfl)) (by rfl) (T.fr "sum") (by decide +kernel) (pa_cons (pe_lc (own := [("start", 1), ("end", 2), ("worths", 3)]) (g := gT 3 (gCons (gName 1) (gCons (gName 2) (gCons (gName 3) gNil)))) (tt := tYes) rfl sc_registers.nd (k_list (K := K) rfl (e_fld rfl T.cNet (T.aNet "wires" (by decide +kernel)) (pv 0))) (blkOk_by (N := N_registers) (sc := defScope s_registers) (by decide +kernel)) (fun _ _ _ _ _ => (g_tup (n := 3) (.inl rfl) (pgs_cons (pg_name (i := 1) sc_registers.nd rfl (Or.inl rfl)) (pgs_cons (pg_name (i := 2) sc_registers.nd rfl (Or.inl rfl)) (pgs_cons (pg_name (i := 3) sc_registers.nd rfl (Or.inl rfl)) pgs_nil))))) (fun _ _ _ _ _ => pts_nil) (fun _ _ _ _ _ => (pe_callB c_lenT (by rfl) (T.fr "len") PySem.boot_len (pa_cons (pv 3) pa_nil)))) pa_nil)))), ?_⟩
    walk_at "lgd"
    refine lc_list h3 (Same.refl H) (by omega) ((N.ws.map fun w => ((w.k : Nat) : Int)).map V.int) (by rw [List.length_map, List.length_map, W1]) (fun i x y H' hx hy s Qy ky => ?_) fun q2 H2 hq2 s2 hl2 => ?_
    · have hi : i < N.ws.length := by
        have := (List.getElem?_eq_some_iff.mp hx).1
        omega
      obtain ⟨p1, p2, zs, w1, w2, w3, w4⟩ := W.2 i hi
      rw [hx] at w1
      cases Option.some.inj w1
      rw [List.getElem?_map, List.getElem?_map, List.getElem?_eq_getElem hi] at hy
      cases Option.some.inj hy
      walk_at "lgd"
      refine w_in' ?_ (ky H' (Same.refl _))
      rw [w4]
      unfold Nt.w
      rw [List.getD_eq_getElem?_getD, List.getElem?_eq_getElem hi]
      rfl
    · walk_at "lgd"
      exact k _ s2
end

theorem w_mul {H : Hp} {Q : VK} {i j : Int} (h : -(2 ^ 64) < j ∧ j < 2 ^ 64) (q : Q (.int (i * j)) H) : rI CMul (fun i j => .int (i * j)) (.int i) (.int j) H Q := w_iC (.inr h) q
section
variable {K : PySem.W.Frag} {mg : Str → Option Value} {P : Program} {w : World} {base : Heap}
abbrev N_are_entries : List Str := ["net", "thing", "entry"]
theorem sc_are_entries : FnScope N_are_entries (["net", "thing"] : List Str) (defScope s_are_entries) := ⟨rfl, rfl, rfl, by decide +kernel, rfl, by decide +kernel, by decide +kernel⟩

def sp_are_entries (K : PySem.W.Frag) : Sp := fun vs H Q _ => ∃ (v : V) (q : Addr) (N : Nt) (xs : List V) (es : List En), vs = [v, .ref q] ∧ NetV K H v N ∧ N.Ok ∧ H q = some (.lst xs) ∧ EntsV H xs es ∧ EnOk N es ∧ ∀ H', Same H H' → Q (.bl true) H'
theorem ok_are_entries (T : Tx K mg) : CalG P w K mg base CX0 3 "are_entries" ["net", "thing"] (sp_are_entries K) :=
  calG T 27 rfl "are_entries" rfl (by decide +kernel) sc_are_entries (fun _ _ _ _ _ _ us hl => match us, hl with | [_, _], _ => rfl) (fun vs H Q E ⟨_, _, _, _, _, e, _⟩ => by rw [e]; rfl) fun cdv f A outer s H vs Q E hr ⟨v, q, N, xs, es, e, hN, O, hq, hE, eo, k⟩ => by
    subst e
    refine ⟨_, (pss_cons (ps_if (pt_not (pt_val (pe_callB c_isi (by rfl) (T.fr "isinstance") (by decide +kernel) (pa_cons (pv 1) (pa_cons (pe_bltn (v := .ty "list") (by rfl) (T.fr "list") (by decide +kernel) rfl) pa_nil))))) (pss_one (ps_ret pe_bl)) pss_nil)
    (pss_cons (ps_for PassesOwn.never rfl (k_list (K := K) rfl (pv 1)) (pg_name (i := 2) sc_are_entries.nd rfl (Or.inl rfl)) (pss_cons (ps_if (PW.pt (pw_or (pt_not (pt_val (pe_callB c_isi (by rfl) (T.fr "isinstance") (by decide +kernel) (pa_cons (pv 2) (pa_cons (pe_bltn (v := .ty "tuple") (by rfl) (T.fr "tuple") (by decide +kernel) rfl) pa_nil))))) (pw_or (pt_cmpR op_ne (pe_callB c_lenT (by rfl) (T.fr "len") PySem.boot_len (pa_cons (pv 2) pa_nil)) pe_int (nomark _)) (pw_or1 (pt_not (pt_val (pk (ok_is_piece T).g hr (by decide) (pa_cons (pv 0) (pa_cons (pe_ix ixt (pv 2) pe_int (fun _ _ => rfl)) pa_nil))))))))) (pss_one (ps_ret pe_bl)) pss_nil)
    (pss_one (ps_if (PW.pt (pw_or (pt_not (pt_val (pe_callB c_isi (by rfl) (T.fr "isinstance") (by decide +kernel) (pa_cons (pe_ix ixt (pv 2) pe_int (fun _ _ => rfl)) (pa_cons (pe_bltn (v := .ty "int") (by rfl) (T.fr "int") (by decide +kernel) rfl) pa_nil))))) (pw_or (pt_val (pe_callB c_isi (by rfl) (T.fr "isinstance") (by decide +kernel) (pa_cons (pe_ix ixt (pv 2) pe_int (fun _ _ => rfl)) (pa_cons (pe_bltn (v := .ty "bool") (by rfl) (T.fr "bool") (by decide +kernel) rfl) pa_nil)))) (pw_or1 (pt_cmpR op_lt (pe_ix ixt (pv 2) pe_int (fun _ _ => rfl)) pe_int (nomark _)))))) (pss_one (ps_ret pe_bl)) pss_nil))))
    (pss_one (ps_ret pe_bl)))), ?_⟩
    walk_at "lgd"
    refine for_list hq (Same.refl H) (fun i σ H' => ∃ z, σ = [some v, some (.ref q), z]) ⟨_, rfl⟩ (fun i x σ H' hx s ⟨z, e⟩ => ?_) fun σ H' s ⟨z, e⟩ => ?_
    · subst e
      obtain ⟨e1, he, t, px, e2, h2, hp⟩ := al_get hE hx
      subst e2
      obtain ⟨a1, a2, a3, a4⟩ := eo.2 e1 (List.mem_of_getElem? he)
      walk_at "lgd"
      refine ⟨_, _, N, e1.1.1, e1.1.2, rfl, hN.up s, hp.up s, O, a2, a1, a3, fun H1 s1 => ?_⟩
      have s2 := s.trans s1
      walk_at "lgd"
      exact ⟨s2, _, rfl⟩
    · subst e
      walk_at "lgd"
      exact k _ s
abbrev N_due_at : List Str := ["net", "gate", "wire"]
theorem sc_due_at : FnScope N_due_at (["net", "gate"] : List Str) (defScope s_due_at) := ⟨rfl, rfl, rfl, by decide +kernel, rfl, by decide +kernel, by decide +kernel⟩

def dueN (N : Nt) (g : Nat) : Int := sm N.ws (fun w => ind g w.s - ind g w.e)
def sp_due_at (K : PySem.W.Frag) : Sp := fun vs H Q _ => ∃ (v : V) (g : Nat) (N : Nt), vs = [v, .int (g : Nat)] ∧ NetV K H v N ∧ N.Ok ∧ ∀ H', Same H H' → Q (.int (dueN N g)) H'
theorem ok_due_at (T : Tx K mg) : CalG P w K mg base CX0 1 "due_at" ["net", "gate"] (sp_due_at K) :=
  calG T 28 rfl "due_at" rfl (by decide +kernel) sc_due_at (fun _ _ _ _ _ _ us hl => match us, hl with | [_, _], _ => rfl) (fun vs H Q E ⟨_, _, _, e, _⟩ => by rw [e]; rfl) fun cdv f A outer s H vs Q E hr ⟨v, g, N, e, hN, O, k⟩ => by
    subst e
    obtain ⟨na, dx, pg, pw0, xs, ys, ev, h1, h2, h3, G, W⟩ := id hN
    subst ev
    have w12 := O.ws12
    have W1 := W.1
    refine ⟨_, (pss_one (ps_ret (pe_op op_sub (pe_callB c_lenL (by rfl) (T.fr "len") PySem.boot_len (pa_cons (pe_lc (own := [("wire", 2)]) (g := gName 2) (tt := _) rfl sc_due_at.nd (k_list (K := K) rfl (e_fld rfl T.cNet (T.aNet "wires" (by decide +kernel)) (pv 0))) (blkOk_by (N := N_due_at) (sc := defScope s_due_at) (by decide +kernel)) (fun _ _ _ _ _ => (pg_name (i := 2) sc_due_at.nd rfl (Or.inl rfl))) (fun _ _ _ _ _ => (pts_one (pt_cmpR op_eq (pe_ix ixt (pv 2) pe_int (fun _ _ => rfl)) (pv 1) (nomark _)))) (fun _ _ _ _ _ => (pv 2))) pa_nil)) (pe_callB c_lenL (by rfl) (T.fr "len") PySem.boot_len (pa_cons (pe_lc (own := [("wire", 2)]) (g := gName 2) (tt := _) rfl sc_due_at.nd (k_list (K := K) rfl (e_fld rfl T.cNet (T.aNet "wires" (by decide +kernel)) (pv 0))) (blkOk_by (N := N_due_at) (sc := defScope s_due_at) (by decide +kernel)) (fun _ _ _ _ _ => (pg_name (i := 2) sc_due_at.nd rfl (Or.inl rfl))) (fun _ _ _ _ _ => (pts_one (pt_cmpR op_eq (pe_ix ixt (pv 2) pe_int (fun _ _ => rfl)) (pv 1) (nomark _)))) (fun _ _ _ _ _ => (pv 2))) pa_nil))))), ?_⟩
    walk_at "lgd"
    refine lcF (src_list (SqL.of h3)) (Same.refl H) (by omega) (fun k => decide ((((N.w k).s : Nat) : Int) = (g : Nat))) (fun k => ys.getD k .non) (fun i x H' H'' hi s ⟨r1, r2⟩ Qy Qn ky kn => ?_) fun q1 H1 hq1 s1 hl1 => ?_
    · subst r1
      obtain ⟨p1, p2, zs, w1, w2, w3, w4⟩ := W.2 i (by omega)
      rw [r2] at w1
      cases Option.some.inj w1
      have ey : ys.getD i .non = .ref p1 := by
        rw [List.getD_eq_getElem?_getD, r2]
        rfl
      walk_at "lgd"
      by_cases c : (((N.w i).s : Nat) : Int) = (g : Nat)
      · walk_at "lgd"
        have := ky (decide_eq_true c) _ (Same.refl _)
        rw [ey] at this
        exact this
      · walk_at "lgd"
        exact kn (decide_eq_false c) _ (Same.refl _)
    walk_at "lgd"
    refine lcF (src_list (SqL.of h3)) s1 (by omega) (fun k => decide ((((N.w k).e : Nat) : Int) = (g : Nat))) (fun k => ys.getD k .non) (fun i x H' H'' hi s ⟨r1, r2⟩ Qy Qn ky kn => ?_) fun q2 H2 hq2 s2 hl2 => ?_
    · subst r1
      obtain ⟨p1, p2, zs, w1, w2, w3, w4⟩ := W.2 i (by omega)
      rw [r2] at w1
      cases Option.some.inj w1
      have ey : ys.getD i .non = .ref p1 := by
        rw [List.getD_eq_getElem?_getD, r2]
        rfl
      walk_at "lgd"
      by_cases c : (((N.w i).e : Nat) : Int) = (g : Nat)
      · walk_at "lgd"
        have := ky (decide_eq_true c) _ (Same.refl _)
        rw [ey] at this
        exact this
      · walk_at "lgd"
        exact kn (decide_eq_false c) _ (Same.refl _)
    walk_at "lgd"
    refine w_in' ?_ (k _ (s1.trans s2))
    rw [List.length_map, List.length_map, W1]
    unfold dueN
    rw [sm_sub, ← filter_ind (fun w => w.s) g ⟨0, 0, 0⟩, ← filter_ind (fun w => w.e) g ⟨0, 0, 0⟩]
    rfl
abbrev N_told_at : List Str := ["net", "entries", "gate", "found", "piece", "many"]
theorem sc_told_at : FnScope N_told_at (["net", "entries", "gate"] : List Str) (defScope s_told_at) := ⟨rfl, rfl, rfl, by decide +kernel, rfl, by decide +kernel, by decide +kernel⟩

def toldN (N : Nt) (es : List En) (g : Nat) : Int := sm es (fun x => x.2 * (ind g x.1.1 - ind g (endOf N x.1.1 x.1.2)))
def sp_told_at (K : PySem.W.Frag) : Sp := fun vs H Q _ => ∃ (v : V) (q : Addr) (g : Nat) (N : Nt) (xs : List V) (es : List En), vs = [v, .ref q, .int (g : Nat)] ∧ NetV K H v N ∧ N.Ok ∧ H q = some (.lst xs) ∧ EntsV H xs es ∧ EnOk N es ∧ ∀ H', Same H H' → Q (.int (toldN N es g)) H'
theorem ok_told_at (T : Tx K mg) : CalG P w K mg base CX0 3 "told_at" ["net", "entries", "gate"] (sp_told_at K) :=
  calG T 29 rfl "told_at" rfl (by decide +kernel) sc_told_at (fun _ _ _ _ _ _ us hl => match us, hl with | [_, _, _], _ => rfl) (fun vs H Q E ⟨_, _, _, _, _, _, e, _⟩ => by rw [e]; rfl) fun cdv f A outer s H vs Q E hr ⟨v, q, g, N, xs, es, e, hN, O, hq, hE, eo, k⟩ => by
    subst e
    have len := al_len hE
    refine ⟨_, (pss_cons (ps_set (i := 3) sc_told_at.nd rfl (Or.inl rfl) pe_int)
    (pss_cons (ps_for PassesOwn.never rfl (k_list (K := K) rfl (pv 1)) (g_tup (n := 2) (.inl rfl) (pgs_cons (pg_name (i := 4) sc_told_at.nd rfl (Or.inl rfl)) (pgs_cons (pg_name (i := 5) sc_told_at.nd rfl (Or.inl rfl)) pgs_nil))) (pss_one (ps_aug (i := 3) sc_told_at.nd rfl (Or.inl rfl) (pe_op op_sub (pe_op op_mul (pv 5) (pe_callTy call_int1 (by rfl) (T.fr "int") (by decide +kernel) (pa_cons (pe_cmpR op_eq (pe_ix ixt (pv 4) pe_int (fun _ _ => rfl)) (pv 2) (nomark _)) pa_nil))) (pe_op op_mul (pv 5) (pe_callTy call_int1 (by rfl) (T.fr "int") (by decide +kernel) (pa_cons (pe_cmpR op_eq (pe_ix ixl (pk (ok_gates_of T).g hr (by decide) (pa_cons (pv 0) (pa_cons (pv 4) pa_nil))) (pe_un un_neg pe_int) (fun _ _ => rfl)) (pv 2) (nomark _)) pa_nil)))) ip_add)))
    (pss_one (ps_ret (pv 3))))), ?_⟩
    walk_at "lgd"
    refine for_list hq (Same.refl H) (fun i σ H' => ∃ z4 z5, σ = [some v, some (.ref q), some (.int (g : Nat)), some (.int (toldN N (es.take i) g)), z4, z5]) ⟨_, _, rfl⟩ (fun i x σ H' hx s ⟨z4, z5, e⟩ => ?_) fun σ H' s ⟨z4, z5, e⟩ => ?_
    · subst e
      obtain ⟨e1, he, t, px, e2, h2, hp⟩ := al_get hE hx
      subst e2
      obtain ⟨a1, a2, a3, a4⟩ := eo.2 e1 (List.mem_of_getElem? he)
      obtain ⟨tp, lp, ep, hp1, hp2⟩ := id hp
      subst ep
      have et : es.take (i + 1) = es.take i ++ [e1] := by
        rw [List.take_succ, he]
        rfl
      walk_at "lgd"
      refine w_mul ?_ ?_
      · split <;> decide
      walk_at "lgd"
      refine ⟨_, _, N, e1.1.1, e1.1.2, rfl, hN.up s, hp.up s, O, a2, a3, fun l1 H1 s1 hf hl1 => ?_⟩
      walk_at "lgd"
      refine w_il hl1 (atLast (v := .int (endOf N e1.1.1 e1.1.2 : Nat)) ?_) ?_
      · unfold nl
        rw [List.getLast?_map, endOf_last]
        rfl
      walk_at "lgd"
      refine w_mul ?_ ?_
      · split <;> decide
      walk_at "lgd"
      have e0 : toldN N (es.take (i + 1)) g = toldN N (es.take i) g + (e1.2 * (if decide (((e1.1.1 : Nat) : Int) = (g : Nat)) = true then 1 else 0) - e1.2 * (if decide (((endOf N e1.1.1 e1.1.2 : Nat) : Int) = (g : Nat)) = true then 1 else 0)) := by
        rw [et]
        unfold toldN
        rw [sm_append, sm_cons, sm_nil, Int.mul_sub]
        have i1 : (if decide (((e1.1.1 : Nat) : Int) = (g : Nat)) = true then (1 : Int) else 0) = ind g e1.1.1 := by
          unfold ind
          by_cases c : e1.1.1 = g
          · rw [if_pos c, if_pos (decide_eq_true (by omega))]
          · rw [if_neg c, if_neg (by rw [decide_eq_false (by omega)]; exact Bool.false_ne_true)]
        have i2 : (if decide (((endOf N e1.1.1 e1.1.2 : Nat) : Int) = (g : Nat)) = true then (1 : Int) else 0) = ind g (endOf N e1.1.1 e1.1.2) := by
          unfold ind
          by_cases c : endOf N e1.1.1 e1.1.2 = g
          · rw [if_pos c, if_pos (decide_eq_true (by omega))]
          · rw [if_neg c, if_neg (by rw [decide_eq_false (by omega)]; exact Bool.false_ne_true)]
        rw [i1, i2]
        omega
      exact ⟨s.trans s1, some (.ref tp), some (.int e1.2), by rw [e0]; rfl⟩
    · subst e
      walk_at "lgd"
      rw [List.take_of_length_le (by omega)]
      exact k _ s
abbrev N_plain_fault : List Str := ["net", "thing", "gate"]
theorem sc_plain_fault : FnScope N_plain_fault (["net", "thing"] : List Str) (defScope s_plain_fault) := ⟨rfl, rfl, rfl, by decide +kernel, rfl, by decide +kernel, by decide +kernel⟩

def sp_plain_fault (K : PySem.W.Frag) : Sp := fun vs H Q _ => ∃ (v : V) (q : Addr) (N : Nt) (xs : List V) (es : List En), vs = [v, .ref q] ∧ NetV K H v N ∧ N.Ok ∧ H q = some (.lst xs) ∧ EntsV H xs es ∧ EnOk N es ∧ (∀ g, g < N.n → N.fx g = false → toldN N es g = dueN N g) ∧ ∀ H', Same H H' → Q .non H'
theorem ok_plain_fault (T : Tx K mg) : CalG P w K mg base CX0 4 "plain_fault" ["net", "thing"] (sp_plain_fault K) :=
  calG T 30 rfl "plain_fault" rfl (by decide +kernel) sc_plain_fault (fun _ _ _ _ _ _ us hl => match us, hl with | [_, _], _ => rfl) (fun vs H Q E ⟨_, _, _, _, _, e, _⟩ => by rw [e]; rfl) fun cdv f A outer s H vs Q E hr ⟨v, q, N, xs, es, e, hN, O, hq, hE, eo, td, k⟩ => by
    subst e
    obtain ⟨na, dx, pg, pw0, xg, ys, ev, h1, h2, h3, G, W⟩ := id hN
    subst ev
    have n7 := O.n7
    have G1 := G.1
    refine ⟨_, (pss_cons (ps_if (pt_not (pt_val (pk (ok_are_entries T) hr (by decide) (pa_cons (pv 0) (pa_cons (pv 1) pa_nil))))) (pss_one (ps_ret (pe_tup (pa_cons pe_str pa_nil)))) pss_nil)
    (pss_cons (ps_for PassesOwn.never rfl (pi_range1 (by rfl) (T.fr "range") (pa_cons (pe_callB c_lenL (by rfl) (T.fr "len") PySem.boot_len (pa_cons (e_fld rfl T.cNet (T.aNet "gates" (by decide +kernel)) (pv 0)) pa_nil)) pa_nil)) (pg_name (i := 2) sc_plain_fault.nd rfl (Or.inl rfl)) (pss_one (ps_if (PW.pt (pw_and (pt_not (pt_val (pk (ok_is_fixed T).g hr (by decide) (pa_cons (pv 0) (pa_cons (pv 2) pa_nil))))) (pw_and1 (pt_cmpR op_ne (pk (ok_told_at T) hr (by decide) (pa_cons (pv 0) (pa_cons (pv 1) (pa_cons (pv 2) pa_nil)))) (pk (ok_due_at T) hr (by decide) (pa_cons (pv 0) (pa_cons (pv 2) pa_nil))) (nomark _))))) (pss_one (ps_ret (pe_tup (pa_cons pe_str (pa_cons (pv 2) pa_nil))))) pss_nil)))
    (pss_one (ps_ret pe_non)))), ?_⟩
    walk_at "lgd"
    refine ⟨_, q, N, xs, es, rfl, hN, O, hq, hE, eo, fun H1 s1 => ?_⟩
    walk_at "lgd"
    refine w_rR1 (n := N.n) ?_ ?_ ?_
    · omega
    · omega
    refine for_src src_range0 s1 (fun i σ H' => ∃ z, σ = [some (.ref na), some (.ref q), z]) ⟨_, rfl⟩ (fun i x σ H' H'' hi s ⟨z, e⟩ ⟨r1, r2⟩ => ?_) fun σ H' s ⟨z, e⟩ => ?_
    · subst e r1 r2
      walk_at "lgd"
      refine ⟨_, N, i, rfl, hN.up s, hi, fun H2 s2 => ?_⟩
      replace s2 := s.trans s2
      cases c : N.fx i with
      | true =>
        walk_at "lgd"
        exact ⟨s2, _, rfl⟩
      | false =>
        walk_at "lgd"
        refine ⟨_, q, i, N, xs, es, rfl, hN.up s2, O, s2 _ _ hq, hE.up s2, eo, fun H3 s3 => ?_⟩
        replace s3 := s2.trans s3
        walk_at "lgd"
        refine ⟨_, i, N, rfl, hN.up s3, O, fun H4 s4 => ?_⟩
        replace s4 := s3.trans s4
        have e := td i hi c
        walk_at "lgd"
        exact ⟨s4, _, rfl⟩
    · subst e
      walk_at "lgd"
      exact k _ s
abbrev N_paper_fault : List Str := ["net", "beat", "thing"]
theorem sc_paper_fault : FnScope N_paper_fault (["net", "beat", "thing"] : List Str) (defScope s_paper_fault) := ⟨rfl, rfl, rfl, by decide +kernel, rfl, by decide +kernel, by decide +kernel⟩

def sp_paper_fault (K : PySem.W.Frag) : Sp := fun vs H Q _ => ∃ (v : V) (b : Int) (q : Addr) (N : Nt) (xs : List V) (es : List En), vs = [v, .int b, .ref q] ∧ 0 ≤ b ∧ NetV K H v N ∧ N.Ok ∧ H q = some (.lst xs) ∧ EntsV H xs es ∧ EnOk N es ∧ (∀ g, g < N.n → N.fx g = false → toldN N es g = dueN N g) ∧ ∀ H', Same H H' → Q .non H'
theorem ok_paper_fault (T : Tx K mg) : CalG P w K mg base CX0 5 "paper_fault" ["net", "beat", "thing"] (sp_paper_fault K) :=
  calG T 31 rfl "paper_fault" rfl (by decide +kernel) sc_paper_fault (fun _ _ _ _ _ _ us hl => match us, hl with | [_, _, _], _ => rfl) (fun vs H Q E ⟨_, _, _, _, _, _, e, _⟩ => by rw [e]; rfl) fun cdv f A outer s H vs Q E hr ⟨v, b, q, N, xs, es, e, hb, hN, O, hq, hE, eo, td, k⟩ => by
    subst e
    refine ⟨_, (pss_cons (ps_expr (pk (ok_sure_beat T).g hr (by decide) (pa_cons (pv 1) pa_nil)))
    (pss_one (ps_ret (pk (ok_plain_fault T) hr (by decide) (pa_cons (pv 0) (pa_cons (pv 2) pa_nil)))))), ?_⟩
    walk_at "lgd"
    refine ⟨b, rfl, hb, ?_⟩
    walk_at "lgd"
    exact ⟨_, q, N, xs, es, rfl, hN, O, hq, hE, eo, td, k⟩
abbrev N_bound_of : List Str := ["net", "thing", "beat", "piece", "many"]
theorem sc_bound_of : FnScope N_bound_of (["net", "thing", "beat"] : List Str) (defScope s_bound_of) := ⟨rfl, rfl, rfl, by decide +kernel, rfl, by decide +kernel, by decide +kernel⟩

def sp_bound_of (K : PySem.W.Frag) : Sp := fun vs H Q _ => ∃ (v : V) (b : Int) (q : Addr) (N : Nt) (xs : List V) (es : List En), vs = [v, .ref q, .int b] ∧ 0 ≤ b ∧ NetV K H v N ∧ N.Ok ∧ H q = some (.lst xs) ∧ EntsV H xs es ∧ EnOk N es ∧ (∀ g, g < N.n → N.fx g = false → toldN N es g = dueN N g) ∧ (∀ e ∈ es, -1 ≤ roomN N b e.1.1 e.1.2 ∧ roomN N b e.1.1 e.1.2 ≤ 21) ∧ ∀ H', Same H H' → Q (.int (regs N - sm es (fun x => x.2 * roomN N b x.1.1 x.1.2))) H'
theorem ok_bound_of (T : Tx K mg) : CalG P w K mg base CX0 5 "bound_of" ["net", "thing", "beat"] (sp_bound_of K) :=
  calG T 32 rfl "bound_of" rfl (by decide +kernel) sc_bound_of (fun _ _ _ _ _ _ us hl => match us, hl with | [_, _, _], _ => rfl) (fun vs H Q E ⟨_, _, _, _, _, _, e, _⟩ => by rw [e]; rfl) fun cdv f A outer s H vs Q E hr ⟨v, b, q, N, xs, es, e, hb, hN, O, hq, hE, eo, td, rb, k⟩ => by
    subst e
    have len := al_len hE
    have el := eo.1
    refine ⟨_, (pss_cons (ps_expr (pk (ok_sure_beat T).g hr (by decide) (pa_cons (pv 2) pa_nil)))
    (pss_cons (ps_if (pt_cmpR op_notN (pk (ok_plain_fault T) hr (by decide) (pa_cons (pv 0) (pa_cons (pv 1) pa_nil))) pe_non (nomark _)) (pss_one ps_never) pss_nil)
    (pss_one (ps_ret (pe_op op_sub (pk (ok_registers T) hr (by decide) (pa_cons (pv 0) pa_nil)) (pe_callB (c_sum (.inl rfl)) (by rfl) (T.fr "sum") (by decide +kernel) (pa_cons (pe_lc (own := [("piece", 3), ("many", 4)]) (g := gT 2 (gCons (gName 3) (gCons (gName 4) gNil))) (tt := tYes) rfl sc_bound_of.nd (k_list (K := K) rfl (pv 1)) (blkOk_by (N := N_bound_of) (sc := defScope s_bound_of) (by decide +kernel)) (fun _ _ _ _ _ => (g_tup (n := 2) (.inl rfl) (pgs_cons (pg_name (i := 3) sc_bound_of.nd rfl (Or.inl rfl)) (pgs_cons (pg_name (i := 4) sc_bound_of.nd rfl (Or.inl rfl)) pgs_nil)))) (fun _ _ _ _ _ => pts_nil) (fun _ _ _ _ _ => (pe_op op_mul (pv 4) (pk (ok_room T).g hr (by decide) (pa_cons (pv 0) (pa_cons (pv 3) (pa_cons (pv 2) pa_nil))))))) pa_nil))))))), ?_⟩
    walk_at "lgd"
    refine ⟨b, rfl, hb, ?_⟩
    walk_at "lgd"
    refine ⟨_, q, N, xs, es, rfl, hN, O, hq, hE, eo, td, fun H1 s1 => ?_⟩
    walk_at "lgd"
    refine ⟨_, N, rfl, hN.up s1, O, fun H2 s2 => ?_⟩
    replace s2 := s1.trans s2
    walk_at "lgd"
    refine lc_list hq s2 (by omega) ((es.map fun x => x.2 * roomN N b x.1.1 x.1.2).map V.int) (by rw [List.length_map, List.length_map, len]) (fun i x y H' hx hy s Qy ky => ?_) fun q3 H3 hq3 s3 hl3 => ?_
    · obtain ⟨e1, he, t, px, e2, h2, hp⟩ := al_get hE hx
      subst e2
      obtain ⟨a1, a2, a3, a4⟩ := eo.2 e1 (List.mem_of_getElem? he)
      have rr := rb e1 (List.mem_of_getElem? he)
      rw [List.getElem?_map, List.getElem?_map, he] at hy
      cases Option.some.inj hy
      walk_at "lgd"
      refine ⟨_, _, N, e1.1.1, e1.1.2, b, rfl, hN.up s, hp.up s, O, a2, a1, a3, fun H4 s4 => ?_⟩
      refine w_mul ⟨by omega, by omega⟩ ?_
      exact ky H4 s4
    · walk_at "lgd"
      exact k _ (s2.trans s3)
end

section
variable {σ : St} {H : Hp} {v : V} {p : Addr} {xs : List V} {j : Nat} {to ti te : TE} {ts : TSet} {tget : V → V → Hp → VK → Prop} {tip : TIp} {Ed : Ends}
theorem w_gS {Q : St → Hp → Prop} (h : to σ H fun o H1 => ti σ H1 fun i H2 => ts o i v H2 fun H3 => Q σ H3) : gSub to ti ts v σ H Q := h
theorem w_augS (h : to σ H fun o H1 => ti σ H1 fun i H2 => tget o i H2 fun x H3 => te σ H3 fun y H4 => tip x y H4 fun z H5 => ts o i z H5 fun H6 => Ed.nx σ H6) : tAugS to ti te tget tip ts Ed σ H := h
theorem w_setL {Q : Hp → Prop} (h : H p = some (.lst xs)) (hj : j < xs.length) (q : Q (upd H p (.lst (xs.set j v)))) : rSetL (.ref p) (.int (j : Nat)) v H Q := ⟨p, xs, (j : Nat), j, rfl, rfl, h, ixNn hj, q⟩
theorem w_GL {Q : VK} (h : H p = some (.lst xs)) (e : xs[j]? = some v) (q : Q v H) : rGL (.ref p) (.int (j : Nat)) H Q := ⟨p, xs, j, v, rfl, rfl, h, e, q⟩
end
theorem flow0_set {k n : Nat} (h : k < n) : (flow0 k n).set k 1 = flow0 (k + 1) n := by
  unfold flow0
  rw [List.set_append_right _ _ (by rw [List.length_replicate]; exact Nat.le_refl _), List.length_replicate, Nat.sub_self]
  have e : n - k = (n - (k + 1)) + 1 := by omega
  rw [e, List.replicate_succ, List.set_cons_zero, List.replicate_succ', List.append_assoc]
  rfl
theorem flow0_len {k n : Nat} (h : k ≤ n) : (flow0 k n).length = n := by
  unfold flow0
  rw [List.length_append, List.length_replicate, List.length_replicate]
  omega
def RwF (x : Nat × Int) (v : V) (D : Hp) : Prop := ∃ t, v = .ref t ∧ D t = some (.tup [.int (x.1 : Nat), .int x.2])
theorem RwF.up {D D' : Hp} (e : Same D D') {x : Nat × Int} {v : V} (h : RwF x v D) : RwF x v D' := by
  obtain ⟨t, h1, h2⟩ := h
  exact ⟨t, h1, e _ _ h2⟩
/-- the flow, but for what it carries -/
def FlV (K : PySem.W.Frag) (D : Hp) (a pc : Addr) (N : Nt) (b : Int) (rs : List (Nat × List Nat)) : Prop := ∃ (dx pp pl : Addr) (xs : List V), D a = some (.ins (He.ga K "Flow") dx [("places", .ref pp), ("lines", .ref pl), ("carried", .ref pc)]) ∧
  D pp = some (.lst ((placesN N).map V.int)) ∧ D pl = some (.lst xs) ∧ RowsQ K N b rs xs D
theorem FlV.up {K : PySem.W.Frag} {D D' : Hp} {a pc : Addr} {N : Nt} {b : Int} {rs : List (Nat × List Nat)} (e : Same D D') (h : FlV K D a pc N b rs) : FlV K D' a pc N b rs := by
  obtain ⟨dx, pp, pl, xs, h1, h2, h3, h4⟩ := h
  exact ⟨dx, pp, pl, xs, e _ _ h1, e _ _ h2, e _ _ h3, h4.up e⟩
theorem rwAt_eq {rs : List (Nat × List Nat)} {k : Nat} {r : Nat × List Nat} (h : rs[k]? = some r) : rwAt rs k = r := by
  unfold rwAt
  rw [List.getD_eq_getElem?_getD, h]
  rfl
section
variable {K : PySem.W.Frag} {mg : Str → Option Value} {P : Program} {w : World} {base : Heap}
abbrev N_Flow_init : List Str := ["self", "net", "beat", "k", "row"]
theorem sc_Flow_init : FnScope N_Flow_init (["self", "net", "beat"] : List Str) (defScope s_Flow_init) := ⟨rfl, rfl, rfl, by decide +kernel, rfl, by decide +kernel, by decide +kernel⟩

def sp_Flow_init (K : PySem.W.Frag) : Sp := fun vs H Q _ => ∃ (v : V) (b : Int) (N : Nt) (self dx : Addr) (D H0 D0 : Hp), vs = [.ref self, v, .int b] ∧ Ext D H0 D0 H ∧ H0 self = none ∧ D0 self = none ∧ H self = some (.ins (He.ga K "Flow") dx []) ∧ NetV K D v N ∧ N.Ok ∧
  ∀ (D' H' : Hp) (pc : Addr) (rs : List (Nat × List Nat)), Ext D H0 D' H' → FlV K D' self pc N b rs → RowsOk N b rs → rs.length ≤ 100 → H0 pc = none → D' pc = none → H' pc = some (.lst ((flow0 N.ws.length rs.length).map V.int)) → Q .non H'
theorem ok_Flow_init (T : Tx K mg) : CalM P w K mg base 8 "Flow" (He.ga K "Flow") ["self", "net", "beat"] (sp_Flow_init K) :=
  calM T 33 rfl "Flow" T.kFlow (T.gl "Flow") sc_Flow_init (fun _ _ _ _ _ _ us hl => match us, hl with | [_, _, _], _ => rfl) (fun vs H Q E ⟨_, _, _, _, _, _, _, _, e, _⟩ => by rw [e]; rfl) fun cdv f A outer s H vs Q E hr ⟨v, b, N, self, dx, D, H0, D0, e, X, f1, f2, hs, hN, O, k⟩ => by
    subst e
    obtain ⟨na, dxn, pg, pw0, xs, ys, ev, h1, h2, h3, G, W⟩ := id hN
    subst ev
    have W1 := W.1
    have w12 := O.ws12
    refine ⟨_, (pss_cons (s_fld rfl T.cFlow (T.aFlow "places" (by decide +kernel)) (pv 0) (pk (ok_places_of T) hr (by decide) (pa_cons (pv 1) pa_nil)))
    (pss_cons (s_fld rfl T.cFlow (T.aFlow "lines" (by decide +kernel)) (pv 0) (pk (ok_rows_for T) hr (by decide) (pa_cons (pv 1) (pa_cons (pv 2) pa_nil))))
    (pss_cons (s_fld rfl T.cFlow (T.aFlow "carried" (by decide +kernel)) (pv 0) (pe_lc (own := [("row", 4)]) (g := gName 4) (tt := tYes) rfl sc_Flow_init.nd (k_list (K := K) rfl (e_fld rfl T.cFlow (T.aFlow "lines" (by decide +kernel)) (pv 0))) (blkOk_by (N := N_Flow_init) (sc := defScope s_Flow_init) (by decide +kernel)) (fun _ _ _ _ _ => (pg_name (i := 4) sc_Flow_init.nd rfl (Or.inl rfl))) (fun _ _ _ _ _ => pts_nil) (fun _ _ _ _ _ => pe_int)))
    (pss_one (ps_for PassesOwn.never rfl (pi_range1 (by rfl) (T.fr "range") (pa_cons (pe_callB c_lenL (by rfl) (T.fr "len") PySem.boot_len (pa_cons (e_fld rfl T.cNet (T.aNet "wires" (by decide +kernel)) (pv 1)) pa_nil)) pa_nil)) (pg_name (i := 3) sc_Flow_init.nd rfl (Or.inl rfl)) (pss_one (ps_asg pe_int (pg_sub (e_fld rfl T.cFlow (T.aFlow "carried" (by decide +kernel)) (pv 0)) (pv 3) set_list)))))))), ?_⟩
    walk_at "lgd"
    refine ⟨_, N, rfl, hN.up X.dh, O, fun q1 H1 s1 e1 h1' => ?_⟩
    have hq1 : q1 ≠ self := fun z => by
      subst z
      rw [e1] at hs
      cases hs
    replace hs := s1 _ _ hs
    have X1 := X.trans (Ext.newly X.s e1 s1 h1')
    have d1 : upd D0 q1 (.lst ((placesN N).map V.int)) q1 = _ := upd_same
    have f3 : upd D0 q1 (.lst ((placesN N).map V.int)) self = none := by rw [upd_ne (Ne.symm hq1)]; exact f2
    generalize upd D0 q1 (.lst ((placesN N).map V.int)) = D1 at X1 d1 f3
    walk_at "lgd"
    replace X1 := X1.mut (o := .ins (He.ga K "Flow") dx (putF "places" (.ref q1) [])) f1 f3
    replace hs := upd_same (H := H1) (a := self) (o := .ins (He.ga K "Flow") dx (putF "places" (.ref q1) []))
    generalize upd H1 self (.ins (He.ga K "Flow") dx (putF "places" (.ref q1) [])) = H2 at X1 hs ⊢
    walk_at "lgd"
    refine ⟨_, b, N, D1, rfl, X1.s, hN.up (X1.d), O, fun v3 D3 H3 X3 ⟨q3, xs3, rs, e3, d3, rv, ro, lr⟩ => ?_⟩
    subst e3
    have f4 := X3.out hs f3
    replace hs := X3.h _ _ hs
    replace X1 := X1.trans X3
    have d13 := X3.d _ _ d1
    walk_at "lgd"
    replace X1 := X1.mut (o := .ins (He.ga K "Flow") dx (putF "lines" (.ref q3) (putF "places" (.ref q1) []))) f1 f4
    replace hs := upd_same (H := H3) (a := self) (o := .ins (He.ga K "Flow") dx (putF "lines" (.ref q3) (putF "places" (.ref q1) [])))
    generalize upd H3 self (.ins (He.ga K "Flow") dx (putF "lines" (.ref q3) (putF "places" (.ref q1) []))) = H4 at X1 hs ⊢
    have len := al_len rv
    have nwr := (rows_first ro).1
    walk_at "lgd"
    refine lc_list d3 X1.s (by omega) ((List.replicate rs.length (0 : Int)).map V.int) (by rw [List.length_map, List.length_replicate, len]) (fun i x y H' hx hy s Qy ky => ?_) fun pc H5 hpc s5 hl5 => ?_
    · have ey : y = .int 0 := by
        rw [List.getElem?_map, List.getElem?_replicate, if_pos (by have := (List.getElem?_eq_some_iff.mp hx).1; omega)] at hy
        exact (Option.some.inj hy).symm
      subst ey
      walk_at "lgd"
      exact ky _ (Same.refl _)
    have hpc0 := X1.h.free hpc
    have hpcD := X1.s.free hpc
    have nself : self ≠ pc := fun z => by
      subst z
      rw [hs] at hpc
      cases hpc
    replace hs := s5 _ _ hs
    replace X1 := X1.trans (Ext.grow X1.s s5)
    walk_at "lgd"
    have hpc6 := at_mut (o' := .ins (He.ga K "Flow") dx (putF "carried" (.ref pc) (putF "lines" (.ref q3) (putF "places" (.ref q1) [])))) (Ne.symm nself) hl5
    replace X1 := X1.mut (o := .ins (He.ga K "Flow") dx (putF "carried" (.ref pc) (putF "lines" (.ref q3) (putF "places" (.ref q1) [])))) f1 f4
    replace hs := upd_same (H := H5) (a := self) (o := .ins (He.ga K "Flow") dx (putF "carried" (.ref pc) (putF "lines" (.ref q3) (putF "places" (.ref q1) []))))
    generalize upd H5 self (.ins (He.ga K "Flow") dx (putF "carried" (.ref pc) (putF "lines" (.ref q3) (putF "places" (.ref q1) [])))) = H6 at X1 hs hpc6 ⊢
    replace X1 := X1.fix f1 f4 hs
    have d6 : upd D3 self (.ins (He.ga K "Flow") dx (putF "carried" (.ref pc) (putF "lines" (.ref q3) (putF "places" (.ref q1) [])))) self = _ := upd_same
    have d63 := same_upd (o := .ins (He.ga K "Flow") dx (putF "carried" (.ref pc) (putF "lines" (.ref q3) (putF "places" (.ref q1) [])))) f4
    have hpcD6 : upd D3 self (.ins (He.ga K "Flow") dx (putF "carried" (.ref pc) (putF "lines" (.ref q3) (putF "places" (.ref q1) [])))) pc = none := by rw [upd_ne (Ne.symm nself)]; exact hpcD
    generalize upd D3 self (.ins (He.ga K "Flow") dx (putF "carried" (.ref pc) (putF "lines" (.ref q3) (putF "places" (.ref q1) [])))) = D6 at X1 d6 d63 hpcD6
    walk_at "lgd"
    refine w_rR1 (n := N.ws.length) ?_ ?_ ?_
    · omega
    · omega
    have fl : FlV K D6 self pc N b rs := ⟨dx, q1, q3, xs3, d6, d63 _ _ d13, d63 _ _ d3, rv.up d63⟩
    refine for_src src_range0 X1.s (fun i σ H' => Ext D H0 D6 H' ∧ H' pc = some (.lst ((flow0 i rs.length).map V.int)) ∧ ∃ z3, σ = [some (.ref self), some (.ref na), some (.int b), z3, none]) ⟨X1, ?_, _, rfl⟩ (fun i x σ H' H'' hi s ⟨X, hc, z3, e⟩ ⟨r1, r2⟩ => ?_) fun σ H' s ⟨X, hc, z3, e⟩ => ?_
    · rw [hpc6]
      unfold flow0
      rfl
    · subst e r1 r2
      walk_at "lgd"
      refine w_gS ?_
      walk_at "lgd"
      refine w_setL hc (by rw [List.length_map, flow0_len (by omega)]; omega) ?_
      have e2 : ((flow0 i rs.length).map V.int).set i (.int 1) = (flow0 (i + 1) rs.length).map V.int := by
        rw [← flow0_set (by omega), List.map_set]
      rw [e2]
      exact ⟨(X.mut hpc0 hpcD6).s, X.mut hpc0 hpcD6, upd_same, _, rfl⟩
    · subst e
      exact k D6 H' pc rs X fl ro lr hpc0 hpcD6 hc
end

def LinksQ (N : Nt) (b : Int) (rs : List (Nat × List Nat)) (c : List Int) (v : V) (D : Hp) : Prop := ∃ (q : Addr) (acc : List V), v = .ref q ∧ D q = some (.lst acc) ∧ acc.length ≤ 1000 ∧ Al (fun v H L => LkV RwF H v L) D acc (flowLks N b rs c)
theorem al_app {A : Type} {R : V → Hp → A → Prop} {H : Hp} {vs ws : List V} {as bs : List A} (h : Al R H vs as) (h' : Al R H ws bs) : Al R H (vs ++ ws) (as ++ bs) := by
  induction vs generalizing as with
  | nil =>
    cases as with
    | nil => exact h'
    | cons _ _ => exact h.elim
  | cons v vs ih =>
    cases as with
    | nil => exact h.elim
    | cons a as => exact ⟨h.1, ih h.2⟩
section
variable {K : PySem.W.Frag} {mg : Str → Option Value} {P : Program} {w : World} {base : Heap}
abbrev N_Flow_links : List Str := ["self", "found", "k", "row"]
theorem sc_Flow_links : FnScope N_Flow_links (["self"] : List Str) (defScope s_Flow_links) := ⟨rfl, rfl, rfl, by decide +kernel, rfl, by decide +kernel, by decide +kernel⟩

def sp_Flow_links (K : PySem.W.Frag) : Sp := fun vs H Q _ => ∃ (b : Int) (N : Nt) (self pc : Addr) (rs : List (Nat × List Nat)) (c : List Int) (D : Hp), vs = [.ref self] ∧ Same D H ∧ FlV K D self pc N b rs ∧ rs.length ≤ 100 ∧ c.length = rs.length ∧ H pc = some (.lst (c.map V.int)) ∧ D pc = none ∧ New D H (LinksQ N b rs c) Q
theorem ok_Flow_links (T : Tx K mg) : CalT P w K mg base 1 (He.ga K "Flow") "links" ["self"] (sp_Flow_links K) :=
  calT T 34 rfl "links" T.cFlow (T.mFlow "links" (by decide +kernel)) sc_Flow_links (fun _ _ _ _ _ _ us hl => match us, hl with | [_], _ => rfl) (fun vs H Q E ⟨_, _, _, _, _, _, _, e, _⟩ => by rw [e]; rfl) fun cdv f A outer s H vs Q E hr ⟨b, N, self, pc, rs, c, D, e, sD, ⟨dx, pp, pl, xs, h1, h2, h3, rv⟩, lr, lc, hc, dc, k⟩ => by
    subst e
    have len := al_len rv
    refine ⟨_, (pss_cons (ps_set (i := 1) sc_Flow_links.nd rfl (Or.inl rfl) (pe_lst pa_nil))
    (pss_cons (ps_for PassesOwn.never rfl (k_enum (K := K) rfl (T.fr "enumerate") (pa_cons (e_fld rfl T.cFlow (T.aFlow "lines" (by decide +kernel)) (pv 0)) pa_nil)) (g_tup (n := 2) (.inl rfl) (pgs_cons (pg_name (i := 2) sc_Flow_links.nd rfl (Or.inl rfl)) (pgs_cons (pg_name (i := 3) sc_Flow_links.nd rfl (Or.inl rfl)) pgs_nil))) (pss_cons (ps_expr (pe_bm PySem.F.plainAttrs_list PySem.F.slot_list_append PySem.F.type_list_append mt_append (pv 1) (pa_cons (pe_tup (pa_cons (e_fld rfl T.cRow (T.aRow "end" (by decide +kernel)) (pv 3)) (pa_cons (e_fld rfl T.cRow (T.aRow "begin" (by decide +kernel)) (pv 3)) (pa_cons (e_fld rfl T.cRow (T.aRow "space" (by decide +kernel)) (pv 3)) (pa_cons (pe_tup (pa_cons (pv 2) (pa_cons pe_int pa_nil))) pa_nil))))) pa_nil)))
    (pss_one (ps_if (pt_cmpR op_gt (pe_ix ixl (e_fld rfl T.cFlow (T.aFlow "carried" (by decide +kernel)) (pv 0)) (pv 2) (fun _ _ => rfl)) pe_int (nomark _)) (pss_one (ps_expr (pe_bm PySem.F.plainAttrs_list PySem.F.slot_list_append PySem.F.type_list_append mt_append (pv 1) (pa_cons (pe_tup (pa_cons (e_fld rfl T.cRow (T.aRow "begin" (by decide +kernel)) (pv 3)) (pa_cons (e_fld rfl T.cRow (T.aRow "end" (by decide +kernel)) (pv 3)) (pa_cons (pe_op op_sub pe_int (e_fld rfl T.cRow (T.aRow "space" (by decide +kernel)) (pv 3))) (pa_cons (pe_tup (pa_cons (pv 2) (pa_cons (pe_un un_neg pe_int) pa_nil))) pa_nil))))) pa_nil)))) pss_nil))))
    (pss_one (ps_ret (pv 1))))), ?_⟩
    walk_at "lgd"
    intro q hq
    have X1 := Ext.hide (o := .lst []) sD hq
    have dq := sD.free hq
    have hq1 := upd_same (H := H) (a := q) (o := .lst [])
    generalize upd H q (.lst []) = H1 at X1 hq1 ⊢
    walk_at "lgd"
    refine for_enum h3 X1.s (fun i σ Hc => ∃ D' acc, Ext D H D' Hc ∧ D' q = none ∧ Hc q = some (.lst acc) ∧ acc.length ≤ 2 * i ∧ Al (fun v H L => LkV RwF H v L) D' acc ((List.range i).flatMap (flowOne N b rs c)) ∧ ∃ z2 z3, σ = [some (.ref self), some (.ref q), z2, z3]) ⟨D, [], X1, dq, hq1, Nat.le_refl _, trivial, _, _, rfl⟩ (fun i y σ Hc t hy ht s ⟨D', acc, X, dq', hq', la, al, z2, z3, e⟩ => ?_) fun σ Hc s ⟨D', acc, X, dq', hq', la, al, z2, z3, e⟩ => ?_
    · subst e
      obtain ⟨r, hr', p, dxr, px, e3, h4, hp⟩ := al_get rv hy
      subst e3
      have hi : i < rs.length := (List.getElem?_eq_some_iff.mp hr').1
      have er := rwAt_eq hr'
      have X2 := X.trans (Ext.hide (o := .tup [V.int (i : Nat), .ref p]) X.s ht)
      have hT := upd_same (H := Hc) (a := t) (o := .tup [V.int (i : Nat), .ref p])
      have hq2 := at_upd (o' := .tup [V.int (i : Nat), .ref p]) ht hq'
      generalize upd Hc t (.tup [V.int (i : Nat), .ref p]) = H2 at X2 hT hq2 ⊢
      clear X hq'
      walk_at "lgd"
      intro t1 ht1
      have Y3 := Ext.new (o := .tup [V.int (i : Nat), .int 1]) X2.s ht1
      have X3 := X2.trans Y3
      have dq3 := Y3.out hq2 dq'
      have hq3 := at_upd (o' := .tup [V.int (i : Nat), .int 1]) ht1 hq2
      have d3 : upd D' t1 (.tup [V.int (i : Nat), .int 1]) t1 = _ := upd_same
      have y3 := Y3.d
      clear Y3
      generalize upd H2 t1 (.tup [V.int (i : Nat), .int 1]) = H3 at X3 hq3 ⊢
      generalize upd D' t1 (.tup [V.int (i : Nat), .int 1]) = D3 at X3 dq3 d3 y3 ⊢
      walk_at "lgd"
      intro t2 ht2
      have Y4 := Ext.new (o := .tup [.int (homeN N (endOf N r.1 r.2)), .int (homeN N r.1), .int (roomN N b r.1 r.2), .ref t1]) X3.s ht2
      have X4 := X3.trans Y4
      have dq4 := Y4.out hq3 dq3
      have hq4 := at_upd (o' := .tup [.int (homeN N (endOf N r.1 r.2)), .int (homeN N r.1), .int (roomN N b r.1 r.2), .ref t1]) ht2 hq3
      have d4 : upd D3 t2 (.tup [.int (homeN N (endOf N r.1 r.2)), .int (homeN N r.1), .int (roomN N b r.1 r.2), .ref t1]) t2 = _ := upd_same
      have y4 := Y4.d
      clear Y4
      generalize upd H3 t2 (.tup [.int (homeN N (endOf N r.1 r.2)), .int (homeN N r.1), .int (roomN N b r.1 r.2), .ref t1]) = H4 at X4 hq4 ⊢
      generalize upd D3 t2 (.tup [.int (homeN N (endOf N r.1 r.2)), .int (homeN N r.1), .int (roomN N b r.1 r.2), .ref t1]) = D4 at X4 dq4 d4 y4 ⊢
      walk_at "lgd"
      refine w_app hq4 (by omega) ?_
      have X5 := X4.mut (o := .lst (acc ++ [.ref t2])) hq dq4
      have hq5 := upd_same (H := H4) (a := q) (o := .lst (acc ++ [.ref t2]))
      generalize upd H4 q (.lst (acc ++ [.ref t2])) = H5 at X5 hq5 ⊢
      have hc5 := X5.h _ _ hc
      have gc : (c.map V.int)[i]? = some (.int (c.getD i 0)) := by
        rw [List.getElem?_map, List.getD_eq_getElem?_getD, List.getElem?_eq_getElem (by omega)]
        rfl
      have al5 := al_snoc (al_mono (fun v a z => LkV.up (fun _ _ u => RwF.up (y3.trans y4) u) (y3.trans y4) z) al) (a := (⟨homeN N (endOf N (rwAt rs i).1 (rwAt rs i).2), homeN N (rwAt rs i).1, roomR N b (rwAt rs i), (i, 1)⟩ : Lk (Nat × Int))) (v := .ref t2) ⟨t2, .ref t1, rfl, by rw [er]; exact d4, t1, rfl, y4 _ _ d3⟩
      walk_at "lgd"
      by_cases c0 : 0 < c.getD i 0
      · have ef : (List.range (i + 1)).flatMap (flowOne N b rs c) = (List.range i).flatMap (flowOne N b rs c) ++ [⟨homeN N (endOf N (rwAt rs i).1 (rwAt rs i).2), homeN N (rwAt rs i).1, roomR N b (rwAt rs i), (i, 1)⟩] ++ [⟨homeN N (rwAt rs i).1, homeN N (endOf N (rwAt rs i).1 (rwAt rs i).2), 0 - roomR N b (rwAt rs i), (i, -1)⟩] := by
          rw [List.range_succ, List.flatMap_append, List.append_assoc]
          congr 1
          show flowOne N b rs c i ++ [] = _
          rw [List.append_nil]
          unfold flowOne
          rw [if_pos c0]
          rfl
        walk_at "lgd"
        intro t6 ht6
        have Y6 := Ext.new (o := .tup [V.int (i : Nat), .int (-1)]) X5.s ht6
        have X6 := X5.trans Y6
        have dq6 := Y6.out hq5 dq4
        have hq6 := at_upd (o' := .tup [V.int (i : Nat), .int (-1)]) ht6 hq5
        have d6 : upd D4 t6 (.tup [V.int (i : Nat), .int (-1)]) t6 = _ := upd_same
        have y6 := Y6.d
        clear Y6
        generalize upd H5 t6 (.tup [V.int (i : Nat), .int (-1)]) = H6 at X6 hq6 ⊢
        generalize upd D4 t6 (.tup [V.int (i : Nat), .int (-1)]) = D6 at X6 dq6 d6 y6 ⊢
        walk_at "lgd"
        intro t7 ht7
        have Y7 := Ext.new (o := .tup [.int (homeN N r.1), .int (homeN N (endOf N r.1 r.2)), .int (0 - roomN N b r.1 r.2), .ref t6]) X6.s ht7
        have X7 := X6.trans Y7
        have dq7 := Y7.out hq6 dq6
        have hq7 := at_upd (o' := .tup [.int (homeN N r.1), .int (homeN N (endOf N r.1 r.2)), .int (0 - roomN N b r.1 r.2), .ref t6]) ht7 hq6
        have d7 : upd D6 t7 (.tup [.int (homeN N r.1), .int (homeN N (endOf N r.1 r.2)), .int (0 - roomN N b r.1 r.2), .ref t6]) t7 = _ := upd_same
        have y7 := Y7.d
        clear Y7
        generalize upd H6 t7 (.tup [.int (homeN N r.1), .int (homeN N (endOf N r.1 r.2)), .int (0 - roomN N b r.1 r.2), .ref t6]) = H7 at X7 hq7 ⊢
        generalize upd D6 t7 (.tup [.int (homeN N r.1), .int (homeN N (endOf N r.1 r.2)), .int (0 - roomN N b r.1 r.2), .ref t6]) = D7 at X7 dq7 d7 y7 ⊢
        walk_at "lgd"
        refine w_app hq7 (by rw [List.length_append, List.length_singleton]; omega) ?_
        have X8 := X7.mut (o := .lst (acc ++ [.ref t2] ++ [.ref t7])) hq dq7
        walk_at "lgd"
        refine ⟨X8.dh, D7, _, X8, dq7, upd_same, ?_, ?_, _, _, rfl⟩
        · rw [List.length_append, List.length_append, List.length_singleton, List.length_singleton]
          omega
        · rw [ef]
          refine al_snoc (al_mono (fun v a z => LkV.up (fun _ _ u => RwF.up (y6.trans y7) u) (y6.trans y7) z) al5) ⟨t7, .ref t6, rfl, by rw [er]; exact d7, t6, rfl, y7 _ _ d6⟩
      · have ef : (List.range (i + 1)).flatMap (flowOne N b rs c) = (List.range i).flatMap (flowOne N b rs c) ++ [⟨homeN N (endOf N (rwAt rs i).1 (rwAt rs i).2), homeN N (rwAt rs i).1, roomR N b (rwAt rs i), (i, 1)⟩] := by
          rw [List.range_succ, List.flatMap_append]
          congr 1
          show flowOne N b rs c i ++ [] = _
          rw [List.append_nil]
          unfold flowOne
          rw [if_neg c0]
        walk_at "lgd"
        refine ⟨X5.dh, D4, _, X5, dq4, hq5, ?_, ?_, _, _, rfl⟩
        · rw [List.length_append, List.length_singleton]
          omega
        · rw [ef]
          exact al5
    · subst e
      walk_at "lgd"
      refine k _ _ _ (X.fix hq dq' hq') ⟨q, acc, rfl, upd_same, by omega, ?_⟩
      rw [len] at al
      exact al_mono (fun v a z => LkV.up (fun _ _ u => RwF.up (same_upd dq') u) (same_upd dq') z) al
end

theorem flow_lks_len {N : Nt} {b : Int} {rs : List (Nat × List Nat)} {c : List Int} {acc : List V} {D : Hp} (h : Al (fun v H L => LkV RwF H v L) D acc (flowLks N b rs c)) (l : acc.length ≤ 1000) : acc.length ≤ 1000 := l
section
variable {K : PySem.W.Frag} {mg : Str → Option Value} {P : Program} {w : World} {base : Heap}
abbrev N_Flow_sums : List Str := ["self"]
theorem sc_Flow_sums : FnScope N_Flow_sums (["self"] : List Str) (defScope s_Flow_sums) := ⟨rfl, rfl, rfl, by decide +kernel, rfl, by decide +kernel, by decide +kernel⟩

def SumsQ (N : Nt) (b : Int) (rs : List (Nat × List Nat)) (c : List Int) (v : V) (D : Hp) : Prop := ∃ (ds : Addr) (ks : List (Key × V)), v = .ref ds ∧ D ds = some (.dK ks) ∧ DK (fun x => x ∈ placesN N) ks (fsum (placesN N) (settledM (placesN N).length (flowLks N b rs c)).f) RI
def sp_Flow_sums (K : PySem.W.Frag) : Sp := fun vs H Q _ => ∃ (b : Int) (N : Nt) (self pc : Addr) (rs : List (Nat × List Nat)) (c : List Int) (D : Hp), vs = [.ref self] ∧ Same D H ∧ FlV K D self pc N b rs ∧ N.Ok ∧ RowsOk N b rs ∧ rs.length ≤ 100 ∧ c.length = rs.length ∧ H pc = some (.lst (c.map V.int)) ∧ D pc = none ∧ New D H (SumsQ N b rs c) Q
theorem ok_Flow_sums (T : Tx K mg) : CalT P w K mg base 2 (He.ga K "Flow") "sums" ["self"] (sp_Flow_sums K) :=
  calT T 36 rfl "sums" T.cFlow (T.mFlow "sums" (by decide +kernel)) sc_Flow_sums (fun _ _ _ _ _ _ us hl => match us, hl with | [_], _ => rfl) (fun vs H Q E ⟨_, _, _, _, _, _, _, e, _⟩ => by rw [e]; rfl) fun cdv f A outer s H vs Q E hr ⟨b, N, self, pc, rs, c, D, e, sD, fl, O, ro, lr, lc, hc, dc, k⟩ => by
    subst e
    obtain ⟨dx, pp, pl, xs, h1, h2, h3, rv⟩ := id fl
    have pl8 := places_le O
    refine ⟨_, (pss_one (ps_ret (pe_ix ixt (pk (ok_settled T) hr (by decide) (pa_cons (e_fld rfl T.cFlow (T.aFlow "places" (by decide +kernel)) (pv 0)) (pa_cons (pmt0 (ok_Flow_links T) hr (by decide) (pv 0)) pa_nil))) pe_int (fun _ _ => rfl)))), ?_⟩
    walk_at "lgd"
    refine ⟨b, N, self, pc, rs, c, D, rfl, sD, fl, lr, lc, hc, dc, fun v1 D1 H1 X1 ⟨q, acc, e1, d1, la, al⟩ => ?_⟩
    subst e1
    walk_at "lgd"
    refine ⟨pp, q, placesN N, acc, _, RwF, flowLks N b rs c, D1, rfl, X1.s, X1.d _ _ h2, by omega, d1, la, al, flow_in O ro, fun v5 D5 H5 X5 ⟨t, ds, dl, ks, kl, e5, ht, hds, hdl, kds, kdl⟩ => ?_⟩
    subst e5
    have X6 := X1.trans X5
    walk_at "lgd"
    exact k _ _ _ X6 ⟨ds, ks, rfl, hds, kds⟩
abbrev N_Flow_better : List Str := ["self", "sums", "last", "falling", "ring", "many", "k", "sign"]
theorem sc_Flow_better : FnScope N_Flow_better (["self"] : List Str) (defScope s_Flow_better) := ⟨rfl, rfl, rfl, by decide +kernel, rfl, by decide +kernel, by decide +kernel⟩

def sp_Flow_better (K : PySem.W.Frag) : Sp := fun vs H Q _ => ∃ (b : Int) (N : Nt) (self pc : Addr) (rs : List (Nat × List Nat)) (c : List Int) (l0 : Nat → Int) (D0 H0 D : Hp), vs = [.ref self] ∧ Ext D0 H0 D H ∧ H0 pc = none ∧ FlV K D self pc N b rs ∧ N.Ok ∧ RowsOk N b rs ∧ rs.length ≤ 100 ∧ FlowOk N rs c ∧ Feas N b l0 ∧ H pc = some (.lst (c.map V.int)) ∧ D pc = none ∧
  (∀ D' H', Ext D0 H0 D' H' → Same D D' → D' pc = none → H' pc = some (.lst (c.map V.int)) → (settledM (placesN N).length (flowLks N b rs c)).fall = none → Q (.bl false) H') ∧
  (∀ D' H' c', Ext D0 H0 D' H' → Same D D' → D' pc = none → H' pc = some (.lst (c'.map V.int)) → FlowOk N rs c' → Wt c' (fun k => roomR N b (rwAt rs k)) < Wt c (fun k => roomR N b (rwAt rs k)) → Q (.bl true) H')
theorem ok_Flow_better (T : Tx K mg) : CalT P w K mg base 2 (He.ga K "Flow") "better" ["self"] (sp_Flow_better K) :=
  calT T 35 rfl "better" T.cFlow (T.mFlow "better" (by decide +kernel)) sc_Flow_better (fun _ _ _ _ _ _ us hl => match us, hl with | [_], _ => rfl) (fun vs H Q E ⟨_, _, _, _, _, _, _, _, _, _, e, _⟩ => by rw [e]; rfl) fun cdv f A outer s H vs Q E hr ⟨b, N, self, pc, rs, c, l0, D0, H0, D, e, X, f1, fl, O, ro, lr, C, F, hc, dc, k1, k2⟩ => by
    subst e
    obtain ⟨dx, pp, pl, xs, h1, h2, h3, rv⟩ := id fl
    have pl8 := places_le O
    have lc := C.len
    refine ⟨_, (pss_cons (ps_asg (pk (ok_settled T) hr (by decide) (pa_cons (e_fld rfl T.cFlow (T.aFlow "places" (by decide +kernel)) (pv 0)) (pa_cons (pmt0 (ok_Flow_links T) hr (by decide) (pv 0)) pa_nil))) (g_tup (n := 3) (.inl rfl) (pgs_cons (pg_name (i := 1) sc_Flow_better.nd rfl (Or.inl rfl)) (pgs_cons (pg_name (i := 2) sc_Flow_better.nd rfl (Or.inl rfl)) (pgs_cons (pg_name (i := 3) sc_Flow_better.nd rfl (Or.inl rfl)) pgs_nil)))))
    (pss_cons (ps_if (pt_cmpR op_isN (pv 3) pe_non (nomark _)) (pss_one (ps_ret pe_bl)) pss_nil)
    (pss_cons (ps_set (i := 4) sc_Flow_better.nd rfl (Or.inl rfl) (pk (ok_ring_by T) hr (by decide) (pa_cons (pv 2) (pa_cons (pv 3) (pa_cons (pe_op op_add (pe_callB c_lenL (by rfl) (T.fr "len") PySem.boot_len (pa_cons (e_fld rfl T.cFlow (T.aFlow "places" (by decide +kernel)) (pv 0)) pa_nil)) pe_int) pa_nil)))))
    (pss_cons (ps_set (i := 5) sc_Flow_better.nd rfl (Or.inl rfl) (pe_callB (c_min rfl) (by rfl) (T.fr "min") (by decide +kernel) (pa_cons (pe_lc (own := [("k", 6), ("sign", 7)]) (g := gT 2 (gCons (gName 6) (gCons (gName 7) gNil))) (tt := _) rfl sc_Flow_better.nd (k_list (K := K) rfl (pv 4)) (blkOk_by (N := N_Flow_better) (sc := defScope s_Flow_better) (by decide +kernel)) (fun _ _ _ _ _ => (g_tup (n := 2) (.inl rfl) (pgs_cons (pg_name (i := 6) sc_Flow_better.nd rfl (Or.inl rfl)) (pgs_cons (pg_name (i := 7) sc_Flow_better.nd rfl (Or.inl rfl)) pgs_nil)))) (fun _ _ _ _ _ => (pts_one (pt_cmpR op_lt (pv 7) pe_int (nomark _)))) (fun _ _ _ _ _ => (pe_ix ixl (e_fld rfl T.cFlow (T.aFlow "carried" (by decide +kernel)) (pv 0)) (pv 6) (fun _ _ => rfl)))) pa_nil)))
    (pss_cons (ps_for PassesOwn.never rfl (k_list (K := K) rfl (pv 4)) (g_tup (n := 2) (.inl rfl) (pgs_cons (pg_name (i := 6) sc_Flow_better.nd rfl (Or.inl rfl)) (pgs_cons (pg_name (i := 7) sc_Flow_better.nd rfl (Or.inl rfl)) pgs_nil))) (pss_one (ps_augS (e_fld rfl T.cFlow (T.aFlow "carried" (by decide +kernel)) (pv 0)) (pv 6) get_list (pe_op op_mul (pv 7) (pv 5)) ip_add set_list)))
    (pss_one (ps_ret pe_bl))))))), ?_⟩
    walk_at "lgd"
    refine ⟨b, N, self, pc, rs, c, D, rfl, X.s, fl, lr, lc, hc, dc, fun v1 D1 H1 X1 ⟨q, acc, e1, d1, la, al⟩ => ?_⟩
    subst e1
    walk_at "lgd"
    refine ⟨pp, q, placesN N, acc, _, RwF, flowLks N b rs c, D1, rfl, X1.s, X1.d _ _ h2, by omega, d1, la, al, flow_in O ro, fun v5 D5 H5 X5 ⟨t, ds, dl, ks, kl, e5, ht, hds, hdl, kds, kdl⟩ => ?_⟩
    subst e5
    have X15 := X1.trans X5
    have X6 := X.trans X15
    have dc6 := X15.out hc dc
    have hc6 := X15.h _ _ hc
    have sD := X15.d
    have h16 := sD _ _ h1
    have h26 := sD _ _ h2
    walk_at "lgd"
    cases c0 : (settledM (placesN N).length (flowLks N b rs c)).fall with
    | none =>
      walk_at "lgd"
      exact k1 _ _ X6 sD dc6 hc6 c0
    | some p =>
      obtain ⟨g1, g2, rl, r1, r2, r3, r4, r5⟩ := settled_ring (Nat.le_refl _) (flow_in O ro) c0
      have hgl : rl.length ≤ 8 := by
        have := nodup_leG (rl.map (·.g)) (placesN N) r5 fun x hx => by
          obtain ⟨L, hL, rfl⟩ := List.mem_map.mp hx
          exact (flow_in O ro L (r3 L hL).2).2
        rw [List.length_map] at this
        omega
      walk_at "lgd"
      refine ⟨dl, kl, p, (placesN N).length + 1, _, RwF, _, _, D1, rl, ?_, X5.s _ _ hdl, X5.dh, kdl, by omega, g1, r1, r2, fun L hL => (r3 L hL).1, r5, by omega, fun q7 H7 ws s7 f7 h7 al7 => ?_⟩
      · rw [List.length_map]
        rfl
      have hm : ∀ L ∈ rl, L ∈ flowLks N b rs c := fun L hL => (r3 L hL).2
      have X7 := X6.trans (Ext.newly X6.s f7 s7 h7)
      have sD7 : Same D5 (upd D5 q7 (.lst ws)) := same_upd (X6.s.free f7)
      have d7 : upd D5 q7 (.lst ws) q7 = _ := upd_same
      have hc7 := s7 _ _ hc6
      have dc7 : upd D5 q7 (.lst ws) pc = none := by
        rw [upd_ne fun z => ?_]
        · exact dc6
        · subst z
          rw [f7] at hc6
          cases hc6
      generalize upd D5 q7 (.lst ws) = D7 at X7 sD7 d7 dc7
      have sDD7 := sD.trans sD7
      have al8 : Al (fun v H (L : Lk (Nat × Int)) => RwF L.w v H) D7 ws rl := al_mono (fun v a z => RwF.up (X5.d.trans sD7) z) al7
      have lw := al_len al8
      have h17 := sD7 _ _ h16
      walk_at "lgd"
      refine lcF (src_list (SqL.of h7)) (Same.refl H7) (by omega) (fun i => decide ((rl.getD i ⟨0, 0, 0, (0, 0)⟩).w.2 < 0)) (fun i => .int (c.getD (rl.getD i ⟨0, 0, 0, (0, 0)⟩).w.1 0)) (fun i x H' H'' hi s ⟨e1, e2⟩ Qy Qn ky kn => ?_) fun q8 H8 hq8 s8 hl8 => ?_
      · subst e1
        obtain ⟨L, hL, tw, ew, hw⟩ := al_get al8 e2
        subst ew
        have eL : rl.getD i ⟨0, 0, 0, (0, 0)⟩ = L := by
          rw [List.getD_eq_getElem?_getD, hL]
          rfl
        rw [eL] at ky kn
        have hc8 := s _ _ hc7
        have sDs := X7.s.trans s
        have lk : L.w.1 < c.length := by
          rw [lc]
          exact (flow_mem (hm L (List.mem_of_getElem? hL))).1
        have gc : (c.map V.int)[L.w.1]? = some (.int (c.getD L.w.1 0)) := by
          rw [List.getElem?_map, List.getD_eq_getElem?_getD, List.getElem?_eq_getElem lk]
          rfl
        by_cases cc : L.w.2 < 0
        · walk_at "lgd"
          exact ky (decide_eq_true cc) _ (Same.refl _)
        · walk_at "lgd"
          exact kn (decide_eq_false cc) _ (Same.refl _)
      · have X8 := X7.trans (Ext.grow X7.s s8)
        have hc8 := s8 _ _ hc7
        have gL : ∀ i L, rl[i]? = some L → rl.getD i ⟨0, 0, 0, (0, 0)⟩ = L := fun i L h => by
          rw [List.getD_eq_getElem?_getD, h]
          rfl
        have hl9 : H8 q8 = some (.lst ((((List.range ws.length).filter (fun i => decide ((rl.getD i ⟨0, 0, 0, (0, 0)⟩).w.2 < 0))).map fun i => c.getD (rl.getD i ⟨0, 0, 0, (0, 0)⟩).w.1 0).map V.int)) := by
          rw [hl8, List.map_map]
          rfl
        have mem : ∀ y, y ∈ (((List.range ws.length).filter (fun i => decide ((rl.getD i ⟨0, 0, 0, (0, 0)⟩).w.2 < 0))).map fun i => c.getD (rl.getD i ⟨0, 0, 0, (0, 0)⟩).w.1 0) ↔ ∃ L ∈ rl, L.w.2 < 0 ∧ y = c.getD L.w.1 0 := fun y => by
          constructor
          · intro h
            obtain ⟨i, hi, rfl⟩ := List.mem_map.mp h
            obtain ⟨h1, h2⟩ := List.mem_filter.mp hi
            have h1 := List.mem_range.mp h1
            have eL := gL i _ (List.getElem?_eq_getElem (show i < rl.length by omega))
            rw [eL] at h2 ⊢
            exact ⟨_, List.getElem_mem _, of_decide_eq_true h2, rfl⟩
          · rintro ⟨L, hL, h1, rfl⟩
            obtain ⟨i, hi⟩ := List.mem_iff_getElem?.mp hL
            have li : i < rl.length := (List.getElem?_eq_some_iff.mp hi).1
            refine List.mem_map.mpr ⟨i, List.mem_filter.mpr ⟨List.mem_range.mpr (by omega), ?_⟩, ?_⟩
            · rw [gL i L hi]
              exact decide_eq_true h1
            · rw [gL i L hi]
        have r4' : sm rl (fun L => L.m) < 0 := by rw [← sum_m]; exact r4
        obtain ⟨L0, hL0, n0⟩ := ring_neg O ro F r2 hm r4'
        walk_at "lgd"
        refine ⟨q8, _, rfl, hl9, List.length_pos_of_mem ((mem _).mpr ⟨L0, hL0, n0, rfl⟩), fun many hmem hmin => ?_⟩
        have ft := flow_turn O ro F C r2 hm r4' r5 ((mem many).mp hmem) fun L hL hn => hmin _ ((mem _).mpr ⟨L, hL, hn, rfl⟩)
        walk_at "lgd"
        have hq7 := s8 _ _ h7
        walk_at "lgd"
        refine for_list d7 X8.s (fun i σ H' => Ext D0 H0 D7 H' ∧ H' pc = some (.lst ((((rl.take i).map (·.w)).foldl (aug many) c).map V.int)) ∧ ∃ z6 z7, σ = [some (.ref self), some (.ref ds), some (.ref dl), some (.int p), some (.ref q7), some (.int many), z6, z7]) ⟨X8, hc8, _, _, rfl⟩ (fun i x σ H' hx s ⟨X, hcx, z6, z7, e⟩ => ?_) fun σ H' s ⟨X, hcx, z6, z7, e⟩ => ?_
        · subst e
          obtain ⟨L, hL, tw, ew, hw⟩ := al_get al8 hx
          subst ew
          have hLm := hm L (List.mem_of_getElem? hL)
          have lk : L.w.1 < c.length := by
            rw [lc]
            exact (flow_mem hLm).1
          have sgn : L.w.2 = 1 ∨ L.w.2 = -1 := by
            rcases (flow_mem hLm).2 with ⟨h, _⟩ | ⟨h, _⟩
            · exact .inl h
            · exact .inr h
          have la : (((rl.take i).map (·.w)).foldl (aug many) c).length = c.length := aug_len _ _
          have ga : ((((rl.take i).map (·.w)).foldl (aug many) c).map V.int)[L.w.1]? = some (.int ((((rl.take i).map (·.w)).foldl (aug many) c).getD L.w.1 0)) := by
            rw [List.getElem?_map, List.getD_eq_getElem?_getD, List.getElem?_eq_getElem (by omega)]
            rfl
          walk_at "lgd"
          refine w_augS ?_
          walk_at "lgd"
          refine w_GL hcx ga ?_
          walk_at "lgd"
          refine w_iC (c := CMul) (.inl (by omega)) ?_
          walk_at "lgd"
          refine w_setL hcx (by rw [List.length_map]; omega) ?_
          have et : (rl.take (i + 1)) = rl.take i ++ [L] := by
            rw [List.take_succ, hL]
            rfl
          have e2 : ((((rl.take i).map (·.w)).foldl (aug many) c).map V.int).set L.w.1 (.int ((((rl.take i).map (·.w)).foldl (aug many) c).getD L.w.1 0 + L.w.2 * many)) = (((rl.take (i + 1)).map (·.w)).foldl (aug many) c).map V.int := by
            rw [et, List.map_append, List.foldl_append, ← List.map_set]
            rfl
          rw [e2]
          exact ⟨(X.mut f1 dc7).s, X.mut f1 dc7, upd_same, _, _, rfl⟩
        · subst e
          rw [List.take_of_length_le (by omega)] at hcx
          walk_at "lgd"
          exact k2 _ _ _ X sDD7 dc7 hcx ft.1 ft.2
end
section
variable {X : Cx} {e : Expr} {es : List Expr} {ta : TA} {CL : Addr} {p1 p2 pos : Pos}
/-- LagError.__init__(self, ..) -/
theorem pe_linit {pl : Sem Bool} (hg : Gl X "LagError") (hm : X.mg "LagError" = some (.ref CL)) (r : ClX.CRead X.K CL (.type "type")) (k : PySem.W.findCls X.K (.ref CL) (.type "type") "__init__" = some (.val (.builtin "ValueError.__init__"))) (ha : PA X (e :: es) ta)
    (shape : eval (.Call (.Attribute (.Name "LagError" p1) "__init__" p2) (e :: es) [] pos) X.env = (do
      let ov ← eval (.Name "LagError" p1) X.env
      standAt p2.atName
      let (f, first) ← holding [ov] (getMethod ov "__init__" pl)
      callWith pos f first (backTo pos (starEach (e :: es) X.env)) (backToKw pos (keywordEach [] X.env))) := by rfl)
    (one : starEach (e :: es) X.env = (false, eval e X.env) :: starEach es X.env := by rfl) (rest : (backTo pos (starEach es X.env)).any (·.1) = false := by rfl) :
    PE X (.Call (.Attribute (.Name "LagError" p1) "__init__" p2) (e :: es) [] pos) (tVeI X.K ta) := by
  constructor
  intro pins s σ H Q I h
  refine PySem.W.methodCall_KW (ld_glob I hg hm ?_ (by decide)) shape
  refine PySem.W.method_cls I.kIn r.ga (PySem.W.cls_value I.kIn r.rd k rfl ?_)
  refine PyProof.Rows.callWith_method1 ?_ one rest
  refine thn (ha.run pos pins _ σ H _ (I.tok _) h) ?_
  rintro us s1 ⟨vs, H1, I1, r1, a, C, ws, rfl, hl, T, ea, q⟩
  cases r1 with
  | @cons _ u0 _ ur r0 rr =>
    have e0 : u0 = Value.ref a := r0
    subst e0
    have lu : ur.length ≤ sizeLine := by
      have := Paired.length rr
      rw [sizeLine_eq]
      omega
    exact oinit_ok T I1 ea lu fun s' J => ⟨V.non, H1, J, rfl, q⟩
end

section
variable {X : Cx} {e : Expr} {es : List Expr} {ta : TA} {x : Str} {C fI : Addr} {k : Nat} {fd : FuncData} {ps : List Str} {sp : Sp} {p pos : Pos}
/-- C(e, ..) where nothing is handled: an own exception whose context is None -/
theorem pmkN (T : OexC X.K C) (iC : PySem.W.findIn X.K (.ref C) "__init__" = some (some (.ref fI))) (tI : PySem.W.typeIn X.K (.ref fI) = some (.type "function"))
    (F : FnOk X.prog X.w X.K X.mg X.base CX0 k fI fd ps sp) (hr : Room (k + 1) X.A) (hb : Binds X.K fd ps []) (hg : Gl X x) (hm : X.mg x = some (.ref C)) (ha : PA X (e :: es) ta)
    (nodebug : (x == ("__debug__" : Str)) = false := by decide) (one : starEach (e :: es) X.env = (false, eval e X.env) :: starEach es X.env := by rfl) (rest : (backTo pos (starEach es X.env)).any (·.1) = false := by rfl) :
    L2N.PMk X (.Call (.Name x p) (e :: es) [] pos) (tMkO C sp [] ta) := by
  intro pins s σ H Q I h
  obtain ⟨_, _, _, _, bases, _, _, _, _, _, _, _, _, _, _, lkC, vC⟩ := T.cls
  apply wpAny_Call_Name_kw
  apply ld_glob I hg hm _ nodebug
  refine PySem.W.callWith_K (h₀ := X.base) I.ok.mod.kin T.kC ?_ one rest
  refine thn (ha.run pos pins s σ H _ I h) ?_
  rintro us ⟨hp, gs, dr, tk, os⟩ ⟨vs, H1, I1, rel, small, made⟩
  refine ⟨I1.kIn, ?_⟩
  change wpAny _ _ (call (.ref C) us) _ _ _
  have up1 : hp.objs.size ≤ hp.objs.size + 1 := by omega
  have free1 : H1 (hp.objs.size + 1) = none := I1.hok.fresh up1
  have spec := made (hp.objs.size + 1) free1
  rw [List.append_nil] at spec
  have old : ∀ a o, hp.get? a = some o → ((hp.push (PySem.W.kdv_tup us)).push (PySem.HandSPX.excO C hp.objs.size)).get? a = some o := fun a o q => Heap.get?_push_of_some _ (Heap.get?_push_of_some _ q)
  have new_ : ((hp.push (PySem.W.kdv_tup us)).push (PySem.HandSPX.excO C hp.objs.size)).get? (hp.objs.size + 1) = some (PySem.HandSPX.excO C hp.objs.size) := by heap_get
  have J : Inv X pins σ (upd H1 (hp.objs.size + 1) (exo (hp.objs.size + 1) C none)) ⟨(hp.push (PySem.W.kdv_tup us)).push (PySem.HandSPX.excO C hp.objs.size), gs, dr, tk, os⟩ :=
    Inv.laid (t' := tk) (o := exo (hp.objs.size + 1) C none) (h' := (hp.push (PySem.W.kdv_tup us)).push (PySem.HandSPX.excO C hp.objs.size)) I1 old up1 (exo_ok new_)
  have rel2 : Vals (V.ref (hp.objs.size + 1) :: vs) (Value.ref (hp.objs.size + 1) :: us) := Paired.cons rfl rel
  have cnt : (Value.ref (hp.objs.size + 1) :: us).length = ps.length := (rel2.length).symm.trans (F.len _ _ _ _ spec)
  have fits : us.length ≤ sizeLine := by
    have := Paired.length rel
    rw [sizeLine_eq]
    omega
  have hb2 := hb _ (Value.ref (hp.objs.size + 1) :: us) J.kIn (by rw [List.append_nil]; exact cnt)
  rw [List.append_nil] at hb2
  refine wpAny_call (PySem.HandSPX.call_own PySem.F.excBase_ValueError (fun Y => PySem.HandSPX.refsVE_contains Y bases vC) (I1.kIn _ _ lkC) (PySem.W.looks_findIn I1.kIn iC) (fun self => PySem.W.bind_fn I1.kIn self tI) fits ?_)
  refine codeAny_mono (F.run _ X.stack _ _ ⟨Value.ref (hp.objs.size + 1) :: us, []⟩ (Value.ref (hp.objs.size + 1) :: us) _ _ E0 (hr.make C us []) (J.env0.make C us []) hb2 rel2 spec) ?_
  intro r s' end_
  match r, end_ with
  | .ok (.ret u), ⟨v, H2, same_os, bare2, un2, hok2, rv, ⟨ev, d, fs, ea, ed, hd1, q2⟩⟩ =>
    subst ev
    obtain ⟨h2, g2, dr2, tk2, os2⟩ := s'
    obtain ⟨t0, G, J3, kG, gone, at_, none_⟩ := mk_end0 (d2 := dr2) (t2 := tk2) I1 up1 old un2 hok2 same_os bare2 ea ed hd1
    exact ⟨rv, _, _, _, ⟨G, g2, dr2, tk2, os2⟩, _, .ref C, some d, rfl, J3, kG, gone, at_, ⟨rfl, rfl, fun ws e => by cases e; rfl⟩, rfl, rfl, none_, rfl, bare2, raises_own T.exC T.tyC, q2⟩
  | .ok .next, z => exact z.elim
  | .ok .brk, z => exact z.elim
  | .ok .cont, z => exact z.elim
  | .error er, z => exact z.elim
end
section
variable {K : PySem.W.Frag} {mg : Str → Option Value} {P : Program} {w : World} {base : Heap}
abbrev N_NoLagsThere_init : List Str := ["self", "bar"]
theorem sc_NoLagsThere_init : FnScope N_NoLagsThere_init (["self", "bar"] : List Str) (defScope s_NoLagsThere_init) := ⟨rfl, rfl, rfl, by decide +kernel, rfl, by decide +kernel, by decide +kernel⟩
def sp_ei (K : PySem.W.Frag) : Sp := fun vs H Q _ => ∃ (a : Addr) (v : V), vs = [.ref a, v] ∧ H a = some (exo a (eC K) none) ∧ ∀ d, H d = none → d ≠ a → Q .non (upd (upd H d (exd d [("bar", v)])) a (exo a (eC K) (some d)))
theorem ok_ei (T : Tx K mg) (U : TxE K mg) : ∃ fd, FnOk P w K mg base CX0 1 (eI K) fd ["self", "bar"] (sp_ei K) ∧ Binds K fd ["self", "bar"] [] := by
  obtain ⟨fd, F⟩ := T.defs d_NoLagsThere_init (by exact List.mem_of_getElem? (i := 0) rfl)
  refine ⟨fd, F.ok sc_NoLagsThere_init (fun vs H Q E ⟨_, _, e, _⟩ => by rw [e]; rfl) fun cdv A outer s H vs Q E hr ⟨a, v, e, ha, k⟩ => ?_, FunD.bindsN F fun _ _ _ _ _ _ us hl => match us, hl with | [_, _], _ => rfl⟩
  subst e
  refine ⟨_, PSs.nox (X := cxOf CX0 P w K mg base N_NoLagsThere_init _ _ _ cdv A outer s H E) (pss_cons (ps_expr (pe_linit (by rfl) U.gL U.rd U.fc (pa_cons (pv 0) (pa_cons pe_str pa_nil)))) (pss_one (ps_ost (pv 0) (pv 1)))), ?_⟩
  refine w_seq (w_drop ?_)
  refine ⟨_, rfl, a, eC K, _, rfl, (by decide : 1 ≤ 1000), U.oex, ha, ?_⟩
  exact ⟨_, rfl, _, rfl, a, eC K, rfl, U.oex, U.no, .inl ⟨ha, fun d hd ne => k d hd ne⟩⟩
end

/-- a comprehension of the items asked for, each new -/
theorem lcGF {A : Type} {J : It} {D H : Hp} {σ : St} {Q : VK} {g : TG} {tt : TT} {te : TE} {vs : List Nat} {n : Nat} {R0 : Nat → V → Hp → Hp → Prop} (S : Src J D n R0) (e : Same D H) (small : n < 100000) (b : Nat → Bool) (f : Nat → A) (R : V → Hp → A → Prop) (mono : ∀ v a D1 D2, Same D1 D2 → R v D1 a → R v D2 a)
    (turn : ∀ (i : Nat) (x : V) (D' H' H'' : Hp), i < n → Ext D H D' H' → R0 i x H' H'' → ∀ (Qy : VK) (Qn : Hp → Prop), (b i = true → ∀ y D4 H4, Ext D' H' D4 H4 → R y D4 (f i) → Qy y H4) → (b i = false → ∀ D4 H4, Ext D' H' D4 H4 → Qn H4) → g x (wipe σ vs) H'' fun σ2 H2 => wipe σ2 vs = wipe σ vs ∧ tt σ2 H2 fun c H3 => if c = true then te σ2 H3 Qy else Qn H3)
    (fin : ∀ q acc D' H', H q = none → Ext D H D' H' → D' q = none → H' q = some (.lst acc) → Al R D' acc (((List.range n).filter b).map f) → Q (.ref q) H') : WL J g tt te vs σ H Q := by
  refine lcN S e (fun i acc D' => Al R D' acc (((List.range i).filter b).map f)) trivial small (fun i acc D' q => ?_) (fun i x acc D' H' H'' hi X r q Qy Qn ky kn => ?_) fun p acc D' H' h X hd hp q => fin p acc D' H' h X hd hp q
  · rw [al_len q, List.length_map]
    exact Nat.le_trans (List.length_filter_le _ _) (by simp)
  · refine turn i x D' H' H'' hi X r Qy Qn (fun hb y D4 H4 X4 hy => ky y D4 H4 X4 ?_) fun hb D4 H4 X4 => kn D4 H4 X4 ?_
    · rw [List.range_succ, List.filter_append, List.map_append]
      have e1 : ([i].filter b).map f = [f i] := by simp [hb]
      rw [e1]
      exact al_snoc (al_mono (fun v a z => mono v a _ _ X4.d z) q) hy
    · rw [List.range_succ, List.filter_append, List.map_append]
      have e1 : ([i].filter b).map f = [] := by simp [hb]
      rw [e1, List.append_nil]
      exact al_mono (fun v a z => mono v a _ _ X4.d z) q
theorem paper_range {rs : List (Nat × List Nat)} {c : List Int} (h : c.length = rs.length) : ((List.range rs.length).filter fun i => decide (0 < c.getD i 0)).map (fun i => (rwAt rs i, c.getD i 0)) = paperOf rs c := by
  have e : rs.zip c = (List.range rs.length).map fun i => (rwAt rs i, c.getD i 0) := by
    apply List.ext_getElem?
    intro i
    by_cases hi : i < rs.length
    · have z : (rs.zip c)[i]? = some (rs[i], c[i]'(by omega)) := List.getElem?_zip_eq_some.mpr ⟨List.getElem?_eq_getElem hi, List.getElem?_eq_getElem (by omega)⟩
      rw [rng_get hi, z]
      unfold rwAt
      rw [List.getD_eq_getElem?_getD, List.getD_eq_getElem?_getD, List.getElem?_eq_getElem hi, List.getElem?_eq_getElem (show i < c.length by omega)]
      rfl
    · rw [List.getElem?_eq_none (by rw [List.length_zip]; omega), List.getElem?_eq_none (by rw [List.length_map, List.length_range]; omega)]
  unfold paperOf
  rw [e, List.filter_map]
  rfl
/-- what fewest gives -/
structure FewN (N : Nt) (b : Int) (m : Int) (l : Nat → Int) (es : List En) : Prop where
  lag : LagOk N l
  feas : Feas N b l
  sum : m = csum N l
  en : EnOk N es
  gate : ∀ g, g < N.n → N.fx g = false → toldN N es g = dueN N g
  room : ∀ e ∈ es, -1 ≤ roomN N b e.1.1 e.1.2 ∧ roomN N b e.1.1 e.1.2 ≤ 21
  tell : m = regs N - sm es (fun x => x.2 * roomN N b x.1.1 x.1.2)
  low : ∀ l', Feas N b l' → m ≤ csum N l'
def FewQ (N : Nt) (b : Int) (v : V) (D : Hp) : Prop := ∃ (t : Addr) (m : Int) (ql qp : Addr) (l : Nat → Int) (xs : List V) (es : List En), v = .ref t ∧ D t = some (.tup [.int m, .ref ql, .ref qp]) ∧ D ql = some (.lst (LagL N l)) ∧ D qp = some (.lst xs) ∧ EntsV D xs es ∧ FewN N b m l es
theorem few_of {N : Nt} {b : Int} {rs : List (Nat × List Nat)} {c : List Int} {l0 : Nat → Int} (O : N.Ok) (ro : RowsOk N b rs) (lr : rs.length ≤ 100) (C : FlowOk N rs c) (h : (settledM (placesN N).length (flowLks N b rs c)).fall = none) :
    FewN N b (csum N (lagsN N (settledM (placesN N).length (flowLks N b rs c)).f)) (lagsN N (settledM (placesN N).length (flowLks N b rs c)).f) (paperOf rs c) := by
  obtain ⟨F, e⟩ := flow_end O ro C h
  have hm : ∀ x ∈ paperOf rs c, x.1 ∈ rs ∧ 1 ≤ x.2 := fun x hx => paper_mem hx
  have n7 := O.n7
  refine ⟨fun g hg => ⟨?_, fun hf => F.fx g hg hf⟩, F, rfl, ⟨?_, fun x hx => ?_⟩, fun g hg hf => paper_gate C hf, fun x hx => row_bounds O ro _ (hm x hx).1, ?_, fun l' F' => ?_⟩
  · have := lags_small O (flow_in O ro) (flow_m O ro) h g
    omega
  · unfold paperOf
    refine Nat.le_trans (List.length_filter_le _ _) ?_
    rw [List.length_zip]
    omega
  · obtain ⟨h1, h2⟩ := hm x hx
    obtain ⟨w1, w2, w3⟩ := ro.way _ h1
    exact ⟨w1, w2, by omega, h2⟩
  · have pr := paper_room (b := b) C
    have e2 : sm (paperOf rs c) (fun x => x.2 * roomN N b x.1.1 x.1.2) = sm (paperOf rs c) (fun x => x.2 * roomR N b x.1) := rfl
    rw [e2, pr]
    exact e
  · rw [e]
    exact flow_bound C ro F'
theorem cnt_csum {N : Nt} {l : Nat → Int} : ((List.range N.ws.length).map fun k => cnt N l k).sum = csum N l := by
  have := sm_range (⟨0, 0, 0⟩ : Wr) (fun w => (w.k : Int) + l w.e - l w.s) N.ws
  exact this
section
variable {K : PySem.W.Frag} {mg : Str → Option Value} {P : Program} {w : World} {base : Heap}
abbrev N_fewest : List Str := ["net", "beat", "word", "found", "flow", "turning", "lags", "paper", "row", "many"]
theorem sc_fewest : FnScope N_fewest (["net", "beat"] : List Str) (defScope s_fewest) := ⟨rfl, rfl, rfl, by decide +kernel, rfl, by decide +kernel, by decide +kernel⟩

def sp_fewest (K : PySem.W.Frag) : Sp := fun vs H Q _ => ∃ (v : V) (b : Int) (N : Nt) (D : Hp), vs = [v, .int b] ∧ Same D H ∧ NetV K D v N ∧ N.Ok ∧ 0 ≤ b ∧ (∃ l, Feas N b l) ∧ New D H (FewQ N b) Q
theorem ok_fewest (T : Tx K mg) : CalG P w K mg base CX0 10 "fewest" ["net", "beat"] (sp_fewest K) :=
  calG T 37 rfl "fewest" rfl (by decide +kernel) sc_fewest (fun _ _ _ _ _ _ us hl => match us, hl with | [_, _], _ => rfl) (fun vs H Q E ⟨_, _, _, _, e, _⟩ => by rw [e]; rfl) fun cdv f A outer s H vs Q E hr ⟨v, b, N, D, e, sD, hN, O, hb, ⟨l0, F0⟩, k⟩ => by
    subst e
    refine ⟨_, (pss_cons (ps_expr (pk (ok_sure_beat T).g hr (by decide) (pa_cons (pv 1) pa_nil)))
    (pss_cons (ps_asg (pk (ok_plain_for_beat T) hr (by decide) (pa_cons (pv 0) (pa_cons (pv 1) pa_nil))) (g_tup (n := 2) (.inl rfl) (pgs_cons (pg_name (i := 2) sc_fewest.nd rfl (Or.inl rfl)) (pgs_cons (pg_name (i := 3) sc_fewest.nd rfl (Or.inl rfl)) pgs_nil))))
    (pss_cons (ps_if (pt_cmpR op_eq (pv 2) pe_str (nomark _)) (pss_one ps_never) pss_nil)
    (pss_cons (ps_set (i := 4) sc_fewest.nd rfl (Or.inl rfl) (pmk (ok_Flow_init T) hr (by decide) (pa_cons (pv 0) (pa_cons (pv 1) pa_nil))))
    (pss_cons (ps_set (i := 5) sc_fewest.nd rfl (Or.inl rfl) pe_bl)
    (pss_cons (ps_while PassesOwn.never (pt_val (pv 5)) (pss_one (ps_set (i := 5) sc_fewest.nd rfl (Or.inl rfl) (pmt0 (ok_Flow_better T) hr (by decide) (pv 4)))))
    (pss_cons (ps_set (i := 6) sc_fewest.nd rfl (Or.inl rfl) (pk (ok_lags_of T) hr (by decide) (pa_cons (pv 0) (pa_cons (pmt0 (ok_Flow_sums T) hr (by decide) (pv 4)) pa_nil))))
    (pss_cons (ps_setLc (i := 7) (own := [("row", 8), ("many", 9)]) (g := gT 2 (gCons (gName 8) (gCons (gName 9) gNil))) (tt := _) rfl sc_fewest.nd rfl rfl (sw_true rfl rfl rfl (by decide +kernel)) (k_zip (K := K) rfl (T.fr "zip") (pa_cons (e_fld rfl T.cFlow (T.aFlow "lines" (by decide +kernel)) (pv 4)) (pa_cons (e_fld rfl T.cFlow (T.aFlow "carried" (by decide +kernel)) (pv 4)) pa_nil))) (blkOk_by (N := N_fewest) (sc := defScope s_fewest) (by decide +kernel)) (fun _ _ _ _ _ => (g_tup (n := 2) (.inl rfl) (pgs_cons (pg_name (i := 8) sc_fewest.nd rfl (Or.inl rfl)) (pgs_cons (pg_name (i := 9) sc_fewest.nd rfl (Or.inl rfl)) pgs_nil)))) (fun _ _ _ _ _ => (pts_one (pt_cmpR op_gt (pv 9) pe_int (nomark _)))) (fun _ _ _ _ _ => (pe_tup (pa_cons (e_fld rfl T.cRow (T.aRow "piece" (by decide +kernel)) (pv 8)) (pa_cons (pv 9) pa_nil)))))
    (pss_one (ps_ret (pe_tup (pa_cons (pe_callB (c_sum (.inl rfl)) (by rfl) (T.fr "sum") (by decide +kernel) (pa_cons (pk (ok_counts T) hr (by decide) (pa_cons (pv 0) (pa_cons (pv 6) pa_nil))) pa_nil)) (pa_cons (pv 6) (pa_cons (pv 7) pa_nil)))))))))))))), ?_⟩
    walk_at "lgd"
    refine ⟨b, rfl, hb, ?_⟩
    walk_at "lgd"
    refine ⟨v, b, N, D, rfl, sD, hN, O, fun v1 D1 H1 X1 ⟨t1, q1, e1, h1⟩ => ?_⟩
    subst e1
    rcases h1 with ⟨h1, _⟩ | ⟨_, hn, _⟩
    rotate_left
    · exact absurd F0 (hn l0)
    have ne : ¬ (Str.ofString "lags" = Str.ofString "bar") := by decide
    walk_at "lgd"
    refine w_make fun a dx ha hdx nad => ?_
    have Z1 := (Ext.refl X1.s).trans (Ext.hide (o := .own a) X1.s hdx)
    have fa : upd H1 dx (.own a) a = none := by rw [upd_ne (Ne.symm nad)]; exact ha
    have Z2 := Z1.trans (Ext.hide (o := .ins (He.ga K "Flow") dx []) Z1.s fa)
    refine ⟨v, b, N, a, dx, D1, H1, D1, rfl, Z2, ha, X1.s.free ha, upd_same, hN.up X1.d, O, fun D2 H2 pc rs X2 fl ro lr hpc dpc hc => ⟨rfl, ?_⟩⟩
    have X3 := X1.trans X2
    have hpc0 := X1.h.free hpc
    walk_at "lgd"
    refine while_ (fun m σ Hc => ∃ D' c tb, Ext D H D' Hc ∧ FlV K D' a pc N b rs ∧ D' pc = none ∧ Hc pc = some (.lst (c.map V.int)) ∧ FlowOk N rs c ∧ m = (Wt c (fun k => roomR N b (rwAt rs k)) - (sm N.ws fun w => l0 w.s - l0 w.e)).toNat + (if tb = true then 1 else 0) ∧ (tb = false → (settledM (placesN N).length (flowLks N b rs c)).fall = none) ∧
      σ = [some v, some (.int b), some (.str "lags"), some (.ref q1), some (.ref a), some (.bl tb), none, none, none, none]) _ ⟨D2, _, true, X3, fl, dpc, hc, flow0_ok ro, rfl, (fun z => by cases z), rfl⟩ ?_
    intro m σ Hc ⟨D', c, tb, X, fl', dpc', hc', C, em, hend, e⟩
    subst e
    walk_at "lgd"
    cases tb with
    | true =>
      walk_at "lgd"
      refine w_turn ?_
      obtain ⟨dx5, pp5, pl5, xs5, g1, g2, g3, g4⟩ := id fl'
      walk_at "lgd"
      refine ⟨b, N, a, pc, rs, c, l0, D, H, D', rfl, X, hpc0, fl', O, ro, lr, C, F0, hc', dpc', fun D6 H6 X6 s6 d6 h6 hf => ?_, fun D6 H6 c' X6 s6 d6 h6 C' lt => ?_⟩
      · walk_at "lgd"
        exact ⟨_, by rw [em]; exact Nat.lt_succ_self _, D6, c, false, X6, fl'.up s6, d6, h6, C, rfl, fun _ => hf, rfl⟩
      · walk_at "lgd"
        refine ⟨_, ?_, D6, c', true, X6, fl'.up s6, d6, h6, C', rfl, (fun z => by cases z), rfl⟩
        have := flow_low C' ro F0
        rw [em]
        show _ + 1 < _ + 1
        omega
    | false =>
      have hend := hend rfl
      have few := few_of (l0 := l0) O ro lr C hend
      have lc := C.len
      obtain ⟨dx5, pp5, pl5, xs5, g1, g2, g3, g4⟩ := id fl'
      have lx := al_len g4
      walk_at "lgd"
      refine ⟨b, N, a, pc, rs, c, D', rfl, X.s, fl', O, ro, lr, lc, hc', dpc', fun v7 D7 H7 X7 ⟨ds, ks, e7, d7, kd7⟩ => ?_⟩
      subst e7
      have X8 := X.trans X7
      have hc7 := X7.h _ _ hc'
      have dpc7 := X7.out hc' dpc'
      walk_at "lgd"
      refine ⟨v, ds, ks, _, _, N, rfl, hN.up X8.dh, O, X7.s _ _ d7, kd7, fun q9 H9 s9 f9 h9 => ?_⟩
      have X9 := X8.trans (Ext.newly X8.s f9 s9 h9)
      have s79 : Same D7 (upd D7 q9 (.lst ((List.range N.n).map fun g => V.int (lagsN N (settledM (placesN N).length (flowLks N b rs c)).f g)))) := same_upd (X8.s.free f9)
      have d9 : upd D7 q9 (.lst ((List.range N.n).map fun g => V.int (lagsN N (settledM (placesN N).length (flowLks N b rs c)).f g))) q9 = _ := upd_same
      have npc : pc ≠ q9 := fun z => by
        subst z
        rw [hc7] at f9
        cases f9
      have dpc9 : upd D7 q9 (.lst ((List.range N.n).map fun g => V.int (lagsN N (settledM (placesN N).length (flowLks N b rs c)).f g))) pc = none := by rw [upd_ne npc]; exact dpc7
      have hc9 := s9 _ _ hc7
      generalize upd D7 q9 (.lst ((List.range N.n).map fun g => V.int (lagsN N (settledM (placesN N).length (flowLks N b rs c)).f g))) = D9 at X9 s79 d9 dpc9
      -- what is carried stays from here on
      have X10 := X9.fix hpc0 dpc9 hc9
      have s910 : Same D9 (upd D9 pc (.lst (c.map V.int))) := same_upd dpc9
      have d10 : upd D9 pc (.lst (c.map V.int)) pc = _ := upd_same
      generalize upd D9 pc (.lst (c.map V.int)) = D10 at X10 s910 d10
      have sA := X7.d.trans (s79.trans s910)
      have g1' := sA _ _ g1
      have g3' := sA _ _ g3
      have q9' := s910 _ _ d9
      walk_at "lgd"
      refine lcGF (src_zip (SqL.of g3') (SqL.of d10) (by rw [List.length_map]; omega)) X10.s (by omega) (fun i => decide (0 < c.getD i 0)) (fun i => (rwAt rs i, c.getD i 0)) EntV (fun v a D1 D2 s h => h.up s) (fun i x D' H' H'' hi X11 ⟨t, y, z, e1, e2, e3, e4, e5⟩ Qy Qn ky kn => ?_) fun q12 acc D12 H12 hq12 X12 dq12 h12 al12 => ?_
      · subst e1 e3
        obtain ⟨r, hr', p, dxr, px, e6, h6, hp⟩ := al_get g4 e4
        subst e6
        have er := rwAt_eq hr'
        have li : i < c.length := by
          have := (List.getElem?_eq_some_iff.mp hr').1
          omega
        have ez : z = .int (c.getD i 0) := by
          rw [List.getElem?_map, List.getElem?_eq_getElem li] at e5
          rw [List.getD_eq_getElem?_getD, List.getElem?_eq_getElem li]
          exact (Option.some.inj e5).symm
        subst ez
        have X13 := (Ext.refl X11.s).trans (Ext.hide (o := .tup [V.ref p, V.int (c.getD i 0)]) X11.s e2)
        have hT := upd_same (H := H') (a := t) (o := .tup [V.ref p, V.int (c.getD i 0)])
        generalize upd H' t (.tup [V.ref p, V.int (c.getD i 0)]) = H13 at X13 hT ⊢
        have h6' := X11.d _ _ (sA _ _ h6)
        walk_at "lgd"
        by_cases c0 : 0 < c.getD i 0
        · walk_at "lgd"
          intro t14 ht14
          have Y := Ext.new (o := .tup [px, V.int (c.getD i 0)]) X13.s ht14
          refine ky (decide_eq_true c0) _ _ _ (X13.trans Y) ⟨t14, px, rfl, upd_same, ?_⟩
          rw [er]
          exact hp.up (sA.trans (X11.d.trans Y.d))
        · walk_at "lgd"
          exact kn (decide_eq_false c0) _ _ X13
      · rw [lx, paper_range lc] at al12
        have X13 := X10.trans (X12.fix hq12 dq12 h12)
        have hN13 := hN.up X13.dh
        have h9' := X12.h _ _ (X10.s _ _ q9')
        walk_at "lgd"
        refine ⟨v, q9, N, _, rfl, hN13, O, h9', few.lag, fun q14 H14 s14 f14 h14 => ?_⟩
        have X14 := X13.trans (Ext.grow X13.s s14)
        have h14' : H14 q14 = some (.lst (((List.range N.ws.length).map fun k => cnt N (lagsN N (settledM (placesN N).length (flowLks N b rs c)).f) k).map V.int)) := by
          rw [h14, List.map_map]
          rfl
        walk_at "lgd"
        rw [cnt_csum]
        intro t15 ht15
        have Y15 := Ext.new (o := .tup [V.int (csum N (lagsN N (settledM (placesN N).length (flowLks N b rs c)).f)), V.ref q9, V.ref q12]) X14.s ht15
        have s12 : Same D10 (upd D12 q12 (.lst acc)) := X12.d.trans (same_upd dq12)
        exact k _ _ _ (X14.trans Y15) ⟨t15, _, q9, q12, _, acc, _, rfl, upd_same, Y15.d _ _ (s12 _ _ q9'), Y15.d _ _ upd_same, EntsV.up ((same_upd dq12).trans Y15.d) al12, few⟩
end

section
variable {K : PySem.W.Frag} {mg : Str → Option Value} {P : Program} {w : World} {base : Heap}
theorem takesN0 {X : Cx} : L2N.Takes X (fun _ _ _ _ => False) := by
  rintro _ _ ⟨_, _, _, _, _, _, _, _, _, _, _, _, _, _, _, _, z⟩
  exact z.elim
/-! ### fewest where no lags do -/
def sp_fewX (K : PySem.W.Frag) : Sp := fun vs H Q E => ∃ (v : V) (b : Int) (N : Nt) (D : Hp), vs = [v, .int b] ∧ Same D H ∧ NetV K D v N ∧ N.Ok ∧ 0 ≤ b ∧ (∀ l, ¬ Feas N b l) ∧
  ∀ (d q : Addr) (ws : List V) (D' H' : Hp), Ext D H D' H' → D' d = some (.xd [("bar", .ref q)]) → D' q = some (.lst ws) → BarV N b D' ws → E (.ref (eC K)) (some d) H'
theorem made_heap {H1 : Hp} {a d C : Addr} {v : V} (ha : H1 a = none) (hd : d ≠ a) : upd (del (upd (upd (upd H1 a (exo a C none)) d (exd d [("bar", v)])) a (exo a C (some d))) a) d (.xd [("bar", v)]) = upd H1 d (.xd [("bar", v)]) := by
  funext x
  by_cases c : x = d
  · subst c
    rw [upd_same, upd_same]
  · rw [upd_ne c, upd_ne c]
    by_cases c2 : x = a
    · subst c2
      rw [del_same, ha]
    · rw [del_ne c2, upd_ne c2, upd_ne c, upd_ne c2]
theorem ok_fewX (T : Tx K mg) (U : TxE K mg) : ∃ fd, FnOk P w K mg base (L2N.CX P w) 10 (He.ga K "fewest") fd ["net", "beat"] (sp_fewX K) ∧ Binds K fd ["net", "beat"] [] ∧ PySem.W.keepIn K (.ref (He.ga K "fewest")) = true := by
  obtain ⟨fd, F⟩ := T.defs d_fewest (by exact List.mem_of_getElem? (i := 37) rfl)
  obtain ⟨fe, GE, bE⟩ := ok_ei (P := P) (w := w) (base := base) T U
  refine ⟨fd, F.ok sc_fewest (fun vs H Q E ⟨_, _, _, _, e, _⟩ => by rw [e]; rfl) fun cdv A outer s H vs Q E hr ⟨v, b, N, D, e, sD, hN, O, hb, hn, k⟩ => ?_, FunD.bindsN F fun _ _ _ _ _ _ us hl => match us, hl with | [_, _], _ => rfl, F.kp⟩
  subst e
  refine ⟨_, pss_cons (ps_expr (pk (ok_sure_beat T).g hr (by decide) (pa_cons (pv 1) pa_nil))) (pss_cons (ps_asg (pk (ok_plain_for_beat T) hr (by decide) (pa_cons (pv 0) (pa_cons (pv 1) pa_nil))) (g_tup (n := 2) (.inl rfl) (pgs_cons (pg_name (i := 2) sc_fewest.nd rfl (Or.inl rfl)) (pgs_cons (pg_name (i := 3) sc_fewest.nd rfl (Or.inl rfl)) pgs_nil))))
    (pss_cons (ps_if (pt_cmpR op_eq (pv 2) pe_str (nomark _)) (pss_one (L2N.ps_raise rfl (L2N.takes_of rfl rfl rfl rfl) (pmkN U.oex U.iC U.tI GE (hr.mono (by decide)) bE (by rfl) (T.gl "NoLagsThere") (pa_cons (pv 3) pa_nil)))) pss_nil) pss_never)), ?_⟩
  walk_at "lgd"
  refine ⟨b, rfl, hb, ?_⟩
  walk_at "lgd"
  refine ⟨v, b, N, D, rfl, sD, hN, O, fun v1 D1 H1 X1 ⟨t1, q1, e1, h1⟩ => ?_⟩
  subst e1
  rcases h1 with ⟨_, l, F0⟩ | ⟨h1, _, ws, hw, bar⟩
  · exact absurd F0 (hn l)
  walk_at "lgd"
  show tMkO _ _ _ _ _ _ _
  refine ⟨_, rfl, (by decide : 1 ≤ 1000), fun a ha => ?_⟩
  refine ⟨a, .ref q1, rfl, upd_same, fun d hd nad => ⟨rfl, d, [("bar", .ref q1)], upd_same, ?_, ?_, ?_⟩⟩
  · rw [upd_ne nad, upd_same]
  · rw [upd_ne nad] at hd
    exact hd
  · rw [upd_ne nad] at hd
    rw [made_heap ha nad]
    have X2 := X1.trans (Ext.new (o := .xd [("bar", .ref q1)]) X1.s hd)
    have s2 : Same D1 (upd D1 d (.xd [("bar", .ref q1)])) := same_upd (X1.s.free hd)
    exact k d q1 ws _ _ X2 upd_same (s2 _ _ hw) (bar.up s2)
/-! ### it is refused, with a bar that holds -/
abbrev N_law_refused : List Str := ["_law_net", "_law_most", "e"]
theorem sc_law_refused : FnScope N_law_refused (["_law_net", "_law_most"] : List Str) (defScope s_law_refused) := ⟨rfl, rfl, rfl, by decide +kernel, rfl, by decide +kernel, by decide +kernel⟩

def sp_law_refused (K : PySem.W.Frag) : Sp := fun vs H Q _ => ∃ (v : V) (b : Int) (N : Nt), vs = [v, .int b] ∧ NetV K H v N ∧ N.Ok ∧ 0 ≤ b ∧ (∀ l, ¬ Feas N b l) ∧ ∀ H', Same H H' → Q (.bl true) H'
theorem ok_law_refused (T : Tx K mg) (U : TxE K mg) : CalG P w K mg base CX0 12 "_law_refused" ["_law_net", "_law_most"] (sp_law_refused K) := by
  obtain ⟨ff, GF, bF, kF⟩ := ok_fewX (P := P) (w := w) (base := base) T U
  refine calG T 60 rfl "_law_refused" rfl (by decide +kernel) sc_law_refused (fun _ _ _ _ _ _ us hl => match us, hl with | [_, _], _ => rfl) (fun vs H Q E ⟨_, _, _, e, _⟩ => by rw [e]; rfl) fun cdv f A outer s H vs Q E hr ⟨v, b, N, e, hN, O, hb, hn, k⟩ => ?_
  subst e
  have hr5 := (roomH_of hr).mono (j := 5) (by decide)
  refine ⟨_, pss_cons (L2N.ps_try_as (i := 2) (tb := fun W => tDrop (tCallS (sp_fewX K) (WE W) (tCons (tVar 0) (tCons (tVar 1) tNil))))
      (ts := fun a cls d => tRet (tOp (fun x y H Q => y = .non ∧ Q (.bl (decide (x = .non))) H) (tK (sp_bar_fault K) (tCons (tVar 0) (tCons (tVar 1) (tCons (tXf a cls d (eC K) "bar" (tVar 2)) tNil)))) (tC .non)))
      (Wout := fun _ _ _ _ => False) rfl rfl sc_law_refused.nd rfl rfl ⟨rfl, by decide, Or.inl (T.gl "NoLagsThere")⟩ takesN0
      (fun W pn xe tk _ => pss_one (ps_expr (pe_callS GF (hr.mono (by decide)) (by rfl) (T.gl "fewest") kF bF (fun σ => L2N.passAt tk σ) (pa_cons (pv 0) (pa_cons (pv 1) pa_nil)))))
      (fun a oe cls d pn hz hf => pss_one (ps_ret (pe_cmpR op_isN (pkq (ok_bar_fault T) (j := 5) (.inr ⟨⟨(a, oe), ⟨rfl, by
        obtain ⟨ws, e⟩ := hf
        exact ⟨ws, e, hz.2.2 ws e⟩⟩, List.mem_cons_self⟩, ⟨hr5.dp, hr5.un⟩⟩) (by decide) (pa_cons (pv 0) (pa_cons (pv 1) (pa_cons (pe_xf U.xf U.no hz.zc hf (pv 2)) pa_nil)))) pe_non (nomark _))))) (pss_one (ps_ret pe_bl)), ?_⟩
  refine w_seq ?_
  refine w_drop ?_
  refine ⟨_, rfl, _, rfl, ?_⟩
  refine ⟨v, b, N, H, rfl, Same.refl H, hN, O, hb, hn, fun d q ws D' H' X hd hq bar => ?_⟩
  refine ⟨true, U.te, fun _ a ha => ?_, fun z => by cases z⟩
  obtain ⟨rs, p1, p2, p3, p4, p5, p6⟩ := bar
  refine w_ret ?_
  refine w_op (w_tK ?_)
  refine ⟨_, rfl, _, rfl, _, rfl, rfl, rfl, d, _, .ref q, rfl, X.s _ _ hd, rfl, ?_⟩
  refine ⟨v, b, q, ws, N, rs, rfl, hN.up X.h, X.s _ _ hq, p1.up X.s, O, hb, p2, p3, p4, p5, p6, fun H'' s'' => ?_⟩
  exact ⟨rfl, k _ (X.h.trans s'')⟩
end

section
variable {X : Cx} {K : PySem.W.Frag} {tg l : Expr} {tl : TE} {σ : St} {H : Hp} {p : Addr} {xs : List V} {R : It → Hp → Prop}
theorem k_tup (hK : X.K = K) (h : PE X l tl) : PI X tg l (iTup K tl) := by
  subst hK
  exact pi_tup h
def rIT' (K : PySem.W.Frag) (x : V) (H : Hp) (R : It → Hp → Prop) : Prop := ∃ a, x = .ref a ∧ (∃ xs, SqT K H a xs) ∧ R (Itt K a) H
theorem w_iT (h : tl σ H fun x H1 => rIT' K x H1 R) : iTup K tl σ H R := h
theorem w_rIT (h : H p = some (.tup xs)) (q : R (Itt K p) H) : rIT' K (.ref p) H R := ⟨p, rfl, ⟨xs, SqT.of h⟩, q⟩
end
def port (k : Str) : Bool := decide (k = "in") || decide (k = "out")
def kinds : List V := [.str "in", .str "out", .str "sum", .str "times", .str "most", .str "least", .str "first", .str "one"]
/-- a wire as it is written -/
structure Wd where
  s : Nat
  e : Nat
  ks : List Int
abbrev Gd := Str × Int
def GtV (v : V) (H : Hp) (g : Gd) : Prop := ∃ p, v = .ref p ∧ H p = some (.tup [.str g.1, .int g.2])
def WdV (v : V) (H : Hp) (w : Wd) : Prop := ∃ p q, v = .ref p ∧ H p = some (.tup [.int (w.s : Nat), .int (w.e : Nat), .ref q]) ∧ H q = some (.tup (w.ks.map V.int))
theorem GtV.up {H H' : Hp} {v : V} {g : Gd} (s : Same H H') (h : GtV v H g) : GtV v H' g := by
  obtain ⟨p, h1, h2⟩ := h
  exact ⟨p, h1, s _ _ h2⟩
theorem WdV.up {H H' : Hp} {v : V} {g : Wd} (s : Same H H') (h : WdV v H g) : WdV v H' g := by
  obtain ⟨p, q, h1, h2, h3⟩ := h
  exact ⟨p, q, h1, s _ _ h2, s _ _ h3⟩
abbrev GsV (H : Hp) (xs : List V) (gs : List Gd) : Prop := Al GtV H xs gs
abbrev WsV (H : Hp) (xs : List V) (ws : List Wd) : Prop := Al WdV H xs ws
def GdOk (g : Gd) : Prop := inV (.str g.1) kinds = true ∧ (0 ≤ g.2 ∧ g.2 ≤ 100) ∧ (port g.1 = true → g.2 = 0) ∧ PyData.strOk g.1 = true
def ntOf (gs : List Gd) (ws : List Wd) : Nt := ⟨gs.length, fun i => port (gs.getD i ("", 0)).1, fun i => (gs.getD i ("", 0)).2, ws.map fun w => ⟨w.s, w.e, w.ks.length⟩⟩
theorem nt_w {gs : List Gd} {ws : List Wd} {j : Nat} {w : Wd} (h : ws[j]? = some w) : (ntOf gs ws).w j = ⟨w.s, w.e, w.ks.length⟩ := by
  unfold Nt.w ntOf
  rw [List.getD_eq_getElem?_getD, List.getElem?_map, h]
  rfl
theorem GsV.gx {H : Hp} {xs : List V} {gs : List Gd} {ws : List Wd} (h : GsV H xs gs) : GX H xs (ntOf gs ws) := by
  refine ⟨al_len h, fun i hi => ?_⟩
  have hg : gs[i]? = some (gs[i]'hi) := List.getElem?_eq_getElem hi
  obtain ⟨v, hv, p, e, hp⟩ := al_at h hg
  subst e
  have ed : gs.getD i ("", 0) = gs[i]'hi := by
    rw [List.getD_eq_getElem?_getD, hg]
    rfl
  exact ⟨p, (gs[i]'hi).1, hv, by show H p = some (.tup [_, .int (gs.getD i ("", 0)).2]); rw [ed]; exact hp, by show port (gs.getD i ("", 0)).1 = _; rw [ed]; rfl⟩
theorem WsV.wx {H : Hp} {xs : List V} {gs : List Gd} {ws : List Wd} (h : WsV H xs ws) : WX' H xs (ntOf gs ws) := by
  have l : (ntOf gs ws).ws.length = ws.length := List.length_map _
  refine ⟨by rw [l]; exact al_len h, fun j hj => ?_⟩
  rw [l] at hj
  have hg : ws[j]? = some (ws[j]'hj) := List.getElem?_eq_getElem hj
  obtain ⟨v, hv, p, q, e, hp, hq⟩ := al_at h hg
  subst e
  rw [nt_w hg]
  exact ⟨p, q, _, hv, hp, hq, List.length_map _⟩
section
variable {K : PySem.W.Frag} {mg : Str → Option Value} {P : Program} {w : World} {base : Heap}
abbrev N_is_from : List Str := ["thing", "low", "high"]
theorem sc_is_from : FnScope N_is_from (["thing", "low", "high"] : List Str) (defScope s_is_from) := ⟨rfl, rfl, rfl, by decide +kernel, rfl, by decide +kernel, by decide +kernel⟩

def sp_is_from : Sp := fun vs H Q _ => ∃ i l h : Int, vs = [.int i, .int l, .int h] ∧ l ≤ i ∧ i ≤ h ∧ Q (.bl true) H
theorem ok_is_from (T : Tx K mg) : CalG P w K mg base CX0 1 "is_from" ["thing", "low", "high"] sp_is_from :=
  calG T 38 rfl "is_from" rfl (by decide +kernel) sc_is_from (fun _ _ _ _ _ _ us hl => match us, hl with | [_, _, _], _ => rfl) (fun vs H Q E ⟨_, _, _, e, _⟩ => by rw [e]; rfl) fun cdv f A outer s H vs Q E hr ⟨i, l, h, e, h1, h2, k⟩ => by
    subst e
    refine ⟨_, (pss_one (ps_ret (pe_and (pe_callB c_isi (by rfl) (T.fr "isinstance") (by decide +kernel) (pa_cons (pv 0) (pa_cons (pe_bltn (v := .ty "int") (by rfl) (T.fr "int") (by decide +kernel) rfl) pa_nil))) (pe_and (pe_not (pe_callB c_isi (by rfl) (T.fr "isinstance") (by decide +kernel) (pa_cons (pv 0) (pa_cons (pe_bltn (v := .ty "bool") (by rfl) (T.fr "bool") (by decide +kernel) rfl) pa_nil)))) (pe_one (pe_chain op_le op_le (pv 1) (pv 0) (pv 2))))))), ?_⟩
    walk_at "lgd"
    exact w_bl' (decide_eq_true h2) k
abbrev N_is_worth : List Str := ["thing"]
theorem sc_is_worth : FnScope N_is_worth (["thing"] : List Str) (defScope s_is_worth) := ⟨rfl, rfl, rfl, by decide +kernel, rfl, by decide +kernel, by decide +kernel⟩

def sp_is_worth : Sp := fun vs H Q _ => ∃ i : Int, vs = [.int i] ∧ 0 ≤ i ∧ i ≤ 96 ∧ Q (.bl true) H
theorem ok_is_worth (T : Tx K mg) : CalG P w K mg base CX0 2 "is_worth" ["thing"] sp_is_worth :=
  calG T 39 rfl "is_worth" rfl (by decide +kernel) sc_is_worth (fun _ _ _ _ _ _ us hl => match us, hl with | [_], _ => rfl) (fun vs H Q E ⟨_, e, _⟩ => by rw [e]; rfl) fun cdv f A outer s H vs Q E hr ⟨i, e, h1, h2, k⟩ => by
    subst e
    refine ⟨_, (pss_one (ps_ret (pk (ok_is_from T) hr (by decide) (pa_cons (pv 0) (pa_cons pe_int (pa_cons (C8.pe_gc (by rfl) (T.gI "MOST_WORTH" 96)) pa_nil)))))), ?_⟩
    walk_at "lgd"
    exact ⟨i, 0, 96, rfl, h1, h2, k⟩
abbrev N_is_port : List Str := ["kind"]
theorem sc_is_port : FnScope N_is_port (["kind"] : List Str) (defScope s_is_port) := ⟨rfl, rfl, rfl, by decide +kernel, rfl, by decide +kernel, by decide +kernel⟩

def sp_is_port : Sp := fun vs H Q _ => ∃ k : Str, vs = [.str k] ∧ ∀ H', Same H H' → Q (.bl (port k)) H'
theorem ok_is_port (T : Tx K mg) : CalG P w K mg base CX0 1 "is_port" ["kind"] sp_is_port :=
  calG T 40 rfl "is_port" rfl (by decide +kernel) sc_is_port (fun _ _ _ _ _ _ us hl => match us, hl with | [_], _ => rfl) (fun vs H Q E ⟨_, e, _⟩ => by rw [e]; rfl) fun cdv f A outer s H vs Q E hr ⟨i, e, k⟩ => by
    subst e
    refine ⟨_, (pss_one (ps_ret (pe_cmpR o_inQ (pv 0) (pe_tup (pa_cons pe_str (pa_cons pe_str pa_nil))) (by rfl)))), ?_⟩
    walk_at "lgd"
    intro t ht
    walk_at "lgd"
    rw [in_str2]
    exact k _ (same_upd ht)
abbrev N_is_gate : List Str := ["thing"]
theorem sc_is_gate : FnScope N_is_gate (["thing"] : List Str) (defScope s_is_gate) := ⟨rfl, rfl, rfl, by decide +kernel, rfl, by decide +kernel, by decide +kernel⟩

def sp_is_gate : Sp := fun vs H Q _ => ∃ (v : V) (g : Gd), vs = [v] ∧ GtV v H g ∧ GdOk g ∧ ∀ H', Same H H' → Q (.bl true) H'
theorem ok_is_gate (T : Tx K mg) : CalG P w K mg base CX0 2 "is_gate" ["thing"] sp_is_gate :=
  calG T 41 rfl "is_gate" rfl (by decide +kernel) sc_is_gate (fun _ _ _ _ _ _ us hl => match us, hl with | [_], _ => rfl) (fun vs H Q E ⟨_, _, e, _⟩ => by rw [e]; rfl) fun cdv f A outer s H vs Q E hr ⟨v, g, e, ⟨p, ev, hp⟩, ⟨g1, g2, g3, g4⟩, k⟩ => by
    subst e ev
    refine ⟨_, (pss_cons (ps_if (PW.pt (pw_or (pt_not (pt_val (pe_callB c_isi (by rfl) (T.fr "isinstance") (by decide +kernel) (pa_cons (pv 0) (pa_cons (pe_bltn (v := .ty "tuple") (by rfl) (T.fr "tuple") (by decide +kernel) rfl) pa_nil))))) (pw_or (pt_cmpR op_ne (pe_callB c_lenT (by rfl) (T.fr "len") PySem.boot_len (pa_cons (pv 0) pa_nil)) pe_int (nomark _)) (pw_or (pt_not (pt_val (pe_callB c_isi (by rfl) (T.fr "isinstance") (by decide +kernel) (pa_cons (pe_ix ixt (pv 0) pe_int (fun _ _ => rfl)) (pa_cons (pe_bltn (v := .ty "str") (by rfl) (T.fr "str") (by decide +kernel) rfl) pa_nil))))) (pw_or1 (pt_cmpR (o_ninK (K := K) rfl) (pe_ix ixt (pv 0) pe_int (fun _ _ => rfl)) (C8.pe_gc (by rfl) (T.gA "KINDS")) (by rfl))))))) (pss_one (ps_ret pe_bl)) pss_nil)
    (pss_one (ps_ret (pk (ok_is_from T) hr (by decide) (pa_cons (pe_ix ixt (pv 0) pe_int (fun _ _ => rfl)) (pa_cons pe_int (pa_cons (pe_ifExp (pt_val (pk (ok_is_port T) hr (by decide) (pa_cons (pe_ix ixt (pv 0) pe_int (fun _ _ => rfl)) pa_nil))) pe_int (C8.pe_gc (by rfl) (T.gI "MOST_WAIT" 100))) pa_nil))))))), ?_⟩
    walk_at "lgd"
    refine w_rNinK (T.kinds _) rfl rfl ?_
    have e1 : (!inV (.str g.1) kinds) = false := by rw [g1]; rfl
    unfold kinds at e1
    walk_at "lgd"
    refine ⟨_, rfl, fun H1 s1 => ?_⟩
    cases c : port g.1 with
    | true =>
      have := g3 c
      walk_at "lgd"
      exact ⟨_, _, _, rfl, by omega, by omega, k _ s1⟩
    | false =>
      walk_at "lgd"
      exact ⟨_, _, _, rfl, by omega, by omega, k _ s1⟩
abbrev N_is_wire : List Str := ["thing", "many", "worth"]
theorem sc_is_wire : FnScope N_is_wire (["thing", "many"] : List Str) (defScope s_is_wire) := ⟨rfl, rfl, rfl, by decide +kernel, rfl, by decide +kernel, by decide +kernel⟩

def sp_is_wire : Sp := fun vs H Q _ => ∃ (v : V) (m : Nat) (w : Wd), vs = [v, .int (m : Nat)] ∧ WdV v H w ∧ w.s < m ∧ w.e < m ∧ (∀ k ∈ w.ks, 0 ≤ k ∧ k ≤ 96) ∧ w.ks.length ≤ 100 ∧ ∀ H', Same H H' → Q (.bl true) H'
theorem ok_is_wire (T : Tx K mg) : CalG P w K mg base CX0 3 "is_wire" ["thing", "many"] sp_is_wire :=
  calG T 42 rfl "is_wire" rfl (by decide +kernel) sc_is_wire (fun _ _ _ _ _ _ us hl => match us, hl with | [_, _], _ => rfl) (fun vs H Q E ⟨_, _, _, e, _⟩ => by rw [e]; rfl) fun cdv f A outer s H vs Q E hr ⟨v, m, w, e, ⟨p, q, ev, hp, hq⟩, h1, h2, h3, h4, k⟩ => by
    subst e ev
    refine ⟨_, (pss_cons (ps_if (PW.pt (pw_or (pt_not (pt_val (pe_callB c_isi (by rfl) (T.fr "isinstance") (by decide +kernel) (pa_cons (pv 0) (pa_cons (pe_bltn (v := .ty "tuple") (by rfl) (T.fr "tuple") (by decide +kernel) rfl) pa_nil))))) (pw_or (pt_cmpR op_ne (pe_callB c_lenT (by rfl) (T.fr "len") PySem.boot_len (pa_cons (pv 0) pa_nil)) pe_int (nomark _)) (pw_or1 (pt_not (pt_val (pe_callB c_isi (by rfl) (T.fr "isinstance") (by decide +kernel) (pa_cons (pe_ix ixt (pv 0) pe_int (fun _ _ => rfl)) (pa_cons (pe_bltn (v := .ty "tuple") (by rfl) (T.fr "tuple") (by decide +kernel) rfl) pa_nil))))))))) (pss_one (ps_ret pe_bl)) pss_nil)
    (pss_cons (ps_if (PW.pt (pw_or (pt_not (pt_val (pk (ok_is_from T) hr (by decide) (pa_cons (pe_ix ixt (pv 0) pe_int (fun _ _ => rfl)) (pa_cons pe_int (pa_cons (pe_op op_sub (pv 1) pe_int) pa_nil)))))) (pw_or1 (pt_not (pt_val (pk (ok_is_from T) hr (by decide) (pa_cons (pe_ix ixt (pv 0) pe_int (fun _ _ => rfl)) (pa_cons pe_int (pa_cons (pe_op op_sub (pv 1) pe_int) pa_nil))))))))) (pss_one (ps_ret pe_bl)) pss_nil)
    (pss_one (ps_ret (pe_callB (c_all (.inl rfl)) (by rfl) (T.fr "all") (by decide +kernel) (pa_cons (pe_lc (own := [("worth", 2)]) (g := gName 2) (tt := tYes) rfl sc_is_wire.nd (k_tup (K := K) rfl (pe_ix ixt (pv 0) pe_int (fun _ _ => rfl))) (blkOk_by (N := N_is_wire) (sc := defScope s_is_wire) (by decide +kernel)) (fun _ _ _ _ _ => (pg_name (i := 2) sc_is_wire.nd rfl (Or.inl rfl))) (fun _ _ _ _ _ => pts_nil) (fun _ _ _ _ _ => (pk (ok_is_worth T) hr (by decide) (pa_cons (pv 2) pa_nil)))) pa_nil)))))), ?_⟩
    walk_at "lgd"
    refine ⟨_, _, _, rfl, by omega, by omega, ?_⟩
    walk_at "lgd"
    refine ⟨_, _, _, rfl, by omega, by omega, ?_⟩
    walk_at "lgd"
    refine w_iT ?_
    walk_at "lgd"
    refine w_rIT hq ?_
    refine lcL (src_tup (SqT.of hq)) (Same.refl H) (by rw [List.length_map]; omega) ((List.replicate w.ks.length true).map V.bl) (by simp) (fun i x y H' H'' hy s ⟨e1, e2⟩ Qy ky => ?_) fun q2 H2 hq2 s2 hl2 => ?_
    · subst e1
      have hi : i < w.ks.length := by
        have := (List.getElem?_eq_some_iff.mp hy).1
        simpa using this
      rw [List.getElem?_map, List.getElem?_replicate, if_pos hi] at hy
      cases Option.some.inj hy
      rw [List.getElem?_map, List.getElem?_eq_getElem hi] at e2
      cases Option.some.inj e2
      have := h3 _ (List.getElem_mem hi)
      walk_at "lgd"
      exact ⟨_, rfl, this.1, this.2, ky _ (Same.refl _)⟩
    · walk_at "lgd"
      refine w_bl' (c := true) ?_ (k _ s2)
      simp
abbrev N_wires_into : List Str := ["wires", "gate", "wire"]
theorem sc_wires_into : FnScope N_wires_into (["wires", "gate"] : List Str) (defScope s_wires_into) := ⟨rfl, rfl, rfl, by decide +kernel, rfl, by decide +kernel, by decide +kernel⟩

def sp_wires_into : Sp := fun vs H Q _ => ∃ (p : Addr) (g : Nat) (xs : List V) (ws : List Wd), vs = [.ref p, .int (g : Nat)] ∧ H p = some (.lst xs) ∧ WsV H xs ws ∧ ws.length ≤ 1000 ∧ ∀ q H', Same H H' → H q = none → H' q = some (.lst (((List.range ws.length).filter fun i => decide (((ws.getD i ⟨0, 0, []⟩).e : Int) = (g : Nat))).map fun i => xs.getD i .non)) → Q (.ref q) H'
theorem ok_wires_into (T : Tx K mg) : CalG P w K mg base CX0 1 "wires_into" ["wires", "gate"] sp_wires_into :=
  calG T 43 rfl "wires_into" rfl (by decide +kernel) sc_wires_into (fun _ _ _ _ _ _ us hl => match us, hl with | [_, _], _ => rfl) (fun vs H Q E ⟨_, _, _, _, e, _⟩ => by rw [e]; rfl) fun cdv f A outer s H vs Q E hr ⟨p, g, xs, ws, e, hp, hw, hl, k⟩ => by
    subst e
    have len := al_len hw
    refine ⟨_, (pss_one (ps_ret (pe_lc (own := [("wire", 2)]) (g := gName 2) (tt := _) rfl sc_wires_into.nd (k_list (K := K) rfl (pv 0)) (blkOk_by (N := N_wires_into) (sc := defScope s_wires_into) (by decide +kernel)) (fun _ _ _ _ _ => (pg_name (i := 2) sc_wires_into.nd rfl (Or.inl rfl))) (fun _ _ _ _ _ => (pts_one (pt_cmpR op_eq (pe_ix ixt (pv 2) pe_int (fun _ _ => rfl)) (pv 1) (nomark _)))) (fun _ _ _ _ _ => (pv 2))))), ?_⟩
    walk_at "lgd"
    refine lcF (src_list (SqL.of hp)) (Same.refl H) (by omega) (fun i => decide (((ws.getD i ⟨0, 0, []⟩).e : Int) = (g : Nat))) (fun i => xs.getD i .non) (fun i x H' H'' hi s ⟨r1, r2⟩ Qy Qn ky kn => ?_) fun q1 H1 hq1 s1 hl1 => ?_
    · subst r1
      obtain ⟨w, hw', p1, p2, e1, h1, h2⟩ := al_get hw r2
      subst e1
      have ew : ws.getD i ⟨0, 0, []⟩ = w := by
        rw [List.getD_eq_getElem?_getD, hw']
        rfl
      have ex : xs.getD i .non = .ref p1 := by
        rw [List.getD_eq_getElem?_getD, r2]
        rfl
      rw [ew, ex] at ky
      rw [ew] at kn
      walk_at "lgd"
      by_cases c : ((w.e : Nat) : Int) = (g : Nat)
      · walk_at "lgd"
        exact ky (decide_eq_true c) _ (Same.refl _)
      · walk_at "lgd"
        exact kn (decide_eq_false c) _ (Same.refl _)
    · walk_at "lgd"
      rw [len] at hl1
      exact k _ _ s1 hq1 hl1
end

theorem al_pick {A : Type} {R : V → Hp → A → Prop} {H : Hp} {xs : List V} {as : List A} (h : Al R H xs as) (d : A) : ∀ l : List Nat, (∀ i ∈ l, i < as.length) → Al R H (l.map fun i => xs.getD i .non) (l.map fun i => as.getD i d)
  | [], _ => trivial
  | i :: l, hl => by
    have hi := hl i List.mem_cons_self
    obtain ⟨v, hv, hr⟩ := al_at h (List.getElem?_eq_getElem hi)
    have e1 : xs.getD i .non = v := by
      rw [List.getD_eq_getElem?_getD, hv]
      rfl
    have e2 : as.getD i d = as[i] := by
      rw [List.getD_eq_getElem?_getD, List.getElem?_eq_getElem hi]
      rfl
    refine ⟨?_, al_pick h d l fun j hj => hl j (List.mem_cons_of_mem _ hj)⟩
    show R (xs.getD i .non) H (as.getD i d)
    rw [e1, e2]
    exact hr
theorem al_take {A : Type} {R : V → Hp → A → Prop} {H : Hp} : ∀ {xs : List V} {as : List A} (n : Nat), Al R H xs as → Al R H (xs.take n) (as.take n)
  | _, _, 0, _ => trivial
  | [], [], n + 1, _ => trivial
  | [], _ :: _, n + 1, h => h.elim
  | _ :: _, [], n + 1, h => h.elim
  | x :: xs, a :: as, n + 1, h => ⟨h.1, al_take n h.2⟩
def wdD (w : Wd) : PyData := .tuple [.int (w.s : Nat), .int (w.e : Nat), .tuple (w.ks.map PyData.int)]
theorem WdV.dq {v : V} {H : Hp} {w : Wd} (h : WdV v H w) : Dq H v (wdD w) := by
  obtain ⟨p, q, rfl, h1, h2⟩ := h
  exact .tup h1 (.cons (.int _) (.cons (.int _) (.cons (.tup h2 dqa_of_ints) .nil)))
theorem wdD_shp {w : Wd} : shp 20 (wdD w) := by
  refine shp.up (k := 2) (shp_tup fun d hd => ?_) (by decide)
  simp only [List.mem_cons, List.not_mem_nil, or_false] at hd
  rcases hd with h | h | h <;> subst h
  · exact shp_int
  · exact shp_int
  · refine shp_tup fun d hd => ?_
    obtain ⟨k, _, rfl⟩ := List.mem_map.mp hd
    exact shp_int
def gdD (g : Gd) : PyData := .tuple [.str g.1, .int g.2]
theorem GtV.dq {v : V} {H : Hp} {g : Gd} (h : GtV v H g) : Dq H v (gdD g) := by
  obtain ⟨p, rfl, h1⟩ := h
  exact .tup h1 (.cons (.str _) (.cons (.int _) .nil))
theorem gdD_shp {g : Gd} (h : GdOk g) : shp 20 (gdD g) := by
  refine shp.up (k := 1) (shp_tup fun d hd => ?_) (by decide)
  simp only [List.mem_cons, List.not_mem_nil, or_false] at hd
  rcases hd with e | e <;> subst e
  · exact shp_str h.2.2.2
  · exact shp_int
theorem al_dq {A : Type} {R : V → Hp → A → Prop} {H : Hp} {ds : A → PyData} (f : ∀ v a, R v H a → Dq H v (ds a)) : ∀ {xs : List V} {as : List A}, Al R H xs as → DqA H xs (as.map ds)
  | [], [], _ => .nil
  | [], _ :: _, h => h.elim
  | _ :: _, [], h => h.elim
  | v :: vs, a :: as, h => .cons (f v a h.1) (al_dq f h.2)
theorem cut_to {xs : List V} {i : Nat} (h : i ≤ xs.length) : cutV xs none (some (i : Nat)) = xs.take i := by
  unfold cutV
  rw [HT.sIx_none, HT.sIx_nat, List.drop_zero, Nat.sub_zero, Nat.min_eq_left h]
theorem cut_from {xs : List V} {i : Nat} (h : i ≤ xs.length) : cutV xs (some (i : Nat)) none = xs.drop i := by
  unfold cutV
  rw [HT.sIx_none, HT.sIx_nat, Nat.min_eq_left h, List.take_of_length_le (by rw [List.length_drop]; exact Nat.le_refl _)]
/-- what Net asks of its parts -/
structure POk (gs : List Gd) (ws : List Wd) : Prop where
  gk : ∀ g ∈ gs, GdOk g
  ne : gs ≠ []
  g7 : gs.length ≤ 7
  wl : ws.length ≤ 12
  we : ∀ w ∈ ws, w.s < gs.length ∧ w.e < gs.length ∧ w.ks.length ≤ 3 ∧ ∀ k ∈ w.ks, 0 ≤ k ∧ k ≤ 96
  noOut : ∀ w ∈ ws, ∀ g, gs[w.s]? = some g → g.1 ≠ "out"
  noIn : ∀ w ∈ ws, ∀ g, gs[w.e]? = some g → g.1 ≠ "in"
  uniq : ∀ (i j : Nat) (w w' : Wd), i < j → ws[i]? = some w → ws[j]? = some w' → w.e = w'.e → ∀ g, gs[w'.e]? = some g → g.1 ≠ "out"
  fed : ∀ (i : Nat) (g : Gd), gs[i]? = some g → g.1 = "out" ∨ g.1 = "first" → ∃ w ∈ ws, w.e = i
  rk : ∃ r : Nat → Nat, ∀ w ∈ ws, w.ks = [] → r w.s < r w.e
  inner : ((List.range gs.length).filter fun i => !port (gs.getD i ("", 0)).1).length ≤ 3
theorem POk.ok {gs : List Gd} {ws : List Wd} (p : POk gs ws) : (ntOf gs ws).Ok where
  pos := List.length_pos_iff.mpr p.ne
  n7 := p.g7
  ends := fun w hw => by
    obtain ⟨u, hu, rfl⟩ := List.mem_map.mp hw
    exact ⟨(p.we u hu).1, (p.we u hu).2.1⟩
  wt0 := fun g hg => by
    have hg : g < gs.length := hg
    have e : gs.getD g ("", 0) = gs[g] := by
      rw [List.getD_eq_getElem?_getD, List.getElem?_eq_getElem hg]
      rfl
    show 0 ≤ (gs.getD g ("", 0)).2 ∧ (gs.getD g ("", 0)).2 ≤ 100
    rw [e]
    exact (p.gk _ (List.getElem_mem hg)).2.1
  k3 := fun w hw => by
    obtain ⟨u, hu, rfl⟩ := List.mem_map.mp hw
    exact (p.we u hu).2.2.1
  rk := by
    obtain ⟨r, hr⟩ := p.rk
    refine ⟨r, fun w hw h0 => ?_⟩
    obtain ⟨u, hu, rfl⟩ := List.mem_map.mp hw
    exact hr u hu (List.length_eq_zero_iff.mp h0)
  ws12 := by
    show (ws.map _).length ≤ 12
    rw [List.length_map]
    exact p.wl
  inner := p.inner
section
variable {K : PySem.W.Frag} {mg : Str → Option Value} {P : Program} {w : World} {base : Heap}
abbrev N_sure_wires : List Str := ["gates", "wires", "place", "wire", "number", "gate"]
theorem sc_sure_wires : FnScope N_sure_wires (["gates", "wires"] : List Str) (defScope s_sure_wires) := ⟨rfl, rfl, rfl, by decide +kernel, rfl, by decide +kernel, by decide +kernel⟩

def sp_sure_wires : Sp := fun vs H Q _ => ∃ (pg pw : Addr) (xs ys : List V) (gs : List Gd) (ws : List Wd), vs = [.ref pg, .ref pw] ∧ H pg = some (.lst xs) ∧ H pw = some (.lst ys) ∧ GsV H xs gs ∧ WsV H ys ws ∧ POk gs ws ∧ ∀ H', Same H H' → Q .non H'
theorem ok_sure_wires (T : Tx K mg) : CalG P w K mg base CX0 4 "sure_wires" ["gates", "wires"] sp_sure_wires :=
  calG T 44 rfl "sure_wires" rfl (by decide +kernel) sc_sure_wires (fun _ _ _ _ _ _ us hl => match us, hl with | [_, _], _ => rfl) (fun vs H Q E ⟨_, _, _, _, _, _, e, _⟩ => by rw [e]; rfl) fun cdv f A outer s H vs Q E hr ⟨pg, pw, xs, ys, gs, ws, e, hg, hw, hG, hW, p, k⟩ => by
    subst e
    have lg := al_len hG
    have lw := al_len hW
    have g7 := p.g7
    have wl := p.wl
    refine ⟨_, (pss_cons (ps_if (pt_not (pt_val (pe_callB c_isi (by rfl) (T.fr "isinstance") (by decide +kernel) (pa_cons (pv 1) (pa_cons (pe_bltn (v := .ty "list") (by rfl) (T.fr "list") (by decide +kernel) rfl) pa_nil))))) (pss_one ps_never) pss_nil)
    (pss_cons (ps_for PassesOwn.never rfl (k_enum (K := K) rfl (T.fr "enumerate") (pa_cons (pv 1) pa_nil)) (g_tup (n := 2) (.inl rfl) (pgs_cons (pg_name (i := 2) sc_sure_wires.nd rfl (Or.inl rfl)) (pgs_cons (pg_name (i := 3) sc_sure_wires.nd rfl (Or.inl rfl)) pgs_nil))) (pss_cons (ps_if (PW.pt (pw_or (pt_not (pt_val (pk (ok_is_wire T) hr (by decide) (pa_cons (pv 3) (pa_cons (pe_callB c_lenL (by rfl) (T.fr "len") PySem.boot_len (pa_cons (pv 0) pa_nil)) pa_nil))))) (pw_or (pt_cmpR op_eq (pe_ix ixt (pe_ix ixl (pv 0) (pe_ix ixt (pv 3) pe_int (fun _ _ => rfl)) (fun _ _ => rfl)) pe_int (fun _ _ => rfl)) pe_str (nomark _)) (pw_or1 (pt_cmpR op_eq (pe_ix ixt (pe_ix ixl (pv 0) (pe_ix ixt (pv 3) pe_int (fun _ _ => rfl)) (fun _ _ => rfl)) pe_int (fun _ _ => rfl)) pe_str (nomark _)))))) (pss_one ps_never) pss_nil)
    (pss_one (ps_if (PW.pt (pw_and (pt_cmpR op_eq (pe_ix ixt (pe_ix ixl (pv 0) (pe_ix ixt (pv 3) pe_int (fun _ _ => rfl)) (fun _ _ => rfl)) pe_int (fun _ _ => rfl)) pe_str (nomark _)) (pw_and1 (pt_cmpR (o_neQ (un_of hr)) (pk (ok_wires_into T) hr (by decide) (pa_cons (pe_slice s_slQ (pv 1) po_none (po_some (pv 2))) (pa_cons (pe_ix ixt (pv 3) pe_int (fun _ _ => rfl)) pa_nil))) (pe_lst pa_nil) (nomark _))))) (pss_one ps_never) pss_nil))))
    (pss_one (ps_for PassesOwn.never rfl (k_enum (K := K) rfl (T.fr "enumerate") (pa_cons (pv 0) pa_nil)) (g_tup (n := 2) (.inl rfl) (pgs_cons (pg_name (i := 4) sc_sure_wires.nd rfl (Or.inl rfl)) (pgs_cons (pg_name (i := 5) sc_sure_wires.nd rfl (Or.inl rfl)) pgs_nil))) (pss_one (ps_if (PW.pt (pw_and (pt_cmpR o_inQ (pe_ix ixt (pv 5) pe_int (fun _ _ => rfl)) (pe_tup (pa_cons pe_str (pa_cons pe_str pa_nil))) (by rfl)) (pw_and1 (pt_cmpR (o_eqQ (un_of hr)) (pk (ok_wires_into T) hr (by decide) (pa_cons (pv 1) (pa_cons (pv 4) pa_nil))) (pe_lst pa_nil) (nomark _))))) (pss_one ps_never) pss_nil)))))), ?_⟩
    walk_at "lgd"
    refine for_enum hw (Same.refl H) (fun i σ H' => ∃ z2 z3, σ = [some (.ref pg), some (.ref pw), z2, z3, none, none]) ⟨_, _, rfl⟩ (fun i y σ H' t hy ht s ⟨z2, z3, e⟩ => ?_) fun σ H' s ⟨z2, z3, e⟩ => ?_
    · subst e
      obtain ⟨u, hu, pu, qu, eu, h1, h2⟩ := al_get hW hy
      subst eu
      have hum := List.mem_of_getElem? hu
      obtain ⟨w1, w2, w3, w4⟩ := p.we u hum
      have li : i < ws.length := (List.getElem?_eq_some_iff.mp hu).1
      obtain ⟨vs, gvs, ps, es, hs⟩ := al_at hG (List.getElem?_eq_getElem w1)
      obtain ⟨ve, gve, pe, ee, he⟩ := al_at hG (List.getElem?_eq_getElem w2)
      subst es ee
      have n1 := p.noOut u hum _ (List.getElem?_eq_getElem w1)
      have n2 := p.noIn u hum _ (List.getElem?_eq_getElem w2)
      have s2 := s.trans (same_upd (o := .tup [V.int (i : Nat), .ref pu]) ht)
      have hT := upd_same (H := H') (a := t) (o := .tup [V.int (i : Nat), .ref pu])
      generalize upd H' t (.tup [V.int (i : Nat), .ref pu]) = H2 at s2 hT ⊢
      have hW2 := (al_mono (fun v a q => WdV.up s2 q) hW : WsV H2 ys ws)
      walk_at "lgd"
      refine ⟨_, gs.length, u, by rw [lg], ⟨pu, qu, rfl, s2 _ _ h1, s2 _ _ h2⟩, w1, w2, w4, by omega, fun H3 s3 => ?_⟩
      replace s3 := s2.trans s3
      walk_at "lgd"
      by_cases c : gs[u.e].1 = "out"
      · have c' : gs[u.e].1 = Str.ofString "out" := c
        walk_at "lgd"
        intro n4 hn4
        rw [cut_to (by omega)]
        have s4 := s3.trans (same_upd (o := .lst (ys.take i)) hn4)
        have h4 := upd_same (H := H3) (a := n4) (o := .lst (ys.take i))
        generalize upd H3 n4 (.lst (ys.take i)) = H4 at s4 h4 ⊢
        walk_at "lgd"
        refine ⟨n4, u.e, ys.take i, ws.take i, rfl, h4, al_take i (al_mono (fun v a q => WdV.up s4 q) hW), by rw [List.length_take]; omega, fun q5 H5 s5 f5 h5 => ?_⟩
        replace s5 := s4.trans s5
        have e5 : (((List.range (ws.take i).length).filter fun j => decide ((((ws.take i).getD j ⟨0, 0, []⟩).e : Int) = (u.e : Nat))).map fun j => (ys.take i).getD j .non) = [] := by
          rw [List.map_eq_nil_iff, List.filter_eq_nil_iff]
          intro j hj hd
          have hj := List.mem_range.mp hj
          have hd := of_decide_eq_true hd
          rw [List.length_take] at hj
          have e6 : (ws.take i)[j]? = some (ws[j]'(by omega)) := by
            rw [List.getElem?_take, if_pos (by omega), List.getElem?_eq_getElem]
          rw [List.getD_eq_getElem?_getD, e6] at hd
          have hd : (((ws[j]'(by omega)).e : Nat) : Int) = (u.e : Nat) := hd
          exact p.uniq j i _ u (by omega) (List.getElem?_eq_getElem (by omega)) hu (by omega) _ (List.getElem?_eq_getElem w2) c
        rw [e5] at h5
        walk_at "lgd"
        intro n6 hn6
        refine w_neE (at_upd hn6 h5) .nil (fun d hd => by cases hd) upd_same ?_
        walk_at "lgd"
        exact ⟨s5.trans (same_upd hn6), _, _, rfl⟩
      · have c' : ¬ gs[u.e].1 = Str.ofString "out" := c
        walk_at "lgd"
        exact ⟨s3, _, _, rfl⟩
    · subst e
      walk_at "lgd"
      refine for_enum hg s (fun i σ H' => ∃ z4 z5, σ = [some (.ref pg), some (.ref pw), z2, z3, z4, z5]) ⟨_, _, rfl⟩ (fun i y σ H' t hy ht s ⟨z4, z5, e⟩ => ?_) fun σ H' s ⟨z4, z5, e⟩ => ?_
      · subst e
        obtain ⟨g, hg', pu, eu, h1⟩ := al_get hG hy
        subst eu
        have s2 := s.trans (same_upd (o := .tup [V.int (i : Nat), .ref pu]) ht)
        have hT := upd_same (H := H') (a := t) (o := .tup [V.int (i : Nat), .ref pu])
        generalize upd H' t (.tup [V.int (i : Nat), .ref pu]) = H2 at s2 hT ⊢
        walk_at "lgd"
        intro n3 hn3
        have s3 := s2.trans (same_upd (o := .tup [V.str "out", .str "first"]) hn3)
        have h3 := upd_same (H := H2) (a := n3) (o := .tup [V.str "out", .str "first"])
        generalize upd H2 n3 (.tup [V.str "out", .str "first"]) = H3 at s3 h3 ⊢
        walk_at "lgd"
        rw [in_str2]
        by_cases c : g.1 = "out" ∨ g.1 = "first"
        · have c' : (decide (g.1 = Str.ofString "out") || decide (g.1 = Str.ofString "first")) = true := by
            rcases c with h | h
            · rw [decide_eq_true (show g.1 = Str.ofString "out" from h)]
              rfl
            · rw [decide_eq_true (show g.1 = Str.ofString "first" from h), Bool.or_true]
          obtain ⟨u, hu, eu⟩ := p.fed i g hg' c
          walk_at "lgd"
          refine ⟨pw, i, ys, ws, rfl, s3 _ _ hw, al_mono (fun v a q => WdV.up s3 q) hW, by omega, fun q5 H5 s5 f5 h5 => ?_⟩
          replace s5 := s3.trans s5
          walk_at "lgd"
          intro n6 hn6
          have s6 := s5.trans (same_upd (o := .lst []) hn6)
          refine w_eqE (at_upd hn6 h5) (al_dq (ds := wdD) (fun v a q => WdV.dq q) (al_pick (al_mono (fun v a q => WdV.up s6 q) hW : WsV _ ys ws) ⟨0, 0, []⟩ _ fun j hj => List.mem_range.mp (List.mem_filter.mp hj).1)) (fun d hd => ?_) upd_same ?_
          · obtain ⟨a, _, rfl⟩ := List.mem_map.mp hd
            exact wdD_shp
          have e7 : (List.map (fun i => ys.getD i V.non) (List.filter (fun j => decide ((((ws.getD j ⟨0, 0, []⟩).e : Nat) : Int) = (i : Nat))) (List.range ws.length))).isEmpty = false := by
            obtain ⟨j, hj⟩ := List.mem_iff_getElem?.mp hu
            have lj := (List.getElem?_eq_some_iff.mp hj).1
            have hm : j ∈ List.filter (fun j => decide ((((ws.getD j ⟨0, 0, []⟩).e : Nat) : Int) = (i : Nat))) (List.range ws.length) := by
              refine List.mem_filter.mpr ⟨List.mem_range.mpr lj, ?_⟩
              rw [List.getD_eq_getElem?_getD, hj]
              refine decide_eq_true ?_
              show ((u.e : Nat) : Int) = _
              rw [eu]
            cases e8 : List.filter (fun j => decide ((((ws.getD j ⟨0, 0, []⟩).e : Nat) : Int) = (i : Nat))) (List.range ws.length) with
            | nil =>
              rw [e8] at hm
              cases hm
            | cons _ _ => rfl
          rw [e7]
          walk_at "lgd"
          exact ⟨s6, _, _, rfl⟩
        · have c' : (decide (g.1 = Str.ofString "out") || decide (g.1 = Str.ofString "first")) = false := by
            rw [decide_eq_false (fun h => c (.inl h)), decide_eq_false (fun h => c (.inr h))]
            rfl
          walk_at "lgd"
          exact ⟨s3, _, _, rfl⟩
      · subst e
        exact k _ s
end

theorem in_nl {k : Nat} {ls : List Nat} : inV (.int (k : Nat)) (nl ls) = decide (k ∈ ls) := by
  unfold inV nl
  rw [Bool.eq_iff_iff, List.any_map, List.any_eq_true, decide_eq_true_eq]
  constructor
  · rintro ⟨x, hx, h⟩
    have h : (((x : Nat) : Int) == (k : Nat)) = true := h
    have h := beq_iff_eq.mp h
    have : x = k := by omega
    rw [← this]
    exact hx
  · intro h
    exact ⟨k, h, by
      show (((k : Nat) : Int) == (k : Nat)) = true
      exact beq_self_eq_true _⟩
theorem nl_flat {ls : List Nat} : (nl ls).all flatV = true := by
  unfold nl
  rw [List.all_map, List.all_eq_true]
  intro x _
  rfl
theorem putAll_some {k : Key} : ∀ (us kvs : List (Key × V)), (valV (putAll us kvs) k).isSome = (us.any (fun u => decide (k = u.1)) || (valV kvs k).isSome)
  | [], kvs => rfl
  | u :: us, kvs => by
    show (valV (putAll us (putK kvs u.1 u.2)) k).isSome = _
    rw [putAll_some us, valV_put, List.any_cons]
    by_cases c : k = u.1
    · rw [if_pos c, decide_eq_true c]
      simp
    · rw [if_neg c, decide_eq_false c, Bool.false_or]
/-- a bare wire from among ls ends at g -/
def blocked (ws : List Wd) (ls : List Nat) (g : Nat) : Bool := ws.any fun w => w.ks.isEmpty && (decide (w.s ∈ ls) && decide (w.e = g))
def bareU (ls : List Nat) (w : Wd) : Option (Key × V) := if (w.ks.isEmpty && decide (w.s ∈ ls)) = true then some (.inl ((w.e : Nat) : Int), .bl true) else none
theorem blocked_eq {ws : List Wd} {ls : List Nat} {g : Nat} : (valV (putAll ((ws.map (bareU ls)).filterMap id) []) (.inl ((g : Nat) : Int))).isSome = blocked ws ls g := by
  rw [putAll_some]
  have e0 : (valV ([] : List (Key × V)) (.inl ((g : Nat) : Int))).isSome = false := rfl
  rw [e0, Bool.or_false]
  unfold blocked
  induction ws with
  | nil => rfl
  | cons w ws ih =>
    rw [List.map_cons, List.any_cons, ← ih]
    unfold bareU
    by_cases c : (w.ks.isEmpty && decide (w.s ∈ ls)) = true
    · rw [if_pos c, List.filterMap_cons_some (f := id) (b := ((.inl ((w.e : Nat) : Int) : Key), V.bl true)) rfl, List.any_cons]
      congr 1
      obtain ⟨c1, c2⟩ := Bool.and_eq_true_iff.mp c
      rw [c1, c2, Bool.true_and, Bool.true_and]
      by_cases d : w.e = g
      · rw [decide_eq_true d]
        exact decide_eq_true (by rw [d])
      · rw [decide_eq_false d]
        refine decide_eq_false fun z => d ?_
        have z := Sum.inl.inj z
        omega
    · rw [if_neg c, List.filterMap_cons_none (f := id) rfl]
      have e1 : (w.ks.isEmpty && (decide (w.s ∈ ls) && decide (w.e = g))) = false := by
        rw [← Bool.and_assoc]
        cases h : (w.ks.isEmpty && decide (w.s ∈ ls)) with
        | true => exact absurd h c
        | false => rfl
      rw [e1, Bool.false_or]
theorem exists_min {r : Nat → Nat} : ∀ {ls : List Nat}, ls ≠ [] → ∃ g ∈ ls, ∀ x ∈ ls, r g ≤ r x
  | [], h => absurd rfl h
  | [a], _ => ⟨a, List.mem_cons_self, fun x hx => by rw [List.mem_singleton.mp hx]; exact Nat.le_refl _⟩
  | a :: b :: l, _ => by
    obtain ⟨g, hg, h⟩ := exists_min (r := r) (ls := b :: l) (by simp)
    by_cases c : r a ≤ r g
    · exact ⟨a, List.mem_cons_self, fun x hx => by
        rcases List.mem_cons.mp hx with e | e
        · rw [e]
          exact Nat.le_refl _
        · exact Nat.le_trans c (h x e)⟩
    · exact ⟨g, List.mem_cons_of_mem _ hg, fun x hx => by
        rcases List.mem_cons.mp hx with e | e
        · rw [e]
          omega
        · exact h x e⟩
/-- some gate of those left is free -/
theorem free_some {ws : List Wd} {ls : List Nat} (rk : ∃ r : Nat → Nat, ∀ w ∈ ws, w.ks = [] → r w.s < r w.e) (h : ls ≠ []) : ls.filter (fun g => !blocked ws ls g) ≠ [] := by
  obtain ⟨r, hr⟩ := rk
  obtain ⟨g, hg, hm⟩ := exists_min (r := r) h
  intro e
  have := List.filter_eq_nil_iff.mp e g hg
  cases c : blocked ws ls g with
  | false =>
    rw [c] at this
    exact this rfl
  | true =>
    unfold blocked at c
    obtain ⟨w, hw, h1⟩ := List.any_eq_true.mp c
    obtain ⟨h1, h2⟩ := Bool.and_eq_true_iff.mp h1
    obtain ⟨h2, h3⟩ := Bool.and_eq_true_iff.mp h2
    have := hr w hw (List.isEmpty_iff.mp h1)
    have := hm w.s (of_decide_eq_true h2)
    rw [of_decide_eq_true h3] at *
    omega
theorem filter_split (p : Nat → Bool) : ∀ l : List Nat, (l.filter fun g => !p g).length + (l.filter p).length = l.length
  | [] => rfl
  | a :: l => by
    have ih := filter_split p l
    rw [List.filter_cons, List.filter_cons, List.length_cons]
    cases c : p a with
    | true =>
      show (l.filter fun g => !p g).length + (a :: l.filter p).length = _
      rw [List.length_cons]
      omega
    | false =>
      show (a :: l.filter fun g => !p g).length + (l.filter p).length = _
      rw [List.length_cons]
      omega
theorem pick_filter {ls : List Nat} {p : Nat → Bool} : ((List.range ls.length).filter fun i => p (ls.getD i 0)).map (fun i => V.int ((ls.getD i 0 : Nat) : Int)) = nl (ls.filter p) := by
  have e : ls = (List.range ls.length).map fun i => ls.getD i 0 := by
    apply List.ext_getElem?
    intro i
    by_cases hi : i < ls.length
    · rw [rng_get hi, List.getElem?_eq_getElem hi, List.getD_eq_getElem?_getD, List.getElem?_eq_getElem hi]
      rfl
    · rw [List.getElem?_eq_none (by omega), List.getElem?_eq_none (by rw [List.length_map, List.length_range]; omega)]
  unfold nl
  conv => rhs; rw [e]
  rw [List.filter_map, List.map_map]
  rfl
section
variable {K : PySem.W.Frag} {mg : Str → Option Value} {P : Program} {w : World} {base : Heap}
abbrev N_bare_order : List Str := ["many", "wires", "left", "found", "later", "free", "wire", "gate"]
theorem sc_bare_order : FnScope N_bare_order (["many", "wires"] : List Str) (defScope s_bare_order) := ⟨rfl, rfl, rfl, by decide +kernel, rfl, by decide +kernel, by decide +kernel⟩

def sp_bare_order : Sp := fun vs H Q _ => ∃ (m : Nat) (pw : Addr) (ys : List V) (ws : List Wd), vs = [.int (m : Nat), .ref pw] ∧ H pw = some (.lst ys) ∧ WsV H ys ws ∧ ws.length ≤ 1000 ∧ m ≤ 100 ∧ (∃ r : Nat → Nat, ∀ w ∈ ws, w.ks = [] → r w.s < r w.e) ∧
  ∀ q fs H', Same H H' → H q = none → H' q = some (.lst (nl fs)) → (∀ g, g < m → g ∈ fs) → fs.length ≤ 100 → Q (.ref q) H'
theorem ok_bare_order (T : Tx K mg) : CalG P w K mg base CX0 1 "bare_order" ["many", "wires"] sp_bare_order :=
  calG T 45 rfl "bare_order" rfl (by decide +kernel) sc_bare_order (fun _ _ _ _ _ _ us hl => match us, hl with | [_, _], _ => rfl) (fun vs H Q E ⟨_, _, _, _, e, _⟩ => by rw [e]; rfl) fun cdv f A outer s H vs Q E hr ⟨m, pw, ys, ws, e, hw, hW, hl, hm, rk, k⟩ => by
    subst e
    have lw := al_len hW
    refine ⟨_, (pss_cons (ps_set (i := 2) sc_bare_order.nd rfl (Or.inr rfl) (pe_listRg rfl (by rfl) (T.fr "list") (prg_1 (by rfl) (T.fr "range") (pv 0))))
    (pss_cons (ps_set (i := 3) sc_bare_order.nd rfl (Or.inl rfl) (pe_lst pa_nil))
    (pss_one (ps_while PassesOwn.never (pt_val pe_bl) (pss_cons (ps_set (i := 4) sc_bare_order.nd rfl (Or.inr rfl) (pe_dc (own := [("wire", 6)]) (g := gName 6) (tt := _) rfl sc_bare_order.nd (k_list (K := K) rfl (pv 1)) (blkOk_by (N := N_bare_order) (sc := defScope s_bare_order) (by decide +kernel)) (fun _ _ _ _ _ => (pg_name (i := 6) sc_bare_order.nd rfl (Or.inl rfl))) (fun _ _ _ _ _ => (pts_one (PW.pt (pw_and (pt_cmpR (o_eqQ (un_of hr)) (pe_ix ixt (pv 6) pe_int (fun _ _ => rfl)) (pe_tup pa_nil) (nomark _)) (pw_and1 (pt_cmpR o_inQ (pe_ix ixt (pv 6) pe_int (fun _ _ => rfl)) (pv 2) (by rfl))))))) (fun _ _ _ _ _ => (pe_ix ixt (pv 6) pe_int (fun _ _ => rfl))) (fun _ _ _ _ _ => pe_bl)))
    (pss_cons (ps_setLc (i := 5) (own := [("gate", 7)]) (g := gName 7) (tt := _) rfl sc_bare_order.nd rfl rfl (sw_true rfl rfl rfl (by decide +kernel)) (k_list (K := K) rfl (pv 2)) (blkOk_by (N := N_bare_order) (sc := defScope s_bare_order) (by decide +kernel)) (fun _ _ _ _ _ => (pg_name (i := 7) sc_bare_order.nd rfl (Or.inl rfl))) (fun _ _ _ _ _ => (pts_one (pt_cmp (pc_dnotin (hu_of hr) (pv 7) (pv 4))))) (fun _ _ _ _ _ => (pv 7)))
    (pss_cons (ps_if (pt_cmpR (o_eqQ (un_of hr)) (pv 5) (pe_lst pa_nil) (nomark _)) (pss_one (ps_ret (pv 3))) pss_nil)
    (pss_cons (ps_expr (pe_bm PySem.F.plainAttrs_list PySem.F.slot_list_extend PySem.F.type_list_extend mt_extend (pv 3) (pa_cons (pv 5) pa_nil)))
    (pss_one (ps_set (i := 2) sc_bare_order.nd rfl (Or.inr rfl) (pe_lc (own := [("gate", 7)]) (g := gName 7) (tt := _) rfl sc_bare_order.nd (k_list (K := K) rfl (pv 2)) (blkOk_by (N := N_bare_order) (sc := defScope s_bare_order) (by decide +kernel)) (fun _ _ _ _ _ => (pg_name (i := 7) sc_bare_order.nd rfl (Or.inl rfl))) (fun _ _ _ _ _ => (pts_one (pt_cmp (pc_din (hu_of hr) (pv 7) (pv 4))))) (fun _ _ _ _ _ => (pv 7))))))))))))), ?_⟩
    refine w_seq (w_asg ?_)
    refine ⟨_, rfl, _, rfl, RgOk.of_le (by omega) (by omega) (by omega) (by omega), fun p0 hp0 => ?_⟩
    have e0 : rgV 0 (m : Nat) = nl (List.range m) := by
      unfold rgV nl
      have e : ((m : Nat) - 0 : Int).toNat = m := by omega
      rw [e]
      apply List.map_congr_left
      intro i _
      rw [Int.zero_add]
    rw [e0]
    have X0 := Ext.hide (o := .lst (nl (List.range m))) (Same.refl H) hp0
    have h0 := upd_same (H := H) (a := p0) (o := .lst (nl (List.range m)))
    generalize upd H p0 (.lst (nl (List.range m))) = H0 at X0 h0 ⊢
    walk_at "lgd"
    intro pf hpf
    have X1 := X0.trans (Ext.hide (o := .lst []) X0.s hpf)
    have h1 := at_upd (o' := .lst []) hpf h0
    have hf1 := upd_same (H := H0) (a := pf) (o := .lst [])
    have hpf0 := X0.h.free hpf
    have npf : p0 ≠ pf := ne_of_none h0 hpf
    generalize upd H0 pf (.lst []) = H1 at X1 h1 hf1 ⊢
    walk_at "lgd"
    refine while_ (fun n σ Hc => ∃ (pl : Addr) (ls fs : List Nat), ls.length = n ∧ Ext H H H Hc ∧ Hc pl = some (.lst (nl ls)) ∧ pl ≠ pf ∧ Hc pf = some (.lst (nl fs)) ∧ (∀ g, g < m → g ∈ ls ∨ g ∈ fs) ∧ fs.length + ls.length = m ∧ ∃ z4 z5, σ = [some (.int (m : Nat)), some (.ref pw), some (.ref pl), some (.ref pf), z4, z5, none, none]) m ⟨p0, List.range m, [], List.length_range, X1, h1, npf, hf1, fun g hg => .inl (List.mem_range.mpr hg), by simp, none, none, rfl⟩ ?_
    intro n σ Hc ⟨pl, ls, fs, en, X, hpl, npl, hpf', all, cnt, z4, z5, e⟩
    subst e
    walk_at "lgd"
    refine w_turn ?_
    walk_at "lgd"
    refine dcO (src_list (SqL.of (X.s _ _ hw))) (Same.refl Hc) (by omega) (ws.map (bareU ls)) (by rw [List.length_map, lw]) (fun i x H' H'' u hu s ⟨e1, e2⟩ Qk Qn ky kn => ?_) fun pd H2 hpd dpd X2 hd2 => ?_
    · subst e1
      obtain ⟨u', hu', pu, qu, eu, g1, g2⟩ := al_get hW e2
      subst eu
      rw [List.getElem?_map, hu'] at hu
      cases Option.some.inj hu
      have g1 := s _ _ (X.s _ _ g1)
      have g2 := s _ _ (X.s _ _ g2)
      have hpl' := s _ _ hpl
      walk_at "lgd"
      intro n3 hn3
      refine w_eqT (at_upd hn3 g2) dqa_of_ints (fun d hd => shp_ints d hd) upd_same ?_
      have s3 := same_upd (o := .tup []) hn3
      have g1' := s3 _ _ g1
      have hpl3 := s3 _ _ hpl'
      have ee : (u'.ks.map V.int).isEmpty = u'.ks.isEmpty := by cases u'.ks <;> rfl
      rw [ee]
      cases c : u'.ks.isEmpty with
      | false =>
        walk_at "lgd"
        exact kn (by unfold bareU; rw [c]; rfl) _ s3
      | true =>
        walk_at "lgd"
        refine w_inQ (.inl hpl3) rfl nl_flat ?_
        rw [in_nl]
        walk_at "lgd"
        by_cases c2 : u'.s ∈ ls
        · have c2' : decide (u'.s ∈ ls) = true := decide_eq_true c2
          walk_at "lgd"
          exact ky _ _ (by unfold bareU; rw [c, c2']; rfl) _ s3
        · have c2' : decide (u'.s ∈ ls) = false := decide_eq_false c2
          walk_at "lgd"
          exact kn (by unfold bareU; rw [c, c2']; rfl) _ s3
    generalize eu : putAll ((ws.map (bareU ls)).filterMap id) [] = kv at hd2
    have bl : ∀ g : Nat, (valV kv (.inl ((g : Nat) : Int))).isSome = blocked ws ls g := fun g => by rw [← eu]; exact blocked_eq
    have hpl2 := X2.h _ _ hpl
    have lls : ls.length ≤ 100 := by omega
    walk_at "lgd"
    refine lcF (src_list (SqL.of hpl2)) (Same.refl H2) (by rw [nl_len]; omega) (fun i => !blocked ws ls (ls.getD i 0)) (fun i => V.int ((ls.getD i 0 : Nat) : Int)) (fun i x H' H'' hi s ⟨e1, e2⟩ Qy Qn ky kn => ?_) fun q3 H3 hq3 s3 hl3 => ?_
    · subst e1
      obtain ⟨g, hg, rfl⟩ := nl_at e2
      have eg : ls.getD i 0 = g := by
        rw [List.getD_eq_getElem?_getD, hg]
        rfl
      rw [eg] at ky kn
      walk_at "lgd"
      rw [bl]
      cases c : blocked ws ls g with
      | true =>
        walk_at "lgd"
        exact kn (by rw [c]; rfl) _ (Same.refl _)
      | false =>
        walk_at "lgd"
        exact ky (by rw [c]; rfl) _ (Same.refl _)
    rw [nl_len, pick_filter (p := fun g => !blocked ws ls g)] at hl3
    have hpl3 := s3 _ _ hpl2
    have hd3 := s3 _ _ hd2
    have X3 := (X.trans (Ext.grow X.s (X2.h.trans s3)))
    have hpf3 := s3 _ _ (X2.h _ _ hpf')
    walk_at "lgd"
    intro n4 hn4
    have s4 := same_upd (o := .lst []) hn4
    refine w_eqE (at_upd hn4 hl3) nl_dq nlD_shp upd_same ?_
    have X4 := X3.trans (Ext.hide (o := .lst []) X3.s hn4)
    have hl4 := s4 _ _ hl3
    have hpl4 := s4 _ _ hpl3
    have hd4 := s4 _ _ hd3
    have hpf4 := s4 _ _ hpf3
    generalize upd H3 n4 (.lst []) = H4 at X4 hl4 hpl4 hd4 hpf4 ⊢
    by_cases c : ls.filter (fun g => !blocked ws ls g) = []
    · rw [c]
      have els : ls = [] := Classical.byContradiction fun h => free_some rk h c
      subst els
      have ee : (nl []).isEmpty = true := rfl
      walk_at "lgd"
      have cnt : fs.length + 0 = m := cnt
      exact k pf fs H4 X4.h hpf0 hpf4 (fun g hg => (all g hg).elim (fun h => by cases h) fun h => h) (by omega)
    · have ee : (nl (ls.filter fun g => !blocked ws ls g)).isEmpty = false := by
        cases h : ls.filter (fun g => !blocked ws ls g) with
        | nil => exact absurd h c
        | cons _ _ => rfl
      have cl : (ls.filter fun g => !blocked ws ls g).length + (ls.filter fun g => blocked ws ls g).length = ls.length := by
        exact filter_split (fun g => blocked ws ls g) ls
      have cp : 0 < (ls.filter fun g => !blocked ws ls g).length := List.length_pos_iff.mpr c
      walk_at "lgd"
      refine ⟨pf, q3, nl fs, _, rfl, rfl, hpf4, hl4, Nat.le_trans (show _ ≤ 1000 by rw [nl_len, nl_len]; omega) (by decide), ?_⟩
      have enl : nl fs ++ nl (ls.filter fun g => !blocked ws ls g) = nl (fs ++ ls.filter fun g => !blocked ws ls g) := by
        unfold nl
        rw [List.map_append]
      rw [enl]
      have nq : q3 ≠ pf := fun z => by
        subst z
        rw [X2.h _ _ hpf'] at hq3
        cases hq3
      have nd : pd ≠ pf := fun z => by
        subst z
        rw [hpf'] at hpd
        cases hpd
      have X5 := X4.mut (o := .lst (nl (fs ++ ls.filter fun g => !blocked ws ls g))) hpf0 hpf0
      have hpf5 := upd_same (H := H4) (a := pf) (o := .lst (nl (fs ++ ls.filter fun g => !blocked ws ls g)))
      have hpl5 := at_mut (o' := .lst (nl (fs ++ ls.filter fun g => !blocked ws ls g))) npl hpl4
      have hd5 := at_mut (o' := .lst (nl (fs ++ ls.filter fun g => !blocked ws ls g))) nd hd4
      generalize upd H4 pf (.lst (nl (fs ++ ls.filter fun g => !blocked ws ls g))) = H5 at X5 hpf5 hpl5 hd5 ⊢
      walk_at "lgd"
      refine lcF (src_list (SqL.of hpl5)) (Same.refl H5) (by rw [nl_len]; omega) (fun i => blocked ws ls (ls.getD i 0)) (fun i => V.int ((ls.getD i 0 : Nat) : Int)) (fun i x H' H'' hi s ⟨e1, e2⟩ Qy Qn ky kn => ?_) fun q6 H6 hq6 s6 hl6 => ?_
      · subst e1
        obtain ⟨g, hg, rfl⟩ := nl_at e2
        have eg : ls.getD i 0 = g := by
          rw [List.getD_eq_getElem?_getD, hg]
          rfl
        rw [eg] at ky kn
        walk_at "lgd"
        rw [bl]
        cases c : blocked ws ls g with
        | true =>
          walk_at "lgd"
          exact ky c _ (Same.refl _)
        | false =>
          walk_at "lgd"
          exact kn c _ (Same.refl _)
      rw [nl_len, pick_filter (p := fun g => blocked ws ls g)] at hl6
      walk_at "lgd"
      refine ⟨_, ?_, q6, _, _, rfl, X5.trans (Ext.grow X5.s s6), hl6, fun z => ?_, s6 _ _ hpf5, fun g hg => ?_, ?_, some (.ref pd), some (.ref q3), rfl⟩
      · omega
      · subst z
        rw [hpf5] at hq6
        cases hq6
      · rcases all g hg with h | h
        · cases c : blocked ws ls g with
          | true => exact .inl (List.mem_filter.mpr ⟨h, c⟩)
          | false => exact .inr (List.mem_append_right _ (List.mem_filter.mpr ⟨h, by rw [c]; rfl⟩))
        · exact .inr (List.mem_append_left _ h)
      · rw [List.length_append]
        omega
end

section
variable {K : PySem.W.Frag} {mg : Str → Option Value} {P : Program} {w : World} {base : Heap}
abbrev N_bare_ring : List Str := ["many", "wires", "done", "left", "way", "gates", "ahead", "gate", "k", "wire"]
theorem sc_bare_ring : FnScope N_bare_ring (["many", "wires"] : List Str) (defScope s_bare_ring) := ⟨rfl, rfl, rfl, by decide +kernel, rfl, by decide +kernel, by decide +kernel⟩

def sp_bare_ring : Sp := fun vs H Q _ => ∃ (m : Nat) (pw : Addr) (ys : List V) (ws : List Wd), vs = [.int (m : Nat), .ref pw] ∧ H pw = some (.lst ys) ∧ WsV H ys ws ∧ ws.length ≤ 1000 ∧ m ≤ 100 ∧ (∃ r : Nat → Nat, ∀ w ∈ ws, w.ks = [] → r w.s < r w.e) ∧ ∀ H', Same H H' → Q .non H'
theorem ok_bare_ring (T : Tx K mg) : CalG P w K mg base CX0 2 "bare_ring" ["many", "wires"] sp_bare_ring :=
  calG T 46 rfl "bare_ring" rfl (by decide +kernel) sc_bare_ring (fun _ _ _ _ _ _ us hl => match us, hl with | [_, _], _ => rfl) (fun vs H Q E ⟨_, _, _, _, e, _⟩ => by rw [e]; rfl) fun cdv f A outer s H vs Q E hr ⟨m, pw, ys, ws, e, hw, hW, hl, hm, rk, k⟩ => by
    subst e
    refine ⟨_, (pss_cons (ps_set (i := 2) sc_bare_ring.nd rfl (Or.inr rfl) (pk (ok_bare_order T) hr (by decide) (pa_cons (pv 0) (pa_cons (pv 1) pa_nil))))
    (pss_cons (ps_set (i := 3) sc_bare_ring.nd rfl (Or.inr rfl) (pe_lc (own := [("gate", 7)]) (g := gName 7) (tt := _) rfl sc_bare_ring.nd (pi_range1 (by rfl) (T.fr "range") (pa_cons (pv 0) pa_nil)) (blkOk_by (N := N_bare_ring) (sc := defScope s_bare_ring) (by decide +kernel)) (fun _ _ _ _ _ => (pg_name (i := 7) sc_bare_ring.nd rfl (Or.inl rfl))) (fun _ _ _ _ _ => (pts_one (pt_cmpR o_ninQ (pv 7) (pv 2) (by rfl)))) (fun _ _ _ _ _ => (pv 7))))
    (pss_cons (ps_if (pt_cmpR (o_eqQ (un_of hr)) (pv 3) (pe_lst pa_nil) (nomark _)) (pss_one (ps_ret pe_non)) pss_nil) pss_never))), ?_⟩
    walk_at "lgd"
    refine ⟨m, pw, ys, ws, rfl, hw, hW, hl, hm, rk, fun q fs H1 s1 f1 h1 all lf => ?_⟩
    walk_at "lgd"
    refine w_rR1 (n := m) rfl (by omega) ?_
    refine lcF src_range0 (Same.refl H1) (by omega) (fun _ => false) (fun i => .int (i : Nat)) (fun i x H' H'' hi s ⟨e1, e2⟩ Qy Qn ky kn => ?_) fun q2 H2 hq2 s2 hl2 => ?_
    · subst e1 e2
      have h1' := s _ _ h1
      walk_at "lgd"
      refine w_ninQ (.inl h1') rfl nl_flat ?_
      rw [in_nl, decide_eq_true (all i hi)]
      walk_at "lgd"
      exact kn rfl _ (Same.refl _)
    have e2 : ((List.range m).filter (fun _ => false)).map (fun i => V.int (i : Nat)) = [] := by simp
    rw [e2] at hl2
    walk_at "lgd"
    intro n3 hn3
    refine w_eqE (at_upd hn3 hl2) .nil (fun d hd => by cases hd) upd_same ?_
    walk_at "lgd"
    exact k _ (s1.trans (s2.trans (same_upd hn3)))
abbrev N_Net_init : List Str := ["self", "gates", "wires", "ring", "gate"]
theorem sc_Net_init : FnScope N_Net_init (["self", "gates", "wires"] : List Str) (defScope s_Net_init) := ⟨rfl, rfl, rfl, by decide +kernel, rfl, by decide +kernel, by decide +kernel⟩

def sp_Net_init (K : PySem.W.Frag) : Sp := fun vs H Q _ => ∃ (self dx pg pw : Addr) (xs ys : List V) (gs : List Gd) (ws : List Wd) (D H0 D0 : Hp), vs = [.ref self, .ref pg, .ref pw] ∧ Ext D H0 D0 H ∧ H0 self = none ∧ D0 self = none ∧ H self = some (.ins (He.ga K "Net") dx []) ∧
  D pg = some (.lst xs) ∧ D pw = some (.lst ys) ∧ GsV D xs gs ∧ WsV D ys ws ∧ POk gs ws ∧ ∀ D' H', Ext D H0 D' H' → NetV K D' (.ref self) (ntOf gs ws) → Q .non H'
theorem ok_Net_init (T : Tx K mg) : CalM P w K mg base 5 "Net" (He.ga K "Net") ["self", "gates", "wires"] (sp_Net_init K) :=
  calM T 47 rfl "Net" T.kNet (T.gl "Net") sc_Net_init (fun _ _ _ _ _ _ us hl => match us, hl with | [_, _, _], _ => rfl) (fun vs H Q E ⟨_, _, _, _, _, _, _, _, _, _, _, e, _⟩ => by rw [e]; rfl) fun cdv f A outer s H vs Q E hr ⟨self, dx, pg, pw, xs, ys, gs, ws, D, H0, D0, e, X, f1, f2, hs, hg, hw, hG, hW, p, k⟩ => by
    subst e
    have lg := al_len hG
    have lw := al_len hW
    have g7 := p.g7
    have wl := p.wl
    have hg0 := X.dh _ _ hg
    have hw0 := X.dh _ _ hw
    refine ⟨_, (pss_cons (ps_if (PW.pt (pw_or (pt_not (pt_val (pe_callB c_isi (by rfl) (T.fr "isinstance") (by decide +kernel) (pa_cons (pv 1) (pa_cons (pe_bltn (v := .ty "list") (by rfl) (T.fr "list") (by decide +kernel) rfl) pa_nil))))) (pw_or (pt_cmpR (o_eqQ (un_of hr)) (pv 1) (pe_lst pa_nil) (nomark _)) (pw_or1 (pt_not (pt_val (pe_callB (c_all (.inl rfl)) (by rfl) (T.fr "all") (by decide +kernel) (pa_cons (pe_lc (own := [("gate", 4)]) (g := gName 4) (tt := tYes) rfl sc_Net_init.nd (k_list (K := K) rfl (pv 1)) (blkOk_by (N := N_Net_init) (sc := defScope s_Net_init) (by decide +kernel)) (fun _ _ _ _ _ => (pg_name (i := 4) sc_Net_init.nd rfl (Or.inl rfl))) (fun _ _ _ _ _ => pts_nil) (fun _ _ _ _ _ => (pk (ok_is_gate T) hr (by decide) (pa_cons (pv 4) pa_nil)))) pa_nil)))))))) (pss_one ps_never) pss_nil)
    (pss_cons (ps_expr (pk (ok_sure_wires T) hr (by decide) (pa_cons (pv 1) (pa_cons (pv 2) pa_nil))))
    (pss_cons (ps_set (i := 3) sc_Net_init.nd rfl (Or.inl rfl) (pk (ok_bare_ring T) hr (by decide) (pa_cons (pe_callB c_lenL (by rfl) (T.fr "len") PySem.boot_len (pa_cons (pv 1) pa_nil)) (pa_cons (pv 2) pa_nil))))
    (pss_cons (ps_if (pt_cmpR op_notN (pv 3) pe_non (nomark _)) (pss_one ps_never) pss_nil)
    (pss_cons (s_fld rfl T.cNet (T.aNet "gates" (by decide +kernel)) (pv 0) (pe_callTy c_lst (by rfl) (T.fr "list") (by decide +kernel) (pa_cons (pv 1) pa_nil)))
    (pss_one (s_fld rfl T.cNet (T.aNet "wires" (by decide +kernel)) (pv 0) (pe_callTy c_lst (by rfl) (T.fr "list") (by decide +kernel) (pa_cons (pv 2) pa_nil))))))))), ?_⟩
    walk_at "lgd"
    intro n1 hn1
    have s1 := same_upd (o := .lst []) hn1
    refine w_eqE (at_upd hn1 hg0) (al_dq (ds := gdD) (fun v a q => GtV.dq q) (al_mono (fun v a q => GtV.up (X.dh.trans s1) q) hG : GsV _ xs gs)) (fun d hd => ?_) upd_same ?_
    · obtain ⟨g, hg, rfl⟩ := List.mem_map.mp hd
      exact gdD_shp (p.gk g hg)
    have ee : xs.isEmpty = false := by
      cases xs with
      | nil => exact absurd (List.length_eq_zero_iff.mp lg.symm) p.ne
      | cons _ _ => rfl
    replace X := X.trans (Ext.hide (o := .lst []) X.s hn1)
    replace hs := s1 _ _ hs
    replace hg0 := s1 _ _ hg0
    replace hw0 := s1 _ _ hw0
    generalize upd H n1 (.lst []) = H1 at X hs hg0 hw0 ⊢
    clear s1 hn1
    walk_at "lgd"
    refine lc_list hg0 (Same.refl H1) (by omega) ((List.replicate xs.length true).map V.bl) (by simp) (fun i x y H' hx hy s Qy ky => ?_) fun q2 H2 hq2 s2 hl2 => ?_
    · obtain ⟨g, hg', hgt⟩ := al_get hG hx
      have hi : i < xs.length := (List.getElem?_eq_some_iff.mp hx).1
      rw [List.getElem?_map, List.getElem?_replicate, if_pos hi] at hy
      cases Option.some.inj hy
      walk_at "lgd"
      exact ⟨_, g, rfl, hgt.up (X.dh.trans s), p.gk g (List.mem_of_getElem? hg'), fun H3 s3 => ky _ s3⟩
    replace X := X.trans (Ext.grow X.s s2)
    replace hs := s2 _ _ hs
    replace hg0 := s2 _ _ hg0
    replace hw0 := s2 _ _ hw0
    have e1 : (List.replicate xs.length true).all id = true := by simp
    walk_at "lgd"
    rw [e1]
    walk_at "lgd"
    refine ⟨pg, pw, xs, ys, gs, ws, rfl, hg0, hw0, al_mono (fun v a q => GtV.up X.dh q) hG, al_mono (fun v a q => WdV.up X.dh q) hW, p, fun H3 s3 => ?_⟩
    replace X := X.trans (Ext.grow X.s s3)
    replace hs := s3 _ _ hs
    replace hg0 := s3 _ _ hg0
    replace hw0 := s3 _ _ hw0
    walk_at "lgd"
    refine ⟨xs.length, pw, ys, ws, rfl, hw0, al_mono (fun v a q => WdV.up X.dh q) hW, by omega, by omega, p.rk, fun H4 s4 => ?_⟩
    replace X := X.trans (Ext.grow X.s s4)
    replace hs := s4 _ _ hs
    replace hg0 := s4 _ _ hg0
    replace hw0 := s4 _ _ hw0
    walk_at "lgd"
    refine ⟨pg, xs, rfl, hg0, fun q5 hq5 => ?_⟩
    have Y5 := Ext.new (o := .lst xs) X.s hq5
    have f5 := Y5.out hs f2
    have d5 : upd D0 q5 (.lst xs) q5 = _ := upd_same
    replace hs := at_upd (o' := .lst xs) hq5 hs
    replace hw0 := at_upd (o' := .lst xs) hq5 hw0
    replace X := X.trans Y5
    clear Y5
    generalize upd H4 q5 (.lst xs) = H5 at X hs hw0 ⊢
    generalize upd D0 q5 (.lst xs) = D5 at X d5 f5
    walk_at "lgd"
    replace X := X.mut (o := .ins (He.ga K "Net") dx (putF "gates" (.ref q5) [])) f1 f5
    have nw : pw ≠ self := ne_of hw0 hs (fun z => by cases z)
    replace hw0 := at_mut (o' := .ins (He.ga K "Net") dx (putF "gates" (.ref q5) [])) nw hw0
    replace hs := upd_same (H := H5) (a := self) (o := .ins (He.ga K "Net") dx (putF "gates" (.ref q5) []))
    generalize upd H5 self (.ins (He.ga K "Net") dx (putF "gates" (.ref q5) [])) = H6 at X hs hw0 ⊢
    walk_at "lgd"
    refine ⟨pw, ys, rfl, hw0, fun q7 hq7 => ?_⟩
    have Y7 := Ext.new (o := .lst ys) X.s hq7
    have f7 := Y7.out hs f5
    have d7 : upd D5 q7 (.lst ys) q7 = _ := upd_same
    have d57 := Y7.d _ _ d5
    replace hs := at_upd (o' := .lst ys) hq7 hs
    replace X := X.trans Y7
    clear Y7
    generalize upd H6 q7 (.lst ys) = H7 at X hs ⊢
    generalize upd D5 q7 (.lst ys) = D7 at X d7 d57 f7
    walk_at "lgd"
    have X8 := (X.mut (o := .ins (He.ga K "Net") dx (putF "wires" (.ref q7) (putF "gates" (.ref q5) []))) f1 f7).fix f1 f7 upd_same
    have s8 := same_upd (o := .ins (He.ga K "Net") dx (putF "wires" (.ref q7) (putF "gates" (.ref q5) []))) f7
    exact k _ _ X8 ⟨self, dx, q5, q7, xs, ys, rfl, upd_same, s8 _ _ d57, s8 _ _ d7, GX.up X8.d hG.gx, WX'.up X8.d hW.wx⟩
end

/-! ### the law's state: a list that changes, at ps -/
def XS (ps : Addr) (D H D' H' : Hp) : Prop := Ext D (del H ps) D' H'
theorem del_same' {H : Hp} {p : Addr} : Same (del H p) H := fun a o e => by
  by_cases c : a = p
  · subst c
    rw [del_same] at e
    cases e
  · rw [del_ne c] at e
    exact e
theorem del_none {H : Hp} {p a : Addr} (h : H a = none) : del H p a = none := by
  by_cases c : a = p
  · subst c
    exact del_same
  · rw [del_ne c]
    exact h
theorem XS.of_ext {ps : Addr} {D H D' H' : Hp} (x : Ext D H D' H') : XS ps D H D' H' := ⟨x.d, del_same'.trans x.h, x.s, fun a ha => x.f a fun z => ha (del_none z)⟩
theorem XS.refl {ps : Addr} {D H : Hp} (s : Same D H) : XS ps D H D H := XS.of_ext (Ext.refl s)
theorem XS.s {ps : Addr} {D H D' H' : Hp} (x : XS ps D H D' H') : Same D' H' := Ext.s x
theorem XS.d {ps : Addr} {D H D' H' : Hp} (x : XS ps D H D' H') : Same D D' := Ext.d x
theorem XS.dh {ps : Addr} {D H D' H' : Hp} (x : XS ps D H D' H') : Same D H' := (Ext.d x).trans (Ext.s x)
theorem XS.at_ {ps a : Addr} {D H D' H' : Hp} {o : HO} (x : XS ps D H D' H') (n : a ≠ ps) (h : H a = some o) : H' a = some o := Ext.h x _ _ (by rw [del_ne n]; exact h)
theorem XS.free {ps a : Addr} {D H D' H' : Hp} (x : XS ps D H D' H') (n : a ≠ ps) (h : H' a = none) : H a = none := by
  have := (Ext.h x).free h
  rw [del_ne n] at this
  exact this
/-- what stood in H and not in D stands not in D' -/
theorem XS.out {ps a : Addr} {D H D' H' : Hp} {o : HO} (x : XS ps D H D' H') (n : a ≠ ps) (h : H a = some o) (d : D a = none) : D' a = none := by
  rw [Ext.f x a (by rw [del_ne n, h]; exact fun z => nomatch z)]
  exact d
theorem XS.set {ps : Addr} {D H D' H' : Hp} {o : HO} (x : XS ps D H D' H') (d : D' ps = none) : XS ps D H D' (upd H' ps o) := Ext.mut x del_same d
theorem XS.trans {ps : Addr} {D H D1 H1 D2 H2 : Hp} (a : XS ps D H D1 H1) (b : XS ps D1 H1 D2 H2) : XS ps D H D2 H2 := by
  refine ⟨a.d.trans b.d, fun x o e => ?_, b.s, fun x hx => ?_⟩
  · have n : x ≠ ps := fun z => by
      rw [z, del_same] at e
      cases e
    exact Ext.h b _ _ (by rw [del_ne n]; exact Ext.h a _ _ e)
  · have n : x ≠ ps := fun z => hx (by rw [z]; exact del_same)
    have h1 : H1 x ≠ none := fun z => hx ((Ext.h a).free z)
    rw [Ext.f b x (by rw [del_ne n]; exact h1), Ext.f a x hx]
theorem XS.ext {ps : Addr} {D H D1 H1 D2 H2 : Hp} (a : XS ps D H D1 H1) (b : Ext D1 H1 D2 H2) : XS ps D H D2 H2 := a.trans (XS.of_ext b)
/-- a new thing of ours is done changing -/
theorem XS.fix {ps p : Addr} {D H D1 H1 : Hp} {o : HO} (x : XS ps D H D1 H1) (h : H p = none) (d : D1 p = none) (e : H1 p = some o) : XS ps D H (upd D1 p o) H1 := Ext.fix x (del_none h) d e
theorem XS.mut {ps p : Addr} {D H D1 H1 : Hp} {o : HO} (x : XS ps D H D1 H1) (h : H p = none) (d : D1 p = none) : XS ps D H D1 (upd H1 p o) := Ext.mut x (del_none h) d
theorem w_seqM {s1 s2 : TS} {Ed : Ends} {σ : St} {H : Hp} {Mid : St → Hp → Prop} (h1 : ∀ Ed' : Ends, (∀ σ H, Mid σ H → Ed'.nx σ H) → Ed'.rt = Ed.rt → s1 Ed' σ H) (h2 : ∀ σ H, Mid σ H → s2 Ed σ H) : tSeq s1 s2 Ed σ H := h1 { Ed with nx := s2 Ed } h2 rfl
/-- the state -/
def StV (sv : List V) : Prop := (∃ c : Int, sv = [.int c]) ∨ ∃ a b c : Int, sv = [.int a, .int b, .int c]
/-- a step that ends with the state in order -/
def Sv (ps : Addr) (H : Hp) : Prop := ∃ sv, H ps = some (.lst sv) ∧ StV sv
theorem fmod_in {a b : Int} (h : 0 < b) : 0 ≤ a.fmod b ∧ a.fmod b < b := by
  rw [Int.fmod_eq_emod_of_nonneg _ (Int.le_of_lt h)]
  exact ⟨Int.emod_nonneg _ (by omega), Int.emod_lt_of_pos _ h⟩
/-- a comprehension whose elements change the state -/
theorem lcS {A : Type} {J : It} {D H : Hp} {σ : St} {Q : VK} {g : TG} {te : TE} {vs : List Nat} {n : Nat} {R0 : Nat → V → Hp → Hp → Prop} (ps : Addr) (S : Src J D n R0) (e : Same D H) (dps : D ps = none) (sv : Sv ps H) (small : n < 100000) (R : V → Hp → A → Prop) (mono : ∀ v a D1 D2, Same D1 D2 → R v D1 a → R v D2 a)
    (turn : ∀ (i : Nat) (x : V) (D' H' H'' : Hp), i < n → Same D D' → Same D' H' → D' ps = none → Sv ps H' → R0 i x H' H'' → ∀ Qy : VK, (∀ y a D4 H4, XS ps D' H' D4 H4 → D4 ps = none → Sv ps H4 → R y D4 a → Qy y H4) → g x (wipe σ vs) H'' fun σ2 H2 => wipe σ2 vs = wipe σ vs ∧ te σ2 H2 Qy)
    (fin : ∀ q acc as D' H', H q = none → XS ps D H D' H' → D' ps = none → D' q = none → Sv ps H' → H' q = some (.lst acc) → Al R D' acc as → acc.length = n → Q (.ref q) H') : WL J g tYes te vs σ H Q := fun L hL => by
  have nLp : L ≠ ps := fun z => by
    obtain ⟨sv, h, _⟩ := sv
    rw [z, h] at hL
    cases hL
  have sv' : Sv ps (upd H L (.lst [])) := by
    obtain ⟨s, h, q⟩ := sv
    exact ⟨s, at_upd hL h, q⟩
  refine ⟨fun i m H' => m + i = n ∧ ∃ acc as D', XS ps D H D' H' ∧ D' ps = none ∧ D' L = none ∧ Sv ps H' ∧ H' L = some (.lst acc) ∧ Al R D' acc as ∧ acc.length = i, ⟨n, rfl, [], [], D, XS.of_ext (Ext.hide e hL), dps, e.free hL, sv', upd_same, trivial, rfl⟩, fun i m H' hw => ?_⟩
  obtain ⟨hm, acc, as, D', x, dp, dL, svH, hA, al, la⟩ := hw
  by_cases hi : i < n
  · refine .inr ⟨S.go i H' x.dh hi, fun H2 => ∃ acc as D', XS ps D H D' H2 ∧ D' ps = none ∧ D' L = none ∧ Sv ps H2 ∧ H2 L = some (.lst acc) ∧ Al R D' acc as ∧ acc.length = i + 1, fun H2 p => ⟨m - 1, by omega, by omega, p⟩, fun v H'' y => ?_⟩
    refine turn i v D' H' H'' hi x.d x.s dp svH (S.yl i H' v H'' x.dh hi y) _ fun z a D4 H4 x4 dp4 sv4 r4 => ?_
    have hA4 := x4.at_ nLp hA
    have dL4 := x4.out nLp hA dL
    refine ⟨acc, hA4, Nat.lt_of_lt_of_le (show acc.length < 100000 by omega) (by decide), acc ++ [z], as ++ [a], D4, (x.trans x4).mut hL dL4, dp4, dL4, ?_, upd_same, al_snoc (al_mono (fun v a q => mono v a _ _ x4.d q) al) r4, by rw [List.length_append, la]; rfl⟩
    obtain ⟨s, h, q⟩ := sv4
    exact ⟨s, by rw [upd_ne (Ne.symm nLp)]; exact h, q⟩
  · have e2 : i = n := by omega
    subst e2
    exact .inl ⟨S.stop H' x.dh, fin L acc as D' H' hL x dp dL svH hA al la⟩
section
variable {K : PySem.W.Frag} {mg : Str → Option Value} {P : Program} {w : World} {base : Heap}
abbrev N_law_cell_at : List Str := ["_law_script", "_law_k"]
theorem sc_law_cell_at : FnScope N_law_cell_at (["_law_script", "_law_k"] : List Str) (defScope s_law_cell_at) := ⟨rfl, rfl, rfl, by decide +kernel, rfl, by decide +kernel, by decide +kernel⟩

def sp_law_cell_at (K : PySem.W.Frag) : Sp := fun vs H Q _ => ∃ (p : Addr) (k : Nat) (ns : List Int), vs = [.ref p, .int (k : Nat)] ∧ SqL K H p (ns.map V.int) ∧ ∀ c, Q (.int c) H
theorem ok_law_cell_at (T : Tx K mg) : CalG P w K mg base CX0 1 "_law_cell_at" ["_law_script", "_law_k"] (sp_law_cell_at K) :=
  calG T 48 rfl "_law_cell_at" rfl (by decide +kernel) sc_law_cell_at (fun _ _ _ _ _ _ us hl => match us, hl with | [_, _], _ => rfl) (fun vs H Q E ⟨_, _, _, e, _⟩ => by rw [e]; rfl) fun cdv f A outer s H vs Q E hr ⟨p, n, ns, e, hp, k⟩ => by
    subst e
    refine ⟨_, (pss_cons (ps_if (pt_cmpR op_lt (pv 1) (pe_callB (c_lenK (K := K) rfl) (by rfl) (T.fr "len") PySem.boot_len (pa_cons (pv 0) pa_nil)) (nomark _)) (pss_one (ps_ret (pe_ix (ixk (K := K) rfl) (pv 0) (pv 1) (fun _ _ => rfl)))) pss_nil)
    (pss_one (ps_ret pe_int))), ?_⟩
    walk_at "lgd"
    refine w_lnK hp ?_
    walk_at "lgd"
    by_cases c : (n : Int) < ((ns.map V.int).length : Nat)
    · walk_at "lgd"
      have hn : n < ns.length := by
        rw [List.length_map] at c
        omega
      refine ⟨p, _, _, .int ns[n], rfl, rfl, hp, atN ?_, k _⟩
      rw [List.getElem?_map, List.getElem?_eq_getElem hn]
      rfl
    · walk_at "lgd"
      exact k 0
abbrev N_law_digit : List Str := ["_law_state", "_law_base", "_law_cell", "_law_found", "_law_number"]
theorem sc_law_digit : FnScope N_law_digit (["_law_state", "_law_base"] : List Str) (defScope s_law_digit) := ⟨rfl, rfl, rfl, by decide +kernel, rfl, by decide +kernel, by decide +kernel⟩

def sp_law_digit : Sp := fun vs H Q _ => ∃ (ps : Addr) (b : Int) (D : Hp), vs = [.ref ps, .int b] ∧ 0 < b ∧ b < 1000000 ∧ Same D H ∧ D ps = none ∧ Sv ps H ∧ ∀ d H', XS ps D H D H' → Sv ps H' → 0 ≤ d → d < b → Q (.int d) H'
theorem ok_law_digit (T : Tx K mg) : CalG P w K mg base CX0 1 "_law_digit" ["_law_state", "_law_base"] sp_law_digit :=
  calG T 49 rfl "_law_digit" rfl (by decide +kernel) sc_law_digit (fun _ _ _ _ _ _ us hl => match us, hl with | [_, _], _ => rfl) (fun vs H Q E ⟨_, _, _, e, _⟩ => by rw [e]; rfl) fun cdv f A outer s H vs Q E hr ⟨ps, b, D, e, b0, b1, sD, dps, ⟨sv, hsv, hst⟩, k⟩ => by
    subst e
    refine ⟨_, (pss_cons (ps_if (pt_cmpR op_eq (pe_callB c_lenL (by rfl) (T.fr "len") PySem.boot_len (pa_cons (pv 0) pa_nil)) pe_int (nomark _)) (pss_cons (ps_set (i := 2) sc_law_digit.nd rfl (Or.inl rfl) (pe_ix ixl (pv 0) pe_int (fun _ _ => rfl)))
    (pss_cons (ps_asg (pe_ix ixl (pe_lst (pa_cons pe_int (pa_cons (pv 2) pa_nil))) (pe_callTy call_int1 (by rfl) (T.fr "int") (by decide +kernel) (pa_cons (pe_cmpR op_ge (pv 2) (pe_op op_pow pe_int pe_int) (nomark _)) pa_nil)) (fun _ _ => rfl)) (pg_sub (pv 0) pe_int set_list))
    (pss_one (ps_expr (pe_bm PySem.F.plainAttrs_list PySem.F.slot_list_extend PySem.F.type_list_extend mt_extend (pv 0) (pa_cons (pe_lst (pa_cons (pe_op op_modN (pv 2) pe_int) (pa_cons pe_int pa_nil))) pa_nil)))))) pss_nil)
    (pss_cons (ps_if (pt_cmpR op_gt (pe_ix ixl (pv 0) pe_int (fun _ _ => rfl)) pe_int (nomark _)) (pss_cons (ps_set (i := 3) sc_law_digit.nd rfl (Or.inl rfl) (pe_op op_modN (pe_ix ixl (pv 0) pe_int (fun _ _ => rfl)) (pv 1)))
    (pss_cons (ps_asg (pe_op op_fdivN (pe_ix ixl (pv 0) pe_int (fun _ _ => rfl)) (pv 1)) (pg_sub (pv 0) pe_int set_list))
    (pss_one (ps_ret (pv 3))))) pss_nil)
    (pss_cons (ps_asg (pe_op op_add (pe_ix ixl (pv 0) pe_int (fun _ _ => rfl)) pe_int) (pg_sub (pv 0) pe_int set_list))
    (pss_cons (ps_set (i := 4) sc_law_digit.nd rfl (Or.inl rfl) (pe_op op_modN (pe_op op_mul (pe_op op_add (pe_op op_add (pe_ix ixl (pv 0) pe_int (fun _ _ => rfl)) (pe_op op_mul pe_int (pe_ix ixl (pv 0) pe_int (fun _ _ => rfl)))) pe_int) pe_int) pe_int))
    (pss_cons (ps_set (i := 4) sc_law_digit.nd rfl (Or.inl rfl) (pe_op op_modN (pe_op op_mul (pv 4) (pe_op op_add (pe_op op_fdivN (pv 4) pe_int) pe_int)) pe_int))
    (pss_one (ps_ret (pe_op op_modN (pe_op op_modN (pe_op op_mul (pv 4) (pe_op op_add (pe_op op_fdivN (pv 4) pe_int) pe_int)) pe_int) (pv 1))))))))), ?_⟩
    refine w_seqM (Mid := fun σ H1 => ∃ (z : Option V) (a b' c : Int), XS ps D H D H1 ∧ H1 ps = some (.lst [.int a, .int b', .int c]) ∧ σ = [some (.ref ps), some (.int b), z, none, none]) (fun Ed nx rt => ?_) ?_
    · rcases hst with ⟨c, rfl⟩ | ⟨a, b', c, rfl⟩
      · walk_at "lgd"
        intro n1 hn1
        have x1 := (XS.refl (ps := ps) sD).ext (Ext.hide (o := .lst [V.int 0, .int c]) sD hn1)
        have h1 := at_upd (o' := .lst [V.int 0, .int c]) hn1 hsv
        have hn := upd_same (H := H) (a := n1) (o := .lst [V.int 0, .int c])
        generalize upd H n1 (.lst [V.int 0, .int c]) = H1 at x1 h1 hn ⊢
        walk_at "lgd"
        show rIL (.ref n1) (.int (if decide ((10 : Int) ^ (18 : Int).toNat ≤ c) = true then 1 else 0)) _ _
        by_cases q : (10 : Int) ^ (18 : Int).toNat ≤ c
        · have e1 : decide ((10 : Int) ^ (18 : Int).toNat ≤ c) = true := decide_eq_true q
          rw [e1]
          refine w_il hn (atN (j := 1) rfl) ?_
          refine w_gS ?_
          walk_at "lgd"
          refine w_setL (j := 0) h1 (Nat.succ_pos _) ?_
          have x2 := x1.set (o := .lst [.int c]) dps
          have h2 := upd_same (H := H1) (a := ps) (o := .lst [V.int c])
          show Ends.nx _ _ (upd H1 ps (.lst [.int c]))
          generalize upd H1 ps (.lst [V.int c]) = H2 at x2 h2 ⊢
          walk_at "lgd"
          intro n3 hn3
          have x3 := x2.ext (Ext.hide (o := .lst [V.int (c.fmod 2147483647), .int 0]) x2.s hn3)
          refine ⟨ps, n3, _, _, rfl, rfl, at_upd hn3 h2, upd_same, Nat.le_trans (show 1 + 2 ≤ 1000 by decide) (by decide), ?_⟩
          exact nx _ _ ⟨_, _, _, _, x3.set dps, upd_same, rfl⟩
        · have e1 : decide ((10 : Int) ^ (18 : Int).toNat ≤ c) = false := decide_eq_false q
          rw [e1]
          refine w_il hn (atN (j := 0) rfl) ?_
          refine w_gS ?_
          walk_at "lgd"
          refine w_setL (j := 0) h1 (Nat.succ_pos _) ?_
          have x2 := x1.set (o := .lst [.int 0]) dps
          have h2 := upd_same (H := H1) (a := ps) (o := .lst [V.int 0])
          show Ends.nx _ _ (upd H1 ps (.lst [.int 0]))
          generalize upd H1 ps (.lst [V.int 0]) = H2 at x2 h2 ⊢
          walk_at "lgd"
          intro n3 hn3
          have x3 := x2.ext (Ext.hide (o := .lst [V.int (c.fmod 2147483647), .int 0]) x2.s hn3)
          refine ⟨ps, n3, _, _, rfl, rfl, at_upd hn3 h2, upd_same, Nat.le_trans (show 1 + 2 ≤ 1000 by decide) (by decide), ?_⟩
          exact nx _ _ ⟨_, _, _, _, x3.set dps, upd_same, rfl⟩
      · walk_at "lgd"
        exact nx _ _ ⟨_, _, _, _, XS.refl sD, hsv, rfl⟩
    · rintro σ H1 ⟨z, a, b', c, x1, h1, rfl⟩
      walk_at "lgd"
      by_cases q : 0 < a
      · walk_at "lgd"
        refine w_gS ?_
        walk_at "lgd"
        refine w_setL (j := 0) h1 (Nat.succ_pos _) ?_
        walk_at "lgd"
        obtain ⟨f1, f2⟩ := fmod_in (a := a) b0
        exact k _ _ (x1.set dps) ⟨_, upd_same, .inr ⟨_, _, _, rfl⟩⟩ f1 f2
      · walk_at "lgd"
        refine w_gS ?_
        walk_at "lgd"
        refine w_setL (j := 2) h1 (show 2 < 3 by decide) ?_
        have x2 := x1.set (o := .lst [.int a, .int b', .int (c + 1)]) dps
        have h2 := upd_same (H := H1) (a := ps) (o := .lst [V.int a, .int b', .int (c + 1)])
        show Ends.nx _ _ (upd H1 ps (.lst [.int a, .int b', .int (c + 1)]))
        generalize upd H1 ps (.lst [V.int a, .int b', .int (c + 1)]) = H2 at x2 h2 ⊢
        walk_at "lgd"
        refine w_iC (c := CMul) (.inl (by decide)) ?_
        walk_at "lgd"
        refine w_mul (by decide) ?_
        walk_at "lgd"
        obtain ⟨f1, f2⟩ := fmod_in (a := (b' + 7919 * (c + 1) + 1) * 48271) (b := 2147483647) (by decide)
        refine w_iC (c := CMul) (.inl ⟨by omega, by omega⟩) ?_
        walk_at "lgd"
        obtain ⟨g1, g2⟩ := fmod_in (a := ((b' + 7919 * (c + 1) + 1) * 48271).fmod 2147483647 * ((((b' + 7919 * (c + 1) + 1) * 48271).fmod 2147483647).fdiv 1009 + 69621)) (b := 2147483647) (by decide)
        refine w_iC (c := CMul) (.inl ⟨by omega, by omega⟩) ?_
        walk_at "lgd"
        exact k _ _ x2 ⟨_, h2, .inr ⟨_, _, _, rfl⟩⟩ (fmod_in b0).1 (fmod_in b0).2
end

theorem pickI {xs : List V} {d : Int} (h0 : 0 ≤ d) (h1 : d < xs.length) : ∃ v, atI xs d = some v ∧ v ∈ xs := by
  have hn : d.toNat < xs.length := by omega
  refine ⟨xs[d.toNat], ?_, List.getElem_mem hn⟩
  have h := atN (xs := xs) (j := d.toNat) (List.getElem?_eq_getElem hn)
  have e : ((d.toNat : Nat) : Int) = d := by omega
  rw [e] at h
  exact h
def midK : List Str := ["sum", "times", "most", "least", "first", "one", "sum"]
theorem midK_ok : ∀ k ∈ midK, inV (.str k) kinds = true ∧ port k = false ∧ PyData.strOk k = true ∧ k ≠ "in" ∧ k ≠ "out" := by
  intro k hk
  unfold midK at hk
  simp only [List.mem_cons, List.not_mem_nil, or_false] at hk
  rcases hk with h | h | h | h | h | h | h <;> subst h <;> exact ⟨by decide +kernel, by decide +kernel, by decide +kernel, by decide +kernel, by decide +kernel⟩
def GSh (gs : List Gd) (ins inner outs : Nat) : Prop := ∃ mid : List Gd, gs = (List.replicate ins (("in", 0) : Gd)) ++ mid ++ (List.replicate outs (("out", 0) : Gd)) ∧ mid.length = inner ∧ ∀ g ∈ mid, g.1 ∈ midK ∧ 0 ≤ g.2 ∧ g.2 ≤ 100
theorem al_rep {A : Type} {R : V → Hp → A → Prop} {H : Hp} {v : V} {a : A} (h : R v H a) : ∀ n : Nat, Al R H (List.replicate n v) (List.replicate n a)
  | 0 => trivial
  | n + 1 => ⟨h, al_rep h n⟩
theorem flat_rep {x : V} : ∀ n : Nat, (List.replicate n [x]).flatten = List.replicate n x
  | 0 => rfl
  | n + 1 => by
    rw [List.replicate_succ, List.flatten_cons, flat_rep n]
    rfl
theorem w_rep {H : Hp} {Q : VK} {l : Addr} {x : V} {k : Int} (h : H l = some (.lst [x])) (h0 : 0 ≤ k) (h1 : k < 1000) (q : ∀ p, H p = none → Q (.ref p) (upd H p (.lst (List.replicate k.toNat x)))) : rRep (.ref l) (.int k) H Q :=
  ⟨l, k, [x], rfl, rfl, h, by omega, by omega, Nat.le_trans (show 1 * k.toNat ≤ 1000 by omega) (by decide), fun p hp => by
    rw [flat_rep]
    exact q p hp⟩
theorem Sv.upd {ps p : Addr} {H : Hp} {o : HO} (s : Sv ps H) (n : H p = none) : Sv ps (upd H p o) := by
  obtain ⟨sv, h, q⟩ := s
  exact ⟨sv, at_upd n h, q⟩
theorem Sv.ne {ps p : Addr} {H : Hp} (s : Sv ps H) (n : H p = none) : p ≠ ps := fun z => by
  obtain ⟨sv, h, q⟩ := s
  rw [z, h] at n
  cases n
section
variable {K : PySem.W.Frag} {mg : Str → Option Value} {P : Program} {w : World} {base : Heap}
abbrev N_law_worths : List Str := ["_law_state", "_law_many", "_law_k"]
theorem sc_law_worths : FnScope N_law_worths (["_law_state", "_law_many"] : List Str) (defScope s_law_worths) := ⟨rfl, rfl, rfl, by decide +kernel, rfl, by decide +kernel, by decide +kernel⟩

def sp_law_worths : Sp := fun vs H Q _ => ∃ (ps : Addr) (m : Nat) (D : Hp), vs = [.ref ps, .int (m : Nat)] ∧ m ≤ 10 ∧ Same D H ∧ D ps = none ∧ Sv ps H ∧
  ∀ (q : Addr) (ks : List Int) (D' H' : Hp), XS ps D H D' H' → D' ps = none → Sv ps H' → D' q = some (.tup (ks.map V.int)) → ks.length = m → (∀ k ∈ ks, 0 ≤ k ∧ k ≤ 96) → Q (.ref q) H'
theorem ok_law_worths (T : Tx K mg) : CalG P w K mg base CX0 2 "_law_worths" ["_law_state", "_law_many"] sp_law_worths :=
  calG T 51 rfl "_law_worths" rfl (by decide +kernel) sc_law_worths (fun _ _ _ _ _ _ us hl => match us, hl with | [_, _], _ => rfl) (fun vs H Q E ⟨_, _, _, e, _⟩ => by rw [e]; rfl) fun cdv f A outer s H vs Q E hr ⟨ps, m, D, e, hm, sD, dps, sv, k⟩ => by
    subst e
    refine ⟨_, (pss_one (ps_ret (pe_callTy c_tup (by rfl) (T.fr "tuple") (by decide +kernel) (pa_cons (pe_lc (own := [("_law_k", 2)]) (g := gName 2) (tt := tYes) rfl sc_law_worths.nd (pi_range1 (by rfl) (T.fr "range") (pa_cons (pv 1) pa_nil)) (blkOk_by (N := N_law_worths) (sc := defScope s_law_worths) (by decide +kernel)) (fun _ _ _ _ _ => (pg_name (i := 2) sc_law_worths.nd rfl (Or.inl rfl))) (fun _ _ _ _ _ => pts_nil) (fun _ _ _ _ _ => (pk (ok_law_digit T) hr (by decide) (pa_cons (pv 0) (pa_cons pe_int pa_nil))))) pa_nil)))), ?_⟩
    walk_at "lgd"
    refine w_rR1 (n := m) rfl (by omega) ?_
    refine lcS ps src_range0 sD dps sv (by omega) (fun v _ (k : Int) => v = .int k ∧ 0 ≤ k ∧ k ≤ 96) (fun _ _ _ _ _ h => h) (fun i x D' H' H'' hi d s dp sv' ⟨e1, e2⟩ Qy ky => ?_) fun q acc ks D' H' hq X dp dq sv' hq' al la => ?_
    · subst e1 e2
      walk_at "lgd"
      refine ⟨ps, 97, D', rfl, by decide, by decide, s, dp, sv', fun d H2 x2 sv2 d0 d1 => ?_⟩
      exact ky _ d _ _ x2 dp sv2 ⟨rfl, d0, by omega⟩
    · have ea : acc = ks.map V.int := by
        have key : ∀ (acc : List V) (ks : List Int), Al (fun v _ (k : Int) => v = .int k ∧ 0 ≤ k ∧ k ≤ 96) D' acc ks → acc = ks.map V.int ∧ ∀ k ∈ ks, 0 ≤ k ∧ k ≤ 96 := by
          intro acc
          induction acc with
          | nil =>
            intro ks h
            cases ks with
            | nil => exact ⟨rfl, fun k hk => by cases hk⟩
            | cons _ _ => exact h.elim
          | cons v acc ih =>
            intro ks h
            cases ks with
            | nil => exact h.elim
            | cons k ks =>
              obtain ⟨e1, e2⟩ := ih ks h.2
              rw [h.1.1, e1]
              exact ⟨rfl, fun j hj => (List.mem_cons.mp hj).elim (fun e => by rw [e]; exact h.1.2) (e2 j)⟩
        exact (key acc ks al).1
      have eb : ∀ k ∈ ks, 0 ≤ k ∧ k ≤ 96 := fun k hk => by
        obtain ⟨i, hi⟩ := List.mem_iff_getElem?.mp hk
        obtain ⟨v, hv, h⟩ := al_at al hi
        exact h.2
      have ll := al_len al
      subst ea
      walk_at "lgd"
      refine ⟨q, _, rfl, hq', fun q2 hq2 => ?_⟩
      have nq2 := sv'.ne hq2
      exact k q2 ks _ _ (X.ext (Ext.new (o := .tup (ks.map V.int)) X.s hq2)) (by rw [upd_ne (Ne.symm nq2)]; exact dp) (sv'.upd hq2) upd_same (by omega) eb
abbrev N_law_gates : List Str := ["_law_state", "_law_most", "_law_inner", "_law_ins", "_law_gates_here", "_law_k", "_law_kind"]
theorem sc_law_gates : FnScope N_law_gates (["_law_state", "_law_most"] : List Str) (defScope s_law_gates) := ⟨rfl, rfl, rfl, by decide +kernel, rfl, by decide +kernel, by decide +kernel⟩

def GatesQ (v : V) (D : Hp) : Prop := ∃ (t q : Addr) (xs : List V) (gs : List Gd) (ins inner outs : Nat), v = .ref t ∧ D t = some (.tup [.ref q, .int (ins : Nat), .int (inner : Nat)]) ∧ D q = some (.lst xs) ∧ GsV D xs gs ∧ GSh gs ins inner outs ∧ ins ≤ 2 ∧ 1 ≤ inner ∧ inner ≤ 3 ∧ 1 ≤ outs ∧ outs ≤ 2
def sp_law_gates : Sp := fun vs H Q _ => ∃ (ps : Addr) (D : Hp), vs = [.ref ps, .int 3] ∧ Same D H ∧ D ps = none ∧ Sv ps H ∧ ∀ v D' H', XS ps D H D' H' → D' ps = none → Sv ps H' → GatesQ v D' → Q v H'
theorem ok_law_gates (T : Tx K mg) : CalG P w K mg base CX0 2 "_law_gates" ["_law_state", "_law_most"] sp_law_gates :=
  calG T 50 rfl "_law_gates" rfl (by decide +kernel) sc_law_gates (fun _ _ _ _ _ _ us hl => match us, hl with | [_, _], _ => rfl) (fun vs H Q E ⟨_, _, e, _⟩ => by rw [e]; rfl) fun cdv f A outer s H vs Q E hr ⟨ps, D, e, sD, dps, sv, k⟩ => by
    subst e
    refine ⟨_, (pss_cons (ps_set (i := 2) sc_law_gates.nd rfl (Or.inl rfl) (pe_op op_add pe_int (pk (ok_law_digit T) hr (by decide) (pa_cons (pv 0) (pa_cons (pv 1) pa_nil)))))
    (pss_cons (ps_set (i := 3) sc_law_gates.nd rfl (Or.inl rfl) (pk (ok_law_digit T) hr (by decide) (pa_cons (pv 0) (pa_cons pe_int pa_nil))))
    (pss_cons (ps_set (i := 4) sc_law_gates.nd rfl (Or.inl rfl) (pe_op op_rep (pe_lst (pa_cons (pe_tup (pa_cons pe_str (pa_cons pe_int pa_nil))) pa_nil)) (pv 3)))
    (pss_cons (ps_for PassesOwn.never rfl (pi_range1 (by rfl) (T.fr "range") (pa_cons (pv 2) pa_nil)) (pg_name (i := 5) sc_law_gates.nd rfl (Or.inl rfl)) (pss_cons (ps_set (i := 6) sc_law_gates.nd rfl (Or.inl rfl) (pe_ix ixl (pe_lst (pa_cons pe_str (pa_cons pe_str (pa_cons pe_str (pa_cons pe_str (pa_cons pe_str (pa_cons pe_str (pa_cons pe_str pa_nil)))))))) (pk (ok_law_digit T) hr (by decide) (pa_cons (pv 0) (pa_cons pe_int pa_nil))) (fun _ _ => rfl)))
    (pss_one (ps_expr (pe_bm PySem.F.plainAttrs_list PySem.F.slot_list_append PySem.F.type_list_append mt_append (pv 4) (pa_cons (pe_tup (pa_cons (pv 6) (pa_cons (pe_ix ixl (pe_lst (pa_cons (pk (ok_law_digit T) hr (by decide) (pa_cons (pv 0) (pa_cons pe_int pa_nil))) (pa_cons (pk (ok_law_digit T) hr (by decide) (pa_cons (pv 0) (pa_cons pe_int pa_nil))) (pa_cons pe_int (pa_cons pe_int pa_nil))))) (pk (ok_law_digit T) hr (by decide) (pa_cons (pv 0) (pa_cons pe_int pa_nil))) (fun _ _ => rfl)) pa_nil))) pa_nil))))))
    (pss_one (ps_ret (pe_tup (pa_cons (pe_op op_cat (pv 4) (pe_op op_rep (pe_lst (pa_cons (pe_tup (pa_cons pe_str (pa_cons pe_int pa_nil))) pa_nil)) (pe_op op_add pe_int (pk (ok_law_digit T) hr (by decide) (pa_cons (pv 0) (pa_cons pe_int pa_nil)))))) (pa_cons (pv 3) (pa_cons (pv 2) pa_nil)))))))))), ?_⟩
    walk_at "lgd"
    refine ⟨ps, 3, D, rfl, by decide, by decide, sD, dps, sv, fun d1 H1 x1 sv1 d10 d11 => ?_⟩
    walk_at "lgd"
    refine ⟨ps, 3, D, rfl, by decide, by decide, x1.s, dps, sv1, fun d2 H2 x2 sv2 d20 d21 => ?_⟩
    obtain ⟨inner, ei⟩ : ∃ n : Nat, 1 + d1 = (n : Int) := ⟨(1 + d1).toNat, by omega⟩
    obtain ⟨ins, ej⟩ : ∃ n : Nat, d2 = (n : Int) := ⟨d2.toNat, by omega⟩
    rw [ei]
    subst ej
    have X := x1.trans x2
    clear x1 x2 sv1
    walk_at "lgd"
    intro t3 ht3
    have Y3 := Ext.new (o := .tup [V.str "in", .int 0]) X.s ht3
    have n3 := sv2.ne ht3
    have dps3 : upd D t3 (.tup [V.str "in", .int 0]) ps = none := by rw [upd_ne (Ne.symm n3)]; exact dps
    have d3 : upd D t3 (.tup [V.str "in", .int 0]) t3 = _ := upd_same
    have sv3 := sv2.upd (o := .tup [V.str "in", .int 0]) ht3
    have X3 := X.ext Y3
    generalize upd H2 t3 (.tup [V.str "in", .int 0]) = H3 at X3 sv3 ⊢
    generalize upd D t3 (.tup [V.str "in", .int 0]) = D3 at X3 d3 dps3
    clear Y3 X
    walk_at "lgd"
    intro l4 hl4
    have X4 := X3.ext (Ext.hide (o := .lst [V.ref t3]) X3.s hl4)
    have sv4 := sv3.upd (o := .lst [V.ref t3]) hl4
    have h4 := upd_same (H := H3) (a := l4) (o := .lst [V.ref t3])
    generalize upd H3 l4 (.lst [V.ref t3]) = H4 at X4 sv4 h4 ⊢
    walk_at "lgd"
    refine w_rep h4 (by omega) (by omega) fun pl hpl => ?_
    have ej : ((ins : Nat) : Int).toNat = ins := by omega
    rw [ej]
    have npl := sv4.ne hpl
    have hpl0 := X4.free npl hpl
    have dpl := X4.s.free hpl
    have X5 := X4.ext (Ext.hide (o := .lst (List.replicate ins (V.ref t3))) X4.s hpl)
    have sv5 := sv4.upd (o := .lst (List.replicate ins (V.ref t3))) hpl
    have h5 := upd_same (H := H4) (a := pl) (o := .lst (List.replicate ins (V.ref t3)))
    generalize upd H4 pl (.lst (List.replicate ins (V.ref t3))) = H5 at X5 sv5 h5 ⊢
    walk_at "lgd"
    refine w_rR1 (n := inner) rfl (by omega) ?_
    have gt3 : GtV (.ref t3) D3 ("in", 0) := ⟨t3, rfl, d3⟩
    refine for_src src_range0 X5.s (fun i σ Hc => ∃ (D' : Hp) (acc : List V) (mid : List Gd), XS ps D H D' Hc ∧ Same D3 D' ∧ D' ps = none ∧ Sv ps Hc ∧ D' pl = none ∧ Hc pl = some (.lst acc) ∧ GsV D' acc (List.replicate ins (("in", 0) : Gd) ++ mid) ∧ mid.length = i ∧ (∀ g ∈ mid, g.1 ∈ midK ∧ 0 ≤ g.2 ∧ g.2 ≤ 100) ∧ ∃ z5 z6, σ = [some (.ref ps), some (.int 3), some (.int (inner : Nat)), some (.int (ins : Nat)), some (.ref pl), z5, z6]) ⟨D3, _, [], X5, Same.refl _, dps3, sv5, dpl, h5, by rw [List.append_nil]; exact al_rep gt3 ins, rfl, (fun g hg => by cases hg), _, _, rfl⟩ (fun i x σ Hc H'' hi sx ⟨D', acc, mid, X, s3, dp, sv, dl, hl, al, lm, mk, z5, z6, e⟩ ⟨r1, r2⟩ => ?_) fun σ Hc sx ⟨D', acc, mid, X, s3, dp, sv, dl, hl, al, lm, mk, z5, z6, e⟩ => ?_
    · subst r1 r2 e
      walk_at "lgd"
      intro l6 hl6
      have n6 := sv.ne hl6
      have X6 := X.ext (Ext.hide (o := .lst (midK.map V.str)) X.s hl6)
      have sv6 := sv.upd (o := .lst (midK.map V.str)) hl6
      have h6 := upd_same (H := H'') (a := l6) (o := .lst (midK.map V.str))
      have hl6' := at_upd (o' := .lst (midK.map V.str)) hl6 hl
      show tCall _ _ _ _ _ (upd H'' l6 (.lst (midK.map V.str))) _
      generalize upd H'' l6 (.lst (midK.map V.str)) = H6 at X6 sv6 h6 hl6' ⊢
      walk_at "lgd"
      refine ⟨ps, 7, D', rfl, by decide, by decide, X6.s, dp, sv6, fun d7 H7 x7 sv7 d70 d71 => ?_⟩
      have X7 := X6.trans x7
      have h7 := x7.at_ n6 h6
      have hl7 := x7.at_ npl hl6'
      obtain ⟨v7, e7, m7⟩ := pickI (xs := midK.map V.str) d70 (by rw [List.length_map]; exact d71)
      obtain ⟨kd, hkd, rfl⟩ := List.mem_map.mp m7
      refine w_il h7 e7 ?_
      walk_at "lgd"
      have sD7 := X7.s
      -- the waits
      refine ⟨ps, 10, D', rfl, by decide, by decide, sD7, dp, sv7, fun d8 H8 x8 sv8 d80 d81 => ?_⟩
      have X8 := X7.trans x8
      have hl8 := x8.at_ npl hl7
      walk_at "lgd"
      refine ⟨ps, 4, D', rfl, by decide, by decide, X8.s, dp, sv8, fun d9 H9 x9 sv9 d90 d91 => ?_⟩
      have X9 := X8.trans x9
      have hl9 := x9.at_ npl hl8
      walk_at "lgd"
      intro l10 hl10
      have n10 := sv9.ne hl10
      have X10 := X9.ext (Ext.hide (o := .lst [V.int d8, .int d9, .int 0, .int 100]) X9.s hl10)
      have sv10 := sv9.upd (o := .lst [V.int d8, .int d9, .int 0, .int 100]) hl10
      have h10 := upd_same (H := H9) (a := l10) (o := .lst [V.int d8, .int d9, .int 0, .int 100])
      have hl10' := at_upd (o' := .lst [V.int d8, .int d9, .int 0, .int 100]) hl10 hl9
      generalize upd H9 l10 (.lst [V.int d8, .int d9, .int 0, .int 100]) = H10 at X10 sv10 h10 hl10' ⊢
      walk_at "lgd"
      refine ⟨ps, 4, D', rfl, by decide, by decide, X10.s, dp, sv10, fun d11 H11 x11 sv11 d110 d111 => ?_⟩
      have X11 := X10.trans x11
      have h11 := x11.at_ n10 h10
      have hl11 := x11.at_ npl hl10'
      obtain ⟨v11, e11, m11⟩ := pickI (xs := [V.int d8, .int d9, .int 0, .int 100]) d110 d111
      obtain ⟨wt, rfl, w0, w1⟩ : ∃ wt : Int, v11 = .int wt ∧ 0 ≤ wt ∧ wt ≤ 100 := by
        simp only [List.mem_cons, List.not_mem_nil, or_false] at m11
        rcases m11 with h | h | h | h
        · exact ⟨_, h, by omega, by omega⟩
        · exact ⟨_, h, by omega, by omega⟩
        · exact ⟨_, h, by omega, by omega⟩
        · exact ⟨_, h, by omega, by omega⟩
      refine w_il h11 e11 ?_
      walk_at "lgd"
      intro t12 ht12
      have n12 := sv11.ne ht12
      have dl11 : D' pl = none := dl
      have Y12 := Ext.new (o := .tup [V.str kd, .int wt]) X11.s ht12
      have dl12 := Y12.out hl11 dl
      have dp12 : upd D' t12 (.tup [V.str kd, .int wt]) ps = none := by rw [upd_ne (Ne.symm n12)]; exact dp
      have d12 : upd D' t12 (.tup [V.str kd, .int wt]) t12 = _ := upd_same
      have y12 := Y12.d
      have X12 := X11.ext Y12
      have sv12 := sv11.upd (o := .tup [V.str kd, .int wt]) ht12
      have hl12 := at_upd (o' := .tup [V.str kd, .int wt]) ht12 hl11
      clear Y12
      generalize upd H11 t12 (.tup [V.str kd, .int wt]) = H12 at X12 sv12 hl12 ⊢
      generalize upd D' t12 (.tup [V.str kd, .int wt]) = D12 at X12 dl12 dp12 d12 y12
      have la := al_len al
      rw [List.length_append, List.length_replicate] at la
      walk_at "lgd"
      refine w_app hl12 (by omega) ?_
      have X13 := X12.mut (o := .lst (acc ++ [.ref t12])) hpl0 dl12
      have sv13 : Sv ps (upd H12 pl (.lst (acc ++ [.ref t12]))) := by
        obtain ⟨q1, q2, q3⟩ := sv12
        exact ⟨q1, by rw [upd_ne (Ne.symm npl)]; exact q2, q3⟩
      walk_at "lgd"
      refine ⟨(s3.trans y12).trans X13.s, D12, _, mid ++ [(kd, wt)], X13, s3.trans y12, dp12, sv13, dl12, upd_same, ?_, by rw [List.length_append, lm]; rfl, fun g hg => ?_, _, _, rfl⟩
      · rw [← List.append_assoc]
        exact al_snoc (al_mono (fun v a q => GtV.up y12 q) al) ⟨t12, rfl, d12⟩
      · rcases List.mem_append.mp hg with h | h
        · exact mk g h
        · rw [List.mem_singleton.mp h]
          exact ⟨hkd, w0, w1⟩
    · subst e
      walk_at "lgd"
      intro t6 ht6
      have n6 := sv.ne ht6
      have Y6 := Ext.new (o := .tup [V.str "out", .int 0]) X.s ht6
      have dl6 := Y6.out hl dl
      have dp6 : upd D' t6 (.tup [V.str "out", .int 0]) ps = none := by rw [upd_ne (Ne.symm n6)]; exact dp
      have d6 : upd D' t6 (.tup [V.str "out", .int 0]) t6 = _ := upd_same
      have y6 := Y6.d
      have X6 := X.ext Y6
      have sv6 := sv.upd (o := .tup [V.str "out", .int 0]) ht6
      have hl6 := at_upd (o' := .tup [V.str "out", .int 0]) ht6 hl
      clear Y6
      generalize upd Hc t6 (.tup [V.str "out", .int 0]) = H6 at X6 sv6 hl6 ⊢
      generalize upd D' t6 (.tup [V.str "out", .int 0]) = D6 at X6 dl6 dp6 d6 y6
      walk_at "lgd"
      intro l7 hl7
      have n7 := sv6.ne hl7
      have X7 := X6.ext (Ext.hide (o := .lst [V.ref t6]) X6.s hl7)
      have sv7 := sv6.upd (o := .lst [V.ref t6]) hl7
      have h7 := upd_same (H := H6) (a := l7) (o := .lst [V.ref t6])
      have hl7' := at_upd (o' := .lst [V.ref t6]) hl7 hl6
      generalize upd H6 l7 (.lst [V.ref t6]) = H7 at X7 sv7 h7 hl7' ⊢
      walk_at "lgd"
      refine ⟨ps, 2, D6, rfl, by decide, by decide, X7.s, dp6, sv7, fun d8 H8 x8 sv8 d80 d81 => ?_⟩
      have X8 := X7.trans x8
      have h8 := x8.at_ n7 h7
      have hl8 := x8.at_ npl hl7'
      obtain ⟨outs, eo⟩ : ∃ n : Nat, 1 + d8 = (n : Int) := ⟨(1 + d8).toNat, by omega⟩
      walk_at "lgd"
      rw [eo]
      refine w_rep h8 (by omega) (by omega) fun l9 hl9 => ?_
      have eo' : ((outs : Nat) : Int).toNat = outs := by omega
      rw [eo']
      have X9 := X8.ext (Ext.hide (o := .lst (List.replicate outs (V.ref t6))) X8.s hl9)
      have sv9 := sv8.upd (o := .lst (List.replicate outs (V.ref t6))) hl9
      have h9 := upd_same (H := H8) (a := l9) (o := .lst (List.replicate outs (V.ref t6)))
      have hl9' := at_upd (o' := .lst (List.replicate outs (V.ref t6))) hl9 hl8
      generalize upd H8 l9 (.lst (List.replicate outs (V.ref t6))) = H9 at X9 sv9 h9 hl9' ⊢
      have la := al_len al
      rw [List.length_append, List.length_replicate] at la
      refine w_cat hl9' h9 (by rw [List.length_replicate]; omega) fun q10 hq10 => ?_
      have n10 := sv9.ne hq10
      have Y10 := Ext.new (o := .lst (acc ++ List.replicate outs (V.ref t6))) X9.s hq10
      have dp10 : upd D6 q10 (.lst (acc ++ List.replicate outs (V.ref t6))) ps = none := by rw [upd_ne (Ne.symm n10)]; exact dp6
      have d10 : upd D6 q10 (.lst (acc ++ List.replicate outs (V.ref t6))) q10 = _ := upd_same
      have y10 := Y10.d
      have X10 := X9.ext Y10
      have sv10 := sv9.upd (o := .lst (acc ++ List.replicate outs (V.ref t6))) hq10
      clear Y10
      generalize upd H9 q10 (.lst (acc ++ List.replicate outs (V.ref t6))) = H10 at X10 sv10 ⊢
      generalize upd D6 q10 (.lst (acc ++ List.replicate outs (V.ref t6))) = D10 at X10 dp10 d10 y10
      walk_at "lgd"
      intro t11 ht11
      have n11 := sv10.ne ht11
      have Y11 := Ext.new (o := .tup [V.ref q10, .int (ins : Nat), .int (inner : Nat)]) X10.s ht11
      have g6 : GtV (.ref t6) D6 ("out", 0) := ⟨t6, rfl, d6⟩
      refine k _ _ _ (X10.ext Y11) (by rw [upd_ne (Ne.symm n11)]; exact dp10) (sv10.upd ht11) ⟨t11, q10, _, _, ins, inner, outs, rfl, upd_same, Y11.d _ _ d10, ?_, ⟨mid, rfl, lm, mk⟩, by omega, by omega, by omega, by omega, by omega⟩
      exact al_mono (fun v a q => GtV.up (y10.trans Y11.d) q) (al_app (al_mono (fun v a q => GtV.up y6 q) al) (al_rep g6 outs))
end

/-- a wire of the law's, with ends below e1 -/
def WOne (s1 ins e1 : Nat) (w : Wd) : Prop := w.s < s1 ∧ ins ≤ w.e ∧ w.e < e1 ∧ w.ks.length ≤ 3 ∧ (∀ k ∈ w.ks, 0 ≤ k ∧ k ≤ 96) ∧ (w.e ≤ w.s → w.ks ≠ [])
structure WSh (ws : List Wd) (ins inner e1 : Nat) : Prop where
  one : ∀ w ∈ ws, WOne (ins + inner) ins e1 w
  uniq : ws.Pairwise fun w w' => w.e = w'.e → w.e < ins + inner
  fed : ∀ e, ins ≤ e → e < e1 → ∃ w ∈ ws, w.e = e
  len : ws.length ≤ 3 * (min e1 (ins + inner) - ins) + (e1 - (ins + inner))
def WiresQ (ins inner n : Nat) (v : V) (D : Hp) : Prop := ∃ (q : Addr) (ys : List V) (ws : List Wd), v = .ref q ∧ D q = some (.lst ys) ∧ WsV D ys ws ∧ WSh ws ins inner n
section
variable {K : PySem.W.Frag} {mg : Str → Option Value} {P : Program} {w : World} {base : Heap}
abbrev N_law_wires : List Str := ["_law_state", "_law_gates_here", "_law_ins", "_law_inner", "_law_wires_here", "_law_end", "_law_k", "_law_start"]
theorem sc_law_wires : FnScope N_law_wires (["_law_state", "_law_gates_here", "_law_ins", "_law_inner"] : List Str) (defScope s_law_wires) := ⟨rfl, rfl, rfl, by decide +kernel, rfl, by decide +kernel, by decide +kernel⟩

def sp_law_wires : Sp := fun vs H Q _ => ∃ (ps pg : Addr) (xs : List V) (ins inner : Nat) (D : Hp), vs = [.ref ps, .ref pg, .int (ins : Nat), .int (inner : Nat)] ∧ Same D H ∧ D ps = none ∧ Sv ps H ∧ D pg = some (.lst xs) ∧ ins + inner < xs.length ∧ xs.length ≤ 10 ∧ 1 ≤ inner ∧
  ∀ v D' H', XS ps D H D' H' → D' ps = none → Sv ps H' → WiresQ ins inner xs.length v D' → Q v H'
theorem ok_law_wires (T : Tx K mg) : CalG P w K mg base CX0 3 "_law_wires" ["_law_state", "_law_gates_here", "_law_ins", "_law_inner"] sp_law_wires :=
  calG T 52 rfl "_law_wires" rfl (by decide +kernel) sc_law_wires (fun _ _ _ _ _ _ us hl => match us, hl with | [_, _, _, _], _ => rfl) (fun vs H Q E ⟨_, _, _, _, _, _, e, _⟩ => by rw [e]; rfl) fun cdv f A outer s H vs Q E hr ⟨ps, pg, xs, ins, inner, D, e, sD, dps, sv, hpg, l1, l2, l3, k⟩ => by
    subst e
    refine ⟨_, (pss_cons (ps_set (i := 4) sc_law_wires.nd rfl (Or.inl rfl) (pe_lst pa_nil))
    (pss_cons (ps_for PassesOwn.never rfl (pi_range2 (by rfl) (T.fr "range") (pa_cons (pv 2) (pa_cons (pe_callB c_lenL (by rfl) (T.fr "len") PySem.boot_len (pa_cons (pv 1) pa_nil)) pa_nil))) (pg_name (i := 5) sc_law_wires.nd rfl (Or.inl rfl)) (pss_one (ps_for PassesOwn.never rfl (pi_range1 (by rfl) (T.fr "range") (pa_cons (pe_op op_add pe_int (pe_op op_mul (pk (ok_law_digit T) hr (by decide) (pa_cons (pv 0) (pa_cons pe_int pa_nil))) (pe_callTy call_int1 (by rfl) (T.fr "int") (by decide +kernel) (pa_cons (pe_cmpR op_lt (pv 5) (pe_op op_add (pv 2) (pv 3)) (nomark _)) pa_nil)))) pa_nil)) (pg_name (i := 6) sc_law_wires.nd rfl (Or.inl rfl)) (pss_cons (ps_set (i := 7) sc_law_wires.nd rfl (Or.inl rfl) (pk (ok_law_digit T) hr (by decide) (pa_cons (pv 0) (pa_cons (pe_op op_add (pv 2) (pv 3)) pa_nil))))
    (pss_one (ps_expr (pe_bm PySem.F.plainAttrs_list PySem.F.slot_list_append PySem.F.type_list_append mt_append (pv 4) (pa_cons (pe_tup (pa_cons (pv 7) (pa_cons (pv 5) (pa_cons (pk (ok_law_worths T) hr (by decide) (pa_cons (pv 0) (pa_cons (pe_op op_add (pk (ok_law_digit T) hr (by decide) (pa_cons (pv 0) (pa_cons pe_int pa_nil))) (pe_callTy call_int1 (by rfl) (T.fr "int") (by decide +kernel) (pa_cons (pe_cmpR op_ge (pv 7) (pv 5) (nomark _)) pa_nil))) pa_nil))) pa_nil)))) pa_nil))))))))
    (pss_one (ps_ret (pv 4))))), ?_⟩
    walk_at "lgd"
    intro pl hpl
    have npl := sv.ne hpl
    have X0 := (XS.refl (ps := ps) sD).ext (Ext.hide (o := .lst []) sD hpl)
    have dl0 := sD.free hpl
    have sv0 := sv.upd (o := .lst []) hpl
    have h0 := upd_same (H := H) (a := pl) (o := .lst [])
    generalize upd H pl (.lst []) = H0 at X0 sv0 h0 ⊢
    have sD0 := X0.s
    walk_at "lgd"
    refine w_rR2 (n := xs.length - ins) (by omega) (by omega) (by omega) ?_
    refine for_range D X0.s (fun i σ Hc => ∃ (D' : Hp) (acc : List V) (ws : List Wd), XS ps D H D' Hc ∧ D' ps = none ∧ Sv ps Hc ∧ D' pl = none ∧ Hc pl = some (.lst acc) ∧ WsV D' acc ws ∧ WSh ws ins inner (ins + i) ∧ ∃ z5 z6 z7, σ = [some (.ref ps), some (.ref pg), some (.int (ins : Nat)), some (.int (inner : Nat)), some (.ref pl), z5, z6, z7]) ⟨D, [], [], X0, dps, sv0, dl0, h0, trivial, ⟨fun w hw => (by cases hw), List.Pairwise.nil, fun e h1 h2 => absurd h2 (by omega), Nat.zero_le _⟩, _, _, _, rfl⟩ (fun i σ Hc hi sx ⟨D', acc, ws, X, dp, sv, dl, hl, al, sh, z5, z6, z7, e⟩ => ?_) fun σ Hc sx ⟨D', acc, ws, X, dp, sv, dl, hl, al, sh, z5, z6, z7, e⟩ => ?_
    · subst e
      have ee : ((ins : Nat) : Int) + (i : Nat) = ((ins + i : Nat) : Int) := by omega
      rw [ee]
      have sX := X.s
      walk_at "lgd"
      refine ⟨ps, 3, D', rfl, by decide, by decide, X.s, dp, sv, fun d1 H1 x1 sv1 d10 d11 => ?_⟩
      have X1 := X.trans x1
      have hl1 := x1.at_ npl hl
      walk_at "lgd"
      show rI CMul _ _ (.int (if decide (((ins + i : Nat) : Int) < (ins : Nat) + (inner : Nat)) = true then 1 else 0)) _ _
      obtain ⟨c, ec, c1, c3, co⟩ : ∃ c : Nat, d1 * (if decide (((ins + i : Nat) : Int) < (ins : Nat) + (inner : Nat)) = true then 1 else 0) + 1 = (c : Int) ∧ 1 ≤ c ∧ c ≤ 3 ∧ (ins + inner ≤ ins + i → c = 1) := by
        by_cases q : ((ins + i : Nat) : Int) < (ins : Nat) + (inner : Nat)
        · rw [if_pos (decide_eq_true q)]
          exact ⟨(d1 * 1 + 1).toNat, by omega, by omega, by omega, fun h => by omega⟩
        · rw [if_neg (by rw [decide_eq_false q]; exact Bool.false_ne_true)]
          exact ⟨1, by omega, by omega, by omega, fun _ => rfl⟩
      refine w_mul (by split <;> decide) ?_
      walk_at "lgd"
      refine w_rR1 (n := c) (by omega) (by omega) ?_
      refine for_src src_range0 X1.s (fun j σ Hc => ∃ (D2 : Hp) (acc2 : List V) (nw : List Wd), XS ps D H D2 Hc ∧ Same D' D2 ∧ D2 ps = none ∧ Sv ps Hc ∧ D2 pl = none ∧ Hc pl = some (.lst acc2) ∧ WsV D2 acc2 (ws ++ nw) ∧ nw.length = j ∧ (∀ w ∈ nw, WOne (ins + inner) ins (ins + i + 1) w ∧ w.e = ins + i) ∧ ∃ z6 z7, σ = [some (.ref ps), some (.ref pg), some (.int (ins : Nat)), some (.int (inner : Nat)), some (.ref pl), some (.int (ins + i : Nat)), z6, z7]) ⟨D', acc, [], X1, Same.refl _, dp, sv1, dl, hl1, by rw [List.append_nil]; exact al, rfl, (fun w hw => by cases hw), _, _, rfl⟩ (fun j x σ Hc H'' hj sx2 ⟨D2, acc2, nw, X2, s2, dp2, sv2, dl2, hl2, al2, ln, on, z6, z7, e⟩ ⟨r1, r2⟩ => ?_) fun σ Hc sx2 ⟨D2, acc2, nw, X2, s2, dp2, sv2, dl2, hl2, al2, ln, on, z6, z7, e⟩ => ?_
      · subst r1 r2 e
        walk_at "lgd"
        refine ⟨ps, _, D2, rfl, by omega, by omega, X2.s, dp2, sv2, fun d3 H3 x3 sv3 d30 d31 => ?_⟩
        obtain ⟨st, est⟩ : ∃ n : Nat, d3 = (n : Int) := ⟨d3.toNat, by omega⟩
        subst est
        have X3 := X2.trans x3
        have hl3 := x3.at_ npl hl2
        walk_at "lgd"
        refine ⟨ps, 3, D2, rfl, by decide, by decide, X3.s, dp2, sv3, fun d4 H4 x4 sv4 d40 d41 => ?_⟩
        have X4 := X3.trans x4
        have hl4 := x4.at_ npl hl3
        walk_at "lgd"
        obtain ⟨m, em, m3, mo⟩ : ∃ m : Nat, d4 + (if decide (((ins + i : Nat) : Int) ≤ (st : Nat)) = true then 1 else 0) = (m : Int) ∧ m ≤ 3 ∧ (ins + i ≤ st → 1 ≤ m) := by
          by_cases q : ((ins + i : Nat) : Int) ≤ (st : Nat)
          · rw [if_pos (decide_eq_true q)]
            exact ⟨(d4 + 1).toNat, by omega, by omega, fun h => by omega⟩
          · rw [if_neg (by rw [decide_eq_false q]; exact Bool.false_ne_true)]
            exact ⟨(d4 + 0).toNat, by omega, by omega, fun h => by omega⟩
        walk_at "lgd"
        rw [em]
        refine ⟨ps, m, D2, rfl, by omega, X4.s, dp2, sv4, fun q5 ks D5 H5 x5 dp5 sv5 h5 lk bk => ?_⟩
        have X5 := X4.trans x5
        have hl5 := x5.at_ npl hl4
        have dl5 := x5.out npl hl4 dl2
        walk_at "lgd"
        intro t6 ht6
        have n6 := sv5.ne ht6
        have Y6 := Ext.new (o := .tup [V.int (st : Nat), .int (ins + i : Nat), .ref q5]) X5.s ht6
        have dl6 := Y6.out hl5 dl5
        have dp6 : upd D5 t6 (.tup [V.int (st : Nat), .int (ins + i : Nat), .ref q5]) ps = none := by rw [upd_ne (Ne.symm n6)]; exact dp5
        have d6 : upd D5 t6 (.tup [V.int (st : Nat), .int (ins + i : Nat), .ref q5]) t6 = _ := upd_same
        have y6 := Y6.d
        have X6 := X5.ext Y6
        have sv6 := sv5.upd (o := .tup [V.int (st : Nat), .int (ins + i : Nat), .ref q5]) ht6
        have hl6 := at_upd (o' := .tup [V.int (st : Nat), .int (ins + i : Nat), .ref q5]) ht6 hl5
        clear Y6
        generalize upd H5 t6 (.tup [V.int (st : Nat), .int (ins + i : Nat), .ref q5]) = H6 at X6 sv6 hl6 ⊢
        generalize upd D5 t6 (.tup [V.int (st : Nat), .int (ins + i : Nat), .ref q5]) = D6 at X6 dl6 dp6 d6 y6
        have la := al_len al2
        have lws := sh.len
        rw [List.length_append] at la
        walk_at "lgd"
        refine w_app hl6 (by omega) ?_
        have hpl0 : H pl = none := hpl
        have X7 := X6.mut (o := .lst (acc2 ++ [.ref t6])) hpl0 dl6
        have sv7 : Sv ps (upd H6 pl (.lst (acc2 ++ [.ref t6]))) := by
          obtain ⟨q1, q2, q3⟩ := sv6
          exact ⟨q1, by rw [upd_ne (Ne.symm npl)]; exact q2, q3⟩
        have s26 : Same D2 D6 := x5.d.trans y6
        walk_at "lgd"
        refine ⟨(s2.trans s26).trans X7.s, D6, _, nw ++ [⟨st, ins + i, ks⟩], X7, s2.trans s26, dp6, sv7, dl6, upd_same, ?_, by rw [List.length_append, ln]; rfl, fun w hw => ?_, _, _, rfl⟩
        · rw [← List.append_assoc]
          exact al_snoc (al_mono (fun v a q => WdV.up s26 q) al2) ⟨t6, q5, rfl, d6, y6 _ _ h5⟩
        · rcases List.mem_append.mp hw with h | h
          · exact on w h
          · rw [List.mem_singleton.mp h]
            refine ⟨⟨by show st < _; omega, by show ins ≤ ins + i; omega, by show ins + i < _; omega, by show ks.length ≤ 3; omega, bk, fun h => ?_⟩, rfl⟩
            intro z
            have z : ks = [] := z
            have := mo h
            rw [z] at lk
            simp at lk
            omega
      · subst e
        refine ⟨X2.dh, D2, acc2, ws ++ nw, X2, dp2, sv2, dl2, hl2, al2, ⟨fun w hw => ?_, ?_, fun e h1 h2 => ?_, ?_⟩, _, _, _, rfl⟩
        · rcases List.mem_append.mp hw with h | h
          · obtain ⟨a1, a2, a3, a4⟩ := sh.one w h
            exact ⟨a1, a2, by omega, a4⟩
          · exact (on w h).1
        · refine List.pairwise_append.mpr ⟨sh.uniq, ?_, fun a ha b hb e => ?_⟩
          · by_cases q : ins + inner ≤ ins + i
            · have := co q
              cases nw with
              | nil => exact List.Pairwise.nil
              | cons a r =>
                cases r with
                | nil => exact List.pairwise_singleton _ _
                | cons b r =>
                  simp at ln
                  omega
            · refine List.pairwise_of_forall_mem_list fun a ha b hb e => ?_
              rw [(on a ha).2]
              omega
          · have := (sh.one a ha).2.2.1
            rw [e, (on b hb).2] at this
            omega
        · by_cases q : e < ins + i
          · obtain ⟨w, hw, ew⟩ := sh.fed e h1 q
            exact ⟨w, List.mem_append_left _ hw, ew⟩
          · cases nw with
            | nil =>
              simp at ln
              omega
            | cons a r => exact ⟨a, List.mem_append_right _ List.mem_cons_self, by rw [(on a List.mem_cons_self).2]; omega⟩
        · have := sh.len
          rw [List.length_append, ln]
          by_cases q : ins + inner ≤ ins + i
          · have := co q
            omega
          · omega
    · subst e
      walk_at "lgd"
      have en : ins + (xs.length - ins) = xs.length := by omega
      rw [en] at sh
      refine k _ _ _ (X.fix hpl dl hl) (by rw [upd_ne (Ne.symm npl)]; exact dp) sv ⟨pl, acc, ws, rfl, upd_same, al_mono (fun v a q => WdV.up (same_upd dl) q) al, sh⟩
end

def rot (n t i : Nat) : Nat := (i + n - t) % n
theorem rot_lt {n t i : Nat} (h : 0 < n) : rot n t i < n := Nat.mod_lt _ h
theorem rot_hi {n t i : Nat} (hi : i < n) (ht : t ≤ i) : rot n t i = i - t := by
  unfold rot
  have e : i + n - t = (i - t) + n := by omega
  rw [e, Nat.add_mod_right, Nat.mod_eq_of_lt (by omega)]
theorem rot_lo {n t i : Nat} (ht : t < n) (hi : i < t) : rot n t i = i + n - t := Nat.mod_eq_of_lt (by omega)
theorem rot_back {n t i : Nat} (hi : i < n) (ht : t < n) : (rot n t i + t) % n = i := by
  by_cases c : t ≤ i
  · rw [rot_hi hi c, Nat.mod_eq_of_lt (by omega)]
    omega
  · rw [rot_lo ht (by omega)]
    have e : i + n - t + t = i + n := by omega
    rw [e, Nat.add_mod_right, Nat.mod_eq_of_lt hi]
theorem back_rot {n t i : Nat} (hi : i < n) (ht : t < n) : rot n t ((i + t) % n) = i := by
  by_cases c : i + t < n
  · rw [Nat.mod_eq_of_lt c, rot_hi c (by omega)]
    omega
  · have e : (i + t) % n = i + t - n := by
      have e2 : i + t = (i + t - n) + n := by omega
      rw [e2, Nat.add_mod_right, Nat.mod_eq_of_lt (by omega)]
      omega
    rw [e, rot_lo ht (by omega)]
    omega
theorem rot_inj {n t i j : Nat} (hi : i < n) (hj : j < n) (ht : t < n) (e : rot n t i = rot n t j) : i = j := by
  rw [← rot_back hi ht, ← rot_back hj ht, e]
theorem rot_fmod {n t i : Nat} (ht : t < n) : (((i : Nat) : Int) - (t : Nat)).fmod (n : Nat) = ((rot n t i : Nat) : Int) := by
  rw [Int.fmod_eq_emod_of_nonneg _ (Int.natCast_nonneg n)]
  unfold rot
  rw [Int.natCast_emod]
  have e : (((i + n - t : Nat)) : Int) = ((i : Nat) : Int) - (t : Nat) + (n : Nat) := by omega
  rw [e, Int.add_emod_right]
theorem rot_get {A : Type} {l : List A} {t i : Nat} (ht : t < l.length) (hi : i < l.length) : (l.drop t ++ l.take t)[rot l.length t i]? = l[i]? := by
  by_cases c : t ≤ i
  · rw [rot_hi hi c, List.getElem?_append_left (by rw [List.length_drop]; omega), List.getElem?_drop]
    congr 1
    omega
  · rw [rot_lo ht (by omega), List.getElem?_append_right (by rw [List.length_drop]; omega), List.length_drop, List.getElem?_take, if_pos (by omega)]
    congr 1
    omega
def rotW (n t : Nat) (w : Wd) : Wd := ⟨rot n t w.s, rot n t w.e, w.ks⟩
theorem filt_len {A : Type} (p : A → Bool) (d : A) : ∀ l : List A, ((List.range l.length).filter fun i => p (l.getD i d)).length = (l.filter p).length
  | [] => rfl
  | a :: l => by
    have ih := filt_len p d l
    rw [List.length_cons, List.range_succ_eq_map, List.filter_cons, List.filter_map]
    have e0 : (a :: l).getD 0 d = a := rfl
    have e1 : ((fun i => p ((a :: l).getD i d)) ∘ Nat.succ) = fun i => p (l.getD i d) := rfl
    rw [e0, e1, List.filter_cons]
    cases c : p a with
    | true =>
      show (_ :: _).length = (_ :: _).length
      rw [List.length_cons, List.length_cons, List.length_map, ih]
    | false =>
      show (List.map _ _).length = _
      rw [List.length_map, ih]
      rfl
/-- the parts that the law makes are parts of a net -/
theorem parts_ok {gs : List Gd} {ws : List Wd} {ins inner outs t : Nat} (G : GSh gs ins inner outs) (i2 : ins ≤ 2) (n1 : 1 ≤ inner) (n3 : inner ≤ 3) (o1 : 1 ≤ outs) (o2 : outs ≤ 2) (W : WSh ws ins inner gs.length) (ht : t < gs.length) {ws' : List Wd} (hw : ws' = ws.map (rotW gs.length t) ∨ ws' = (ws.map (rotW gs.length t)).reverse) :
    POk (gs.drop t ++ gs.take t) ws' := by
  obtain ⟨mid, eg, lm, mk⟩ := G
  have ln : gs.length = ins + inner + outs := by
    rw [eg, List.length_append, List.length_append, List.length_replicate, List.length_replicate, lm]
  have ln' : (gs.drop t ++ gs.take t).length = gs.length := by
    rw [List.length_append, List.length_drop, List.length_take]
    omega
  have kin : ∀ i, i < ins → gs[i]? = some (("in", 0) : Gd) := fun i hi => by
    rw [eg, List.append_assoc, List.getElem?_append_left (by rw [List.length_replicate]; exact hi), List.getElem?_replicate, if_pos hi]
  have kmid : ∀ i, ins ≤ i → i < ins + inner → ∃ g ∈ mid, gs[i]? = some g := fun i h1 h2 => by
    have e : gs[i]? = mid[i - ins]? := by
      rw [eg, List.append_assoc, List.getElem?_append_right (by rw [List.length_replicate]; exact h1), List.length_replicate, List.getElem?_append_left (by omega)]
    rw [e, List.getElem?_eq_getElem (by omega)]
    exact ⟨_, List.getElem_mem _, rfl⟩
  have kout : ∀ i, ins + inner ≤ i → i < gs.length → gs[i]? = some (("out", 0) : Gd) := fun i h1 h2 => by
    rw [eg, List.getElem?_append_right (by rw [List.length_append, List.length_replicate, lm]; exact h1), List.length_append, List.length_replicate, lm, List.getElem?_replicate, if_pos (by omega)]
  have notout : ∀ (i : Nat) (g : Gd), i < ins + inner → gs[i]? = some g → g.1 ≠ "out" := fun i g h1 h2 => by
    by_cases c : i < ins
    · rw [kin i c] at h2
      cases h2
      exact (by decide +kernel : ("in" : Str) ≠ "out")
    · obtain ⟨g', hg, e⟩ := kmid i (by omega) h1
      rw [e] at h2
      cases h2
      exact (midK_ok _ (mk g hg).1).2.2.2.2
  have notin : ∀ (i : Nat) (g : Gd), ins ≤ i → i < gs.length → gs[i]? = some g → g.1 ≠ "in" := fun i g h1 h3 h2 => by
    by_cases c : i < ins + inner
    · obtain ⟨g', hg, e⟩ := kmid i h1 c
      rw [e] at h2
      cases h2
      exact (midK_ok _ (mk g hg).1).2.2.2.1
    · rw [kout i (by omega) h3] at h2
      cases h2
      exact (by decide +kernel : ("out" : Str) ≠ "in")
  have pos : 0 < gs.length := by omega
  have memW : ∀ u ∈ ws', ∃ w ∈ ws, u = rotW gs.length t w := fun u hu => by
    have hu : u ∈ ws.map (rotW gs.length t) := by
      rcases hw with h | h
      · rw [h] at hu
        exact hu
      · rw [h] at hu
        exact List.mem_reverse.mp hu
    obtain ⟨w, h1, h2⟩ := List.mem_map.mp hu
    exact ⟨w, h1, h2.symm⟩
  have memW2 : ∀ w ∈ ws, rotW gs.length t w ∈ ws' := fun w hw' => by
    have h : rotW gs.length t w ∈ ws.map (rotW gs.length t) := List.mem_map.mpr ⟨w, hw', rfl⟩
    rcases hw with e | e
    · rw [e]
      exact h
    · rw [e]
      exact List.mem_reverse.mpr h
  refine ⟨fun g hg => ?_, fun z => ?_, by omega, ?_, fun u hu => ?_, fun u hu g hg => ?_, fun u hu g hg => ?_, ?_, fun i g hg h => ?_, ⟨fun j => (j + t) % gs.length, fun u hu h0 => ?_⟩, ?_⟩
  · have hg : g ∈ gs := (List.mem_append.mp hg).elim (fun h => List.mem_of_mem_drop h) fun h => List.mem_of_mem_take h
    rw [eg] at hg
    rcases List.mem_append.mp hg with h | h
    · rcases List.mem_append.mp h with h | h
      · rw [List.eq_of_mem_replicate h]
        exact ⟨by decide +kernel, by decide, fun _ => rfl, by decide +kernel⟩
      · obtain ⟨a, b, c⟩ := mk g h
        obtain ⟨k1, k2, k3, _⟩ := midK_ok _ a
        exact ⟨k1, ⟨b, c⟩, fun z => (by rw [k2] at z; cases z), k3⟩
    · rw [List.eq_of_mem_replicate h]
      exact ⟨by decide +kernel, by decide, fun _ => rfl, by decide +kernel⟩
  · rw [z] at ln'
    have : (0 : Nat) = gs.length := ln'
    omega
  · have := W.len
    have e : ws'.length = ws.length := by
      rcases hw with h | h
      · rw [h, List.length_map]
      · rw [h, List.length_reverse, List.length_map]
    omega
  · obtain ⟨w, hw', rfl⟩ := memW u hu
    obtain ⟨a1, a2, a3, a4, a5, a6⟩ := W.one w hw'
    rw [ln']
    exact ⟨rot_lt pos, rot_lt pos, a4, a5⟩
  · obtain ⟨w, hw', rfl⟩ := memW u hu
    obtain ⟨a1, a2, a3, a4, a5, a6⟩ := W.one w hw'
    have hg : (gs.drop t ++ gs.take t)[rot gs.length t w.s]? = some g := hg
    rw [rot_get ht (by omega)] at hg
    exact notout _ g a1 hg
  · obtain ⟨w, hw', rfl⟩ := memW u hu
    obtain ⟨a1, a2, a3, a4, a5, a6⟩ := W.one w hw'
    have hg : (gs.drop t ++ gs.take t)[rot gs.length t w.e]? = some g := hg
    rw [rot_get ht a3] at hg
    exact notin _ g a2 a3 hg
  · have key : ws'.Pairwise fun (u u' : Wd) => u.e = u'.e → ∀ g : Gd, (gs.drop t ++ gs.take t)[u.e]? = some g → g.1 ≠ ("out" : Str) := by
      have k1 : (ws.map (rotW gs.length t)).Pairwise fun (u u' : Wd) => u.e = u'.e → ∀ g : Gd, (gs.drop t ++ gs.take t)[u.e]? = some g → g.1 ≠ ("out" : Str) := by
        rw [List.pairwise_map]
        refine List.Pairwise.imp_of_mem (fun {a b} ha hb h => ?_) W.uniq
        intro e g hg
        obtain ⟨_, _, a3, _⟩ := W.one a ha
        obtain ⟨_, _, b3, _⟩ := W.one b hb
        have hg : (gs.drop t ++ gs.take t)[rot gs.length t a.e]? = some g := hg
        rw [rot_get ht a3] at hg
        exact notout _ g (h (rot_inj a3 b3 ht e)) hg
      rcases hw with h | h
      · rw [h]
        exact k1
      · rw [h, List.pairwise_reverse]
        exact k1.imp fun {a b} h e g hg => h e.symm g (by rw [← e]; exact hg)
    intro i j w w' hij h1 h2 e g hg
    obtain ⟨li, ei⟩ := List.getElem?_eq_some_iff.mp h1
    obtain ⟨lj, ej⟩ := List.getElem?_eq_some_iff.mp h2
    have := List.pairwise_iff_getElem.mp key i j li lj hij
    rw [ei, ej] at this
    exact this e g (by rw [e]; exact hg)
  · have li : i < gs.length := by
      have := (List.getElem?_eq_some_iff.mp hg).1
      omega
    have hb := back_rot li ht
    have hlt : (i + t) % gs.length < gs.length := Nat.mod_lt _ pos
    have hg2 : gs[(i + t) % gs.length]? = some g := by
      rw [← rot_get ht hlt, hb]
      exact hg
    have hin : ins ≤ (i + t) % gs.length := by
      refine Nat.le_of_not_lt fun c => ?_
      rw [kin _ c] at hg2
      cases hg2
      rcases h with h | h
      · exact absurd h (by decide +kernel)
      · exact absurd h (by decide +kernel)
    obtain ⟨w, hw', ew⟩ := W.fed _ hin hlt
    exact ⟨_, memW2 w hw', by show rot gs.length t w.e = i; rw [ew]; exact hb⟩
  · obtain ⟨w, hw', rfl⟩ := memW u hu
    obtain ⟨a1, a2, a3, a4, a5, a6⟩ := W.one w hw'
    show (rot gs.length t w.s + t) % gs.length < (rot gs.length t w.e + t) % gs.length
    rw [rot_back (by omega) ht, rot_back a3 ht]
    refine Nat.lt_of_not_le fun c => a6 c h0
  · rw [filt_len (fun g : Gd => !port g.1) ("", 0)]
    have e1 : ((gs.drop t ++ gs.take t).filter fun g : Gd => !port g.1).length = (gs.filter fun g : Gd => !port g.1).length := by
      rw [List.filter_append, List.length_append, Nat.add_comm, ← List.length_append, ← List.filter_append, List.take_append_drop]
    rw [e1, eg, List.filter_append, List.filter_append, List.length_append, List.length_append]
    have r1 : ((List.replicate ins (("in", 0) : Gd)).filter fun g : Gd => !port g.1).length = 0 := by
      rw [List.length_eq_zero_iff, List.filter_eq_nil_iff]
      intro a ha
      rw [List.eq_of_mem_replicate ha]
      decide +kernel
    have r2 : ((List.replicate outs (("out", 0) : Gd)).filter fun g : Gd => !port g.1).length = 0 := by
      rw [List.length_eq_zero_iff, List.filter_eq_nil_iff]
      intro a ha
      rw [List.eq_of_mem_replicate ha]
      decide +kernel
    have r3 := List.length_filter_le (fun g : Gd => !port g.1) mid
    omega

def PartsQ (v : V) (D : Hp) : Prop := ∃ (t qg qw : Addr) (xs ys : List V) (gs : List Gd) (ws : List Wd), v = .ref t ∧ D t = some (.tup [.ref qg, .ref qw]) ∧ D qg = some (.lst xs) ∧ D qw = some (.lst ys) ∧ GsV D xs gs ∧ WsV D ys ws ∧ POk gs ws ∧ 1 ≤ ws.length
theorem al_rev {A : Type} {R : V → Hp → A → Prop} {H : Hp} : ∀ {xs : List V} {as : List A}, Al R H xs as → Al R H xs.reverse as.reverse
  | [], [], _ => trivial
  | [], _ :: _, h => h.elim
  | _ :: _, [], h => h.elim
  | x :: xs, a :: as, h => by
    rw [List.reverse_cons, List.reverse_cons]
    exact al_snoc (al_rev h.2) h.1
theorem al_drop {A : Type} {R : V → Hp → A → Prop} {H : Hp} : ∀ {xs : List V} {as : List A} (n : Nat), Al R H xs as → Al R H (xs.drop n) (as.drop n)
  | _, _, 0, h => h
  | [], [], n + 1, _ => trivial
  | [], _ :: _, n + 1, h => h.elim
  | _ :: _, [], n + 1, h => h.elim
  | x :: xs, a :: as, n + 1, h => al_drop n h.2
section
variable {K : PySem.W.Frag} {mg : Str → Option Value} {P : Program} {w : World} {base : Heap}
abbrev N_law_parts : List Str := ["_law_state", "_law_most", "_law_gates_here", "_law_ins", "_law_inner", "_law_wires_here", "_law_many", "_law_turn", "_law_start", "_law_end", "_law_stock"]
theorem sc_law_parts : FnScope N_law_parts (["_law_state", "_law_most"] : List Str) (defScope s_law_parts) := ⟨rfl, rfl, rfl, by decide +kernel, rfl, by decide +kernel, by decide +kernel⟩

def sp_law_parts : Sp := fun vs H Q _ => ∃ (ps : Addr) (D : Hp), vs = [.ref ps, .int 3] ∧ Same D H ∧ D ps = none ∧ Sv ps H ∧ ∀ v D' H', XS ps D H D' H' → D' ps = none → Sv ps H' → PartsQ v D' → Q v H'
theorem ok_law_parts (T : Tx K mg) : CalG P w K mg base CX0 4 "_law_parts" ["_law_state", "_law_most"] sp_law_parts :=
  calG T 53 rfl "_law_parts" rfl (by decide +kernel) sc_law_parts (fun _ _ _ _ _ _ us hl => match us, hl with | [_, _], _ => rfl) (fun vs H Q E ⟨_, _, e, _⟩ => by rw [e]; rfl) fun cdv f A outer s H vs Q E hr ⟨ps, D, e, sD, dps, sv, k⟩ => by
    subst e
    refine ⟨_, (pss_cons (ps_asg (pk (ok_law_gates T) hr (by decide) (pa_cons (pv 0) (pa_cons (pv 1) pa_nil))) (g_tup (n := 3) (.inl rfl) (pgs_cons (pg_name (i := 2) sc_law_parts.nd rfl (Or.inl rfl)) (pgs_cons (pg_name (i := 3) sc_law_parts.nd rfl (Or.inl rfl)) (pgs_cons (pg_name (i := 4) sc_law_parts.nd rfl (Or.inl rfl)) pgs_nil)))))
    (pss_cons (ps_set (i := 5) sc_law_parts.nd rfl (Or.inl rfl) (pk (ok_law_wires T) hr (by decide) (pa_cons (pv 0) (pa_cons (pv 2) (pa_cons (pv 3) (pa_cons (pv 4) pa_nil))))))
    (pss_cons (ps_set (i := 6) sc_law_parts.nd rfl (Or.inr rfl) (pe_callB c_lenL (by rfl) (T.fr "len") PySem.boot_len (pa_cons (pv 2) pa_nil)))
    (pss_cons (ps_set (i := 7) sc_law_parts.nd rfl (Or.inr rfl) (pk (ok_law_digit T) hr (by decide) (pa_cons (pv 0) (pa_cons (pv 6) pa_nil))))
    (pss_cons (ps_setLc (i := 5) (own := [("_law_start", 8), ("_law_end", 9), ("_law_stock", 10)]) (g := gT 3 (gCons (gName 8) (gCons (gName 9) (gCons (gName 10) gNil)))) (tt := tYes) rfl sc_law_parts.nd rfl rfl (sw_true rfl rfl rfl (by decide +kernel)) (k_list (K := K) rfl (pv 5)) (blkOk_by (N := N_law_parts) (sc := defScope s_law_parts) (by decide +kernel)) (fun _ _ _ _ _ => (g_tup (n := 3) (.inl rfl) (pgs_cons (pg_name (i := 8) sc_law_parts.nd rfl (Or.inl rfl)) (pgs_cons (pg_name (i := 9) sc_law_parts.nd rfl (Or.inl rfl)) (pgs_cons (pg_name (i := 10) sc_law_parts.nd rfl (Or.inl rfl)) pgs_nil))))) (fun _ _ _ _ _ => pts_nil) (fun _ _ _ _ _ => (pe_tup (pa_cons (pe_op op_modN (pe_op op_sub (pv 8) (pv 7)) (pv 6)) (pa_cons (pe_op op_modN (pe_op op_sub (pv 9) (pv 7)) (pv 6)) (pa_cons (pv 10) pa_nil))))))
    (pss_cons (ps_if (pt_cmpR op_eq (pk (ok_law_digit T) hr (by decide) (pa_cons (pv 0) (pa_cons pe_int pa_nil))) pe_int (nomark _)) (pss_one (ps_expr (pe_bm0 PySem.F.plainAttrs_list PySem.F.slot_list_reverse PySem.F.type_list_reverse mt_reverse (pv 5)))) pss_nil)
    (pss_one (ps_ret (pe_tup (pa_cons (pe_op op_cat (pe_slice s_slQ (pv 2) (po_some (pv 7)) po_none) (pe_slice s_slQ (pv 2) po_none (po_some (pv 7)))) (pa_cons (pv 5) pa_nil))))))))))), ?_⟩
    walk_at "lgd"
    refine ⟨ps, D, rfl, sD, dps, sv, fun v1 D1 H1 x1 dp1 sv1 ⟨t1, qg, xs, gs, ins, inner, outs, e1, h1, hg1, al1, sh, i2, n1, n3, o1, o2⟩ => ?_⟩
    subst e1
    have ht1 := x1.s _ _ h1
    have lx := al_len al1
    have ln : gs.length = ins + inner + outs := by
      obtain ⟨mid, eg, lm, _⟩ := sh
      rw [eg, List.length_append, List.length_append, List.length_replicate, List.length_replicate, lm]
    walk_at "lgd"
    refine ⟨ps, qg, xs, ins, inner, D1, rfl, x1.s, dp1, sv1, hg1, by omega, by omega, n1, fun v2 D2 H2 x2 dp2 sv2 ⟨qw, ys, ws, e2, hw2, al2, wsh⟩ => ?_⟩
    subst e2
    have X2 := x1.trans x2
    have hg2 := x2.d _ _ hg1
    have sD2 := X2.s
    have hg2' := sD2 _ _ hg2
    walk_at "lgd"
    refine ⟨ps, _, D2, rfl, by omega, by omega, X2.s, dp2, sv2, fun d3 H3 x3 sv3 d30 d31 => ?_⟩
    obtain ⟨t, et⟩ : ∃ n : Nat, d3 = (n : Int) := ⟨d3.toNat, by omega⟩
    subst et
    have X3 := X2.trans x3
    have sD3 := X3.s
    have ht : t < gs.length := by omega
    have lw := al_len al2
    have lws := wsh.len
    walk_at "lgd"
    refine lcG (src_list (SqL.of hw2)) X3.s (by omega) (fun i v D => ∀ w, ws[i]? = some w → WdV v D (rotW gs.length t w)) (fun i v D1 D2 e h w hw => (h w hw).up e) (fun i x D' H' H'' hi X ⟨r1, r2⟩ Qy ky => ?_) fun q acc D4 H4 hq X4 dq hq4 la ha => ?_
    · subst r1
      obtain ⟨u, hu, pu, qu, eu, g1, g2⟩ := al_get al2 r2
      subst eu
      have g1' := X.d _ _ g1
      have en : ((xs.length : Nat) : Int) = (gs.length : Nat) := by rw [lx]
      walk_at "lgd"
      rw [en, rot_fmod ht, rot_fmod ht]
      intro t5 ht5
      have Y := Ext.new (o := .tup [V.int (rot gs.length t u.s : Nat), .int (rot gs.length t u.e : Nat), .ref qu]) X.s ht5
      refine ky _ _ _ Y fun w hw => ?_
      rw [hu] at hw
      cases hw
      exact ⟨t5, qu, rfl, upd_same, Y.d _ _ (X.d _ _ g2)⟩
    · have nq := sv3.ne hq
      have hq0 := X3.free nq hq
      have X4' := X3.ext X4
      have dp4 : D4 ps = none := by
        obtain ⟨s1, s2, s3⟩ := sv3
        exact X4.out s2 dp2
      have sv4 : Sv ps H4 := by
        obtain ⟨s1, s2, s3⟩ := sv3
        exact ⟨s1, X4.h _ _ s2, s3⟩
      have al4 : WsV D4 acc (ws.map (rotW gs.length t)) := al_idx (by rw [List.length_map]; omega) fun i v a hv ha' => by
        rw [List.getElem?_map] at ha'
        cases c : ws[i]? with
        | none =>
          rw [c] at ha'
          cases ha'
        | some u =>
          rw [c] at ha'
          cases Option.some.inj ha'
          exact ha i v hv u c
      have hg4 := X4.d _ _ hg2
      have s14 : Same D1 D4 := x2.d.trans X4.d
      have wl1 : 1 ≤ ws.length := by
        obtain ⟨u, hu, _⟩ := wsh.fed ins (Nat.le_refl _) (by omega)
        exact List.length_pos_of_mem hu
      walk_at "lgd"
      refine ⟨ps, 2, D4, rfl, by decide, by decide, X4'.s, dp4, sv4, fun d5 H5 x5 sv5 d50 d51 => ?_⟩
      have X5 := X4'.trans x5
      have hq5 := x5.at_ nq hq4
      have fin : ∀ (acc' : List V) (ws' : List Wd) (H6 : Hp), XS ps D H D4 H6 → Sv ps H6 → H6 q = some (.lst acc') → WsV D4 acc' ws' → (ws' = ws.map (rotW gs.length t) ∨ ws' = (ws.map (rotW gs.length t)).reverse) → ∀ (l7 l8 l9 t10 : Addr), H6 l7 = none → upd H6 l7 (.lst (xs.drop t)) l8 = none → upd (upd H6 l7 (.lst (xs.drop t))) l8 (.lst (xs.take t)) l9 = none → upd (upd (upd H6 l7 (.lst (xs.drop t))) l8 (.lst (xs.take t))) l9 (.lst (xs.drop t ++ xs.take t)) t10 = none →
          Q (.ref t10) (upd (upd (upd (upd H6 l7 (.lst (xs.drop t))) l8 (.lst (xs.take t))) l9 (.lst (xs.drop t ++ xs.take t))) t10 (.tup [.ref l9, .ref q])) := by
        intro acc' ws' H6 X6 sv6 h6 al6 hw' l7 l8 l9 t10 n7 n8 n9 n10
        have X6f := X6.fix hq0 dq h6
        have dpf : upd D4 q (.lst acc') ps = none := by rw [upd_ne (Ne.symm nq)]; exact dp4
        have X7 := X6f.ext (Ext.hide (o := .lst (xs.drop t)) X6f.s n7)
        have X8 := X7.ext (Ext.hide (o := .lst (xs.take t)) X7.s n8)
        have sv7 := sv6.upd (o := .lst (xs.drop t)) n7
        have sv8 := sv7.upd (o := .lst (xs.take t)) n8
        have Y9 := Ext.new (o := .lst (xs.drop t ++ xs.take t)) X8.s n9
        have X9 := X8.ext Y9
        have sv9 := sv8.upd (o := .lst (xs.drop t ++ xs.take t)) n9
        have Y10 := Ext.new (o := .tup [.ref l9, .ref q]) X9.s n10
        have dq6 : Same D4 (upd D4 q (.lst acc')) := same_upd dq
        have all : Same D4 _ := dq6.trans (Y9.d.trans Y10.d)
        refine k _ _ _ (X9.ext Y10) ?_ (sv9.upd n10) ⟨t10, l9, q, _, acc', _, ws', rfl, upd_same, Y10.d _ _ upd_same, Y10.d _ _ (Y9.d _ _ upd_same), ?_, al_mono (fun v a z => WdV.up all z) al6, parts_ok sh i2 n1 n3 o1 o2 (by rw [← lx]; exact wsh) ht hw', ?_⟩
        · rw [upd_ne (Ne.symm (sv9.ne n10)), upd_ne (Ne.symm (sv8.ne n9))]
          exact dpf
        · have al1' := al_mono (fun v a z => GtV.up (s14.trans all) z) al1
          exact al_app (al_drop t al1') (al_take t al1')
        · rcases hw' with h | h
          · rw [h, List.length_map]
            exact wl1
          · rw [h, List.length_reverse, List.length_map]
            exact wl1
      have tl : t ≤ xs.length := by omega
      walk_at "lgd"
      by_cases c : d5 = 0
      · have X6 := X5.mut (o := .lst acc.reverse) hq0 dq
        have sv6 : Sv ps (upd H5 q (.lst acc.reverse)) := by
          obtain ⟨q1, q2, q3⟩ := sv5
          exact ⟨q1, by rw [upd_ne (Ne.symm nq)]; exact q2, q3⟩
        have h6 := upd_same (H := H5) (a := q) (o := .lst acc.reverse)
        walk_at "lgd"
        refine ⟨q, acc, rfl, rfl, hq5, ?_⟩
        have sX6 := X6.s
        have hg6 := sX6 _ _ hg4
        generalize upd H5 q (.lst acc.reverse) = H6 at X6 sv6 h6 sX6 hg6 ⊢
        walk_at "lgd"
        intro l7 n7
        rw [cut_from tl]
        have hg7 := at_upd (o' := .lst (xs.drop t)) n7 hg6
        walk_at "lgd"
        intro l8 n8
        rw [cut_to tl]
        refine w_cat (at_upd n8 upd_same) upd_same (by rw [List.length_drop, List.length_take]; omega) fun l9 n9 => ?_
        walk_at "lgd"
        intro t10 n10
        exact fin _ _ H6 X6 sv6 h6 (al_rev al4) (.inr rfl) l7 l8 l9 t10 n7 n8 n9 n10
      · have sX6 := X5.s
        have hg6 := sX6 _ _ hg4
        walk_at "lgd"
        intro l7 n7
        rw [cut_from tl]
        have hg7 := at_upd (o' := .lst (xs.drop t)) n7 hg6
        walk_at "lgd"
        intro l8 n8
        rw [cut_to tl]
        refine w_cat (at_upd n8 upd_same) upd_same (by rw [List.length_drop, List.length_take]; omega) fun l9 n9 => ?_
        walk_at "lgd"
        intro t10 n10
        exact fin _ _ H5 X5 sv5 hq5 al4 (.inl rfl) l7 l8 l9 t10 n7 n8 n9 n10
end

def CntL (N : Nt) (l : Nat → Int) : List V := (List.range N.ws.length).map fun k => V.int (cnt N l k)
section
variable {K : PySem.W.Frag} {mg : Str → Option Value} {P : Program} {w : World} {base : Heap}
abbrev N_law_counts : List Str := ["_law_wires_here", "_law_lags_here", "_law_start", "_law_end", "_law_stock"]
theorem sc_law_counts : FnScope N_law_counts (["_law_wires_here", "_law_lags_here"] : List Str) (defScope s_law_counts) := ⟨rfl, rfl, rfl, by decide +kernel, rfl, by decide +kernel, by decide +kernel⟩

def sp_law_counts : Sp := fun vs H Q _ => ∃ (pw q : Addr) (ys : List V) (N : Nt) (l : Nat → Int), vs = [.ref pw, .ref q] ∧ H pw = some (.lst ys) ∧ WX' H ys N ∧ N.Ok ∧ H q = some (.lst (LagL N l)) ∧ ∀ q' H', Same H H' → H q' = none → H' q' = some (.lst (CntL N l)) → Q (.ref q') H'
theorem ok_law_counts (T : Tx K mg) : CalG P w K mg base CX0 1 "_law_counts" ["_law_wires_here", "_law_lags_here"] sp_law_counts :=
  calG T 54 rfl "_law_counts" rfl (by decide +kernel) sc_law_counts (fun _ _ _ _ _ _ us hl => match us, hl with | [_, _], _ => rfl) (fun vs H Q E ⟨_, _, _, _, _, e, _⟩ => by rw [e]; rfl) fun cdv f A outer s H vs Q E hr ⟨pw, q, ys, N, l, e, hw, W, O, hq, k⟩ => by
    subst e
    have w12 := O.ws12
    have W1 := W.1
    refine ⟨_, (pss_one (ps_ret (pe_lc (own := [("_law_start", 2), ("_law_end", 3), ("_law_stock", 4)]) (g := gT 3 (gCons (gName 2) (gCons (gName 3) (gCons (gName 4) gNil)))) (tt := tYes) rfl sc_law_counts.nd (k_list (K := K) rfl (pv 0)) (blkOk_by (N := N_law_counts) (sc := defScope s_law_counts) (by decide +kernel)) (fun _ _ _ _ _ => (g_tup (n := 3) (.inl rfl) (pgs_cons (pg_name (i := 2) sc_law_counts.nd rfl (Or.inl rfl)) (pgs_cons (pg_name (i := 3) sc_law_counts.nd rfl (Or.inl rfl)) (pgs_cons (pg_name (i := 4) sc_law_counts.nd rfl (Or.inl rfl)) pgs_nil))))) (fun _ _ _ _ _ => pts_nil) (fun _ _ _ _ _ => (pe_op op_sub (pe_op op_add (pe_callB c_lenT (by rfl) (T.fr "len") PySem.boot_len (pa_cons (pv 4) pa_nil)) (pe_ix ixl (pv 1) (pv 3) (fun _ _ => rfl))) (pe_ix ixl (pv 1) (pv 2) (fun _ _ => rfl))))))), ?_⟩
    walk_at "lgd"
    refine lc_list hw (Same.refl H) (by omega) (CntL N l) (by unfold CntL; rw [List.length_map, List.length_range, W1]) (fun i x y H' hx hy s Qy ky => ?_) fun q2 H2 hq2 s2 hl2 => ?_
    · obtain ⟨hi, ey⟩ := rng_some hy
      subst ey
      obtain ⟨p1, p2, zs, w1, w2, w3, w4⟩ := W.2 i hi
      rw [hx] at w1
      cases Option.some.inj w1
      obtain ⟨he1, he2⟩ := O.ends _ (Nt.w_mem hi)
      have a1 : (LagL N l)[(N.w i).e]? = _ := rng_get he2
      have a2 : (LagL N l)[(N.w i).s]? = _ := rng_get he1
      walk_at "lgd"
      refine w_in' ?_ (ky H' (Same.refl _))
      rw [w4]
      rfl
    · walk_at "lgd"
      exact k q2 H2 s2 hq2 hl2
abbrev N_law_need : List Str := ["_law_gates_here", "_law_wires_here", "_law_some", "_law_best", "_law_turn", "_law_place", "_law_start", "_law_end", "_law_stock", "_law_kind", "_law_wait"]
theorem sc_law_need : FnScope N_law_need (["_law_gates_here", "_law_wires_here", "_law_some"] : List Str) (defScope s_law_need) := ⟨rfl, rfl, rfl, by decide +kernel, rfl, by decide +kernel, by decide +kernel⟩

def sp_law_need : Sp := fun vs H Q _ => ∃ (pg pw qs : Addr) (xs ys : List V) (N : Nt) (l : Nat → Int), vs = [.ref pg, .ref pw, .ref qs] ∧ H pg = some (.lst xs) ∧ GX H xs N ∧ H pw = some (.lst ys) ∧ WX' H ys N ∧ N.Ok ∧ H qs = some (.lst (CntL N l)) ∧
  ∀ m H', Same H H' → m ∈ needAll N l N.n (need0 N) → (∀ x ∈ needAll N l N.n (need0 N), x ≤ m) → Q (.int m) H'
theorem ok_law_need (T : Tx K mg) : CalG P w K mg base CX0 1 "_law_need" ["_law_gates_here", "_law_wires_here", "_law_some"] sp_law_need :=
  calG T 56 rfl "_law_need" rfl (by decide +kernel) sc_law_need (fun _ _ _ _ _ _ us hl => match us, hl with | [_, _, _], _ => rfl) (fun vs H Q E ⟨_, _, _, _, _, _, _, e, _⟩ => by rw [e]; rfl) fun cdv f A outer s H vs Q E hr ⟨pg, pw, qs, xs, ys, N, l, e, hg, G, hw, W, O, hq, k⟩ => by
    subst e
    have n7 := O.n7
    have w12 := O.ws12
    have G1 := G.1
    have W1 := W.1
    refine ⟨_, (pss_cons (ps_setLc (i := 3) (own := [("_law_kind", 9), ("_law_wait", 10)]) (g := gT 2 (gCons (gName 9) (gCons (gName 10) gNil))) (tt := tYes) rfl sc_law_need.nd rfl rfl (sw_true rfl rfl rfl (by decide +kernel)) (k_list (K := K) rfl (pv 0)) (blkOk_by (N := N_law_need) (sc := defScope s_law_need) (by decide +kernel)) (fun _ _ _ _ _ => (g_tup (n := 2) (.inl rfl) (pgs_cons (pg_name (i := 9) sc_law_need.nd rfl (Or.inl rfl)) (pgs_cons (pg_name (i := 10) sc_law_need.nd rfl (Or.inl rfl)) pgs_nil)))) (fun _ _ _ _ _ => pts_nil) (fun _ _ _ _ _ => (pv 10)))
    (pss_cons (ps_for PassesOwn.never rfl (k_list (K := K) rfl (pv 0)) (pg_name (i := 4) sc_law_need.nd rfl (Or.inl rfl)) (pss_one (ps_for PassesOwn.never rfl (k_enum (K := K) rfl (T.fr "enumerate") (pa_cons (pv 1) pa_nil)) (g_tup (n := 2) (.inl rfl) (pgs_cons (pg_name (i := 5) sc_law_need.nd rfl (Or.inl rfl)) (pgs_cons (g_tup (n := 3) (.inl rfl) (pgs_cons (pg_name (i := 6) sc_law_need.nd rfl (Or.inl rfl)) (pgs_cons (pg_name (i := 7) sc_law_need.nd rfl (Or.inl rfl)) (pgs_cons (pg_name (i := 8) sc_law_need.nd rfl (Or.inl rfl)) pgs_nil)))) pgs_nil))) (pss_one (ps_if (pt_cmpR op_eq (pe_ix ixl (pv 2) (pv 5) (fun _ _ => rfl)) pe_int (nomark _)) (pss_one (ps_asg (pe_callB (call_max2 rfl) (by rfl) (T.fr "max") (by decide +kernel) (pa_cons (pe_ix ixl (pv 3) (pv 6) (fun _ _ => rfl)) (pa_cons (pe_op op_add (pe_ix ixt (pe_ix ixl (pv 0) (pv 6) (fun _ _ => rfl)) pe_int (fun _ _ => rfl)) (pe_ix ixl (pv 3) (pv 7) (fun _ _ => rfl))) pa_nil))) (pg_sub (pv 3) (pv 6) set_list))) pss_nil)))))
    (pss_one (ps_ret (pe_callB (c_max rfl) (by rfl) (T.fr "max") (by decide +kernel) (pa_cons (pv 3) pa_nil)))))), ?_⟩
    walk_at "lgd"
    refine lc_list hg (Same.refl H) (by omega) ((need0 N).map V.int) (by rw [List.length_map, need0_len, G1]) (fun i x y H' hx hy s Qy ky => ?_) fun pb H1 hpb s1 hl1 => ?_
    · have hi : i < N.n := by
        have := (List.getElem?_eq_some_iff.mp hx).1
        omega
      obtain ⟨p1, kd, g1, g2, g3⟩ := G.2 i hi
      rw [hx] at g1
      cases Option.some.inj g1
      have ey : y = .int (N.wt i) := by
        unfold need0 at hy
        rw [List.getElem?_map, rng_get hi] at hy
        exact (Option.some.inj hy).symm
      subst ey
      walk_at "lgd"
      exact ky H' (Same.refl _)
    have X1 : Ext H H H H1 := ⟨Same.refl H, s1, s1, fun _ _ => rfl⟩
    walk_at "lgd"
    refine for_list hg s1 (fun t σ Hc => ∃ B : List Int, Ext H H H Hc ∧ Hc pb = some (.lst (B.map V.int)) ∧ B.length = N.n ∧ needAll N l (N.n - t) B = needAll N l N.n (need0 N) ∧ ∃ z4 z5 z6 z7 z8, σ = [some (.ref pg), some (.ref pw), some (.ref qs), some (.ref pb), z4, z5, z6, z7, z8, none, none]) ⟨need0 N, X1, hl1, need0_len, rfl, _, _, _, _, _, rfl⟩ (fun t x σ Hc hx sx ⟨B, X, hb, lB, eB, z4, z5, z6, z7, z8, e⟩ => ?_) fun σ Hc sx ⟨B, X, hb, lB, eB, z4, z5, z6, z7, z8, e⟩ => ?_
    · subst e
      have ht : t < N.n := by
        have := (List.getElem?_eq_some_iff.mp hx).1
        omega
      have en : N.n - t = (N.n - (t + 1)) + 1 := by omega
      rw [en] at eB
      walk_at "lgd"
      refine for_enum hw sx (fun j σ Hc => Ext H H H Hc ∧ Hc pb = some (.lst (((List.range j).foldl (needOne N l) B).map V.int)) ∧ ∃ z5 z6 z7 z8, σ = [some (.ref pg), some (.ref pw), some (.ref qs), some (.ref pb), some x, z5, z6, z7, z8, none, none]) ⟨X, hb, _, _, _, _, rfl⟩ (fun j y σ Hc t5 hy ht5 sx ⟨X, hb, z5, z6, z7, z8, e⟩ => ?_) fun σ Hc sx ⟨X, hb, z5, z6, z7, z8, e⟩ => ?_
      · subst e
        have hj : j < N.ws.length := by
          have := (List.getElem?_eq_some_iff.mp hy).1
          omega
        obtain ⟨p1, p2, zs, w1, w2, w3, w4⟩ := W.2 j hj
        rw [hy] at w1
        cases Option.some.inj w1
        obtain ⟨he1, he2⟩ := O.ends _ (Nt.w_mem hj)
        obtain ⟨pgs, kd, g1, g2, g3⟩ := G.2 _ he1
        have X2 := X.trans (Ext.hide (o := .tup [V.int (j : Nat), .ref p1]) X.s ht5)
        have hT := upd_same (H := Hc) (a := t5) (o := .tup [V.int (j : Nat), .ref p1])
        have hb2 := at_upd (o' := .tup [V.int (j : Nat), .ref p1]) ht5 hb
        generalize upd Hc t5 (.tup [V.int (j : Nat), .ref p1]) = H2 at X2 hT hb2 ⊢
        have er : (List.range (j + 1)).foldl (needOne N l) B = needOne N l ((List.range j).foldl (needOne N l) B) j := by
          rw [List.range_succ, List.foldl_append]
          rfl
        have lF : ((List.range j).foldl (needOne N l) B).length = N.n := by
          have key : ∀ (js : List Nat) (B : List Int), (js.foldl (needOne N l) B).length = B.length := by
            intro js
            induction js with
            | nil => exact fun _ => rfl
            | cons a r ih => exact fun B => (ih _).trans needOne_len
          rw [key, lB]
        rw [er]
        generalize (List.range j).foldl (needOne N l) B = F at hb2 lF ⊢
        have q1 : (CntL N l)[j]? = _ := rng_get hj
        have gb : ∀ g, g < N.n → (F.map V.int)[g]? = some (.int (F.getD g 0)) := fun g hg => by
          rw [List.getElem?_map, List.getD_eq_getElem?_getD, List.getElem?_eq_getElem (by omega)]
          rfl
        have b1 := gb _ he1
        have b2 := gb _ he2
        walk_at "lgd"
        by_cases c : cnt N l j = 0
        · have en : needOne N l F j = F.set (N.w j).s (if N.wt (N.w j).s + F.getD (N.w j).e 0 > F.getD (N.w j).s 0 then N.wt (N.w j).s + F.getD (N.w j).e 0 else F.getD (N.w j).s 0) := if_pos c
          rw [en]
          walk_at "lgd"
          refine w_gS ?_
          walk_at "lgd"
          refine w_setL hb2 (by rw [List.length_map, lF]; exact he1) ?_
          have X3 := X2.mut (o := .lst ((F.set (N.w j).s (if N.wt (N.w j).s + F.getD (N.w j).e 0 > F.getD (N.w j).s 0 then N.wt (N.w j).s + F.getD (N.w j).e 0 else F.getD (N.w j).s 0)).map V.int)) hpb hpb
          rw [← List.map_set]
          exact ⟨X3.s, X3, upd_same, _, _, _, _, rfl⟩
        · have en : needOne N l F j = F := if_neg c
          rw [en]
          walk_at "lgd"
          exact ⟨X2.s, X2, hb2, _, _, _, _, rfl⟩
      · subst e
        have eT : (List.range ys.length).foldl (needOne N l) B = needTurn N l B := by
          rw [W1]
          rfl
        rw [eT] at hb
        exact ⟨X.s, needTurn N l B, X, hb, needTurn_len.trans lB, eB, _, _, _, _, _, rfl⟩
    · subst e
      rw [G1, Nat.sub_self] at eB
      have eB : B = needAll N l N.n (need0 N) := eB
      walk_at "lgd"
      refine ⟨pb, B, rfl, hb, by rw [lB]; exact O.pos, fun m hm hx => ?_⟩
      rw [eB] at hm hx
      exact k m _ X.h hm hx
abbrev N_law_does : List Str := ["_law_gates_here", "_law_wires_here", "_law_lags_here", "_law_most", "_law_some"]
theorem sc_law_does : FnScope N_law_does (["_law_gates_here", "_law_wires_here", "_law_lags_here", "_law_most"] : List Str) (defScope s_law_does) := ⟨rfl, rfl, rfl, by decide +kernel, rfl, by decide +kernel, by decide +kernel⟩

def sp_law_does : Sp := fun vs H Q _ => ∃ (pg pw q : Addr) (xs ys : List V) (N : Nt) (l : Nat → Int) (b : Int), vs = [.ref pg, .ref pw, .ref q, .int b] ∧ H pg = some (.lst xs) ∧ GX H xs N ∧ H pw = some (.lst ys) ∧ WX' H ys N ∧ N.Ok ∧ 1 ≤ N.ws.length ∧ H q = some (.lst (LagL N l)) ∧ (∀ g, g < N.n → N.fx g = true → l g = 0) ∧
  ∀ c H', Same H H' → (c = true ↔ Feas N b l) → Q (.bl c) H'
theorem ok_law_does (T : Tx K mg) : CalG P w K mg base CX0 2 "_law_does" ["_law_gates_here", "_law_wires_here", "_law_lags_here", "_law_most"] sp_law_does :=
  calG T 57 rfl "_law_does" rfl (by decide +kernel) sc_law_does (fun _ _ _ _ _ _ us hl => match us, hl with | [_, _, _, _], _ => rfl) (fun vs H Q E ⟨_, _, _, _, _, _, _, _, e, _⟩ => by rw [e]; rfl) fun cdv f A outer s H vs Q E hr ⟨pg, pw, q, xs, ys, N, l, b, e, hg, G, hw, W, O, n1, hq, hf, k⟩ => by
    subst e
    refine ⟨_, (pss_cons (ps_set (i := 4) sc_law_does.nd rfl (Or.inl rfl) (pk (ok_law_counts T) hr (by decide) (pa_cons (pv 1) (pa_cons (pv 2) pa_nil))))
    (pss_one (ps_ret (pe_and (pe_cmpR op_ge (pe_callB (c_min rfl) (by rfl) (T.fr "min") (by decide +kernel) (pa_cons (pv 4) pa_nil)) pe_int (nomark _)) (pe_one (pe_cmpR op_le (pk (ok_law_need T) hr (by decide) (pa_cons (pv 0) (pa_cons (pv 1) (pa_cons (pv 4) pa_nil)))) (pv 3) (nomark _))))))), ?_⟩
    walk_at "lgd"
    refine ⟨pw, q, ys, N, l, rfl, hw, W, O, hq, fun q1 H1 s1 f1 h1 => ?_⟩
    have h1' : H1 q1 = some (.lst (((List.range N.ws.length).map fun k => cnt N l k).map V.int)) := by
      rw [h1, List.map_map]
      rfl
    walk_at "lgd"
    refine ⟨q1, _, rfl, h1', by rw [List.length_map, List.length_range]; exact n1, fun m hm hx => ?_⟩
    have cn : 0 ≤ m ↔ ∀ k, k < N.ws.length → 0 ≤ cnt N l k := by
      constructor
      · intro h k hk
        have := hx (cnt N l k) (List.mem_map.mpr ⟨k, List.mem_range.mpr hk, rfl⟩)
        omega
      · intro h
        obtain ⟨k, hk, rfl⟩ := List.mem_map.mp hm
        exact h k (List.mem_range.mp hk)
    walk_at "lgd"
    by_cases c : 0 ≤ m
    · walk_at "lgd"
      refine ⟨pg, pw, q1, xs, ys, N, l, rfl, s1 _ _ hg, G.up s1, s1 _ _ hw, W.up s1, O, h1, fun m2 H2 s2 hm2 hx2 => ?_⟩
      walk_at "lgd"
      refine k _ _ (s1.trans s2) ⟨fun h => ?_, fun F => ?_⟩
      · have h := of_decide_eq_true h
        exact need_complete O hf (cn.mp c) fun x hx => Int.le_trans (hx2 x hx) h
      · exact decide_eq_true (need_sound O F _ hm2)
    · walk_at "lgd"
      refine k _ _ s1 ⟨fun h => ?_, fun F => absurd (cn.mpr F.cn) c⟩
      cases h
end

theorem w_rBl {P : Bool → Prop} {k : Bool} (q : P k) : ∃ k', V.bl k = V.bl k' ∧ P k' := ⟨k, rfl, q⟩
theorem lag_set {N : Nt} {f : Nat → Int} {a : Nat} {c : Int} : (LagL N f).set a (.int (f a + c)) = LagL N (fun g => f g + (if a = g then c else 0)) := by
  apply List.ext_getElem?
  intro i
  rw [List.getElem?_set]
  by_cases hi : i < N.n
  · have e1 : (LagL N f)[i]? = some (.int (f i)) := rng_get hi
    have e2 : (LagL N (fun g => f g + (if a = g then c else 0)))[i]? = some (.int (f i + (if a = i then c else 0))) := rng_get hi
    rw [e1, e2]
    by_cases c1 : a = i
    · subst c1
      have l : a < (LagL N f).length := by unfold LagL; rw [List.length_map, List.length_range]; exact hi
      rw [if_pos rfl, if_pos l, if_pos rfl]
    · rw [if_neg c1, if_neg c1, Int.add_zero]
  · have l1 : (LagL N f).length = N.n := by unfold LagL; rw [List.length_map, List.length_range]
    have l2 : (LagL N (fun g => f g + (if a = g then c else 0))).length = N.n := by unfold LagL; rw [List.length_map, List.length_range]
    by_cases c1 : a = i
    · rw [if_pos c1, if_neg (by omega), List.getElem?_eq_none (by omega)]
    · rw [if_neg c1, List.getElem?_eq_none (by omega), List.getElem?_eq_none (by omega)]
theorem lag_sub {N : Nt} {f : Nat → Int} {a : Nat} {c : Int} : (LagL N f).set a (.int (f a - c)) = LagL N (fun g => f g + (if a = g then -c else 0)) := by
  rw [Int.sub_eq_add_neg]
  exact lag_set
section
variable {K : PySem.W.Frag} {mg : Str → Option Value} {P : Program} {w : World} {base : Heap}
abbrev N_law_piece : List Str := ["_law_gates_here", "_law_wires_here", "_law_piece_here", "_law_most", "_law_here", "_law_wait", "_law_many", "_law_place"]
theorem sc_law_piece : FnScope N_law_piece (["_law_gates_here", "_law_wires_here", "_law_piece_here", "_law_most"] : List Str) (defScope s_law_piece) := ⟨rfl, rfl, rfl, by decide +kernel, rfl, by decide +kernel, by decide +kernel⟩

def sp_law_piece : Sp := fun vs H Q _ => ∃ (pg pw : Addr) (x : V) (xs ys : List V) (N : Nt) (b : Int) (a : Nat) (p : List Nat), vs = [.ref pg, .ref pw, x, .int b] ∧ H pg = some (.lst xs) ∧ GX H xs N ∧ H pw = some (.lst ys) ∧ WX' H ys N ∧ N.Ok ∧ PcV H x a p ∧ a < N.n ∧ Way N a p ∧
  ∀ t H', Same H H' → H' t = some (.tup [.int (endOf N a p : Nat), .int (roomN N b a p)]) → Q (.ref t) H'
theorem ok_law_piece (T : Tx K mg) : CalG P w K mg base CX0 1 "_law_piece" ["_law_gates_here", "_law_wires_here", "_law_piece_here", "_law_most"] sp_law_piece :=
  calG T 58 rfl "_law_piece" rfl (by decide +kernel) sc_law_piece (fun _ _ _ _ _ _ us hl => match us, hl with | [_, _, _, _], _ => rfl) (fun vs H Q E ⟨_, _, _, _, _, _, _, _, _, e, _⟩ => by rw [e]; rfl) fun cdv f A outer s H vs Q E hr ⟨pg, pw, x, xs, ys, N, b, a, p, e, hg, G, hw, W, O, ⟨tp, lp, ex, hp1, hp2⟩, ha, wy, k⟩ => by
    subst e ex
    obtain ⟨pga, kda, ga1, ga2, ga3⟩ := G.2 a ha
    refine ⟨_, (pss_cons (ps_set (i := 4) sc_law_piece.nd rfl (Or.inl rfl) (pe_ix ixt (pv 2) pe_int (fun _ _ => rfl)))
    (pss_cons (ps_set (i := 5) sc_law_piece.nd rfl (Or.inl rfl) (pe_ix ixt (pe_ix ixl (pv 0) (pv 4) (fun _ _ => rfl)) pe_int (fun _ _ => rfl)))
    (pss_cons (ps_set (i := 6) sc_law_piece.nd rfl (Or.inl rfl) pe_int)
    (pss_cons (ps_for PassesOwn.never rfl (k_list (K := K) rfl (pe_ix ixt (pv 2) pe_int (fun _ _ => rfl))) (pg_name (i := 7) sc_law_piece.nd rfl (Or.inl rfl)) (pss_cons (ps_if (pt_cmpR op_ne (pe_ix ixt (pe_ix ixl (pv 1) (pv 7) (fun _ _ => rfl)) pe_int (fun _ _ => rfl)) (pv 4) (nomark _)) (pss_one (ps_ret pe_non)) pss_nil)
    (pss_cons (ps_set (i := 4) sc_law_piece.nd rfl (Or.inl rfl) (pe_ix ixt (pe_ix ixl (pv 1) (pv 7) (fun _ _ => rfl)) pe_int (fun _ _ => rfl)))
    (pss_cons (ps_set (i := 5) sc_law_piece.nd rfl (Or.inl rfl) (pe_op op_add (pv 5) (pe_ix ixt (pe_ix ixl (pv 0) (pv 4) (fun _ _ => rfl)) pe_int (fun _ _ => rfl))))
    (pss_one (ps_set (i := 6) sc_law_piece.nd rfl (Or.inl rfl) (pe_op op_add (pv 6) (pe_callB c_lenT (by rfl) (T.fr "len") PySem.boot_len (pa_cons (pe_ix ixt (pe_ix ixl (pv 1) (pv 7) (fun _ _ => rfl)) pe_int (fun _ _ => rfl)) pa_nil)))))))))
    (pss_one (ps_ret (pe_tup (pa_cons (pv 4) (pa_cons (pe_op op_sub (pv 6) (pe_callTy call_int1 (by rfl) (T.fr "int") (by decide +kernel) (pa_cons (pe_cmpR op_gt (pv 5) (pv 3) (nomark _)) pa_nil))) pa_nil))))))))), ?_⟩
    walk_at "lgd"
    refine for_list hp2 (Same.refl H) (fun i σ Hc => ∃ z, σ = [some (.ref pg), some (.ref pw), some (.ref tp), some (.int b), some (.int (endOf N a (p.take i) : Nat)), some (.int (waitN N a (p.take i))), some (.int (heldN N (p.take i))), z]) ⟨none, by
      have e1 : waitN N a (p.take 0) = N.wt a := by
        show N.wt a + 0 = _
        omega
      rw [e1]
      rfl⟩ (fun i y σ Hc hy s ⟨z, e⟩ => ?_) fun σ Hc s ⟨z, e⟩ => ?_
    · subst e
      obtain ⟨j, hj, rfl⟩ := nl_at hy
      obtain ⟨e1, e2, hj2⟩ := way_at wy hj
      obtain ⟨p1, p2, zs, w1, w2, w3, w4⟩ := W.2 j hj2
      obtain ⟨pge, kde, ge1, ge2, ge3⟩ := G.2 _ (O.ends _ (Nt.w_mem hj2)).2
      have et : p.take (i + 1) = p.take i ++ [j] := by
        rw [List.take_succ, hj]
        rfl
      have e3 : waitN N a (p.take (i + 1)) = waitN N a (p.take i) + N.wt (N.w j).e := by
        rw [et, wait_append]
        show _ + (N.wt (N.w j).e + 0) = _
        omega
      have e4 : heldN N (p.take (i + 1)) = heldN N (p.take i) + ((N.w j).k : Int) := by
        rw [et, held_append]
        show _ + (((N.w j).k : Int) + 0) = _
        omega
      walk_at "lgd"
      refine ⟨s, some (.int (j : Nat)), ?_⟩
      rw [w4, e3, e4, ← e2]
      rfl
    · subst e
      rw [List.take_of_length_le (by rw [nl_len]; exact Nat.le_refl _)]
      walk_at "lgd"
      intro t ht
      refine k t _ (s.trans (same_upd ht)) ?_
      rw [upd_same]
      rfl
abbrev N_law_bound : List Str := ["_law_gates_here", "_law_wires_here", "_law_paper", "_law_most", "_law_total", "_law_more", "_law_piece_here", "_law_many", "_law_found", "_law_end", "_law_space", "_law_gate", "_law_out", "_law_start", "_law_stock", "_law_wire"]
theorem sc_law_bound : FnScope N_law_bound (["_law_gates_here", "_law_wires_here", "_law_paper", "_law_most"] : List Str) (defScope s_law_bound) := ⟨rfl, rfl, rfl, by decide +kernel, rfl, by decide +kernel, by decide +kernel⟩

def sp_law_bound : Sp := fun vs H Q _ => ∃ (pg pw pp : Addr) (xs ys zs : List V) (N : Nt) (b : Int) (es : List En), vs = [.ref pg, .ref pw, .ref pp, .int b] ∧ H pg = some (.lst xs) ∧ GX H xs N ∧ H pw = some (.lst ys) ∧ WX' H ys N ∧ N.Ok ∧ H pp = some (.lst zs) ∧ EntsV H zs es ∧ EnOk N es ∧
  (∀ g, g < N.n → N.fx g = false → toldN N es g = dueN N g) ∧ (∀ e ∈ es, -1 ≤ roomN N b e.1.1 e.1.2 ∧ roomN N b e.1.1 e.1.2 ≤ 21) ∧ ∀ H', Same H H' → Q (.int (regs N - sm es (fun x => x.2 * roomN N b x.1.1 x.1.2))) H'
theorem ok_law_bound (T : Tx K mg) : CalG P w K mg base CX0 2 "_law_bound" ["_law_gates_here", "_law_wires_here", "_law_paper", "_law_most"] sp_law_bound :=
  calG T 59 rfl "_law_bound" rfl (by decide +kernel) sc_law_bound (fun _ _ _ _ _ _ us hl => match us, hl with | [_, _, _, _], _ => rfl) (fun vs H Q E ⟨_, _, _, _, _, _, _, _, _, e, _⟩ => by rw [e]; rfl) fun cdv f A outer s H vs Q E hr ⟨pg, pw, pp, xs, ys, zs, N, b, es, e, hg, G, hw, W, O, hp, hE, eo, td, rb, k⟩ => by
    subst e
    have n7 := O.n7
    have w12 := O.ws12
    have G1 := G.1
    have W1 := W.1
    have le := al_len hE
    have el := eo.1
    refine ⟨_, (pss_cons (ps_set (i := 4) sc_law_bound.nd rfl (Or.inl rfl) (pe_callB (c_sum (.inl rfl)) (by rfl) (T.fr "sum") (by decide +kernel) (pa_cons (pe_lc (own := [("_law_start", 13), ("_law_end", 9), ("_law_stock", 14)]) (g := gT 3 (gCons (gName 13) (gCons (gName 9) (gCons (gName 14) gNil)))) (tt := tYes) rfl sc_law_bound.nd (k_list (K := K) rfl (pv 1)) (blkOk_by (N := N_law_bound) (sc := defScope s_law_bound) (by decide +kernel)) (fun _ _ _ _ _ => (g_tup (n := 3) (.inl rfl) (pgs_cons (pg_name (i := 13) sc_law_bound.nd rfl (Or.inl rfl)) (pgs_cons (pg_name (i := 9) sc_law_bound.nd rfl (Or.inl rfl)) (pgs_cons (pg_name (i := 14) sc_law_bound.nd rfl (Or.inl rfl)) pgs_nil))))) (fun _ _ _ _ _ => pts_nil) (fun _ _ _ _ _ => (pe_callB c_lenT (by rfl) (T.fr "len") PySem.boot_len (pa_cons (pv 14) pa_nil)))) pa_nil)))
    (pss_cons (ps_set (i := 5) sc_law_bound.nd rfl (Or.inl rfl) (pe_op op_rep (pe_lst (pa_cons pe_int pa_nil)) (pe_callB c_lenL (by rfl) (T.fr "len") PySem.boot_len (pa_cons (pv 0) pa_nil))))
    (pss_cons (ps_for PassesOwn.never rfl (k_list (K := K) rfl (pv 2)) (g_tup (n := 2) (.inl rfl) (pgs_cons (pg_name (i := 6) sc_law_bound.nd rfl (Or.inl rfl)) (pgs_cons (pg_name (i := 7) sc_law_bound.nd rfl (Or.inl rfl)) pgs_nil))) (pss_cons (ps_set (i := 8) sc_law_bound.nd rfl (Or.inl rfl) (pk (ok_law_piece T) hr (by decide) (pa_cons (pv 0) (pa_cons (pv 1) (pa_cons (pv 6) (pa_cons (pv 3) pa_nil))))))
    (pss_cons (ps_if (PW.pt (pw_or (pt_cmpR op_isN (pv 8) pe_non (nomark _)) (pw_or1 (pt_cmpR op_lt (pv 7) pe_int (nomark _))))) (pss_one (ps_ret pe_non)) pss_nil)
    (pss_cons (ps_asg (pv 8) (g_tup (n := 2) (.inl rfl) (pgs_cons (pg_name (i := 9) sc_law_bound.nd rfl (Or.inl rfl)) (pgs_cons (pg_name (i := 10) sc_law_bound.nd rfl (Or.inl rfl)) pgs_nil))))
    (pss_cons (ps_asg (pe_op op_add (pe_ix ixl (pv 5) (pe_ix ixt (pv 6) pe_int (fun _ _ => rfl)) (fun _ _ => rfl)) (pv 7)) (pg_sub (pv 5) (pe_ix ixt (pv 6) pe_int (fun _ _ => rfl)) set_list))
    (pss_cons (ps_asg (pe_op op_sub (pe_ix ixl (pv 5) (pv 9) (fun _ _ => rfl)) (pv 7)) (pg_sub (pv 5) (pv 9) set_list))
    (pss_one (ps_set (i := 4) sc_law_bound.nd rfl (Or.inl rfl) (pe_op op_sub (pv 4) (pe_op op_mul (pv 10) (pv 7)))))))))))
    (pss_cons (ps_for PassesOwn.never rfl (pi_range1 (by rfl) (T.fr "range") (pa_cons (pe_callB c_lenL (by rfl) (T.fr "len") PySem.boot_len (pa_cons (pv 0) pa_nil)) pa_nil)) (pg_name (i := 11) sc_law_bound.nd rfl (Or.inr rfl)) (pss_cons (ps_set (i := 12) sc_law_bound.nd rfl (Or.inl rfl) (pe_op op_sub (pe_callB c_lenL (by rfl) (T.fr "len") PySem.boot_len (pa_cons (pe_lc (own := [("_law_wire", 15)]) (g := gName 15) (tt := _) rfl sc_law_bound.nd (k_list (K := K) rfl (pv 1)) (blkOk_by (N := N_law_bound) (sc := defScope s_law_bound) (by decide +kernel)) (fun _ _ _ _ _ => (pg_name (i := 15) sc_law_bound.nd rfl (Or.inl rfl))) (fun _ _ _ _ _ => (pts_one (pt_cmpR op_eq (pe_ix ixt (pv 15) pe_int (fun _ _ => rfl)) (pv 11) (nomark _)))) (fun _ _ _ _ _ => pe_int)) pa_nil)) (pe_callB c_lenL (by rfl) (T.fr "len") PySem.boot_len (pa_cons (pe_lc (own := [("_law_wire", 15)]) (g := gName 15) (tt := _) rfl sc_law_bound.nd (k_list (K := K) rfl (pv 1)) (blkOk_by (N := N_law_bound) (sc := defScope s_law_bound) (by decide +kernel)) (fun _ _ _ _ _ => (pg_name (i := 15) sc_law_bound.nd rfl (Or.inl rfl))) (fun _ _ _ _ _ => (pts_one (pt_cmpR op_eq (pe_ix ixt (pv 15) pe_int (fun _ _ => rfl)) (pv 11) (nomark _)))) (fun _ _ _ _ _ => pe_int)) pa_nil))))
    (pss_one (ps_if (PW.pt (pw_and (pt_cmpR o_ninQ (pe_ix ixt (pe_ix ixl (pv 0) (pv 11) (fun _ _ => rfl)) pe_int (fun _ _ => rfl)) (pe_lst (pa_cons pe_str (pa_cons pe_str pa_nil))) (by rfl)) (pw_and1 (pt_cmpR op_ne (pe_ix ixl (pv 5) (pv 11) (fun _ _ => rfl)) (pv 12) (nomark _))))) (pss_one (ps_ret pe_non)) pss_nil))))
    (pss_one (ps_ret (pv 4))))))), ?_⟩
    walk_at "lgd"
    refine lc_list hw (Same.refl H) (by omega) ((N.ws.map fun w => ((w.k : Nat) : Int)).map V.int) (by rw [List.length_map, List.length_map, W1]) (fun i x y H' hx hy s Qy ky => ?_) fun q2 H2 hq2 s2 hl2 => ?_
    · have hi : i < N.ws.length := by
        have := (List.getElem?_eq_some_iff.mp hx).1
        omega
      obtain ⟨p1, p2, vs, w1, w2, w3, w4⟩ := W.2 i hi
      rw [hx] at w1
      cases Option.some.inj w1
      rw [List.getElem?_map, List.getElem?_map, List.getElem?_eq_getElem hi] at hy
      cases Option.some.inj hy
      walk_at "lgd"
      refine w_in' ?_ (ky H' (Same.refl _))
      rw [w4]
      unfold Nt.w
      rw [List.getD_eq_getElem?_getD, List.getElem?_eq_getElem hi]
      rfl
    walk_at "lgd"
    intro n3 hn3
    have s3 := s2.trans (same_upd (o := .lst [V.int 0]) hn3)
    have h3 := upd_same (H := H2) (a := n3) (o := .lst [V.int 0])
    generalize upd H2 n3 (.lst [V.int 0]) = H3 at s3 h3 ⊢
    walk_at "lgd"
    refine w_rep h3 (by omega) (by omega) fun pm hpm => ?_
    have hpm0 := s3.free hpm
    have em : List.replicate ((xs.length : Nat) : Int).toNat (V.int 0) = LagL N (toldN N []) := by
      have e : ((xs.length : Nat) : Int).toNat = N.n := by omega
      rw [e]
      unfold LagL
      apply List.ext_getElem?
      intro i
      by_cases hi : i < N.n
      · rw [List.getElem?_replicate, if_pos hi, rng_get hi]
        rfl
      · rw [List.getElem?_eq_none (by rw [List.length_replicate]; omega), List.getElem?_eq_none (by rw [List.length_map, List.length_range]; omega)]
    rw [em]
    have X4 : Ext H H H (upd H3 pm (.lst (LagL N (toldN N [])))) := Ext.trans (Ext.grow (Same.refl H) s3) (Ext.hide s3 hpm)
    have h4 := upd_same (H := H3) (a := pm) (o := .lst (LagL N (toldN N [])))
    generalize upd H3 pm (.lst (LagL N (toldN N []))) = H4 at X4 h4 ⊢
    walk_at "lgd"
    refine for_list hp X4.s (fun i σ Hc => Ext H H H Hc ∧ Hc pm = some (.lst (LagL N (toldN N (es.take i)))) ∧ ∃ z6 z7 z8 z9 z10, σ = [some (.ref pg), some (.ref pw), some (.ref pp), some (.int b), some (.int (regs N - sm (es.take i) (fun x => x.2 * roomN N b x.1.1 x.1.2))), some (.ref pm), z6, z7, z8, z9, z10, none, none, none, none, none]) ⟨X4, h4, none, none, none, none, none, ?_⟩ (fun i y σ Hc hy s ⟨X, hm, z6, z7, z8, z9, z10, e⟩ => ?_) fun σ Hc s ⟨X, hm, z6, z7, z8, z9, z10, e⟩ => ?_
    · have e5 : regs N - sm (es.take 0) (fun x => x.2 * roomN N b x.1.1 x.1.2) = (N.ws.map fun w => ((w.k : Nat) : Int)).sum := by
        show regs N - 0 = _
        rw [Int.sub_zero]
        rfl
      rw [e5]
      rfl
    · subst e
      obtain ⟨e1, he, te, px, ee, h5, hpc⟩ := al_get hE hy
      subst ee
      obtain ⟨a1, a2, a3, a4⟩ := eo.2 e1 (List.mem_of_getElem? he)
      have rr := rb e1 (List.mem_of_getElem? he)
      obtain ⟨tp, lp, ep, hp1, hp2⟩ := id hpc
      subst ep
      have et : es.take (i + 1) = es.take i ++ [e1] := by
        rw [List.take_succ, he]
        rfl
      walk_at "lgd"
      refine ⟨pg, pw, _, xs, ys, N, b, e1.1.1, e1.1.2, rfl, s _ _ hg, G.up s, s _ _ hw, W.up s, O, hpc.up s, a1, a2, fun t6 H6 s6 h6 => ?_⟩
      have X6 := X.trans (Ext.grow X.s s6)
      have hm6 := s6 _ _ hm
      have hend := O.end_lt a1 a2
      have gl : ∀ (f : Nat → Int) g, g < N.n → (LagL N f)[g]? = some (.int (f g)) := fun f g hg => rng_get hg
      have b1 := gl (toldN N (es.take i)) _ a1
      have ll : ∀ f : Nat → Int, (LagL N f).length = N.n := fun f => by unfold LagL; rw [List.length_map, List.length_range]
      have sX6 := X6.s
      walk_at "lgd"
      refine w_gS ?_
      walk_at "lgd"
      refine w_setL hm6 (by rw [ll]; exact a1) ?_
      rw [lag_set]
      have X7 := X6.mut (o := .lst (LagL N (fun g => toldN N (es.take i) g + (if e1.1.1 = g then e1.2 else 0)))) hpm0 hpm0
      have hm7 := upd_same (H := H6) (a := pm) (o := .lst (LagL N (fun g => toldN N (es.take i) g + (if e1.1.1 = g then e1.2 else 0))))
      show Ends.nx _ _ (upd H6 pm (.lst (LagL N (fun g => toldN N (es.take i) g + (if e1.1.1 = g then e1.2 else 0)))))
      generalize upd H6 pm (.lst (LagL N (fun g => toldN N (es.take i) g + (if e1.1.1 = g then e1.2 else 0)))) = H7 at X7 hm7 ⊢
      have b2 := gl (fun g => toldN N (es.take i) g + (if e1.1.1 = g then e1.2 else 0)) _ hend
      walk_at "lgd"
      refine w_gS ?_
      walk_at "lgd"
      refine w_setL hm7 (by rw [ll]; exact hend) ?_
      have ef : (fun g => (toldN N (es.take i) g + (if e1.1.1 = g then e1.2 else 0)) + (if endOf N e1.1.1 e1.1.2 = g then -e1.2 else 0)) = toldN N (es.take (i + 1)) := by
        funext g
        rw [et]
        unfold toldN
        rw [sm_append, sm_cons, sm_nil]
        unfold ind
        by_cases c1 : e1.1.1 = g <;> by_cases c2 : endOf N e1.1.1 e1.1.2 = g
        · rw [if_pos c1, if_pos c2, if_pos c1, if_pos c2]
          omega
        · rw [if_pos c1, if_neg c2, if_pos c1, if_neg c2]
          omega
        · rw [if_neg c1, if_pos c2, if_neg c1, if_pos c2]
          omega
        · rw [if_neg c1, if_neg c2, if_neg c1, if_neg c2]
          omega
      have e0 : (LagL N (fun g => toldN N (es.take i) g + (if e1.1.1 = g then e1.2 else 0))).set (endOf N e1.1.1 e1.1.2) (.int (toldN N (es.take i) (endOf N e1.1.1 e1.1.2) + (if e1.1.1 = endOf N e1.1.1 e1.1.2 then e1.2 else 0) - e1.2)) = LagL N (toldN N (es.take (i + 1))) := by
        rw [← ef]
        exact lag_sub (f := fun g => toldN N (es.take i) g + (if e1.1.1 = g then e1.2 else 0))
      show Ends.nx _ _ (upd H7 pm (.lst ((LagL N (fun g => toldN N (es.take i) g + (if e1.1.1 = g then e1.2 else 0))).set (endOf N e1.1.1 e1.1.2) (.int (toldN N (es.take i) (endOf N e1.1.1 e1.1.2) + (if e1.1.1 = endOf N e1.1.1 e1.1.2 then e1.2 else 0) - e1.2)))))
      rw [e0]
      have X8 := X7.mut (o := .lst (LagL N (toldN N (es.take (i + 1))))) hpm0 hpm0
      have hm8 := upd_same (H := H7) (a := pm) (o := .lst (LagL N (toldN N (es.take (i + 1)))))
      generalize upd H7 pm (.lst (LagL N (toldN N (es.take (i + 1))))) = H8 at X8 hm8 ⊢
      walk_at "lgd"
      refine w_iC (c := CMul) (.inl ⟨by omega, by omega⟩) ?_
      walk_at "lgd"
      have e9 : regs N - sm (es.take (i + 1)) (fun x => x.2 * roomN N b x.1.1 x.1.2) = regs N - sm (es.take i) (fun x => x.2 * roomN N b x.1.1 x.1.2) - roomN N b e1.1.1 e1.1.2 * e1.2 := by
        rw [et, sm_append, sm_cons, sm_nil, Int.mul_comm (roomN N b e1.1.1 e1.1.2)]
        omega
      exact ⟨X8.s, X8, hm8, _, _, _, _, _, by rw [e9]; rfl⟩
    · subst e
      rw [List.take_of_length_le (by omega)] at *
      walk_at "lgd"
      refine w_rR1 (n := N.n) ?_ ?_ ?_
      · omega
      · omega
      refine for_src src_range0 s (fun i σ H' => Ext H H H H' ∧ H' pm = some (.lst (LagL N (toldN N es))) ∧ ∃ z11 z12, σ = [some (.ref pg), some (.ref pw), some (.ref pp), some (.int b), some (.int (regs N - sm es (fun x => x.2 * roomN N b x.1.1 x.1.2))), some (.ref pm), z6, z7, z8, z9, z10, z11, z12, none, none, none]) ⟨X, hm, none, none, rfl⟩ (fun g x σ Hc H'' hgn sx ⟨X, hm, z11, z12, e⟩ ⟨r1, r2⟩ => ?_) fun σ Hc sx ⟨X, hm, z11, z12, e⟩ => ?_
      · subst r1 r2 e
        obtain ⟨pgg, kdg, gg1, gg2, gg3⟩ := G.2 g hgn
        have gm : (LagL N (toldN N es))[g]? = some (.int (toldN N es g)) := rng_get hgn
        walk_at "lgd"
        refine lcF (src_list (SqL.of hw)) sx (by omega) (fun k => decide ((((N.w k).s : Nat) : Int) = (g : Nat))) (fun k => .int 1) (fun i x H' H'' hi s ⟨r1, r2⟩ Qy Qn ky kn => ?_) fun q5 H5 hq5 s5 hl5 => ?_
        · subst r1
          obtain ⟨p1, p2, vs, w1, w2, w3, w4⟩ := W.2 i (by omega)
          rw [r2] at w1
          cases Option.some.inj w1
          walk_at "lgd"
          by_cases c : (((N.w i).s : Nat) : Int) = (g : Nat)
          · walk_at "lgd"
            exact ky (decide_eq_true c) _ (Same.refl _)
          · walk_at "lgd"
            exact kn (decide_eq_false c) _ (Same.refl _)
        have X5 := X.trans (Ext.grow X.s s5)
        have hm5 := s5 _ _ hm
        walk_at "lgd"
        refine lcF (src_list (SqL.of hw)) X5.s (by omega) (fun k => decide ((((N.w k).e : Nat) : Int) = (g : Nat))) (fun k => .int 1) (fun i x H' H'' hi s ⟨r1, r2⟩ Qy Qn ky kn => ?_) fun q6 H6 hq6 s6 hl6 => ?_
        · subst r1
          obtain ⟨p1, p2, vs, w1, w2, w3, w4⟩ := W.2 i (by omega)
          rw [r2] at w1
          cases Option.some.inj w1
          walk_at "lgd"
          by_cases c : (((N.w i).e : Nat) : Int) = (g : Nat)
          · walk_at "lgd"
            exact ky (decide_eq_true c) _ (Same.refl _)
          · walk_at "lgd"
            exact kn (decide_eq_false c) _ (Same.refl _)
        have X6 := X5.trans (Ext.grow X5.s s6)
        have hm6 := s6 _ _ hm5
        have ed : ((((List.range ys.length).filter fun k => decide ((((N.w k).s : Nat) : Int) = (g : Nat))).map (fun _ => V.int 1)).length : Int) - (((((List.range ys.length).filter fun k => decide ((((N.w k).e : Nat) : Int) = (g : Nat))).map (fun _ => V.int 1)).length : Nat) : Int) = dueN N g := by
          rw [List.length_map, List.length_map, W1]
          unfold dueN
          rw [sm_sub, ← filter_ind (fun w => w.s) g ⟨0, 0, 0⟩, ← filter_ind (fun w => w.e) g ⟨0, 0, 0⟩]
          rfl
        have s6D := X6.s
        walk_at "lgd"
        rw [ed]
        intro l7 hl7
        have X7 := X6.trans (Ext.hide (o := .lst [V.str "in", .str "out"]) X6.s hl7)
        have h7 := upd_same (H := H6) (a := l7) (o := .lst [V.str "in", .str "out"])
        have hm7 := at_upd (o' := .lst [V.str "in", .str "out"]) hl7 hm6
        generalize upd H6 l7 (.lst [V.str "in", .str "out"]) = H7 at X7 h7 hm7 ⊢
        walk_at "lgd"
        rw [in_str2, ← gg3]
        cases c : N.fx g with
        | true =>
          walk_at "lgd"
          exact ⟨X7.s, X7, hm7, _, _, rfl⟩
        | false =>
          have e8 := td g hgn c
          walk_at "lgd"
          exact ⟨X7.s, X7, hm7, _, _, rfl⟩
      · subst e
        walk_at "lgd"
        exact k _ X.s
end

/-- lags for the first i gates, as a list -/
def LgV (N : Nt) (i : Nat) (v : V) (H : Hp) (as : List Int) : Prop := ∃ p, v = .ref p ∧ H p = some (.lst (as.map V.int)) ∧ as.length = i ∧ ∀ g, g < i → N.fx g = true → as[g]? = some 0
theorem LgV.up {N : Nt} {i : Nat} {v : V} {H H' : Hp} {as : List Int} (s : Same H H') (h : LgV N i v H as) : LgV N i v H' as := by
  obtain ⟨p, h1, h2, h3⟩ := h
  exact ⟨p, h1, s _ _ h2, h3⟩
def inn (N : Nt) (i : Nat) : Nat := ((List.range i).filter fun g => !N.fx g).length
theorem inn_succ {N : Nt} {i : Nat} : inn N (i + 1) = inn N i + (if N.fx i = true then 0 else 1) := by
  unfold inn
  rw [List.range_succ, List.filter_append, List.length_append]
  congr 1
  cases c : N.fx i with
  | true => simp [c]
  | false => simp [c]
theorem inn_le {N : Nt} (O : N.Ok) : ∀ {i : Nat}, i ≤ N.n → inn N i ≤ 3 := by
  have key : ∀ d i, i + d = N.n → inn N i ≤ inn N N.n := by
    intro d
    induction d with
    | zero =>
      intro i h
      have : i = N.n := h
      rw [this]
      exact Nat.le_refl _
    | succ d ih =>
      intro i h
      have h1 := ih (i + 1) (by omega)
      have h2 := inn_succ (N := N) (i := i)
      omega
  intro i h
  exact Nat.le_trans (key (N.n - i) i (by omega)) O.inner
theorem pow7 : ∀ {k : Nat}, k ≤ 3 → 7 ^ k ≤ 343
  | 0, _ => by decide
  | 1, _ => by decide
  | 2, _ => by decide
  | 3, _ => by decide
  | k + 4, h => by omega
def AllQ (N : Nt) (v : V) (D : Hp) : Prop := ∃ (q : Addr) (acc : List V) (ls : List (List Int)), v = .ref q ∧ D q = some (.lst acc) ∧ acc.length ≤ 343 ∧ Al (LgV N N.n) D acc ls
section
variable {K : PySem.W.Frag} {mg : Str → Option Value} {P : Program} {w : World} {base : Heap}
abbrev N_law_all_lags : List Str := ["_law_gates_here", "_law_far", "_law_found", "_law_kind", "_law_wait", "_law_longer", "_law_lag", "_law_lags_here"]
theorem sc_law_all_lags : FnScope N_law_all_lags (["_law_gates_here", "_law_far"] : List Str) (defScope s_law_all_lags) := ⟨rfl, rfl, rfl, by decide +kernel, rfl, by decide +kernel, by decide +kernel⟩

def sp_law_all_lags : Sp := fun vs H Q _ => ∃ (pg : Addr) (xs : List V) (N : Nt) (D : Hp), vs = [.ref pg, .int 3] ∧ Same D H ∧ D pg = some (.lst xs) ∧ GX D xs N ∧ N.Ok ∧ New D H (AllQ N) Q
theorem ok_law_all_lags (T : Tx K mg) : CalG P w K mg base CX0 1 "_law_all_lags" ["_law_gates_here", "_law_far"] sp_law_all_lags :=
  calG T 55 rfl "_law_all_lags" rfl (by decide +kernel) sc_law_all_lags (fun _ _ _ _ _ _ us hl => match us, hl with | [_, _], _ => rfl) (fun vs H Q E ⟨_, _, _, _, e, _⟩ => by rw [e]; rfl) fun cdv f A outer s H vs Q E hr ⟨pg, xs, N, D, e, sD, hg, G, O, k⟩ => by
    subst e
    have n7 := O.n7
    have G1 := G.1
    refine ⟨_, (pss_cons (ps_set (i := 2) sc_law_all_lags.nd rfl (Or.inl rfl) (pe_lst (pa_cons (pe_lst pa_nil) pa_nil)))
    (pss_cons (ps_for PassesOwn.never rfl (k_list (K := K) rfl (pv 0)) (g_tup (n := 2) (.inl rfl) (pgs_cons (pg_name (i := 3) sc_law_all_lags.nd rfl (Or.inl rfl)) (pgs_cons (pg_name (i := 4) sc_law_all_lags.nd rfl (Or.inl rfl)) pgs_nil))) (pss_one (ps_if (PW.pt (pw_or (pt_cmpR op_eq (pv 3) pe_str (nomark _)) (pw_or1 (pt_cmpR op_eq (pv 3) pe_str (nomark _))))) (pss_one (ps_setLc (i := 2) (own := [("_law_lags_here", 7)]) (g := gName 7) (tt := tYes) rfl sc_law_all_lags.nd rfl rfl (sw_true rfl rfl rfl (by decide +kernel)) (k_list (K := K) rfl (pv 2)) (blkOk_by (N := N_law_all_lags) (sc := defScope s_law_all_lags) (by decide +kernel)) (fun _ _ _ _ _ => (pg_name (i := 7) sc_law_all_lags.nd rfl (Or.inl rfl))) (fun _ _ _ _ _ => pts_nil) (fun _ _ _ _ _ => (pe_op op_cat (pv 7) (pe_lst (pa_cons pe_int pa_nil)))))) (pss_cons (ps_set (i := 5) sc_law_all_lags.nd rfl (Or.inl rfl) (pe_lst pa_nil))
    (pss_cons (ps_for PassesOwn.never rfl (pi_range2 (by rfl) (T.fr "range") (pa_cons (pe_op op_sub pe_int (pv 1)) (pa_cons (pe_op op_add (pv 1) pe_int) pa_nil))) (pg_name (i := 6) sc_law_all_lags.nd rfl (Or.inr rfl)) (pss_one (ps_set (i := 5) sc_law_all_lags.nd rfl (Or.inl rfl) (pe_op op_cat (pv 5) (pe_lc (own := [("_law_lags_here", 7)]) (g := gName 7) (tt := tYes) rfl sc_law_all_lags.nd (k_list (K := K) rfl (pv 2)) (blkOk_by (N := N_law_all_lags) (sc := defScope s_law_all_lags) (by decide +kernel)) (fun _ _ _ _ _ => (pg_name (i := 7) sc_law_all_lags.nd rfl (Or.inl rfl))) (fun _ _ _ _ _ => pts_nil) (fun _ _ _ _ _ => (pe_op op_cat (pv 7) (pe_lst (pa_cons (pv 6) pa_nil)))))))))
    (pss_one (ps_set (i := 2) sc_law_all_lags.nd rfl (Or.inl rfl) (pv 5))))))))
    (pss_one (ps_ret (pv 2))))), ?_⟩
    walk_at "lgd"
    intro l1 hl1
    have Y1 := Ext.new (o := .lst []) sD hl1
    have d1 : upd D l1 (.lst []) l1 = _ := upd_same
    generalize upd H l1 (.lst []) = H1 at Y1 ⊢
    generalize upd D l1 (.lst []) = D1 at Y1 d1
    walk_at "lgd"
    intro l2 hl2
    have Y2 := Y1.trans (Ext.new (o := .lst [V.ref l1]) Y1.s hl2)
    have d12 : upd D1 l2 (.lst [V.ref l1]) l1 = some (.lst []) := same_upd (Y1.s.free hl2) _ _ d1
    have d2 : upd D1 l2 (.lst [V.ref l1]) l2 = _ := upd_same
    generalize upd H1 l2 (.lst [V.ref l1]) = H2 at Y2 ⊢
    generalize upd D1 l2 (.lst [V.ref l1]) = D2 at Y2 d12 d2
    have sY2 := Y2.dh
    walk_at "lgd"
    refine for_list hg sY2 (fun i σ Hc => ∃ (D' : Hp) (q : Addr) (acc : List V) (ls : List (List Int)), Ext D H D' Hc ∧ D' q = some (.lst acc) ∧ acc.length ≤ 7 ^ inn N i ∧ Al (LgV N i) D' acc ls ∧ ∃ z3 z4 z5 z6, σ = [some (.ref pg), some (.int 3), some (.ref q), z3, z4, z5, z6, none]) ⟨D2, l2, [.ref l1], [[]], Y2, d2, Nat.le_refl _, ⟨⟨l1, rfl, d12, rfl, fun g hg => absurd hg (Nat.not_lt_zero g)⟩, trivial⟩, _, _, _, _, rfl⟩ (fun i x σ Hc hx sx ⟨D', q, acc, ls, X, hq, la, al, z3, z4, z5, z6, e⟩ => ?_) fun σ Hc sx ⟨D', q, acc, ls, X, hq, la, al, z3, z4, z5, z6, e⟩ => ?_
    · subst e
      have hi : i < N.n := by
        have := (List.getElem?_eq_some_iff.mp hx).1
        omega
      obtain ⟨p1, kd, g1, g2, g3⟩ := G.2 i hi
      rw [hx] at g1
      cases Option.some.inj g1
      have p7 := pow7 (inn_le O (Nat.le_of_lt hi))
      -- each list with one more
      have ext1 : ∀ (v : V) (as : List Int) (D3 : Hp) (c : Int) (t : Addr), LgV N i v D3 as → (N.fx i = true → c = 0) → LgV N (i + 1) (.ref t) (upd D3 t (.lst (as.map V.int ++ [.int c]))) (as ++ [c]) := by
        intro v as D3 c t h hc
        obtain ⟨p, h1, h2, h3, h4⟩ := h
        refine ⟨t, rfl, by rw [upd_same, List.map_append]; rfl, by rw [List.length_append, h3]; rfl, fun g hg hf => ?_⟩
        by_cases c1 : g < i
        · rw [List.getElem?_append_left (by omega)]
          exact h4 g c1 hf
        · have e : g = i := by omega
          subst e
          rw [List.getElem?_append_right (by omega), h3, Nat.sub_self, hc hf]
          rfl
      have hq' := X.s _ _ hq
      walk_at "lgd"
      cases c : N.fx i with
      | true =>
        rw [c] at g3
        have fin : ∀ (Dd : Hp) (q6 : Addr) (acc6 : List V) (ls6 : List (List Int)) (Hd : Hp), Ext D H Dd Hd → Dd q6 = some (.lst acc6) → acc6.length = acc.length → Al (LgV N (i + 1)) Dd acc6 ls6 → Same D Hd ∧ ∃ (D' : Hp) (q : Addr) (acc : List V) (ls : List (List Int)), Ext D H D' Hd ∧ D' q = some (.lst acc) ∧ acc.length ≤ 7 ^ inn N (i + 1) ∧ Al (LgV N (i + 1)) D' acc ls ∧ ∃ z3' z4' z5' z6', [some (V.ref pg), some (.int 3), some (.ref q6), some (.str kd), some (.int (N.wt i)), z5, z6, none] = [some (.ref pg), some (.int 3), some (.ref q), z3', z4', z5', z6', none] := fun Dd q6 acc6 ls6 Hd X6 h6 l6 al6 =>
          ⟨X6.dh, Dd, q6, acc6, ls6, X6, h6, by rw [inn_succ, c, if_pos rfl, l6]; exact la, al6, _, _, _, _, rfl⟩
        by_cases ci : kd = Str.ofString "in"
        · walk_at "lgd"
          refine lcG (src_list (SqL.of hq)) X.s (by omega) (fun j v D3 => ∀ as, ls[j]? = some as → LgV N (i + 1) v D3 (as ++ [0])) (fun j v D1 D2 e h as ha => (h as ha).up e) (fun j x D3 H3 H'' hj X3 ⟨r1, r2⟩ Qy ky => ?_) fun q6 acc6 D6 H6 hq6 X6 dq6 h6 la6 ha6 => ?_
          · subst r1
            obtain ⟨as, has, p, ep, hp, lp, fp⟩ := al_get al r2
            subst ep
            have hp3 := X3.d _ _ hp
            walk_at "lgd"
            intro n7 hn7
            have Z := (Ext.refl X3.s).trans (Ext.hide (o := .lst [V.int 0]) X3.s hn7)
            have hn8 := upd_same (H := H'') (a := n7) (o := .lst [V.int 0])
            generalize upd H'' n7 (.lst [V.int 0]) = H8 at Z hn8 ⊢
            refine w_cat (Z.s _ _ hp3) hn8 (by rw [List.length_map]; show as.length + 1 < 100000; omega) fun t ht => ?_
            refine ky _ _ _ (Z.trans (Ext.new Z.s ht)) fun as' has' => ?_
            rw [has] at has'
            cases has'
            exact ext1 _ as D3 0 t ⟨p, rfl, hp3, lp, fp⟩ fun _ => rfl
          · walk_at "lgd"
            refine fin _ q6 acc6 (ls.map fun as => as ++ [0]) _ (X.trans (X6.fix hq6 dq6 h6)) upd_same la6 ?_
            refine al_idx (by rw [List.length_map, la6]; exact al_len al) fun j v a hv ha => ?_
            rw [List.getElem?_map] at ha
            cases c2 : ls[j]? with
            | none =>
              rw [c2] at ha
              cases ha
            | some as =>
              rw [c2] at ha
              cases Option.some.inj ha
              exact (ha6 j v hv as c2).up (same_upd dq6)
        · have co : kd = Str.ofString "out" := by
            have g3' := g3.symm
            rcases Bool.or_eq_true_iff.mp g3' with h | h
            · exact absurd (of_decide_eq_true h) ci
            · exact of_decide_eq_true h
          walk_at "lgd"
          refine lcG (src_list (SqL.of hq)) X.s (by omega) (fun j v D3 => ∀ as, ls[j]? = some as → LgV N (i + 1) v D3 (as ++ [0])) (fun j v D1 D2 e h as ha => (h as ha).up e) (fun j x D3 H3 H'' hj X3 ⟨r1, r2⟩ Qy ky => ?_) fun q6 acc6 D6 H6 hq6 X6 dq6 h6 la6 ha6 => ?_
          · subst r1
            obtain ⟨as, has, p, ep, hp, lp, fp⟩ := al_get al r2
            subst ep
            have hp3 := X3.d _ _ hp
            walk_at "lgd"
            intro n7 hn7
            have Z := (Ext.refl X3.s).trans (Ext.hide (o := .lst [V.int 0]) X3.s hn7)
            have hn8 := upd_same (H := H'') (a := n7) (o := .lst [V.int 0])
            generalize upd H'' n7 (.lst [V.int 0]) = H8 at Z hn8 ⊢
            refine w_cat (Z.s _ _ hp3) hn8 (by rw [List.length_map]; show as.length + 1 < 100000; omega) fun t ht => ?_
            refine ky _ _ _ (Z.trans (Ext.new Z.s ht)) fun as' has' => ?_
            rw [has] at has'
            cases has'
            exact ext1 _ as D3 0 t ⟨p, rfl, hp3, lp, fp⟩ fun _ => rfl
          · walk_at "lgd"
            refine fin _ q6 acc6 (ls.map fun as => as ++ [0]) _ (X.trans (X6.fix hq6 dq6 h6)) upd_same la6 ?_
            refine al_idx (by rw [List.length_map, la6]; exact al_len al) fun j v a hv ha => ?_
            rw [List.getElem?_map] at ha
            cases c2 : ls[j]? with
            | none =>
              rw [c2] at ha
              cases ha
            | some as =>
              rw [c2] at ha
              cases Option.some.inj ha
              exact (ha6 j v hv as c2).up (same_upd dq6)
      | false =>
        rw [c] at g3
        obtain ⟨k1, k2⟩ := Bool.or_eq_false_iff.mp g3.symm
        have k1 := of_decide_eq_false k1
        have k2 := of_decide_eq_false k2
        walk_at "lgd"
        intro l5 hl5
        have X5 := X.trans (Ext.new (o := .lst []) X.s hl5)
        have s5 : Same D' (upd D' l5 (.lst [])) := same_upd (X.s.free hl5)
        have d5 : upd D' l5 (.lst []) l5 = _ := upd_same
        generalize upd Hc l5 (.lst []) = H5 at X5 ⊢
        generalize upd D' l5 (.lst []) = D5 at X5 s5 d5
        walk_at "lgd"
        refine w_rR2 (n := 7) (by decide) (by decide) (by decide) ?_
        refine for_range D X5.dh (fun j σ Hc => ∃ (D6 : Hp) (q6 : Addr) (acc6 : List V) (ls6 : List (List Int)), Ext D H D6 Hc ∧ Same D' D6 ∧ D6 q6 = some (.lst acc6) ∧ acc6.length ≤ j * acc.length ∧ Al (LgV N (i + 1)) D6 acc6 ls6 ∧ ∃ z6, σ = [some (.ref pg), some (.int 3), some (.ref q), some (.str kd), some (.int (N.wt i)), some (.ref q6), z6, none]) ⟨D5, l5, [], [], X5, s5, d5, Nat.zero_le _, trivial, _, rfl⟩ (fun j σ Hc hj sx ⟨D6, q6, acc6, ls6, X6, s6, h6, la6, al6, z6, e⟩ => ?_) fun σ Hc sx ⟨D6, q6, acc6, ls6, X6, s6, h6, la6, al6, z6, e⟩ => ?_
        · subst e
          have hq6 := s6 _ _ hq
          have sX6 := X6.s
          walk_at "lgd"
          refine lcG (src_list (SqL.of hq6)) X6.s (by omega) (fun j2 v D3 => ∀ as, ls[j2]? = some as → LgV N (i + 1) v D3 (as ++ [0 - 3 + ((j : Nat) : Int)])) (fun j v D1 D2 e h as ha => (h as ha).up e) (fun j2 x D3 H3 H'' hj2 X3 ⟨r1, r2⟩ Qy ky => ?_) fun q7 acc7 D7 H7 hq7 X7 dq7 h7 la7 ha7 => ?_
          · subst r1
            obtain ⟨as, has, p, ep, hp, lp, fp⟩ := al_get al r2
            subst ep
            have hp3 := X3.d _ _ (s6 _ _ hp)
            walk_at "lgd"
            intro n7 hn7
            have Z := (Ext.refl X3.s).trans (Ext.hide (o := .lst [V.int (0 - 3 + ((j : Nat) : Int))]) X3.s hn7)
            have hn8 := upd_same (H := H'') (a := n7) (o := .lst [V.int (0 - 3 + ((j : Nat) : Int))])
            generalize upd H'' n7 (.lst [V.int (0 - 3 + ((j : Nat) : Int))]) = H8 at Z hn8 ⊢
            refine w_cat (Z.s _ _ hp3) hn8 (by rw [List.length_map]; show as.length + 1 < 100000; omega) fun t ht => ?_
            refine ky _ _ _ (Z.trans (Ext.new Z.s ht)) fun as' has' => ?_
            rw [has] at has'
            cases has'
            exact ext1 _ as D3 _ t ⟨p, rfl, hp3, lp, fp⟩ fun h => by rw [c] at h; cases h
          · have X8 := X6.trans (X7.fix hq7 dq7 h7)
            have s68 : Same D6 (upd D7 q7 (.lst acc7)) := X7.d.trans (same_upd dq7)
            have d8 : upd D7 q7 (.lst acc7) q7 = _ := upd_same
            have al7 : Al (LgV N (i + 1)) (upd D7 q7 (.lst acc7)) acc7 (ls.map fun as => as ++ [0 - 3 + ((j : Nat) : Int)]) := by
              refine al_idx (by rw [List.length_map, la7]; exact al_len al) fun j2 v a hv ha => ?_
              rw [List.getElem?_map] at ha
              cases c2 : ls[j2]? with
              | none =>
                rw [c2] at ha
                cases ha
              | some as =>
                rw [c2] at ha
                cases Option.some.inj ha
                exact (ha7 j2 v hv as c2).up (same_upd dq7)
            generalize upd D7 q7 (.lst acc7) = D8 at X8 s68 d8 al7
            have j7 : j * acc.length ≤ 7 * 343 := Nat.mul_le_mul (by omega) (by omega)
            refine w_cat (X8.s _ _ (s68 _ _ h6)) (X8.s _ _ d8) (by omega) fun t9 ht9 => ?_
            have Y9 := Ext.new (o := .lst (acc6 ++ acc7)) X8.s ht9
            walk_at "lgd"
            refine ⟨(X8.trans Y9).dh, _, t9, _, _, X8.trans Y9, s6.trans (s68.trans Y9.d), upd_same, ?_, al_app (al_mono (fun v a q => LgV.up (s68.trans Y9.d) q) al6) (al_mono (fun v a q => LgV.up Y9.d q) al7), _, rfl⟩
            rw [List.length_append, la7, Nat.succ_mul]
            omega
        · subst e
          walk_at "lgd"
          refine ⟨X6.dh, D6, q6, acc6, ls6, X6, h6, ?_, al6, _, _, _, _, rfl⟩
          rw [inn_succ, c, if_neg Bool.false_ne_true, Nat.pow_succ]
          omega
    · subst e
      walk_at "lgd"
      rw [G1] at la al
      exact k _ _ _ X ⟨q, acc, ls, rfl, hq, Nat.le_trans la (pow7 (inn_le O (Nat.le_refl _))), al⟩
end

theorem XS.ps {ps : Addr} {D H D' H' : Hp} (x : Ext D H D' H') (dp : D ps = none) (sv : Sv ps H) : D' ps = none ∧ Sv ps H' := by
  obtain ⟨s1, s2, s3⟩ := sv
  exact ⟨x.out s2 dp, s1, x.h _ _ s2, s3⟩
theorem sm_bound {A : Type} {h : A → Int} {c : Int} : ∀ {l : List A}, (∀ a ∈ l, h a ≤ c) → sm l h ≤ c * (l.length : Int)
  | [], _ => by
    show (0 : Int) ≤ c * 0
    omega
  | a :: l, e => by
    have ih := sm_bound (l := l) fun b hb => e b (List.mem_cons_of_mem _ hb)
    have := e a List.mem_cons_self
    rw [sm_cons, List.length_cons]
    have e2 : c * ((l.length + 1 : Nat) : Int) = c * (l.length : Int) + c := by
      rw [Int.natCast_add, Int.mul_add]
      show _ + c * 1 = _
      omega
    rw [e2]
    omega
theorem feas_800 {N : Nt} (O : N.Ok) : Feas N 800 (fun _ => 0) := by
  refine ⟨fun _ _ _ => rfl, fun k _ => ?_, fun a ha q hq hl _ => ?_⟩
  · show (0 : Int) ≤ ((N.w k).k : Int) + 0 - 0
    omega
  · have h1 := (O.wt0 a ha).2
    have h2 := sm_bound (l := q) (h := fun k => N.wt (N.w k).e) (c := 100) fun k hk => (O.wt0 _ (O.ends _ (Nt.w_mem (hq.lt k hk))).2).2
    have h3 := O.n7
    show N.wt a + sm q _ ≤ 800
    omega
theorem least_800 {N : Nt} {b : Int} (O : N.Ok) (L : LeastOk N b) : b ≤ 800 := by
  refine Int.le_of_not_gt fun h => ?_
  exact L.none 800 (by decide) h _ (feas_800 O)
def gs1 : List Gd := [("sum", 7)]
theorem pok1 : POk gs1 [] where
  gk := fun g hg => by
    rw [List.mem_singleton.mp hg]
    exact ⟨by decide +kernel, by decide, fun h => (by revert h; decide +kernel), by decide +kernel⟩
  ne := by
    unfold gs1
    exact fun z => nomatch z
  g7 := by decide
  wl := by decide
  we := fun w hw => by cases hw
  noOut := fun w hw => by cases hw
  noIn := fun w hw => by cases hw
  uniq := fun i j w w' _ h => by cases h
  fed := fun i g hg h => by
    cases i with
    | zero =>
      cases hg
      rcases h with h | h
      · exact absurd h (by decide +kernel)
      · exact absurd h (by decide +kernel)
    | succ i => cases hg
  rk := ⟨fun _ => 0, fun w hw => by cases hw⟩
  inner := by decide +kernel
theorem feas1 : Feas (ntOf gs1 []) 7 (fun _ => 0) := by
  refine ⟨fun _ _ _ => rfl, fun k hk => absurd hk (Nat.not_lt_zero k), fun a ha q hq _ _ => ?_⟩
  have ha : a < 1 := ha
  have e : a = 0 := by omega
  subst e
  cases q with
  | nil => exact (by decide : (7 : Int) + 0 ≤ 7)
  | cons k r => exact absurd hq.1 (Nat.not_lt_zero k)
theorem nofeas1 (l : Nat → Int) : ¬ Feas (ntOf gs1 []) 6 l := fun F => by
  have h := F.wt 0 (by decide) [] trivial (Nat.zero_le _) fun k hk => by cases hk
  exact absurd h (by decide : ¬ ((7 : Int) + 0 ≤ 6))
section
variable {K : PySem.W.Frag} {mg : Str → Option Value} {P : Program} {w : World} {base : Heap}
abbrev N_law_lone_right : List Str := ["_law_lone", "_law_many", "_law_lags_here", "_law_paper"]
theorem sc_law_lone_right : FnScope N_law_lone_right ([] : List Str) (defScope s_law_lone_right) := ⟨rfl, rfl, rfl, by decide +kernel, rfl, by decide +kernel, by decide +kernel⟩

def sp_law_lone_right : Sp := fun vs H Q _ => vs = [] ∧ ∀ H', Same H H' → Q (.bl true) H'
theorem ok_law_lone_right (T : Tx K mg) (U : TxE K mg) : CalG P w K mg base CX0 13 "_law_lone_right" [] sp_law_lone_right :=
  calG T 61 rfl "_law_lone_right" rfl (by decide +kernel) sc_law_lone_right (fun _ _ _ _ _ _ us hl => match us, hl with | [], _ => rfl) (fun vs H Q E ⟨e, _⟩ => by rw [e]; rfl) fun cdv f A outer s H vs Q E hr ⟨e, k⟩ => by
    subst e
    refine ⟨_, (pss_cons (ps_set (i := 0) sc_law_lone_right.nd rfl (Or.inl rfl) (pmk (ok_Net_init T) hr (by decide) (pa_cons (pe_lst (pa_cons (pe_tup (pa_cons pe_str (pa_cons pe_int pa_nil))) pa_nil)) (pa_cons (pe_lst pa_nil) pa_nil))))
    (pss_cons (ps_asg (pk (ok_fewest T) hr (by decide) (pa_cons (pv 0) (pa_cons pe_int pa_nil))) (g_tup (n := 3) (.inl rfl) (pgs_cons (pg_name (i := 1) sc_law_lone_right.nd rfl (Or.inl rfl)) (pgs_cons (pg_name (i := 2) sc_law_lone_right.nd rfl (Or.inl rfl)) (pgs_cons (pg_name (i := 3) sc_law_lone_right.nd rfl (Or.inl rfl)) pgs_nil)))))
    (pss_cons (ps_if (PW.pt (pw_or (pt_cmpR op_ne (pv 1) pe_int (nomark _)) (pw_or (pt_cmpR op_ne (pe_callB c_lenL (by rfl) (T.fr "len") PySem.boot_len (pa_cons (pv 2) pa_nil)) pe_int (nomark _)) (pw_or1 (pt_cmpR op_notN (pk (ok_paper_fault T) hr (by decide) (pa_cons (pv 0) (pa_cons pe_int (pa_cons (pv 3) pa_nil)))) pe_non (nomark _)))))) (pss_one (ps_ret pe_bl)) pss_nil)
    (pss_one (ps_ret (pe_and (pe_cmpR op_eq (pk (ok_bound_of T) hr (by decide) (pa_cons (pv 0) (pa_cons (pv 3) (pa_cons pe_int pa_nil)))) pe_int (nomark _)) (pe_one (pk (ok_law_refused T U) hr (by decide) (pa_cons (pv 0) (pa_cons pe_int pa_nil)))))))))), ?_⟩
    walk_at "lgd"
    intro t1 ht1
    have X1 := Ext.new (o := .tup [V.str "sum", .int 7]) (Same.refl H) ht1
    have d1 : upd H t1 (.tup [V.str "sum", .int 7]) t1 = _ := upd_same
    generalize upd H t1 (.tup [V.str "sum", .int 7]) = H1 at X1 d1 ⊢
    walk_at "lgd"
    intro l2 hl2
    have X2 := X1.trans (Ext.new (o := .lst [V.ref t1]) X1.s hl2)
    have d12 : upd H1 l2 (.lst [V.ref t1]) t1 = _ := same_upd hl2 _ _ d1
    have d2 : upd H1 l2 (.lst [V.ref t1]) l2 = _ := upd_same
    generalize upd H1 l2 (.lst [V.ref t1]) = H2 at X2 d12 d2 ⊢
    walk_at "lgd"
    intro l3 hl3
    have X3 := X2.trans (Ext.new (o := .lst []) X2.s hl3)
    have d13 : upd H2 l3 (.lst []) t1 = _ := same_upd hl3 _ _ d12
    have d23 : upd H2 l3 (.lst []) l2 = _ := same_upd hl3 _ _ d2
    have d3 : upd H2 l3 (.lst []) l3 = _ := upd_same
    generalize upd H2 l3 (.lst []) = H3 at X3 d13 d23 d3 ⊢
    walk_at "lgd"
    refine w_make fun x dx hx hdx nad => ?_
    have Z := (Ext.refl X3.s).trans (Ext.hide (o := .own x) X3.s hdx)
    have fx : upd H3 dx (.own x) x = none := by rw [upd_ne (Ne.symm nad)]; exact hx
    have Z2 := Z.trans (Ext.hide (o := .ins (He.ga K "Net") dx []) Z.s fx)
    refine ⟨x, dx, l2, l3, [.ref t1], [], gs1, [], H3, H3, H3, rfl, Z2, hx, hx, upd_same, d23, d3, ⟨⟨t1, rfl, d13⟩, trivial⟩, trivial, pok1, fun D4 H4 X4 hN => ⟨rfl, ?_⟩⟩
    have O := pok1.ok
    have X := X3.trans X4
    walk_at "lgd"
    refine ⟨_, 7, _, D4, rfl, X.s, hN, O, by decide, ⟨_, feas1⟩, fun v5 D5 H5 X5 ⟨t, m, ql, qp, l, xs, es, e5, h5, hl5, hp5, hE, few⟩ => ?_⟩
    subst e5
    replace X := X.trans X5
    have hN5 := (hN.up X5.d).up X.s
    have em : m = 0 := few.sum
    have s5 := X.s
    have ll : (LagL (ntOf gs1 []) l).length = 1 := by unfold LagL; rw [List.length_map, List.length_range]; rfl
    subst em
    have e1 : ((LagL (ntOf gs1 []) l).length : Int) = 1 := by rw [ll]; rfl
    walk_at "lgd"
    refine ⟨_, 7, qp, _, xs, es, rfl, by decide, hN5, O, s5 _ _ hp5, hE.up s5, few.en, few.gate, fun H6 s6 => ?_⟩
    replace X := X.trans (Ext.grow X.s s6)
    walk_at "lgd"
    refine ⟨_, 7, qp, _, xs, es, rfl, by decide, hN5.up s6, O, s6 _ _ (s5 _ _ hp5), (hE.up s5).up s6, few.en, few.gate, few.room, fun H7 s7 => ?_⟩
    replace X := X.trans (Ext.grow X.s s7)
    rw [← few.tell]
    walk_at "lgd"
    exact ⟨_, 6, _, rfl, (hN5.up s6).up s7, O, by decide, nofeas1, fun H8 s8 => k _ (X.h.trans s8)⟩
end

theorem lg_lag {N : Nt} {v : V} {H : Hp} {as : List Int} (h : LgV N N.n v H as) : (∃ p, v = .ref p ∧ H p = some (.lst (LagL N (fun g => as.getD g 0)))) ∧ ∀ g, g < N.n → N.fx g = true → as.getD g 0 = 0 := by
  obtain ⟨p, h1, h2, h3, h4⟩ := h
  refine ⟨⟨p, h1, ?_⟩, fun g hg hf => ?_⟩
  · rw [h2]
    congr 2
    unfold LagL
    apply List.ext_getElem?
    intro i
    by_cases hi : i < N.n
    · rw [rng_get hi, List.getElem?_map]
      show Option.map V.int as[i]? = some (V.int (as.getD i 0))
      rw [List.getD_eq_getElem?_getD, List.getElem?_eq_getElem (by omega)]
      rfl
    · rw [List.getElem?_eq_none (by rw [List.length_map]; omega), List.getElem?_eq_none (by rw [List.length_map, List.length_range]; omega)]
  · rw [List.getD_eq_getElem?_getD, h4 g hg hf]
    rfl
section
variable {K : PySem.W.Frag} {mg : Str → Option Value} {P : Program} {w : World} {base : Heap}
abbrev N_law : List Str := ["_law_script", "_law_k", "_law_state", "_law_gates_here", "_law_wires_here", "_law_net", "_law_least", "_law_most", "_law_many", "_law_lags_here", "_law_paper", "_law_others", "_law_some", "_law_other"]
theorem sc_law : FnScope N_law (["_law_script"] : List Str) (defScope s_law) := ⟨rfl, rfl, rfl, by decide +kernel, rfl, by decide +kernel, by decide +kernel⟩

def sp_law (K : PySem.W.Frag) : Sp := fun vs H Q _ => ∃ (p : Addr) (ns : List Int), vs = [.ref p] ∧ SqL K H p (ns.map V.int) ∧ ns.length < 100000 ∧ ∀ H', Q (.bl true) H'
open Classical in
theorem law_body (T : Tx K mg) (U : TxE K mg) (cdv : Value) (f : Addr) (A : Around) (outer : List Env) (s : Shared) (H : Hp) (vs : List V) (Q : VK) (E : XK) (hr : Room 13 (A.deeper (envOfC d_law.qual d_law.scope s.heap.objs.size f cdv))) (h : sp_law K vs H Q E) :
    ∃ t, PSs (cxOf CX0 P w K mg base N_law d_law.qual d_law.scope f cdv A outer s H E).nox d_law.body t ∧ t { nx := fun _ H' => Q .non H', rt := Q } (L2.start N_law vs) H := by
    obtain ⟨p, ns, e, hp, hns, k⟩ := h
    subst e
    refine ⟨_, (pss_cons (ps_if (pt_not (pt_val (pk0 (ok_law_lone_right T U) hr (by decide)))) (pss_one (ps_ret pe_bl)) pss_nil)
    (pss_cons (ps_for PassesOwn.never rfl (pi_range1 (by rfl) (T.fr "range") (pa_cons (pe_callB (call_max2 rfl) (by rfl) (T.fr "max") (by decide +kernel) (pa_cons pe_int (pa_cons (pe_callB (call_min2 rfl) (by rfl) (T.fr "min") (by decide +kernel) (pa_cons pe_int (pa_cons (pe_callB (c_lenK (K := K) rfl) (by rfl) (T.fr "len") PySem.boot_len (pa_cons (pv 0) pa_nil)) pa_nil))) pa_nil))) pa_nil)) (pg_name (i := 1) sc_law.nd rfl (Or.inl rfl)) (pss_cons (ps_set (i := 2) sc_law.nd rfl (Or.inl rfl) (pe_lst (pa_cons (pe_op op_add (pk (ok_law_cell_at T) hr (by decide) (pa_cons (pv 0) (pa_cons (pv 1) pa_nil))) (pe_op op_mul pe_int (pv 1))) pa_nil)))
    (pss_cons (ps_asg (pk (ok_law_parts T) hr (by decide) (pa_cons (pv 2) (pa_cons pe_int pa_nil))) (g_tup (n := 2) (.inl rfl) (pgs_cons (pg_name (i := 3) sc_law.nd rfl (Or.inr rfl)) (pgs_cons (pg_name (i := 4) sc_law.nd rfl (Or.inr rfl)) pgs_nil))))
    (pss_cons (ps_set (i := 5) sc_law.nd rfl (Or.inl rfl) (pmk (ok_Net_init T) hr (by decide) (pa_cons (pv 3) (pa_cons (pv 4) pa_nil))))
    (pss_cons (ps_set (i := 6) sc_law.nd rfl (Or.inl rfl) (pe_ix ixt (pk (ok_least_beat T) hr (by decide) (pa_cons (pv 5) pa_nil)) pe_int (fun _ _ => rfl)))
    (pss_cons (ps_set (i := 7) sc_law.nd rfl (Or.inr rfl) (pe_op op_add (pv 6) (pe_ix ixl (pe_lst (pa_cons pe_int (pa_cons pe_int (pa_cons (pk (ok_law_digit T) hr (by decide) (pa_cons (pv 2) (pa_cons pe_int pa_nil))) pa_nil)))) (pk (ok_law_digit T) hr (by decide) (pa_cons (pv 2) (pa_cons pe_int pa_nil))) (fun _ _ => rfl))))
    (pss_cons (ps_asg (pk (ok_fewest T) hr (by decide) (pa_cons (pv 5) (pa_cons (pv 7) pa_nil))) (g_tup (n := 3) (.inl rfl) (pgs_cons (pg_name (i := 8) sc_law.nd rfl (Or.inl rfl)) (pgs_cons (pg_name (i := 9) sc_law.nd rfl (Or.inl rfl)) (pgs_cons (pg_name (i := 10) sc_law.nd rfl (Or.inl rfl)) pgs_nil)))))
    (pss_cons (ps_if (PW.pt (pw_or (pt_not (pt_val (pk (ok_law_does T) hr (by decide) (pa_cons (pv 3) (pa_cons (pv 4) (pa_cons (pv 9) (pa_cons (pv 7) pa_nil))))))) (pw_or1 (pt_cmpR op_ne (pe_callB (c_sum (.inl rfl)) (by rfl) (T.fr "sum") (by decide +kernel) (pa_cons (pk (ok_law_counts T) hr (by decide) (pa_cons (pv 4) (pa_cons (pv 9) pa_nil))) pa_nil)) (pv 8) (nomark _))))) (pss_one (ps_ret pe_bl)) pss_nil)
    (pss_cons (ps_setLc (i := 11) (own := [("_law_other", 13)]) (g := gName 13) (tt := _) rfl sc_law.nd rfl rfl (sw_true rfl rfl rfl (by decide +kernel)) (k_list (K := K) rfl (pk (ok_law_all_lags T) hr (by decide) (pa_cons (pv 3) (pa_cons pe_int pa_nil)))) (blkOk_by (N := N_law) (sc := defScope s_law) (by decide +kernel)) (fun _ _ _ _ _ => (pg_name (i := 13) sc_law.nd rfl (Or.inl rfl))) (fun _ _ _ _ _ => (pts_one (pt_val (pk (ok_law_does T) hr (by decide) (pa_cons (pv 3) (pa_cons (pv 4) (pa_cons (pv 13) (pa_cons (pv 7) pa_nil)))))))) (fun _ _ _ _ _ => (pv 13)))
    (pss_cons (ps_setLc (i := 12) (own := [("_law_other", 13)]) (g := gName 13) (tt := tYes) rfl sc_law.nd rfl rfl (sw_true rfl rfl rfl (by decide +kernel)) (k_list (K := K) rfl (pv 11)) (blkOk_by (N := N_law) (sc := defScope s_law) (by decide +kernel)) (fun _ _ _ _ _ => (pg_name (i := 13) sc_law.nd rfl (Or.inl rfl))) (fun _ _ _ _ _ => pts_nil) (fun _ _ _ _ _ => (pe_callB (c_sum (.inl rfl)) (by rfl) (T.fr "sum") (by decide +kernel) (pa_cons (pk (ok_law_counts T) hr (by decide) (pa_cons (pv 4) (pa_cons (pv 13) pa_nil))) pa_nil))))
    (pss_cons (ps_if (PW.pt (pw_or (pt_cmpR op_lt (pe_callB (c_min rfl) (by rfl) (T.fr "min") (by decide +kernel) (pa_cons (pe_op op_cat (pv 12) (pe_lst (pa_cons (pv 8) pa_nil))) pa_nil)) (pv 8) (nomark _)) (pw_or1 (pt_cmpR op_ne (pk (ok_law_bound T) hr (by decide) (pa_cons (pv 3) (pa_cons (pv 4) (pa_cons (pv 10) (pa_cons (pv 7) pa_nil))))) (pv 8) (nomark _))))) (pss_one (ps_ret pe_bl)) pss_nil)
    (pss_cons (ps_if (PW.pt (pw_or (pt_cmpR op_notN (pk (ok_paper_fault T) hr (by decide) (pa_cons (pv 5) (pa_cons (pv 7) (pa_cons (pv 10) pa_nil)))) pe_non (nomark _)) (pw_or1 (pt_cmpR op_ne (pk (ok_bound_of T) hr (by decide) (pa_cons (pv 5) (pa_cons (pv 10) (pa_cons (pv 7) pa_nil)))) (pv 8) (nomark _))))) (pss_one (ps_ret pe_bl)) pss_nil)
    (pss_one (ps_if (PW.pt (pw_and (pt_cmpR op_gt (pv 6) pe_int (nomark _)) (pw_and1 (pt_not (pt_val (pk (ok_law_refused T U) hr (by decide) (pa_cons (pv 5) (pa_cons (pk (ok_law_digit T) hr (by decide) (pa_cons (pv 2) (pa_cons (pv 6) pa_nil))) pa_nil)))))))) (pss_one (ps_ret pe_bl)) pss_nil))))))))))))))
    (pss_one (ps_ret pe_bl)))), ?_⟩
    walk_at "lgd"
    refine ⟨rfl, fun H1 s1 => ?_⟩
    walk_at "lgd"
    refine w_lnK (s1.seq hp) ?_
    walk_at "lgd"
    refine w_rR1 (n := (if (if ((ns.map V.int).length : Int) < 6 then ((ns.map V.int).length : Int) else 6) > 1 then (if ((ns.map V.int).length : Int) < 6 then ((ns.map V.int).length : Int) else 6) else 1).toNat) ?_ ?_ ?_
    · split <;> split <;> omega
    · split <;> split <;> omega
    refine for_src src_range0 s1 (fun i σ Hc => ∃ z1 z2 z3 z4 z5 z6 z7 z8 z9 z10 z11 z12, σ = [some (.ref p), z1, z2, z3, z4, z5, z6, z7, z8, z9, z10, z11, z12, none]) ⟨_, _, _, _, _, _, _, _, _, _, _, _, rfl⟩ (fun i x σ Hc H'' hi sx ⟨z1, z2, z3, z4, z5, z6, z7, z8, z9, z10, z11, z12, e⟩ ⟨r1, r2⟩ => ?_) fun σ Hc sx ⟨z1, z2, z3, z4, z5, z6, z7, z8, z9, z10, z11, z12, e⟩ => ?_
    · subst r1 r2 e
      walk_at "lgd"
      refine ⟨p, i, ns, rfl, sx.seq hp, fun c => ?_⟩
      walk_at "lgd"
      refine w_iC (c := CMul) (.inl (by decide)) ?_
      walk_at "lgd"
      intro ps hps
      have D0 := Same.refl H''
      have X0 : XS ps H'' (upd H'' ps (.lst [V.int (c + 43 * ((i : Nat) : Int))])) H'' (upd H'' ps (.lst [V.int (c + 43 * ((i : Nat) : Int))])) := XS.refl (same_upd hps)
      have sv0 : Sv ps (upd H'' ps (.lst [V.int (c + 43 * ((i : Nat) : Int))])) := ⟨_, upd_same, .inl ⟨_, rfl⟩⟩
      generalize upd H'' ps (.lst [V.int (c + 43 * ((i : Nat) : Int))]) = H0 at X0 sv0 ⊢
      walk_at "lgd"
      refine ⟨ps, H'', rfl, X0.s, hps, sv0, fun v1 D1 H1' x1 dp1 sv1 ⟨t1, qg, qw, xs, ys, gs, ws, e1, h1, hg1, hw1, alg, alw, pk_, w1⟩ => ?_⟩
      subst e1
      have O := pk_.ok
      have G : GX D1 xs (ntOf gs ws) := alg.gx
      have W : WX' D1 ys (ntOf gs ws) := alw.wx
      have nw1 : 1 ≤ (ntOf gs ws).ws.length := by
        show 1 ≤ (ws.map _).length
        rw [List.length_map]
        exact w1
      have sA := x1.s
      have h1' := sA _ _ h1
      walk_at "lgd"
      refine w_make fun a dx ha hdx nad => ?_
      have Z := (Ext.refl x1.s).trans (Ext.hide (o := .own a) x1.s hdx)
      have fa : upd H1' dx (.own a) a = none := by rw [upd_ne (Ne.symm nad)]; exact ha
      have Z2 := Z.trans (Ext.hide (o := .ins (He.ga K "Net") dx []) Z.s fa)
      refine ⟨a, dx, qg, qw, xs, ys, gs, ws, D1, H1', D1, rfl, Z2, ha, x1.s.free ha, upd_same, hg1, hw1, alg, alw, pk_, fun D2 H2 X2 hN => ⟨rfl, ?_⟩⟩
      generalize ntOf gs ws = N at O G W nw1 hN
      obtain ⟨dp2, sv2⟩ := XS.ps X2 dp1 sv1
      have X := x1.ext X2
      have B1 := X2.d
      walk_at "lgd"
      refine ⟨_, N, D2, rfl, X.s, hN, O, fun v3 D3 H3 X3 ⟨t3, least, y3, e3, h3, L⟩ => ?_⟩
      subst e3
      obtain ⟨dp3, sv3⟩ := XS.ps X3 dp2 sv2
      replace X := X.ext X3
      have B2 := B1.trans X3.d
      have hN3 := hN.up X3.d
      have l800 := least_800 O L
      have l0 := L.nn
      have sX3 := X.s
      walk_at "lgd"
      refine ⟨ps, 60, D3, rfl, by decide, by decide, X.s, dp3, sv3, fun d4 H4 x4 sv4 d40 d41 => ?_⟩
      replace X := X.trans x4
      walk_at "lgd"
      intro l5 hl5
      have n5 := sv4.ne hl5
      have X5 := X.ext (Ext.hide (o := .lst [V.int 0, .int 1, .int d4]) X.s hl5)
      have sv5 := sv4.upd (o := .lst [V.int 0, .int 1, .int d4]) hl5
      have h5 := upd_same (H := H4) (a := l5) (o := .lst [V.int 0, .int 1, .int d4])
      generalize upd H4 l5 (.lst [V.int 0, .int 1, .int d4]) = H5 at X5 sv5 h5 ⊢
      walk_at "lgd"
      refine ⟨ps, 3, D3, rfl, by decide, by decide, X5.s, dp3, sv5, fun d6 H6 x6 sv6 d60 d61 => ?_⟩
      replace X := X5.trans x6
      have h6 := x6.at_ n5 h5
      obtain ⟨v6, e6, m6⟩ := pickI (xs := [V.int 0, .int 1, .int d4]) d60 d61
      obtain ⟨ad, rfl, a0, a1⟩ : ∃ ad : Int, v6 = .int ad ∧ 0 ≤ ad ∧ ad ≤ 60 := by
        simp only [List.mem_cons, List.not_mem_nil, or_false] at m6
        rcases m6 with h | h | h
        · exact ⟨_, h, by omega, by omega⟩
        · exact ⟨_, h, by omega, by omega⟩
        · exact ⟨_, h, by omega, by omega⟩
      refine w_il h6 e6 ?_
      walk_at "lgd"
      obtain ⟨lf, Ff⟩ := L.does
      have Fm : Feas N (least + ad) lf := Ff.mono (by omega)
      refine ⟨_, least + ad, N, D3, rfl, X.s, hN3, O, by omega, ⟨lf, Fm⟩, fun v7 D7 H7 X7 ⟨t7, m, ql, qp, l, zs, es, e7, h7, hl7, hp7, hE, few⟩ => ?_⟩
      subst e7
      obtain ⟨dp7, sv7⟩ := XS.ps X7 dp3 sv6
      replace X := X.ext X7
      have B7 := B2.trans X7.d
      have hN7 := hN3.up X7.d
      have hg7 := B7 _ _ hg1
      have hw7 := B7 _ _ hw1
      have G7 := G.up B7
      have W7 := W.up B7
      have sX7 := X.s
      have fz : ∀ g, g < N.n → N.fx g = true → l g = 0 := fun g hg hf => (few.lag g hg).2 hf
      walk_at "lgd"
      refine ⟨qg, qw, ql, xs, ys, N, l, least + ad, rfl, sX7 _ _ hg7, G7.up sX7, sX7 _ _ hw7, W7.up sX7, O, nw1, sX7 _ _ hl7, fz, fun cb H8 s8 hcb => ?_⟩
      have ecb : cb = true := hcb.mpr few.feas
      subst ecb
      have X8 := X.ext (Ext.grow X.s s8)
      obtain ⟨_, sv8⟩ := XS.ps (Ext.grow X.s s8) dp7 sv7
      have sX8 := X8.s
      walk_at "lgd"
      refine ⟨qw, ql, ys, N, l, rfl, sX8 _ _ hw7, W7.up sX8, O, sX8 _ _ hl7, fun q9 H9 s9 f9 h9 => ?_⟩
      have X9 := X8.ext (Ext.grow X8.s s9)
      obtain ⟨_, sv9⟩ := XS.ps (Ext.grow X8.s s9) dp7 sv8
      have h9' : H9 q9 = some (.lst (((List.range N.ws.length).map fun k => cnt N l k).map V.int)) := by
        rw [h9]
        unfold CntL
        rw [List.map_map]
        rfl
      have em : ((List.range N.ws.length).map fun k => cnt N l k).sum = m := by rw [cnt_csum, few.sum]
      walk_at "lgd"
      refine ⟨qg, xs, N, D7, rfl, X9.s, hg7, G7, O, fun v10 D10 H10 X10 ⟨q10, acc, ls, e10, h10, la, al⟩ => ?_⟩
      subst e10
      obtain ⟨dp10, sv10⟩ := XS.ps X10 dp7 sv9
      have X11 := X9.ext X10
      have B10 := X10.d
      have lls := al_len al
      walk_at "lgd"
      refine lcF (src_list (SqL.of h10)) X11.s (by omega) (fun i => decide (Feas N (least + ad) (fun g => (ls.getD i []).getD g 0))) (fun i => acc.getD i .non) (fun i x H' H'' hi s ⟨e1, e2⟩ Qy Qn ky kn => ?_) fun q12 H12 hq12 s12 hl12 => ?_
      · subst e1
        obtain ⟨as, has, hlg⟩ := al_get al e2
        obtain ⟨⟨pl, epl, hpl⟩, hfx⟩ := lg_lag hlg
        subst epl
        have ea : ls.getD i [] = as := by
          rw [List.getD_eq_getElem?_getD, has]
          rfl
        have ex : acc.getD i .non = .ref pl := by
          rw [List.getD_eq_getElem?_getD, e2]
          rfl
        rw [ea, ex] at ky
        rw [ea] at kn
        have sD := B10.trans s
        walk_at "lgd"
        refine ⟨qg, qw, pl, xs, ys, N, _, least + ad, rfl, sD _ _ hg7, G7.up sD, sD _ _ hw7, W7.up sD, O, nw1, s _ _ hpl, hfx, fun cb H13 s13 hcb => ?_⟩
        cases cb with
        | true =>
          walk_at "lgd"
          exact ky (decide_eq_true (hcb.mp rfl)) _ s13
        | false =>
          walk_at "lgd"
          exact kn (decide_eq_false fun F => by have := hcb.mpr F; cases this) _ s13
      have X12 := X11.ext (Ext.grow X11.s s12)
      obtain ⟨_, sv12⟩ := XS.ps (Ext.grow X11.s s12) dp10 sv10
      have lf : (((List.range acc.length).filter fun i => decide (Feas N (least + ad) (fun g => (ls.getD i []).getD g 0))).map fun i => acc.getD i V.non).length ≤ 343 := by
        rw [List.length_map]
        exact Nat.le_trans (List.length_filter_le _ _) (by rw [List.length_range]; exact la)
      walk_at "lgd"
      refine lc_list hl12 (Same.refl H12) (by omega) ((((List.range acc.length).filter fun i => decide (Feas N (least + ad) (fun g => (ls.getD i []).getD g 0))).map fun i => csum N (fun g => (ls.getD i []).getD g 0)).map V.int) (by rw [List.length_map, List.length_map, List.length_map]) (fun i x y H' hx hy s Qy ky => ?_) fun q14 H14 hq14 s14 hl14 => ?_
      · rw [List.getElem?_map] at hx
        rw [List.getElem?_map, List.getElem?_map] at hy
        cases cj : ((List.range acc.length).filter fun i => decide (Feas N (least + ad) (fun g => (ls.getD i []).getD g 0)))[i]? with
        | none =>
          rw [cj] at hx
          cases hx
        | some j =>
          rw [cj] at hx hy
          cases Option.some.inj hy
          have hx := Option.some.inj hx
          have hj := List.mem_range.mp (List.mem_filter.mp (List.mem_of_getElem? cj)).1
          have hacc : acc[j]? = some (acc[j]) := List.getElem?_eq_getElem hj
          obtain ⟨as, has, hlg⟩ := al_get al hacc
          obtain ⟨⟨pl, epl, hpl⟩, hfx⟩ := lg_lag hlg
          have ea : ls.getD j [] = as := by
            rw [List.getD_eq_getElem?_getD, has]
            rfl
          have ex : acc.getD j V.non = .ref pl := by
            rw [List.getD_eq_getElem?_getD, hacc]
            exact epl
          have ex : x = .ref pl := by rw [← hx]; exact ex
          subst ex
          have sD := (B10.trans X12.s).trans s
          have s10 := X12.s.trans s
          walk_at "lgd"
          refine ⟨qw, pl, ys, N, _, rfl, sD _ _ hw7, W7.up sD, O, s10 _ _ hpl, fun q15 H15 s15 f15 h15 => ?_⟩
          have h15' : H15 q15 = some (.lst (((List.range N.ws.length).map fun k => cnt N (fun g => as.getD g 0) k).map V.int)) := by
            rw [h15]
            unfold CntL
            rw [List.map_map]
            rfl
          walk_at "lgd"
          rw [cnt_csum]
          have ky' : Qy (V.int (csum N fun g => (ls.getD j []).getD g 0)) H15 := ky _ s15
          rw [ea] at ky'
          exact ky'
      have X14 := X12.ext (Ext.grow X12.s s14)
      obtain ⟨_, sv14⟩ := XS.ps (Ext.grow X12.s s14) dp10 sv12
      generalize eL : ((List.range acc.length).filter fun i => decide (Feas N (least + ad) (fun g => (ls.getD i []).getD g 0))).map (fun i => csum N (fun g => (ls.getD i []).getD g 0)) = cs at hl14
      have lcs : cs.length ≤ 343 := by
        rw [← eL, List.length_map]
        exact Nat.le_trans (List.length_filter_le _ _) (by rw [List.length_range]; exact la)
      have lowc : ∀ y ∈ cs, m ≤ y := fun y hy => by
        rw [← eL] at hy
        obtain ⟨j, hj, rfl⟩ := List.mem_map.mp hy
        exact few.low _ (of_decide_eq_true (List.mem_filter.mp hj).2)
      walk_at "lgd"
      intro l15 hl15
      have X15 := X14.ext (Ext.hide (o := .lst [V.int m]) X14.s hl15)
      have sv15 := sv14.upd (o := .lst [V.int m]) hl15
      have h15 := upd_same (H := H14) (a := l15) (o := .lst [V.int m])
      have hl14' := at_upd (o' := .lst [V.int m]) hl15 hl14
      generalize upd H14 l15 (.lst [V.int m]) = H15 at X15 sv15 h15 hl14' ⊢
      refine w_cat hl14' h15 (by rw [List.length_map]; show cs.length + 1 < 100000; omega) fun l16 hl16 => ?_
      have X16 := X15.ext (Ext.hide (o := .lst (cs.map V.int ++ [V.int m])) X15.s hl16)
      have sv16 := sv15.upd (o := .lst (cs.map V.int ++ [V.int m])) hl16
      have h16 : upd H15 l16 (.lst (cs.map V.int ++ [V.int m])) l16 = some (.lst ((cs ++ [m]).map V.int)) := by
        rw [upd_same, List.map_append]
        rfl
      generalize upd H15 l16 (.lst (cs.map V.int ++ [V.int m])) = H16 at X16 sv16 h16 ⊢
      walk_at "lgd"
      refine ⟨l16, _, rfl, h16, by rw [List.length_append]; exact Nat.succ_pos _, fun mn hmn _ => ?_⟩
      have hmn' : ¬ mn < m := by
        rcases List.mem_append.mp hmn with h | h
        · have := lowc mn h
          omega
        · rw [List.mem_singleton.mp h]
          omega
      have sE : Same D7 H16 := B10.trans X16.s
      walk_at "lgd"
      refine ⟨qg, qw, qp, xs, ys, zs, N, least + ad, es, rfl, sE _ _ hg7, G7.up sE, sE _ _ hw7, W7.up sE, O, sE _ _ hp7, hE.up sE, few.en, few.gate, few.room, fun H17 s17 => ?_⟩
      rw [← few.tell]
      have sF := sE.trans s17
      have X17 := X16.ext (Ext.grow X16.s s17)
      obtain ⟨_, sv17⟩ := XS.ps (Ext.grow X16.s s17) dp10 sv16
      walk_at "lgd"
      refine ⟨_, least + ad, qp, N, zs, es, rfl, by omega, hN7.up sF, O, sF _ _ hp7, hE.up sF, few.en, few.gate, fun H18 s18 => ?_⟩
      have sG := sF.trans s18
      have X18 := X17.ext (Ext.grow X17.s s18)
      obtain ⟨_, sv18⟩ := XS.ps (Ext.grow X17.s s18) dp10 sv17
      walk_at "lgd"
      refine ⟨_, least + ad, qp, N, zs, es, rfl, by omega, hN7.up sG, O, sG _ _ hp7, hE.up sG, few.en, few.gate, few.room, fun H19 s19 => ?_⟩
      rw [← few.tell]
      have sH := sG.trans s19
      have X19 := X18.ext (Ext.grow X18.s s19)
      obtain ⟨_, sv19⟩ := XS.ps (Ext.grow X18.s s19) dp10 sv18
      have back : ∀ Hz, Same H19 Hz → Same H Hz := fun Hz sz => sx.trans ((XS.dh X19).trans sz)
      walk_at "lgd"
      by_cases cl : 0 < least
      · walk_at "lgd"
        refine ⟨ps, least, D10, rfl, cl, by omega, X19.s, dp10, sv19, fun d20 H20 x20 sv20 d200 d201 => ?_⟩
        have X20 := X19.trans x20
        have sI : Same D7 H20 := B10.trans X20.s
        walk_at "lgd"
        refine ⟨_, d20, N, rfl, hN7.up sI, O, d200, L.none d20 d200 d201, fun H21 s21 => ?_⟩
        walk_at "lgd"
        exact ⟨sx.trans ((XS.dh X20).trans s21), _, _, _, _, _, _, _, _, _, _, _, _, rfl⟩
      · walk_at "lgd"
        exact ⟨back _ (Same.refl _), _, _, _, _, _, _, _, _, _, _, _, _, rfl⟩
    · subst e
      walk_at "lgd"
      exact k _
end
theorem glo_in {x : Str} (h : x ∈ (["LagError"] : List Str) ++ gloN) : He.Fa.glo x ∈ fa := List.mem_append_left _ (List.mem_append_left _ (List.mem_map.mpr ⟨x, h, rfl⟩))
theorem free_in {x : Str} (h : x ∈ freeN) : He.Fa.free x ∈ fa := List.mem_append_left _ (List.mem_append_right _ (List.mem_map.mpr ⟨x, h, rfl⟩))
theorem int_in {q : Str × Int} (h : q ∈ intN) : He.Fa.int q.1 q.2 ∈ fa := List.mem_append_right _ (List.mem_append_left _ (List.mem_map.mpr ⟨q, h, rfl⟩))
theorem cls_in {f : He.Fa} (i : Nat) (h : ([.cls "Net", .noat "Net" "gates", .noat "Net" "wires", .mkr "Net", .cls "Row", .noat "Row" "piece", .noat "Row" "begin", .noat "Row" "end", .noat "Row" "space", .mkr "Row", .cls "Flow", .noat "Flow" "places", .noat "Flow" "lines", .noat "Flow" "carried", .mkr "Flow", .meth "Flow" "links", .meth "Flow" "better", .meth "Flow" "sums"] : List He.Fa)[i]? = some f) : f ∈ fa :=
  List.mem_append_right _ (List.mem_append_right _ (List.mem_of_getElem? h))
theorem facts_of {K : PySem.W.Frag} (c : He.SaysD fa fn K) {f : He.Fa} (h : f ∈ fa) : f.ok K = true := by
  obtain ⟨i, hi⟩ := List.mem_iff_getElem?.mp h
  exact c.fact i hi
theorem tx_of {K : PySem.W.Frag} {h : Heap} {mg : Str → Option Value} (X : K.In h) (G : h.Ns mainGlobals mg) (e : exB K = true) (c : He.SaysD fa fn K) : Tx K mg ∧ TxE K mg := by
  obtain ⟨e1, e⟩ := Bool.and_eq_true_iff.mp e
  obtain ⟨e2, e3⟩ := Bool.and_eq_true_iff.mp e
  have glo : ∀ x ∈ (["LagError"] : List Str) ++ gloN, mg x = some (.ref (He.ga K x)) := fun x hx => He.glo_ok X G (facts_of c (glo_in hx))
  refine ⟨{
    defs := fun d hd => ?_
    glo := fun x hx => glo x (List.mem_append_right _ hx)
    free := fun x hx => He.free_ok X G (facts_of c (free_in hx))
    int := fun q hq => He.int_ok X G (facts_of c (int_in hq))
    cNet := He.cls_ok (facts_of c (cls_in 0 rfl))
    aNet := fun f hf => ?_
    kNet := He.mkr_ok (facts_of c (cls_in 3 rfl))
    cRow := He.cls_ok (facts_of c (cls_in 4 rfl))
    aRow := fun f hf => ?_
    kRow := He.mkr_ok (facts_of c (cls_in 9 rfl))
    cFlow := He.cls_ok (facts_of c (cls_in 10 rfl))
    aFlow := fun f hf => ?_
    kFlow := He.mkr_ok (facts_of c (cls_in 14 rfl))
    mFlow := fun f hf => ?_
    ports := fun H => He.tupB_ok e1 H
    kinds := fun H => He.tupB_ok e2 H }, txE_of e3 (glo _ (by decide +kernel))⟩
  · obtain ⟨i, hi⟩ := List.mem_iff_getElem?.mp hd
    obtain ⟨fd, F⟩ := c.def_ i hi
    have e0 : d.dvs K = [] ∧ d.kws K = [] := by
      have all : ∀ d ∈ fn, d.dvs K = [] ∧ d.kws K = [] := by
        intro d hd
        unfold fn at hd
        simp only [List.mem_cons, List.not_mem_nil, or_false] at hd
        rcases hd with h | h | h | h | h | h | h | h | h | h | h | h | h | h | h | h | h | h | h | h | h | h | h | h | h | h | h | h | h | h | h | h | h | h | h | h | h | h | h | h | h | h | h | h | h | h | h | h | h | h | h | h | h | h | h | h | h | h | h | h | h | h | h <;> (subst h; exact ⟨rfl, rfl⟩)
      exact all d hd
    rw [e0.1, e0.2] at F
    exact ⟨fd, F⟩
  · simp only [List.mem_cons, List.not_mem_nil, or_false] at hf
    rcases hf with h | h <;> subst h
    · exact He.noat_ok (facts_of c (cls_in 1 rfl))
    · exact He.noat_ok (facts_of c (cls_in 2 rfl))
  · simp only [List.mem_cons, List.not_mem_nil, or_false] at hf
    rcases hf with h | h | h | h <;> subst h
    · exact He.noat_ok (facts_of c (cls_in 5 rfl))
    · exact He.noat_ok (facts_of c (cls_in 6 rfl))
    · exact He.noat_ok (facts_of c (cls_in 7 rfl))
    · exact He.noat_ok (facts_of c (cls_in 8 rfl))
  · simp only [List.mem_cons, List.not_mem_nil, or_false] at hf
    rcases hf with h | h | h <;> subst h
    · exact He.noat_ok (facts_of c (cls_in 11 rfl))
    · exact He.noat_ok (facts_of c (cls_in 12 rfl))
    · exact He.noat_ok (facts_of c (cls_in 13 rfl))
  · simp only [List.mem_cons, List.not_mem_nil, or_false] at hf
    rcases hf with h | h | h <;> subst h
    · exact He.meth_ok (facts_of c (cls_in 15 rfl))
    · exact He.meth_ok (facts_of c (cls_in 16 rfl))
    · exact He.meth_ok (facts_of c (cls_in 17 rfl))
theorem factsL {P : Program} {w : World} {K : PySem.W.Frag} {h : Heap} {mg : Str → Option Value} {f : Addr} (X : K.In h) (G : h.Ns mainGlobals mg) (hfa : mg ("law" : Str) = some (.ref f)) (e : exB K = true) (c : He.SaysD fa fn K) :
    ∃ fd : FuncData, (∀ (s : Shared) (v : Value), BindsTo s fd ⟨[v], []⟩ [("_law_script", v)]) ∧ ∀ base : Heap, K.In base → base.Ns mainGlobals mg → FnOk P w K mg base CX0 14 f fd ["_law_script"] (sp_law K) := by
  obtain ⟨T, U⟩ := tx_of X G e c
  obtain ⟨fd, F⟩ := c.def_ 62 (d := d_law) rfl
  have e1 := hfa.symm.trans (T.glo "law" (by decide +kernel))
  cases e1
  have b := FunD.bindsA (ps := ["_law_script"]) F fun _ _ _ _ _ _ us hl => match us, hl with | [_], _ => rfl
  exact ⟨fd, fun s v => b s [v] rfl, fun base _ _ => F.ok sc_law (fun vs H Q E ⟨_, _, e, _⟩ => by rw [e]; rfl) fun cdv A outer s H vs Q E hr h => by
    obtain ⟨t, h1, h2⟩ := law_body (P := P) (w := w) (base := base) T U cdv _ A outer s H vs Q E hr h
    exact ⟨t, h1.nox, h2⟩⟩
end Lg
open PySem PySem.W PySem.Calls PyProof.Rows
theorem PySem.Challenge.cw_lagshift_k54_whole_fewest_registers_holds : PySem.Challenge.rw_lagshift_k54_whole_fewest_registers.Holds := by
  refine Lg.lawOf ?_
  refine L2.walk_ofE (l := PySem.Challenge.rw_lagshift_k54_whole_fewest_registers) (n := 63) (k := 14) (x := "_law_script") (CX := L2.CX0) rfl (by decide) Lg.dfltLaw ⟨rfl, by decide, by decide⟩ ?F (fun _ _ _ _ z => z)
  intro w mg fa h Y G hmg0
  obtain ⟨K, KX, e, c⟩ := Y
  have hmg : mg ("law" : PySem.Str) = some (.ref fa) := by
    have e : Lg.dLaw.name = ("law" : PySem.Str) := Lg.nameLaw
    rw [← e]
    exact hmg0
  obtain ⟨fd, hb, hF⟩ := Lg.factsL (P := (PySem.Challenge.rw_lagshift_k54_whole_fewest_registers).prog) (w := w) KX G hmg e c
  exact ⟨K, fd, Lg.sp_law K, KX, hb, fun H a ns hl _ hS => ⟨a, ns, rfl, hS, by omega, fun _ => rfl⟩, hF⟩
