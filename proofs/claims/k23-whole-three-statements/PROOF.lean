import PyProof.Rows.All
import Wide.All
import OpenK.AllK
import Wide.FinOn
import KE.KOpsOwn
import HandS.ForMost
import HandS.Star
import HandS.Property
import HandS.IsInst
import KE.SortData
import HandS.TupSets
import HandS.Zip
import KE.GoesEnum
import KE.KDictPairs
import HandS.Walk
import HandS.HeadHook1
import HandS.Head2
import HandS.HeadEnd
import PySem.Challenge.RW_rowclash_k23_whole_three_statements
import HandS.TupAny
import HandS.More
import KE.KEqSeq
import HandS.WordsDict
import HandS.SetKeys
import HandS.Deep
import HandS.DictComp
import HandS.Conv
import HandS.Style
import HandS.TupLe
import KE.KStateDown
import HandS.HeadHook2
-- M1
set_option linter.all false
namespace Rc
/-! Paths, lines and rings of an injective partial function on ints: the plain mathematics, no program in sight. -/
abbrev PF := Int → Option Int

structure Gr (S : List Int) (f : PF) : Prop where
  nd : S.Nodup
  dom : ∀ {x y}, f x = some y → x ∈ S
  cod : ∀ {x y}, f x = some y → y ∈ S
  irr : ∀ {x y}, f x = some y → x ≠ y
  inj : ∀ {x y z}, f x = some z → f y = some z → x = y

def pathGo (f : PF) : Nat → List Int → Option Int → List Int
  | 0, acc, _ => acc
  | _ + 1, acc, none => acc
  | n + 1, acc, some r => if r ∈ acc then acc else pathGo f n (acc ++ [r]) (f r)
def path (S : List Int) (f : PF) (k : Int) : List Int := pathGo f S.length [k] (f k)

/-- f, n times -/
def orb (f : PF) (k : Int) : Nat → Option Int
  | 0 => some k
  | n + 1 => (orb f k n).bind f

structure IsPath (f : PF) (k : Int) (p : List Int) : Prop where
  hd : p[0]? = some k
  nd : p.Nodup
  ch : ∀ (i : Nat) (x y : Int), p[i]? = some x → p[i + 1]? = some y → f x = some y
  ls : ∀ x, p[p.length - 1]? = some x → f x = none ∨ ∃ y ∈ p, f x = some y

theorem nodup_length_le {l m : List Int} (h : l.Nodup) (s : ∀ x ∈ l, x ∈ m) : l.length ≤ m.length := by
  induction l generalizing m with
  | nil => exact Nat.zero_le _
  | cons a l ih =>
    have ha : a ∈ m := s a (List.mem_cons_self)
    obtain ⟨h1, h2⟩ := List.nodup_cons.mp h
    have hs : ∀ x ∈ l, x ∈ m.erase a := fun x hx => by
      have ne : x ≠ a := fun e => h1 (e ▸ hx)
      exact (List.mem_erase_of_ne ne).mpr (s x (List.mem_cons_of_mem _ hx))
    have := ih h2 hs
    rw [List.length_erase_of_mem ha] at this
    have : 0 < m.length := List.length_pos_of_mem ha
    simp only [List.length_cons]
    omega

theorem nd_idx {p : List Int} (h : p.Nodup) {i j : Nat} {x : Int} (a : p[i]? = some x) (b : p[j]? = some x) : i = j := by
  obtain ⟨h1, e1⟩ := List.getElem?_eq_some_iff.mp a
  obtain ⟨h2, e2⟩ := List.getElem?_eq_some_iff.mp b
  exact (List.getElem_inj h).mp (e1.trans e2.symm)

theorem nodup_snoc {l : List Int} {a : Int} (h : l.Nodup) (ha : a ∉ l) : (l ++ [a]).Nodup := by
  rw [List.nodup_append]
  refine ⟨h, by simp, ?_⟩
  intro x hx y hy e
  simp at hy
  subst hy
  subst e
  exact ha hx

theorem pathGo_is {S : List Int} {f : PF} (g : Gr S f) {k : Int} : ∀ (n : Nat) (acc : List Int) (row : Option Int), acc[0]? = some k → acc.Nodup → (∀ x ∈ acc, x ∈ S) →
    (∀ (i : Nat) (x y : Int), acc[i]? = some x → acc[i + 1]? = some y → f x = some y) → (∀ x, acc[acc.length - 1]? = some x → row = f x) → S.length + 1 ≤ acc.length + n → IsPath f k (pathGo f n acc row)
  | 0, acc, row, h0, nd, sub, ch, ls, hn => by
    have := nodup_length_le nd sub
    omega
  | n + 1, acc, none, h0, nd, sub, ch, ls, hn => ⟨h0, nd, ch, fun x hx => .inl (ls x hx).symm⟩
  | n + 1, acc, some r, h0, nd, sub, ch, ls, hn => by
    unfold pathGo
    by_cases hr : r ∈ acc
    · rw [if_pos hr]
      exact ⟨h0, nd, ch, fun x hx => .inr ⟨r, hr, (ls x hx).symm⟩⟩
    · rw [if_neg hr]
      have hlen : 0 < acc.length := by
        obtain ⟨h, _⟩ := List.getElem?_eq_some_iff.mp h0
        omega
      have hlast : acc[acc.length - 1]? = some acc[acc.length - 1] := List.getElem?_eq_getElem (by omega)
      have hf := (ls _ hlast).symm
      refine pathGo_is g n (acc ++ [r]) (f r) ?_ (nodup_snoc nd hr) ?_ ?_ ?_ (by simp; omega)
      · rw [List.getElem?_append_left hlen]
        exact h0
      · intro x hx
        simp at hx
        rcases hx with hx | hx
        · exact sub x hx
        · subst hx
          exact g.cod hf
      · intro i x y hx hy
        rcases Nat.lt_trichotomy (i + 1) acc.length with hi | hi | hi
        · rw [List.getElem?_append_left (by omega)] at hx hy
          exact ch i x y hx hy
        · rw [List.getElem?_append_left (by omega)] at hx
          rw [List.getElem?_append_right (by omega), hi, Nat.sub_self] at hy
          have e : r = y := by simpa using hy
          subst e
          have hx' : acc[acc.length - 1]? = some x := by
            rw [show acc.length - 1 = i by omega]
            exact hx
          exact (ls x hx').symm
        · rw [List.getElem?_append_right (by omega)] at hy
          rw [List.getElem?_eq_none_iff.mpr (by simp; omega)] at hy
          cases hy
      · intro x hx
        rw [List.length_append, List.length_singleton, Nat.add_sub_cancel, List.getElem?_append_right (Nat.le_refl _), Nat.sub_self] at hx
        have e : r = x := by simpa using hx
        rw [e]

theorem path_is {S : List Int} {f : PF} (g : Gr S f) {k : Int} (hk : k ∈ S) : IsPath f k (path S f k) := by
  refine pathGo_is g S.length [k] (f k) rfl (by simp) (by intro x hx; simp at hx; subst hx; exact hk) ?_ ?_ (by simp; omega)
  · intro i x y hx hy
    rw [List.getElem?_eq_none_iff.mpr (by simp)] at hy
    cases hy
  · intro x hx
    have e : k = x := by simpa using hx
    rw [e]

section
variable {f : PF} {k : Int} {p : List Int}
theorem IsPath.pos (h : IsPath f k p) : 0 < p.length := by
  obtain ⟨h, _⟩ := List.getElem?_eq_some_iff.mp h.hd
  exact h
theorem IsPath.orb (h : IsPath f k p) : ∀ (i : Nat) (x : Int), p[i]? = some x → orb f k i = some x
  | 0, x, hx => by
    rw [h.hd] at hx
    exact hx
  | i + 1, x, hx => by
    have hi : i + 1 < p.length := (List.getElem?_eq_some_iff.mp hx).1
    have e : p[i]? = some p[i] := List.getElem?_eq_getElem (by omega)
    show (Rc.orb f k i).bind f = some x
    rw [IsPath.orb h i _ e]
    exact h.ch i _ _ e hx
theorem IsPath.last (h : IsPath f k p) : ∃ l, p[p.length - 1]? = some l := ⟨_, List.getElem?_eq_getElem (by have := h.pos; omega)⟩
theorem IsPath.kmem (h : IsPath f k p) : k ∈ p := List.mem_of_getElem? h.hd
/-- the next one of a row on the path is on the path -/
theorem IsPath.next (h : IsPath f k p) {x y : Int} (hx : x ∈ p) (e : f x = some y) : y ∈ p := by
  obtain ⟨i, hi⟩ := List.getElem?_of_mem hx
  have hl := (List.getElem?_eq_some_iff.mp hi).1
  by_cases hj : i + 1 < p.length
  · have e2 := h.ch i x _ hi (List.getElem?_eq_getElem hj)
    rw [e] at e2
    rw [Option.some.inj e2]
    exact List.getElem_mem _
  · rcases h.ls x (by rw [show p.length - 1 = i by omega]; exact hi) with e2 | ⟨z, hz, e2⟩
    · rw [e] at e2
      cases e2
    · rw [e] at e2
      rw [Option.some.inj e2]
      exact hz
theorem IsPath.uniq {q : List Int} (h : IsPath f k p) (h' : IsPath f k q) : p = q := by
  have half : ∀ {p q : List Int}, IsPath f k p → IsPath f k q → ¬ p.length < q.length := by
    intro p q h h' hl
    obtain ⟨l, hl1⟩ := h.last
    have pos := h.pos
    have o1 := h.orb _ _ hl1
    have eq : q[p.length]? = some q[p.length] := List.getElem?_eq_getElem hl
    have o2 := h'.orb _ _ eq
    have e3 : Rc.orb f k p.length = f l := by
      rw [show p.length = (p.length - 1) + 1 by omega]
      show (Rc.orb f k (p.length - 1)).bind f = _
      rw [o1]
      rfl
    rw [e3] at o2
    have hm : q[p.length] ∈ p := h.next (List.mem_of_getElem? hl1) o2
    obtain ⟨j, hj⟩ := List.getElem?_of_mem hm
    have hjl := (List.getElem?_eq_some_iff.mp hj).1
    have o4 := h.orb j _ hj
    have o5 := h'.orb j _ (List.getElem?_eq_getElem (by omega))
    rw [o4] at o5
    have hq : q[j]? = some q[p.length] := by
      rw [List.getElem?_eq_getElem (by omega)]
      exact o5.symm
    have := nd_idx h'.nd hq eq
    omega
  have hlen : p.length = q.length := Nat.le_antisymm (Nat.not_lt.mp (half h' h)) (Nat.not_lt.mp (half h h'))
  refine List.ext_getElem? fun i => ?_
  by_cases hi : i < p.length
  · rw [List.getElem?_eq_getElem hi, List.getElem?_eq_getElem (by omega)]
    have a := h.orb i _ (List.getElem?_eq_getElem hi)
    have b := h'.orb i _ (List.getElem?_eq_getElem (by omega))
    rw [a] at b
    exact b
  · rw [List.getElem?_eq_none_iff.mpr (by omega), List.getElem?_eq_none_iff.mpr (by omega)]
end

/-! orbits -/
theorem orb_add (f : PF) (k : Int) (m : Nat) : ∀ n, orb f k (m + n) = (orb f k m).bind fun x => orb f x n
  | 0 => by
    show orb f k m = _
    cases orb f k m <;> rfl
  | n + 1 => by
    show (orb f k (m + n)).bind f = _
    rw [orb_add f k m n]
    cases orb f k m <;> rfl
theorem orb_some_of_le {f : PF} {k x : Int} {m n : Nat} (h : orb f k n = some x) (hm : m ≤ n) : ∃ y, orb f k m = some y := by
  cases e : orb f k m with
  | some y => exact ⟨y, rfl⟩
  | none =>
    rw [show n = m + (n - m) by omega, orb_add, e] at h
    cases h
theorem orb_period {f : PF} {k : Int} {d : Nat} (hd : 0 < d) (h : orb f k d = some k) : ∀ n, ∃ m, m < d ∧ orb f k n = orb f k m := by
  intro n
  induction n using Nat.strongRecOn with
  | _ n ih =>
    by_cases hn : n < d
    · exact ⟨n, hn, rfl⟩
    · obtain ⟨m, hm, e⟩ := ih (n - d) (by omega)
      refine ⟨m, hm, ?_⟩
      rw [show n = d + (n - d) by omega, orb_add, h]
      exact e
theorem orb_period_some {f : PF} {k : Int} {d : Nat} (hd : 0 < d) (h : orb f k d = some k) (n : Nat) : ∃ y, orb f k n = some y := by
  obtain ⟨m, hm, e⟩ := orb_period hd h n
  obtain ⟨y, hy⟩ := orb_some_of_le h (Nat.le_of_lt hm)
  exact ⟨y, e.trans hy⟩

/-- the path comes back to its beginning -/
def Closes (f : PF) (k : Int) (p : List Int) : Prop := ∃ l, p[p.length - 1]? = some l ∧ f l = some k
def Opens (f : PF) (p : List Int) : Prop := ∃ l, p[p.length - 1]? = some l ∧ f l = none

section
variable {S : List Int} {f : PF} {k : Int} {p : List Int}
theorem closes_or (g : Gr S f) (h : IsPath f k p) : Closes f k p ∨ Opens f p := by
  obtain ⟨l, hl⟩ := h.last
  rcases h.ls l hl with e | ⟨y, hy, e⟩
  · exact .inr ⟨l, hl, e⟩
  · refine .inl ⟨l, hl, ?_⟩
    obtain ⟨j, hj⟩ := List.getElem?_of_mem hy
    have hjl := (List.getElem?_eq_some_iff.mp hj).1
    cases j with
    | zero =>
      rw [h.hd] at hj
      rw [Option.some.inj hj]
      exact e
    | succ j =>
      have ej : p[j]? = some p[j] := List.getElem?_eq_getElem (by omega)
      have := g.inj (h.ch j _ _ ej hj) e
      rw [← this] at hl
      have := nd_idx h.nd ej hl
      omega
theorem Closes.orb (h : IsPath f k p) (c : Closes f k p) : orb f k p.length = some k := by
  obtain ⟨l, hl, e⟩ := c
  have pos := h.pos
  rw [show p.length = (p.length - 1) + 1 by omega]
  show (Rc.orb f k (p.length - 1)).bind f = _
  rw [h.orb _ _ hl]
  exact e
theorem Opens.orb (h : IsPath f k p) (c : Opens f p) : orb f k p.length = none := by
  obtain ⟨l, hl, e⟩ := c
  have pos := h.pos
  rw [show p.length = (p.length - 1) + 1 by omega]
  show (Rc.orb f k (p.length - 1)).bind f = _
  rw [h.orb _ _ hl]
  exact e
theorem not_both (h : IsPath f k p) (c : Closes f k p) (o : Opens f p) : False := by
  have a := c.orb h
  rw [o.orb h] at a
  cases a
theorem orb_mem (h : IsPath f k p) : ∀ (n : Nat) (x : Int), orb f k n = some x → x ∈ p
  | 0, x, e => by
    have e : k = x := Option.some.inj e
    rw [← e]
    exact h.kmem
  | n + 1, x, e => by
    have e : (orb f k n).bind f = some x := e
    cases q : orb f k n with
    | none =>
      rw [q] at e
      cases e
    | some y =>
      rw [q] at e
      exact h.next (orb_mem h n y q) e
theorem mem_orb (h : IsPath f k p) {x : Int} (hx : x ∈ p) : ∃ i, i < p.length ∧ p[i]? = some x ∧ orb f k i = some x := by
  obtain ⟨i, hi⟩ := List.getElem?_of_mem hx
  exact ⟨i, (List.getElem?_eq_some_iff.mp hi).1, hi, h.orb i x hi⟩
/-- backwards -/
theorem back (g : Gr S f) {a b : Int} {q : List Int} (h : IsPath f a p) (h' : IsPath f b q) : ∀ (i j : Nat) (x : Int), i ≤ j → p[i]? = some x → q[j]? = some x → q[j - i]? = some a
  | 0, j, x, _, hx, hy => by
    rw [h.hd] at hx
    rw [Option.some.inj hx]
    exact hy
  | i + 1, j, x, hij, hx, hy => by
    have l1 := (List.getElem?_eq_some_iff.mp hx).1
    have l2 := (List.getElem?_eq_some_iff.mp hy).1
    have e1 : p[i]? = some p[i] := List.getElem?_eq_getElem (by omega)
    have e2 : q[j - 1]? = some q[j - 1] := List.getElem?_eq_getElem (by omega)
    have a1 := h.ch i _ _ e1 hx
    have a2 := h'.ch (j - 1) _ x e2 (by rw [show j - 1 + 1 = j by omega]; exact hy)
    have e := g.inj a1 a2
    have := back g h h' i (j - 1) p[i] (by omega) e1 (by rw [e]; exact e2)
    rw [show j - (i + 1) = j - 1 - i by omega]
    exact this
end

/-! lines and rings -/
def isLine (S : List Int) (f : PF) (k : Int) : Bool := S.all fun x => f x != some k
def isRing (S : List Int) (f : PF) (k : Int) : Bool := (match (path S f k)[(path S f k).length - 1]? with | some l => f l == some k | none => false) && (path S f k).all fun x => decide (k ≤ x)
def lines (S : List Int) (f : PF) : List (List Int) := (S.filter (isLine S f)).map (path S f)
def rings (S : List Int) (f : PF) : List (List Int) := (S.filter (isRing S f)).map (path S f)
def starts (S : List Int) (f : PF) : List Int := S.filter (isLine S f) ++ S.filter (isRing S f)

section
variable {S : List Int} {f : PF}
theorem isLine_iff (g : Gr S f) {k : Int} : isLine S f k = true ↔ ∀ x, f x ≠ some k := by
  unfold isLine
  rw [List.all_eq_true]
  constructor
  · intro h x e
    have := h x (g.dom e)
    rw [e] at this
    simp at this
  · intro h x _
    have := h x
    simpa using this
theorem isRing_iff (g : Gr S f) {k : Int} (hk : k ∈ S) : isRing S f k = true ↔ Closes f k (path S f k) ∧ ∀ x ∈ path S f k, k ≤ x := by
  obtain ⟨l, hl⟩ := (path_is g hk).last
  unfold isRing
  rw [hl, Bool.and_eq_true, List.all_eq_true]
  constructor
  · rintro ⟨a, b⟩
    exact ⟨⟨l, hl, by simpa using a⟩, fun x hx => by simpa using b x hx⟩
  · rintro ⟨⟨l', hl', e⟩, b⟩
    rw [hl] at hl'
    cases hl'
    exact ⟨by simpa using e, fun x hx => by simpa using b x hx⟩
theorem line_opens (g : Gr S f) {k : Int} (hk : k ∈ S) (h : isLine S f k = true) : Opens f (path S f k) := by
  rcases closes_or g (path_is g hk) with ⟨l, hl, e⟩ | o
  · exact absurd e ((isLine_iff g).mp h l)
  · exact o

theorem start_cases (g : Gr S f) {a : Int} (h : a ∈ starts S f) : a ∈ S ∧ ((isLine S f a = true ∧ Opens f (path S f a)) ∨ (isRing S f a = true ∧ Closes f a (path S f a) ∧ ∀ x ∈ path S f a, a ≤ x)) := by
  unfold starts at h
  rw [List.mem_append, List.mem_filter, List.mem_filter] at h
  rcases h with ⟨h1, h2⟩ | ⟨h1, h2⟩
  · exact ⟨h1, .inl ⟨h2, line_opens g h1 h2⟩⟩
  · exact ⟨h1, .inr ⟨h2, (isRing_iff g h1).mp h2⟩⟩

theorem apart_le (g : Gr S f) {a b x : Int} (ha : a ∈ starts S f) (hb : b ∈ starts S f) {i j : Nat} (hij : i ≤ j) (h1 : (path S f a)[i]? = some x) (h2 : (path S f b)[j]? = some x) : a = b := by
  obtain ⟨sa, ca⟩ := start_cases g ha
  obtain ⟨sb, cb⟩ := start_cases g hb
  have pa := path_is g sa
  have pb := path_is g sb
  have hback := back g pa pb i j x hij h1 h2
  have ob := pb.orb _ _ hback
  rcases ca with ⟨la, oa⟩ | ⟨ra, cla, ma⟩
  · -- a is the first of a line
    cases e : j - i with
    | zero =>
      rw [e] at hback
      rw [pb.hd] at hback
      exact (Option.some.inj hback).symm
    | succ m =>
      rw [e] at hback
      have hl := (List.getElem?_eq_some_iff.mp hback).1
      exact absurd (pb.ch m _ _ (List.getElem?_eq_getElem (by omega)) hback) ((isLine_iff g).mp la _)
  · have oa := cla.orb pa
    rcases cb with ⟨lb, opb⟩ | ⟨rb, clb, mb⟩
    · exfalso
      have z := opb.orb pb
      have hl := (List.getElem?_eq_some_iff.mp hback).1
      rw [show (path S f b).length = (j - i) + ((path S f b).length - (j - i)) by omega, orb_add, ob] at z
      obtain ⟨y, hy⟩ := orb_period_some pa.pos oa ((path S f b).length - (j - i))
      have z : orb f a ((path S f b).length - (j - i)) = none := z
      rw [hy] at z
      cases z
    · have z := clb.orb pb
      have hl := (List.getElem?_eq_some_iff.mp hback).1
      rw [show (path S f b).length = (j - i) + ((path S f b).length - (j - i)) by omega, orb_add, ob] at z
      have hba := ma b (orb_mem pa _ _ z)
      have hab := mb a (List.mem_of_getElem? hback)
      omega
theorem apart (g : Gr S f) {a b x : Int} (ha : a ∈ starts S f) (hb : b ∈ starts S f) (h1 : x ∈ path S f a) (h2 : x ∈ path S f b) : a = b := by
  obtain ⟨i, hi⟩ := List.getElem?_of_mem h1
  obtain ⟨j, hj⟩ := List.getElem?_of_mem h2
  rcases Nat.le_total i j with h | h
  · exact apart_le g ha hb h hi hj
  · exact (apart_le g hb ha h hj hi).symm

theorem exists_min : ∀ (l : List Int), l ≠ [] → ∃ m ∈ l, ∀ x ∈ l, m ≤ x
  | [], h => absurd rfl h
  | [a], _ => ⟨a, by simp, by simp⟩
  | a :: b :: l, _ => by
    obtain ⟨m, hm, hx⟩ := exists_min (b :: l) (by simp)
    by_cases h : a ≤ m
    · refine ⟨a, by simp, fun x hx' => ?_⟩
      rcases List.mem_cons.mp hx' with e | e
      · rw [e]; exact Int.le_refl _
      · exact Int.le_trans h (hx x e)
    · refine ⟨m, List.mem_cons_of_mem _ hm, fun x hx' => ?_⟩
      rcases List.mem_cons.mp hx' with e | e
      · rw [e]; omega
      · exact hx x e

theorem path_sub (g : Gr S f) {k : Int} (hk : k ∈ S) : ∀ x ∈ path S f k, x ∈ S := by
  intro x hx
  have h := path_is g hk
  obtain ⟨i, hi⟩ := List.getElem?_of_mem hx
  cases i with
  | zero =>
    rw [h.hd] at hi
    rw [← Option.some.inj hi]
    exact hk
  | succ i =>
    have hl := (List.getElem?_eq_some_iff.mp hi).1
    exact g.cod (h.ch i _ x (List.getElem?_eq_getElem (by omega)) hi)

/-- a closing path: its least row begins a ring that has the same rows -/
theorem ring_of_closes (g : Gr S f) {x : Int} (hx : x ∈ S) (c : Closes f x (path S f x)) : ∃ m ∈ S, isRing S f m = true ∧ x ∈ path S f m ∧ m ∈ path S f x ∧ ∀ y ∈ path S f m, y ∈ path S f x := by
  have h := path_is g hx
  obtain ⟨m, hm, hmin⟩ := exists_min (path S f x) (fun e => by have := h.pos; rw [e] at this; simp at this)
  have hmS := path_sub g hx m hm
  obtain ⟨i, hi, _, oi⟩ := mem_orb h hm
  have hcl := c.orb h
  have hper : ∀ n, ∃ y, orb f m n = some y ∧ y ∈ path S f x := fun n => by
    have e := orb_add f x i n
    rw [oi] at e
    have e : orb f x (i + n) = orb f m n := e
    obtain ⟨y, hy⟩ := orb_period_some h.pos hcl (i + n)
    exact ⟨y, e ▸ hy, orb_mem h _ _ hy⟩
  have pm := path_is g hmS
  have cm : Closes f m (path S f m) := by
    rcases closes_or g pm with q | o
    · exact q
    · have z := o.orb pm
      obtain ⟨y, hy, _⟩ := hper (path S f m).length
      rw [z] at hy
      cases hy
  have hsub : ∀ y ∈ path S f m, y ∈ path S f x := fun y hy => by
    obtain ⟨j, _, _, oj⟩ := mem_orb pm hy
    obtain ⟨y', hy', hm'⟩ := hper j
    rw [oj] at hy'
    rw [Option.some.inj hy']
    exact hm'
  refine ⟨m, hmS, (isRing_iff g hmS).mpr ⟨cm, fun y hy => hmin y (hsub y hy)⟩, ?_, hm, hsub⟩
  have e := orb_add f x i ((path S f x).length - i)
  rw [oi, show i + ((path S f x).length - i) = (path S f x).length by omega, hcl] at e
  exact orb_mem pm _ _ (show orb f m ((path S f x).length - i) = some x from e.symm)

theorem covered_open (g : Gr S f) : ∀ (n : Nat) (x : Int), x ∈ S → S.length ≤ (path S f x).length + n → Opens f (path S f x) → ∃ a ∈ starts S f, x ∈ path S f a := by
  intro n
  induction n with
  | zero =>
    intro x hx hn o
    have h := path_is g hx
    by_cases hl : isLine S f x = true
    · exact ⟨x, List.mem_append_left _ (List.mem_filter.mpr ⟨hx, hl⟩), h.kmem⟩
    · exfalso
      -- all rows of S are on the path, so is the one that waits for x
      have : ¬ ∀ y, f y ≠ some x := fun q => hl ((isLine_iff g).mpr q)
      obtain ⟨y, hy⟩ : ∃ y, f y = some x := by
        apply Classical.byContradiction
        intro q
        exact this fun y e => q ⟨y, e⟩
      have ny : y ∉ path S f x := fun hm => by
        obtain ⟨i, hi, _, oi⟩ := mem_orb h hm
        have e : orb f x (i + 1) = some x := by
          show (orb f x i).bind f = _
          rw [oi]
          exact hy
        obtain ⟨z, hz⟩ := orb_period_some (Nat.succ_pos i) e (path S f x).length
        rw [o.orb h] at hz
        cases hz
      have := nodup_length_le (l := y :: path S f x) (m := S) (List.nodup_cons.mpr ⟨ny, h.nd⟩) (fun z hz => by
        rcases List.mem_cons.mp hz with e | e
        · rw [e]; exact g.dom hy
        · exact path_sub g hx z e)
      simp at this
      omega
  | succ n ih =>
    intro x hx hn o
    have h := path_is g hx
    by_cases hl : isLine S f x = true
    · exact ⟨x, List.mem_append_left _ (List.mem_filter.mpr ⟨hx, hl⟩), h.kmem⟩
    · have : ¬ ∀ y, f y ≠ some x := fun q => hl ((isLine_iff g).mpr q)
      obtain ⟨y, hy⟩ : ∃ y, f y = some x := by
        apply Classical.byContradiction
        intro q
        exact this fun y e => q ⟨y, e⟩
      have ny : y ∉ path S f x := fun hm => by
        obtain ⟨i, hi, _, oi⟩ := mem_orb h hm
        have e : orb f x (i + 1) = some x := by
          show (orb f x i).bind f = _
          rw [oi]
          exact hy
        obtain ⟨z, hz⟩ := orb_period_some (Nat.succ_pos i) e (path S f x).length
        rw [o.orb h] at hz
        cases hz
      have hyS := g.dom hy
      have hq : IsPath f y (y :: path S f x) := by
        refine ⟨rfl, List.nodup_cons.mpr ⟨ny, h.nd⟩, fun i u v hu hv => ?_, fun u hu => ?_⟩
        · cases i with
          | zero =>
            have e1 : y = u := Option.some.inj hu
            have e2 : (path S f x)[0]? = some v := hv
            rw [h.hd] at e2
            rw [← e1, ← Option.some.inj e2]
            exact hy
          | succ i => exact h.ch i u v hu hv
        · have pos := h.pos
          have hu' : (path S f x)[(path S f x).length - 1]? = some u := by
            rw [List.length_cons, Nat.add_sub_cancel, show (path S f x).length = ((path S f x).length - 1) + 1 by omega] at hu
            rw [List.getElem?_cons_succ] at hu
            exact hu
          rcases h.ls u hu' with e | ⟨v, hv, e⟩
          · exact .inl e
          · exact .inr ⟨v, List.mem_cons_of_mem _ hv, e⟩
      have ep : path S f y = y :: path S f x := (path_is g hyS).uniq hq
      have oy : Opens f (path S f y) := by
        obtain ⟨l, hl, e⟩ := o
        have pos := h.pos
        refine ⟨l, ?_, e⟩
        rw [ep, List.length_cons, Nat.add_sub_cancel, show (path S f x).length = ((path S f x).length - 1) + 1 by omega, List.getElem?_cons_succ]
        exact hl
      obtain ⟨a, ha, hm⟩ := ih y hyS (by rw [ep, List.length_cons]; omega) oy
      exact ⟨a, ha, (path_is g (start_cases g ha).1).next hm hy⟩

/-- each row is on a line or in a ring -/
theorem covered (g : Gr S f) {x : Int} (hx : x ∈ S) : ∃ a ∈ starts S f, x ∈ path S f a := by
  rcases closes_or g (path_is g hx) with c | o
  · obtain ⟨m, hm, hr, hxm, _⟩ := ring_of_closes g hx c
    exact ⟨m, List.mem_append_right _ (List.mem_filter.mpr ⟨hm, hr⟩), hxm⟩
  · exact covered_open g S.length x hx (by omega) o

theorem nodup_flat {f : Int → List Int} : ∀ (l : List Int), l.Nodup → (∀ a ∈ l, (f a).Nodup) → (∀ a ∈ l, ∀ b ∈ l, ∀ x, x ∈ f a → x ∈ f b → a = b) → (l.map f).flatten.Nodup
  | [], _, _, _ => by simp
  | a :: l, nd, h1, h2 => by
    obtain ⟨na, nl⟩ := List.nodup_cons.mp nd
    rw [List.map_cons, List.flatten_cons, List.nodup_append]
    refine ⟨h1 a (by simp), nodup_flat l nl (fun b hb => h1 b (List.mem_cons_of_mem _ hb)) (fun b hb c hc => h2 b (List.mem_cons_of_mem _ hb) c (List.mem_cons_of_mem _ hc)), ?_⟩
    intro x hx y hy e
    subst e
    rw [List.mem_flatten] at hy
    obtain ⟨q, hq, hxq⟩ := hy
    rw [List.mem_map] at hq
    obtain ⟨b, hb, rfl⟩ := hq
    have := h2 a (by simp) b (List.mem_cons_of_mem _ hb) x hx hxq
    rw [this] at na
    exact na hb

theorem starts_nodup (g : Gr S f) : (starts S f).Nodup := by
  unfold starts
  rw [List.nodup_append]
  refine ⟨g.nd.filter _, g.nd.filter _, ?_⟩
  intro x hx y hy e
  subst e
  rw [List.mem_filter] at hx hy
  exact not_both (path_is g hx.1) ((isRing_iff g hy.1).mp hy.2).1 (line_opens g hx.1 hx.2)
theorem all_nodup (g : Gr S f) : (lines S f ++ rings S f).flatten.Nodup := by
  have e : lines S f ++ rings S f = (starts S f).map (path S f) := by
    unfold lines rings starts
    rw [List.map_append]
  rw [e]
  exact nodup_flat _ (starts_nodup g) (fun a ha => (path_is g (start_cases g ha).1).nd) fun a ha b hb x hx hy => apart g ha hb hx hy
end
end Rc

-- M2
set_option linter.all false
namespace Rc
/-! Covers: least numbers, by lines and rings; the greedy cover. -/
def Cover (f : PF) (C : List Int) : Prop := ∀ x y, f x = some y → x ∈ C ∨ y ∈ C
def need (p : List Int) : Nat := (p.length + 1) / 2
def least (S : List Int) (f : PF) : Nat := ((lines S f).map fun p => p.length / 2).sum + ((rings S f).map fun p => (p.length + 1) / 2).sum

/-! ### from below -/
/-- of each two neighbours one is in C -/
def Nb (C : List Int) (p : List Int) : Prop := ∀ (i : Nat) (x y : Int), p[i]? = some x → p[i + 1]? = some y → x ∈ C ∨ y ∈ C
theorem Nb.tail {C : List Int} {a : Int} {p : List Int} (h : Nb C (a :: p)) : Nb C p := fun i x y hx hy => h (i + 1) x y hx hy
theorem half_le (C : List Int) : ∀ (p : List Int), Nb C p → p.length / 2 ≤ (p.filter (· ∈ C)).length
  | [], _ => by simp
  | [a], _ => by simp
  | a :: b :: p, h => by
    have ih := half_le C p h.tail.tail
    have hab := h 0 a b rfl rfl
    have e : (a :: b :: p).filter (· ∈ C) = ([a, b].filter (· ∈ C)) ++ p.filter (· ∈ C) := by
      rw [← List.filter_append]
      rfl
    rw [e, List.length_append]
    have : 1 ≤ ([a, b].filter (· ∈ C)).length := by
      rcases hab with q | q
      · rw [List.filter_cons_of_pos (by simpa using q)]
        simp
      · have : b ∈ [a, b].filter (· ∈ C) := List.mem_filter.mpr ⟨by simp, by simpa using q⟩
        exact List.length_pos_of_mem this
    simp only [List.length_cons]
    omega
theorem Nb.front {C : List Int} {p : List Int} {a : Int} (h : Nb C (p ++ [a])) : Nb C p := fun i x y hx hy => by
  have h1 := (List.getElem?_eq_some_iff.mp hx).1
  have h2 := (List.getElem?_eq_some_iff.mp hy).1
  exact h i x y (by rw [List.getElem?_append_left h1]; exact hx) (by rw [List.getElem?_append_left h2]; exact hy)
theorem ring_le (C : List Int) (p : List Int) (h : Nb C p) (k l : Int) (h0 : p[0]? = some k) (h1 : p[p.length - 1]? = some l) (hc : l ∈ C ∨ k ∈ C) : (p.length + 1) / 2 ≤ (p.filter (· ∈ C)).length := by
  rcases hc with hc | hc
  · have pos : 0 < p.length := (List.getElem?_eq_some_iff.mp h0).1
    have ne : p ≠ [] := fun e => by rw [e] at pos; simp at pos
    have e := List.dropLast_concat_getLast ne
    have el : p.getLast ne = l := by
      rw [List.getLast_eq_getElem]
      obtain ⟨_, q⟩ := List.getElem?_eq_some_iff.mp h1
      exact q
    rw [el] at e
    have h2 : Nb C p.dropLast := by
      rw [← e] at h
      exact h.front
    have := half_le C _ h2
    have e3 : (p.filter (· ∈ C)).length = (p.dropLast.filter (· ∈ C)).length + 1 := by
      conv => lhs; rw [← e]
      rw [List.filter_append, List.length_append, List.filter_cons_of_pos (by simpa using hc)]
      simp
    rw [e3]
    rw [List.length_dropLast] at this
    omega
  · cases p with
    | nil => simp at h0
    | cons a p =>
      have ea : a = k := Option.some.inj h0
      subst ea
      have := half_le C p h.tail
      rw [List.filter_cons_of_pos (by simpa using hc)]
      simp only [List.length_cons]
      omega

theorem sum_map_append {α : Type} (f : α → Nat) (l m : List α) : ((l ++ m).map f).sum = (l.map f).sum + (m.map f).sum := by
  rw [List.map_append, List.sum_append]
theorem sum_le {α : Type} (f g : α → Nat) : ∀ (l : List α), (∀ x ∈ l, f x ≤ g x) → (l.map f).sum ≤ (l.map g).sum
  | [], _ => by simp
  | a :: l, h => by
    have ih := sum_le f g l fun x hx => h x (List.mem_cons_of_mem _ hx)
    have := h a (by simp)
    simp only [List.map_cons, List.sum_cons]
    omega
theorem sum_flat (C : List Int) : ∀ (l : List (List Int)), (l.map fun p => (p.filter (· ∈ C)).length).sum = (l.flatten.filter (· ∈ C)).length
  | [] => by simp
  | p :: l => by
    rw [List.map_cons, List.sum_cons, sum_flat C l, List.flatten_cons, List.filter_append, List.length_append]

section
variable {S : List Int} {f : PF}
theorem nb_path (g : Gr S f) {k : Int} (hk : k ∈ S) {C : List Int} (h : Cover f C) : Nb C (path S f k) := fun i x y hx hy => h x y ((path_is g hk).ch i x y hx hy)
/-- no smaller cover than that -/
theorem least_le (g : Gr S f) {C : List Int} (h : Cover f C) : least S f ≤ C.length := by
  have h1 : ((lines S f).map fun p => p.length / 2).sum ≤ ((lines S f).map fun p => (p.filter (· ∈ C)).length).sum := by
    refine sum_le _ _ _ fun p hp => ?_
    obtain ⟨k, hk, rfl⟩ := List.mem_map.mp hp
    exact half_le C _ (nb_path g (List.mem_filter.mp hk).1 h)
  have h2 : ((rings S f).map fun p => (p.length + 1) / 2).sum ≤ ((rings S f).map fun p => (p.filter (· ∈ C)).length).sum := by
    refine sum_le _ _ _ fun p hp => ?_
    obtain ⟨k, hk, rfl⟩ := List.mem_map.mp hp
    obtain ⟨hkS, hr⟩ := List.mem_filter.mp hk
    obtain ⟨⟨l, hl, e⟩, _⟩ := (isRing_iff g hkS).mp hr
    exact ring_le C _ (nb_path g hkS h) k l (path_is g hkS).hd hl (h l k e)
  have h3 : ((lines S f ++ rings S f).flatten.filter (· ∈ C)).length ≤ C.length :=
    nodup_length_le ((all_nodup g).filter _) fun x hx => by simpa using (List.mem_filter.mp hx).2
  rw [← sum_flat, sum_map_append] at h3
  unfold least
  omega

/-! ### from above -/
def evens : List Int → List Int
  | [] => []
  | [a] => [a]
  | a :: _ :: l => a :: evens l
def odds (p : List Int) : List Int := evens (p.drop 1)
theorem evens_length : ∀ (p : List Int), (evens p).length = (p.length + 1) / 2
  | [] => rfl
  | [_] => by simp [evens]
  | a :: b :: l => by
    show (evens l).length + 1 = (l.length + 1 + 1 + 1) / 2
    rw [evens_length l]
    omega
theorem odds_length (p : List Int) : (odds p).length = p.length / 2 := by
  unfold odds
  rw [evens_length, List.length_drop]
  omega
theorem evens_sub : ∀ (p : List Int) (x : Int), x ∈ evens p → x ∈ p
  | [], x, h => h
  | [_], x, h => h
  | a :: b :: l, x, h => by
    have h : x ∈ a :: evens l := h
    rcases List.mem_cons.mp h with e | e
    · rw [e]; simp
    · exact List.mem_cons_of_mem _ (List.mem_cons_of_mem _ (evens_sub l x e))
theorem odds_sub (p : List Int) (x : Int) (h : x ∈ odds p) : x ∈ p := List.mem_of_mem_drop (evens_sub _ x h)
theorem evens_at : ∀ (p : List Int) (i : Nat) (x : Int), p[i]? = some x → i % 2 = 0 → x ∈ evens p
  | [], i, x, h, _ => by simp at h
  | [a], i, x, h, _ => by
    have := (List.getElem?_eq_some_iff.mp h).1
    simp at this
    subst this
    have : a = x := Option.some.inj h
    rw [this]
    simp [evens]
  | a :: b :: l, 0, x, h, _ => by
    have : a = x := Option.some.inj h
    rw [this]
    simp [evens]
  | a :: b :: l, 1, x, h, e => by omega
  | a :: b :: l, i + 2, x, h, e => List.mem_cons_of_mem _ (evens_at l i x h (by omega))
theorem evens_nb (p : List Int) : Nb (evens p) p := fun i x y hx hy => by
  rcases Nat.mod_two_eq_zero_or_one i with e | e
  · exact .inl (evens_at p i x hx e)
  · exact .inr (evens_at p (i + 1) y hy (by omega))
theorem odds_nb : ∀ (p : List Int), Nb (odds p) p
  | [] => fun i x y hx _ => by simp at hx
  | a :: p => fun i x y hx hy => by
    show x ∈ evens p ∨ y ∈ evens p
    cases i with
    | zero => exact .inr (evens_at p 0 y hy rfl)
    | succ i => exact evens_nb p i x y hx hy
/-- a cover of that number: every second row of each line, and of each ring, from its beginning on -/
def best (S : List Int) (f : PF) : List Int := ((lines S f).map odds).flatten ++ ((rings S f).map evens).flatten
theorem flat_len (h : List Int → List Int) : ∀ (l : List (List Int)), (l.map h).flatten.length = (l.map fun p => (h p).length).sum
  | [] => rfl
  | p :: l => by
    rw [List.map_cons, List.flatten_cons, List.length_append, flat_len h l]
    rfl
theorem best_length : (best S f).length = least S f := by
  unfold best least
  rw [List.length_append, flat_len, flat_len]
  simp only [odds_length, evens_length]
theorem best_sub (g : Gr S f) : ∀ x ∈ best S f, x ∈ S := by
  intro x hx
  unfold best at hx
  rcases List.mem_append.mp hx with hx | hx
  · obtain ⟨q, hq, hxq⟩ := List.mem_flatten.mp hx
    obtain ⟨p, hp, rfl⟩ := List.mem_map.mp hq
    obtain ⟨k, hk, rfl⟩ := List.mem_map.mp hp
    exact path_sub g (List.mem_filter.mp hk).1 x (odds_sub _ x hxq)
  · obtain ⟨q, hq, hxq⟩ := List.mem_flatten.mp hx
    obtain ⟨p, hp, rfl⟩ := List.mem_map.mp hq
    obtain ⟨k, hk, rfl⟩ := List.mem_map.mp hp
    exact path_sub g (List.mem_filter.mp hk).1 x (evens_sub _ x hxq)
theorem best_cover (g : Gr S f) : Cover f (best S f) := by
  intro x y e
  obtain ⟨a, ha, hx⟩ := covered g (g.dom e)
  obtain ⟨haS, hc⟩ := start_cases g ha
  have h := path_is g haS
  obtain ⟨i, hi⟩ := List.getElem?_of_mem hx
  have hil := (List.getElem?_eq_some_iff.mp hi).1
  by_cases hj : i + 1 < (path S f a).length
  · have e2 := h.ch i x _ hi (List.getElem?_eq_getElem hj)
    rw [e] at e2
    have hy : (path S f a)[i + 1]? = some y := by rw [Option.some.inj e2]; exact List.getElem?_eq_getElem hj
    rcases hc with ⟨hl, _⟩ | ⟨hr, _⟩
    · have hm : odds (path S f a) ∈ (lines S f).map odds := List.mem_map.mpr ⟨_, List.mem_map.mpr ⟨a, List.mem_filter.mpr ⟨haS, hl⟩, rfl⟩, rfl⟩
      rcases odds_nb _ i x y hi hy with q | q
      · exact .inl (List.mem_append_left _ (List.mem_flatten.mpr ⟨_, hm, q⟩))
      · exact .inr (List.mem_append_left _ (List.mem_flatten.mpr ⟨_, hm, q⟩))
    · have hm : evens (path S f a) ∈ (rings S f).map evens := List.mem_map.mpr ⟨_, List.mem_map.mpr ⟨a, List.mem_filter.mpr ⟨haS, hr⟩, rfl⟩, rfl⟩
      rcases evens_nb _ i x y hi hy with q | q
      · exact .inl (List.mem_append_right _ (List.mem_flatten.mpr ⟨_, hm, q⟩))
      · exact .inr (List.mem_append_right _ (List.mem_flatten.mpr ⟨_, hm, q⟩))
  · have hl : (path S f a)[(path S f a).length - 1]? = some x := by rw [show (path S f a).length - 1 = i by omega]; exact hi
    rcases hc with ⟨_, l, hl', e'⟩ | ⟨hr, ⟨l, hl', e'⟩, _⟩
    · rw [hl] at hl'
      rw [Option.some.inj hl'] at e
      rw [e] at e'
      cases e'
    · rw [hl] at hl'
      rw [Option.some.inj hl'] at e
      rw [e] at e'
      have ey : y = a := Option.some.inj e'
      subst ey
      have hm : evens (path S f y) ∈ (rings S f).map evens := List.mem_map.mpr ⟨_, List.mem_map.mpr ⟨y, List.mem_filter.mpr ⟨haS, hr⟩, rfl⟩, rfl⟩
      exact .inr (List.mem_append_right _ (List.mem_flatten.mpr ⟨_, hm, evens_at _ 0 y h.hd rfl⟩))
theorem least_zero (g : Gr S f) (h : least S f = 0) : ∀ x, f x = none := by
  intro x
  have hb : best S f = [] := List.eq_nil_of_length_eq_zero (by rw [best_length]; exact h)
  cases e : f x with
  | none => rfl
  | some y =>
    have := best_cover g x y e
    rw [hb] at this
    simp at this
end

/-! ### without some rows -/
def del (f : PF) (X : List Int) : PF := fun x => if x ∈ X then none else match f x with | some y => if y ∈ X then none else some y | none => none
def sdel (S X : List Int) : List Int := S.filter fun x => decide (x ∉ X)
theorem del_some {f : PF} {X : List Int} {x y : Int} : del f X x = some y ↔ x ∉ X ∧ y ∉ X ∧ f x = some y := by
  unfold del
  by_cases hx : x ∈ X
  · rw [if_pos hx]
    constructor
    · intro h; cases h
    · intro h; exact absurd hx h.1
  · rw [if_neg hx]
    cases e : f x with
    | none => simp
    | some z =>
      by_cases hz : z ∈ X
      · simp only [hz, if_true]
        constructor
        · intro h; cases h
        · rintro ⟨_, h, e2⟩
          cases e2
          exact absurd hz h
      · simp only [hz, if_false]
        constructor
        · intro h
          cases h
          exact ⟨hx, hz, rfl⟩
        · rintro ⟨_, _, h⟩
          exact h
theorem mem_sdel {S X : List Int} {x : Int} : x ∈ sdel S X ↔ x ∈ S ∧ x ∉ X := by
  unfold sdel
  rw [List.mem_filter, decide_eq_true_iff]
theorem Gr.del {S : List Int} {f : PF} (g : Gr S f) (X : List Int) : Gr (sdel S X) (del f X) where
  nd := g.nd.filter _
  dom := fun h => by
    obtain ⟨a, _, c⟩ := del_some.mp h
    exact mem_sdel.mpr ⟨g.dom c, a⟩
  cod := fun h => by
    obtain ⟨_, b, c⟩ := del_some.mp h
    exact mem_sdel.mpr ⟨g.cod c, b⟩
  irr := fun h => g.irr (del_some.mp h).2.2
  inj := fun h h' => g.inj (del_some.mp h).2.2 (del_some.mp h').2.2
theorem cover_del {f : PF} {X C : List Int} (h : Cover (del f X) C) : Cover f (C ++ X) := fun x y e => by
  by_cases hx : x ∈ X
  · exact .inl (List.mem_append_right _ hx)
  · by_cases hy : y ∈ X
    · exact .inr (List.mem_append_right _ hy)
    · rcases h x y (del_some.mpr ⟨hx, hy, e⟩) with q | q
      · exact .inl (List.mem_append_left _ q)
      · exact .inr (List.mem_append_left _ q)
theorem del_cover {f : PF} {X C : List Int} (h : Cover f (C ++ X)) : Cover (del f X) C := fun x y e => by
  obtain ⟨hx, hy, e⟩ := del_some.mp e
  rcases h x y e with q | q
  · exact .inl ((List.mem_append.mp q).elim id fun z => absurd z hx)
  · exact .inr ((List.mem_append.mp q).elim id fun z => absurd z hy)
theorem del_none {f : PF} {X : List Int} (h : ∀ x, del f X x = none) : Cover f X := fun x y e => by
  by_cases hx : x ∈ X
  · exact .inl hx
  · by_cases hy : y ∈ X
    · exact .inr hy
    · have := h x
      rw [del_some.mpr ⟨hx, hy, e⟩] at this
      cases this
theorem cover_del_none {f : PF} {X : List Int} (h : Cover f X) : ∀ x, del f X x = none := fun x => by
  cases e : del f X x with
  | none => rfl
  | some y =>
    obtain ⟨hx, hy, e⟩ := del_some.mp e
    rcases h x y e with q | q
    · exact absurd q hx
    · exact absurd q hy
theorem del_congr {f : PF} {X Y : List Int} (h : ∀ x, x ∈ X ↔ x ∈ Y) : del f X = del f Y := by
  funext x
  unfold del
  simp only [h]
theorem sdel_congr {S X Y : List Int} (h : ∀ x, x ∈ X ↔ x ∈ Y) : sdel S X = sdel S Y := by
  unfold sdel
  congr 1
  funext x
  simp only [h]

section
variable {S : List Int} {f : PF}
theorem least_del (g : Gr S f) (X : List Int) : least S f ≤ X.length + least (sdel S X) (del f X) := by
  have := least_le g (cover_del (best_cover (g.del X)))
  rw [List.length_append, best_length] at this
  omega
/-- some row lowers it -/
theorem least_drop (g : Gr S f) (X : List Int) (h : 0 < least (sdel S X) (del f X)) : ∃ k ∈ S, k ∉ X ∧ least (sdel S (X ++ [k])) (del f (X ++ [k])) + 1 ≤ least (sdel S X) (del f X) := by
  have gx := g.del X
  have hl := best_length (S := sdel S X) (f := del f X)
  cases e : best (sdel S X) (del f X) with
  | nil =>
    rw [e] at hl
    simp at hl
    omega
  | cons k C =>
    have hk : k ∈ sdel S X := best_sub gx k (by rw [e]; simp)
    obtain ⟨h1, h2⟩ := mem_sdel.mp hk
    refine ⟨k, h1, h2, ?_⟩
    have hc : Cover (del f X) (k :: C) := e ▸ best_cover gx
    have hc2 : Cover f ((k :: C) ++ X) := cover_del hc
    have hc3 : Cover (del f (X ++ [k])) C := del_cover fun x y e => by
      have := hc2 x y e
      simp only [List.mem_append, List.mem_cons, List.mem_singleton] at this ⊢
      simp only [List.not_mem_nil, or_false]
      rcases this with ((q | q) | q) | ((q | q) | q)
      · exact .inl (.inr (.inr q))
      · exact .inl (.inl q)
      · exact .inl (.inr (.inl q))
      · exact .inr (.inr (.inr q))
      · exact .inr (.inl q)
      · exact .inr (.inr (.inl q))
    have := least_le (g.del (X ++ [k])) hc3
    rw [e] at hl
    simp at hl
    omega

/-- the greedy cover: keys from the left, each that keeps the number -/
def greedy (S : List Int) (f : PF) (many : Nat) : List Int → List Int → List Int
  | [], c => c
  | k :: ks, c => if c.length < many ∧ (c ++ [k]).length + least (sdel S (c ++ [k])) (del f (c ++ [k])) = many then greedy S f many ks (c ++ [k]) else greedy S f many ks c
theorem greedy_ok (g : Gr S f) (many : Nat) (hm : many = least S f) : ∀ (ks c : List Int), c.length + least (sdel S c) (del f c) = many →
    (∀ k ∈ S, k ∉ ks → k ∉ c → ∃ c' e, c = c' ++ e ∧ ¬ (c'.length < many ∧ (c' ++ [k]).length + least (sdel S (c' ++ [k])) (del f (c' ++ [k])) = many)) →
    Cover f (greedy S f many ks c) ∧ (greedy S f many ks c).length = many
  | [], c, h1, h2 => by
    have hz : least (sdel S c) (del f c) = 0 := by
      rcases Nat.eq_zero_or_pos (least (sdel S c) (del f c)) with q | q
      · exact q
      · exfalso
        obtain ⟨k, hk, hkc, hle⟩ := least_drop g c q
        obtain ⟨c', e, ec, hno⟩ := h2 k hk (by simp) hkc
        refine hno ⟨?_, ?_⟩
        · have : c'.length ≤ c.length := by rw [ec, List.length_append]; omega
          omega
        · have a1 := least_del g (c' ++ [k])
          have a2 := least_del (g.del (c' ++ [k])) e
          have mm : ∀ x, x ∈ (c' ++ [k]) ++ e ↔ x ∈ c ++ [k] := fun x => by
            rw [ec]
            simp only [List.mem_append, List.mem_singleton]
            constructor
            · rintro ((q | q) | q)
              · exact .inl (.inl q)
              · exact .inr q
              · exact .inl (.inr q)
            · rintro ((q | q) | q)
              · exact .inl (.inl q)
              · exact .inr q
              · exact .inl (.inr q)
          have e1 : sdel (sdel S (c' ++ [k])) e = sdel S (c ++ [k]) := by
            rw [← sdel_congr mm]
            unfold sdel
            rw [List.filter_filter]
            congr 1
            funext x
            simp only [List.mem_append, not_or, Bool.decide_and]
            rw [Bool.and_comm]
          have e2 : del (del f (c' ++ [k])) e = del f (c ++ [k]) := by
            rw [← del_congr mm]
            funext x
            cases q : del (del f (c' ++ [k])) e x with
            | some y =>
              obtain ⟨h1, h2, h3⟩ := del_some.mp q
              obtain ⟨h4, h5, h6⟩ := del_some.mp h3
              exact (del_some.mpr ⟨by rw [List.mem_append]; exact not_or.mpr ⟨h4, h1⟩, by rw [List.mem_append]; exact not_or.mpr ⟨h5, h2⟩, h6⟩).symm
            | none =>
              cases q' : del f ((c' ++ [k]) ++ e) x with
              | none => rfl
              | some y =>
                obtain ⟨h1, h2, h3⟩ := del_some.mp q'
                rw [List.mem_append] at h1 h2
                have := del_some.mpr ⟨fun z => h1 (.inr z), fun z => h2 (.inr z), del_some.mpr ⟨fun z => h1 (.inl z), fun z => h2 (.inl z), h3⟩⟩
                rw [q] at this
                cases this
          rw [e1, e2] at a2
          have : c.length = c'.length + e.length := by rw [ec, List.length_append]
          simp only [List.length_append, List.length_singleton] at a1 ⊢
          omega
    have hn := least_zero (g.del c) hz
    exact ⟨del_none hn, by show c.length = many; omega⟩
  | k :: ks, c, h1, h2 => by
    unfold greedy
    by_cases h : c.length < many ∧ (c ++ [k]).length + least (sdel S (c ++ [k])) (del f (c ++ [k])) = many
    · rw [if_pos h]
      refine greedy_ok g many hm ks (c ++ [k]) h.2 fun x hx hxk hxc => ?_
      have hne : x ≠ k := fun e => hxc (by rw [e]; simp)
      obtain ⟨c', e, ec, hno⟩ := h2 x hx (fun q => (List.mem_cons.mp q).elim hne hxk) (fun q => hxc (List.mem_append_left _ q))
      exact ⟨c', e ++ [k], by rw [ec, List.append_assoc], hno⟩
    · rw [if_neg h]
      refine greedy_ok g many hm ks c h1 fun x hx hxk hxc => ?_
      by_cases e : x = k
      · subst e
        exact ⟨c, [], by simp, h⟩
      · exact h2 x hx (fun q => (List.mem_cons.mp q).elim e hxk) hxc
theorem del_nil : del f [] = f := by
  funext x
  unfold del
  simp
  cases f x <;> rfl
theorem sdel_nil : sdel S [] = S := by
  unfold sdel
  simp
def firstCover (S : List Int) (f : PF) : List Int := greedy S f (least S f) S []
theorem firstCover_ok (g : Gr S f) : Cover f (firstCover S f) ∧ (firstCover S f).length = least S f := by
  refine greedy_ok g _ rfl S [] ?_ fun k hk hk' _ => absurd hk hk'
  rw [del_nil, sdel_nil]
  simp
theorem greedy_sub : ∀ (many : Nat) (ks c : List Int), ∃ d, greedy S f many ks c = c ++ d ∧ d.Sublist ks
  | many, [], c => ⟨[], by simp [greedy], .slnil⟩
  | many, k :: ks, c => by
    unfold greedy
    split
    · obtain ⟨d, e, s⟩ := greedy_sub many ks (c ++ [k])
      exact ⟨k :: d, by rw [e, List.append_assoc]; rfl, s.cons₂ k⟩
    · obtain ⟨d, e, s⟩ := greedy_sub many ks c
      exact ⟨d, e, s.cons k⟩
theorem firstCover_sub : (firstCover S f).Sublist S := by
  obtain ⟨d, e, s⟩ := greedy_sub (S := S) (f := f) (least S f) S []
  unfold firstCover
  rw [e]
  exact s
/-- one row less is no cover -/
theorem less_no (g : Gr S f) {C : List Int} (h : C.length < least S f) : ¬ Cover f C := fun q => by
  have := least_le g q
  omega
end
end Rc

-- M3
set_option linter.all false
namespace Rc
/-! Rings without some rows; pieces; orders that pass. -/
def firsts (S : List Int) (f : PF) : List Int := S.filter (isRing S f)
section
variable {S : List Int} {f : PF}
theorem rings_nil : rings S f = [] ↔ ∀ k ∈ S, isRing S f k = false := by
  unfold rings
  rw [List.map_eq_nil_iff, List.filter_eq_nil_iff]
  exact ⟨fun h k hk => by simpa using h k hk, fun h k hk => by simp [h k hk]⟩
theorem mem_rings (g : Gr S f) {p : List Int} : p ∈ rings S f ↔ ∃ k ∈ S, isRing S f k = true ∧ p = path S f k := by
  unfold rings
  rw [List.mem_map]
  constructor
  · rintro ⟨k, hk, e⟩
    obtain ⟨a, b⟩ := List.mem_filter.mp hk
    exact ⟨k, a, b, e.symm⟩
  · rintro ⟨k, a, b, e⟩
    exact ⟨k, List.mem_filter.mpr ⟨a, b⟩, e.symm⟩
theorem ring_firsts (g : Gr S f) : (rings S f).map (fun p => p[0]?) = (firsts S f).map some := by
  unfold rings firsts
  rw [List.map_map]
  refine List.map_congr_left fun k hk => ?_
  exact (path_is g (List.mem_filter.mp hk).1).hd
/-- if a function leads on no further than f, its rings are rings of f -/
theorem ring_up {S' : List Int} {f' : PF} (g : Gr S f) (g' : Gr S' f') (hf : ∀ x y, f' x = some y → f x = some y) {k : Int} (hk : k ∈ S') (hr : isRing S' f' k = true) : k ∈ S ∧ isRing S f k = true ∧ path S f k = path S' f' k := by
  obtain ⟨⟨l, hl, e⟩, hmin⟩ := (isRing_iff g' hk).mp hr
  have h := path_is g' hk
  have hkS : k ∈ S := g.cod (hf l k e)
  have hp : IsPath f k (path S' f' k) := by
    refine ⟨h.hd, h.nd, fun i x y hx hy => hf x y (h.ch i x y hx hy), fun x hx => ?_⟩
    rw [hl] at hx
    rw [← Option.some.inj hx]
    exact .inr ⟨k, h.kmem, hf l k e⟩
  have ep := (path_is g hkS).uniq hp
  refine ⟨hkS, (isRing_iff g hkS).mpr ?_, ep⟩
  rw [ep]
  exact ⟨⟨l, hl, hf l k e⟩, hmin⟩
theorem rings_park_gen {S' : List Int} {f' : PF} (g : Gr S f) (g' : Gr S' f') (hf : ∀ x y, f' x = some y → f x = some y) (hx : ∀ k ∈ S', k ∉ firsts S f) : rings S' f' = [] := by
  rw [rings_nil]
  intro k hk
  cases hr : isRing S' f' k with
  | false => rfl
  | true =>
    obtain ⟨a, b, _⟩ := ring_up g g' hf hk hr
    exact absurd (List.mem_filter.mpr ⟨a, b⟩) (hx k hk)
theorem rings_park (g : Gr S f) {X : List Int} (hX : ∀ x ∈ firsts S f, x ∈ X) : rings (sdel S X) (del f X) = [] :=
  rings_park_gen g (g.del X) (fun x y h => (del_some.mp h).2.2) fun k hk hm => (mem_sdel.mp hk).2 (hX k hm)
/-- a ring stands if its first row is left out of some first rows -/
theorem rings_less (g : Gr S f) {X : List Int} (hX : ∀ x ∈ X, x ∈ firsts S f) {r : Int} (hr : r ∈ firsts S f) (hrX : r ∉ X) : rings (sdel S X) (del f X) ≠ [] := by
  intro hz
  obtain ⟨hrS, hr1⟩ := List.mem_filter.mp hr
  obtain ⟨⟨l, hl, e⟩, hmin⟩ := (isRing_iff g hrS).mp hr1
  have h := path_is g hrS
  have hno : ∀ x ∈ path S f r, x ∉ X := fun x hx hxX => by
    have hx2 := hX x hxX
    obtain ⟨hxS, _⟩ := List.mem_filter.mp hx2
    have := apart g (List.mem_append_right _ hr) (List.mem_append_right _ hx2) hx (path_is g hxS).kmem
    rw [this] at hrX
    exact hrX hxX
  have hr' : r ∈ sdel S X := mem_sdel.mpr ⟨hrS, hrX⟩
  have hp : IsPath (del f X) r (path S f r) := by
    refine ⟨h.hd, h.nd, fun i x y hx hy => del_some.mpr ⟨hno x (List.mem_of_getElem? hx), hno y (List.mem_of_getElem? hy), h.ch i x y hx hy⟩, fun x hx => ?_⟩
    rw [hl] at hx
    rw [← Option.some.inj hx]
    exact .inr ⟨r, h.kmem, del_some.mpr ⟨hno l (List.mem_of_getElem? hl), hrX, e⟩⟩
  have ep := (path_is (g.del X) hr').uniq hp
  have := rings_nil.mp hz r hr'
  have h2 : isRing (sdel S X) (del f X) r = true := (isRing_iff (g.del X) hr').mpr (by
    rw [ep]
    exact ⟨⟨l, hl, del_some.mpr ⟨hno l (List.mem_of_getElem? hl), hrX, e⟩⟩, hmin⟩)
  rw [this] at h2
  cases h2

/-! ### pieces -/
def pairsAlong : List Int → List (List Int)
  | a :: b :: l => [a, b] :: pairsAlong l
  | _ => []
def ringPieces (p : List Int) : List (List Int) := if p.length % 2 = 1 then [p] else pairsAlong p
def pieces (S : List Int) (f : PF) : List (List Int) := ((lines S f).map pairsAlong).flatten ++ ((rings S f).map ringPieces).flatten
theorem pairsAlong_flat : ∀ (p : List Int), (pairsAlong p).flatten.Sublist p
  | [] => by simp [pairsAlong]
  | [a] => by simp [pairsAlong]
  | a :: b :: l => by
    show (a :: b :: (pairsAlong l).flatten).Sublist (a :: b :: l)
    exact ((pairsAlong_flat l).cons₂ b).cons₂ a
theorem ringPieces_flat (p : List Int) : (ringPieces p).flatten.Sublist p := by
  unfold ringPieces
  split
  · simp
  · exact pairsAlong_flat p
theorem flat_map_sub (h : List Int → List (List Int)) (hh : ∀ p, (h p).flatten.Sublist p) : ∀ (l : List (List Int)), ((l.map h).flatten).flatten.Sublist l.flatten
  | [] => by simp
  | p :: l => by
    rw [List.map_cons, List.flatten_cons, List.flatten_append, List.flatten_cons]
    exact (hh p).append (flat_map_sub h hh l)
theorem pieces_nodup (g : Gr S f) : (pieces S f).flatten.Nodup := by
  have h : (pieces S f).flatten.Sublist (lines S f ++ rings S f).flatten := by
    unfold pieces
    rw [List.flatten_append, List.flatten_append]
    exact (flat_map_sub _ pairsAlong_flat _).append (flat_map_sub _ ringPieces_flat _)
  exact h.nodup (all_nodup g)
theorem mem_pairsAlong : ∀ (p : List Int) (q : List Int), q ∈ pairsAlong p → ∃ (i : Nat) (x y : Int), p[i]? = some x ∧ p[i + 1]? = some y ∧ q = [x, y]
  | [], q, h => by simp [pairsAlong] at h
  | [a], q, h => by simp [pairsAlong] at h
  | a :: b :: l, q, h => by
    have h : q ∈ [a, b] :: pairsAlong l := h
    rcases List.mem_cons.mp h with e | e
    · exact ⟨0, a, b, rfl, rfl, e⟩
    · obtain ⟨i, x, y, h1, h2, h3⟩ := mem_pairsAlong l q e
      exact ⟨i + 2, x, y, h1, h2, h3⟩
theorem pieces_show (g : Gr S f) : ∀ q ∈ pieces S f, (∃ x y, q = [x, y] ∧ f x = some y) ∨ (q ∈ rings S f ∧ q.length % 2 = 1) := by
  intro q hq
  unfold pieces at hq
  rcases List.mem_append.mp hq with hq | hq
  · obtain ⟨m, hm, hqm⟩ := List.mem_flatten.mp hq
    obtain ⟨p, hp, rfl⟩ := List.mem_map.mp hm
    obtain ⟨k, hk, rfl⟩ := List.mem_map.mp hp
    obtain ⟨i, x, y, h1, h2, h3⟩ := mem_pairsAlong _ _ hqm
    exact .inl ⟨x, y, h3, (path_is g (List.mem_filter.mp hk).1).ch i x y h1 h2⟩
  · obtain ⟨m, hm, hqm⟩ := List.mem_flatten.mp hq
    obtain ⟨p, hp, rfl⟩ := List.mem_map.mp hm
    unfold ringPieces at hqm
    split at hqm
    · rename_i ho
      have : q = p := by simpa using hqm
      rw [this]
      exact .inr ⟨hp, ho⟩
    · obtain ⟨k, hk, rfl⟩ := List.mem_map.mp hp
      obtain ⟨i, x, y, h1, h2, h3⟩ := mem_pairsAlong _ _ hqm
      exact .inl ⟨x, y, h3, (path_is g (List.mem_filter.mp hk).1).ch i x y h1 h2⟩
theorem pairsAlong_sum : ∀ (p : List Int), ((pairsAlong p).map fun q => (q.length + 1) / 2).sum = p.length / 2
  | [] => rfl
  | [a] => by simp [pairsAlong]
  | a :: b :: l => by
    show (2 + 1) / 2 + ((pairsAlong l).map fun q => (q.length + 1) / 2).sum = (l.length + 1 + 1) / 2
    rw [pairsAlong_sum l]
    omega
theorem ringPieces_sum (p : List Int) : ((ringPieces p).map fun q => (q.length + 1) / 2).sum = (p.length + 1) / 2 := by
  unfold ringPieces
  split
  · simp
  · rw [pairsAlong_sum]
    omega
theorem flat_map_sum (h : List Int → List (List Int)) (n : List Int → Nat) (hh : ∀ p, ((h p).map fun q => (q.length + 1) / 2).sum = n p) : ∀ (l : List (List Int)), (((l.map h).flatten).map fun q => (q.length + 1) / 2).sum = (l.map n).sum
  | [] => by simp
  | p :: l => by
    rw [List.map_cons, List.flatten_cons, sum_map_append, hh p, flat_map_sum h n hh l, List.map_cons, List.sum_cons]
theorem pieces_sum : ((pieces S f).map fun q => (q.length + 1) / 2).sum = least S f := by
  unfold pieces least
  rw [sum_map_append, flat_map_sum _ _ pairsAlong_sum, flat_map_sum _ _ ringPieces_sum]
theorem nodup_of_flat : ∀ (l : List (List Int)), l.flatten.Nodup → (∀ p ∈ l, p ≠ []) → l.Nodup
  | [], _, _ => by simp
  | p :: l, h, hn => by
    rw [List.flatten_cons, List.nodup_append] at h
    refine List.nodup_cons.mpr ⟨fun hp => ?_, nodup_of_flat l h.2.1 fun q hq => hn q (List.mem_cons_of_mem _ hq)⟩
    cases e : p with
    | nil => exact hn p (by simp) e
    | cons a r =>
      have h1 : a ∈ p := by rw [e]; simp
      exact h.2.2 a h1 a (List.mem_flatten.mpr ⟨p, hp, h1⟩) rfl
theorem pieces_ne (g : Gr S f) : ∀ q ∈ pieces S f, q ≠ [] := by
  intro q hq
  rcases pieces_show g q hq with ⟨x, y, e, _⟩ | ⟨_, e⟩
  · rw [e]; simp
  · intro z
    rw [z] at e
    simp at e
theorem pieces_distinct (g : Gr S f) : (pieces S f).Nodup := nodup_of_flat _ (pieces_nodup g) (pieces_ne g)
theorem rings_ne (g : Gr S f) : ∀ q ∈ rings S f, q ≠ [] := by
  intro q hq
  obtain ⟨k, hk, _, rfl⟩ := (mem_rings g).mp hq
  intro z
  have := (path_is g hk).pos
  rw [z] at this
  simp at this
theorem rings_nodup (g : Gr S f) : (rings S f).flatten.Nodup := by
  have h := all_nodup g
  rw [List.flatten_append, List.nodup_append] at h
  exact h.2.1
theorem rings_distinct (g : Gr S f) : (rings S f).Nodup := nodup_of_flat _ (rings_nodup g) (rings_ne g)

/-! ### an order that passes -/
def isReady (f : PF) (done : List Int) (k : Int) : Bool := decide (k ∉ done) && (match f k with | none => true | some y => decide (y ∈ done))
def ready (S : List Int) (f : PF) (done : List Int) : List Int := S.filter (isReady f done)
theorem isReady_iff {done : List Int} {k : Int} : isReady f done k = true ↔ k ∉ done ∧ (f k = none ∨ ∃ y ∈ done, f k = some y) := by
  unfold isReady
  rw [Bool.and_eq_true, decide_eq_true_iff]
  cases e : f k with
  | none => simp
  | some y => simp
theorem ready_ne (g : Gr S f) (hr : rings S f = []) {done : List Int} (hn : done.length < S.length) (hd : done.Nodup) : ready S f done ≠ [] := by
  -- some row is not done
  obtain ⟨x, hx, hxd⟩ : ∃ x ∈ S, x ∉ done := by
    apply Classical.byContradiction
    intro q
    have := nodup_length_le g.nd (m := done) fun x hx => Classical.byContradiction fun z => q ⟨x, hx, z⟩
    omega
  have h := path_is g hx
  have o : Opens f (path S f x) := by
    rcases closes_or g h with c | o
    · obtain ⟨m, hm, hr', _⟩ := ring_of_closes g hx c
      have := rings_nil.mp hr m hm
      rw [this] at hr'
      cases hr'
    · exact o
  -- the last one on its path that is not done
  have key : ∀ (n : Nat) (i : Nat) (y : Int), (path S f x).length - i ≤ n → (path S f x)[i]? = some y → y ∉ done → ∃ z ∈ S, isReady f done z = true := by
    intro n
    induction n with
    | zero =>
      intro i y hi hy _
      have := (List.getElem?_eq_some_iff.mp hy).1
      omega
    | succ n ih =>
      intro i y hi hy hyd
      have hyS := path_sub g hx y (List.mem_of_getElem? hy)
      have hl := (List.getElem?_eq_some_iff.mp hy).1
      by_cases hj : i + 1 < (path S f x).length
      · have ez : (path S f x)[i + 1]? = some (path S f x)[i + 1] := List.getElem?_eq_getElem hj
        have e := h.ch i y _ hy ez
        by_cases hz : (path S f x)[i + 1] ∈ done
        · exact ⟨y, hyS, isReady_iff.mpr ⟨hyd, .inr ⟨_, hz, e⟩⟩⟩
        · exact ih (i + 1) _ (by omega) ez hz
      · obtain ⟨l, hl', e⟩ := o
        rw [show (path S f x).length - 1 = i by omega, hy] at hl'
        rw [← Option.some.inj hl'] at e
        exact ⟨y, hyS, isReady_iff.mpr ⟨hyd, .inl e⟩⟩
  obtain ⟨z, hz, e⟩ := key _ 0 x (Nat.le_refl _) h.hd hxd
  intro q
  have : z ∈ ready S f done := List.mem_filter.mpr ⟨hz, e⟩
  rw [q] at this
  simp at this
/-- each row waits for none, or for an earlier one -/
def Passing (f : PF) (o : List Int) : Prop := ∀ (i : Nat) (x : Int), o[i]? = some x → f x = none ∨ ∃ y ∈ o.take i, f x = some y
theorem Passing.snoc {o : List Int} {k : Int} (h : Passing f o) (hk : isReady f o k = true) : Passing f (o ++ [k]) := by
  intro i x hx
  by_cases hi : i < o.length
  · rw [List.getElem?_append_left hi] at hx
    rw [List.take_append_of_le_length (by omega)]
    exact h i x hx
  · have hl := (List.getElem?_eq_some_iff.mp hx).1
    simp at hl
    have ei : i = o.length := by omega
    subst ei
    rw [List.getElem?_append_right (Nat.le_refl _), Nat.sub_self] at hx
    have e : k = x := by simpa using hx
    subst e
    rw [List.take_append_of_le_length (Nat.le_refl _), List.take_length]
    exact (isReady_iff.mp hk).2
theorem passing_free (h : ∀ x, f x = none) (o : List Int) : Passing f o := fun _ x _ => .inl (h x)
end
theorem nodup_perm {l m : List Int} (hl : l.Nodup) (hm : m.Nodup) (hs : ∀ x ∈ l, x ∈ m) (hn : l.length = m.length) : l.Perm m := by
  induction l generalizing m with
  | nil =>
    have : m = [] := List.eq_nil_of_length_eq_zero (by simpa using hn.symm)
    rw [this]
  | cons a l ih =>
    obtain ⟨h1, h2⟩ := List.nodup_cons.mp hl
    have ha : a ∈ m := hs a (by simp)
    have hp := List.perm_cons_erase ha
    refine (List.Perm.cons a (ih h2 (hm.erase a) (fun x hx => ?_) ?_)).trans hp.symm
    · have ne : x ≠ a := fun e => h1 (e ▸ hx)
      exact (List.mem_erase_of_ne ne).mpr (hs x (List.mem_cons_of_mem _ hx))
    · rw [List.length_erase_of_mem ha]
      simp only [List.length_cons] at hn
      omega
end Rc

-- R1
set_option Elab.async false
set_option linter.all false
set_option maxRecDepth 100000
set_option maxHeartbeats 4000000
/-! Rules by positional promises: calls of defs, own __getitem__, __contains__, __len__, __add__, __sub__, properties, C( *xs), C() without __init__. -/
namespace Rw
open PySem PySem.Spec PyProof.Rows L2

/-- a method that the special look-ups find -/
structure OwnM (K : PySem.W.Frag) (C : Addr) (m : Str) (f : Addr) : Prop where
  at_ : PySem.W.findIn K (.ref C) m = some (some (.ref f))
  fn : PySem.W.isFn K (.ref f) = true
  fi : PySem.W.fnIn K f = true

section
variable {X : Cx} {CX : CXT} {k : Nat} {f C : Addr} {sp : Sp} {E : XK} {x m : Str} {e o : Expr} {es : List Expr} {te ta tb : TE} {t : TA} {p sp_ pos apos : Pos} {a b : Expr}
variable {pins : List (Addr × Obj)} {σ : L2.St} {H : Hp} {s : Shared} {Q : VK}

/-- the callee runs one level down in a builtin -/
theorem run_in1 {us : List Value} {vs : List V} (F : FnR X.prog X.w X.K X.mg X.base CX k f sp) (hr : Room (k + 1) X.A) (hx : Passes CX X E) (I : Inv X pins σ H s) (r : Vals vs us) (h : sp vs H Q E) :
    wpAny (model X.prog X.w) X.A.in1 (call (.ref f) us) (EP X pins σ Q) X.xe s := by
  refine wpAny_call (codeAny_mono (F X.A.in1 X.stack s H us vs Q E hr.in1 I.env0.in1 r h) fun z s' hq => ?_)
  cases z with
  | error er => exact hx pins σ H s er s' I hq
  | ok fl =>
    cases fl with
    | ret u => exact I.after hq
    | next => exact False.elim hq
    | brk => exact False.elim hq
    | cont => exact False.elim hq
theorem run_here {us : List Value} {vs : List V} (F : FnR X.prog X.w X.K X.mg X.base CX k f sp) (hr : Room k X.A) (hx : Passes CX X E) (I : Inv X pins σ H s) (r : Vals vs us) (h : sp vs H Q E) :
    wpAny (model X.prog X.w) X.A (call (.ref f) us) (EP X pins σ Q) X.xe s := wpAny_call (run_fnR F hr hx I r h)

/-! ### f(e, ..) -/
def tCallR (sp : Sp) (E : XK) (t : TA) : TE := fun σ H Q => t σ H fun vs H1 => sp vs H1 Q E
theorem pe_cl (F : FnR X.prog X.w X.K X.mg X.base CX k f sp) (hr : Room k X.A) (hg : Gl X x) (hm : X.mg x = some (.ref f)) (hk : PySem.W.keepIn X.K (.ref f) = true) (hx : Passes CX X E) (ha : PA X (e :: es) t)
    (hd : (x == ("__debug__" : Str)) = false := by decide) (he : starEach (e :: es) X.env = (false, eval e X.env) :: starEach es X.env := by rfl) (hp : (backTo pos (starEach es X.env)).any (·.1) = false := by rfl) :
    PE X (.Call (.Name x p) (e :: es) [] pos) (tCallR sp E t) := by
  refine ⟨fun pins s σ H Q I h => ?_⟩
  refine wpAny_Call_Name_kw (ld_glob I hg hm ?_ hd)
  exact PySem.W.callWith_K (h₀ := X.base) I.ok.mod.kin hk (thn (ha.run pos pins s σ H _ I h) fun us s1 ⟨vs, H1, I1, r, q⟩ => ⟨I1.kIn, run_here F hr hx I1 r q⟩) he hp

/-! ### f(e, .., k = v) -/
/-- a promise by positional values and keywords' values (their names ks) -/
def FnK (P : Program) (w : World) (K : PySem.W.Frag) (mg : Str → Option Value) (base : Heap) (CX : CXT) (k : Nat) (f : Addr) (ks : List Str) (sp : List V → List V → Hp → VK → XK → Prop) : Prop :=
  ∀ (A : Around) (outer : List Env) (s : Shared) (H : Hp) (us ws : List Value) (vs zs : List V) (Q : VK) (E : XK), Room k A → Env0 P w K mg base A outer s H → Vals vs us → Vals zs ws → sp vs zs H Q E →
    codeAny (model P w) A (.call (.ref f) ⟨us, ks.zip ws⟩) (CR CX outer P w H s Q E) s

/-! ### a[b] by an own __getitem__ -/
def tGetO (C : Addr) (sp : Sp) (E : XK) (ta tb : TE) : TE := fun σ H Q => ta σ H fun x H1 => tb σ H1 fun y H2 => ∃ a dx fs, x = V.ref a ∧ H2 a = some (.ins C dx fs) ∧ sp [.ref a, y] H2 Q E
theorem pe_getO (M : OwnM X.K C "__getitem__" f) (F : FnR X.prog X.w X.K X.mg X.base CX k f sp) (hr : Room (k + 1) X.A) (hx : Passes CX X E) (ha : PE X a ta) (hb : PE X b tb)
    (hs : ∀ o i, subscripted b true o i = runValue (.builtin "lifetime.subscript" ⟨[o, i], []⟩) := by exact fun _ _ => rfl) : PE X (.Subscript a b pos) (tGetO C sp E ta tb) := by
  refine ⟨fun pins s σ H Q I h => ?_⟩
  refine Subscript_ (thn (ha.run pins s σ H _ I h) fun v s1 ⟨x, H1, I1, r1, q1⟩ => thn (hb.run pins s1 σ H1 _ I1 q1) fun u s2 ⟨y, H2, I2, r2, ad, dx, fs, ex, ea, q⟩ => ?_)
  subst ex
  obtain rfl : v = Value.ref ad := r1
  obtain ⟨mm, hF⟩ := I2.fr
  obtain ⟨mA, O, _⟩ := ins_get I2.hok ea
  obtain ⟨od, J, _⟩ := O.look
  exact PySem.W.sub_K hF I2.mod.kin J M.at_ M.fi M.fn (run_in1 (vs := [.ref ad, y]) F hr hx I2 (.cons rfl (.cons r2 .nil)) q) (hs _ _)

/-! ### a in b, a not in b by an own __contains__ -/
def rInO (C : Addr) (sp : Sp) (E : XK) (neg : Bool) : R2 := fun x y H Q => ∃ a dx fs, y = V.ref a ∧ H a = some (.ins C dx fs) ∧ sp [.ref a, x] H (fun v H' => ∃ c, v = .bl c ∧ Q (.bl (if neg = true then !c else c)) H') E
theorem op_inO (M : OwnM X.K C "__contains__" f) (F : FnR X.prog X.w X.K X.mg X.base CX k f sp) (hr : Room k X.A) (hx : Passes CX X E) : OpR X (compareOp .In) (rInO C sp E false) := by
  intro pins s σ H x y v u Q I rx ry h
  obtain ⟨ad, dx, fs, ey, ea, q⟩ := h
  subst ey
  obtain rfl : u = Value.ref ad := ry
  obtain ⟨mm, hF⟩ := I.fr
  obtain ⟨mA, O, _⟩ := ins_get I.hok ea
  obtain ⟨od, J, _⟩ := O.look
  refine PySem.W.in_K hF I.mod.kin J M.at_ M.fn (thn (run_here (vs := [.ref ad, x]) F hr hx I (.cons rfl (.cons rx .nil)) q) fun r s1 ⟨v', H1, I1, rv, c, ec, q1⟩ => ?_)
  subst ec
  obtain rfl : r = Value.bool c := rv
  exact wpAny_truthy_bool ⟨.bl c, H1, I1, rfl, q1⟩

theorem op_notInO (M : OwnM X.K C "__contains__" f) (F : FnR X.prog X.w X.K X.mg X.base CX k f sp) (hr : Room k X.A) (hx : Passes CX X E) : OpR X (compareOp .NotIn) (rInO C sp E true) := by
  intro pins s σ H x y v u Q I rx ry h
  obtain ⟨ad, dx, fs, ey, ea, q⟩ := h
  subst ey
  obtain rfl : u = Value.ref ad := ry
  obtain ⟨mm, hF⟩ := I.fr
  obtain ⟨mA, O, _⟩ := ins_get I.hok ea
  obtain ⟨od, J, _⟩ := O.look
  refine PySem.W.notIn_K hF I.mod.kin J M.at_ M.fn (thn (run_here (vs := [.ref ad, x]) F hr hx I (.cons rfl (.cons rx .nil)) q) fun r s1 ⟨v', H1, I1, rv, c, ec, q1⟩ => ?_)
  subst ec
  obtain rfl : r = Value.bool c := rv
  exact wpAny_truthy_bool ⟨.bl (!c), H1, I1, rfl, q1⟩

/-! ### len(a) by an own __len__ -/
def rLenO (C : Addr) (sp : Sp) (E : XK) : List V → Hp → VK → Prop := fun xs H Q => ∃ a dx fs, xs = [V.ref a] ∧ H a = some (.ins C dx fs) ∧ sp [.ref a] H (fun v H' => ∃ n : Int, v = .int n ∧ 0 ≤ n ∧ n < 2 ^ 63 ∧ Q (.int n) H') E
theorem call_lenO (M : OwnM X.K C "__len__" f) (F : FnR X.prog X.w X.K X.mg X.base CX k f sp) (hr : Room (k + 1) X.A) (hx : Passes CX X E) : CallR X (.builtin "len") (rLenO C sp E) := by
  intro pins s σ H xs us Q I r h
  obtain ⟨ad, dx, fs, rfl, ea, q⟩ := h
  rw [Vals.ref1 r]
  obtain ⟨mm, hF⟩ := I.fr
  obtain ⟨mA, O, _⟩ := ins_get I.hok ea
  obtain ⟨od, J, _⟩ := O.look
  refine PySem.W.len_K hF I.mod.kin J M.at_ M.fn (thn (run_in1 (vs := [.ref ad]) (us := [.ref ad]) F hr hx I (.cons rfl .nil) q) fun r s1 ⟨v', H1, I1, rv, n, en, h0, h1, q1⟩ => ?_)
  subst en
  obtain ⟨tk, rfl⟩ := rv
  exact ⟨⟨h0, h1⟩, .int n, H1, I1.tok _, ⟨_, rfl⟩, q1⟩

/-! ### a op b by an own method, b a tuple -/
theorem fills_no {K : PySem.W.Frag} {M : Model} {h : Heap} {nm T : String} {fo ro : Option Value} (Y : K.In h) (h1 : PySem.W.findIn K (.type T) (PySem.dunder nm) = some fo) (h2 : PySem.W.findIn K (.type T) (dunderR nm) = some ro)
    (h3 : ((fo.isSome && !isSeqSlot fo) || (ro.isSome && !isSeqSlot ro)) = false) : PySem.W.Looks M h (fillsNumberSlot (.type T) nm) false := by
  have z := PySem.W.ksp_fillsT (M := M) Y h1 h2
  rw [h3] at z
  exact z
theorem binop_left {op : Operator} {L : Addr} {h₀ : Heap} {mm : Str → Option Value} {ox : Obj} {od : Option Obj} {y : Addr} {K : PySem.W.Frag} {P : Program} {w : World} {A : Around} {E : Value → Shared → Prop} {s : Shared} {bv : Value} {tb : Value} {Q : Value → Shared → Prop}
    (F : Fr h₀ L s.heap mm) (Y₀ : K.In h₀) (J : PySem.W.InstAt s.heap y ox C od) (hb : PySem.W.Looks (model P w) s.heap (typeOf bv) tb) (hne : (Value.ref C == tb) = false) (hfl : PySem.W.Looks (model P w) s.heap (fillsNumberSlot tb op.info.2) false)
    (hc : PySem.W.selfFirst K C = true) (hs : PySem.W.findIn K (.ref C) (PySem.dunder op.info.2) = some (some (.ref f))) (hf : PySem.W.isFn K (.ref f) = true)
    (h : wpAny (model P w) A (call (.ref f) [.ref y, bv]) (PySem.W.CmpBack Q) E s) : wpAny (model P w) A (binaryOp op (.ref y) bv) Q E s := by
  have Y := Y₀.keeps F.keep
  obtain ⟨cd, rest, hcd, hm⟩ := PySem.W.ksp_first hc
  unfold binaryOp
  refine wpAny_holding (wpAny_bind ?_)
  unfold binaryOp1
  refine wpAny_bind (J.type.here (wpAny_bind (hb.here (wpAny_bind ((PySem.W.fills_K Y hcd hm hs).here ?_)))))
  simp only [hne, Bool.false_eq_true, if_false]
  refine wpAny_bind (hfl.here ?_)
  simp only [Bool.and_false, Bool.false_eq_true, if_false, Bool.false_and]
  refine wpAny_bind (wpAny_pure ?_)
  simp only [Bool.false_eq_true, if_false]
  refine wpAny_bind (m := tryMethod (.ref y) _ bv) ?_
  unfold tryMethod
  refine wpAny_bind (PySem.W.special_fn Y J hs (beq_iff_eq.mp hf) (wpAny_mono h (fun v s' hv => ?_) fun _ _ e => e))
  cases v <;> first | exact hv.elim | exact wpAny_pure (wpAny_pure (wpAny_pure hv))
/-- the promise's value is an object -/
def rBinO (K : PySem.W.Frag) (C : Addr) (sp : Sp) (E : XK) : R2 := fun x y H Q => ∃ a dx fs b xs, x = V.ref a ∧ y = V.ref b ∧ H a = some (.ins C dx fs) ∧ SqT K H b xs ∧ sp [.ref a, .ref b] H (fun v H' => ∃ c, v = .ref c ∧ Q v H') E
theorem op_binO {op : Operator} {fo ro : Option Value} (hs : PySem.W.findIn X.K (.ref C) (PySem.dunder op.info.2) = some (some (.ref f))) (hf : PySem.W.isFn X.K (.ref f) = true) (hc : PySem.W.selfFirst X.K C = true)
    (h1 : PySem.W.findIn X.K (.type "tuple") (PySem.dunder op.info.2) = some fo) (h2 : PySem.W.findIn X.K (.type "tuple") (dunderR op.info.2) = some ro) (h3 : ((fo.isSome && !isSeqSlot fo) || (ro.isSome && !isSeqSlot ro)) = false)
    (F : FnR X.prog X.w X.K X.mg X.base CX k f sp) (hr : Room k X.A) (hx : Passes CX X E) : OpR X (binaryOp op) (rBinO X.K C sp E) := by
  intro pins s σ H x y v u Q I rx ry h
  obtain ⟨ad, dx, fs, bd, xs, ex, ey, ea, hT, q⟩ := h
  subst ex ey
  obtain rfl : v = Value.ref ad := rx
  obtain rfl : u = Value.ref bd := ry
  obtain ⟨mm, hF⟩ := I.fr
  obtain ⟨mA, O, _⟩ := ins_get I.hok ea
  obtain ⟨od, J, _⟩ := O.look
  obtain ⟨its, rv, ⟨o, ho, hcl, n, hd⟩, _⟩ := I.tuple hT
  have hb : PySem.W.Looks (model X.prog X.w) s.heap (typeOf (.ref bd)) (.type "tuple") := by
    rw [← hcl]
    exact (PySem.W.Looks.ld ho).andThen .now
  refine binop_left (tb := .type "tuple") hF I.mod.kin J hb rfl (fills_no I.kIn h1 h2 h3) hc hs hf (thn (run_here (vs := [.ref ad, .ref bd]) F hr hx I (.cons rfl (.cons rfl .nil)) q) fun r s1 ⟨v', H1, I1, rv, c, ec, q1⟩ => ?_)
  subst ec
  obtain rfl : r = Value.ref c := rv
  exact ⟨.ref c, H1, I1, rfl, q1⟩

/-! ### e.f, a property -/
def tPropR (C : Addr) (sp : Sp) (E : XK) (ta : TE) : TE := fun σ H Q => ta σ H fun x H1 => ∃ a dx fs, x = .ref a ∧ H1 a = some (.ins C dx fs) ∧ sp [.ref a] H1 Q E
theorem pe_propR {pa g : Addr} {fn : Str} (he : PE X e ta) (c : Cls X.K C) (hp : PropOf X.K C fn pa g) (F : FnR X.prog X.w X.K X.mg X.base CX k g sp) (hr : Room (k + 1) X.A) (hx : Passes CX X.nox E)
    (hab : attributeBase e fn X.env (eval e X.env) = eval e X.env) : PE X (.Attribute e fn pos) (tPropR C sp E ta) := by
  refine ⟨fun pins s σ H Q I h => ?_⟩
  refine attr_of hab (thn (he.run pins s σ H _ I h) fun u s1 ⟨x, H1, I1, rx, ad, dx, fs, ex, ea, q⟩ => ?_)
  subst ex
  obtain rfl : u = Value.ref ad := rx
  obtain ⟨mA, O, _⟩ := ins_get I1.hok ea
  obtain ⟨od, J, _⟩ := O.look
  obtain ⟨rest, hrec⟩ := hp.rec_
  have I2 := I1.tok (s1.toks + 1)
  have hc : (PySem.W.clsIn X.K C).isSome = true := by
    obtain ⟨cd, hc, _⟩ := PySem.W.any_some c.hd
    rw [hc]
    rfl
  refine PySem.W.get_bind I1.kIn J (PySem.W.plainGet_of (c.get fn)).1 (PySem.W.findObj_data hc hp.at_ hp.get hp.tak) (PySem.W.plainGet_of (c.get fn)).2 (wpAny_call (PySem.W.prop_get (s := { s1 with toks := s1.toks + 1 }) I1.kIn hrec ?_))
  refine codeAny_mono (F X.A.in1 X.stack { s1 with toks := s1.toks + 1 } H1 [.ref ad] [.ref ad] Q E hr.in1 I2.env0.in1 (.cons rfl .nil) q) fun z s' hq => ?_
  cases z with
  | error er => exact False.elim (hx pins σ H1 { s1 with toks := s1.toks + 1 } er s' (I2.wish _) hq)
  | ok fl =>
    cases fl with
    | ret u' =>
      obtain ⟨v', H3, I3, rv, q3⟩ := I2.after hq
      show wpAny _ _ (handedOut u') _ _ _
      rw [PySem.W.handedOut_of (handed_of rv)]
      exact wpAny_pure ⟨v', H3, I3, rv, q3⟩
    | next => exact False.elim hq
    | brk => exact False.elim hq
    | cont => exact False.elim hq

/-! ### C( *y), C() -/
theorem pe_makeS {fi : Addr} (M : Mk X.K C fi) (F : FnR X.prog X.w X.K X.mg X.base CX k fi sp) (hr : Room (k + 1) X.A) (hg : Gl X x) (hm : X.mg x = some (.ref C)) (hx : Passes CX X E) (he : PE X e te) (hd : (x == ("__debug__" : Str)) = false := by decide)
    (hst : starEach [.Starred e sp_] X.env = [(true, eval e X.env)] := by rfl) :
    PE X (.Call (.Name x p) [.Starred e sp_] [] pos) (fun σ H Q => te σ H fun y H1 => ∃ ad xs, y = V.ref ad ∧ (SqT X.K H1 ad xs ∨ SqL X.K H1 ad xs) ∧
      ∀ z dx, H1 z = none → H1 dx = none → dx ≠ z → sp (V.ref z :: xs) (upd (upd H1 dx (.own z)) z (.ins C dx [])) (fun v H2 => v = .non ∧ Q (.ref z) H2) E) := by
  refine ⟨fun pins s σ H Q I h => ?_⟩
  refine wpAny_Call_Name_kw (ld_glob I hg hm ?_ hd)
  refine PySem.W.callWith_S (h₀ := X.base) I.ok.mod.kin M.kp (thn (he.run pins s σ H _ I h) fun v s1 ⟨y, H1, I1, ry, ad, xs, ey, hxs, q⟩ => ?_) hst
  subst ey
  obtain rfl : v = Value.ref ad := ry
  exact StX.star_any I1 hxs fun us s2 I2 rv => ⟨I2.kIn, StX.run_makeR M F hr hx I2 rv q⟩
theorem pe_makeR0 {fi : Addr} (M : Mk X.K C fi) (F : FnR X.prog X.w X.K X.mg X.base CX k fi sp) (hr : Room (k + 1) X.A) (hg : Gl X x) (hm : X.mg x = some (.ref C)) (hx : Passes CX X E) (hd : (x == ("__debug__" : Str)) = false := by decide) :
    PE X (.Call (.Name x p) [] [] pos) (StX.tMakeR C sp E tNil) := by
  refine ⟨fun pins s σ H Q I h => ?_⟩
  refine wpAny_Call_Name_kw (ld_glob I hg hm ?_ hd)
  exact PySem.W.callWith_K0 I.kIn M.kp (StX.run_makeR (us := []) M F hr hx I .nil h)

/-- a class without an own __init__ -/
structure Mk0 (K : PySem.W.Frag) (C : Addr) : Prop where
  makes : PySem.W.makesIn K C = true
  init : PySem.W.findIn K (.ref C) "__init__" = some (some (.builtin "object.__init__"))
  kp : PySem.W.keepIn K (.ref C) = true
theorem pe_new0 (M : Mk0 X.K C) (hg : Gl X x) (hm : X.mg x = some (.ref C)) (hd : (x == ("__debug__" : Str)) = false := by decide) :
    PE X (.Call (.Name x p) [] [] pos) (fun σ H Q => ∀ z dx, H z = none → H dx = none → dx ≠ z → Q (.ref z) (upd (upd H dx (.own z)) z (.ins C dx []))) := by
  refine ⟨fun pins s σ H Q I h => ?_⟩
  refine wpAny_Call_Name_kw (ld_glob I hg hm ?_ hd)
  refine PySem.W.callWith_K0 I.kIn M.kp (wpAny_call ?_)
  have hq := h (s.heap.objs.size + 1) s.heap.objs.size (I.hok.fresh (Nat.le_succ _)) (I.hok.fresh (Nat.le_refl _)) (Nat.ne_of_lt (Nat.lt_succ_self _))
  have I2 := Inv.made (C := C) I
  refine make_map0 I.kIn M.makes M.init (fun self => PySem.W.Looks.of_pure (PySem.W.oi_bind self)) ?_
  have Y := PySem.W.makes_of (M := model X.prog X.w) I.kIn M.makes
  have e2 : ((s.heap.push PySem.W.emptyDict).push (PySem.W.instObj C s.heap.objs.size)).get? (s.heap.objs.size + 1) = some (PySem.W.instObj C s.heap.objs.size) := by
    have := Heap.get?_push_size (s.heap.push PySem.W.emptyDict) (o := PySem.W.instObj C s.heap.objs.size) rfl
    rwa [Heap.size_push] at this
  have t1 : PySem.W.Looks (model X.prog X.w) ((s.heap.push PySem.W.emptyDict).push (PySem.W.instObj C s.heap.objs.size)) (typeOf (.ref (s.heap.objs.size + 1))) (.ref C) := (PySem.W.Looks.ld e2).andThen .now
  have t2 : PySem.W.Looks (model X.prog X.w) ((s.heap.push PySem.W.emptyDict).push (PySem.W.instObj C s.heap.objs.size)) (isInstance (.ref (s.heap.objs.size + 1)) (.type "object")) true :=
    t1.andThen (Y.top.keeps fun b o e => Heap.get?_push_of_some _ (Heap.get?_push_of_some _ e))
  refine codeAny_call_builtin PySem.W.oi_plain PySem.W.entry_oi (@PySem.W.check_slot (model X.prog X.w) _ _ _ "object.__init__" "object" "__init__" (.ref (s.heap.objs.size + 1)) [] [] _ PySem.W.oi_kind PySem.W.oi_split t2 (PySem.W.oi_args (.ref (s.heap.objs.size + 1))) ?_)
  rw [PySem.W.oi_run]
  exact wpAny_pure ⟨rfl, V.ref (s.heap.objs.size + 1), _, I2, rfl, hq⟩
end
end Rw

-- R2
set_option Elab.async false
set_option linter.all false
set_option maxRecDepth 100000
set_option maxHeartbeats 4000000
/-! sorted(y) of data, y a list, a tuple or a set of tuples of ints. -/
namespace Rw
open PySem PySem.Spec PyProof.Rows L2

mutual
/-- no list or dict in it -/
def noL : PyData → Bool
  | .list _ => false
  | .dict _ => false
  | .tuple xs => noLs xs
  | .none => true
  | .bool _ => true
  | .int _ => true
  | .str _ => true
def noLs : List PyData → Bool
  | [] => true
  | x :: xs => noL x && noLs xs
end
mutual
theorem reads_noL {h : Heap} : ∀ (d : PyData) (v : Value) (as : List Addr), noL d = true → Reads h v d as → as = []
  | .none, _, _, _, r => by cases r; rfl
  | .bool _, _, _, _, r => by cases r; rfl
  | .int _, _, _, _, r => by cases r; rfl
  | .str _, _, _, _, r => by cases r; rfl
  | .list _, _, _, n, _ => by simp [noL] at n
  | .dict _, _, _, n, _ => by simp [noL] at n
  | .tuple xs, _, _, n, r => by
    cases r with
    | tuple h1 h2 h3 h4 => exact readsAll_noL xs _ _ (by simpa [noL] using n) h4
theorem readsAll_noL {h : Heap} : ∀ (ds : List PyData) (vs : List Value) (as : List Addr), noLs ds = true → ReadsAll h vs ds as → as = []
  | [], _, _, _, r => by cases r; rfl
  | d :: ds, _, _, n, r => by
    have n' : noL d = true ∧ noLs ds = true := by simpa [noLs] using n
    cases r with
    | cons h1 h2 => rw [reads_noL d _ _ n'.1 h1, readsAll_noL ds _ _ n'.2 h2]; rfl
end

/-! ### a new object where nothing is -/
theorem hok_get {P : Program} {w : World} {H : Hp} {h : Heap} {a : Addr} {o : HO} (x : ObjOk P w H h a o) : ∃ u, h.get? a = some u := by
  cases o with
  | lst xs => obtain ⟨_, _, _, _, e⟩ := x; exact ⟨_, e⟩
  | tup xs => obtain ⟨_, _, _, o, e, _⟩ := x; exact ⟨_, e⟩
  | dK kvs => obtain ⟨_, _, _, _, o, _, _, e, _⟩ := x; exact ⟨_, e⟩
  | dT kvs => obtain ⟨_, _, _, _, o, _, _, e, _⟩ := x; exact ⟨_, e⟩
  | set S n => obtain ⟨o, _, _, _, e, _⟩ := x; exact ⟨_, e⟩
  | ins C dx fs => obtain ⟨_, _, _, e, _⟩ := x; exact ⟨_, e⟩
  | own y => exact x
  | xd fs => obtain ⟨_, ⟨_, _, _, e, _⟩, _⟩ := x; exact ⟨_, e⟩
  | rng lo hi => obtain ⟨_, _, _, e⟩ := x; exact ⟨_, e⟩
  | frz ob u => obtain ⟨e, _⟩ := x; exact ⟨_, e⟩
  | tbl ps => exact ⟨_, show h.get? a = some _ from x⟩
  | met f y => exact ⟨_, show h.get? a = some _ from x⟩
  | ext φ => obtain ⟨_, q, _⟩ := x; exact q
section
variable {X : Cx} {pins : List (Addr × Obj)} {σ : L2.St} {H : Hp} {s s' : Shared} {p : Addr} {o : HO}
theorem free_at (I : Inv X pins σ H s) (k : ∀ b u, s.heap.get? b = some u → s'.heap.get? b = some u) (hp : s.heap.get? p = none) : H p = none := by
  cases e : H p with
  | none => rfl
  | some u =>
    obtain ⟨v, hv⟩ := hok_get (I.hok p u e)
    rw [hp] at hv
    cases hv
/-- a new object is laid at an address where none was; the rest of the state but the clock stays -/
theorem laid_at (I : Inv X pins σ H s) (k : ∀ b u, s.heap.get? b = some u → s'.heap.get? b = some u) (hp : s.heap.get? p = none) (g : s'.gens = s.gens) (os : s'.os = s.os) (new : ObjOk X.prog X.w (upd H p o) s'.heap p o) :
    Inv X pins σ (upd H p o) s' := by
  have hn := free_at I k hp
  have ne : ∀ b u, s.heap.get? b = some u → b ≠ p := fun b u e z => by
    rw [z, hp] at e
    cases e
  have un : Un (frs X.stack) [] H (upd H p o) s.heap s'.heap := ⟨fun b u q _ _ _ => k b u q, fun b u q _ _ _ => ⟨u.slots, k b u q⟩, fun b u q n _ => by rw [upd_ne (ne b u q)]; exact n, fun b u q _ => ⟨u, k b u q⟩,
    fun b xs q => by rw [upd_ne (ne_of_none q hn)]; exact q, fun b u xs q => by rw [upd_ne (ne_of_none q hn)]; exact q, fun b ps q => ⟨#[], by rw [upd_ne (ne_of_none q hn), q]; simp⟩⟩
  have hk : HOk X.prog X.w (upd H p o) s'.heap := fun b u e => by
    by_cases hb : b = p
    · subst hb
      rw [upd_same] at e
      cases e
      exact new
    · rw [upd_ne hb] at e
      exact (I.hok b u e).stay (fun c v _ q => k c v q) (fun c q => by rw [upd_ne (ne_of_none q hn)]; exact q) fun c xs q => by rw [upd_ne (ne_of_none q hn)]; exact q
  have J : Inv X pins σ (upd H p o) { s with heap := s'.heap, gens := s'.gens, drawn := s'.drawn, toks := s'.toks } := I.call (ch := []) un hk (by rw [g]; exact I.bare) (fun _ z => nomatch z)
  have e : s' = { s with heap := s'.heap, gens := s'.gens, drawn := s'.drawn, toks := s'.toks } := by
    cases s'
    cases s
    cases os
    rfl
  rw [e]
  exact J
end

section
variable {prog : Program} {w : World} {A : Around} {E : Value → Shared → Prop} {s : Shared} {β : Type} {enc : β → PyData} {R : Value → β → Prop} {bs0 : List β}
open PySem.W in
theorem sorted_src {src : Addr} {Q : Value → Shared → Prop}
    (hcol : ∀ Q' : List Value → Shared → Prop, (∀ (vs : List Value) (s1 : Shared) (bs : List β), (∀ b o, s.heap.get? b = some o → s1.heap.get? b = some o) → s1.gens = s.gens → s1.os = s.os → EachIs R vs bs → bs.Perm bs0 → Q' vs s1) →
      wpAny (model prog w) A.in1 (collect (.ref src)) Q' E s)
    (hread : ∀ v b, R v b → b ∈ bs0 → ∃ as, Reads s.heap v (enc b) as) (hno : ∀ b ∈ bs0, noL (enc b) = true) (hal : AllAlike (bs0.map enc)) (hk : Sortable (bs0.map enc)) (hL : bs0.length ≤ sizeLine)
    (hu : ∀ b, b ∈ bs0 → A.units + 2 + (enc b).depth < cLine)
    (h : ∀ (s' : Shared) (p : Addr) (out : Array Value) (c : Nat) (bs : List β), (∀ b o, s.heap.get? b = some o → s'.heap.get? b = some o) → s'.gens = s.gens → s'.os = s.os → s.heap.get? p = none → s'.heap.get? p = some (seqObj "list" out c) → bs.Perm bs0 →
      EachIs R out.toList (bs.mergeSort (dataLe false enc)) → Q (.ref p) s') : wpAny (model prog w) A (call (.builtin "sorted") [.ref src]) Q E s := by
  refine Calls.call_function_entry kind_sorted plain_sorted entry_sorted (args_sorted1 _) ?_
  unfold Builtin.«sorted»
  refine wpAny_bind (m := checkCount "sorted" 1 1 _) (wpAny_pure ?_)
  refine wpAny_bind (hcol _ fun vs s1 bs k1 g1 o1 e pm => ?_)
  have hlen : vs.length ≤ sizeLine := by rw [e.length, pm.length_eq]; exact hL
  refine wpAny_bind (wpAny_newList ?_ hlen)
  have hoL : (s1.heap.push (seqObj "list" vs.toArray 0)).get? s1.heap.objs.size = some (seqObj "list" vs.toArray 0) := Heap.get?_push_size _ rfl
  have mem : ∀ {d}, d ∈ bs.map enc → d ∈ bs0.map enc := fun hd => ((pm.map enc).mem_iff).mp hd
  have er : EachIs (fun v b => ∃ as, Reads (s1.heap.push (seqObj "list" vs.toArray 0)) v (enc b) as ∧ s1.heap.objs.size ∉ as) vs bs := by
    refine (each_mem e).mono fun v b ⟨hr, hb⟩ => ?_
    have hb0 : b ∈ bs0 := pm.mem_iff.mp hb
    obtain ⟨as, ha⟩ := hread v b hr hb0
    have := reads_noL _ _ _ (hno b hb0) ha
    subst this
    exact ⟨[], PyProof.Rows.Reads.keeps (fun b u e => Heap.get?_push_of_some _ (k1 b u e)) ha, by simp⟩
  have tl := list_sort_data (prog := prog) (w := w) (A := A.in1) (E := E) (s := { s1 with heap := s1.heap.push (seqObj "list" vs.toArray 0) }) (a := s1.heap.objs.size) (n := 0) (vs := vs) (bs := bs) (enc := enc) (R := R) (Q := fun r s' => r = .none ∧ Q (.ref s1.heap.objs.size) s')
    hoL e er (fun d hd d' hd' => hal d (mem hd) d' (mem hd')) (hk.elim (fun q => .inl fun d hd => q d (mem hd)) fun q => .inr fun d hd => q d (mem hd)) (by rw [pm.length_eq]; exact hL)
    (fun b hb => by have := hu b (pm.mem_iff.mp hb); show A.units + 1 + 1 + (enc b).depth < cLine; omega) fun out ho eo => ?_
  · refine wpAny_bind (wpAny_holding (wpAny_mono tl (fun r s' hr => ?_) fun _ _ z => z))
    exact wpAny_pure ⟨_, rfl, hr.2⟩
  · obtain ⟨c, hc⟩ := sortedHeap_at (vs := vs) (out := out.toArray) hoL
    have hz : s.heap.get? s1.heap.objs.size = none := by
      cases e : s.heap.get? s1.heap.objs.size with
      | none => rfl
      | some u => exact absurd (Heap.lt_size (k1 _ _ e)) (Nat.lt_irrefl _)
    refine ⟨rfl, h _ s1.heap.objs.size out.toArray c bs (fun b u q => ?_) g1 o1 hz hc pm (by simpa using eo)⟩
    have q1 := k1 b u q
    have hlt := Heap.lt_size q1
    show (sortedHeap (s1.heap.push (seqObj "list" vs.toArray 0)) s1.heap.objs.size vs out.toArray).get? b = some u
    rw [sortedHeap_old (Nat.ne_of_lt hlt) (by rw [size_push']; exact Nat.lt_succ_of_lt hlt)]
    exact Heap.get?_push_of_some _ q1
end

/-! ### over the abstract heap -/
theorem dp_cons {K : PySem.W.Frag} {H : Hp} {v : V} {vs : List V} {d : PyData} {ds : List PyData} (h : DpAll K H (v :: vs) (d :: ds)) : Dp K H v d ∧ DpAll K H vs ds := by
  cases h with
  | cons a b => exact ⟨a, b⟩
theorem dpAll_zip {K : PySem.W.Frag} {H : Hp} : ∀ {vs : List V} {ds : List PyData}, DpAll K H vs ds → vs.length = ds.length ∧ ∀ z ∈ vs.zip ds, Dp K H z.1 z.2
  | [], [], _ => ⟨rfl, fun z hz => by simp at hz⟩
  | [], _ :: _, h => by cases h
  | _ :: _, [], h => by cases h
  | v :: vs, d :: ds, h => by
    obtain ⟨a, b⟩ := dp_cons h
    obtain ⟨hl, hz⟩ := dpAll_zip b
    refine ⟨by simp [hl], fun z hm => ?_⟩
    rcases List.mem_cons.mp hm with e | e
    · rw [e]; exact a
    · exact hz z e
theorem dpAll_of_zip {K : PySem.W.Frag} {H : Hp} : ∀ {zs : List (V × PyData)}, (∀ z ∈ zs, Dp K H z.1 z.2) → DpAll K H (zs.map Prod.fst) (zs.map Prod.snd)
  | [], _ => .nil
  | z :: zs, h => .cons (h z (by simp)) (dpAll_of_zip fun y hy => h y (List.mem_cons_of_mem _ hy))

section
variable {X : Cx} {pins : List (Addr × Obj)} {σ : L2.St} {H : Hp} {s : Shared}
/-- sorted(y): what is asked, whatever y is -/
def SortGo (K : PySem.W.Frag) (H : Hp) (ds : List PyData) (Q : VK) : Prop :=
  PySem.W.AllAlike ds ∧ PySem.W.Sortable ds ∧ ds.length ≤ sizeLine ∧ (∀ d ∈ ds, noL d = true ∧ d.depth ≤ 8) ∧
  ∀ p ys es, H p = none → DpAll K H ys es → es.Perm ds → es.Pairwise (fun a b => PySem.W.dataLt b a = false) → Q (.ref p) (upd H p (.lst ys))
/-- the list comes: the items by their data, in some order -/
theorem sort_fin (hu : X.A.units + 64 < cLine) (I : Inv X pins σ H s) {zs : List (V × PyData)} {ds : List PyData} {Q : VK} {src : Addr} (ez : zs.map Prod.snd = ds) (hz : ∀ z ∈ zs, Dp X.K H z.1 z.2) (h : SortGo X.K H ds Q)
    (hcol : ∀ Q' : List Value → Shared → Prop, (∀ (vs : List Value) (s1 : Shared) (bs : List (V × PyData)), (∀ b o, s.heap.get? b = some o → s1.heap.get? b = some o) → s1.gens = s.gens → s1.os = s.os → PySem.W.EachIs (fun v (b : V × PyData) => RelV b.1 v) vs bs → bs.Perm zs → Q' vs s1) →
      wpAny (model X.prog X.w) X.A.in1 (collect (.ref src)) Q' X.xe s) :
    wpAny (model X.prog X.w) X.A (call (.builtin "sorted") [.ref src]) (EP X pins σ Q) X.xe s := by
  obtain ⟨h1, h2, h3, h4, q⟩ := h
  subst ez
  have hm : ∀ z ∈ zs, z.2 ∈ zs.map Prod.snd := fun z hz => List.mem_map.mpr ⟨z, hz, rfl⟩
  refine sorted_src (β := V × PyData) (enc := Prod.snd) (R := fun v b => RelV b.1 v) (bs0 := zs) hcol (fun v b r hb => ?_) (fun b hb => (h4 _ (hm b hb)).1) h1 h2 (by simpa using h3) (fun b hb => ?_) fun s' p out c bs k g o hp ho pm eo => ?_
  · exact Dp.reads I b.2 b.1 v (hz b hb) r
  · have := (h4 _ (hm b hb)).2
    omega
  · have hn : H p = none := free_at I k hp
    have hv : ∀ {us : List Value} {ws : List (V × PyData)}, PySem.W.EachIs (fun v (b : V × PyData) => RelV b.1 v) us ws → Vals (ws.map Prod.fst) us := by
      intro us ws e
      induction e with
      | nil => exact .nil
      | cons a _ ih => exact .cons a ih
    have pm2 : (bs.mergeSort (PySem.W.dataLe false Prod.snd)).Perm zs := (List.mergeSort_perm _ _).trans pm
    have hlen : ((bs.mergeSort (PySem.W.dataLe false Prod.snd)).map Prod.fst).length ≤ sizeLine := by
      rw [List.length_map, pm2.length_eq]
      simpa using h3
    have J := laid_at (o := .lst ((bs.mergeSort (PySem.W.dataLe false Prod.snd)).map Prod.fst)) I k hp g o ⟨hlen, out.toList, c, hv eo, by simpa using ho⟩
    refine ⟨.ref p, _, J, rfl, q p _ ((bs.mergeSort (PySem.W.dataLe false Prod.snd)).map Prod.snd) hn (dpAll_of_zip fun z hz' => hz z (pm2.mem_iff.mp hz')) (pm2.map _) ?_⟩
    rw [List.pairwise_map]
    refine (PySem.W.sort_pairwise (PySem.W.sortLe_total _ false _) bs).imp fun {a b} hab => ?_
    have hab : (!PySem.W.dataLt b.2 a.2) = true := hab
    simpa using hab

/-- sorted(y), y a list | a tuple of data -/
def rSortD (K : PySem.W.Frag) : List V → Hp → VK → Prop := fun vs H Q => ∃ (a : Addr) (xs : List V) (ds : List PyData), vs = [.ref a] ∧ (SqL K H a xs ∨ SqT K H a xs) ∧ DpAll K H xs ds ∧ SortGo K H ds Q
theorem each_of_vals : ∀ {zs : List (V × PyData)} {us : List Value}, Vals (zs.map Prod.fst) us → PySem.W.EachIs (fun v (b : V × PyData) => RelV b.1 v) us zs
  | [], _, .nil => .nil
  | z :: zs, _, .cons r t => .cons r (each_of_vals t)
theorem cr_sortD (hu : X.A.units + 64 < cLine) : CallR X (.builtin "sorted") (rSortD X.K) := by
  intro pins s σ H xs us Q I r h
  obtain ⟨a, xs, ds, rfl, hs, hd, h⟩ := h
  rw [Vals.ref1 r]
  obtain ⟨hl, hz⟩ := dpAll_zip hd
  have e1 : (xs.zip ds).map Prod.fst = xs := List.map_fst_zip (by omega)
  have e2 : (xs.zip ds).map Prod.snd = ds := List.map_snd_zip (by omega)
  refine sort_fin hu I e2 hz h fun Q' hQ => ?_
  have fin : ∀ {its : List Value} {T : String} (hT : T = "list" ∨ T = "tuple") {o : Obj} {n : Nat}, Vals xs its → s.heap.get? a = some o → o.cls = .type T → o.data = .seq its.toArray n → its.length ≤ sizeLine → wpAny (model X.prog X.w) X.A.in1 (collect (.ref a)) Q' X.xe s := by
    intro its T hT o n rv ho hc hdt hz'
    refine wpAny_collect_seq a hT ho hc hdt (fun h' hk => ?_) (by simpa using hz')
    exact hQ _ _ (xs.zip ds) hk rfl rfl (each_of_vals (by rw [e1]; simpa using rv)) (.refl _)
  rcases hs with hs | hs
  · obtain ⟨its, rv, pl, hz'⟩ := I.list hs
    obtain ⟨o, ho, hc, n, hdt⟩ := pl.isList
    exact fin (.inl rfl) rv ho hc hdt (by have := rv.length; omega)
  · obtain ⟨its, rv, ⟨o, ho, hc, n, hdt⟩, hz'⟩ := I.tuple hs
    exact fin (.inr rfl) rv ho hc hdt (by have := rv.length; omega)
end
end Rw

-- R3
set_option Elab.async false
set_option linter.all false
set_option maxRecDepth 100000
set_option maxHeartbeats 4000000
/-! set(t), t a tuple of tuples of ints; sorted of it. -/
namespace Rw
open PySem PySem.Calls PyProof.Rows L2

section
variable {P : Program} {w : World} {A : Around} {E : Value → Shared → Prop} {s : Shared}
/-- a set as it is born -/
abbrev bornSet (w : World) : Obj := { cls := .type "set", dict := none, data := .set #[] 0 (.fresh 0 0 (!w.params.followText "set-order")) }
/-- set(t) comes down to its loop over the tuple's iterator; G tells the set -/
theorem set_by_loop {l : Addr} {items : Array Value} {G : Heap → Prop} {Q : Value → Shared → Prop} (hl : s.heap.IsTuple l items)
    (loop : ∀ R : Result → Shared → Prop, (∀ s', s'.gens = s.gens → s'.drawn = s.drawn → s'.os = s.os → G s'.heap → (∀ b o, s.heap.get? b = some o → s'.heap.get? b = some o) → R (.ok (.ret .none)) s') →
      codeAny (model P w) A.in1.in1 (.builtin "set.update.loop" ⟨[.ref s.heap.objs.size, .ref (s.heap.push (bornSet w)).objs.size], []⟩) R
        { s with heap := (s.heap.push (bornSet w)).push { cls := .type "tuple_iterator", data := .fields #[.ref l, .int 0 0] } })
    (h : ∀ (h' : Heap) (tk : Nat), G h' → (∀ b o, s.heap.get? b = some o → h'.get? b = some o) → Q (.ref s.heap.objs.size) { s with heap := h', toks := tk }) :
    wpAny (model P w) A (call (.type "set") [.ref l]) Q E s := by
  obtain ⟨c, tl, hmro⟩ := F.called_set.mro
  have m1 := F.called_set.made
  have m2 := F.called_set.sub
  refine wpAny_call (codeAny_of_tree ?_)
  show wpAny _ _ (callAny (.type "set") _) _ _ _
  refine wpAny_pure ⟨Code.quiet_builtin _ (by decide +kernel), codeAny_builtin F.entry_type_call ?_⟩
  rw [Around.under_plain (weight_type_call_type "set" [.ref l] []) rfl]
  have m3 := F.called_set.notType
  have m4 := F.called_set.canCreate
  have m5 := F.typeCall_set_1 (.ref l)
  repeat (any_goals (first | assumption | wp_step))
  refine codeAny_mono (code_set_led1 (.ref l) (E := E) (Q₁ := fun ob s₁ => ob = .ref s.heap.objs.size ∧ s₁ = { s with heap := s.heap.push (bornSet w) }) ⟨rfl, rfl⟩) fun r s₁ hr => ?_
  cases r with
  | error e => exact hr
  | ok fl =>
    cases fl with
    | ret ob =>
      obtain ⟨rfl, rfl⟩ := hr
      have hS : (s.heap.push (bornSet w)).get? s.heap.objs.size = some (bornSet w) := Heap.get?_push_size _ rfl
      have hT : Shared.TypeIs { s with heap := s.heap.push (bornSet w) } (.ref s.heap.objs.size) "set" := ⟨_, hS, rfl⟩
      have m6 := F.called_set.init.lookup
      have m7 := F.called_set.init.bind (.ref s.heap.objs.size)
      repeat (any_goals (first | assumption | wp_step))
      refine codeAny_mono (codeAny_call_builtin (R := wants (fun r s₂ => r = .none ∧ ∃ h' tk, s₂ = { s with heap := h', toks := tk } ∧ G h' ∧ ∀ b o, s.heap.get? b = some o → h'.get? b = some o) E) F.called_set.init.plain F.entry_set_init (check_set_init_1 hT ?_)) fun r₂ s₂ hr₂ => ?_
      · obtain ⟨ol, hol, hcl, nl, hdl⟩ := hl
        obtain ⟨ocls, odict, odata, oslots⟩ := ol
        simp only at hcl hdl
        subst hcl
        subst hdl
        have hol' := Heap.get?_push_of_some (bornSet w) hol
        have m8 := F.sub_tuple_set
        have m9 := F.sub_tuple_frozenset
        have m10 : (Value.type "tuple" == Value.type "dict") = false := by decide
        unfold Builtin.«set.__init__» noKeywords Builtin.Frozenset.updateFrom
        generalize hPI : pyIter = PI
        wp_walk
        subst hPI
        refine wpAny_pyIter_tuple ⟨_, hol', rfl, nl, rfl⟩ ?_
        refine wpAny_bind (wpAny_runValue ?_)
        refine loop _ fun s' eg ed eo hG hk => ?_
        obtain ⟨h', g2, d', tk', os'⟩ := s'
        subst eg
        subst ed
        subst eo
        show wpAny _ _ _ _ _ _
        refine wpAny_pure ?_
        show wpAny _ _ (ret Value.none) _ _ _
        exact wpAny_pure ⟨rfl, h', tk', rfl, hG, hk⟩
      · cases r₂ with
        | error e => exact hr₂
        | ok fl₂ =>
          cases fl₂ with
          | ret r =>
            obtain ⟨rfl, h', tk, rfl, hG, hk⟩ := hr₂
            repeat (any_goals (first | assumption | wp_step))
            exact h _ _ hG hk
          | _ => exact hr₂.elim
    | _ => exact hr.elim

/-- set(t), t a tuple of tuples of ints -/
theorem set_of_tups {l : Addr} {items : Array Value} (ks : List (Addr × List Int)) {Q : Value → Shared → Prop} (hh : A.handled = none) (hl : s.heap.IsTuple l items) (hit : items.toList = ks.map fun p => Value.ref p.1)
    (hk : ∀ p ∈ ks, IsT P w s.heap p.2 p.1) (hfew : ks.length < 64) (hu : A.units + 8 < cLine)
    (h : ∀ (h' : Heap) (tk : Nat) L es ep t, SetTR P w h' s.heap.objs.size L es ep t → Got ks ks.length L → (∀ b o, s.heap.get? b = some o → h'.get? b = some o) → Q (.ref s.heap.objs.size) { s with heap := h', toks := tk }) :
    wpAny (model P w) A (call (.type "set") [.ref l]) Q E s := by
  have hisz : items.size = ks.length := by
    have q := congrArg List.length hit
    simpa using q
  refine set_by_loop (G := fun h' => ∃ L es ep t, SetTR P w h' s.heap.objs.size L es ep t ∧ Got ks ks.length L) hl (fun R hR => ?_) fun h' tk ⟨L, es, ep, t, q1, q2⟩ k => h h' tk L es ep t q1 q2 k
  obtain ⟨o, ho, hc, n, hd⟩ := id hl
  have hlt : l < s.heap.objs.size := Heap.lt_size ho
  have e1 : (s.heap.push (bornSet w)).objs.size = s.heap.objs.size + 1 := Heap.size_push _ _
  have ne1 : l ≠ (s.heap.push (bornSet w)).objs.size := by rw [e1]; exact Nat.ne_of_lt (Nat.lt_succ_of_lt hlt)
  have nS : s.heap.objs.size ∉ [(s.heap.push (bornSet w)).objs.size, l] := by
    rw [e1]
    simp only [List.mem_cons, List.not_mem_nil, or_false, not_or]
    exact ⟨Nat.ne_of_lt (Nat.lt_succ_self _), Nat.ne_of_gt hlt⟩
  have gone : ∀ b, s.heap.objs.size ≤ b → s.heap.get? b = none := fun b hb => by
    cases q : s.heap.get? b with
    | none => rfl
    | some u => exact absurd (Nat.lt_of_lt_of_le (Heap.lt_size q) hb) (Nat.lt_irrefl _)
  have hval : ∀ (i : Nat) (v : Value), items[i]? = some v → ∃ p, ks[i]? = some p ∧ v = .ref p.1 := fun i v hv => by
    have q : items.toList[i]? = some v := by rw [Array.getElem?_toList]; exact hv
    rw [hit, List.getElem?_map] at q
    cases hq : ks[i]? with
    | none => rw [hq] at q; cases q
    | some p =>
      rw [hq] at q
      exact ⟨p, rfl, (Option.some.inj q).symm⟩
  have hh3 : A.in1.in1.in1.handled = none := by simp [hh]
  have keep2 : ∀ b o, s.heap.get? b = some o → ((s.heap.push (bornSet w)).push { cls := .type "tuple_iterator", data := .fields #[.ref l, .int 0 0] }).get? b = some o := fun b o e => Heap.get?_push_of_some _ (Heap.get?_push_of_some _ e)
  refine set_update_tups ((Walks.tuple hh3 (s.heap.push (bornSet w)).objs.size l ne1 items).toS) s.heap.objs.size nS ks hisz hfew hval s.heap hk (gone _ (Nat.le_refl _)) (fun b hb => gone b (by
      rw [List.mem_singleton.mp hb, e1]
      exact Nat.le_succ _)) (by show A.units + 1 + 1 + 1 < cLine; omega) (items.size - 0) 0 _ (by omega) (Nat.zero_le _)
    ⟨⟨_, Heap.get?_push_size _ rfl, rfl, rfl⟩, ⟨o, keep2 _ _ ho, hc, n, hd⟩⟩ keep2 ⟨[], #[], 0, _, setTR_fresh (Heap.get?_push_of_some _ (Heap.get?_push_size _ rfl)), Got.zero ks⟩ fun s' L es ep t hm hS' g' hkp => ?_
  rw [hisz] at g'
  exact hR s' hm.gens hm.drawn hm.os ⟨L, es, ep, t, hS', g'⟩ hkp
end

section
variable {X : Cx}
/-- set(t): a new set of the same tuples -/
def rSetTT (K : PySem.W.Frag) (P : Program) (w : World) : List V → Hp → VK → Prop := fun xs H Q => ∃ (l : Addr) (ks : List (Addr × List Int)), xs = [V.ref l] ∧ SqT K H l (ks.map fun p => V.ref p.1) ∧ (∀ p ∈ ks, SqT K H p.1 (p.2.map V.int)) ∧ ks.length < 64 ∧ (ks.map (·.2)).Nodup ∧
  ∀ a L, H a = none → L.Perm ks → Q (.ref a) (upd H a (SetTO P w a L))
theorem nodup_of_map' {α β : Type} {f : α → β} {l : List α} (h : (l.map f).Nodup) : l.Nodup := List.Pairwise.of_map f (fun _ _ hne e => hne (congrArg f e)) h
theorem cr_setTT (hc : X.calm = true) (hu : X.A.units + 64 < cLine) : CallR X (.type "set") (rSetTT X.K X.prog X.w) := by
  intro pins s σ H xs us Q I r h
  obtain ⟨l, ks, rfl, hl, hk, hf, nd, q⟩ := h
  rw [Vals.ref1 r]
  obtain ⟨its, rv, hT, hz⟩ := I.tuple hl
  have hn : H s.heap.objs.size = none := I.hok.fresh (Nat.le_refl _)
  refine set_of_tups (P := X.prog) (w := X.w) ks (I.ok.hd hc) hT (by simpa using refs_of_vals rv) (fun p hp => I.isT (hk p hp)) hf (by omega) fun h' tk L es ep t R g k => ?_
  have sub : ∀ p ∈ L, p ∈ ks := fun p hp => List.mem_of_mem_take (g.sub p hp)
  have nL : (L.map (·.2)).Nodup := R.nd
  have pm : L.Perm ks := by
    refine (List.perm_ext_iff_of_nodup (nodup_of_map' nL) (nodup_of_map' nd)).mpr fun p => ⟨sub p, fun hp => ?_⟩
    have hm := g.all p (by rw [List.take_length]; exact hp)
    obtain ⟨p', hp', e⟩ := List.mem_map.mp hm
    have e2 : p' = p := by
      have hp2 := sub p' hp'
      obtain ⟨i, hi⟩ := List.getElem?_of_mem hp2
      obtain ⟨j, hj⟩ := List.getElem?_of_mem hp
      have a1 : (ks.map (·.2))[i]? = some p.2 := by rw [List.getElem?_map, hi, ← e]; rfl
      have a2 : (ks.map (·.2))[j]? = some p.2 := by rw [List.getElem?_map, hj]; rfl
      obtain ⟨x1, y1⟩ := List.getElem?_eq_some_iff.mp a1
      obtain ⟨x2, y2⟩ := List.getElem?_eq_some_iff.mp a2
      have eij : i = j := (List.getElem_inj nd).mp (y1.trans y2.symm)
      subst eij
      rw [hi] at hj
      exact Option.some.inj hj
    rw [← e2]
    exact hp'
  exact ⟨.ref s.heap.objs.size, upd H s.heap.objs.size (SetTO X.prog X.w s.heap.objs.size L), I.laid (t' := tk) k (Nat.le_refl _) (setTO_new R.t0), rfl, q _ L hn pm⟩

theorem refs_inj {L : List (Addr × List Int)} {vs : List Value} (h : vs.Perm (L.map fun q => Value.ref q.1)) : ∃ L' : List (Addr × List Int), vs = L'.map (fun q => Value.ref q.1) ∧ L'.Perm L := by
  induction L generalizing vs with
  | nil =>
    have : vs = [] := by simpa using h
    exact ⟨[], by rw [this]; rfl, .refl _⟩
  | cons q L ih =>
    have h' : vs.Perm (Value.ref q.1 :: L.map fun q => Value.ref q.1) := h
    have hm : Value.ref q.1 ∈ vs := h'.mem_iff.mpr (by simp)
    obtain ⟨a, b, rfl⟩ := List.append_of_mem hm
    have h2 : (a ++ b).Perm (L.map fun q => Value.ref q.1) := by
      have := (List.perm_middle (l₁ := a) (l₂ := b) (a := Value.ref q.1)).symm.trans h'
      exact this.cons_inv
    obtain ⟨L', e, pm⟩ := ih h2
    have e1 : a = (L'.take a.length).map fun q => Value.ref q.1 := by
      rw [List.map_take, ← e]
      simp
    have e2 : b = (L'.drop a.length).map fun q => Value.ref q.1 := by
      rw [List.map_drop, ← e]
      simp
    refine ⟨L'.take a.length ++ q :: L'.drop a.length, ?_, ?_⟩
    · rw [List.map_append, List.map_cons, ← e1, ← e2]
    · refine List.perm_middle.trans (List.Perm.cons q ?_)
      rw [List.take_append_drop]
      exact pm

/-- sorted(a), a a set of tuples of ints -/
def rSortSet (K : PySem.W.Frag) (P : Program) (w : World) : List V → Hp → VK → Prop := fun vs H Q => ∃ (a : Addr) (L : List (Addr × List Int)), vs = [V.ref a] ∧ H a = some (SetTO P w a L) ∧ (∀ p ∈ L, SqT K H p.1 (p.2.map V.int)) ∧ SortGo K H (L.map fun p => .tuple (p.2.map .int)) Q
theorem dpAll_ints {K : PySem.W.Frag} {H : Hp} : ∀ ns : List Int, DpAll K H (ns.map V.int) (ns.map PyData.int)
  | [] => .nil
  | n :: ns => .cons (.int n) (dpAll_ints ns)
theorem cr_sortSet (hc : X.calm = true) (hu : X.A.units + 64 < cLine) : CallR X (.builtin "sorted") (rSortSet X.K X.prog X.w) := by
  intro pins s σ H vs us Q I r h
  obtain ⟨a, L, rfl, ha, hk, h⟩ := h
  have R0 : SetT0 X.prog X.w s.heap a L := (I.hok a _ ha).1
  obtain ⟨es, ep, t, R⟩ := R0.full fun p hp => I.isT (hk p hp)
  rw [Vals.ref1 r]
  refine sort_fin (zs := L.map fun p => (V.ref p.1, PyData.tuple (p.2.map .int))) hu I (by rw [List.map_map]; rfl) (fun z hz => ?_) h fun Q' hQ => ?_
  · obtain ⟨p, hp, rfl⟩ := List.mem_map.mp hz
    exact .tup (hk p hp) (dpAll_ints _)
  · obtain ⟨o, ho, hex, hd⟩ := R.ob
    have hsz := R.size
    have hfew := R.few
    refine collect_set (A := X.A.in1) (I.ok.hd hc) ⟨o, ho, hex.1, hd⟩ R.fits (by unfold scanBound; omega) R.tab.ris R.led fun s1 vs k1 hz g1 o1 pm => ?_
    have hes : es.toList.map (·.2) = L.map fun q => Value.ref q.1 := by
      rw [R.rows]
      unfold rowsOf
      rw [List.map_map]
      rfl
    rw [hes] at pm
    obtain ⟨L', e, pL⟩ := refs_inj pm
    refine hQ _ _ (L'.map fun p => (V.ref p.1, PyData.tuple (p.2.map .int))) k1 g1 o1 (each_of_vals ?_) (pL.map _)
    rw [e, List.map_map]
    exact vals_of_refs L'
end
end Rw

-- R4
set_option Elab.async false
set_option linter.all false
set_option maxRecDepth 100000
set_option maxHeartbeats 4000000
/-! list.extend by a tuple, enumerate of a tuple, dict of a tuple of pairs, tuple(list) whose object is told. -/
namespace Rw
open PySem PySem.Calls PyProof.Rows L2

section
variable {X : Cx} {pins : List (Addr × Obj)} {σ : L2.St} {H : Hp} {s : Shared}
/-! ### xs.extend(t) -/
def rExtT (K : PySem.W.Frag) : V → List V → Hp → VK → Prop := fun x vs H Q => ∃ l b xs zs, x = .ref l ∧ vs = [.ref b] ∧ H l = some (.lst xs) ∧ SqT K H b zs ∧ xs.length + zs.length ≤ sizeLine ∧ Q .non (upd H l (.lst (xs ++ zs)))
theorem mt_extT : MtR X "list.extend" (rExtT X.K) := by
  intro pins s σ H x vs v us Q I rx rv h
  obtain ⟨l, b, xs, zs, rfl, rfl, hH, hT, hz, q⟩ := h
  cases rx
  obtain ⟨u, rfl, ru⟩ := rv.one
  cases ru
  obtain ⟨z, its, n, r, hl, e⟩ := I.lstM hH
  obtain ⟨its2, r2, ⟨o, ho, hc, n2, hd⟩, hz2⟩ := I.tuple hT
  have l2 := r2.length
  refine wpAny_call (codeAny_call_builtin F.slot_list_extend.plain F.entry_list_extend (F.slot_list_extend.check _ _ _ _ _ _ _ _ ⟨_, e, rfl⟩ (F.args_list_extend_2 _ _) ?_))
  show wpAny _ _ (Builtin.List.listExtendWith (.ref l) (.ref b) .none) _ _ s
  unfold Builtin.List.listExtendWith
  refine wpAny_bind (wpAny_typeOf ⟨o, ho, hc⟩ ?_)
  have h1 : (Builtin.List.listSameRef (.ref l) (.ref b) || Value.type "tuple" == Value.type "list" || Value.type "tuple" == Value.type "tuple") = true := by simp
  simp only [h1, if_true]
  have hsz : its.toArray.size + its2.toArray.size ≤ sizeLine := by rw [List.size_toArray, List.size_toArray]; omega
  refine wpAny_bind (listItems_at ho hd (listItems_at (xs := its.toArray) e rfl ?_ |> fun q => wpAny_bind q))
  have hlong : ¬ (!its.toArray.isEmpty && Builtin.List.listTooLong (its.toArray.size + its2.toArray.size)) = true := by
    rw [notLongL hsz, Bool.and_false]
    exact Bool.false_ne_true
  rw [if_neg hlong]
  refine wpAny_bind (listUpdate_at (xs := its.toArray) e rfl ?_ (by omega) (by show (its.toArray ++ its2.toArray).size ≤ sizeLine + 1; rw [Array.size_append]; omega))
  refine wpAny_pure ?_
  refine ⟨.non, _, I.lset (t' := s.toks) (its' := its ++ its2) hH e (by simp) (r.append r2) ?_, rfl, q⟩
  rw [List.length_append]
  omega

/-! ### tuple(xs), its object told -/
theorem call_tupleF : CallR X (.type "tuple") (fun xs H Q => ∃ p ys, xs = [.ref p] ∧ SqL X.K H p ys ∧ ∀ l o, o.dict = none → H l = none → Q (.ref l) (upd H l (.frz o (.tup ys)))) := by
  intro pins s σ H xs us Q I r h
  obtain ⟨p, ys, rfl, hq, q⟩ := h
  rw [Vals.ref1 r]
  obtain ⟨its, r', pl, hz⟩ := I.list hq
  have hlen := r'.length
  refine call_tuple_list pl.isList (fun h' kp => ?_) (by simp only [List.size_toArray]; omega)
  have I1 : Inv X pins σ H { s with heap := h' } := I.kept (t' := s.toks) kp
  have I2 : Inv X pins σ (upd H h'.objs.size (.frz { cls := .type "tuple", data := .seq its.toArray } (.tup ys))) { s with heap := h'.push { cls := .type "tuple", data := .seq its.toArray } } :=
    I1.laid (t' := s.toks) (fun b o e => Heap.get?_push_of_some _ e) (Nat.le_refl _) (show ObjOk X.prog X.w _ _ _ (.frz _ (.tup ys)) from ⟨Heap.get?_push_size _ rfl, hz, its, r', IsTup.new _ _⟩)
  exact ⟨.ref h'.objs.size, _, I2, rfl, q _ _ rfl (I1.hok.fresh (Nat.le_refl _))⟩

/-! ### dict(t), t a tuple of pairs whose object is told -/
theorem call_dictT (hcalm : X.calm = true) : CallR X (.type "dict") (fun xs H Q => ∃ (a : Addr) (o : Obj) (ps : List Addr) (kvs : List (Key × V)), xs = [.ref a] ∧ H a = some (.frz o (.tup (ps.map V.ref))) ∧ o.dict = none ∧ Paired (fun p kv => SqT X.K H p [kV kv.1, kv.2]) ps kvs ∧
    ∀ p, H p = none → Q (.ref p) (upd H p (.dK (mergeK [] kvs)))) := by
  intro pins s σ H xs us Q I r q
  obtain ⟨a, o, ps, kvs, ex, ha, hod, hp, q⟩ := q
  subst ex
  rw [Vals.ref1 r]
  obtain ⟨ho, hzz, its, rv, ⟨o', ho', hc, n, hd⟩⟩ := (show ObjOk X.prog X.w H s.heap a (.frz o (.tup (ps.map V.ref))) from I.hok a _ ha)
  rw [ho] at ho'
  cases ho'
  have ei := refs_at rv
  subst ei
  rw [List.length_map] at hzz
  obtain ⟨prs, rel, hl, hpr⟩ := pairs_of I hp
  have ex : ∀ j, j < prs.length → ∃ u : Value, ∃ v, ∃ k, prs[j]? = some (k, v) ∧ IsTup s.heap (ps.getD j 0) #[u, v] ∧ keyIs k u = true := fun j hj => by
    obtain ⟨b, u, e1, e2, e3⟩ := hpr j prs[j] (List.getElem?_eq_getElem hj)
    refine ⟨u, prs[j].2, prs[j].1, List.getElem?_eq_getElem hj, ?_, e3⟩
    rw [List.getD_eq_getElem?_getD, e1]
    exact e2
  obtain ⟨us, hus⟩ : ∃ us : List (Value × Value), us.length = prs.length ∧ ∀ j, j < prs.length → ∃ k u v, us[j]? = some (u, v) ∧ prs[j]? = some (k, v) ∧ IsTup s.heap (ps.getD j 0) #[u, v] ∧ keyIs k u = true := by
    have key : ∀ n, n ≤ prs.length → ∃ us : List (Value × Value), us.length = n ∧ ∀ j, j < n → ∃ k u v, us[j]? = some (u, v) ∧ prs[j]? = some (k, v) ∧ IsTup s.heap (ps.getD j 0) #[u, v] ∧ keyIs k u = true := by
      intro n
      induction n with
      | zero => exact fun _ => ⟨[], rfl, fun j hj => absurd hj (Nat.not_lt_zero _)⟩
      | succ n ih =>
        intro hn
        obtain ⟨us, h1, h2⟩ := ih (by omega)
        obtain ⟨u, v, k, e1, e2, e3⟩ := ex n (by omega)
        refine ⟨us ++ [(u, v)], by simp [h1], fun j hj => ?_⟩
        rcases Nat.lt_or_ge j n with q | q
        · obtain ⟨k', u', v', a1, a2, a3, a4⟩ := h2 j q
          exact ⟨k', u', v', by rw [List.getElem?_append_left (by omega)]; exact a1, a2, a3, a4⟩
        · have : j = n := by omega
          subst this
          exact ⟨k, u, v, by rw [List.getElem?_append_right (by omega), h1, Nat.sub_self]; rfl, e1, e2, e3⟩
    exact key prs.length (Nat.le_refl _)
  obtain ⟨hul, hus⟩ := hus
  refine call_dict_pairs (knd := mixKind X.prog X.w) (kvs := prs) (PairArg.tuple a (ps.map Value.ref).toArray (fun j => ps.getD j 0) us) (I.ok.hd hcalm) ⟨⟨_, n, ho, hc, hod, hd⟩, by simp; omega, fun j k v hj => ?_⟩ ⟨by omega, fun i key val hr => ?_⟩ (by rw [hul, hl]; exact hzz) fun h' tk hd' kp => ?_
  · have hjl := (List.getElem?_eq_some_iff.mp hj).1
    obtain ⟨k', u', v', a1, a2, a3, a4⟩ := hus j (by omega)
    rw [hj] at a1
    cases a1
    have hjp : j < ps.length := by omega
    refine ⟨?_, .inl ?_⟩
    · simp [hjp]
    · obtain ⟨oo, q1, q2, q3⟩ := a3
      exact ⟨oo, q1, q2, q3⟩
  · have hr : us[i]? = some (key, val) := hr
    have hjl := (List.getElem?_eq_some_iff.mp hr).1
    obtain ⟨k', u', v', a1, a2, a3, a4⟩ := hus i (by omega)
    rw [hr] at a1
    cases a1
    exact ⟨k', a2, a4⟩
  · have hm : (s.heap.objs.size == sysModules) = false := beq_eq_false_iff_ne.mpr (Nat.ne_of_gt I.big)
    have hlen : (mergeK [] kvs).length ≤ sizeLine := by
      refine Nat.le_trans (length_mergeK kvs []) ?_
      rw [List.length_nil, Nat.zero_add, rel.length, hl]
      exact hzz
    exact ⟨.ref s.heap.objs.size, upd H s.heap.objs.size (.dK (mergeK [] kvs)), I.laid (t' := tk) (fun b o e => kp b o (by simp) e) (Nat.le_refl _) (show ObjOk X.prog X.w _ _ _ (.dK (mergeK [] kvs)) from ⟨hlen, hm, merged [] prs, KV.merge rel .nil, hd'⟩), rfl, q _ (I.hok.fresh (Nat.le_refl _))⟩
end
end Rw

-- R5
set_option Elab.async false
set_option linter.all false
set_option maxRecDepth 100000
set_option maxHeartbeats 4000000
/-! for i, x in enumerate(t), t a tuple. -/
namespace Rw
open PySem PySem.Calls PyProof.Rows L2
open AutoSeq1 (wpAny_loadPart')

theorem enum_new_tup (l : Addr) (items : Array Value) (n : Nat) (dct : Option Addr) (sl : Array (Option Value)) :
    Meets (Builtin.«enumerate.__new__» ⟨[.type "enumerate", .ref l], []⟩) (fun _ R s => s.heap.get? l = some { cls := .type "tuple", dict := dct, data := .seq items n, slots := sl } ∧
      R (.ok (.ret (.ref (s.heap.push { cls := .type "tuple_iterator", data := .fields #[.ref l, .int 0 0] }).objs.size)))
        { s with heap := (s.heap.push { cls := .type "tuple_iterator", data := .fields #[.ref l, .int 0 0] }).push { cls := .type "enumerate", data := .fields #[.none, .bool false, .ref s.heap.objs.size, rawInt 0, .none, .none] } }) :=
  .of_wp fun prog w A R s h => by
    obtain ⟨hp, g, d, tk, os⟩ := s
    obtain ⟨hl, h⟩ := h
    have hsub := sub_enumerate
    have hL : Heap.IsTuple (Shared.heap ⟨hp, g, d, tk, os⟩) l items := ⟨_, hl, rfl, n, rfl⟩
    wp_walk using wpAny_loadPart' hl
    refine wpAny_stack_any fun st => wpAny_pure ?_
    split
    · rename_i c _ _ _ _ _
      cases (c == Value.type "enumerate")
      · wp_walk using wpAny_loadPart' hl, wpAny_pyIter_tuple hL
        exact ⟨_, rfl, h⟩
      · wp_walk using wpAny_loadPart' hl, wpAny_pyIter_tuple hL
        exact ⟨_, rfl, h⟩
    · wp_walk using wpAny_loadPart' hl, wpAny_pyIter_tuple hL
      exact ⟨_, rfl, h⟩
section
variable {prog : Program} {w : World} {A : Around} {E : Value → Shared → Prop} {s : Shared}
theorem call_enum_tup {l : Addr} {items : Array Value} {Q : Value → Shared → Prop} (hL : s.heap.IsTuple l items)
    (h : ∀ h', IsEnum h' (s.heap.objs.size + 1) s.heap.objs.size 0 .none → h'.IsTupleIter s.heap.objs.size l 0 → h'.objs.size = s.heap.objs.size + 2 → (∀ b o, s.heap.get? b = some o → h'.get? b = some o) → Q (.ref (s.heap.objs.size + 1)) { s with heap := h' }) :
    wpAny (model prog w) A (call (.type "enumerate") [.ref l]) Q E s := by
  obtain ⟨⟨c, dct, dt, sl⟩, hl, hc, n, hd⟩ := hL
  replace hc : c = .type "tuple" := hc
  replace hd : dt = .seq items n := hd
  subst hc hd
  refine callType_new F.called_enumerate (by decide) (F.typeCall_enumerate_1 _) (F.newCall_enumerate_1 _) (fun obj => F.args_object_init_2 obj _) F.entry_enumerate_new (enum_new_tup l items n dct sl) ⟨hl, ?_⟩
  have hz : (s.heap.push { cls := .type "tuple_iterator", data := .fields #[.ref l, .int 0 0] }).objs.size = s.heap.objs.size + 1 := Heap.size_push ..
  show _ ∧ _
  rw [hz]
  have he : IsEnum ((s.heap.push { cls := .type "tuple_iterator", data := .fields #[.ref l, .int 0 0] }).push { cls := .type "enumerate", data := .fields #[.none, .bool false, .ref s.heap.objs.size, rawInt 0, .none, .none] }) (s.heap.objs.size + 1) s.heap.objs.size 0 .none := by
    have q := Heap.get?_push_size (s.heap.push { cls := .type "tuple_iterator", data := .fields #[.ref l, .int 0 0] }) (o := { cls := .type "enumerate", data := .fields #[.none, .bool false, .ref s.heap.objs.size, rawInt 0, .none, .none] }) rfl
    rw [hz] at q
    exact q
  exact ⟨⟨_, he, rfl⟩, h _ he ⟨_, Heap.get?_push_of_some _ (Heap.get?_push_size _ rfl), rfl, rfl⟩ (by rw [Heap.size_push, hz]) fun b o y => Heap.get?_push_of_some _ (Heap.get?_push_of_some _ y)⟩
end

/-- the tuple at a, each item in a new pair -/
def IteT (K : PySem.W.Frag) (a : Addr) : It :=
  ⟨fun i H => ∃ (xs : List V) (x : V), SqT K H a xs ∧ xs[i]? = some x, fun i H v H' => ∃ T x, v = .ref T ∧ H T = none ∧ H' = upd H T (.tup [.int (i : Nat), x]) ∧ ∀ xs, SqT K H a xs → xs[i]? = some x, fun i H => ∃ xs : List V, SqT K H a xs ∧ xs.length = i⟩
theorem turn_enumT {P : Program} {w : World} {K : PySem.W.Frag} {elts : List Expr} {kk : Nat} {tpos : Pos} (a e it : Addr) (hae : a ≠ e) (hai : a ≠ it) :
    Turn P w K (.Tuple elts kk tpos) (IteT K a) [e, it] e (fun i h => (∃ old, IsEnum h e it ((i : Nat) : Int) old) ∧ h.IsTupleIter it a i ∧ e ≠ it) where
  mem := by simp
  obj := fun i h st b hb => by
    obtain ⟨⟨old, he⟩, ⟨o, ho, hc, hd⟩, _⟩ := st
    rcases (show b = e ∨ b = it by simpa using hb) with z | z
    · rw [z]; exact ⟨_, he, fun v q => nomatch q⟩
    · rw [z]; exact ⟨o, ho, fun v q => by rw [hd] at q; cases q⟩
  keep := fun i h h' st k => let ⟨⟨old, he⟩, hi, hne⟩ := st; ⟨⟨old, k e (by simp) _ he⟩, hi.at fun o q => k it (by simp) o q, hne⟩
  item := by
    intro X hP hw hK hc i pins s σ H E I hf st hg
    subst hP hw hK
    obtain ⟨⟨old, he⟩, hit, hne⟩ := st
    obtain ⟨xs, x, hq, hx⟩ := hg
    obtain ⟨its, rv, p, hz⟩ := I.tuple hq
    obtain ⟨u, hu, ru⟩ := rv.get hx
    have hel : e < s.heap.objs.size := Heap.lt_size he
    have hil : it < s.heap.objs.size := by obtain ⟨_, q, _⟩ := hit; exact Heap.lt_size q
    have hp : s.heap.IsTuple a its.toArray := p
    have hil2 : i < its.toArray.size := by
      have := (List.getElem?_eq_some_iff.mp hu).1
      simpa using this
    refine wpAny_pyNext_enum_itemC (c := ((i : Nat) : Int)) (Draws.tuple (prog := X.prog) (w := X.w) (A := X.A.in1) (I.ok.hd hc) it a hai its.toArray) he ⟨hit, hp⟩ hil2 hne (by simp; exact ⟨hne, fun z => hae z.symm⟩) fun y h' tk hy ho hst' hT hsz hk => ?_
    have hy : its.toArray[i]? = some y := hy
    have ey : y = u := by
      have q : its[i]? = some y := by simpa using hy
      rw [hu] at q
      exact (Option.some.inj q).symm
    subst ey
    refine ⟨_, rfl, wpAny_letOwnedTupleGo_enum (s := { s with heap := h', toks := tk + 1 }) ho fun h'' he' sb => ?_⟩
    have hT2 : h''.get? s.heap.objs.size = some { cls := .type "tuple", data := .seq #[.int i tk, y] } := (sb.2 _ (Nat.ne_of_gt hel)).trans hT
    have new : ObjOk X.prog X.w (upd H s.heap.objs.size (.tup [.int (i : Nat), x])) h'' s.heap.objs.size (.tup [.int (i : Nat), x]) :=
      ⟨by show 2 ≤ sizeLine; decide, [.int i tk, y], .cons ⟨_, rfl⟩ (.cons ru .nil), ⟨_, hT2, rfl, _, rfl⟩⟩
    have I1 : Inv X pins σ (upd H s.heap.objs.size (.tup [.int (i : Nat), x])) { s with heap := h'', toks := tk + 1 } :=
      I.turnedNew (ch := [e, it]) (fun b ob hb q => (sb.2 b (fun z => hb (by simp [z]))).trans (hk b ob (fun z => hb (by simp [z])) (fun z => hb (by simp [z])) q)) hf (Nat.le_refl _) new
    refine ⟨.ref s.heap.objs.size, _, I1, rfl, ⟨_, x, rfl, I.hok.fresh (Nat.le_refl _), rfl, fun ys hy => ?_⟩, ⟨⟨y, ?_⟩, hst'.1.at fun o q => (sb.2 it (Ne.symm hne)).trans q, hne⟩, fun b hb => ?_⟩
    · rw [I.tuple_inj hy hq]
      exact hx
    · have e1 : ((i + 1 : Nat) : Int) = (i : Int) + 1 := by omega
      rw [e1]
      exact he'
    · have hb' : b < s.heap.objs.size := by
        rcases (show b = e ∨ b = it by simpa using hb) with z | z
        · rw [z]; exact hel
        · rw [z]; exact hil
      rw [upd_ne (Nat.ne_of_lt hb')]
      exact (hf b hb).1
  done := by
    intro X hP hw hK hc i pins s σ H E I hf st hg
    subst hP hw hK
    obtain ⟨⟨old, he⟩, hit, hne⟩ := st
    obtain ⟨xs, hq, hx⟩ := hg
    obtain ⟨its, rv, p, hz⟩ := I.tuple hq
    obtain ⟨f0, f1, f2, f3, f4, f5⟩ := hf it (by simp)
    have hl := rv.length
    have hp : s.heap.IsTuple a its.toArray := p
    have ei : its.toArray.size = i := by simp; omega
    have D := Draws.tuple (prog := X.prog) (w := X.w) (A := X.A.in1) (I.ok.hd hc) it a hai its.toArray
    rw [ei] at D
    exact wpAny_pyNext_enum_endD D he ⟨hit, hp⟩ fun h' eb => ⟨rfl, I.turned (t' := s.toks) (fun b o hb q => eb b o hb q) f0 f1 f3 f4 f5⟩
  self := fun A i s Q E st h => let ⟨⟨_, he⟩, _⟩ := st; wpAny_pyIter_enum he h
def iEnumT (K : PySem.W.Frag) (ta : TA) : TI := fun σ H R => ta σ H fun vs H1 => ∃ a xs, vs = [.ref a] ∧ SqT K H1 a xs ∧ R (IteT K a) H1
theorem pi_enumT {X : Cx} {e : Expr} {ta : TA} {p pos tpos : Pos} {elts : List Expr} {kk : Nat} (hg : Gl X "enumerate") (hm : X.mg "enumerate" = none) (ha : PA X [e] ta) (hs : starEach [e] X.env = [(false, eval e X.env)] := by rfl) :
    PI X (.Tuple elts kk tpos) (.Call (.Name "enumerate" p) [e] [] pos) (iEnumT X.K ta) := by
  refine ⟨fun pins s σ H R I h => ?_⟩
  refine Call_ (ld_blt I hg hm boot_enumerate (PyProof.Rows.callWith_type1 (thn (ha.run pos pins s σ H _ I h) fun us s1 ⟨vs, H1, I1, r1, q1⟩ => ?_) hs rfl))
  obtain ⟨a, xs, ex, hq, q⟩ := q1
  subst ex
  rw [Vals.ref1 r1]
  obtain ⟨its, rv, p', hz⟩ := I1.tuple hq
  have hal : a < s1.heap.objs.size := by
    obtain ⟨o, ho, _⟩ := p'
    exact Heap.lt_size ho
  refine call_enum_tup p' fun h' he hit hsz hk => wpAny_pyIter_enum he ?_
  have I2 : Inv X pins σ H1 { s1 with heap := h' } := I1.kept (t' := s1.toks) hk
  refine ⟨s1.heap.objs.size + 1, [s1.heap.objs.size + 1, s1.heap.objs.size], _, _, H1, rfl, I2, turn_enumT a (s1.heap.objs.size + 1) s1.heap.objs.size (Nat.ne_of_lt (Nat.lt_succ_of_lt hal)) (Nat.ne_of_lt hal), ⟨⟨.none, he⟩, hit, Nat.succ_ne_self _⟩, fun b hb => ?_, q⟩
  have hle : s1.heap.objs.size ≤ b := by
    rcases (show b = s1.heap.objs.size + 1 ∨ b = s1.heap.objs.size by simpa using hb) with z | z
    · rw [z]; exact Nat.le_add_right _ _
    · rw [z]; exact Nat.le_refl _
  exact I1.fpOk hle (I1.hok.fresh hle)
theorem walk_enumT {K : PySem.W.Frag} {a : Addr} {xs : List V} : Walk (IteT K a) xs.length (fun H => SqT K H a xs) (YPair (fun i => some (.int (i : Nat))) (fun i => xs[i]?)) := by
  refine ⟨fun i _ hi q => ⟨xs, xs[i], q, by simp [hi]⟩, fun _ q => ⟨xs, q, rfl⟩, fun i H v H' _ q y => ?_⟩
  obtain ⟨T, x, h1, h2, h3, h4⟩ := y
  exact ⟨T, .int (i : Nat), x, h1, h2, h3, rfl, h4 xs q⟩
end Rw

-- Tx
set_option Elab.async false
set_option linter.all false
set_option maxRecDepth 100000
set_option maxHeartbeats 4000000
/-! The text by places; what the top leaves, as facts. -/
namespace Rw
open PySem PySem.Spec PyProof.Rows L2
def topS (i : Nat) : Stmt := PySem.Challenge.pw_rowclash_k23_whole_three_statements.main.body.getD i (.Pass ⟨0, 0, 0, 0⟩)
abbrev s_is_integer : Stmt := topS 15
abbrev s_is_key : Stmt := topS 16
abbrev s_is_row : Stmt := topS 17
abbrev s_is_ascending : Stmt := topS 18
abbrev s_checked_rows : Stmt := topS 19
abbrev s_more_rows : Stmt := topS 20
abbrev s_keys_of : Stmt := topS 22
abbrev s_need_table : Stmt := topS 23
abbrev s_is_set : Stmt := topS 24
abbrev s_need_rows : Stmt := topS 25
abbrev s_is_order : Stmt := topS 26
abbrev s_need_order : Stmt := topS 27
abbrev s_waited : Stmt := topS 29
abbrev s_path_of : Stmt := topS 30
abbrev s_rings_of : Stmt := topS 31
abbrev s_by_new : Stmt := topS 32
abbrev s_groups_of : Stmt := topS 33
abbrev s_waiting_for : Stmt := topS 34
abbrev s_need_no_pair : Stmt := topS 36
abbrev s_ready : Stmt := topS 37
abbrev s_first_order : Stmt := topS 38
abbrev s_verdict : Stmt := topS 39
abbrev s_is_ring : Stmt := topS 40
abbrev s_waits_left : Stmt := topS 42
abbrev s_is_enough : Stmt := topS 43
abbrev s_enough : Stmt := topS 44
abbrev s_lines_of : Stmt := topS 45
abbrev s_least_many : Stmt := topS 46
abbrev s_first_cover : Stmt := topS 47
abbrev s_fewest_parked : Stmt := topS 48
abbrev s_pairs_along : Stmt := topS 49
abbrev s_needs : Stmt := topS 50
abbrev s_is_wait : Stmt := topS 51
abbrev s_is_piece : Stmt := topS 52
abbrev s_shows_needs : Stmt := topS 53
abbrev s_holder_of : Stmt := topS 57
abbrev s_law_cell_at : Stmt := topS 63
abbrev s_law_pen : Stmt := topS 64
abbrev s_law_draw : Stmt := topS 65
abbrev s_law_pick : Stmt := topS 66
abbrev s_law_mixed : Stmt := topS 67
abbrev s_law_lines : Stmt := topS 68
abbrev s_law_need : Stmt := topS 69
abbrev s_law_places : Stmt := topS 70
abbrev s_law_statement : Stmt := topS 71
abbrev s_law_right : Stmt := topS 72
abbrev s_law : Stmt := topS 73
abbrev s_tInit : Stmt := inClass (topS 21) 0
abbrev s_tGet : Stmt := inClass (topS 21) 2
abbrev s_tIn : Stmt := inClass (topS 21) 4
abbrev s_tLen : Stmt := inClass (topS 21) 6
abbrev s_tAdd : Stmt := inClass (topS 21) 9
abbrev s_tSub : Stmt := inClass (topS 21) 11
abbrev s_oInit : Stmt := inClass (topS 55) 0
abbrev s_tRows : Stmt := inClass (topS 21) 1
abbrev s_oStop : Stmt := inClass (topS 55) 2
abbrev s_oEnds : Stmt := inClass (topS 55) 3
abbrev s_rCall : Stmt := inClass (topS 58) 4
abbrev cT (_ : PySem.W.Frag) : Addr := 308
abbrev cO (_ : PySem.W.Frag) : Addr := 615
abbrev cA (_ : PySem.W.Frag) : Addr := 731
abbrev pRows (_ : PySem.W.Frag) : Addr := 229
abbrev pStop (_ : PySem.W.Frag) : Addr := 523
abbrev pEnds (_ : PySem.W.Frag) : Addr := 531
abbrev a_is_integer (_ : PySem.W.Frag) : Addr := 176
abbrev a_is_key (_ : PySem.W.Frag) : Addr := 183
abbrev a_is_row (_ : PySem.W.Frag) : Addr := 190
abbrev a_is_ascending (_ : PySem.W.Frag) : Addr := 195
abbrev a_checked_rows (_ : PySem.W.Frag) : Addr := 202
abbrev a_more_rows (_ : PySem.W.Frag) : Addr := 209
abbrev a_keys_of (_ : PySem.W.Frag) : Addr := 317
abbrev a_need_table (_ : PySem.W.Frag) : Addr := 324
abbrev a_is_set (_ : PySem.W.Frag) : Addr := 329
abbrev a_need_rows (_ : PySem.W.Frag) : Addr := 336
abbrev a_is_order (_ : PySem.W.Frag) : Addr := 341
abbrev a_need_order (_ : PySem.W.Frag) : Addr := 348
abbrev a_waited (_ : PySem.W.Frag) : Addr := 355
abbrev a_path_of (_ : PySem.W.Frag) : Addr := 362
abbrev a_rings_of (_ : PySem.W.Frag) : Addr := 369
abbrev a_by_new (_ : PySem.W.Frag) : Addr := 376
abbrev a_groups_of (_ : PySem.W.Frag) : Addr := 381
abbrev a_waiting_for (_ : PySem.W.Frag) : Addr := 386
abbrev a_need_no_pair (_ : PySem.W.Frag) : Addr := 393
abbrev a_ready (_ : PySem.W.Frag) : Addr := 400
abbrev a_first_order (_ : PySem.W.Frag) : Addr := 407
abbrev a_verdict (_ : PySem.W.Frag) : Addr := 414
abbrev a_is_ring (_ : PySem.W.Frag) : Addr := 419
abbrev a_waits_left (_ : PySem.W.Frag) : Addr := 424
abbrev a_is_enough (_ : PySem.W.Frag) : Addr := 431
abbrev a_enough (_ : PySem.W.Frag) : Addr := 439
abbrev a_lines_of (_ : PySem.W.Frag) : Addr := 444
abbrev a_least_many (_ : PySem.W.Frag) : Addr := 449
abbrev a_first_cover (_ : PySem.W.Frag) : Addr := 456
abbrev a_fewest_parked (_ : PySem.W.Frag) : Addr := 462
abbrev a_pairs_along (_ : PySem.W.Frag) : Addr := 467
abbrev a_needs (_ : PySem.W.Frag) : Addr := 475
abbrev a_is_wait (_ : PySem.W.Frag) : Addr := 480
abbrev a_is_piece (_ : PySem.W.Frag) : Addr := 487
abbrev a_shows_needs (_ : PySem.W.Frag) : Addr := 493
abbrev a_holder_of (_ : PySem.W.Frag) : Addr := 626
abbrev a_law_cell_at (_ : PySem.W.Frag) : Addr := 740
abbrev a_law_pen (_ : PySem.W.Frag) : Addr := 747
abbrev a_law_draw (_ : PySem.W.Frag) : Addr := 754
abbrev a_law_pick (_ : PySem.W.Frag) : Addr := 761
abbrev a_law_mixed (_ : PySem.W.Frag) : Addr := 768
abbrev a_law_lines (_ : PySem.W.Frag) : Addr := 773
abbrev a_law_need (_ : PySem.W.Frag) : Addr := 778
abbrev a_law_places (_ : PySem.W.Frag) : Addr := 785
abbrev a_law_statement (_ : PySem.W.Frag) : Addr := 790
abbrev a_law_right (_ : PySem.W.Frag) : Addr := 795
abbrev a_law (_ : PySem.W.Frag) : Addr := 802
abbrev a_tInit (_ : PySem.W.Frag) : Addr := 223
abbrev a_tGet (_ : PySem.W.Frag) : Addr := 236
abbrev a_tIn (_ : PySem.W.Frag) : Addr := 250
abbrev a_tLen (_ : PySem.W.Frag) : Addr := 264
abbrev a_tAdd (_ : PySem.W.Frag) : Addr := 283
abbrev a_tSub (_ : PySem.W.Frag) : Addr := 295
abbrev a_oInit (_ : PySem.W.Frag) : Addr := 507
abbrev a_tRows (_ : PySem.W.Frag) : Addr := 228
abbrev a_oStop (_ : PySem.W.Frag) : Addr := 522
abbrev a_oEnds (_ : PySem.W.Frag) : Addr := 530
abbrev a_rCall (_ : PySem.W.Frag) : Addr := 662
/-- a def of the text, where it stands -/
structure DX where
  ad : PySem.W.Frag → Addr
  name : Str
  qual : Str
  st : Stmt
def DX.val (d : DX) : He.FnV := some (d.name, d.qual, defArgs d.st, .stmts (defBody d.st), defScope d.st, mainGlobals, [], .none, builtinsNs)
def fnO (K : PySem.W.Frag) (a : Addr) : He.FnV := match K.lookup a with
  | some ⟨_, _, .func fd, _⟩ => some (fd.name, fd.qualname, fd.params, fd.body, fd.scope, fd.globals, fd.closure, fd.defaults, fd.builtins)
  | _ => none
def codeB (K : PySem.W.Frag) (a : Addr) (q : Str) : Bool := match K.lookup a with
  | some ⟨_, _, .func fd, _⟩ => PySem.W.codeIn K fd.code q
  | _ => false
def DX.okB (K : PySem.W.Frag) (d : DX) : Bool := PySem.W.keepIn K (.ref (d.ad K)) && codeB K (d.ad K) d.qual
theorem DX.fn {K : PySem.W.Frag} {d : DX} (e : fnO K (d.ad K) = d.val) (c : d.okB K = true) : ∃ fd, Fun K d.name d.qual d.st (d.ad K) fd := by
  obtain ⟨kp, c2⟩ := Bool.and_eq_true_iff.mp c
  unfold codeB at c2
  unfold fnO at e
  cases q : K.lookup (d.ad K) with
  | none =>
    rw [q] at c2
    cases c2
  | some o =>
    obtain ⟨oc, od, dt, osl⟩ := o
    rw [q] at c2 e
    cases dt with
    | func fd =>
      obtain ⟨n1, n2, n3, n4, n5, n6, n7, n8, n9, n10, n11, n12, n13, n14, n15⟩ := fd
      have e2 : (some (n1, n2, n3, n4, n5, n6, n7, n8, n15) : He.FnV) = some (d.name, d.qual, defArgs d.st, .stmts (defBody d.st), defScope d.st, mainGlobals, [], .none, builtinsNs) := e
      simp only [Option.some.injEq, Prod.mk.injEq] at e2
      obtain ⟨h1, h2, h3, h4, h5, h6, h7, h8, h9⟩ := e2
      subst h1 h2 h3 h4 h5 h6 h7 h8 h9
      exact ⟨_, ⟨oc, od, n9, n10, n11, n12, n13, n14, osl, rfl, q, c2⟩, kp⟩
    | _ => cases c2
def d_is_integer : DX := ⟨a_is_integer, "is_integer", "is_integer", s_is_integer⟩
def d_is_key : DX := ⟨a_is_key, "is_key", "is_key", s_is_key⟩
def d_is_row : DX := ⟨a_is_row, "is_row", "is_row", s_is_row⟩
def d_is_ascending : DX := ⟨a_is_ascending, "is_ascending", "is_ascending", s_is_ascending⟩
def d_checked_rows : DX := ⟨a_checked_rows, "checked_rows", "checked_rows", s_checked_rows⟩
def d_more_rows : DX := ⟨a_more_rows, "more_rows", "more_rows", s_more_rows⟩
def d_keys_of : DX := ⟨a_keys_of, "keys_of", "keys_of", s_keys_of⟩
def d_need_table : DX := ⟨a_need_table, "need_table", "need_table", s_need_table⟩
def d_is_set : DX := ⟨a_is_set, "is_set", "is_set", s_is_set⟩
def d_need_rows : DX := ⟨a_need_rows, "need_rows", "need_rows", s_need_rows⟩
def d_is_order : DX := ⟨a_is_order, "is_order", "is_order", s_is_order⟩
def d_need_order : DX := ⟨a_need_order, "need_order", "need_order", s_need_order⟩
def d_waited : DX := ⟨a_waited, "waited", "waited", s_waited⟩
def d_path_of : DX := ⟨a_path_of, "path_of", "path_of", s_path_of⟩
def d_rings_of : DX := ⟨a_rings_of, "rings_of", "rings_of", s_rings_of⟩
def d_by_new : DX := ⟨a_by_new, "by_new", "by_new", s_by_new⟩
def d_groups_of : DX := ⟨a_groups_of, "groups_of", "groups_of", s_groups_of⟩
def d_waiting_for : DX := ⟨a_waiting_for, "waiting_for", "waiting_for", s_waiting_for⟩
def d_need_no_pair : DX := ⟨a_need_no_pair, "need_no_pair", "need_no_pair", s_need_no_pair⟩
def d_ready : DX := ⟨a_ready, "ready", "ready", s_ready⟩
def d_first_order : DX := ⟨a_first_order, "first_order", "first_order", s_first_order⟩
def d_verdict : DX := ⟨a_verdict, "verdict", "verdict", s_verdict⟩
def d_is_ring : DX := ⟨a_is_ring, "is_ring", "is_ring", s_is_ring⟩
def d_waits_left : DX := ⟨a_waits_left, "waits_left", "waits_left", s_waits_left⟩
def d_is_enough : DX := ⟨a_is_enough, "is_enough", "is_enough", s_is_enough⟩
def d_enough : DX := ⟨a_enough, "enough", "enough", s_enough⟩
def d_lines_of : DX := ⟨a_lines_of, "lines_of", "lines_of", s_lines_of⟩
def d_least_many : DX := ⟨a_least_many, "least_many", "least_many", s_least_many⟩
def d_first_cover : DX := ⟨a_first_cover, "first_cover", "first_cover", s_first_cover⟩
def d_fewest_parked : DX := ⟨a_fewest_parked, "fewest_parked", "fewest_parked", s_fewest_parked⟩
def d_pairs_along : DX := ⟨a_pairs_along, "pairs_along", "pairs_along", s_pairs_along⟩
def d_needs : DX := ⟨a_needs, "needs", "needs", s_needs⟩
def d_is_wait : DX := ⟨a_is_wait, "is_wait", "is_wait", s_is_wait⟩
def d_is_piece : DX := ⟨a_is_piece, "is_piece", "is_piece", s_is_piece⟩
def d_shows_needs : DX := ⟨a_shows_needs, "shows_needs", "shows_needs", s_shows_needs⟩
def d_holder_of : DX := ⟨a_holder_of, "holder_of", "holder_of", s_holder_of⟩
def d_law_cell_at : DX := ⟨a_law_cell_at, "_law_cell_at", "_law_cell_at", s_law_cell_at⟩
def d_law_pen : DX := ⟨a_law_pen, "_law_pen", "_law_pen", s_law_pen⟩
def d_law_draw : DX := ⟨a_law_draw, "_law_draw", "_law_draw", s_law_draw⟩
def d_law_pick : DX := ⟨a_law_pick, "_law_pick", "_law_pick", s_law_pick⟩
def d_law_mixed : DX := ⟨a_law_mixed, "_law_mixed", "_law_mixed", s_law_mixed⟩
def d_law_lines : DX := ⟨a_law_lines, "_law_lines", "_law_lines", s_law_lines⟩
def d_law_need : DX := ⟨a_law_need, "_law_need", "_law_need", s_law_need⟩
def d_law_places : DX := ⟨a_law_places, "_law_places", "_law_places", s_law_places⟩
def d_law_statement : DX := ⟨a_law_statement, "_law_statement", "_law_statement", s_law_statement⟩
def d_law_right : DX := ⟨a_law_right, "_law_right", "_law_right", s_law_right⟩
def d_law : DX := ⟨a_law, "law", "law", s_law⟩
def d_tInit : DX := ⟨a_tInit, "__init__", "Table.__init__", s_tInit⟩
def d_tGet : DX := ⟨a_tGet, "__getitem__", "Table.__getitem__", s_tGet⟩
def d_tIn : DX := ⟨a_tIn, "__contains__", "Table.__contains__", s_tIn⟩
def d_tLen : DX := ⟨a_tLen, "__len__", "Table.__len__", s_tLen⟩
def d_tAdd : DX := ⟨a_tAdd, "__add__", "Table.__add__", s_tAdd⟩
def d_tSub : DX := ⟨a_tSub, "__sub__", "Table.__sub__", s_tSub⟩
def d_oInit : DX := ⟨a_oInit, "__init__", "Outcome.__init__", s_oInit⟩
def d_tRows : DX := ⟨a_tRows, "rows", "Table.rows", s_tRows⟩
def d_oStop : DX := ⟨a_oStop, "stop", "Outcome.stop", s_oStop⟩
def d_oEnds : DX := ⟨a_oEnds, "ends", "Outcome.ends", s_oEnds⟩
def d_rCall : DX := ⟨a_rCall, "__call__", "Rule.__call__", s_rCall⟩
def allD : List DX := ([d_is_integer, d_is_key, d_is_row, d_is_ascending, d_checked_rows, d_more_rows, d_keys_of, d_need_table, d_is_set, d_need_rows, d_is_order, d_need_order] : List DX) ++ ([d_waited, d_path_of, d_rings_of, d_by_new, d_groups_of, d_waiting_for, d_need_no_pair, d_ready, d_first_order, d_verdict, d_is_ring, d_waits_left] : List DX) ++ ([d_is_enough, d_enough, d_lines_of, d_least_many, d_first_cover, d_fewest_parked, d_pairs_along, d_needs, d_is_wait, d_is_piece, d_shows_needs, d_holder_of] : List DX) ++ ([d_law_cell_at, d_law_pen, d_law_draw, d_law_pick, d_law_mixed, d_law_lines, d_law_need, d_law_places, d_law_statement, d_law_right, d_law, d_tInit] : List DX) ++ ([d_tGet, d_tIn, d_tLen, d_tAdd, d_tSub, d_oInit, d_tRows, d_oStop, d_oEnds, d_rCall] : List DX)
def freeN : List Str := (["len", "isinstance", "all", "any", "zip", "list", "tuple", "sorted", "min", "max", "sum", "set"] : List Str) ++ (["dict", "range", "int", "enumerate", "bool"] : List Str)
def ownB (K : PySem.W.Frag) (C : Addr) (m : Str) (f : Addr) : Bool := He.eqO (PySem.W.findIn K (.ref C) m) (some (some (.ref f))) && (PySem.W.isFn K (.ref f) && PySem.W.fnIn K f)
def propB (K : PySem.W.Frag) (C : Addr) (f : Str) (p g : Addr) : Bool := He.eqO (PySem.W.findIn K (.ref C) f) (some (some (.ref p))) && (He.eqO (PySem.W.specialIn K (.ref p) "__get__") (some (some (.builtin "property.__get__"))) &&
  (decide (PySem.W.takesIn K (.ref p) = some true) && (match PySem.W.recIn K p "property" with
    | some (.ref g' :: _) => decide (g' = g)
    | _ => false)))
def tupNoB (K : PySem.W.Frag) (nm : String) : Bool := match PySem.W.findIn K (.type "tuple") (PySem.dunder nm), PySem.W.findIn K (.type "tuple") (dunderR nm) with
  | some fo, some ro => !((fo.isSome && !isSeqSlot fo) || (ro.isSome && !isSeqSlot ro))
  | _, _ => false
def binB (K : PySem.W.Frag) (C : Addr) (nm : String) (f : Addr) : Bool := He.eqO (PySem.W.findIn K (.ref C) (PySem.dunder nm)) (some (some (.ref f))) && (PySem.W.isFn K (.ref f) && tupNoB K nm)
def isiB (K : PySem.W.Frag) (C : Addr) : Bool := He.eqO (PySem.W.findIn K (.ref C) "__class__") (some (some (.builtin "object.__class__"))) && (He.eqO (PySem.W.specialIn K (.builtin "object.__class__") "__get__") (some (some (.builtin "getset_descriptor.__get__"))) &&
  (decide (PySem.W.takesIn K (.builtin "object.__class__") = some true) && (decide (PySem.W.mroIn K C (.type "object") = some true) && decide (PySem.W.kitOne K (.type "tuple") (.ref C) = some false))))
def mk0B (K : PySem.W.Frag) (C : Addr) : Bool := PySem.W.makesIn K C && (He.eqO (PySem.W.findIn K (.ref C) "__init__") (some (some (.builtin "object.__init__"))) && PySem.W.keepIn K (.ref C))
def clsB (K : PySem.W.Frag) (C : Addr) : Bool := PySem.W.plainGet K C Str.empty && (PySem.W.hasDictIn K C && (PySem.W.plainOver K C && He.eqO (PySem.W.findIn K (.ref C) "__setattr__") (some (some (.builtin "object.__setattr__")))))
def mkB (K : PySem.W.Frag) (C f : Addr) : Bool := PySem.W.makesIn K C && (He.eqO (PySem.W.findIn K (.ref C) "__init__") (some (some (.ref f))) && (PySem.W.isFn K (.ref f) && PySem.W.keepIn K (.ref C)))
def gloA : List (Str × Addr) := ([("is_integer", 176), ("is_key", 183), ("is_row", 190), ("is_ascending", 195), ("checked_rows", 202), ("more_rows", 209), ("keys_of", 317), ("need_table", 324), ("is_set", 329), ("need_rows", 336), ("is_order", 341), ("need_order", 348)] : List (Str × Addr)) ++ ([("waited", 355), ("path_of", 362), ("rings_of", 369), ("by_new", 376), ("groups_of", 381), ("waiting_for", 386), ("need_no_pair", 393), ("ready", 400), ("first_order", 407), ("verdict", 414), ("is_ring", 419), ("waits_left", 424)] : List (Str × Addr)) ++ ([("is_enough", 431), ("enough", 439), ("lines_of", 444), ("least_many", 449), ("first_cover", 456), ("fewest_parked", 462), ("pairs_along", 467), ("needs", 475), ("is_wait", 480), ("is_piece", 487), ("shows_needs", 493), ("holder_of", 626)] : List (Str × Addr)) ++ ([("_law_cell_at", 740), ("_law_pen", 747), ("_law_draw", 754), ("_law_pick", 761), ("_law_mixed", 768), ("_law_lines", 773), ("_law_need", 778), ("_law_places", 785), ("_law_statement", 790), ("_law_right", 795), ("law", 802), ("Table", 308)] : List (Str × Addr)) ++ ([("Outcome", 615), ("Abort", 731)] : List (Str × Addr))
def faB (K : PySem.W.Frag) : List Bool :=
  [(He.Fa.int "KEY_BOUND" (10 ^ 30)).ok K, (He.Fa.int "MOST_ROWS" 40).ok K,
   clsB K (cT K), He.eqO (PySem.W.findIn K (.ref (cT K)) "wants") (some none), mkB K (cT K) (a_tInit K), ownB K (cT K) "__getitem__" (a_tGet K), ownB K (cT K) "__contains__" (a_tIn K), ownB K (cT K) "__len__" (a_tLen K),
   PySem.W.selfFirst K (cT K), binB K (cT K) Operator.Add.info.2 (a_tAdd K), binB K (cT K) Operator.Sub.info.2 (a_tSub K), isiB K (cT K)] ++
  [propB K (cT K) "rows" (pRows K) (a_tRows K),
   clsB K (cO K), He.eqO (PySem.W.findIn K (.ref (cO K)) "triple") (some none), mkB K (cO K) (a_oInit K), propB K (cO K) "stop" (pStop K) (a_oStop K), propB K (cO K) "ends" (pEnds K) (a_oEnds K),
   mk0B K (cA K), ownB K (cA K) "__call__" (a_rCall K)]
def okB (K : PySem.W.Frag) : Bool := (gloA.all fun q => He.eqO (PySem.W.nsIn K mainGlobals q.1) (some (some (.ref q.2)))) && ((freeN.all fun x => (He.Fa.free x).ok K) && ((allD.all fun d => d.okB K) && (faB K).all id))
def adL : List Addr := ([mainGlobals, 308, 307, 615, 614, 731, 730, 679, 678, 700, 699, 719, 718, 229, 523, 531] : List Addr) ++ ([176, 175, 183, 182, 190, 189, 195, 194, 202, 201, 209, 208, 317, 316, 324, 323] : List Addr) ++ ([329, 328, 336, 335, 341, 340, 348, 347, 355, 354, 362, 361, 369, 368, 376, 375] : List Addr) ++ ([381, 380, 386, 385, 393, 392, 400, 399, 407, 406, 414, 413, 419, 418, 424, 423] : List Addr) ++ ([431, 430, 439, 438, 444, 443, 449, 448, 456, 455, 462, 461, 467, 466, 475, 474] : List Addr) ++ ([480, 479, 487, 486, 493, 492, 626, 625, 740, 739, 747, 746, 754, 753, 761, 760] : List Addr) ++ ([768, 767, 773, 772, 778, 777, 785, 784, 790, 789, 795, 794, 802, 801, 223, 222] : List Addr) ++ ([236, 235, 250, 249, 264, 263, 283, 282, 295, 294, 507, 506, 228, 227, 522, 521] : List Addr) ++ ([530, 529, 662, 661] : List Addr)
/-- what the top has left, as the walk asks it -/
structure Txt (K : PySem.W.Frag) (mg : Str → Option Value) : Prop where
  f_is_integer : ∃ fd, Fun K "is_integer" "is_integer" s_is_integer (a_is_integer K) fd
  f_is_key : ∃ fd, Fun K "is_key" "is_key" s_is_key (a_is_key K) fd
  f_is_row : ∃ fd, Fun K "is_row" "is_row" s_is_row (a_is_row K) fd
  f_is_ascending : ∃ fd, Fun K "is_ascending" "is_ascending" s_is_ascending (a_is_ascending K) fd
  f_checked_rows : ∃ fd, Fun K "checked_rows" "checked_rows" s_checked_rows (a_checked_rows K) fd
  f_more_rows : ∃ fd, Fun K "more_rows" "more_rows" s_more_rows (a_more_rows K) fd
  f_keys_of : ∃ fd, Fun K "keys_of" "keys_of" s_keys_of (a_keys_of K) fd
  f_need_table : ∃ fd, Fun K "need_table" "need_table" s_need_table (a_need_table K) fd
  f_is_set : ∃ fd, Fun K "is_set" "is_set" s_is_set (a_is_set K) fd
  f_need_rows : ∃ fd, Fun K "need_rows" "need_rows" s_need_rows (a_need_rows K) fd
  f_is_order : ∃ fd, Fun K "is_order" "is_order" s_is_order (a_is_order K) fd
  f_need_order : ∃ fd, Fun K "need_order" "need_order" s_need_order (a_need_order K) fd
  f_waited : ∃ fd, Fun K "waited" "waited" s_waited (a_waited K) fd
  f_path_of : ∃ fd, Fun K "path_of" "path_of" s_path_of (a_path_of K) fd
  f_rings_of : ∃ fd, Fun K "rings_of" "rings_of" s_rings_of (a_rings_of K) fd
  f_by_new : ∃ fd, Fun K "by_new" "by_new" s_by_new (a_by_new K) fd
  f_groups_of : ∃ fd, Fun K "groups_of" "groups_of" s_groups_of (a_groups_of K) fd
  f_waiting_for : ∃ fd, Fun K "waiting_for" "waiting_for" s_waiting_for (a_waiting_for K) fd
  f_need_no_pair : ∃ fd, Fun K "need_no_pair" "need_no_pair" s_need_no_pair (a_need_no_pair K) fd
  f_ready : ∃ fd, Fun K "ready" "ready" s_ready (a_ready K) fd
  f_first_order : ∃ fd, Fun K "first_order" "first_order" s_first_order (a_first_order K) fd
  f_verdict : ∃ fd, Fun K "verdict" "verdict" s_verdict (a_verdict K) fd
  f_is_ring : ∃ fd, Fun K "is_ring" "is_ring" s_is_ring (a_is_ring K) fd
  f_waits_left : ∃ fd, Fun K "waits_left" "waits_left" s_waits_left (a_waits_left K) fd
  f_is_enough : ∃ fd, Fun K "is_enough" "is_enough" s_is_enough (a_is_enough K) fd
  f_enough : ∃ fd, Fun K "enough" "enough" s_enough (a_enough K) fd
  f_lines_of : ∃ fd, Fun K "lines_of" "lines_of" s_lines_of (a_lines_of K) fd
  f_least_many : ∃ fd, Fun K "least_many" "least_many" s_least_many (a_least_many K) fd
  f_first_cover : ∃ fd, Fun K "first_cover" "first_cover" s_first_cover (a_first_cover K) fd
  f_fewest_parked : ∃ fd, Fun K "fewest_parked" "fewest_parked" s_fewest_parked (a_fewest_parked K) fd
  f_pairs_along : ∃ fd, Fun K "pairs_along" "pairs_along" s_pairs_along (a_pairs_along K) fd
  f_needs : ∃ fd, Fun K "needs" "needs" s_needs (a_needs K) fd
  f_is_wait : ∃ fd, Fun K "is_wait" "is_wait" s_is_wait (a_is_wait K) fd
  f_is_piece : ∃ fd, Fun K "is_piece" "is_piece" s_is_piece (a_is_piece K) fd
  f_shows_needs : ∃ fd, Fun K "shows_needs" "shows_needs" s_shows_needs (a_shows_needs K) fd
  f_holder_of : ∃ fd, Fun K "holder_of" "holder_of" s_holder_of (a_holder_of K) fd
  f_law_cell_at : ∃ fd, Fun K "_law_cell_at" "_law_cell_at" s_law_cell_at (a_law_cell_at K) fd
  f_law_pen : ∃ fd, Fun K "_law_pen" "_law_pen" s_law_pen (a_law_pen K) fd
  f_law_draw : ∃ fd, Fun K "_law_draw" "_law_draw" s_law_draw (a_law_draw K) fd
  f_law_pick : ∃ fd, Fun K "_law_pick" "_law_pick" s_law_pick (a_law_pick K) fd
  f_law_mixed : ∃ fd, Fun K "_law_mixed" "_law_mixed" s_law_mixed (a_law_mixed K) fd
  f_law_lines : ∃ fd, Fun K "_law_lines" "_law_lines" s_law_lines (a_law_lines K) fd
  f_law_need : ∃ fd, Fun K "_law_need" "_law_need" s_law_need (a_law_need K) fd
  f_law_places : ∃ fd, Fun K "_law_places" "_law_places" s_law_places (a_law_places K) fd
  f_law_statement : ∃ fd, Fun K "_law_statement" "_law_statement" s_law_statement (a_law_statement K) fd
  f_law_right : ∃ fd, Fun K "_law_right" "_law_right" s_law_right (a_law_right K) fd
  f_law : ∃ fd, Fun K "law" "law" s_law (a_law K) fd
  f_tInit : ∃ fd, Fun K "__init__" "Table.__init__" s_tInit (a_tInit K) fd
  f_tGet : ∃ fd, Fun K "__getitem__" "Table.__getitem__" s_tGet (a_tGet K) fd
  f_tIn : ∃ fd, Fun K "__contains__" "Table.__contains__" s_tIn (a_tIn K) fd
  f_tLen : ∃ fd, Fun K "__len__" "Table.__len__" s_tLen (a_tLen K) fd
  f_tAdd : ∃ fd, Fun K "__add__" "Table.__add__" s_tAdd (a_tAdd K) fd
  f_tSub : ∃ fd, Fun K "__sub__" "Table.__sub__" s_tSub (a_tSub K) fd
  f_oInit : ∃ fd, Fun K "__init__" "Outcome.__init__" s_oInit (a_oInit K) fd
  f_tRows : ∃ fd, Fun K "rows" "Table.rows" s_tRows (a_tRows K) fd
  f_oStop : ∃ fd, Fun K "stop" "Outcome.stop" s_oStop (a_oStop K) fd
  f_oEnds : ∃ fd, Fun K "ends" "Outcome.ends" s_oEnds (a_oEnds K) fd
  f_rCall : ∃ fd, Fun K "__call__" "Rule.__call__" s_rCall (a_rCall K) fd
  g_is_integer : mg "is_integer" = some (.ref (a_is_integer K))
  g_is_key : mg "is_key" = some (.ref (a_is_key K))
  g_is_row : mg "is_row" = some (.ref (a_is_row K))
  g_is_ascending : mg "is_ascending" = some (.ref (a_is_ascending K))
  g_checked_rows : mg "checked_rows" = some (.ref (a_checked_rows K))
  g_more_rows : mg "more_rows" = some (.ref (a_more_rows K))
  g_keys_of : mg "keys_of" = some (.ref (a_keys_of K))
  g_need_table : mg "need_table" = some (.ref (a_need_table K))
  g_is_set : mg "is_set" = some (.ref (a_is_set K))
  g_need_rows : mg "need_rows" = some (.ref (a_need_rows K))
  g_is_order : mg "is_order" = some (.ref (a_is_order K))
  g_need_order : mg "need_order" = some (.ref (a_need_order K))
  g_waited : mg "waited" = some (.ref (a_waited K))
  g_path_of : mg "path_of" = some (.ref (a_path_of K))
  g_rings_of : mg "rings_of" = some (.ref (a_rings_of K))
  g_by_new : mg "by_new" = some (.ref (a_by_new K))
  g_groups_of : mg "groups_of" = some (.ref (a_groups_of K))
  g_waiting_for : mg "waiting_for" = some (.ref (a_waiting_for K))
  g_need_no_pair : mg "need_no_pair" = some (.ref (a_need_no_pair K))
  g_ready : mg "ready" = some (.ref (a_ready K))
  g_first_order : mg "first_order" = some (.ref (a_first_order K))
  g_verdict : mg "verdict" = some (.ref (a_verdict K))
  g_is_ring : mg "is_ring" = some (.ref (a_is_ring K))
  g_waits_left : mg "waits_left" = some (.ref (a_waits_left K))
  g_is_enough : mg "is_enough" = some (.ref (a_is_enough K))
  g_enough : mg "enough" = some (.ref (a_enough K))
  g_lines_of : mg "lines_of" = some (.ref (a_lines_of K))
  g_least_many : mg "least_many" = some (.ref (a_least_many K))
  g_first_cover : mg "first_cover" = some (.ref (a_first_cover K))
  g_fewest_parked : mg "fewest_parked" = some (.ref (a_fewest_parked K))
  g_pairs_along : mg "pairs_along" = some (.ref (a_pairs_along K))
  g_needs : mg "needs" = some (.ref (a_needs K))
  g_is_wait : mg "is_wait" = some (.ref (a_is_wait K))
  g_is_piece : mg "is_piece" = some (.ref (a_is_piece K))
  g_shows_needs : mg "shows_needs" = some (.ref (a_shows_needs K))
  g_holder_of : mg "holder_of" = some (.ref (a_holder_of K))
  g_law_cell_at : mg "_law_cell_at" = some (.ref (a_law_cell_at K))
  g_law_pen : mg "_law_pen" = some (.ref (a_law_pen K))
  g_law_draw : mg "_law_draw" = some (.ref (a_law_draw K))
  g_law_pick : mg "_law_pick" = some (.ref (a_law_pick K))
  g_law_mixed : mg "_law_mixed" = some (.ref (a_law_mixed K))
  g_law_lines : mg "_law_lines" = some (.ref (a_law_lines K))
  g_law_need : mg "_law_need" = some (.ref (a_law_need K))
  g_law_places : mg "_law_places" = some (.ref (a_law_places K))
  g_law_statement : mg "_law_statement" = some (.ref (a_law_statement K))
  g_law_right : mg "_law_right" = some (.ref (a_law_right K))
  g_law : mg "law" = some (.ref (a_law K))
  g_Table : mg "Table" = some (.ref (cT K))
  g_Outcome : mg "Outcome" = some (.ref (cO K))
  g_Abort : mg "Abort" = some (.ref (cA K))
  n_len : mg "len" = none
  n_isinstance : mg "isinstance" = none
  n_all : mg "all" = none
  n_any : mg "any" = none
  n_zip : mg "zip" = none
  n_list : mg "list" = none
  n_tuple : mg "tuple" = none
  n_sorted : mg "sorted" = none
  n_min : mg "min" = none
  n_max : mg "max" = none
  n_sum : mg "sum" = none
  n_set : mg "set" = none
  n_dict : mg "dict" = none
  n_range : mg "range" = none
  n_int : mg "int" = none
  n_enumerate : mg "enumerate" = none
  n_bool : mg "bool" = none
  kb : ∃ t, mg "KEY_BOUND" = some (.int (10 ^ 30) t)
  mr : ∃ t, mg "MOST_ROWS" = some (.int 40 t)
  cl : Cls K (cT K)
  nw : NoAttr K (cT K) "wants"
  mkT : Mk K (cT K) (a_tInit K)
  getO : OwnM K (cT K) "__getitem__" (a_tGet K)
  inO : OwnM K (cT K) "__contains__" (a_tIn K)
  lenO : OwnM K (cT K) "__len__" (a_tLen K)
  self1 : PySem.W.selfFirst K (cT K) = true
  addO : PySem.W.findIn K (.ref (cT K)) (PySem.dunder Operator.Add.info.2) = some (some (.ref (a_tAdd K))) ∧ PySem.W.isFn K (.ref (a_tAdd K)) = true
  addT : ∃ fo ro, PySem.W.findIn K (.type "tuple") (PySem.dunder Operator.Add.info.2) = some fo ∧ PySem.W.findIn K (.type "tuple") (dunderR Operator.Add.info.2) = some ro ∧ ((fo.isSome && !isSeqSlot fo) || (ro.isSome && !isSeqSlot ro)) = false
  subO : PySem.W.findIn K (.ref (cT K)) (PySem.dunder Operator.Sub.info.2) = some (some (.ref (a_tSub K))) ∧ PySem.W.isFn K (.ref (a_tSub K)) = true
  subT : ∃ fo ro, PySem.W.findIn K (.type "tuple") (PySem.dunder Operator.Sub.info.2) = some fo ∧ PySem.W.findIn K (.type "tuple") (dunderR Operator.Sub.info.2) = some ro ∧ ((fo.isSome && !isSeqSlot fo) || (ro.isSome && !isSeqSlot ro)) = false
  isC : PySem.W.findIn K (.ref (cT K)) "__class__" = some (some (.builtin "object.__class__"))
  isG : PySem.W.specialIn K (.builtin "object.__class__") "__get__" = some (some (.builtin "getset_descriptor.__get__"))
  isT : PySem.W.takesIn K (.builtin "object.__class__") = some true
  isM : PySem.W.mroIn K (cT K) (.type "object") = some true
  isN : PySem.W.kitOne K (.type "tuple") (.ref (cT K)) = some false
  rowsP : PropOf K (cT K) "rows" (pRows K) (a_tRows K)
  clO : Cls K (cO K)
  nt : NoAttr K (cO K) "triple"
  mkO : Mk K (cO K) (a_oInit K)
  stopP : PropOf K (cO K) "stop" (pStop K) (a_oStop K)
  endsP : PropOf K (cO K) "ends" (pEnds K) (a_oEnds K)
  mkA : Mk0 K (cA K)
  callA : StX.CallO K (cA K) (a_rCall K)
theorem ownB_ok {K : PySem.W.Frag} {C f : Addr} {m : Str} (h : ownB K C m f = true) : OwnM K C m f := by
  obtain ⟨h1, h⟩ := Bool.and_eq_true_iff.mp h
  obtain ⟨h2, h3⟩ := Bool.and_eq_true_iff.mp h
  exact ⟨He.eqO_ok h1, h2, h3⟩
theorem clsB_ok {K : PySem.W.Frag} {C : Addr} (h : clsB K C = true) : Cls K C := by
  obtain ⟨h1, h⟩ := Bool.and_eq_true_iff.mp h
  obtain ⟨h2, h⟩ := Bool.and_eq_true_iff.mp h
  obtain ⟨h3, h4⟩ := Bool.and_eq_true_iff.mp h
  exact ⟨h1, h2, h3, He.eqO_ok h4⟩
theorem mkB_ok {K : PySem.W.Frag} {C f : Addr} (h : mkB K C f = true) : Mk K C f := by
  obtain ⟨h1, h⟩ := Bool.and_eq_true_iff.mp h
  obtain ⟨h2, h⟩ := Bool.and_eq_true_iff.mp h
  obtain ⟨h3, h4⟩ := Bool.and_eq_true_iff.mp h
  exact ⟨h1, He.eqO_ok h2, h3, h4⟩
theorem propB_ok {K : PySem.W.Frag} {C p g : Addr} {f : Str} (h : propB K C f p g = true) : PropOf K C f p g := by
  obtain ⟨h1, h⟩ := Bool.and_eq_true_iff.mp h
  obtain ⟨h2, h⟩ := Bool.and_eq_true_iff.mp h
  obtain ⟨h3, h4⟩ := Bool.and_eq_true_iff.mp h
  refine ⟨He.eqO_ok h1, He.eqO_ok h2, of_decide_eq_true h3, ?_⟩
  split at h4
  · rename_i g' rest e
    have e2 : g' = g := of_decide_eq_true h4
    exact ⟨rest, by rw [e, e2]⟩
  · cases h4
theorem tupNoB_ok {K : PySem.W.Frag} {nm : String} (h : tupNoB K nm = true) : ∃ fo ro, PySem.W.findIn K (.type "tuple") (PySem.dunder nm) = some fo ∧ PySem.W.findIn K (.type "tuple") (dunderR nm) = some ro ∧ ((fo.isSome && !isSeqSlot fo) || (ro.isSome && !isSeqSlot ro)) = false := by
  unfold tupNoB at h
  split at h
  · rename_i fo ro e1 e2
    refine ⟨fo, ro, e1, e2, ?_⟩
    cases q : ((fo.isSome && !isSeqSlot fo) || (ro.isSome && !isSeqSlot ro)) with
    | false => rfl
    | true =>
      rw [q] at h
      cases h
  · cases h
theorem txt_of {K : PySem.W.Frag} {h : Heap} {mg : Str → Option Value} (Y : K.In h) (G : h.Ns mainGlobals mg) (hb : okB K = true) (hv : allD.map (fun d => fnO K (d.ad K)) = allD.map DX.val) : Txt K mg := by
  obtain ⟨b1, hb⟩ := Bool.and_eq_true_iff.mp hb
  obtain ⟨b2, hb⟩ := Bool.and_eq_true_iff.mp hb
  obtain ⟨b3, b4⟩ := Bool.and_eq_true_iff.mp hb
  have fn : ∀ (i : Nat) (d : DX), allD[i]? = some d → ∃ fd, Fun K d.name d.qual d.st (d.ad K) fd := fun i d e => by
    have e2 : (allD.map fun d => fnO K (d.ad K))[i]? = (allD.map DX.val)[i]? := by rw [hv]
    rw [List.getElem?_map, List.getElem?_map, e] at e2
    exact DX.fn (Option.some.inj e2) (List.all_eq_true.mp b3 d (List.mem_of_getElem? e))
  have gl : ∀ (i : Nat) (x : Str) (a : Addr), gloA[i]? = some (x, a) → mg x = some (.ref a) := fun i x a e => PySem.W.mg_of Y G (He.eqO_ok (List.all_eq_true.mp b1 (x, a) (List.mem_of_getElem? e)))
  have fr : ∀ (i : Nat) (x : Str), freeN[i]? = some x → mg x = none := fun i x e => He.free_ok Y G (List.all_eq_true.mp b2 x (List.mem_of_getElem? e))
  have fa : ∀ (i : Nat) (b : Bool), (faB K)[i]? = some b → b = true := fun i b e => List.all_eq_true.mp b4 b (List.mem_of_getElem? e)
  have bin : ∀ {C f : Addr} {nm : String}, binB K C nm f = true → (PySem.W.findIn K (.ref C) (PySem.dunder nm) = some (some (.ref f)) ∧ PySem.W.isFn K (.ref f) = true) ∧ tupNoB K nm = true := fun h => by
    obtain ⟨h1, h⟩ := Bool.and_eq_true_iff.mp h
    obtain ⟨h2, h3⟩ := Bool.and_eq_true_iff.mp h
    exact ⟨⟨He.eqO_ok h1, h2⟩, h3⟩
  obtain ⟨i1, iz⟩ := Bool.and_eq_true_iff.mp (fa 11 _ rfl)
  obtain ⟨i2, iz⟩ := Bool.and_eq_true_iff.mp iz
  obtain ⟨i3, iz⟩ := Bool.and_eq_true_iff.mp iz
  obtain ⟨i4, i5⟩ := Bool.and_eq_true_iff.mp iz
  obtain ⟨m1, mz⟩ := Bool.and_eq_true_iff.mp (fa 18 _ rfl)
  obtain ⟨m2, m3⟩ := Bool.and_eq_true_iff.mp mz
  have ca := ownB_ok (fa 19 _ rfl)
  exact {
    f_is_integer := fn 0 d_is_integer rfl
    f_is_key := fn 1 d_is_key rfl
    f_is_row := fn 2 d_is_row rfl
    f_is_ascending := fn 3 d_is_ascending rfl
    f_checked_rows := fn 4 d_checked_rows rfl
    f_more_rows := fn 5 d_more_rows rfl
    f_keys_of := fn 6 d_keys_of rfl
    f_need_table := fn 7 d_need_table rfl
    f_is_set := fn 8 d_is_set rfl
    f_need_rows := fn 9 d_need_rows rfl
    f_is_order := fn 10 d_is_order rfl
    f_need_order := fn 11 d_need_order rfl
    f_waited := fn 12 d_waited rfl
    f_path_of := fn 13 d_path_of rfl
    f_rings_of := fn 14 d_rings_of rfl
    f_by_new := fn 15 d_by_new rfl
    f_groups_of := fn 16 d_groups_of rfl
    f_waiting_for := fn 17 d_waiting_for rfl
    f_need_no_pair := fn 18 d_need_no_pair rfl
    f_ready := fn 19 d_ready rfl
    f_first_order := fn 20 d_first_order rfl
    f_verdict := fn 21 d_verdict rfl
    f_is_ring := fn 22 d_is_ring rfl
    f_waits_left := fn 23 d_waits_left rfl
    f_is_enough := fn 24 d_is_enough rfl
    f_enough := fn 25 d_enough rfl
    f_lines_of := fn 26 d_lines_of rfl
    f_least_many := fn 27 d_least_many rfl
    f_first_cover := fn 28 d_first_cover rfl
    f_fewest_parked := fn 29 d_fewest_parked rfl
    f_pairs_along := fn 30 d_pairs_along rfl
    f_needs := fn 31 d_needs rfl
    f_is_wait := fn 32 d_is_wait rfl
    f_is_piece := fn 33 d_is_piece rfl
    f_shows_needs := fn 34 d_shows_needs rfl
    f_holder_of := fn 35 d_holder_of rfl
    f_law_cell_at := fn 36 d_law_cell_at rfl
    f_law_pen := fn 37 d_law_pen rfl
    f_law_draw := fn 38 d_law_draw rfl
    f_law_pick := fn 39 d_law_pick rfl
    f_law_mixed := fn 40 d_law_mixed rfl
    f_law_lines := fn 41 d_law_lines rfl
    f_law_need := fn 42 d_law_need rfl
    f_law_places := fn 43 d_law_places rfl
    f_law_statement := fn 44 d_law_statement rfl
    f_law_right := fn 45 d_law_right rfl
    f_law := fn 46 d_law rfl
    f_tInit := fn 47 d_tInit rfl
    f_tGet := fn 48 d_tGet rfl
    f_tIn := fn 49 d_tIn rfl
    f_tLen := fn 50 d_tLen rfl
    f_tAdd := fn 51 d_tAdd rfl
    f_tSub := fn 52 d_tSub rfl
    f_oInit := fn 53 d_oInit rfl
    f_tRows := fn 54 d_tRows rfl
    f_oStop := fn 55 d_oStop rfl
    f_oEnds := fn 56 d_oEnds rfl
    f_rCall := fn 57 d_rCall rfl
    g_is_integer := gl 0 "is_integer" _ rfl
    g_is_key := gl 1 "is_key" _ rfl
    g_is_row := gl 2 "is_row" _ rfl
    g_is_ascending := gl 3 "is_ascending" _ rfl
    g_checked_rows := gl 4 "checked_rows" _ rfl
    g_more_rows := gl 5 "more_rows" _ rfl
    g_keys_of := gl 6 "keys_of" _ rfl
    g_need_table := gl 7 "need_table" _ rfl
    g_is_set := gl 8 "is_set" _ rfl
    g_need_rows := gl 9 "need_rows" _ rfl
    g_is_order := gl 10 "is_order" _ rfl
    g_need_order := gl 11 "need_order" _ rfl
    g_waited := gl 12 "waited" _ rfl
    g_path_of := gl 13 "path_of" _ rfl
    g_rings_of := gl 14 "rings_of" _ rfl
    g_by_new := gl 15 "by_new" _ rfl
    g_groups_of := gl 16 "groups_of" _ rfl
    g_waiting_for := gl 17 "waiting_for" _ rfl
    g_need_no_pair := gl 18 "need_no_pair" _ rfl
    g_ready := gl 19 "ready" _ rfl
    g_first_order := gl 20 "first_order" _ rfl
    g_verdict := gl 21 "verdict" _ rfl
    g_is_ring := gl 22 "is_ring" _ rfl
    g_waits_left := gl 23 "waits_left" _ rfl
    g_is_enough := gl 24 "is_enough" _ rfl
    g_enough := gl 25 "enough" _ rfl
    g_lines_of := gl 26 "lines_of" _ rfl
    g_least_many := gl 27 "least_many" _ rfl
    g_first_cover := gl 28 "first_cover" _ rfl
    g_fewest_parked := gl 29 "fewest_parked" _ rfl
    g_pairs_along := gl 30 "pairs_along" _ rfl
    g_needs := gl 31 "needs" _ rfl
    g_is_wait := gl 32 "is_wait" _ rfl
    g_is_piece := gl 33 "is_piece" _ rfl
    g_shows_needs := gl 34 "shows_needs" _ rfl
    g_holder_of := gl 35 "holder_of" _ rfl
    g_law_cell_at := gl 36 "_law_cell_at" _ rfl
    g_law_pen := gl 37 "_law_pen" _ rfl
    g_law_draw := gl 38 "_law_draw" _ rfl
    g_law_pick := gl 39 "_law_pick" _ rfl
    g_law_mixed := gl 40 "_law_mixed" _ rfl
    g_law_lines := gl 41 "_law_lines" _ rfl
    g_law_need := gl 42 "_law_need" _ rfl
    g_law_places := gl 43 "_law_places" _ rfl
    g_law_statement := gl 44 "_law_statement" _ rfl
    g_law_right := gl 45 "_law_right" _ rfl
    g_law := gl 46 "law" _ rfl
    g_Table := gl 47 "Table" _ rfl
    g_Outcome := gl 48 "Outcome" _ rfl
    g_Abort := gl 49 "Abort" _ rfl
    n_len := fr 0 "len" rfl
    n_isinstance := fr 1 "isinstance" rfl
    n_all := fr 2 "all" rfl
    n_any := fr 3 "any" rfl
    n_zip := fr 4 "zip" rfl
    n_list := fr 5 "list" rfl
    n_tuple := fr 6 "tuple" rfl
    n_sorted := fr 7 "sorted" rfl
    n_min := fr 8 "min" rfl
    n_max := fr 9 "max" rfl
    n_sum := fr 10 "sum" rfl
    n_set := fr 11 "set" rfl
    n_dict := fr 12 "dict" rfl
    n_range := fr 13 "range" rfl
    n_int := fr 14 "int" rfl
    n_enumerate := fr 15 "enumerate" rfl
    n_bool := fr 16 "bool" rfl
    kb := He.int_ok Y G (fa 0 _ rfl)
    mr := He.int_ok Y G (fa 1 _ rfl)
    cl := clsB_ok (fa 2 _ rfl)
    nw := He.eqO_ok (fa 3 _ rfl)
    mkT := mkB_ok (fa 4 _ rfl)
    getO := ownB_ok (fa 5 _ rfl)
    inO := ownB_ok (fa 6 _ rfl)
    lenO := ownB_ok (fa 7 _ rfl)
    self1 := fa 8 _ rfl
    addO := (bin (fa 9 _ rfl)).1
    addT := tupNoB_ok (bin (fa 9 _ rfl)).2
    subO := (bin (fa 10 _ rfl)).1
    subT := tupNoB_ok (bin (fa 10 _ rfl)).2
    isC := He.eqO_ok i1
    isG := He.eqO_ok i2
    isT := of_decide_eq_true i3
    isM := of_decide_eq_true i4
    isN := of_decide_eq_true i5
    rowsP := propB_ok (fa 12 _ rfl)
    clO := clsB_ok (fa 13 _ rfl)
    nt := He.eqO_ok (fa 14 _ rfl)
    mkO := mkB_ok (fa 15 _ rfl)
    stopP := propB_ok (fa 16 _ rfl)
    endsP := propB_ok (fa 17 _ rfl)
    mkA := ⟨m1, He.eqO_ok m2, m3⟩
    callA := ⟨ca.at_, ca.fn, ca.fi⟩ }
end Rw

-- D0
set_option Elab.async false
set_option linter.all false
set_option maxRecDepth 100000
set_option maxHeartbeats 4000000
/-! Words for the defs: promises by values, what stands in the heap. -/
namespace Rw
open PySem PySem.Spec PyProof.Rows L2

section
variable {P : Program} {w : World} {K : PySem.W.Frag} {mg : Str → Option Value} {base : Heap}
/-- a def keeps its promise -/
theorem okR {x qual : Str} {st : Stmt} {f : Addr} {N ps : List Str} {k : Nat} {sp : Sp} (F : ∃ fd, Fun K x qual st f fd) (S : FnScope N ps (defScope st))
    (hb : ∀ (kV doc pm : Value) (an : Option Addr) (cdv ct : Value) (us : List Value), us.length = ps.length → bindArgs (PySem.W.fnOf x qual (defArgs st) (defBody st) (defScope st) .none kV doc pm an cdv ct) ⟨us, []⟩ = pure (ps.zip us))
    (len : ∀ vs H Q E, sp vs H Q E → vs.length = ps.length)
    (hbody : ∀ (cdv : Value) (A : Around) (outer : List Env) (s : Shared) (H : Hp) (vs : List V) (Q : VK) (E : XK), Room k (A.deeper (envOfC qual (defScope st) s.heap.objs.size f cdv)) → sp vs H Q E →
      ∃ t, PSs (cxOf CX0 P w K mg base N qual (defScope st) f cdv A outer s H E).nox (defBody st) t ∧ t { nx := fun _ H' => Q .non H', rt := Q } (start N vs) H) : FnR P w K mg base CX0 (k + 1) f sp := by
  obtain ⟨fd, F⟩ := F
  have G : FnOk P w K mg base CX0 (k + 1) f fd ps sp := F.ok S len hbody
  have z := G.raw (F.binds hb) (dvs := []) .nil
  exact z.imp fun vs H Q E h => by rw [List.append_nil]; exact h
end

/-! ### heaps -/
theorem Same.tup {K : PySem.W.Frag} {H H' : Hp} {a : Addr} {xs : List V} (e : Same H H') (h : SqT K H a xs) : SqT K H' a xs := by
  rcases h with (h | ⟨o, h⟩) | h
  · exact .inl (.inl (e _ _ h))
  · exact .inl (.inr ⟨o, e _ _ h⟩)
  · exact .inr h
theorem same_up {H : Hp} {p : Addr} {o : HO} (h : H p = none) : Same H (upd H p o) := fun b x e => by
  rw [upd_ne (ne_of_none e h)]
  exact e
theorem Same.up {H H1 : Hp} {p : Addr} {o : HO} (s : Same H H1) (h : H1 p = none) : Same H (upd H1 p o) := s.trans (same_up h)
/-- an object that was made since is changed -/
theorem Same.set {H H1 : Hp} {p : Addr} {o : HO} (s : Same H H1) (h : H p = none) : Same H (upd H1 p o) := fun b x e => by
  rw [upd_ne (ne_of_none e h)]
  exact s _ _ e
mutual
theorem Dp.same {K : PySem.W.Frag} {H H' : Hp} (s : Same H H') : ∀ (d : PyData) (v : V), Dp K H v d → Dp K H' v d
  | .none, _, h => by cases h; exact .non
  | .bool _, _, h => by cases h; exact .bl _
  | .int _, _, h => by cases h; exact .int _
  | .str _, _, h => by cases h; exact .str _
  | .list ds, _, h => by cases h with | lst a b => exact .lst (s.seq a) (DpAll.same s ds _ b)
  | .tuple ds, _, h => by cases h with | tup a b => exact .tup (Same.tup s a) (DpAll.same s ds _ b)
  | .dict _, _, h => by cases h
theorem DpAll.same {K : PySem.W.Frag} {H H' : Hp} (s : Same H H') : ∀ (ds : List PyData) (vs : List V), DpAll K H vs ds → DpAll K H' vs ds
  | [], _, h => by cases h; exact .nil
  | d :: ds, _, h => by cases h with | cons a b => exact .cons (Dp.same s d _ a) (DpAll.same s ds _ b)
end
theorem dp_tup {K : PySem.W.Frag} {H : Hp} {v : V} {ds : List PyData} (h : Dp K H v (.tuple ds)) : ∃ a xs, v = .ref a ∧ SqT K H a xs ∧ DpAll K H xs ds := by
  cases h with | tup a b => exact ⟨_, _, rfl, a, b⟩
theorem dp_lst {K : PySem.W.Frag} {H : Hp} {v : V} {ds : List PyData} (h : Dp K H v (.list ds)) : ∃ a xs, v = .ref a ∧ SqL K H a xs ∧ DpAll K H xs ds := by
  cases h with | lst a b => exact ⟨_, _, rfl, a, b⟩
theorem dp_int {K : PySem.W.Frag} {H : Hp} {v : V} {i : Int} (h : Dp K H v (.int i)) : v = .int i := by
  cases h; rfl
theorem dpAll_int {K : PySem.W.Frag} {H : Hp} : ∀ {ns : List Int} {vs : List V}, DpAll K H vs (ns.map PyData.int) → vs = ns.map V.int
  | [], _, h => by cases h; rfl
  | n :: ns, _, h => by
    cases h with
    | cons a b =>
      rw [dp_int a, dpAll_int b]
      rfl
theorem dpAll_get {K : PySem.W.Frag} {H : Hp} : ∀ {ds : List PyData} {vs : List V} {i : Nat} {d : PyData}, DpAll K H vs ds → ds[i]? = some d → ∃ v, vs[i]? = some v ∧ Dp K H v d
  | [], _, i, d, _, e => by simp at e
  | d' :: ds, _, 0, d, h, e => by
    cases h with
    | cons a b =>
      cases e
      exact ⟨_, rfl, a⟩
  | d' :: ds, _, i + 1, d, h, e => by
    cases h with
    | cons a b =>
      obtain ⟨v, h1, h2⟩ := dpAll_get (i := i) b (by simpa using e)
      exact ⟨v, by simpa using h1, h2⟩
theorem dpAll_len {K : PySem.W.Frag} {H : Hp} {vs : List V} {ds : List PyData} (h : DpAll K H vs ds) : vs.length = ds.length := (dpAll_zip h).1
theorem dpAll_snoc {K : PySem.W.Frag} {H : Hp} : ∀ {vs : List V} {ds : List PyData} {v : V} {d : PyData}, DpAll K H vs ds → Dp K H v d → DpAll K H (vs ++ [v]) (ds ++ [d])
  | [], [], _, _, _, h => .cons h .nil
  | [], _ :: _, _, _, h, _ => by cases h
  | _ :: _, [], _, _, h, _ => by cases h
  | _ :: _, _ :: _, _, _, h, k => by
    cases h with
    | cons a b => exact .cons a (dpAll_snoc b k)
/-- a list is changed: data without lists stay -/
def NotL (H : Hp) (p : Addr) : Prop := ∀ xs o, H p ≠ some (.tup xs) ∧ H p ≠ some (.frz o (.tup xs))
theorem notL_lst {H : Hp} {p : Addr} {xs : List V} (h : H p = some (.lst xs)) : NotL H p := fun ys o => by
  rw [h]
  exact ⟨(fun e => by cases e), (fun e => by cases e)⟩
theorem notL_dK {H : Hp} {p : Addr} {xs : List (Key × V)} (h : H p = some (.dK xs)) : NotL H p := fun ys o => by
  rw [h]
  exact ⟨(fun e => by cases e), (fun e => by cases e)⟩
theorem tup_set {K : PySem.W.Frag} {H : Hp} {a p : Addr} {xs : List V} {o : HO} (n : NotL H p) (h : SqT K H a xs) : SqT K (upd H p o) a xs := by
  rcases h with (h | ⟨o', h⟩) | h
  · have ne : a ≠ p := fun e => (n xs default).1 (by rw [← e]; exact h)
    exact .inl (.inl (by rw [upd_ne ne]; exact h))
  · have ne : a ≠ p := fun e => (n xs o').2 (by rw [← e]; exact h)
    exact .inl (.inr ⟨o', by rw [upd_ne ne]; exact h⟩)
  · exact .inr h
mutual
theorem Dp.set {K : PySem.W.Frag} {H : Hp} {p : Addr} {o : HO} (n : NotL H p) : ∀ (d : PyData) (v : V), noL d = true → Dp K H v d → Dp K (upd H p o) v d
  | .none, _, _, h => by cases h; exact .non
  | .bool _, _, _, h => by cases h; exact .bl _
  | .int _, _, _, h => by cases h; exact .int _
  | .str _, _, _, h => by cases h; exact .str _
  | .list ds, _, l, h => by simp [noL] at l
  | .tuple ds, _, l, h => by cases h with | tup a b => exact .tup (tup_set n a) (DpAll.set n ds _ (by simpa [noL] using l) b)
  | .dict _, _, l, h => by cases h
theorem DpAll.set {K : PySem.W.Frag} {H : Hp} {p : Addr} {o : HO} (n : NotL H p) : ∀ (ds : List PyData) (vs : List V), noLs ds = true → DpAll K H vs ds → DpAll K (upd H p o) vs ds
  | [], _, _, h => by cases h; exact .nil
  | d :: ds, _, l, h => by
    have l' : noL d = true ∧ noLs ds = true := by simpa [noLs] using l
    cases h with | cons a b => exact .cons (Dp.set n d _ l'.1 a) (DpAll.set n ds _ l'.2 b)
end

/-! ### tables -/
abbrev Tb := List (Int × Int)
def KeyB (i : Int) : Prop := -(10 ^ 30) < i ∧ i < 10 ^ 30
structure Good (r : Tb) : Prop where
  asc : (r.map (·.1)).Pairwise (· < ·)
  len : r.length ≤ 40
  kb : ∀ p ∈ r, KeyB p.1 ∧ KeyB p.2
def kvI (d : Tb) : List (Key × V) := d.map fun p => (Sum.inl p.1, V.int p.2)
/-- a table stands at p; r: its rows in ascending order -/
def TabAt (K : PySem.W.Frag) (H : Hp) (p : Addr) (r : Tb) : Prop := Good r ∧ ∃ dx dd d, H p = some (.ins (cT K) dx [("wants", .ref dd)]) ∧ H dd = some (.dK (kvI d)) ∧ d.Perm r
theorem TabAt.same {K : PySem.W.Frag} {H H' : Hp} {p : Addr} {r : Tb} (s : Same H H') (h : TabAt K H p r) : TabAt K H' p r := by
  obtain ⟨g, dx, dd, d, h1, h2, h3⟩ := h
  exact ⟨g, dx, dd, d, s _ _ h1, s _ _ h2, h3⟩
theorem TabAt.ins {K : PySem.W.Frag} {H : Hp} {p : Addr} {r : Tb} (h : TabAt K H p r) : ∃ dx fs, H p = some (.ins (cT K) dx fs) := by
  obtain ⟨g, dx, dd, d, h1, h2, h3⟩ := h
  exact ⟨dx, _, h1⟩
def keysT (r : Tb) : List Int := r.map (·.1)
theorem nodup_asc {l : List Int} (h : l.Pairwise (· < ·)) : l.Nodup := h.imp fun {a b} q e => by omega
theorem Good.nd {r : Tb} (g : Good r) : (keysT r).Nodup := nodup_asc g.asc
/-- what a row wants -/
def newT (r : Tb) (k : Int) : Option Int := (r.find? fun p => p.1 == k).map (·.2)
theorem newT_of {r : Tb} (nd : (keysT r).Nodup) {k v : Int} (h : (k, v) ∈ r) : newT r k = some v := by
  induction r with
  | nil => simp at h
  | cons q r ih =>
    obtain ⟨a, b⟩ := q
    have nd' := List.nodup_cons.mp nd
    unfold newT
    rw [List.find?_cons]
    rcases List.mem_cons.mp h with e | e
    · cases e
      simp
    · have hne : a ≠ k := fun e2 => nd'.1 (List.mem_map.mpr ⟨(k, v), e, e2.symm⟩)
      have : (a == k) = false := by simpa using hne
      simp only [this]
      exact ih nd'.2 e
theorem newT_mem {r : Tb} {k v : Int} (h : newT r k = some v) : (k, v) ∈ r := by
  unfold newT at h
  obtain ⟨p, hp, e⟩ := Option.map_eq_some_iff.mp h
  have h1 := List.find?_some hp
  have h2 := List.mem_of_find?_eq_some hp
  have : p.1 = k := by simpa using h1
  rw [← this, ← e]
  exact h2
theorem newT_iff {r : Tb} (nd : (keysT r).Nodup) {k v : Int} : newT r k = some v ↔ (k, v) ∈ r := ⟨newT_mem, newT_of nd⟩
theorem newT_none {r : Tb} {k : Int} : newT r k = none ↔ k ∉ keysT r := by
  unfold newT keysT
  rw [Option.map_eq_none_iff, List.find?_eq_none]
  constructor
  · intro h hm
    obtain ⟨p, hp, e⟩ := List.mem_map.mp hm
    have := h p hp
    simp [e] at this
  · intro h p hp hq
    have : p.1 = k := by simpa using hq
    exact h (List.mem_map.mpr ⟨p, hp, this⟩)
theorem newT_some {r : Tb} {k : Int} (h : k ∈ keysT r) : ∃ v, newT r k = some v := by
  cases e : newT r k with
  | none => exact absurd h (newT_none.mp e)
  | some v => exact ⟨v, rfl⟩
/-- what a row waits for -/
def wtT (r : Tb) (k : Int) : Option Int := match newT r k with
  | none => none
  | some v => if v ≠ k ∧ v ∈ keysT r then some v else none
theorem wtT_some {r : Tb} {k v : Int} : wtT r k = some v ↔ newT r k = some v ∧ v ≠ k ∧ v ∈ keysT r := by
  unfold wtT
  cases e : newT r k with
  | none => simp
  | some u =>
    by_cases h : u ≠ k ∧ u ∈ keysT r
    · simp only [if_pos h]
      constructor
      · intro q
        cases q
        exact ⟨rfl, h.1, h.2⟩
      · rintro ⟨q, _, _⟩
        exact q
    · simp only [if_neg h]
      constructor
      · intro q; cases q
      · rintro ⟨q, a, b⟩
        cases q
        exact absurd ⟨a, b⟩ h
/-- no two rows compete -/
def Inj (r : Tb) : Prop := (r.map (·.2)).Nodup
theorem gr_of {r : Tb} (g : Good r) (i : Inj r) : Rc.Gr (keysT r) (wtT r) where
  nd := g.nd
  dom := fun {x y} h => by
    obtain ⟨h1, _, _⟩ := wtT_some.mp h
    exact List.mem_map.mpr ⟨_, newT_mem h1, rfl⟩
  cod := fun {x y} h => (wtT_some.mp h).2.2
  irr := fun {x y} h => fun e => (wtT_some.mp h).2.1 e.symm
  inj := fun {x y z} h h' => by
    have a := newT_mem (wtT_some.mp h).1
    have b := newT_mem (wtT_some.mp h').1
    obtain ⟨m, hm⟩ := List.getElem?_of_mem a
    obtain ⟨n, hn⟩ := List.getElem?_of_mem b
    have e1 : (r.map (·.2))[m]? = some z := by rw [List.getElem?_map, hm]; rfl
    have e2 : (r.map (·.2))[n]? = some z := by rw [List.getElem?_map, hn]; rfl
    have := Rc.nd_idx i e1 e2
    subst this
    rw [hm] at hn
    cases hn
    rfl
end Rw

-- S1
set_option Elab.async false
set_option linter.all false
set_option maxRecDepth 100000
set_option maxHeartbeats 4000000
/-! Rows and pieces as data, their sorting; comprehensions that change nothing. -/
namespace Rw
open PySem PySem.Spec PyProof.Rows L2
/-- a tuple of ints as data -/
def tI (ns : List Int) : PyData := .tuple (ns.map .int)
/-- a row as data -/
def rD (p : Int × Int) : PyData := tI [p.1, p.2]
def rL (p : Int × Int) : List Int := [p.1, p.2]
theorem rD_map (r : Tb) : r.map rD = (r.map rL).map tI := by
  rw [List.map_map]
  rfl
theorem noLs_ints (ns : List Int) : noLs (ns.map .int) = true := by
  induction ns with
  | nil => rfl
  | cons n ns ih =>
    show noLs (.int n :: ns.map .int) = true
    unfold noLs
    rw [ih]
    rfl
theorem noL_tI (ns : List Int) : noL (tI ns) = true := by
  unfold tI noL
  exact noLs_ints ns
theorem noLs_tI (L : List (List Int)) : noLs (L.map tI) = true := by
  induction L with
  | nil => rfl
  | cons n ns ih =>
    show noLs (tI n :: ns.map tI) = true
    unfold noLs
    rw [ih, noL_tI]
    rfl
theorem tI_inj {a b : List Int} (h : tI a = tI b) : a = b := by
  unfold tI at h
  have h2 : a.map PyData.int = b.map PyData.int := by injection h
  exact (List.map_inj_right fun x y e => by injection e).mp h2
theorem alike_ints : ∀ a b : List Int, PySem.W.alikeAll (a.map .int) (b.map .int) = true
  | [], _ => by simp [PySem.W.alikeAll]
  | _ :: _, [] => by simp [PySem.W.alikeAll]
  | x :: a, y :: b => by
    show PySem.W.alikeAll (.int x :: a.map .int) (.int y :: b.map .int) = true
    simp only [PySem.W.alikeAll, PySem.W.alike, Bool.true_and]
    exact alike_ints a b
theorem alike_tI (a b : List Int) : PySem.W.alike (tI a) (tI b) = true := by
  simp only [tI, PySem.W.alike]
  exact alike_ints a b
theorem lt_tI (a b : List Int) : PySem.W.dataLt (tI a) (tI b) = decide (a < b) := by
  unfold tI
  rw [PySem.W.dataLt_tuple]
  exact PySem.W.dataLt_ints a b
theorem depth_ints : ∀ ns : List Int, PyData.depthAll (ns.map .int) ≤ 1
  | [] => by decide
  | n :: ns => by
    have := depth_ints ns
    show PyData.depthAll (.int n :: ns.map .int) ≤ 1
    simp only [PyData.depthAll, PyData.depth]
    omega
theorem depth_tI (ns : List Int) : (tI ns).depth ≤ 8 := by
  unfold tI
  have := depth_ints ns
  simp only [PyData.depth]
  omega
/-- the sorted list of lists is the only one -/
theorem lex_eq {L S : List (List Int)} (p : S.Perm L) (h : S.Pairwise (· ≤ ·)) (h' : L.Pairwise (· ≤ ·)) : S = L :=
  List.Perm.eq_of_pairwise (fun a b _ _ x y => List.le_antisymm x y) h h' p
theorem int_eq {L S : List Int} (p : S.Perm L) (h : S.Pairwise (· ≤ ·)) (h' : L.Pairwise (· ≤ ·)) : S = L :=
  List.Perm.eq_of_pairwise (fun a b _ _ x y => by omega) h h' p
theorem perm_map_of {α β : Type} {f : α → β} {L : List α} : ∀ {es : List β}, es.Perm (L.map f) → ∃ S : List α, es = S.map f ∧ S.Perm L := by
  intro es h
  induction h' : es.length generalizing es L with
  | zero =>
    have : es = [] := List.length_eq_zero_iff.mp h'
    subst this
    have : L.map f = [] := h.nil_eq.symm
    have : L = [] := by simpa using this
    subst this
    exact ⟨[], rfl, .nil⟩
  | succ n ih =>
    cases es with
    | nil => simp at h'
    | cons e es =>
      have hm : e ∈ L.map f := h.mem_iff.mp (by simp)
      obtain ⟨x, hx, ex⟩ := List.mem_map.mp hm
      obtain ⟨L1, L2, rfl⟩ := List.append_of_mem hx
      have h2 : es.Perm ((L1 ++ L2).map f) := by
        have z : (e :: es).Perm (e :: (L1 ++ L2).map f) := h.trans (by
          subst ex
          simp only [List.map_append, List.map_cons]
          exact List.perm_middle)
        exact (List.perm_cons e).mp z
      obtain ⟨S, e1, e2⟩ := ih h2 (by simpa using h')
      exact ⟨x :: S, by rw [e1, ← ex]; rfl, (e2.cons x).trans List.perm_middle.symm⟩
theorem sortable_tI {L : List (List Int)} (hne : ∀ x ∈ L, x ≠ []) : PySem.W.AllAlike (L.map tI) ∧ PySem.W.Sortable (L.map tI) := by
  constructor
  · intro a ha b hb
    obtain ⟨x, _, rfl⟩ := List.mem_map.mp ha
    obtain ⟨y, _, rfl⟩ := List.mem_map.mp hb
    exact alike_tI x y
  · refine .inl fun a ha => ?_
    obtain ⟨x, hx, rfl⟩ := List.mem_map.mp ha
    cases x with
    | nil => exact absurd rfl (hne _ hx)
    | cons n ns => exact ⟨.int n, ns.map .int, rfl⟩
theorem sortGo_tI {K : PySem.W.Frag} {H : Hp} {L : List (List Int)} {Q : VK} (hl : L.length ≤ 1000) (hne : ∀ x ∈ L, x ≠ [])
    (h : ∀ p ys (S : List (List Int)), H p = none → DpAll K H ys (S.map tI) → S.Perm L → S.Pairwise (· ≤ ·) → Q (.ref p) (upd H p (.lst ys))) : SortGo K H (L.map tI) Q := by
  refine ⟨(sortable_tI hne).1, (sortable_tI hne).2, ?_, fun d hd => ?_, fun p ys es hp hd pm pw => ?_⟩
  · rw [List.length_map]
    exact Nat.le_of_lt (small1000 hl)
  · obtain ⟨x, _, rfl⟩ := List.mem_map.mp hd
    exact ⟨noL_tI x, depth_tI x⟩
  · obtain ⟨S, rfl, e2⟩ := perm_map_of pm
    refine h p ys S hp hd e2 ?_
    rw [List.pairwise_map] at pw
    refine pw.imp fun {a b} q => ?_
    rw [lt_tI] at q
    have : ¬ b < a := of_decide_eq_false q
    exact List.not_lt.mp this
theorem sortGo_int {K : PySem.W.Frag} {H : Hp} {L : List Int} {Q : VK} (hl : L.length ≤ 1000)
    (h : ∀ p (S : List Int), H p = none → S.Perm L → S.Pairwise (· ≤ ·) → Q (.ref p) (upd H p (.lst (S.map V.int)))) : SortGo K H (L.map .int) Q := by
  refine ⟨fun a ha b hb => ?_, .inr fun a ha => ?_, ?_, fun d hd => ?_, fun p ys es hp hd pm pw => ?_⟩
  · obtain ⟨x, _, rfl⟩ := List.mem_map.mp ha
    obtain ⟨y, _, rfl⟩ := List.mem_map.mp hb
    simp [PySem.W.alike]
  · obtain ⟨x, _, rfl⟩ := List.mem_map.mp ha
    exact ⟨(fun e => by cases e), (fun xs e => by cases e)⟩
  · rw [List.length_map]
    exact Nat.le_of_lt (small1000 hl)
  · obtain ⟨x, _, rfl⟩ := List.mem_map.mp hd
    exact ⟨rfl, by simp [PyData.depth]⟩
  · obtain ⟨S, rfl, e2⟩ := perm_map_of pm
    rw [dpAll_int hd]
    refine h p S hp e2 ?_
    rw [List.pairwise_map] at pw
    refine pw.imp fun {a b} q => ?_
    rw [PySem.W.dataLt_int] at q
    have := of_decide_eq_false q
    omega
/-- the rows of a table, sorted -/
theorem pair_lt {a b : Int × Int} (h : a.1 < b.1) : rL a ≤ rL b := by
  refine List.le_of_lt ?_
  exact List.Lex.rel h
theorem rows_sorted {r : Tb} (h : (r.map (·.1)).Pairwise (· < ·)) : (r.map rL).Pairwise (· ≤ ·) := by
  rw [List.pairwise_map] at h ⊢
  exact h.imp pair_lt
/-! ### isinstance -/
theorem tyX_tup {K : PySem.W.Frag} {H : Hp} {a : Addr} {xs : List V} (h : SqT K H a xs) : TyX K H (.ref a) (.type "tuple") := by
  rcases h with (h | ⟨o, h⟩) | ⟨o, its, n, h1, h2, _⟩
  · exact .base (.tup h)
  · exact .fTuple h
  · exact .kTuple h1 h2
/-! ### the heap without one object -/
def hid (H : Hp) (D : Addr) : Hp := fun b => if b = D then none else H b
theorem hid_same {H : Hp} {D : Addr} : Same (hid H D) H := fun b o e => by
  unfold hid at e
  by_cases h : b = D
  · rw [if_pos h] at e
    cases e
  · rw [if_neg h] at e
    exact e
theorem hid_ne {H : Hp} {D b : Addr} (h : b ≠ D) : hid H D b = H b := by
  unfold hid
  rw [if_neg h]
theorem hid_upd {H : Hp} {D : Addr} {o : HO} : hid (upd H D o) D = hid H D := by
  funext b
  unfold hid
  by_cases h : b = D
  · rw [if_pos h, if_pos h]
  · rw [if_neg h, if_neg h, upd_ne h]
theorem hid_none {H : Hp} {D : Addr} (h : H D = none) : hid H D = H := by
  funext b
  unfold hid
  by_cases e : b = D
  · rw [if_pos e, e, h]
  · rw [if_neg e]
theorem hid_mono {H H' : Hp} {D : Addr} (s : Same H H') : Same (hid H D) (hid H' D) := fun b o e => by
  have hb : b ≠ D := fun z => by
    unfold hid at e
    rw [if_pos z] at e
    cases e
  rw [hid_ne hb] at e
  rw [hid_ne hb]
  exact s b o e
theorem hid_up {H : Hp} {D p : Addr} {o : HO} (h : p ≠ D) : hid (upd H p o) D = upd (hid H D) p o := by
  funext b
  by_cases e : b = D
  · subst e
    rw [upd_ne (Ne.symm h)]
    unfold hid
    rw [if_pos rfl, if_pos rfl]
  · rw [hid_ne e]
    by_cases e2 : b = p
    · rw [e2, upd_same, upd_same]
    · rw [upd_ne e2, upd_ne e2, hid_ne e]
/-- what stands with D aside stands when D's content is changed -/
theorem same_but {H H' : Hp} {D : Addr} {o : HO} (s : Same H (hid H' D)) : Same H (upd H' D o) := by
  have : Same (hid (upd H' D o) D) (upd H' D o) := hid_same
  rw [hid_upd] at this
  exact s.trans this
/-! ### a comprehension that changes nothing but its list -/
structure LcAt (F : Nat → List V → Hp → Prop) (D : Addr) (H1 : Hp) (i : Nat) (acc : List V) (H : Hp) : Prop where
  same : Same H1 (hid H D)
  at_ : H D = some (.lst acc)
  len : acc.length ≤ i
  le : i ≤ 900
  f : F i acc (hid H D)
def LcP (F : Nat → List V → Hp → Prop) (D : Addr) (H1 : Hp) (i : Nat) (H : Hp) : Prop := ∃ acc, LcAt F D H1 i acc H
section
variable {F : Nat → List V → Hp → Prop} {D : Addr} {H1 H H4 : Hp} {i : Nat} {acc : List V} {y : V}
/-- a value is put behind -/
theorem LcAt.snoc (L : LcAt F D H1 i acc H) (hi : i + 1 ≤ 900) (s : Same H H4) (f : F (i + 1) (acc ++ [y]) (hid H4 D)) : ∃ acc, H4 D = some (.lst acc) ∧ acc.length < sizeLine ∧ LcP F D H1 (i + 1) (upd H4 D (.lst (acc ++ [y]))) := by
  have := L.len
  refine ⟨acc, s _ _ L.at_, small1000 (by omega), acc ++ [y], ?_, upd_same, by simp; omega, hi, ?_⟩
  · rw [hid_upd]
    exact L.same.trans (hid_mono s)
  · rw [hid_upd]
    exact f
/-- nothing is put -/
theorem LcAt.skip (L : LcAt F D H1 i acc H) (hi : i + 1 ≤ 900) (s : Same H H4) (f : F (i + 1) acc (hid H4 D)) : LcP F D H1 (i + 1) H4 :=
  ⟨acc, L.same.trans (hid_mono s), s _ _ L.at_, by have := L.len; omega, hi, f⟩
end
theorem lc_go {J : It} {n : Nat} {G : Hp → Prop} {Y : Nat → Hp → V → Hp → Prop} (w : Walk J n G Y) {g : TG} {tt : TT} {te : TE} {vs : List Nat} {σ : L2.St} {H1 : Hp} {D : Addr} {Qd : Hp → Prop} (F : Nat → List V → Hp → Prop)
    (hn : n ≤ 900) (hD : H1 D = none) (hG : ∀ H, Same H1 H → G H) (h0 : F 0 [] H1)
    (hs : ∀ i x H H' acc, i < n → LcAt F D H1 i acc H → Y i H x H' → g x (wipe σ vs) H' fun σ2 H2 => wipe σ2 vs = wipe σ vs ∧ tt σ2 H2 fun b H3 =>
      if b = true then te σ2 H3 fun y H4 => ∃ acc, H4 D = some (.lst acc) ∧ acc.length < sizeLine ∧ LcP F D H1 (i + 1) (upd H4 D (.lst (acc ++ [y]))) else LcP F D H1 (i + 1) H3)
    (hd : ∀ H acc, Same H1 H → H D = some (.lst acc) → F n acc (hid H D) → acc.length ≤ n → Qd H) :
    ∃ W : Nat → Nat → Hp → Prop, (∃ m, W 0 m (upd H1 D (.lst []))) ∧ ∀ i m H, W i m H →
      (J.stop i H ∧ Qd H) ∨ (J.go i H ∧ ∃ Nx : Hp → Prop, (∀ H', Nx H' → ∃ m', m' < m ∧ W (i + 1) m' H') ∧ ∀ x H', J.yld i H x H' → g x (wipe σ vs) H' fun σ2 H2 => wipe σ2 vs = wipe σ vs ∧ tt σ2 H2 fun b H3 =>
        if b = true then te σ2 H3 fun y H4 => ∃ acc, H4 D = some (.lst acc) ∧ acc.length < sizeLine ∧ Nx (upd H4 D (.lst (acc ++ [y]))) else Nx H3) := by
  refine lc_it w (LcP F D H1) ?_ ?_ ?_ ?_
  · refine ⟨[], ?_, upd_same, Nat.le_refl _, Nat.zero_le _, ?_⟩
    · rw [hid_upd, hid_none hD]
      exact Same.refl _
    · rw [hid_upd, hid_none hD]
      exact h0
  · rintro i H _ ⟨acc, L⟩
    exact hG H (L.same.trans hid_same)
  · rintro i x H H' hi ⟨acc, L⟩ y
    exact hs i x H H' acc hi L y
  · rintro H ⟨acc, L⟩
    exact hd H acc (L.same.trans hid_same) L.at_ L.f L.len
end Rw

-- D1
set_option Elab.async false
set_option linter.all false
set_option maxRecDepth 100000
set_option maxHeartbeats 4000000
/-! is_integer, is_key, is_row, need_table. -/
namespace Rw
open PySem PySem.Spec PyProof.Rows L2
section
variable {P : Program} {w : World} {K : PySem.W.Frag} {mg : Str → Option Value} {base : Heap}
theorem sc_is_integer : FnScope ["thing"] ["thing"] (defScope s_is_integer) := ⟨rfl, rfl, rfl, by decide +kernel, rfl, by decide +kernel, by decide +kernel⟩
def spIsInt : Sp := fun vs H Q _ => ∃ i : Int, vs = [.int i] ∧ Q (.bl true) H
theorem ok_is_integer (T : Txt K mg) : FnR P w K mg base CX0 1 (a_is_integer K) spIsInt := by
  refine okR T.f_is_integer sc_is_integer (fun _ _ _ _ _ _ us hl => match us, hl with | [_], _ => rfl) (fun vs H Q E h => ?_) (fun cdv A outer s H vs Q E hr h => ?_)
  · obtain ⟨i, rfl, _⟩ := h
    rfl
  · obtain ⟨i, rfl, q⟩ := h
    refine ⟨_, pss_one (ps_ret (pe_and (pe_callB call_isi (by rfl) T.n_isinstance boot_isinstance (pa_cons (pv 0) (pa_cons (pe_bltn (v := .ty "int") (by rfl) T.n_int boot_int rfl) pa_nil)))
      (pe_one (pe_not (pe_callB call_isi (by rfl) T.n_isinstance boot_isinstance (pa_cons (pv 0) (pa_cons (pe_bltn (v := .ty "bool") (by rfl) T.n_bool (by decide +kernel) rfl) pa_nil))))))), ?_⟩
    refine ⟨_, rfl, .int i, .ty "int", .type "int", .type "int", true, rfl, .ty _, .base (.int i), kit_ty (by decide +kernel), true, rfl, iteT ?_⟩
    exact ⟨_, rfl, .int i, .ty "bool", .type "int", .type "bool", false, rfl, .ty _, .base (.int i), kit_ty (by decide +kernel), false, rfl, q⟩
theorem sc_is_key : FnScope ["thing"] ["thing"] (defScope s_is_key) := ⟨rfl, rfl, rfl, by decide +kernel, rfl, by decide +kernel, by decide +kernel⟩
instance : DecidablePred KeyB := fun i => by unfold KeyB; exact inferInstance
def spIsKey : Sp := fun vs H Q _ => ∃ i : Int, vs = [.int i] ∧ Q (.bl (decide (KeyB i))) H
theorem ok_is_key (T : Txt K mg) : FnR P w K mg base CX0 2 (a_is_key K) spIsKey := by
  refine okR T.f_is_key sc_is_key (fun _ _ _ _ _ _ us hl => match us, hl with | [_], _ => rfl) (fun vs H Q E h => ?_) (fun cdv A outer s H vs Q E hr h => ?_)
  · obtain ⟨i, rfl, _⟩ := h
    rfl
  · obtain ⟨i, rfl, q⟩ := h
    obtain ⟨t, hkb⟩ := T.kb
    refine ⟨_, pss_one (ps_ret (pe_and (pe_cl (ok_is_integer T) hr (by rfl) T.g_is_integer (T.f_is_integer.elim fun _ F => F.kp) pass0 (pa_cons (pv 0) pa_nil))
      (pe_one (pe_chain op_lt op_lt (pe_un un_neg (pe_glob (v := .int (10 ^ 30)) (by rfl) hkb ⟨t, rfl⟩)) (pv 0) (pe_glob (v := .int (10 ^ 30)) (by rfl) hkb ⟨t, rfl⟩))))), ?_⟩
    refine ⟨_, rfl, i, rfl, true, rfl, iteT ?_⟩
    refine ⟨_, rfl, _, rfl, _, _, rfl, rfl, decide (-(10 ^ 30) < i), rfl, ?_⟩
    by_cases h1 : -(10 ^ 30) < i
    · rw [decide_eq_true h1]
      refine iteT ⟨_, _, rfl, rfl, ?_⟩
      have e : decide (i < 10 ^ 30) = decide (KeyB i) := decide_eq_decide.mpr ⟨fun h2 => ⟨h1, h2⟩, fun h2 => h2.2⟩
      show Q (.bl (decide (i < 10 ^ 30))) H
      rw [e]
      exact q
    · rw [decide_eq_false h1]
      have e : decide (KeyB i) = false := decide_eq_false fun h2 => h1 h2.1
      rw [e] at q
      exact iteF q
theorem sc_is_row : FnScope ["thing"] ["thing"] (defScope s_is_row) := ⟨rfl, rfl, rfl, by decide +kernel, rfl, by decide +kernel, by decide +kernel⟩
/-- a pair of keys -/
def spIsRow (K : PySem.W.Frag) : Sp := fun vs H Q _ => ∃ (a : Addr) (k v : Int), vs = [.ref a] ∧ SqT K H a [.int k, .int v] ∧ KeyB k ∧ KeyB v ∧ Q (.bl true) H
theorem ok_is_row (T : Txt K mg) : FnR P w K mg base CX0 3 (a_is_row K) (spIsRow K) := by
  refine okR T.f_is_row sc_is_row (fun _ _ _ _ _ _ us hl => match us, hl with | [_], _ => rfl) (fun vs H Q E h => ?_) (fun cdv A outer s H vs Q E hr h => ?_)
  · obtain ⟨a, k, v, rfl, _⟩ := h
    rfl
  · obtain ⟨a, k, v, rfl, ha, hk, hv, q⟩ := h
    have gk := T.f_is_key.elim fun _ F => F.kp
    refine ⟨_, pss_one (ps_ret (pe_and (pe_callB call_isi (by rfl) T.n_isinstance boot_isinstance (pa_cons (pv 0) (pa_cons (pe_bltn (v := .ty "tuple") (by rfl) T.n_tuple (by decide +kernel) rfl) pa_nil)))
      (pe_and (pe_cmpR op_eq (pe_callB call_len_seq (by rfl) T.n_len PySem.boot_len (pa_cons (pv 0) pa_nil)) pe_int (nomark _))
      (pe_and (pe_cl (ok_is_key T) hr (by rfl) T.g_is_key gk pass0 (pa_cons (pe_ix ix_tup (pv 0) pe_int (fun _ _ => rfl)) pa_nil))
      (pe_one (pe_cl (ok_is_key T) hr (by rfl) T.g_is_key gk pass0 (pa_cons (pe_ix ix_tup (pv 0) pe_int (fun _ _ => rfl)) pa_nil))))))), ?_⟩
    have hT := ha
    refine ⟨_, rfl, .ref a, .ty "tuple", .type "tuple", .type "tuple", true, rfl, .ty _, tyX_tup ha, kit_ty (by decide +kernel), true, rfl, iteT ?_⟩
    refine ⟨_, rfl, a, [.int k, .int v], rfl, .inr hT, rfl, _, rfl, iteT ?_⟩
    refine ⟨_, rfl, a, _, 0, _, rfl, rfl, hT, atI_nat (j := 0) rfl, k, rfl, decide (KeyB k), rfl, ?_⟩
    rw [decide_eq_true hk]
    refine iteT ⟨_, rfl, a, _, 1, _, rfl, rfl, hT, atI_nat (j := 1) rfl, v, rfl, ?_⟩
    rw [decide_eq_true hv]
    exact q
end
end Rw

-- D2
set_option Elab.async false
set_option linter.all false
set_option maxRecDepth 100000
set_option maxHeartbeats 4000000
/-! checked_rows. -/
namespace Rw
open PySem PySem.Spec PyProof.Rows L2
/-- values that are pairs -/
theorem row_at {K : PySem.W.Frag} {H : Hp} {xs : List V} {d : Tb} (h : DpAll K H xs (d.map rD)) {j : Nat} {x : V} (e : xs[j]? = some x) : ∃ p a, d[j]? = some p ∧ x = .ref a ∧ SqT K H a [.int p.1, .int p.2] := by
  have hj := (List.getElem?_eq_some_iff.mp e).1
  have hl := dpAll_len h
  rw [List.length_map] at hl
  have hd : j < d.length := by omega
  obtain ⟨v, h1, h2⟩ := dpAll_get (d := rD d[j]) h (by rw [List.getElem?_map, List.getElem?_eq_getElem hd]; rfl)
  rw [e] at h1
  cases h1
  obtain ⟨a, ys, rfl, h3, h4⟩ := dp_tup h2
  rw [dpAll_int (ns := [d[j].1, d[j].2]) h4] at h3
  exact ⟨d[j], a, List.getElem?_eq_getElem hd, rfl, h3⟩
theorem kvI_snoc (d : Tb) (p : Int × Int) : kvI (d ++ [p]) = kvI d ++ [(Sum.inl p.1, V.int p.2)] := by
  unfold kvI
  rw [List.map_append]
  rfl
theorem kvI_val (d : Tb) (k : Int) : valV (kvI d) (Sum.inl k) = (newT d k).map V.int := by
  induction d with
  | nil => rfl
  | cons p d ih =>
    obtain ⟨a, b⟩ := p
    by_cases e : a = k
    · subst e
      show valV ((Sum.inl a, V.int b) :: kvI d) (Sum.inl a) = _
      rw [valV_pos rfl]
      unfold newT
      rw [List.find?_cons]
      simp
    · show valV ((Sum.inl a, V.int b) :: kvI d) (Sum.inl k) = _
      rw [valV_neg (fun q => e (Sum.inl.inj q)), ih]
      unfold newT
      rw [List.find?_cons]
      have : (a == k) = false := by simpa using e
      simp only [this]
theorem kvI_put {d : Tb} {k v : Int} (h : k ∉ keysT d) : putK (kvI d) (Sum.inl k) (.int v) = kvI (d ++ [(k, v)]) := by
  rw [putK_new _ (by rw [kvI_val, newT_none.mpr h]; rfl), kvI_snoc]
theorem kvI_len (d : Tb) : (kvI d).length = d.length := List.length_map _
theorem keysT_take {d : Tb} {i : Nat} {p : Int × Int} (nd : (keysT d).Nodup) (e : d[i]? = some p) : p.1 ∉ keysT (d.take i) := by
  intro hm
  obtain ⟨q, hq, eq⟩ := List.mem_map.mp hm
  obtain ⟨j, hj⟩ := List.getElem?_of_mem hq
  have hji : j < i := by
    have := (List.getElem?_eq_some_iff.mp hj).1
    rw [List.length_take] at this
    omega
  rw [List.getElem?_take_of_lt hji] at hj
  have a1 : (keysT d)[j]? = some p.1 := by
    unfold keysT
    rw [List.getElem?_map, hj]
    exact congrArg some eq
  have a2 : (keysT d)[i]? = some p.1 := by
    unfold keysT
    rw [List.getElem?_map, e]
    rfl
  have := Rc.nd_idx nd a1 a2
  omega
theorem take_snoc {α : Type} {d : List α} {i : Nat} {p : α} (e : d[i]? = some p) : d.take (i + 1) = d.take i ++ [p] := by
  rw [List.take_add_one, e]
  rfl
section
variable {P : Program} {w : World} {K : PySem.W.Frag} {mg : Str → Option Value} {base : Heap}
theorem sc_checked_rows : FnScope ["rows", "row", "wants", "key", "new"] ["rows"] (defScope s_checked_rows) := ⟨rfl, rfl, rfl, by decide +kernel, rfl, by decide +kernel, by decide +kernel⟩
/-- rows that can be a table's -/
structure Rws (d : Tb) : Prop where
  nd : (keysT d).Nodup
  len : d.length ≤ 40
  kb : ∀ p ∈ d, KeyB p.1 ∧ KeyB p.2
def spChecked (K : PySem.W.Frag) : Sp := fun vs H Q _ => ∃ (l : Addr) (xs : List V) (d : Tb), vs = [.ref l] ∧ SqL K H l xs ∧ DpAll K H xs (d.map rD) ∧ Rws d ∧ ∀ H' p, Same H H' → H p = none → H' p = some (.dK (kvI d)) → Q (.ref p) H'
theorem ok_checked_rows (T : Txt K mg) : FnR P w K mg base CX0 4 (a_checked_rows K) (spChecked K) := by
  refine okR T.f_checked_rows sc_checked_rows (fun _ _ _ _ _ _ us hl => match us, hl with | [_], _ => rfl) (fun vs H Q E h => ?_) (fun cdv A outer s H vs Q E hr h => ?_)
  · obtain ⟨a, xs, d, rfl, _⟩ := h
    rfl
  · obtain ⟨l, xs, d, rfl, hl, hp, hd, q⟩ := h
    have hu := hu_of hr
    have nd := sc_checked_rows.nd
    obtain ⟨t, hmr⟩ := T.mr
    refine ⟨_, pss_cons (ps_for PassesOwn.never rfl (pi_list (pv 0)) (pg_name (i := 1) nd rfl (.inl rfl))
        (pss_one (ps_if (pt_not (pt_val (pe_cl (ok_is_row T) hr (by rfl) T.g_is_row (T.f_is_row.elim fun _ F => F.kp) pass0 (pa_cons (pv 1) pa_nil)))) pss_never pss_nil)))
      (pss_cons (ps_set (i := 2) nd rfl (.inl rfl) pe_dnewK)
      (pss_cons (ps_for PassesOwn.never rfl (pi_list (pv 0)) (pg_tup rfl (pgs_cons (pg_name (i := 3) nd rfl (.inl rfl)) (pgs_cons (pg_name (i := 4) nd rfl (.inl rfl)) pgs_nil)))
        (pss_cons (ps_if (pt_cmp (pc_din hu (pv 3) (pv 2))) pss_never pss_nil) (pss_one (ps_dput hu (pv 2) (pv 3) (pv 4) rfl))))
      (pss_cons (ps_if (pt_cmpR op_gt (pe_callB call_len_seq (by rfl) T.n_len PySem.boot_len (pa_cons (pv 0) pa_nil)) (pe_glob (v := .int 40) (by rfl) hmr ⟨t, rfl⟩) (nomark _)) pss_never pss_nil)
      (pss_one (ps_ret (pv 2)))))), ?_⟩
    have hlen : xs.length = d.length := by
      have := dpAll_len hp
      rwa [List.length_map] at this
    -- the first loop
    refine ⟨_, rfl, l, rfl, ⟨_, hl⟩, for_list (K := K) (a := l) (xs := xs) (fun i σ H' => ∃ y, σ = [some (.ref l), y, none, none, none] ∧ H' = H) ⟨_, rfl, rfl⟩ (fun i σ H' _ ⟨_, _, e⟩ => by rw [e]; exact hl) ?_ ?_⟩
    · rintro i y σ H' hi ⟨z, rfl, rfl⟩
      obtain ⟨p, a, e1, rfl, ha⟩ := row_at hp hi
      have hm := List.mem_of_getElem? e1
      refine ⟨_, rfl, a, p.1, p.2, rfl, ha, (hd.kb p hm).1, (hd.kb p hm).2, true, rfl, iteF ?_⟩
      exact ⟨_, rfl, rfl⟩
    · rintro σ H' ⟨z, rfl, rfl⟩
      -- wants = {}
      intro dd hdd
      have s1 : Same H' (upd H' dd (.dK [])) := same_up hdd
      refine ⟨_, rfl, l, rfl, ⟨_, s1.seq hl⟩, for_list (K := K) (a := l) (xs := xs) (fun i σ H2 => ∃ y3 y4, σ = [some (.ref l), z, some (.ref dd), y3, y4] ∧ Same H' H2 ∧ H2 dd = some (.dK (kvI (d.take i)))) ⟨_, _, rfl, s1, upd_same⟩ (fun i σ H2 _ ⟨_, _, _, e, _⟩ => e.seq hl) ?_ ?_⟩
      · rintro i y σ H2 hi ⟨y3, y4, rfl, s2, e2⟩
        obtain ⟨p, a, e1, rfl, ha⟩ := row_at hp hi
        have hk := keysT_take hd.nd e1
        refine ⟨a, _, rfl, Same.tup s2 ha, rfl, _, _, rfl, _, _, rfl, rfl, ?_⟩
        refine ⟨_, rfl, _, rfl, dd, _, rfl, DGet.k (k := Sum.inl p.1) e2, _, rfl, ?_⟩
        rw [kvI_val, newT_none.mpr hk]
        refine iteF ?_
        refine ⟨_, rfl, _, rfl, _, rfl, dd, _, rfl, DPut.k (k := Sum.inl p.1) e2 ?_, ?_⟩
        · rw [kvI_len, List.length_take]
          exact Nat.lt_of_le_of_lt (Nat.min_le_right _ _) (small1000 (by have := hd.len; omega))
        · refine ⟨_, _, rfl, Same.set s2 hdd, ?_⟩
          rw [upd_same, kvI_put hk, take_snoc e1]
      · rintro σ H2 ⟨y3, y4, rfl, s2, e2⟩
        refine ⟨_, rfl, l, xs, rfl, .inl (s2.seq hl), _, _, rfl, rfl, _, rfl, ?_⟩
        rw [decide_eq_false (show ¬ ((40 : Int) < (xs.length : Int)) by have := hd.len; omega)]
        refine iteF ⟨_, rfl, ?_⟩
        rw [hlen, List.take_of_length_le (Nat.le_refl _)] at e2
        exact q H2 dd s2 hdd e2
end
end Rw

-- S2
set_option Elab.async false
set_option linter.all false
set_option maxRecDepth 100000
set_option maxHeartbeats 4000000
/-! Slices and sums of tuples, zip of tuples, in plainer words. -/
namespace Rw
open PySem PySem.Spec PyProof.Rows L2
section
variable {K : PySem.W.Frag} {H : Hp} {a b : Addr} {xs ys : List V} {lo hi : Option Int} {Q : VK}
theorem slA (h : SqT K H a xs) (q : ∀ p H', Same H H' → SqT K H' p (cutV xs lo hi) → Q (.ref p) H') : rSlA K (.ref a) lo hi H Q := by
  refine ⟨a, xs, rfl, h, fun e => ?_, fun _ p hp => ?_⟩
  · refine q a H (Same.refl H) ?_
    unfold cutV
    rw [e.1, e.2, List.drop_zero, Nat.sub_zero, List.take_length]
    exact h
  · exact q p _ (same_up hp) (SqT.of upd_same)
theorem slL (h : SqL K H a xs) (q : ∀ p, H p = none → Q (.ref p) (upd H p (.lst (cutV xs lo hi)))) : rSlL K (.ref a) lo hi H Q := ⟨a, xs, rfl, h, q⟩
theorem catA (h : SqT K H a xs) (h' : SqT K H b ys) (hl : xs.length + ys.length ≤ 1000) (q : ∀ p H', Same H H' → SqT K H' p (xs ++ ys) → Q (.ref p) H') : rCatA K (.ref a) (.ref b) H Q := by
  refine ⟨a, b, xs, ys, rfl, rfl, h, h', Nat.le_of_lt (small1000 hl), fun e => ?_, fun _ e => ?_, fun _ _ p hp => ?_⟩
  · subst e
    exact q b H (Same.refl H) h'
  · subst e
    rw [List.append_nil] at q
    exact q a H (Same.refl H) h
  · exact q p _ (same_up hp) (SqT.of upd_same)
theorem cut_from {xs : List V} {k : Nat} : cutV xs (some (k : Int)) none = xs.drop k := by
  unfold cutV
  rw [HT.sIx_nat, HT.sIx_none, List.take_of_length_le (by rw [List.length_drop]; omega)]
  by_cases h : k ≤ xs.length
  · rw [Nat.min_eq_left h]
  · rw [Nat.min_eq_right (by omega), List.drop_of_length_le (Nat.le_refl _), List.drop_of_length_le (by omega)]
theorem cut_to {xs : List V} {k : Nat} : cutV xs none (some (k : Int)) = xs.take k := by
  unfold cutV
  rw [HT.sIx_nat, HT.sIx_none, List.drop_zero, Nat.sub_zero]
  by_cases h : k ≤ xs.length
  · rw [Nat.min_eq_left h]
  · rw [Nat.min_eq_right (by omega), List.take_length, List.take_of_length_le (by omega)]
theorem cut_mid {xs : List V} {j k : Nat} (h : j ≤ k) : cutV xs (some (j : Int)) (some (k : Int)) = (xs.drop j).take (k - j) := by
  unfold cutV
  rw [HT.sIx_nat, HT.sIx_nat]
  by_cases h1 : k ≤ xs.length
  · rw [Nat.min_eq_left h1, Nat.min_eq_left (by omega)]
  · rw [Nat.min_eq_right (by omega : xs.length ≤ k)]
    by_cases h2 : j ≤ xs.length
    · rw [Nat.min_eq_left h2, List.take_of_length_le (by rw [List.length_drop]; omega), List.take_of_length_le (by rw [List.length_drop]; omega)]
    · rw [Nat.min_eq_right (by omega), List.drop_of_length_le (Nat.le_refl _), List.drop_of_length_le (by omega)]
      simp
theorem walk_zipT {n : Nat} (hn : n = min xs.length ys.length) : Walk (RZ.ItzT K a b) n (fun H => SqT K H a xs ∧ SqT K H b ys) (YPair (fun i => xs[i]?) (fun i => ys[i]?)) := by
  subst hn
  refine ⟨fun i H hi h => ?_, fun H h => ?_, fun i H x H' hi h y => ?_⟩
  · have h1 : i < xs.length := by omega
    have h2 : i < ys.length := by omega
    exact ⟨xs, ys, xs[i], ys[i], h.1, h.2, List.getElem?_eq_getElem h1, List.getElem?_eq_getElem h2⟩
  · exact ⟨xs, ys, h.1, h.2, by omega⟩
  · obtain ⟨T, x', y', e, hT, eH, hx, hy⟩ := y
    exact ⟨T, x', y', e, hT, eH, hx xs h.1, hy ys h.2⟩
theorem yes {σ : L2.St} {H : Hp} {f g : Hp → Prop} (h : f H) : tYes σ H (fun b H3 => if b = true then f H3 else g H3) := by
  show if true = true then f H else g H
  rw [if_pos rfl]
  exact h
/-- tuple(list) -/
theorem rTupOf (h : SqL K H a xs) (q : ∀ l, H l = none → Q (.ref l) (upd H l (.tup xs))) : ∃ p ys, ([V.ref a] : List V) = [.ref p] ∧ ((SqL K H p ys ∧ ∀ l, H l = none → Q (.ref l) (upd H l (.tup ys))) ∨ (SqT K H p ys ∧ Q (.ref p) H)) := ⟨a, xs, rfl, .inl ⟨h, q⟩⟩
end
/-! ### rules whose reading names K by itself (for a comprehension's block) -/
section
variable {X : Cx} {K : PySem.W.Frag} {e : Expr} {ta : TE} {f : Str} {pos : Pos}
theorem pe_fldK (hK : X.K = K) (he : PE X e ta) (hb : attributeBase e f X.env (eval e X.env) = eval e X.env) : PE X (.Attribute e f pos) (tFld K ta f) := by
  subst hK
  exact pe_fld he hb
theorem ix_tupK (hK : X.K = K) : IxR X (rIxT K) := by
  subst hK
  exact ix_tup
theorem ix_listK (hK : X.K = K) : IxR X (rIxL K) := by
  subst hK
  exact ix_list
def rLenK (K : PySem.W.Frag) : List V → Hp → VK → Prop := fun xs H Q => ∃ p ys, xs = [V.ref p] ∧ (SqL K H p ys ∨ SqT K H p ys) ∧ Q (.int ys.length) H
theorem call_lenK (hK : X.K = K) : CallR X (.builtin "len") (rLenK K) := by
  subst hK
  exact call_len_seq
def rTupK (K : PySem.W.Frag) : List V → Hp → VK → Prop := fun xs H Q => ∃ p ys, xs = [V.ref p] ∧ SqL K H p ys ∧ ∀ l, H l = none → Q (.ref l) (upd H l (.tup ys))
theorem call_tupK (hK : X.K = K) : CallR X (.type "tuple") (rTupK K) := by
  subst hK
  intro pins s σ H xs us Q I r h
  obtain ⟨p, ys, rfl, h1, q⟩ := h
  exact call_tuple_of pins s σ H _ us Q I r ⟨p, ys, rfl, .inl ⟨h1, q⟩⟩
theorem op_inK {neg : Bool} (hK : X.K = K) : OpR X (compareOp .In) (rIn K false) := by
  subst hK
  exact op_in_seq
theorem op_notInK (hK : X.K = K) : OpR X (compareOp .NotIn) (rIn K true) := by
  subst hK
  exact op_notIn_seq
end
end Rw

-- S3
set_option Elab.async false
set_option linter.all false
set_option maxRecDepth 100000
set_option maxHeartbeats 4000000
/-! Equality of lists of ints and of int tuples; membership. -/
namespace Rw
open PySem PySem.Spec PyProof.Rows L2
theorem canLay_ints : ∀ ns : List Int, PyData.canLayAll0 (ns.map .int) = true
  | [] => rfl
  | n :: ns => by
    show PyData.canLayAll0 (.int n :: ns.map .int) = true
    simp only [PyData.canLayAll0, PyData.canLay0, canLay_ints ns, Bool.and_self]
theorem canLay_tI (ns : List Int) : (tI ns).canLay0 = true := by
  unfold tI
  simp only [PyData.canLay0]
  exact canLay_ints ns
theorem canLay_tIs : ∀ L : List (List Int), PyData.canLayAll0 (L.map tI) = true
  | [] => rfl
  | n :: ns => by
    show PyData.canLayAll0 (tI n :: ns.map tI) = true
    simp only [PyData.canLayAll0, canLay_tI n, canLay_tIs ns, Bool.and_self]
theorem depth_tIs : ∀ L : List (List Int), PyData.depthAll (L.map tI) ≤ 8
  | [] => by decide
  | n :: ns => by
    have := depth_tIs ns
    have := depth_tI n
    show PyData.depthAll (tI n :: ns.map tI) ≤ 8
    simp only [PyData.depthAll]
    omega
theorem shaped_ints (ns : List Int) : SeqAt.shaped (.list (ns.map .int)) = true := PySem.W.ke_shaped_ints ns
theorem shaped_tIs (L : List (List Int)) : SeqAt.shaped (.list (L.map tI)) = true := by
  unfold SeqAt.shaped
  have := depth_tIs L
  rw [Bool.and_eq_true]
  refine ⟨?_, decide_eq_true ?_⟩
  · simp only [PyData.canLay0]
    exact canLay_tIs L
  · simp only [PyData.depth]
    omega
theorem shaped_tI (ns : List Int) : SeqAt.shaped (tI ns) = true := by
  unfold SeqAt.shaped
  have := depth_tI ns
  rw [Bool.and_eq_true]
  exact ⟨canLay_tI ns, decide_eq_true (by omega)⟩
theorem shaped_nil : SeqAt.shaped (.list []) = true := by decide +kernel
theorem shaped_tnil : SeqAt.shaped (.tuple []) = true := by decide +kernel
theorem eqv_self {d : PyData} (h : SeqAt.shaped d = true) : PyData.eqv d d = true := SeqAt.eqv_refl d (SeqAt.canLay_of_shaped h)
theorem eqv_lnil (ds : List PyData) : PyData.eqv (.list ds) (.list []) = decide (ds = []) := by
  cases ds <;> simp [PyData.eqv, PyData.eqvAll]
theorem eqv_tnil (ds : List PyData) : PyData.eqv (.tuple ds) (.tuple []) = decide (ds = []) := by
  cases ds <;> simp [PyData.eqv, PyData.eqvAll]
theorem inV_int (k : Int) (ns : List Int) : inV (.int k) (ns.map V.int) = decide (k ∈ ns) := by
  unfold inV
  rw [List.any_map]
  induction ns with
  | nil => rfl
  | cons n ns ih =>
    rw [List.any_cons, ih]
    show ((n == k) || decide (k ∈ ns)) = _
    by_cases h : n = k
    · simp [h]
    · have : ¬ k = n := fun e => h e.symm
      simp [h, this]
theorem flat_ints (ns : List Int) : (ns.map V.int).all flatV = true := by
  rw [List.all_map, List.all_eq_true]
  intro x _
  rfl
theorem all_true (n : Nat) : (List.replicate n true).all id = true := by
  rw [List.all_eq_true]
  intro x hx
  exact (List.mem_replicate.mp hx).2
theorem rep_bl (n : Nat) : List.replicate n (V.bl true) = (List.replicate n true).map V.bl := by simp
theorem dp_ltup {K : PySem.W.Frag} {H : Hp} {a : Addr} {xs : List V} {ds : List PyData} (h : SqL K H a xs) (h' : DpAll K H xs ds) : Dp K H (.ref a) (.list ds) := .lst h h'
theorem dp_tI {K : PySem.W.Frag} {H : Hp} {a : Addr} {ns : List Int} (h : SqT K H a (ns.map V.int)) : Dp K H (.ref a) (tI ns) := .tup h (dpAll_ints ns)
theorem tI_dp {K : PySem.W.Frag} {H : Hp} {v : V} {ns : List Int} (h : Dp K H v (tI ns)) : ∃ a, v = .ref a ∧ SqT K H a (ns.map V.int) := by
  obtain ⟨a, xs, e, h1, h2⟩ := dp_tup h
  rw [dpAll_int h2] at h1
  exact ⟨a, e, h1⟩
theorem ite2 {b : Bool} {A B : Prop} (ht : b = true → A) (hf : b = false → B) : if b = true then A else B := by
  cases b with
  | true => rw [if_pos rfl]; exact ht rfl
  | false => rw [if_neg Bool.false_ne_true]; exact hf rfl
theorem op_eqDK {X : Cx} {K : PySem.W.Frag} (hK : X.K = K) (hu : X.A.units + 64 < cLine) : OpR X (compareOp .Eq) (rEqD K) := by
  subst hK
  exact op_eqD hu
/-- positional values, then the keyword's value -/
def kg2 {α : Type} : List α → List α → List α
  | [a, b], [c] => [a, b, c]
  | _, _ => []
def kg1 {α : Type} : List α → List α → List α
  | [a], [c] => [a, c]
  | _, _ => []
theorem vals_kg2 {vs zs : List V} {us ws : List Value} (r : Vals vs us) (r' : Vals zs ws) : Vals (kg2 vs zs) (kg2 us ws) := by
  cases r with
  | nil => exact .nil
  | cons a r => cases r with
    | nil => exact .nil
    | cons b r => cases r with
      | cons c r => exact .nil
      | nil => cases r' with
        | nil => exact .nil
        | cons d r' => cases r' with
          | nil => exact .cons a (.cons b (.cons d .nil))
          | cons e r' => exact .nil
theorem vals_kg1 {vs zs : List V} {us ws : List Value} (r : Vals vs us) (r' : Vals zs ws) : Vals (kg1 vs zs) (kg1 us ws) := by
  cases r with
  | nil => exact .nil
  | cons a r => cases r with
    | cons c r => exact .nil
    | nil => cases r' with
      | nil => exact .nil
      | cons d r' => cases r' with
        | nil => exact .cons a (.cons d .nil)
        | cons e r' => exact .nil
theorem kg2_len {α : Type} {us ws : List α} (h : (kg2 us ws).length = 3) : ∃ a b c, us = [a, b] ∧ ws = [c] := by
  match us, ws, h with
  | [a, b], [c], _ => exact ⟨a, b, c, rfl, rfl⟩
theorem kg1_len {α : Type} {us ws : List α} (h : (kg1 us ws).length = 2) : ∃ a c, us = [a] ∧ ws = [c] := by
  match us, ws, h with
  | [a], [c], _ => exact ⟨a, c, rfl, rfl⟩
/-- a list of ints as data -/
def lI (ns : List Int) : PyData := .list (ns.map .int)
theorem dp_lI {K : PySem.W.Frag} {H : Hp} {a : Addr} {ns : List Int} (h : SqL K H a (ns.map V.int)) : Dp K H (.ref a) (lI ns) := .lst h (dpAll_ints ns)
theorem lI_dp {K : PySem.W.Frag} {H : Hp} {v : V} {ns : List Int} (h : Dp K H v (lI ns)) : ∃ a, v = .ref a ∧ SqL K H a (ns.map V.int) := by
  obtain ⟨a, xs, e, h1, h2⟩ := dp_lst h
  rw [dpAll_int h2] at h1
  exact ⟨a, e, h1⟩
theorem sum_cast {α : Type} (g : α → Nat) : ∀ L : List α, (L.map fun x => ((g x : Nat) : Int)).sum = ((L.map g).sum : Nat)
  | [] => rfl
  | x :: L => by
    rw [List.map_cons, List.map_cons, List.sum_cons, List.sum_cons, sum_cast g L]
    omega
/-- the i-th of data -/
theorem dp_nth {K : PySem.W.Frag} {H : Hp} {α : Type} {g : α → PyData} {L : List α} {xs : List V} (h : DpAll K H xs (L.map g)) {i : Nat} {x : V} (e : xs[i]? = some x) : ∃ p, L[i]? = some p ∧ Dp K H x (g p) := by
  have hj := (List.getElem?_eq_some_iff.mp e).1
  have hl := dpAll_len h
  rw [List.length_map] at hl
  have hd : i < L.length := by omega
  obtain ⟨v, h1, h2⟩ := dpAll_get (d := g L[i]) h (by rw [List.getElem?_map, List.getElem?_eq_getElem hd]; rfl)
  rw [e] at h1
  cases h1
  exact ⟨L[i], List.getElem?_eq_getElem hd, h2⟩
end Rw

-- D3
set_option Elab.async false
set_option linter.all false
set_option maxRecDepth 100000
set_option maxHeartbeats 4000000
/-! is_ascending, need_table, more_rows, the class Table's __init__, rows, __getitem__, __contains__, __len__. -/
namespace Rw
open PySem PySem.Spec PyProof.Rows L2
section
variable {P : Program} {w : World} {K : PySem.W.Frag} {mg : Str → Option Value} {base : Heap}

def spAsc (K : PySem.W.Frag) : Sp := fun vs H Q _ => ∃ (a : Addr) (ns : List Int), vs = [.ref a] ∧ SqT K H a (ns.map V.int) ∧ ns.length ≤ 800 ∧ ns.Pairwise (· < ·) ∧ ∀ H', Same H H' → Q (.bl true) H'
theorem sc_is_ascending : FnScope ["numbers", "one", "later"] ["numbers"] (defScope s_is_ascending) := ⟨rfl, rfl, rfl, by decide +kernel, rfl, by decide +kernel, by decide +kernel⟩
theorem ok_is_ascending (T : Txt K mg) : FnR P w K mg base CX0 1 (a_is_ascending K) (spAsc K) := by
  have nd := sc_is_ascending.nd
  refine okR T.f_is_ascending sc_is_ascending (fun _ _ _ _ _ _ us hl => match us, hl with | [_], _ => rfl) (fun vs H Q E h => ?_) (fun cdv A outer s H vs Q E hr h => ?_)
  · obtain ⟨a, ns, rfl, _⟩ := h
    rfl
  · obtain ⟨a, ns, rfl, ha, hl, asc, q⟩ := h
    refine ⟨_, (pss_one (ps_ret (pe_callB (cr_all rfl) (by rfl) T.n_all (by decide +kernel) (pa_cons (pe_lc (own := [("one", 1), ("later", 2)]) (g := (gTup K 2 (gCons (gName 1) (gCons (gName 2) gNil)))) rfl nd (RZ.pi_zipA (by rfl) T.n_zip (pa_cons (pv 0) (pa_cons (pe_slice sl_tupA (pv 0) (po_some pe_int) po_none) pa_nil))) (blkOk_by (own := [("one", 1), ("later", 2)]) (N := ["numbers", "one", "later"]) (sc := defScope s_is_ascending) (by decide +kernel)) (fun _ _ _ _ _ => (pg_tup rfl (pgs_cons (pg_name (i := 1) nd rfl (.inl rfl) (.inr rfl)) (pgs_cons (pg_name (i := 2) nd rfl (.inl rfl) (.inr rfl)) pgs_nil)))) (fun _ _ _ _ _ => pts_nil) (fun _ _ _ _ _ => (pe_cmpR op_lt (pv 1) (pv 2) (nomark _)))) pa_nil)))), ?_⟩
    refine ⟨_, rfl, _, rfl, 1, rfl, ?_⟩
    dsimp only [tNoPart]
    refine slA ha fun b H1 s1 hb => ?_
    rw [show (1 : Int) = ((1 : Nat) : Int) from rfl, cut_from] at hb
    refine ⟨a, b, _, _, rfl, .inr ⟨Same.tup s1 ha, hb, fun D hD => ?_⟩⟩
    have hlen : (ns.map V.int).length = ns.length := List.length_map _
    refine lc_go (walk_zipT rfl) (fun i acc H => acc = List.replicate i (V.bl true)) (by omega) hD (fun H s => ⟨Same.tup (s1.trans s) ha, Same.tup s hb⟩) rfl ?_ ?_
    · rintro i x H2 H' acc hi L ⟨T', x', y', rfl, hT, rfl, ex, ey⟩
      have ex : (ns.map V.int)[i]? = some x' := ex
      have ey : ((ns.map V.int).drop 1)[i]? = some y' := ey
      rw [List.getElem?_map] at ex
      rw [List.getElem?_drop, List.getElem?_map] at ey
      obtain ⟨n1, e1, rfl⟩ := Option.map_eq_some_iff.mp ex
      obtain ⟨n2, e2, rfl⟩ := Option.map_eq_some_iff.mp ey
      have lt : n1 < n2 := by
        obtain ⟨h1, rfl⟩ := List.getElem?_eq_some_iff.mp e1
        obtain ⟨h2, rfl⟩ := List.getElem?_eq_some_iff.mp e2
        exact List.pairwise_iff_getElem.mp asc _ _ h1 h2 (by omega)
      refine ⟨_, _, rfl, SqT.of upd_same, rfl, _, _, rfl, _, _, rfl, rfl, rfl, ?_⟩
      refine yes ⟨_, rfl, _, rfl, _, _, rfl, rfl, ?_⟩
      refine L.snoc (by omega) (same_up hT) ?_
      show acc ++ [V.bl (decide (n1 < n2))] = List.replicate (i + 1) (V.bl true)
      rw [decide_eq_true lt, List.replicate_succ', show acc = List.replicate i (V.bl true) from L.f]
    · intro H acc s e f _
      have hm : ∀ n : Nat, List.replicate n (V.bl true) = (List.replicate n true).map V.bl := fun n => by simp
      refine ⟨D, List.replicate _ true, rfl, SqL.of (by rw [e, f, hm]), ?_⟩
      have : (List.replicate (min (ns.map V.int).length (List.drop 1 (ns.map V.int)).length) true).all id = true := by
        rw [List.all_eq_true]
        intro x hx
        exact (List.mem_replicate.mp hx).2
      rw [this]
      exact q _ (s1.trans s)
def spNeedT (K : PySem.W.Frag) : Sp := fun vs H Q _ => ∃ p dx fs, vs = [.ref p] ∧ H p = some (.ins (cT K) dx fs) ∧ Q .non H
theorem tyX_T (T : Txt K mg) {H : Hp} {p dx : Addr} {fs : List (Str × V)} (h : H p = some (.ins (cT K) dx fs)) : TyX K H (.ref p) (.ref (cT K)) := .base (.ins h T.cl T.isC T.isG T.isT T.isM)
theorem kit_TT (T : Txt K mg) : PySem.W.kitOne K (.ref (cT K)) (.ref (cT K)) = some true := by
  unfold PySem.W.kitOne
  simp
theorem sc_need_table : FnScope ["table"] ["table"] (defScope s_need_table) := ⟨rfl, rfl, rfl, by decide +kernel, rfl, by decide +kernel, by decide +kernel⟩
theorem ok_need_table (T : Txt K mg) : FnR P w K mg base CX0 1 (a_need_table K) (spNeedT K) := by
  have nd := sc_need_table.nd
  refine okR T.f_need_table sc_need_table (fun _ _ _ _ _ _ us hl => match us, hl with | [_], _ => rfl) (fun vs H Q E h => ?_) (fun cdv A outer s H vs Q E hr h => ?_)
  · obtain ⟨p, dx, fs, rfl, _⟩ := h
    rfl
  · obtain ⟨p, dx, fs, rfl, hp, q⟩ := h
    refine ⟨_, (pss_one (ps_if (pt_not (pt_val (pe_callB call_isi (by rfl) T.n_isinstance (by decide +kernel) (pa_cons (pv 0) (pa_cons (pe_glob (v := .ref (cT K)) (by rfl) T.g_Table rfl) pa_nil))))) pss_never pss_nil)), ?_⟩
    refine ⟨_, rfl, .ref p, .ref (cT K), _, _, true, rfl, .own _, tyX_T T hp, kit_TT T, true, rfl, iteF q⟩
def spMore (K : PySem.W.Frag) : Sp := fun vs H Q _ => ∃ (b : Addr) (xs : List V), vs = [.ref b] ∧ SqT K H b xs ∧ ∀ p, H p = none → Q (.ref p) (upd H p (.lst xs))
theorem sc_more_rows : FnScope ["other"] ["other"] (defScope s_more_rows) := ⟨rfl, rfl, rfl, by decide +kernel, rfl, by decide +kernel, by decide +kernel⟩
theorem ok_more_rows (T : Txt K mg) : FnR P w K mg base CX0 1 (a_more_rows K) (spMore K) := by
  have nd := sc_more_rows.nd
  refine okR T.f_more_rows sc_more_rows (fun _ _ _ _ _ _ us hl => match us, hl with | [_], _ => rfl) (fun vs H Q E h => ?_) (fun cdv A outer s H vs Q E hr h => ?_)
  · obtain ⟨b, xs, rfl, _⟩ := h
    rfl
  · obtain ⟨b, xs, rfl, hb, q⟩ := h
    refine ⟨_, (pss_cons (ps_if (pt_val (pe_callB call_isi (by rfl) T.n_isinstance (by decide +kernel) (pa_cons (pv 0) (pa_cons (pe_glob (v := .ref (cT K)) (by rfl) T.g_Table rfl) pa_nil)))) pss_never pss_nil) (pss_cons (ps_if (pt_val (pe_callB call_isi (by rfl) T.n_isinstance (by decide +kernel) (pa_cons (pv 0) (pa_cons (pe_bltn (v := .ty "tuple") (by rfl) T.n_tuple (by decide +kernel) rfl) pa_nil)))) (pss_one (ps_ret (pe_callTy call_list_of (by rfl) T.n_list (by decide +kernel) (pa_cons (pv 0) pa_nil)))) pss_nil) (pss_one ps_never))), ?_⟩
    refine ⟨_, rfl, .ref b, .ref (cT K), _, _, false, rfl, .own _, tyX_tup hb, T.isN, false, rfl, iteF ?_⟩
    refine ⟨_, rfl, .ref b, .ty "tuple", _, _, true, rfl, .ty _, tyX_tup hb, kit_ty (by decide +kernel), true, rfl, iteT ?_⟩
    exact ⟨_, rfl, b, xs, rfl, .inr hb, q⟩
theorem keysT_of {r : Tb} {k v : Int} (h : (k, v) ∈ r) : k ∈ keysT r := List.mem_map.mpr ⟨_, h, rfl⟩
theorem KeyB_of {r : Tb} (g : Good r) {k : Int} (h : k ∈ keysT r) : KeyB k := by
  obtain ⟨p, hp, rfl⟩ := List.mem_map.mp h
  exact (g.kb p hp).1
theorem newT_perm {d r : Tb} (g : Good r) (h : d.Perm r) (k : Int) : newT d k = newT r k := by
  have nd : (keysT d).Nodup := (List.Perm.nodup_iff (h.map Prod.fst)).mpr g.nd
  cases e : newT r k with
  | none =>
    refine newT_none.mpr fun hm => newT_none.mp e ?_
    exact (h.map (·.1)).mem_iff.mp hm
  | some v => exact newT_of nd (h.mem_iff.mpr (newT_mem e))
def spTIn (K : PySem.W.Frag) : Sp := fun vs H Q _ => ∃ (p : Addr) (r : Tb) (k : Int), vs = [.ref p, .int k] ∧ TabAt K H p r ∧ Q (.bl (decide (k ∈ keysT r))) H
theorem sc_tIn : FnScope ["self", "thing"] ["self", "thing"] (defScope s_tIn) := ⟨rfl, rfl, rfl, by decide +kernel, rfl, by decide +kernel, by decide +kernel⟩
theorem ok_tIn (T : Txt K mg) : FnR P w K mg base CX0 3 (a_tIn K) (spTIn K) := by
  have nd := sc_tIn.nd
  refine okR T.f_tIn sc_tIn (fun _ _ _ _ _ _ us hl => match us, hl with | [_, _], _ => rfl) (fun vs H Q E h => ?_) (fun cdv A outer s H vs Q E hr h => ?_)
  · obtain ⟨p, r, k, rfl, _⟩ := h
    rfl
  · obtain ⟨p, r, k, rfl, ⟨g, dx, dd, d, h1, h2, h3⟩, q⟩ := h
    have hu := hu_of hr
    refine ⟨_, (pss_one (ps_ret (pe_and (pe_cl (ok_is_key T) (by exact hr.mono (by decide)) (by rfl) T.g_is_key (T.f_is_key.elim fun _ F => F.kp) pass0 (pa_cons (pv 1) pa_nil)) (pe_one (pe_cmp (pc_din hu (pv 1) (pe_fld (f := "wants") (pv 0) rfl)) (by rfl)))))), ?_⟩
    refine ⟨_, rfl, k, rfl, decide (KeyB k), rfl, ?_⟩
    by_cases hk : KeyB k
    · rw [decide_eq_true hk]
      refine iteT ⟨_, rfl, _, rfl, p, cT K, dx, _, _, rfl, h1, T.cl, T.nw, rfl, dd, _, rfl, DGet.k (k := Sum.inl k) h2, ?_⟩
      rw [kvI_val, newT_perm g h3]
      have e : ((newT r k).map V.int).isSome = decide (k ∈ keysT r) := by
        cases e : newT r k with
        | none => rw [decide_eq_false (newT_none.mp e)]; rfl
        | some v => rw [decide_eq_true (keysT_of (newT_mem e))]; rfl
      rw [e]
      exact q
    · rw [decide_eq_false hk]
      rw [decide_eq_false fun z => hk (KeyB_of g z)] at q
      exact iteF q
def spTGet (K : PySem.W.Frag) : Sp := fun vs H Q _ => ∃ (p : Addr) (r : Tb) (k v : Int), vs = [.ref p, .int k] ∧ TabAt K H p r ∧ newT r k = some v ∧ Q (.int v) H
theorem sc_tGet : FnScope ["self", "key"] ["self", "key"] (defScope s_tGet) := ⟨rfl, rfl, rfl, by decide +kernel, rfl, by decide +kernel, by decide +kernel⟩
theorem ok_tGet (T : Txt K mg) : FnR P w K mg base CX0 4 (a_tGet K) (spTGet K) := by
  have nd := sc_tGet.nd
  refine okR T.f_tGet sc_tGet (fun _ _ _ _ _ _ us hl => match us, hl with | [_, _], _ => rfl) (fun vs H Q E h => ?_) (fun cdv A outer s H vs Q E hr h => ?_)
  · obtain ⟨p, r, k, x, rfl, _⟩ := h
    rfl
  · obtain ⟨p, r, k, x, rfl, ht, hk, q⟩ := h
    have hu := hu_of hr
    have hm : k ∈ keysT r := keysT_of (newT_mem hk)
    obtain ⟨g, dx, dd, d, h1, h2, h3⟩ := id ht
    refine ⟨_, (pss_cons (ps_if (pt_cmpR (op_notInO T.inO (ok_tIn T) (by exact hr.mono (by decide)) pass0) (pv 1) (pv 0) (by rfl)) pss_never pss_nil) (pss_one (ps_ret (pe_dget (by exact hu) (pe_fld (f := "wants") (pv 0) (by rfl)) (pv 1) (fun _ _ => rfl))))), ?_⟩
    refine ⟨_, rfl, _, rfl, p, dx, _, rfl, h1, ⟨p, r, k, rfl, ht, _, rfl, _, rfl, ?_⟩⟩
    rw [decide_eq_true hm]
    refine iteF ⟨_, rfl, p, cT K, dx, _, _, rfl, h1, T.cl, T.nw, rfl, _, rfl, dd, _, rfl, ?_, q⟩
    have z : DGet H dd (V.int k) (valV (kvI d) (Sum.inl k)) := DGet.k (k := Sum.inl k) h2
    rw [kvI_val, newT_perm g h3, hk] at z
    exact z
def spTLen (K : PySem.W.Frag) : Sp := fun vs H Q _ => ∃ (p : Addr) (r : Tb), vs = [.ref p] ∧ TabAt K H p r ∧ Q (.int r.length) H
theorem sc_tLen : FnScope ["self"] ["self"] (defScope s_tLen) := ⟨rfl, rfl, rfl, by decide +kernel, rfl, by decide +kernel, by decide +kernel⟩
theorem ok_tLen (T : Txt K mg) : FnR P w K mg base CX0 1 (a_tLen K) (spTLen K) := by
  have nd := sc_tLen.nd
  refine okR T.f_tLen sc_tLen (fun _ _ _ _ _ _ us hl => match us, hl with | [_], _ => rfl) (fun vs H Q E h => ?_) (fun cdv A outer s H vs Q E hr h => ?_)
  · obtain ⟨p, r, rfl, _⟩ := h
    rfl
  · obtain ⟨p, r, rfl, ⟨g, dx, dd, d, h1, h2, h3⟩, q⟩ := h
    refine ⟨_, (pss_one (ps_ret (pe_callB call_lenD (by rfl) T.n_len (by decide +kernel) (pa_cons (pe_fld (f := "wants") (pv 0) (by rfl)) pa_nil)))), ?_⟩
    refine ⟨_, rfl, p, cT K, dx, _, _, rfl, h1, T.cl, T.nw, rfl, dd, _, rfl, h2, ?_⟩
    rw [kvI_len, h3.length_eq]
    exact q
end
end Rw

-- D4
set_option Elab.async false
set_option linter.all false
set_option maxRecDepth 100000
set_option maxHeartbeats 4000000
/-! Table: __init__, rows. -/
namespace Rw
open PySem PySem.Spec PyProof.Rows L2
section
variable {P : Program} {w : World} {K : PySem.W.Frag} {mg : Str → Option Value} {base : Heap}

/-- the new table's rows are put -/
def spTInit (K : PySem.W.Frag) : Sp := fun vs H Q _ => ∃ (z dx : Addr) (xs : List V) (d : Tb), vs = .ref z :: xs ∧ H z = some (.ins (cT K) dx []) ∧ DpAll K H xs (d.map rD) ∧ Rws d ∧
  ∀ H', (∀ b o, H b = some o → b ≠ z → H' b = some o) → (∃ dd, H' z = some (.ins (cT K) dx [("wants", .ref dd)]) ∧ H' dd = some (.dK (kvI d))) → Q .non H'
theorem sc_tInit : FnScope ["self", "rows"] (([("self" : Str)] : List Str) ++ [("rows" : Str)]) (defScope s_tInit) := ⟨rfl, rfl, rfl, by decide +kernel, rfl, by decide +kernel, by decide +kernel⟩
theorem ok_tInit (T : Txt K mg) : FnR P w K mg base CX0 5 (a_tInit K) (spTInit K) := by
  obtain ⟨fd, F⟩ := T.f_tInit
  obtain ⟨oc, od, kV, doc, pm, an, cdv, ct, osl, rfl, lk, hcd⟩ := F.ex
  have z := StX.fn_star (P := P) (w := w) (mg := mg) (base := base) (CX := CX0) (k := 4) (ps := ["self"]) (pv := "rows") lk hcd sc_tInit StX.cxUp_none (StX.bind_star1 (B := fun l => bindArgs _ ⟨l, []⟩) (fun _ => rfl) (fun _ _ _ => rfl))
    (sp := fun vs H Q _ => ∃ (z p dx : Addr) (xs : List V) (d : Tb), vs = [.ref z, .ref p] ∧ H z = some (.ins (cT K) dx []) ∧ H p = some (.tup xs) ∧ DpAll K H xs (d.map rD) ∧ Rws d ∧
      ∀ H3 dd, Same H H3 → H dd = none → H3 dd = some (.dK (kvI d)) → Q .non (upd H3 z (.ins (cT K) dx [("wants", .ref dd)])))
    (fun A outer s H vs Q E hr h => ?_)
  · refine z.imp fun vs H Q E h => ?_
    obtain ⟨z, dx, xs, d, rfl, hz, hd, hw, q⟩ := h
    have hl := dpAll_len hd
    rw [List.length_map] at hl
    refine ⟨[.ref z], xs, rfl, rfl, Nat.le_of_lt (small1000 (by have := hw.len; omega)), fun p hp => ⟨z, p, dx, xs, d, rfl, same_up hp _ _ hz, upd_same, DpAll.same (same_up hp) _ _ hd, hw, fun H3 dd s hdd e => ?_⟩⟩
    have s2 : Same H H3 := (same_up hp).trans s
    refine q _ (fun b o e2 ne => ?_) ⟨dd, upd_same, ?_⟩
    · rw [upd_ne ne]
      exact s2 _ _ e2
    · have hne : dd ≠ z := fun e3 => by
        rw [e3, same_up hp _ _ hz] at hdd
        cases hdd
      rw [upd_ne hne]
      exact e
  · obtain ⟨z, p, dx, xs, d, rfl, hz, hp, hd, hw, q⟩ := h
    have nd := sc_tInit.nd
    refine ⟨_, (pss_one (ps_fld (f := "wants") (pv 0) (pe_cl (ok_checked_rows T) (by exact hr.mono (by decide)) (by rfl) T.g_checked_rows (T.f_checked_rows.elim fun _ F => F.kp) pass0 (pa_cons (pe_callTy call_list_of (by rfl) T.n_list (by decide +kernel) (pa_cons (pv 1) pa_nil)) pa_nil)) (by rfl))), ?_⟩
    refine ⟨_, rfl, p, xs, rfl, .inr (SqT.of hp), fun l hl => ⟨l, xs, d, rfl, SqL.of upd_same, DpAll.same (same_up hl) _ _ hd, hw, fun H3 dd s hdd e => ?_⟩⟩
    have s2 := (same_up hl).trans s
    refine ⟨_, rfl, z, cT K, dx, [], rfl, s2 _ _ hz, T.cl, T.nw, by decide, q H3 dd s2 ?_ e⟩
    exact (same_up hl).free hdd
theorem notL_frz {H : Hp} {p : Addr} {o : Obj} {xs : List (Key × V)} (h : H p = some (.frz o (.dK xs))) : NotL H p := fun ys o => by
  rw [h]
  exact ⟨(fun e => by cases e), (fun e => by cases e)⟩
theorem kvI_get {d : Tb} {i : Nat} {k : Key} {v : V} (h : (kvI d)[i]? = some (k, v)) : ∃ p, d[i]? = some p ∧ k = Sum.inl p.1 ∧ v = .int p.2 := by
  unfold kvI at h
  rw [List.getElem?_map] at h
  obtain ⟨p, e1, e2⟩ := Option.map_eq_some_iff.mp h
  cases e2
  exact ⟨p, e1, rfl, rfl⟩
theorem take_map {α β : Type} {f : α → β} {d : List α} {i : Nat} {p : α} (e : d[i]? = some p) : (d.take (i + 1)).map f = (d.take i).map f ++ [f p] := by
  rw [take_snoc e, List.map_append]
  rfl
theorem rL_ne (r : Tb) : ∀ x ∈ r.map rL, x ≠ [] := fun x hx e => by
  obtain ⟨p, _, q⟩ := List.mem_map.mp hx
  rw [e] at q
  cases q
/-- the rows as a tuple of pairs -/
def RowsAt (K : PySem.W.Frag) (H : Hp) (q : Addr) (r : Tb) : Prop := ∃ xs, SqT K H q xs ∧ DpAll K H xs (r.map rD)
theorem RowsAt.same {H H' : Hp} {q : Addr} {r : Tb} (s : Same H H') (h : RowsAt K H q r) : RowsAt K H' q r := by
  obtain ⟨xs, h1, h2⟩ := h
  exact ⟨xs, Same.tup s h1, DpAll.same s _ _ h2⟩
theorem RowsAt.len {H : Hp} {r : Tb} {xs : List V} (h : DpAll K H xs (r.map rD)) : xs.length = r.length := by
  have := dpAll_len h
  rwa [List.length_map] at this
def spTRows (K : PySem.W.Frag) : Sp := fun vs H Q _ => ∃ (p : Addr) (r : Tb), vs = [.ref p] ∧ TabAt K H p r ∧ ∀ H' q, Same H H' → H q = none → RowsAt K H' q r → Q (.ref q) H'
theorem sc_tRows : FnScope ["self", "key"] ["self"] (defScope s_tRows) := ⟨rfl, rfl, rfl, by decide +kernel, rfl, by decide +kernel, by decide +kernel⟩
theorem ok_tRows (T : Txt K mg) : FnR P w K mg base CX0 1 (a_tRows K) (spTRows K) := by
  have nd := sc_tRows.nd
  refine okR T.f_tRows sc_tRows (fun _ _ _ _ _ _ us hl => match us, hl with | [_], _ => rfl) (fun vs H Q E h => ?_) (fun cdv A outer s H vs Q E hr h => ?_)
  · obtain ⟨p, r, rfl, _⟩ := h
    rfl
  · obtain ⟨p, r, rfl, ⟨g, dx, dd, d, h1, h2, h3⟩, q⟩ := h
    have hu := hu_of hr
    refine ⟨_, (pss_one (ps_ret (pe_callTy call_tuple_of (by rfl) T.n_tuple (by decide +kernel) (pa_cons (pe_callB (cr_sortD hr.units) (by rfl) T.n_sorted (by decide +kernel) (pa_cons (pe_lock (pe_lc (own := [("key", 1)]) (g := (gName 1)) rfl nd (pi_keys (pe_fld (f := "wants") (pv 0) (by rfl))) (blkOk_by (own := [("key", 1)]) (N := ["self", "key"]) (sc := defScope s_tRows) (by decide +kernel)) (fun _ _ _ _ _ => (pg_name (i := 1) nd rfl (.inl rfl) (.inr rfl))) (fun _ _ _ _ _ => pts_nil) (fun _ _ _ _ _ => (pe_tup (pa_cons (pv 1) (pa_cons (pe_dget (by exact hu) (pe_fldK (K := K) (f := "wants") rfl (pv 0) (by rfl)) (pv 1) (fun _ _ => rfl)) pa_nil)))))) pa_nil)) pa_nil)))), ?_⟩
    refine ⟨dd, _, h2, True.intro, fun od => ?_⟩
    have hne : p ≠ dd := ne_of h1 h2 (by intro e; cases e)
    have hl := g.len
    have hl2 := h3.length_eq
    refine ⟨_, rfl, p, cT K, dx, _, _, rfl, (upd_ne hne).trans h1, T.cl, T.nw, rfl, dd, od, rfl, .inl ⟨_, upd_same, fun D hD => ?_⟩⟩
    have hDd : D ≠ dd := fun e => by
      rw [e, upd_same] at hD
      cases hD
    refine lc_go walk_keys (fun i acc H => DpAll K H acc ((d.take i).map rD)) (by rw [kvI_len]; omega) hD (fun H s => s _ _ upd_same) .nil ?_ ?_
    · rintro i x H0 H2 acc hi L ⟨rfl, k, v, ek, rfl⟩
      obtain ⟨pr, e1, rfl, rfl⟩ := kvI_get ek
      have hfr : H2 dd = some (.frz od (.dK (kvI d))) := (L.same.trans hid_same) _ _ upd_same
      have hpp : H2 p = some (.ins (cT K) dx [("wants", .ref dd)]) := (L.same.trans hid_same) _ _ ((upd_ne hne).trans h1)
      have nd : (keysT d).Nodup := (List.Perm.nodup_iff (h3.map Prod.fst)).mpr g.nd
      have z : DGet H2 dd (V.int pr.1) (valV (kvI d) (Sum.inl pr.1)) := .inl ⟨_, Sum.inl pr.1, .inr ⟨od, hfr⟩, rfl, rfl⟩
      rw [kvI_val, newT_of nd (List.mem_of_getElem? (show d[i]? = some (pr.1, pr.2) from e1))] at z
      refine ⟨rfl, yes ⟨_, rfl, _, rfl, p, cT K, dx, _, _, rfl, hpp, T.cl, T.nw, rfl, _, rfl, dd, _, rfl, z, (show 2 ≤ sizeLine by decide), fun t ht => ?_⟩⟩
      have hi2 : i < d.length := by rw [kvI_len] at hi; exact hi
      refine L.snoc (by omega) (same_up ht) ?_
      show DpAll K _ (acc ++ [V.ref t]) ((d.take (i + 1)).map rD)
      rw [take_map e1]
      have ht2 : t ≠ D := fun e => by
        rw [e, L.at_] at ht
        cases ht
      rw [hid_up ht2]
      have hn : hid H2 D t = none := by rw [hid_ne ht2]; exact ht
      refine dpAll_snoc (DpAll.same (same_up hn) _ _ L.f) (.tup (SqT.of upd_same) ?_)
      exact dpAll_ints [pr.1, pr.2]
    · intro H' acc s e f _
      have hfr : H' dd = some (.frz od (.dK (kvI d))) := s _ _ upd_same
      refine ⟨hfr, ?_⟩
      have f2 : DpAll K H' acc (d.map rD) := by
        have f : DpAll K (hid H' D) acc ((d.take (kvI d).length).map rD) := f
        rw [kvI_len, List.take_length] at f
        exact DpAll.same hid_same _ _ f
      have hD2 : upd H' dd (.dK (kvI d)) D = some (.lst acc) := by
        rw [upd_ne hDd]
        exact e
      have f3 : DpAll K (upd H' dd (.dK (kvI d))) acc (d.map rD) := DpAll.set (notL_frz hfr) _ _ (by rw [rD_map]; exact noLs_tI _) f2
      have s2 : Same H (upd H' dd (.dK (kvI d))) := fun b o e => by
        by_cases hb : b = dd
        · rw [hb] at e ⊢
          rw [h2] at e
          cases e
          exact upd_same
        · rw [upd_ne hb]
          refine s _ _ ?_
          rw [upd_ne hb]
          exact e
      refine ⟨D, acc, d.map rD, rfl, .inl (SqL.of hD2), f3, ?_⟩
      rw [rD_map]
      refine sortGo_tI (by rw [List.length_map]; omega) (rL_ne d) fun l ys S hl' hys pm pw => ?_
      have hS : S = r.map rL := lex_eq (pm.trans (h3.map rL)) pw (rows_sorted g.asc)
      refine ⟨l, ys, rfl, .inl ⟨SqL.of upd_same, fun t ht => ?_⟩⟩
      have s3 := (same_up (o := .lst ys) hl').trans (same_up (o := .tup ys) ht)
      refine q _ t (s2.trans s3) ((s2.trans (same_up hl')).free ht) ⟨ys, SqT.of upd_same, ?_⟩
      rw [rD_map, ← hS]
      exact DpAll.same s3 _ _ hys
end
end Rw

-- D5
set_option Elab.async false
set_option linter.all false
set_option maxRecDepth 100000
set_option maxHeartbeats 4000000
/-! Table.__add__, keys_of, is_set, need_rows, Table.__sub__, is_order, need_order. -/
namespace Rw
open PySem PySem.Spec PyProof.Rows L2
section
variable {P : Program} {w : World} {K : PySem.W.Frag} {mg : Str → Option Value} {base : Heap}

theorem Rws.of_good {r d : Tb} (g : Good r) (h : r.Perm d) : Rws d :=
  ⟨(List.Perm.nodup_iff (h.map Prod.fst)).mp g.nd, by rw [← h.length_eq]; exact g.len, fun p hp => g.kb p (h.mem_iff.mpr hp)⟩
/-- Table( *xs) of rows that are some table's -/
theorem mk_table {H : Hp} {a : Addr} {xs : List V} {d r : Tb} {Q : VK} {E : XK} (hx : SqL K H a xs) (hd : DpAll K H xs (d.map rD)) (g : Good r) (pm : d.Perm r)
    (q : ∀ H' c, Same H H' → H c = none → TabAt K H' c r → Q (.ref c) H') :
    ∃ ad xs, V.ref a = V.ref ad ∧ (SqT K H ad xs ∨ SqL K H ad xs) ∧ ∀ z dx, H z = none → H dx = none → dx ≠ z → spTInit K (V.ref z :: xs) (upd (upd H dx (.own z)) z (.ins (cT K) dx [])) (fun v H2 => v = .non ∧ Q (.ref z) H2) E := by
  refine ⟨a, xs, rfl, .inr hx, fun z dx hz hdx hne => ⟨z, dx, xs, d, rfl, upd_same, ?_, Rws.of_good g pm.symm, fun H' k ⟨dd, e1, e2⟩ => ⟨rfl, ?_⟩⟩⟩
  · refine DpAll.same ?_ _ _ hd
    refine (same_up hdx).trans (same_up ?_)
    rw [upd_ne hne.symm]
    exact hz
  · refine q H' z (fun b o e => ?_) hz ⟨g, dx, dd, d, e1, e2, pm⟩
    have h1 : b ≠ z := fun e' => by rw [e', hz] at e; cases e
    have h2 : b ≠ dx := fun e' => by rw [e', hdx] at e; cases e
    refine k b o ?_ h1
    rw [upd_ne h1, upd_ne h2]
    exact e
def spTAdd (K : PySem.W.Frag) : Sp := fun vs H Q _ => ∃ (a b : Addr) (r d r' : Tb) (xs : List V), vs = [.ref a, .ref b] ∧ TabAt K H a r ∧ SqT K H b xs ∧ DpAll K H xs (d.map rD) ∧ Good r' ∧ (r ++ d).Perm r' ∧
  ∀ H' c, Same H H' → H c = none → TabAt K H' c r' → Q (.ref c) H'
theorem sc_tAdd : FnScope ["self", "other", "rows"] ["self", "other"] (defScope s_tAdd) := ⟨rfl, rfl, rfl, by decide +kernel, rfl, by decide +kernel, by decide +kernel⟩
theorem ok_tAdd (T : Txt K mg) : FnR P w K mg base CX0 7 (a_tAdd K) (spTAdd K) := by
  have nd := sc_tAdd.nd
  refine okR T.f_tAdd sc_tAdd (fun _ _ _ _ _ _ us hl => match us, hl with | [_, _], _ => rfl) (fun vs H Q E h => ?_) (fun cdv A outer s H vs Q E hr h => ?_)
  · obtain ⟨a, b, r, d, r', xs, rfl, _⟩ := h
    rfl
  · obtain ⟨a, b, r, d, r', xs, rfl, ha, hb, hd, g, pm, q⟩ := h
    refine ⟨_, (pss_cons (ps_set (i := 2) nd rfl (.inl rfl) (pe_op op_cat (pe_callTy call_list_of (by rfl) T.n_list (by decide +kernel) (pa_cons (pe_propR (pv 0) T.cl T.rowsP (ok_tRows T) (by exact hr.mono (by decide)) pass0 (by rfl)) pa_nil)) (pe_cl (ok_more_rows T) (by exact hr.mono (by decide)) (by rfl) T.g_more_rows (T.f_more_rows.elim fun _ F => F.kp) pass0 (pa_cons (pv 1) pa_nil)))) (pss_one (ps_ret (pe_makeS T.mkT (ok_tInit T) (by exact hr.mono (by decide)) (by rfl) T.g_Table pass0 (pv 2))))), ?_⟩
    obtain ⟨dx, fs, hi⟩ := ha.ins
    have hl1 := g.len
    have hl2 := pm.length_eq
    rw [List.length_append] at hl2
    refine ⟨_, rfl, a, dx, fs, rfl, hi, ⟨a, r, rfl, ha, fun H1 t s1 _ ⟨ys, ht, hys⟩ => ⟨t, ys, rfl, .inr ht, fun l hl => ?_⟩⟩⟩
    have s2 : Same H (upd H1 l (.lst ys)) := s1.trans (same_up hl)
    refine ⟨_, rfl, b, xs, rfl, Same.tup s2 hb, fun l2 hl2' => ?_⟩
    have s3 : Same H (upd (upd H1 l (.lst ys)) l2 (.lst xs)) := s2.trans (same_up hl2')
    have e1 := RowsAt.len hys
    have e2 := RowsAt.len hd
    refine ⟨l, l2, ys, xs, rfl, rfl, same_up hl2' _ _ upd_same, upd_same, Nat.le_of_lt (small1000 (by omega)), fun l3 hl3 => ?_⟩
    refine ⟨_, rfl, ?_⟩
    refine mk_table (SqL.of upd_same) (d := r ++ d) ?_ g pm fun H' c s hc ht => q H' c ((s3.trans (same_up hl3)).trans s) ((s3.trans (same_up hl3)).free hc) ht
    have s4 := s3.trans (same_up (o := .lst (ys ++ xs)) hl3)
    have f1 : DpAll K (upd (upd (upd H1 l (.lst ys)) l2 (.lst xs)) l3 (.lst (ys ++ xs))) ys (r.map rD) := DpAll.same (((same_up hl).trans (same_up hl2')).trans (same_up hl3)) _ _ hys
    have f2 := DpAll.same s4 _ _ hd
    have ap : ∀ {H : Hp} {vs ws : List V} {ds es : List PyData}, DpAll K H vs ds → DpAll K H ws es → DpAll K H (vs ++ ws) (ds ++ es) := by
      intro H vs ws ds es h1 h2
      induction vs generalizing ds with
      | nil => cases h1; exact h2
      | cons v vs ih => cases h1 with | cons x y => exact .cons x (ih y)
    rw [List.map_append]
    exact ap f1 f2
/-- a new list of ints -/
def spKeys (K : PySem.W.Frag) : Sp := fun vs H Q _ => ∃ (p : Addr) (r : Tb), vs = [.ref p] ∧ TabAt K H p r ∧ ∀ H' l, Same H H' → H l = none → H' l = some (.lst ((keysT r).map V.int)) → Q (.ref l) H'
theorem keysT_take1 {r : Tb} {i : Nat} {p : Int × Int} (e : r[i]? = some p) : (keysT (r.take (i + 1))).map V.int = (keysT (r.take i)).map V.int ++ [V.int p.1] := by
  unfold keysT
  rw [take_map e, List.map_append]
  rfl
theorem sc_keys_of : FnScope ["table", "key", "new"] ["table"] (defScope s_keys_of) := ⟨rfl, rfl, rfl, by decide +kernel, rfl, by decide +kernel, by decide +kernel⟩
theorem ok_keys_of (T : Txt K mg) : FnR P w K mg base CX0 3 (a_keys_of K) (spKeys K) := by
  have nd := sc_keys_of.nd
  refine okR T.f_keys_of sc_keys_of (fun _ _ _ _ _ _ us hl => match us, hl with | [_], _ => rfl) (fun vs H Q E h => ?_) (fun cdv A outer s H vs Q E hr h => ?_)
  · obtain ⟨p, r, rfl, _⟩ := h
    rfl
  · obtain ⟨p, r, rfl, ht, q⟩ := h
    refine ⟨_, (pss_one (ps_ret (pe_lc (own := [("key", 1), ("new", 2)]) (g := (gTup K 2 (gCons (gName 1) (gCons (gName 2) gNil)))) rfl nd (pi_tup (pe_propR (pv 0) T.cl T.rowsP (ok_tRows T) (by exact hr.mono (by decide)) pass0 (by rfl))) (blkOk_by (own := [("key", 1), ("new", 2)]) (N := ["table", "key", "new"]) (sc := defScope s_keys_of) (by decide +kernel)) (fun _ _ _ _ _ => (pg_tup rfl (pgs_cons (pg_name (i := 1) nd rfl (.inl rfl) (.inr rfl)) (pgs_cons (pg_name (i := 2) nd rfl (.inl rfl) (.inr rfl)) pgs_nil)))) (fun _ _ _ _ _ => pts_nil) (fun _ _ _ _ _ => (pv 1))))), ?_⟩
    obtain ⟨dx, fs, hi⟩ := ht.ins
    have hl := ht.1.len
    refine ⟨_, rfl, p, dx, fs, rfl, hi, ⟨p, r, rfl, ht, fun H1 t s1 hq ⟨ys, ha, hys⟩ => ⟨t, rfl, ⟨ys, ha⟩, fun D hD => ?_⟩⟩⟩
    have e1 := RowsAt.len hys
    refine lc_go (walk_tup (xs := ys)) (fun i acc H => acc = (keysT (r.take i)).map V.int) (by omega) hD (fun H s => Same.tup s ha) rfl ?_ ?_
    · rintro i x H0 H2 acc hi L ⟨rfl, ex⟩
      obtain ⟨pr, a, e2, rfl, hpr⟩ := row_at (DpAll.same (L.same.trans hid_same) _ _ hys) ex
      refine ⟨a, _, rfl, hpr, rfl, _, _, rfl, _, _, rfl, rfl, rfl, yes ⟨_, rfl, L.snoc (by omega) (Same.refl _) ?_⟩⟩
      show acc ++ [V.int pr.1] = _
      rw [keysT_take1 e2, ← show acc = _ from L.f]
    · intro H' acc s e f _
      refine q H' D (s1.trans s) (s1.free hD) ?_
      rw [e, show acc = _ from f, e1, List.take_length]
def spIsSet (K : PySem.W.Frag) : Sp := fun vs H Q _ => ∃ (p t : Addr) (r : Tb) (ks : List Int), vs = [.ref p, .ref t] ∧ TabAt K H p r ∧ SqT K H t (ks.map V.int) ∧ (∀ k ∈ ks, k ∈ keysT r) ∧ ks.Pairwise (· < ·) ∧ ks.length ≤ 800 ∧ ∀ H', Same H H' → Q (.bl true) H'
theorem sc_is_set : FnScope ["table", "thing", "key"] ["table", "thing"] (defScope s_is_set) := ⟨rfl, rfl, rfl, by decide +kernel, rfl, by decide +kernel, by decide +kernel⟩
theorem ok_is_set (T : Txt K mg) : FnR P w K mg base CX0 5 (a_is_set K) (spIsSet K) := by
  have nd := sc_is_set.nd
  refine okR T.f_is_set sc_is_set (fun _ _ _ _ _ _ us hl => match us, hl with | [_, _], _ => rfl) (fun vs H Q E h => ?_) (fun cdv A outer s H vs Q E hr h => ?_)
  · obtain ⟨p, t, r, ks, rfl, _⟩ := h
    rfl
  · obtain ⟨p, t, r, ks, rfl, ht, hk, hin, asc, hl, q⟩ := h
    refine ⟨_, (pss_one (ps_ret (pe_and (pe_callB call_isi (by rfl) T.n_isinstance (by decide +kernel) (pa_cons (pv 1) (pa_cons (pe_bltn (v := .ty "tuple") (by rfl) T.n_tuple (by decide +kernel) rfl) pa_nil))) (pe_and (pe_callB (cr_all rfl) (by rfl) T.n_all (by decide +kernel) (pa_cons (pe_lc (own := [("key", 2)]) (g := (gName 2)) rfl nd (pi_tup (pv 1)) (blkOk_by (own := [("key", 2)]) (N := ["table", "thing", "key"]) (sc := defScope s_is_set) (by decide +kernel)) (fun _ _ _ _ _ => (pg_name (i := 2) nd rfl (.inl rfl) (.inr rfl))) (fun _ _ _ _ _ => pts_nil) (fun _ _ _ _ _ => (pe_cmpR (op_inO T.inO (ok_tIn T) (by exact hr.mono (by decide)) pass0) (pv 2) (pv 0) (by rfl)))) pa_nil)) (pe_one (pe_cl (ok_is_ascending T) (by exact hr.mono (by decide)) (by rfl) T.g_is_ascending (T.f_is_ascending.elim fun _ F => F.kp) pass0 (pa_cons (pv 1) pa_nil))))))), ?_⟩
    obtain ⟨dx, fs, hi⟩ := ht.ins
    refine ⟨_, rfl, .ref t, .ty "tuple", _, _, true, rfl, .ty _, tyX_tup hk, kit_ty (by decide +kernel), true, rfl, iteT ?_⟩
    refine ⟨_, rfl, t, rfl, ⟨_, hk⟩, fun D hD => ?_⟩
    refine lc_go (walk_tup (xs := ks.map V.int)) (fun i acc H => acc = List.replicate i (V.bl true)) (by rw [List.length_map]; omega) hD (fun H s => Same.tup s hk) rfl ?_ ?_
    · rintro i x H0 H2 acc hi' L ⟨rfl, ex⟩
      rw [List.getElem?_map] at ex
      obtain ⟨k, e1, rfl⟩ := Option.map_eq_some_iff.mp ex
      have s2 := L.same.trans hid_same
      have hm := hin k (List.mem_of_getElem? e1)
      refine ⟨rfl, yes ⟨_, rfl, _, rfl, p, dx, fs, rfl, s2 _ _ hi, ⟨p, r, k, rfl, ht.same s2, _, rfl, L.snoc (by rw [List.length_map] at hi'; omega) (Same.refl _) ?_⟩⟩⟩
      show acc ++ [V.bl (decide (k ∈ keysT r))] = _
      rw [decide_eq_true hm, List.replicate_succ', ← show acc = _ from L.f]
    · intro H' acc s e f _
      rw [show acc = _ from f, rep_bl] at e
      refine ⟨D, _, rfl, SqL.of e, _, rfl, ?_⟩
      rw [all_true]
      exact iteT ⟨_, rfl, t, ks, rfl, Same.tup s hk, hl, asc, fun H2 s2 => q H2 (s.trans s2)⟩
def spNeedR (K : PySem.W.Frag) : Sp := fun vs H Q _ => ∃ (p t : Addr) (r : Tb) (ks : List Int), vs = [.ref p, .ref t] ∧ TabAt K H p r ∧ SqT K H t (ks.map V.int) ∧ (∀ k ∈ ks, k ∈ keysT r) ∧ ks.Pairwise (· < ·) ∧ ks.length ≤ 800 ∧ ∀ H', Same H H' → Q .non H'
theorem sc_need_rows : FnScope ["table", "rows"] ["table", "rows"] (defScope s_need_rows) := ⟨rfl, rfl, rfl, by decide +kernel, rfl, by decide +kernel, by decide +kernel⟩
theorem ok_need_rows (T : Txt K mg) : FnR P w K mg base CX0 6 (a_need_rows K) (spNeedR K) := by
  have nd := sc_need_rows.nd
  refine okR T.f_need_rows sc_need_rows (fun _ _ _ _ _ _ us hl => match us, hl with | [_, _], _ => rfl) (fun vs H Q E h => ?_) (fun cdv A outer s H vs Q E hr h => ?_)
  · obtain ⟨p, t, r, ks, rfl, _⟩ := h
    rfl
  · obtain ⟨p, t, r, ks, rfl, ht, hk, hin, asc, hl, q⟩ := h
    refine ⟨_, (pss_cons (ps_expr (pe_cl (ok_need_table T) (by exact hr.mono (by decide)) (by rfl) T.g_need_table (T.f_need_table.elim fun _ F => F.kp) pass0 (pa_cons (pv 0) pa_nil))) (pss_one (ps_if (pt_not (pt_val (pe_cl (ok_is_set T) (by exact hr.mono (by decide)) (by rfl) T.g_is_set (T.f_is_set.elim fun _ F => F.kp) pass0 (pa_cons (pv 0) (pa_cons (pv 1) pa_nil))))) pss_never pss_nil))), ?_⟩
    obtain ⟨dx, fs, hi⟩ := ht.ins
    refine ⟨_, rfl, p, dx, fs, rfl, hi, ?_⟩
    refine ⟨_, rfl, _, rfl, p, t, r, ks, rfl, ht, hk, hin, asc, hl, fun H' s => ⟨true, rfl, iteF (q H' s)⟩⟩
end
end Rw

-- D6
set_option Elab.async false
set_option linter.all false
set_option maxRecDepth 100000
set_option maxHeartbeats 4000000
/-! Table.__sub__, is_order, need_order, waited. -/
namespace Rw
open PySem PySem.Spec PyProof.Rows L2
section
variable {P : Program} {w : World} {K : PySem.W.Frag} {mg : Str → Option Value} {base : Heap}

theorem kM {r : Tb} {p : Int × Int} {i : Nat} (e : r[i]? = some p) : p.1 ∈ keysT r := List.mem_map.mpr ⟨p, List.mem_of_getElem? e, rfl⟩
/-- the rows whose keys are not in ks -/
def subT (r : Tb) (ks : List Int) : Tb := r.filter fun p => !decide (p.1 ∈ ks)
theorem Good.sub {r : Tb} (g : Good r) (ks : List Int) : Good (subT r ks) where
  asc := g.asc.sublist ((List.filter_sublist (l := r)).map _)
  len := Nat.le_trans (List.length_filter_le _ _) g.len
  kb := fun p hp => g.kb p ((List.mem_filter.mp hp).1)
def spTSub (K : PySem.W.Frag) : Sp := fun vs H Q _ => ∃ (a b : Addr) (r : Tb) (ks : List Int), vs = [.ref a, .ref b] ∧ TabAt K H a r ∧ SqT K H b (ks.map V.int) ∧ (∀ k ∈ ks, k ∈ keysT r) ∧ ks.Pairwise (· < ·) ∧ ks.length ≤ 800 ∧
  ∀ H' c, Same H H' → H c = none → TabAt K H' c (subT r ks) → Q (.ref c) H'
theorem sc_tSub : FnScope ["self", "other", "rows", "row"] ["self", "other"] (defScope s_tSub) := ⟨rfl, rfl, rfl, by decide +kernel, rfl, by decide +kernel, by decide +kernel⟩
theorem ok_tSub (T : Txt K mg) : FnR P w K mg base CX0 8 (a_tSub K) (spTSub K) := by
  have nd := sc_tSub.nd
  refine okR T.f_tSub sc_tSub (fun _ _ _ _ _ _ us hl => match us, hl with | [_, _], _ => rfl) (fun vs H Q E h => ?_) (fun cdv A outer s H vs Q E hr h => ?_)
  · obtain ⟨a, b, r, ks, rfl, _⟩ := h
    rfl
  · obtain ⟨a, b, r, ks, rfl, ha, hb, hin, asc, hl, q⟩ := h
    refine ⟨_, (pss_cons (ps_expr (pe_cl (ok_need_rows T) (by exact hr.mono (by decide)) (by rfl) T.g_need_rows (T.f_need_rows.elim fun _ F => F.kp) pass0 (pa_cons (pv 0) (pa_cons (pv 1) pa_nil)))) (pss_cons (ps_setLc (i := 2) (own := [("row", 3)]) (g := (gName 3)) rfl nd rfl rfl (sw_true rfl rfl rfl (by decide +kernel)) (pi_tup (pe_propR (pv 0) T.cl T.rowsP (ok_tRows T) (by exact hr.mono (by decide)) pass0 (by rfl))) (blkOk_by (own := [("row", 3)]) (N := ["self", "other", "rows", "row"]) (sc := defScope s_tSub) (by decide +kernel)) (fun _ _ _ _ _ => (pg_name (i := 3) nd rfl (.inl rfl) (.inr rfl))) (fun _ _ _ _ _ => (pts_one (pt_cmpR (op_notInK (K := K) rfl) (pe_ix (ix_tupK (K := K) rfl) (pv 3) pe_int (fun _ _ => rfl)) (pv 1) (by rfl)))) (fun _ _ _ _ _ => (pv 3))) (pss_one (ps_ret (pe_makeS T.mkT (ok_tInit T) (by exact hr.mono (by decide)) (by rfl) T.g_Table pass0 (pv 2)))))), ?_⟩
    refine ⟨_, rfl, _, rfl, a, b, r, ks, rfl, ha, hb, hin, asc, hl, fun H0 s0 => ?_⟩
    obtain ⟨dx, fs, hi⟩ := ha.ins
    refine ⟨_, rfl, a, dx, fs, rfl, s0 _ _ hi, ⟨a, r, rfl, ha.same s0, fun H1 t s1 _ ⟨ys, ht, hys⟩ => ⟨t, rfl, ⟨ys, ht⟩, fun D hD => ?_⟩⟩⟩
    have e1 := RowsAt.len hys
    have hl1 := ha.1.len
    refine lc_go (walk_tup (xs := ys)) (fun i acc H => DpAll K H acc ((subT (r.take i) ks).map rD)) (by omega) hD (fun H s => Same.tup s ht) .nil ?_ ?_
    · rintro i x H0' H2 acc hi' L ⟨rfl, ex⟩
      have s2 := L.same.trans hid_same
      obtain ⟨pr, c, e2, rfl, hpr⟩ := row_at (DpAll.same s2 _ _ hys) ex
      obtain ⟨pr', c', e2', ec, hpr'⟩ := row_at (DpAll.same L.same _ _ hys) ex
      cases ec
      rw [e2] at e2'
      cases e2'
      refine ⟨rfl, ⟨_, rfl, ?_⟩⟩
      refine ⟨_, _, 0, _, rfl, rfl, hpr, atI_nat (j := 0) rfl, _, rfl, b, _, rfl, .inr (Same.tup ((s0.trans s1).trans s2) hb), rfl, flat_ints _, _, rfl, ?_⟩
      rw [inV_int]
      have et : subT (r.take (i + 1)) ks = subT (r.take i) ks ++ (if decide (pr.1 ∈ ks) = true then [] else [pr]) := by
        unfold subT
        rw [take_snoc e2, List.filter_append]
        congr 1
        by_cases hm : pr.1 ∈ ks <;> simp [hm]
      refine ite2 (fun hm => ⟨_, rfl, L.snoc (by omega) (Same.refl _) ?_⟩) (fun hm => L.skip (by omega) (Same.refl _) ?_)
      · show DpAll K _ (acc ++ [V.ref c]) _
        have hm : decide (pr.1 ∈ ks) = false := by simpa using hm
        rw [et, hm, if_neg Bool.false_ne_true, List.map_append]
        exact dpAll_snoc L.f (dp_tI (ns := [pr.1, pr.2]) hpr')
      · have hm : decide (pr.1 ∈ ks) = true := by simpa using hm
        show DpAll K _ acc _
        rw [et, hm, if_pos rfl, List.append_nil]
        exact L.f
    · intro H' acc s e f _
      have f : DpAll K (hid H' D) acc ((subT (r.take ys.length) ks).map rD) := f
      rw [e1, List.take_length] at f
      refine ⟨_, rfl, mk_table (SqL.of e) (DpAll.same hid_same _ _ f) (ha.1.sub ks) (.refl _) fun H3 c s3 hc ht3 => q H3 c (((s0.trans s1).trans s).trans s3) (((s0.trans s1).trans s).free hc) ht3⟩
def spOrder (K : PySem.W.Frag) : Sp := fun vs H Q _ => ∃ (p t : Addr) (r : Tb) (ks : List Int), vs = [.ref p, .ref t] ∧ TabAt K H p r ∧ SqT K H t (ks.map V.int) ∧ ks.Perm (keysT r) ∧ ∀ H', Same H H' → Q (.bl true) H'
theorem sc_is_order : FnScope ["table", "thing", "key"] ["table", "thing"] (defScope s_is_order) := ⟨rfl, rfl, rfl, by decide +kernel, rfl, by decide +kernel, by decide +kernel⟩
theorem ok_is_order (T : Txt K mg) : FnR P w K mg base CX0 5 (a_is_order K) (spOrder K) := by
  have nd := sc_is_order.nd
  refine okR T.f_is_order sc_is_order (fun _ _ _ _ _ _ us hl => match us, hl with | [_, _], _ => rfl) (fun vs H Q E h => ?_) (fun cdv A outer s H vs Q E hr h => ?_)
  · obtain ⟨p, t, r, ks, rfl, _⟩ := h
    rfl
  · obtain ⟨p, t, r, ks, rfl, ht, hk, pm, q⟩ := h
    refine ⟨_, (pss_cons (ps_if (pw_or (pt_not (pt_val (pe_callB call_isi (by rfl) T.n_isinstance (by decide +kernel) (pa_cons (pv 1) (pa_cons (pe_bltn (v := .ty "tuple") (by rfl) T.n_tuple (by decide +kernel) rfl) pa_nil))))) (pw_or1 (pt_not (pt_val (pe_callB (cr_all rfl) (by rfl) T.n_all (by decide +kernel) (pa_cons (pe_lc (own := [("key", 2)]) (g := (gName 2)) rfl nd (pi_tup (pv 1)) (blkOk_by (own := [("key", 2)]) (N := ["table", "thing", "key"]) (sc := defScope s_is_order) (by decide +kernel)) (fun _ _ _ _ _ => (pg_name (i := 2) nd rfl (.inl rfl) (.inr rfl))) (fun _ _ _ _ _ => pts_nil) (fun _ _ _ _ _ => (pe_cmpR (op_inO T.inO (ok_tIn T) (by exact hr.mono (by decide)) pass0) (pv 2) (pv 0) (by rfl)))) pa_nil)))))).pt (pss_one (ps_ret pe_bl)) pss_nil) (pss_one (ps_ret (pe_cmpR (op_eqD hr.units) (pe_callB (cr_sortD hr.units) (by rfl) T.n_sorted (by decide +kernel) (pa_cons (pv 1) pa_nil)) (pe_cl (ok_keys_of T) (by exact hr.mono (by decide)) (by rfl) T.g_keys_of (T.f_keys_of.elim fun _ F => F.kp) pass0 (pa_cons (pv 0) pa_nil)) (nomark _))))), ?_⟩
    obtain ⟨dx, fs, hi⟩ := ht.ins
    have hl : ks.length ≤ 40 := by
      rw [pm.length_eq]
      unfold keysT
      rw [List.length_map]
      exact ht.1.len
    refine ⟨_, rfl, .ref t, .ty "tuple", _, _, true, rfl, .ty _, tyX_tup hk, kit_ty (by decide +kernel), true, rfl, iteF ?_⟩
    refine ⟨_, rfl, t, rfl, ⟨_, hk⟩, fun D hD => ?_⟩
    refine lc_go (walk_tup (xs := ks.map V.int)) (fun i acc H => acc = List.replicate i (V.bl true)) (by rw [List.length_map]; omega) hD (fun H s => Same.tup s hk) rfl ?_ ?_
    · rintro i x H0 H2 acc hi' L ⟨rfl, ex⟩
      rw [List.getElem?_map] at ex
      obtain ⟨k, e1, rfl⟩ := Option.map_eq_some_iff.mp ex
      have s2 := L.same.trans hid_same
      have hm := pm.mem_iff.mp (List.mem_of_getElem? e1)
      refine ⟨rfl, yes ⟨_, rfl, _, rfl, p, dx, fs, rfl, s2 _ _ hi, ⟨p, r, k, rfl, ht.same s2, _, rfl, L.snoc (by rw [List.length_map] at hi'; omega) (Same.refl _) ?_⟩⟩⟩
      show acc ++ [V.bl (decide (k ∈ keysT r))] = _
      rw [decide_eq_true hm, List.replicate_succ', ← show acc = _ from L.f]
    · intro H' acc s e f _
      rw [show acc = _ from f, rep_bl] at e
      refine ⟨D, _, rfl, SqL.of e, _, rfl, ?_⟩
      rw [all_true]
      refine iteF ⟨_, rfl, t, ks.map V.int, ks.map .int, rfl, .inr (Same.tup s hk), dpAll_ints ks, sortGo_int (by omega) fun l S hl' pm' pw => ?_⟩
      have hS : S = keysT r := int_eq (pm'.trans pm) pw (ht.1.asc.imp fun {a b} h => by omega)
      refine ⟨_, rfl, p, r, rfl, ht.same (s.trans (same_up hl')), fun H2 l2 s2 hl2 e2 => ?_⟩
      have h1 : H2 l = some (.lst (S.map V.int)) := s2 _ _ upd_same
      refine ⟨.list (S.map .int), .list ((keysT r).map .int), .lst (SqL.of h1) (dpAll_ints _), .lst (SqL.of e2) (dpAll_ints _), shaped_ints _, shaped_ints _, ?_⟩
      rw [hS, eqv_self (shaped_ints _)]
      exact q _ ((s.trans (same_up hl')).trans s2)
def spNeedO (K : PySem.W.Frag) : Sp := fun vs H Q _ => ∃ (p t : Addr) (r : Tb) (ks : List Int), vs = [.ref p, .ref t] ∧ TabAt K H p r ∧ SqT K H t (ks.map V.int) ∧ ks.Perm (keysT r) ∧ ∀ H', Same H H' → Q .non H'
theorem sc_need_order : FnScope ["table", "order"] ["table", "order"] (defScope s_need_order) := ⟨rfl, rfl, rfl, by decide +kernel, rfl, by decide +kernel, by decide +kernel⟩
theorem ok_need_order (T : Txt K mg) : FnR P w K mg base CX0 6 (a_need_order K) (spNeedO K) := by
  have nd := sc_need_order.nd
  refine okR T.f_need_order sc_need_order (fun _ _ _ _ _ _ us hl => match us, hl with | [_, _], _ => rfl) (fun vs H Q E h => ?_) (fun cdv A outer s H vs Q E hr h => ?_)
  · obtain ⟨p, t, r, ks, rfl, _⟩ := h
    rfl
  · obtain ⟨p, t, r, ks, rfl, ht, hk, pm, q⟩ := h
    refine ⟨_, (pss_cons (ps_expr (pe_cl (ok_need_table T) (by exact hr.mono (by decide)) (by rfl) T.g_need_table (T.f_need_table.elim fun _ F => F.kp) pass0 (pa_cons (pv 0) pa_nil))) (pss_one (ps_if (pt_not (pt_val (pe_cl (ok_is_order T) (by exact hr.mono (by decide)) (by rfl) T.g_is_order (T.f_is_order.elim fun _ F => F.kp) pass0 (pa_cons (pv 0) (pa_cons (pv 1) pa_nil))))) pss_never pss_nil))), ?_⟩
    obtain ⟨dx, fs, hi⟩ := ht.ins
    refine ⟨_, rfl, p, dx, fs, rfl, hi, ?_⟩
    exact ⟨_, rfl, _, rfl, p, t, r, ks, rfl, ht, hk, pm, fun H' s => ⟨true, rfl, iteF (q H' s)⟩⟩
def oV : Option Int → V
  | none => .non
  | some i => .int i
def spWaited (K : PySem.W.Frag) : Sp := fun vs H Q _ => ∃ (p : Addr) (r : Tb) (k : Int), vs = [.ref p, .int k] ∧ TabAt K H p r ∧ k ∈ keysT r ∧ Q (oV (wtT r k)) H
theorem sc_waited : FnScope ["table", "key", "new"] ["table", "key"] (defScope s_waited) := ⟨rfl, rfl, rfl, by decide +kernel, rfl, by decide +kernel, by decide +kernel⟩
theorem ok_waited (T : Txt K mg) : FnR P w K mg base CX0 6 (a_waited K) (spWaited K) := by
  have nd := sc_waited.nd
  refine okR T.f_waited sc_waited (fun _ _ _ _ _ _ us hl => match us, hl with | [_, _], _ => rfl) (fun vs H Q E h => ?_) (fun cdv A outer s H vs Q E hr h => ?_)
  · obtain ⟨p, r, k, rfl, _⟩ := h
    rfl
  · obtain ⟨p, r, k, rfl, ht, hk, q⟩ := h
    refine ⟨_, (pss_cons (ps_set (i := 2) nd rfl (.inl rfl) (pe_getO T.getO (ok_tGet T) (by exact hr.mono (by decide)) pass0 (pv 0) (pv 1))) (pss_one (ps_ret (pe_ifExp (pw_and (pt_cmpR op_ne (pv 2) (pv 1) (nomark _)) (pw_and1 (pt_cmpR (op_inO T.inO (ok_tIn T) (by exact hr.mono (by decide)) pass0) (pv 2) (pv 0) (by rfl)))).pt (pv 2) pe_non)))), ?_⟩
    obtain ⟨dx, fs, hi⟩ := ht.ins
    obtain ⟨x, hx⟩ := newT_some hk
    refine ⟨_, rfl, _, rfl, p, dx, fs, rfl, hi, ⟨p, r, k, x, rfl, ht, hx, ?_⟩⟩
    refine ⟨_, rfl, _, rfl, rfl, _, rfl, ?_⟩
    by_cases h1 : x = k
    · have e : wtT r k = none := by
        cases z : wtT r k with
        | none => rfl
        | some y =>
          have := wtT_some.mp z
          rw [hx] at this
          cases this.1
          exact absurd h1 this.2.1
      rw [e] at q
      have d : (!decide (V.int x = V.int k)) = false := by rw [h1]; simp
      rw [d]
      refine iteF ?_
      exact q
    · have d : (!decide (V.int x = V.int k)) = true := by simp [h1]
      rw [d]
      refine iteT ⟨_, rfl, _, rfl, p, dx, fs, rfl, hi, ⟨p, r, x, rfl, ht, _, rfl, _, rfl, ?_⟩⟩
      by_cases h2 : x ∈ keysT r
      · have e : wtT r k = some x := wtT_some.mpr ⟨hx, h1, h2⟩
        rw [e] at q
        refine ite2 (fun _ => ⟨_, rfl, q⟩) (fun z => ?_)
        simp [h2] at z
      · have e : wtT r k = none := by
          cases z : wtT r k with
          | none => rfl
          | some y =>
            have := wtT_some.mp z
            rw [hx] at this
            cases this.1
            exact absurd this.2.2 h2
        rw [e] at q
        refine ite2 (fun z => ?_) (fun _ => q)
        simp [h2] at z
end
end Rw

-- D7
set_option Elab.async false
set_option linter.all false
set_option maxRecDepth 100000
set_option maxHeartbeats 4000000
/-! path_of, rings_of, waiting_for. -/
namespace Rw
open PySem PySem.Spec PyProof.Rows L2
section
variable {P : Program} {w : World} {K : PySem.W.Frag} {mg : Str → Option Value} {base : Heap}

def LI (H : Hp) (l : Addr) (ns : List Int) : Prop := H l = some (.lst (ns.map V.int))
theorem memI {ns : List Int} : (ns.map V.int).length = ns.length := List.length_map _
def spPath (K : PySem.W.Frag) : Sp := fun vs H Q _ => ∃ (p : Addr) (r : Tb) (k : Int), vs = [.ref p, .int k] ∧ TabAt K H p r ∧ Inj r ∧ k ∈ keysT r ∧ ∀ l, H l = none → Q (.ref l) (upd H l (.lst ((Rc.path (keysT r) (wtT r) k).map V.int)))
theorem sc_path_of : FnScope ["table", "key", "found", "row"] ["table", "key"] (defScope s_path_of) := ⟨rfl, rfl, rfl, by decide +kernel, rfl, by decide +kernel, by decide +kernel⟩
theorem ok_path_of (T : Txt K mg) : FnR P w K mg base CX0 7 (a_path_of K) (spPath K) := by
  have nd := sc_path_of.nd
  refine okR T.f_path_of sc_path_of (fun _ _ _ _ _ _ us hl => match us, hl with | [_, _], _ => rfl) (fun vs H Q E h => ?_) (fun cdv A outer s H vs Q E hr h => ?_)
  · obtain ⟨p, r, k, rfl, _⟩ := h
    rfl
  · obtain ⟨p, r, k, rfl, ht, inj, hk, q⟩ := h
    have G := gr_of ht.1 inj
    have hS : (keysT r).length ≤ 40 := by
      unfold keysT
      rw [List.length_map]
      exact ht.1.len
    refine ⟨_, (pss_cons (ps_par (i := 2) (j := 3) (by rfl) nd rfl rfl (by decide) rfl rfl (pa_cons (pe_lst (pa_cons (pv 1) pa_nil)) (pa_cons (pe_cl (ok_waited T) (by exact hr.mono (by decide)) (by rfl) T.g_waited (T.f_waited.elim fun _ F => F.kp) pass0 (pa_cons (pv 0) (pa_cons (pv 1) pa_nil))) pa_nil)) (by rfl)) (pss_cons (ps_while PassesOwn.never (pw_and (pt_cmp (pc_notN (pv 3))) (pw_and1 (pt_cmpR op_notIn_seq (pv 3) (pv 2) (by rfl)))).pt (pss_cons (ps_expr (pe_bm PySem.F.plainAttrs_list PySem.F.slot_list_append PySem.F.type_list_append mt_append (pv 2) (pa_cons (pv 3) pa_nil))) (pss_one (ps_set (i := 3) nd rfl (.inl rfl) (pe_cl (ok_waited T) (by exact hr.mono (by decide)) (by rfl) T.g_waited (T.f_waited.elim fun _ F => F.kp) pass0 (pa_cons (pv 0) (pa_cons (pv 3) pa_nil))))))) (pss_one (ps_ret (pv 2))))), ?_⟩
    refine ⟨_, rfl, (show 1 ≤ sizeLine by decide), fun l hl => ?_⟩
    refine ⟨_, rfl, _, rfl, p, r, k, rfl, ht.same (same_up hl), hk, ?_⟩
    refine ⟨_, _, rfl, ?_⟩
    refine ⟨fun m σ H2 => ∃ acc row, σ = [some (.ref p), some (.int k), some (.ref l), some (oV row)] ∧ H2 = upd H l (.lst (acc.map V.int)) ∧ Rc.pathGo (wtT r) m acc row = Rc.path (keysT r) (wtT r) k ∧ acc.Nodup ∧ (∀ x ∈ acc, x ∈ keysT r) ∧ (keysT r).length + 1 ≤ acc.length + m ∧ (∀ y, row = some y → y ∈ keysT r),
      ⟨(keysT r).length, [k], wtT r k, rfl, rfl, rfl, by simp, by simpa using hk, by simp; omega, fun y e => (wtT_some.mp e).2.2⟩, ?_⟩
    rintro m σ H2 ⟨acc, row, rfl, rfl, hp, nd', hin, hm, hrow⟩
    have hal := Rc.nodup_length_le nd' hin
    have at_l : SqL K (upd H l (.lst (acc.map V.int))) l (acc.map V.int) := SqL.of upd_same
    refine ⟨_, rfl, _, rfl, ?_⟩
    cases row with
    | none =>
      refine iteF (iteF ⟨_, rfl, ?_⟩)
      have : acc = Rc.path (keysT r) (wtT r) k := by
        rw [← hp]
        cases m <;> rfl
      rw [this]
      exact q l hl
    | some y =>
      refine iteT ⟨_, rfl, _, rfl, l, _, rfl, .inl at_l, rfl, flat_ints _, _, rfl, ?_⟩
      refine ite2 (fun z => ?_) (fun z => ?_)
      · have z : (!inV (V.int y) (acc.map V.int)) = true := z
        rw [inV_int] at z
        have hy : y ∉ acc := by simpa using z
        cases m with
        | zero => exact absurd hm (by omega)
        | succ m =>
          refine ⟨fun σ H2 => ∃ acc row, σ = [some (.ref p), some (.int k), some (.ref l), some (oV row)] ∧ H2 = upd H l (.lst (acc.map V.int)) ∧ Rc.pathGo (wtT r) m acc row = Rc.path (keysT r) (wtT r) k ∧ acc.Nodup ∧ (∀ x ∈ acc, x ∈ keysT r) ∧ (keysT r).length + 1 ≤ acc.length + m ∧ (∀ y, row = some y → y ∈ keysT r), fun σ' H' h => ⟨m, Nat.lt_succ_self m, h⟩, ?_⟩
          have hys := hrow y rfl
          refine ⟨_, rfl, .inl ⟨rfl, _, at_l⟩, _, rfl, l, acc.map V.int, _, rfl, rfl, upd_same, small1000 (by rw [memI]; omega), ?_⟩
          rw [upd_upd, show acc.map V.int ++ [oV (some y)] = (acc ++ [y]).map V.int by simp [oV]]
          refine ⟨_, rfl, _, rfl, p, r, y, rfl, ht.same (same_up hl), hys, ?_⟩
          refine ⟨acc ++ [y], wtT r y, rfl, rfl, ?_, Rc.nodup_snoc nd' hy, ?_, by simp; omega, fun z e => (wtT_some.mp e).2.2⟩
          · rw [← hp]
            show _ = if y ∈ acc then acc else Rc.pathGo (wtT r) m (acc ++ [y]) (wtT r y)
            rw [if_neg hy]
          · intro x hx
            rcases List.mem_append.mp hx with h1 | h1
            · exact hin x h1
            · have : x = y := by simpa using h1
              rw [this]
              exact hys
      · have z : (!inV (V.int y) (acc.map V.int)) = false := z
        rw [inV_int] at z
        have hy : y ∈ acc := by simpa using z
        refine ⟨_, rfl, ?_⟩
        have : acc = Rc.path (keysT r) (wtT r) k := by
          rw [← hp]
          cases m with
          | zero => rfl
          | succ m =>
            show acc = if y ∈ acc then acc else _
            rw [if_pos hy]
        rw [this]
        exact q l hl
end
end Rw

-- D8
set_option Elab.async false
set_option linter.all false
set_option maxRecDepth 100000
set_option maxHeartbeats 4000000
/-! rings_of, waiting_for. -/
namespace Rw
open PySem PySem.Spec PyProof.Rows L2
section
variable {P : Program} {w : World} {K : PySem.W.Frag} {mg : Str → Option Value} {base : Heap}

theorem hid_of {H H2 : Hp} {D : Addr} {o : HO} (hD : H D = none) (s : Same (upd H D o) H2) : Same H (hid H2 D) := by
  have := hid_mono (D := D) s
  rw [hid_upd, hid_none hD] at this
  exact this
theorem LcAt.start {F : Nat → List V → Hp → Prop} {D : Addr} {H2 : Hp} (e : H2 D = some (.lst [])) (f : F 0 [] (hid H2 D)) : LcP F D (hid H2 D) 0 H2 := ⟨[], Same.refl _, e, Nat.le_refl _, Nat.zero_le _, f⟩
theorem atI_m1 {xs : List V} {x : V} (h : xs[xs.length - 1]? = some x) : atI xs (-1) = some x := by
  have hl := (List.getElem?_eq_some_iff.mp h).1
  have : xs = xs.take (xs.length - 1) ++ [x] := by
    have e : xs.take (xs.length - 1 + 1) = xs.take (xs.length - 1) ++ [x] := take_snoc h
    rw [show xs.length - 1 + 1 = xs.length by omega, List.take_length] at e
    exact e
  rw [this]
  exact atI_last _ _
abbrev keys_sz {r : Tb} (g : Good r) : (keysT r).length ≤ 40 := by
  unfold keysT
  rw [List.length_map]
  exact g.len
/-- the rings of the keys so far -/
def ringsTo (r : Tb) (i : Nat) : List (List Int) := (((keysT r).take i).filter (Rc.isRing (keysT r) (wtT r))).map (Rc.path (keysT r) (wtT r))
theorem ringsTo_succ {r : Tb} {i : Nat} {k : Int} (e : (keysT r)[i]? = some k) : ringsTo r (i + 1) = ringsTo r i ++ (if Rc.isRing (keysT r) (wtT r) k = true then [Rc.path (keysT r) (wtT r) k] else []) := by
  unfold ringsTo
  rw [take_snoc e, List.filter_append, List.map_append]
  congr 1
  by_cases h : Rc.isRing (keysT r) (wtT r) k = true <;> simp [h]
theorem ringsTo_all (r : Tb) : ringsTo r (keysT r).length = Rc.rings (keysT r) (wtT r) := by
  unfold ringsTo Rc.rings
  rw [List.take_length]
def ringsR (r : Tb) : List (List Int) := Rc.rings (keysT r) (wtT r)
def spRings (K : PySem.W.Frag) : Sp := fun vs H Q _ => ∃ (p : Addr) (r : Tb), vs = [.ref p] ∧ TabAt K H p r ∧ Inj r ∧ ∀ H' l xs, Same H H' → H l = none → H' l = some (.lst xs) → DpAll K (hid H' l) xs ((ringsR r).map tI) → Q (.ref l) H'
theorem sc_rings_of : FnScope ["table", "found", "key", "rows"] ["table"] (defScope s_rings_of) := ⟨rfl, rfl, rfl, by decide +kernel, rfl, by decide +kernel, by decide +kernel⟩
theorem ok_rings_of (T : Txt K mg) : FnR P w K mg base CX0 8 (a_rings_of K) (spRings K) := by
  have nd := sc_rings_of.nd
  refine okR T.f_rings_of sc_rings_of (fun _ _ _ _ _ _ us hl => match us, hl with | [_], _ => rfl) (fun vs H Q E h => ?_) (fun cdv A outer s H vs Q E hr h => ?_)
  · obtain ⟨p, r, rfl, _⟩ := h
    rfl
  · obtain ⟨p, r, rfl, ht, inj, q⟩ := h
    have G := gr_of ht.1 inj
    have hS := keys_sz ht.1
    refine ⟨_, (pss_cons (ps_set (i := 1) nd rfl (.inl rfl) (pe_lst pa_nil)) (pss_cons (ps_for PassesOwn.never rfl (pi_list (pe_cl (ok_keys_of T) (by exact hr.mono (by decide)) (by rfl) T.g_keys_of (T.f_keys_of.elim fun _ F => F.kp) pass0 (pa_cons (pv 0) pa_nil))) (pg_name (i := 2) nd rfl (.inl rfl)) (pss_cons (ps_set (i := 3) nd rfl (.inl rfl) (pe_cl (ok_path_of T) (by exact hr.mono (by decide)) (by rfl) T.g_path_of (T.f_path_of.elim fun _ F => F.kp) pass0 (pa_cons (pv 0) (pa_cons (pv 2) pa_nil)))) (pss_one (ps_if (pw_and (pt_cmpR op_eq (pe_cl (ok_waited T) (by exact hr.mono (by decide)) (by rfl) T.g_waited (T.f_waited.elim fun _ F => F.kp) pass0 (pa_cons (pv 0) (pa_cons (pe_ix ix_list (pv 3) (pe_un un_neg pe_int) (fun _ _ => rfl)) pa_nil))) (pv 2) (nomark _)) (pw_and1 (pt_cmpR op_eq (pv 2) (pe_callB (cr_min rfl) (by rfl) T.n_min (by decide +kernel) (pa_cons (pv 3) pa_nil)) (nomark _)))).pt (pss_one (ps_expr (pe_bm PySem.F.plainAttrs_list PySem.F.slot_list_append PySem.F.type_list_append mt_append (pv 1) (pa_cons (pe_callTy call_tuple_of (by rfl) T.n_tuple (by decide +kernel) (pa_cons (pv 3) pa_nil)) pa_nil)))) pss_nil)))) (pss_one (ps_ret (pv 1))))), ?_⟩
    refine ⟨Nat.zero_le _, fun D hD => ?_⟩
    have s0 : Same H (upd H D (.lst [])) := same_up hD
    refine ⟨_, rfl, p, r, rfl, ht.same s0, fun H2 t s2 htn e2 => ⟨t, rfl, ⟨_, SqL.of e2⟩, ?_⟩⟩
    have htD : t ≠ D := fun e => by rw [e, upd_same] at htn; cases htn
    have eD : H2 D = some (.lst []) := s2 _ _ upd_same
    have sB : Same H (hid H2 D) := hid_of hD s2
    have et : hid H2 D t = some (.lst ((keysT r).map V.int)) := by rw [hid_ne htD]; exact e2
    refine for_it (walk_list (xs := (keysT r).map V.int)) (fun i σ H => (∃ y2 y3, σ = [some (.ref p), some (.ref D), y2, y3]) ∧ LcP (fun i acc H => DpAll K H acc ((ringsTo r i).map tI)) D (hid H2 D) i H) ⟨⟨_, _, rfl⟩, LcAt.start eD .nil⟩ (fun i σ H _ ⟨_, acc, L⟩ => SqL.of (L.same.trans hid_same _ _ et)) ?_ ?_
    · rintro i x σ H0 H3 hi ⟨⟨y2, y3, rfl⟩, acc, L⟩ ⟨rfl, ex⟩
      rw [List.getElem?_map] at ex
      obtain ⟨k, e1, rfl⟩ := Option.map_eq_some_iff.mp ex
      rw [memI] at hi
      have hk := List.mem_of_getElem? e1
      have s3 : Same H H3 := (sB.trans L.same).trans hid_same
      have IP := Rc.path_is G hk
      have hpl : (Rc.path (keysT r) (wtT r) k).length ≤ 40 := Nat.le_trans (Rc.nodup_length_le IP.nd (Rc.path_sub G hk)) hS
      obtain ⟨l0, el⟩ := IP.last
      have hl0 : l0 ∈ keysT r := Rc.path_sub G hk l0 (List.mem_of_getElem? el)
      refine ⟨_, rfl, _, rfl, p, r, k, rfl, ht.same s3, inj, hk, fun l hl => ?_⟩
      have s4 := same_up (o := .lst ((Rc.path (keysT r) (wtT r) k).map V.int)) hl
      have e4 : SqL K (upd H3 l (.lst ((Rc.path (keysT r) (wtT r) k).map V.int))) l ((Rc.path (keysT r) (wtT r) k).map V.int) := SqL.of upd_same
      refine ⟨_, rfl, _, rfl, _, rfl, l, _, _, _, rfl, rfl, e4, atI_m1 (x := .int l0) (by rw [memI, List.getElem?_map, el]; rfl), ?_⟩
      refine ⟨p, r, l0, rfl, ht.same (s3.trans s4), hl0, _, rfl, by cases wtT r l0 <;> rfl, _, rfl, ?_⟩
      have nx : ∀ {A : Prop}, (Rc.isRing (keysT r) (wtT r) k = false) → LcP (fun i acc H => DpAll K H acc ((ringsTo r i).map tI)) D (hid H2 D) (i + 1) (upd H3 l (.lst ((Rc.path (keysT r) (wtT r) k).map V.int))) := fun hf =>
        L.skip (by omega) s4 (by
          show DpAll K _ acc ((ringsTo r (i + 1)).map tI)
          rw [ringsTo_succ e1, hf, if_neg Bool.false_ne_true, List.append_nil]
          exact DpAll.same (hid_mono s4) _ _ L.f)
      have er : Rc.isRing (keysT r) (wtT r) k = ((wtT r l0 == some k) && (Rc.path (keysT r) (wtT r) k).all fun x => decide (k ≤ x)) := by
        unfold Rc.isRing
        rw [el]
      refine ite2 (fun z => ?_) (fun z => ?_)
      · have hw : wtT r l0 = some k := by
          have z := of_decide_eq_true z
          cases e : wtT r l0 with
          | none => rw [e] at z; cases z
          | some y => rw [e] at z; cases z; rfl
        refine ⟨_, rfl, _, rfl, l, Rc.path (keysT r) (wtT r) k, rfl, e4, IP.pos, fun m hm hmin => ?_⟩
        refine ⟨rfl, _, rfl, ?_⟩
        have hkm : m = k ↔ ((Rc.path (keysT r) (wtT r) k).all fun x => decide (k ≤ x)) = true := by
          rw [List.all_eq_true]
          constructor
          · rintro rfl x hx
            exact decide_eq_true (hmin x hx)
          · intro h
            have h1 := of_decide_eq_true (h m hm)
            have h2 := hmin k IP.kmem
            omega
        refine ite2 (fun z2 => ?_) (fun z2 => ?_)
        · have e5 : m = k := by
            have z2 := of_decide_eq_true z2
            cases z2
            rfl
          have eR : Rc.isRing (keysT r) (wtT r) k = true := by rw [er, hw, hkm.mp e5]; simp
          refine ⟨_, rfl, .inl ⟨rfl, _, SqL.of (s4 _ _ L.at_)⟩, _, rfl, l, _, rfl, .inl ⟨e4, fun t2 ht2 => ?_⟩⟩
          have s5 := same_up (o := .tup ((Rc.path (keysT r) (wtT r) k).map V.int)) ht2
          have ht2D : t2 ≠ D := fun e => by rw [e, s4 _ _ L.at_] at ht2; cases ht2
          obtain ⟨acc', e6, hlt, hP⟩ := L.snoc (y := .ref t2) (by omega) (s4.trans s5) (by
            show DpAll K _ (acc ++ [V.ref t2]) ((ringsTo r (i + 1)).map tI)
            rw [ringsTo_succ e1, eR, if_pos rfl, List.map_append]
            refine dpAll_snoc (DpAll.same (hid_mono (s4.trans s5)) _ _ L.f) (dp_tI (SqT.of ?_))
            rw [hid_ne ht2D]
            exact upd_same)
          exact ⟨D, acc', _, rfl, rfl, e6, hlt, ⟨_, _, rfl⟩, hP⟩
        · have e5 : ¬ m = k := fun e => by
            have z2 := of_decide_eq_false z2
            rw [e] at z2
            exact z2 rfl
          have eR : Rc.isRing (keysT r) (wtT r) k = false := by
            rw [er]
            cases z3 : ((Rc.path (keysT r) (wtT r) k).all fun x => decide (k ≤ x)) with
            | true => exact absurd (hkm.mpr z3) e5
            | false => simp
          exact ⟨⟨_, _, rfl⟩, nx (A := True) eR⟩
      · have hw : (wtT r l0 == some k) = false := by
          have z := of_decide_eq_false z
          cases e : wtT r l0 with
          | none => rfl
          | some y =>
            rw [e] at z
            have : ¬ y = k := fun e => z (by rw [e]; rfl)
            simpa using this
        exact ⟨⟨_, _, rfl⟩, nx (A := True) (by rw [er, hw]; rfl)⟩
    · rintro σ H3 ⟨⟨y2, y3, rfl⟩, acc, L⟩
      have f : DpAll K (hid H3 D) acc ((ringsTo r ((keysT r).map V.int).length).map tI) := L.f
      rw [memI, ringsTo_all] at f
      exact ⟨_, rfl, q H3 D acc ((sB.trans L.same).trans hid_same) hD L.at_ f⟩
end
end Rw

-- D9
set_option Elab.async false
set_option linter.all false
set_option maxRecDepth 100000
set_option maxHeartbeats 4000000
/-! waiting_for, by_new, groups_of, need_no_pair. -/
namespace Rw
open PySem PySem.Spec PyProof.Rows L2
section
variable {P : Program} {w : World} {K : PySem.W.Frag} {mg : Str → Option Value} {base : Heap}

theorem hid_tup {K : PySem.W.Frag} {H : Hp} {D a : Addr} {xs : List V} (n : NotL H D) (h : SqT K H a xs) : SqT K (hid H D) a xs := by
  rcases h with (h | ⟨o', h⟩) | h
  · have ne : a ≠ D := fun e => (n xs default).1 (by rw [← e]; exact h)
    exact .inl (.inl (by rw [hid_ne ne]; exact h))
  · have ne : a ≠ D := fun e => (n xs o').2 (by rw [← e]; exact h)
    exact .inl (.inr ⟨o', by rw [hid_ne ne]; exact h⟩)
  · exact .inr h
mutual
theorem Dp.hid {K : PySem.W.Frag} {H : Hp} {D : Addr} (n : NotL H D) : ∀ (d : PyData) (v : V), noL d = true → Dp K H v d → Dp K (Rw.hid H D) v d
  | .none, _, _, h => by cases h; exact .non
  | .bool _, _, _, h => by cases h; exact .bl _
  | .int _, _, _, h => by cases h; exact .int _
  | .str _, _, _, h => by cases h; exact .str _
  | .list ds, _, l, h => by simp [noL] at l
  | .tuple ds, _, l, h => by cases h with | tup a b => exact .tup (hid_tup n a) (DpAll.hid n ds _ (by simpa [noL] using l) b)
  | .dict _, _, l, h => by cases h
theorem DpAll.hid {K : PySem.W.Frag} {H : Hp} {D : Addr} (n : NotL H D) : ∀ (ds : List PyData) (vs : List V), noLs ds = true → DpAll K H vs ds → DpAll K (Rw.hid H D) vs ds
  | [], _, _, h => by cases h; exact .nil
  | d :: ds, _, l, h => by
    have l' : noL d = true ∧ noLs ds = true := by simpa [noLs] using l
    cases h with | cons a b => exact .cons (Dp.hid n d _ l'.1 a) (DpAll.hid n ds _ l'.2 b)
end
theorem dInt {a b : Int} : decide (V.int a = V.int b) = decide (a = b) := by
  by_cases h : a = b
  · rw [h]
    simp
  · simp [h]
/-- the rows that want k, other than k -/
def waiters (r : Tb) (k : Int) : List Int := (r.filter fun p => decide (p.2 = k) && !decide (p.1 = k)).map (·.1)
theorem waiters_nil {r : Tb} (g : Good r) {k : Int} (hk : k ∈ keysT r) : waiters r k = [] ↔ Rc.isLine (keysT r) (wtT r) k = true := by
  unfold waiters Rc.isLine
  rw [List.map_eq_nil_iff, List.filter_eq_nil_iff, List.all_eq_true]
  constructor
  · intro h x hx
    obtain ⟨p, hp, rfl⟩ := List.mem_map.mp hx
    have z := h p hp
    cases e : wtT r p.1 with
    | none => rfl
    | some y =>
      obtain ⟨e1, e2, _⟩ := wtT_some.mp e
      have e3 := newT_of g.nd (show (p.1, p.2) ∈ r from hp)
      rw [e3] at e1
      cases e1
      by_cases hy : p.2 = k
      · exfalso
        refine z ?_
        simp [hy]
        intro e5
        exact e2 (by rw [hy, e5])
      · simp [hy]
  · intro h p hp z
    have hx := h p.1 (List.mem_map.mpr ⟨p, hp, rfl⟩)
    simp at z
    have : wtT r p.1 = some k := wtT_some.mpr ⟨newT_of g.nd (show (p.1, k) ∈ r by rw [← z.1]; exact hp), fun e => z.2 e.symm, hk⟩
    rw [this] at hx
    simp at hx
def spWaiters (K : PySem.W.Frag) : Sp := fun vs H Q _ => ∃ (p : Addr) (r : Tb) (k : Int), vs = [.ref p, .int k] ∧ TabAt K H p r ∧ ∀ H' l, Same H H' → H l = none → H' l = some (.lst ((waiters r k).map V.int)) → Q (.ref l) H'
theorem sc_waiting_for : FnScope ["table", "key", "one", "new"] ["table", "key"] (defScope s_waiting_for) := ⟨rfl, rfl, rfl, by decide +kernel, rfl, by decide +kernel, by decide +kernel⟩
theorem ok_waiting_for (T : Txt K mg) : FnR P w K mg base CX0 3 (a_waiting_for K) (spWaiters K) := by
  have nd := sc_waiting_for.nd
  refine okR T.f_waiting_for sc_waiting_for (fun _ _ _ _ _ _ us hl => match us, hl with | [_, _], _ => rfl) (fun vs H Q E h => ?_) (fun cdv A outer s H vs Q E hr h => ?_)
  · obtain ⟨p, r, k, rfl, _⟩ := h
    rfl
  · obtain ⟨p, r, k, rfl, ht, q⟩ := h
    refine ⟨_, (pss_one (ps_ret (pe_lc (own := [("one", 2), ("new", 3)]) (g := (gTup K 2 (gCons (gName 2) (gCons (gName 3) gNil)))) rfl nd (pi_tup (pe_propR (pv 0) T.cl T.rowsP (ok_tRows T) (by exact hr.mono (by decide)) pass0 (by rfl))) (blkOk_by (own := [("one", 2), ("new", 3)]) (N := ["table", "key", "one", "new"]) (sc := defScope s_waiting_for) (by decide +kernel)) (fun _ _ _ _ _ => (pg_tup rfl (pgs_cons (pg_name (i := 2) nd rfl (.inl rfl) (.inr rfl)) (pgs_cons (pg_name (i := 3) nd rfl (.inl rfl) (.inr rfl)) pgs_nil)))) (fun _ _ _ _ _ => (pts_one (pw_and (pt_cmpR op_eq (pv 3) (pv 1) (nomark _)) (pw_and1 (pt_cmpR op_ne (pv 2) (pv 1) (nomark _)))).pt)) (fun _ _ _ _ _ => (pv 2))))), ?_⟩
    obtain ⟨dx, fs, hi⟩ := ht.ins
    have hl := ht.1.len
    refine ⟨_, rfl, p, dx, fs, rfl, hi, ⟨p, r, rfl, ht, fun H1 t s1 hq ⟨ys, ha, hys⟩ => ⟨t, rfl, ⟨ys, ha⟩, fun D hD => ?_⟩⟩⟩
    have e1 := RowsAt.len hys
    refine lc_go (walk_tup (xs := ys)) (fun i acc H => acc = (waiters (r.take i) k).map V.int) (by omega) hD (fun H s => Same.tup s ha) rfl ?_ ?_
    · rintro i x H0 H2 acc hi L ⟨rfl, ex⟩
      obtain ⟨pr, a, e2, rfl, hpr⟩ := row_at (DpAll.same (L.same.trans hid_same) _ _ hys) ex
      have et : waiters (r.take (i + 1)) k = waiters (r.take i) k ++ (if (decide (pr.2 = k) && !decide (pr.1 = k)) = true then [pr.1] else []) := by
        unfold waiters
        rw [take_snoc e2, List.filter_append, List.map_append]
        congr 1
        by_cases hm : (decide (pr.2 = k) && !decide (pr.1 = k)) = true <;> simp [List.filter_cons, hm]
      have f : acc = (waiters (r.take i) k).map V.int := L.f
      refine ⟨a, _, rfl, hpr, rfl, _, _, rfl, _, _, rfl, rfl, rfl, _, rfl, _, rfl, rfl, _, rfl, ?_⟩
      refine ite2 (fun z => ?_) (fun z => ?_)
      · rw [dInt] at z
        refine ⟨_, rfl, _, rfl, rfl, _, rfl, ?_⟩
        refine ite2 (fun z2 => ?_) (fun z2 => ?_)
        · rw [dInt] at z2
          refine ⟨_, rfl, L.snoc (by omega) (Same.refl _) ?_⟩
          show acc ++ [V.int pr.1] = _
          rw [et, z, z2, f]
          simp
        · rw [dInt] at z2
          refine L.skip (by omega) (Same.refl _) ?_
          show acc = _
          rw [et, z, z2, f]
          simp
      · rw [dInt] at z
        refine L.skip (by omega) (Same.refl _) ?_
        show acc = _
        rw [et, z, f]
        simp
    · intro H' acc s e f _
      refine q H' D (s1.trans s) (s1.free hD) ?_
      rw [e, show acc = _ from f, e1, List.take_length]
/-- a dict, at each key a list of one -/
def OneAt (H : Hp) (d : Addr) (kvs : List (Key × V)) : Prop := ∀ k, k ∈ kvs.map (·.1) → ∃ a x, valV kvs k = some (.ref a) ∧ H a = some (.lst [x])
def spByNew (K : PySem.W.Frag) : Sp := fun vs H Q _ => ∃ (p : Addr) (r : Tb), vs = [.ref p] ∧ TabAt K H p r ∧ Inj r ∧ ∀ H' d kvs, Same H H' → H d = none → H' d = some (.dK kvs) → kvs.length ≤ 40 → OneAt (hid H' d) d kvs → Q (.ref d) H'
theorem sc_by_new : FnScope ["table", "found", "key", "new"] ["table"] (defScope s_by_new) := ⟨rfl, rfl, rfl, by decide +kernel, rfl, by decide +kernel, by decide +kernel⟩
theorem ok_by_new (T : Txt K mg) : FnR P w K mg base CX0 3 (a_by_new K) (spByNew K) := by
  have nd := sc_by_new.nd
  refine okR T.f_by_new sc_by_new (fun _ _ _ _ _ _ us hl => match us, hl with | [_], _ => rfl) (fun vs H Q E h => ?_) (fun cdv A outer s H vs Q E hr h => ?_)
  · obtain ⟨p, r, rfl, _⟩ := h
    rfl
  · obtain ⟨p, r, rfl, ht, inj, q⟩ := h
    refine ⟨_, (pss_cons (ps_set (i := 1) nd rfl (.inl rfl) pe_dnewK) (pss_cons (ps_for PassesOwn.never rfl (pi_tup (pe_propR (pv 0) T.cl T.rowsP (ok_tRows T) (by exact hr.mono (by decide)) pass0 (by rfl))) (pg_tup rfl (pgs_cons (pg_name (i := 2) nd rfl (.inl rfl)) (pgs_cons (pg_name (i := 3) nd rfl (.inl rfl)) pgs_nil))) (pss_one (ps_expr (pe_bm PySem.F.plainAttrs_list PySem.F.slot_list_append PySem.F.type_list_append mt_append (pe_dsetd (pv 1) (pv 3) (pe_lst pa_nil) ⟨rfl, rfl, rfl, rfl⟩) (pa_cons (pv 2) pa_nil))))) (pss_one (ps_ret (pv 1))))), ?_⟩
    intro D hD
    have s0 : Same H (upd H D (.dK [])) := same_up hD
    obtain ⟨dx, fs, hi⟩ := ht.ins
    have hl := ht.1.len
    refine ⟨_, rfl, p, dx, fs, rfl, s0 _ _ hi, ⟨p, r, rfl, ht.same s0, fun H2 t s2 htn ⟨ys, ha, hys⟩ => ⟨t, rfl, ⟨ys, ha⟩, ?_⟩⟩⟩
    have e1 := RowsAt.len hys
    have eD : H2 D = some (.dK []) := s2 _ _ upd_same
    have sB : Same H (hid H2 D) := hid_of hD s2
    have nL : ∀ {H3 : Hp} {kvs}, H3 D = some (.dK kvs) → NotL H3 D := fun e => notL_dK e
    have ha0 : SqT K (hid H2 D) t ys := hid_tup (nL eD) ha
    have hys0 : DpAll K (hid H2 D) ys (r.map rD) := DpAll.hid (nL eD) _ _ (by rw [rD_map]; exact noLs_tI _) hys
    refine for_it (walk_tup (xs := ys)) (fun i σ H => (∃ y2 y3, σ = [some (.ref p), some (.ref D), y2, y3]) ∧ Same (hid H2 D) (hid H D) ∧ ∃ kvs, H D = some (.dK kvs) ∧ kvs.length = i ∧ i ≤ 40 ∧ kvs.map (·.1) = ((r.take i).map fun p => (Sum.inl p.2 : Key)) ∧ OneAt (hid H D) D kvs)
      ⟨⟨_, _, rfl⟩, Same.refl _, [], eD, rfl, Nat.zero_le _, rfl, fun k hk => by cases hk⟩ (fun i σ H _ ⟨_, s, _⟩ => Same.tup (s.trans hid_same) ha0) ?_ ?_
    · rintro i x σ H0 H3 hi' ⟨⟨y2, y3, rfl⟩, s3, kvs, ek, hlen, hle, hks, h1⟩ ⟨rfl, ex⟩
      obtain ⟨pr, a, e2, rfl, hpr⟩ := row_at (DpAll.same (s3.trans hid_same) _ _ hys0) ex
      refine ⟨a, _, rfl, hpr, rfl, _, _, rfl, _, _, rfl, rfl, ?_⟩
      have hnew : valV kvs (Sum.inl pr.2) = none := by
        cases e : valV kvs (Sum.inl pr.2) with
        | none => rfl
        | some v =>
          exfalso
          have hm := valV_in e
          rw [hks] at hm
          obtain ⟨p2, hp2, e3⟩ := List.mem_map.mp hm
          have e3 : p2.2 = pr.2 := Sum.inl.inj e3
          obtain ⟨j, hj⟩ := List.getElem?_of_mem hp2
          have hji : j < i := by
            have := (List.getElem?_eq_some_iff.mp hj).1
            rw [List.length_take] at this
            omega
          rw [List.getElem?_take_of_lt hji] at hj
          have := Rc.nd_idx inj (i := i) (j := j) (x := pr.2) (by rw [List.getElem?_map, e2]; rfl) (by rw [List.getElem?_map, hj]; exact congrArg some e3)
          omega
      refine ⟨_, rfl, D, rfl, .inl ⟨kvs, .inl ek⟩, _, rfl, Nat.zero_le _, fun l hl => ⟨kvs, Sum.inl pr.2, same_up hl _ _ ek, rfl, small1000 (by omega), fun v e => ?_, fun _ => ?_⟩⟩
      · rw [hnew] at e
        cases e
      · have hlD : l ≠ D := fun e => by rw [e, ek] at hl; cases hl
        have el : upd (upd H3 l (.lst [])) D (.dK (putK kvs (Sum.inl pr.2) (.ref l))) l = some (.lst []) := by
          rw [upd_ne hlD]
          exact upd_same
        refine ⟨.inl ⟨rfl, _, SqL.of el⟩, _, rfl, l, [], _, rfl, rfl, el, by decide, ⟨_, _, rfl⟩, ?_, putK kvs (Sum.inl pr.2) (.ref l), ?_, ?_, ?_, ?_, ?_⟩
        · have hl0 : hid H3 D l = none := by rw [hid_ne hlD]; exact hl
          rw [hid_up hlD, hid_upd, hid_up hlD, upd_upd]
          exact s3.trans (same_up hl0)
        · rw [upd_ne (Ne.symm hlD), upd_same]
        · rw [putK_new _ hnew, List.length_append, hlen]
          rfl
        · omega
        · rw [putK_new _ hnew, List.map_append, hks, take_map e2]
          rfl
        · intro k hk
          have hl0 : hid H3 D l = none := by rw [hid_ne hlD]; exact hl
          have eH : hid (upd (upd (upd H3 l (.lst [])) D (.dK (putK kvs (Sum.inl pr.2) (.ref l)))) l (.lst ([] ++ [V.int pr.1]))) D = upd (hid H3 D) l (.lst [V.int pr.1]) := by
            rw [hid_up hlD, hid_upd, hid_up hlD, upd_upd]
            rfl
          rw [eH, valV_put]
          by_cases e : k = Sum.inl pr.2
          · rw [if_pos e]
            exact ⟨l, _, rfl, upd_same⟩
          · rw [if_neg e]
            have hk2 : k ∈ kvs.map (·.1) := by
              rw [putK_new _ hnew, List.map_append] at hk
              rcases List.mem_append.mp hk with h | h
              · exact h
              · have : k = Sum.inl pr.2 := by simpa using h
                exact absurd this e
            obtain ⟨a', x', e4, e5⟩ := h1 k hk2
            exact ⟨a', x', e4, same_up hl0 _ _ e5⟩
    · rintro σ H3 ⟨⟨y2, y3, rfl⟩, s3, kvs, ek, hlen, hle, hks, h1⟩
      exact ⟨_, rfl, q H3 D kvs (sB.trans (s3.trans hid_same)) hD ek (by omega) h1⟩
end
end Rw

-- D10
set_option Elab.async false
set_option linter.all false
set_option maxRecDepth 100000
set_option maxHeartbeats 4000000
/-! groups_of, need_no_pair, ready. -/
namespace Rw
open PySem PySem.Spec PyProof.Rows L2
section
variable {P : Program} {w : World} {K : PySem.W.Frag} {mg : Str → Option Value} {base : Heap}

def spGroups (K : PySem.W.Frag) : Sp := fun vs H Q _ => ∃ (p : Addr) (r : Tb), vs = [.ref p] ∧ TabAt K H p r ∧ Inj r ∧ ∀ H' l, Same H H' → H l = none → H' l = some (.lst []) → Q (.ref l) H'
theorem sc_groups_of : FnScope ["table", "wants", "new"] ["table"] (defScope s_groups_of) := ⟨rfl, rfl, rfl, by decide +kernel, rfl, by decide +kernel, by decide +kernel⟩
theorem ok_groups_of (T : Txt K mg) : FnR P w K mg base CX0 4 (a_groups_of K) (spGroups K) := by
  have nd := sc_groups_of.nd
  refine okR T.f_groups_of sc_groups_of (fun _ _ _ _ _ _ us hl => match us, hl with | [_], _ => rfl) (fun vs H Q E h => ?_) (fun cdv A outer s H vs Q E hr h => ?_)
  · obtain ⟨p, r, rfl, _⟩ := h
    rfl
  · obtain ⟨p, r, rfl, ht, inj, q⟩ := h
    have hu := hu_of hr
    refine ⟨_, (pss_cons (ps_set (i := 1) nd rfl (.inr rfl) (pe_cl (ok_by_new T) (by exact hr.mono (by decide)) (by rfl) T.g_by_new (T.f_by_new.elim fun _ F => F.kp) pass0 (pa_cons (pv 0) pa_nil))) (pss_one (ps_ret (pe_callB (cr_sortD hr.units) (by rfl) T.n_sorted (by decide +kernel) (pa_cons (pe_lock (pe_lc (own := [("new", 2)]) (g := (gName 2)) rfl nd (pi_keys (pv 1)) (blkOk_by (own := [("new", 2)]) (N := ["table", "wants", "new"]) (sc := defScope s_groups_of) (by decide +kernel)) (fun _ _ _ _ _ => (pg_name (i := 2) nd rfl (.inl rfl) (.inr rfl))) (fun _ _ _ _ _ => (pts_one (pt_cmpR op_gt (pe_callB (call_lenK (K := K) rfl) (by rfl) T.n_len (by decide +kernel) (pa_cons (pe_dget (by exact hu) (pv 1) (pv 2) (fun _ _ => rfl)) pa_nil)) pe_int (nomark _)))) (fun _ _ _ _ _ => (pe_callTy (call_tupK (K := K) rfl) (by rfl) T.n_tuple (by decide +kernel) (pa_cons (pe_dget (by exact hu) (pv 1) (pv 2) (fun _ _ => rfl)) pa_nil))))) pa_nil))))), ?_⟩
    refine ⟨_, rfl, p, r, rfl, ht, inj, fun H1 d kvs s1 hdn e1 hl one => ?_⟩
    refine ⟨d, _, e1, True.intro, fun od => ⟨_, rfl, d, od, rfl, .inl ⟨_, upd_same, fun D hD => ?_⟩⟩⟩
    have hDd : D ≠ d := fun e => by
      rw [e, upd_same] at hD
      cases hD
    refine lc_go walk_keys (fun i acc H => acc = []) (by omega) hD (fun H s => s _ _ upd_same) rfl ?_ ?_
    · rintro i x H0 H2 acc hi L ⟨rfl, k, vv, ek, rfl⟩
      have hfr : H2 d = some (.frz od (.dK kvs)) := (L.same.trans hid_same) _ _ upd_same
      obtain ⟨a, x, e2, e3⟩ := one k (List.mem_map.mpr ⟨_, List.mem_of_getElem? ek, rfl⟩)
      have ha : H2 a = some (.lst [x]) := by
        have hne : a ≠ d := fun e => by
          unfold hid at e3
          rw [if_pos e] at e3
          cases e3
        rw [hid_ne hne] at e3
        refine (L.same.trans hid_same) _ _ ?_
        rw [upd_ne hne]
        exact e3
      have z : DGet H2 d (kV k) (valV kvs k) := .inl ⟨_, k, .inr ⟨od, hfr⟩, rfl, rfl⟩
      rw [e2] at z
      refine ⟨rfl, ⟨_, rfl, _, rfl, d, _, rfl, z, a, _, rfl, .inl (SqL.of ha), _, _, rfl, rfl, _, rfl, ?_⟩⟩
      exact iteF (L.skip (by omega) (Same.refl _) L.f)
    · intro H' acc s e f _
      have hfr : H' d = some (.frz od (.dK kvs)) := s _ _ upd_same
      refine ⟨hfr, ?_⟩
      have f : acc = [] := f
      subst f
      have s2 : Same H1 (upd H' d (.dK kvs)) := fun b o e => by
        by_cases hb : b = d
        · rw [hb] at e ⊢
          rw [e1] at e
          cases e
          exact upd_same
        · rw [upd_ne hb]
          refine s _ _ ?_
          rw [upd_ne hb]
          exact e
      refine ⟨D, [], [], rfl, .inl (SqL.of (by rw [upd_ne hDd]; exact e)), .nil, ?_⟩
      refine sortGo_int (L := []) (Nat.zero_le _) fun l S hl' pm _ => ?_
      have : S = [] := List.perm_nil.mp pm
      subst this
      refine q _ l ((s1.trans s2).trans (same_up hl')) ((s1.trans s2).free hl') upd_same
def spNoPair (K : PySem.W.Frag) : Sp := fun vs H Q _ => ∃ (p : Addr) (r : Tb), vs = [.ref p] ∧ TabAt K H p r ∧ Inj r ∧ ∀ H', Same H H' → Q .non H'
theorem sc_need_no_pair : FnScope ["table", "groups"] ["table"] (defScope s_need_no_pair) := ⟨rfl, rfl, rfl, by decide +kernel, rfl, by decide +kernel, by decide +kernel⟩
theorem ok_need_no_pair (T : Txt K mg) : FnR P w K mg base CX0 5 (a_need_no_pair K) (spNoPair K) := by
  have nd := sc_need_no_pair.nd
  refine okR T.f_need_no_pair sc_need_no_pair (fun _ _ _ _ _ _ us hl => match us, hl with | [_], _ => rfl) (fun vs H Q E h => ?_) (fun cdv A outer s H vs Q E hr h => ?_)
  · obtain ⟨p, r, rfl, _⟩ := h
    rfl
  · obtain ⟨p, r, rfl, ht, inj, q⟩ := h
    refine ⟨_, (pss_cons (ps_set (i := 1) nd rfl (.inl rfl) (pe_cl (ok_groups_of T) (by exact hr.mono (by decide)) (by rfl) T.g_groups_of (T.f_groups_of.elim fun _ F => F.kp) pass0 (pa_cons (pv 0) pa_nil))) (pss_one (ps_if (pt_cmpR (op_neD hr.units) (pv 1) (pe_lst pa_nil) (nomark _)) pss_never pss_nil))), ?_⟩
    refine ⟨_, rfl, p, r, rfl, ht, inj, fun H1 l s1 _ e1 => ?_⟩
    refine ⟨_, rfl, Nat.zero_le _, fun l2 hl2 => ?_⟩
    refine ⟨.list [], .list [], .lst (SqL.of (same_up hl2 _ _ e1)) .nil, .lst (SqL.of upd_same) .nil, shaped_nil, shaped_nil, _, rfl, ?_⟩
    rw [eqv_lnil]
    exact iteF (q _ (s1.trans (same_up hl2)))
theorem ready_snoc {r : Tb} {done : List Int} {i : Nat} {k : Int} (e : (keysT r)[i]? = some k) : ((keysT r).take (i + 1)).filter (Rc.isReady (wtT r) done) = ((keysT r).take i).filter (Rc.isReady (wtT r) done) ++ (if Rc.isReady (wtT r) done k = true then [k] else []) := by
  rw [take_snoc e, List.filter_append]
  congr 1
  by_cases h : Rc.isReady (wtT r) done k = true <;> simp [h]
def spReady (K : PySem.W.Frag) : Sp := fun vs H Q _ => ∃ (p d : Addr) (r : Tb) (done : List Int), vs = [.ref p, .ref d] ∧ TabAt K H p r ∧ SqL K H d (done.map V.int) ∧ ∀ H' l, Same H H' → H l = none → H' l = some (.lst ((Rc.ready (keysT r) (wtT r) done).map V.int)) → Q (.ref l) H'
theorem sc_ready : FnScope ["table", "done", "found", "key", "row"] ["table", "done"] (defScope s_ready) := ⟨rfl, rfl, rfl, by decide +kernel, rfl, by decide +kernel, by decide +kernel⟩
theorem ok_ready (T : Txt K mg) : FnR P w K mg base CX0 7 (a_ready K) (spReady K) := by
  have nd := sc_ready.nd
  refine okR T.f_ready sc_ready (fun _ _ _ _ _ _ us hl => match us, hl with | [_, _], _ => rfl) (fun vs H Q E h => ?_) (fun cdv A outer s H vs Q E hr h => ?_)
  · obtain ⟨p, d, r, done, rfl, _⟩ := h
    rfl
  · obtain ⟨p, d, r, done, rfl, ht, hd, q⟩ := h
    have hS := keys_sz ht.1
    refine ⟨_, (pss_cons (ps_set (i := 2) nd rfl (.inl rfl) (pe_lst pa_nil)) (pss_cons (ps_for PassesOwn.never rfl (pi_list (pe_cl (ok_keys_of T) (by exact hr.mono (by decide)) (by rfl) T.g_keys_of (T.f_keys_of.elim fun _ F => F.kp) pass0 (pa_cons (pv 0) pa_nil))) (pg_name (i := 3) nd rfl (.inl rfl)) (pss_cons (ps_set (i := 4) nd rfl (.inl rfl) (pe_cl (ok_waited T) (by exact hr.mono (by decide)) (by rfl) T.g_waited (T.f_waited.elim fun _ F => F.kp) pass0 (pa_cons (pv 0) (pa_cons (pv 3) pa_nil)))) (pss_one (ps_if (pw_and (pt_cmpR op_notIn_seq (pv 3) (pv 1) (by rfl)) (pw_and1 (pw_or (pt_cmp (pc_isN (pv 4))) (pw_or1 (pt_cmpR op_in_seq (pv 4) (pv 1) (by rfl)))).pt)).pt (pss_one (ps_expr (pe_bm PySem.F.plainAttrs_list PySem.F.slot_list_append PySem.F.type_list_append mt_append (pv 2) (pa_cons (pv 3) pa_nil)))) pss_nil)))) (pss_one (ps_ret (pv 2))))), ?_⟩
    refine ⟨Nat.zero_le _, fun D hD => ?_⟩
    have s0 : Same H (upd H D (.lst [])) := same_up hD
    refine ⟨_, rfl, p, r, rfl, ht.same s0, fun H2 t s2 htn e2 => ⟨t, rfl, ⟨_, SqL.of e2⟩, ?_⟩⟩
    have htD : t ≠ D := fun e => by rw [e, upd_same] at htn; cases htn
    have eD : H2 D = some (.lst []) := s2 _ _ upd_same
    have sB : Same H (hid H2 D) := hid_of hD s2
    have et : hid H2 D t = some (.lst ((keysT r).map V.int)) := by rw [hid_ne htD]; exact e2
    refine for_it (walk_list (xs := (keysT r).map V.int)) (fun i σ H => (∃ y3 y4, σ = [some (.ref p), some (.ref d), some (.ref D), y3, y4]) ∧ LcP (fun i acc H => acc = (((keysT r).take i).filter (Rc.isReady (wtT r) done)).map V.int) D (hid H2 D) i H) ⟨⟨_, _, rfl⟩, LcAt.start eD rfl⟩ (fun i σ H _ ⟨_, acc, L⟩ => SqL.of (L.same.trans hid_same _ _ et)) ?_ ?_
    · rintro i x σ H0 H3 hi ⟨⟨y3, y4, rfl⟩, acc, L⟩ ⟨rfl, ex⟩
      rw [List.getElem?_map] at ex
      obtain ⟨k, e1, rfl⟩ := Option.map_eq_some_iff.mp ex
      rw [memI] at hi
      have hk := List.mem_of_getElem? e1
      have s3 : Same H H3 := (sB.trans L.same).trans hid_same
      have hd3 := s3.seq hd
      have f : acc = (((keysT r).take i).filter (Rc.isReady (wtT r) done)).map V.int := L.f
      have no : Rc.isReady (wtT r) done k = false → LcP (fun i acc H => acc = (((keysT r).take i).filter (Rc.isReady (wtT r) done)).map V.int) D (hid H2 D) (i + 1) H3 := fun e => L.skip (by omega) (Same.refl _) (by
        show acc = _
        rw [ready_snoc e1, e, if_neg Bool.false_ne_true, List.append_nil]
        exact f)
      have yes : Rc.isReady (wtT r) done k = true → ∃ acc, H3 D = some (.lst acc) ∧ acc.length < sizeLine ∧ LcP (fun i acc H => acc = (((keysT r).take i).filter (Rc.isReady (wtT r) done)).map V.int) D (hid H2 D) (i + 1) (upd H3 D (.lst (acc ++ [V.int k]))) := fun e => L.snoc (by omega) (Same.refl _) (by
        show acc ++ [V.int k] = _
        rw [ready_snoc e1, e, if_pos rfl, List.map_append, ← f]
        rfl)
      refine ⟨_, rfl, _, rfl, p, r, k, rfl, ht.same s3, hk, ?_⟩
      refine ⟨_, rfl, _, rfl, d, _, rfl, .inl hd3, rfl, flat_ints _, _, rfl, ?_⟩
      refine ite2 (fun z => ?_) (fun z => ?_)
      · have z : (!inV (V.int k) (done.map V.int)) = true := z
        rw [inV_int] at z
        have hnk : k ∉ done := by simpa using z
        refine ⟨_, rfl, _, rfl, ?_⟩
        cases ew : wtT r k with
        | none =>
          have eR : Rc.isReady (wtT r) done k = true := Rc.isReady_iff.mpr ⟨hnk, .inl ew⟩
          obtain ⟨acc', e4, hlt, hP⟩ := yes eR
          refine iteT (iteT ?_)
          exact ⟨_, rfl, .inl ⟨rfl, _, SqL.of e4⟩, _, rfl, D, acc', _, rfl, rfl, e4, hlt, ⟨_, _, rfl⟩, hP⟩
        | some y =>
          refine iteF ⟨_, rfl, _, rfl, d, _, rfl, .inl hd3, rfl, flat_ints _, _, rfl, ?_⟩
          refine ite2 (fun z2 => ?_) (fun z2 => ?_)
          · have z2 : inV (V.int y) (done.map V.int) = true := z2
            rw [inV_int] at z2
            have eR : Rc.isReady (wtT r) done k = true := Rc.isReady_iff.mpr ⟨hnk, .inr ⟨y, of_decide_eq_true z2, ew⟩⟩
            obtain ⟨acc', e4, hlt, hP⟩ := yes eR
            exact ⟨_, rfl, .inl ⟨rfl, _, SqL.of e4⟩, _, rfl, D, acc', _, rfl, rfl, e4, hlt, ⟨_, _, rfl⟩, hP⟩
          · have z2 : inV (V.int y) (done.map V.int) = false := z2
            rw [inV_int] at z2
            refine ⟨⟨_, _, rfl⟩, no ?_⟩
            cases e : Rc.isReady (wtT r) done k with
            | false => rfl
            | true =>
              rcases (Rc.isReady_iff.mp e).2 with h | ⟨y', hy', h⟩
              · rw [ew] at h; cases h
              · rw [ew] at h
                cases h
                exact absurd hy' (of_decide_eq_false z2)
      · have z : (!inV (V.int k) (done.map V.int)) = false := z
        rw [inV_int] at z
        have hnk : k ∈ done := by simpa using z
        refine ⟨⟨_, _, rfl⟩, no ?_⟩
        cases e : Rc.isReady (wtT r) done k with
        | false => rfl
        | true => exact absurd hnk (Rc.isReady_iff.mp e).1
    · rintro σ H3 ⟨⟨y3, y4, rfl⟩, acc, L⟩
      have f : acc = (((keysT r).take ((keysT r).map V.int).length).filter (Rc.isReady (wtT r) done)).map V.int := L.f
      rw [memI, List.take_length] at f
      refine ⟨_, rfl, q H3 D ((sB.trans L.same).trans hid_same) hD ?_⟩
      rw [L.at_, f]
      rfl
end
end Rw

-- D11
set_option Elab.async false
set_option linter.all false
set_option maxRecDepth 100000
set_option maxHeartbeats 4000000
/-! first_order, verdict, is_ring, waits_left. -/
namespace Rw
open PySem PySem.Spec PyProof.Rows L2
section
variable {P : Program} {w : World} {K : PySem.W.Frag} {mg : Str → Option Value} {base : Heap}

theorem u65 {k : Nat} {A : Around} (r : Room k A) : A.units + 65 < cLine := by
  have := r.un
  omega
def spFirst (K : PySem.W.Frag) : Sp := fun vs H Q _ => ∃ (p : Addr) (r : Tb), vs = [.ref p] ∧ TabAt K H p r ∧ Inj r ∧ ringsR r = [] ∧ ∀ H' t o, Same H H' → H t = none → SqT K H' t (o.map V.int) → o.Perm (keysT r) → Rc.Passing (wtT r) o → Q (.ref t) H'
theorem sc_first_order : FnScope ["table", "done"] ["table"] (defScope s_first_order) := ⟨rfl, rfl, rfl, by decide +kernel, rfl, by decide +kernel, by decide +kernel⟩
theorem ok_first_order (T : Txt K mg) : FnR P w K mg base CX0 8 (a_first_order K) (spFirst K) := by
  have nd := sc_first_order.nd
  refine okR T.f_first_order sc_first_order (fun _ _ _ _ _ _ us hl => match us, hl with | [_], _ => rfl) (fun vs H Q E h => ?_) (fun cdv A outer s H vs Q E hr h => ?_)
  · obtain ⟨p, r, rfl, _⟩ := h
    rfl
  · obtain ⟨p, r, rfl, ht, inj, hno, q⟩ := h
    have hS := keys_sz ht.1
    have G := gr_of ht.1 inj
    refine ⟨_, (pss_cons (ps_set (i := 1) nd rfl (.inl rfl) (pe_lst pa_nil)) (pss_cons (ps_while PassesOwn.never (pt_cmpR op_lt (pe_callB call_len_seq (by rfl) T.n_len (by decide +kernel) (pa_cons (pv 1) pa_nil)) (pe_callB (call_lenO T.lenO (ok_tLen T) (by exact hr.mono (by decide)) pass0) (by rfl) T.n_len (by decide +kernel) (pa_cons (pv 0) pa_nil)) (nomark _)) (pss_one (ps_expr (pe_bm PySem.F.plainAttrs_list PySem.F.slot_list_append PySem.F.type_list_append mt_append (pv 1) (pa_cons (pe_ix ix_list (pe_cl (ok_ready T) (by exact hr.mono (by decide)) (by rfl) T.g_ready (T.f_ready.elim fun _ F => F.kp) pass0 (pa_cons (pv 0) (pa_cons (pv 1) pa_nil))) pe_int (fun _ _ => rfl)) pa_nil))))) (pss_one (ps_ret (pe_callTy call_tuple_of (by rfl) T.n_tuple (by decide +kernel) (pa_cons (pv 1) pa_nil)))))), ?_⟩
    refine ⟨Nat.zero_le _, fun D hD => ?_⟩
    have s0 : Same H (upd H D (.lst [])) := same_up hD
    refine ⟨fun m σ H2 => ∃ done, σ = [some (.ref p), some (.ref D)] ∧ Same H (hid H2 D) ∧ H2 D = some (.lst (done.map V.int)) ∧ done.Nodup ∧ (∀ x ∈ done, x ∈ keysT r) ∧ Rc.Passing (wtT r) done ∧ done.length + m = (keysT r).length,
      ⟨(keysT r).length, [], rfl, by rw [hid_upd, hid_none hD]; exact Same.refl _, upd_same, by simp, by simp, fun i x e => by simp at e, by simp⟩, ?_⟩
    rintro m σ H2 ⟨done, rfl, s2, eD, nd', hin, hp, hm⟩
    have s3 : Same H H2 := s2.trans hid_same
    obtain ⟨dx, fs, hi⟩ := ht.ins
    refine ⟨_, rfl, D, _, rfl, .inl (SqL.of eD), ?_⟩
    refine ⟨_, rfl, p, dx, fs, rfl, s3 _ _ hi, ⟨p, r, rfl, ht.same s3, _, rfl, by omega, by have := ht.1.len; omega, ?_⟩⟩
    refine ⟨_, _, rfl, rfl, _, rfl, ?_⟩
    have hlr : r.length = (keysT r).length := (List.length_map _).symm
    refine ite2 (fun z => ?_) (fun z => ?_)
    · have z := of_decide_eq_true z
      rw [memI] at z
      have hlt : done.length < (keysT r).length := by omega
      cases m with
      | zero => exact absurd hm (by omega)
      | succ m =>
        refine ⟨fun σ H2 => ∃ done, σ = [some (.ref p), some (.ref D)] ∧ Same H (hid H2 D) ∧ H2 D = some (.lst (done.map V.int)) ∧ done.Nodup ∧ (∀ x ∈ done, x ∈ keysT r) ∧ Rc.Passing (wtT r) done ∧ done.length + m = (keysT r).length, fun σ' H' h => ⟨m, Nat.lt_succ_self m, h⟩, ?_⟩
        refine ⟨_, rfl, .inl ⟨rfl, _, SqL.of eD⟩, ?_⟩
        refine ⟨_, rfl, _, rfl, p, D, r, done, rfl, ht.same s3, SqL.of eD, fun H4 l s4 hl e4 => ?_⟩
        have hne := Rc.ready_ne G hno hlt nd'
        cases er : Rc.ready (keysT r) (wtT r) done with
        | nil => exact absurd er hne
        | cons k ks =>
          rw [er] at e4
          have hk : k ∈ Rc.ready (keysT r) (wtT r) done := by rw [er]; simp
          have hk2 := List.mem_filter.mp hk
          refine ⟨l, _, 0, _, rfl, rfl, SqL.of e4, atI_nat (j := 0) rfl, ?_⟩
          refine ⟨D, done.map V.int, _, rfl, rfl, s4 _ _ eD, small1000 (by rw [memI]; omega), ?_⟩
          refine ⟨done ++ [k], rfl, ?_, ?_, Rc.nodup_snoc nd' (Rc.isReady_iff.mp hk2.2).1, ?_, hp.snoc hk2.2, by simp; omega⟩
          · rw [hid_upd]
            exact s2.trans (hid_mono s4)
          · rw [upd_same]
            simp
          · intro x hx
            rcases List.mem_append.mp hx with h1 | h1
            · exact hin x h1
            · have : x = k := by simpa using h1
              rw [this]
              exact hk2.1
    · have z := of_decide_eq_false z
      rw [memI] at z
      refine ⟨_, rfl, D, _, rfl, .inl ⟨SqL.of eD, fun t ht2 => ?_⟩⟩
      have hl : done.length = (keysT r).length := by omega
      exact q _ t done (s3.trans (same_up ht2)) (s3.free ht2) (SqT.of upd_same) (Rc.nodup_perm nd' ht.1.nd hin hl) hp
def spVerdict (K : PySem.W.Frag) : Sp := fun vs H Q _ => ∃ (p : Addr) (r : Tb), vs = [.ref p] ∧ TabAt K H p r ∧ Inj r ∧ ringsR r = [] ∧ ∀ H' v t o, Same H H' → H' v = some (.tup [.str "order", .ref t]) → SqT K H' t (o.map V.int) → o.Perm (keysT r) → Rc.Passing (wtT r) o → Q (.ref v) H'
theorem sc_verdict : FnScope ["table", "groups", "rings"] ["table"] (defScope s_verdict) := ⟨rfl, rfl, rfl, by decide +kernel, rfl, by decide +kernel, by decide +kernel⟩
theorem ok_verdict (T : Txt K mg) : FnR P w K mg base CX0 9 (a_verdict K) (spVerdict K) := by
  have nd := sc_verdict.nd
  refine okR T.f_verdict sc_verdict (fun _ _ _ _ _ _ us hl => match us, hl with | [_], _ => rfl) (fun vs H Q E h => ?_) (fun cdv A outer s H vs Q E hr h => ?_)
  · obtain ⟨p, r, rfl, _⟩ := h
    rfl
  · obtain ⟨p, r, rfl, ht, inj, hno, q⟩ := h
    refine ⟨_, (pss_cons (ps_expr (pe_cl (ok_need_table T) (by exact hr.mono (by decide)) (by rfl) T.g_need_table (T.f_need_table.elim fun _ F => F.kp) pass0 (pa_cons (pv 0) pa_nil))) (pss_cons (ps_par (i := 1) (j := 2) (by rfl) nd rfl rfl (by decide) rfl rfl (pa_cons (pe_cl (ok_groups_of T) (by exact hr.mono (by decide)) (by rfl) T.g_groups_of (T.f_groups_of.elim fun _ F => F.kp) pass0 (pa_cons (pv 0) pa_nil)) (pa_cons (pe_cl (ok_rings_of T) (by exact hr.mono (by decide)) (by rfl) T.g_rings_of (T.f_rings_of.elim fun _ F => F.kp) pass0 (pa_cons (pv 0) pa_nil)) pa_nil)) (by rfl)) (pss_cons (ps_if (pt_cmpR (op_neD hr.units) (pv 1) (pe_lst pa_nil) (nomark _)) pss_never pss_nil) (pss_cons (ps_if (pt_cmpR (op_neD hr.units) (pv 2) (pe_lst pa_nil) (nomark _)) pss_never pss_nil) (pss_one (ps_ret (pe_tup (pa_cons pe_str (pa_cons (pe_cl (ok_first_order T) (by exact hr.mono (by decide)) (by rfl) T.g_first_order (T.f_first_order.elim fun _ F => F.kp) pass0 (pa_cons (pv 0) pa_nil)) pa_nil))))))))), ?_⟩
    obtain ⟨dx, fs, hi⟩ := ht.ins
    refine ⟨_, rfl, p, dx, fs, rfl, hi, ?_⟩
    refine ⟨_, rfl, p, r, rfl, ht, inj, fun H1 g s1 _ e1 => ?_⟩
    refine ⟨_, rfl, p, r, rfl, ht.same s1, inj, fun H2 l xs s2 _ e2 hd => ?_⟩
    refine ⟨_, _, rfl, ?_⟩
    have hd : DpAll K (hid H2 l) xs ((ringsR r).map tI) := hd
    rw [hno] at hd
    cases hd
    refine ⟨_, rfl, Nat.zero_le _, fun l2 hl2 => ?_⟩
    have s3 : Same H2 (upd H2 l2 (.lst [])) := same_up hl2
    refine ⟨.list [], .list [], .lst (SqL.of ((s2.trans s3) _ _ e1)) .nil, .lst (SqL.of upd_same) .nil, shaped_nil, shaped_nil, _, rfl, ?_⟩
    rw [eqv_lnil]
    refine iteF ⟨_, rfl, Nat.zero_le _, fun l3 hl3 => ?_⟩
    have s4 := s3.trans (same_up (o := .lst []) hl3)
    refine ⟨.list [], .list [], .lst (SqL.of (s4 _ _ e2)) .nil, .lst (SqL.of upd_same) .nil, shaped_nil, shaped_nil, _, rfl, ?_⟩
    rw [eqv_lnil]
    have s5 := (s1.trans s2).trans s4
    refine iteF ⟨_, rfl, p, r, rfl, ht.same s5, inj, hno, fun H6 t o s6 _ hT pm ps => ⟨(show 2 ≤ sizeLine by decide), fun v hv => ?_⟩⟩
    exact q _ v t o ((s5.trans s6).trans (same_up hv)) upd_same (Same.tup (same_up hv) hT) pm ps
def spIsRing (K : PySem.W.Frag) : Sp := fun vs H Q _ => ∃ (p t : Addr) (r : Tb) (ks : List Int), vs = [.ref p, .ref t] ∧ TabAt K H p r ∧ Inj r ∧ SqT K H t (ks.map V.int) ∧ ks ∈ ringsR r ∧ ∀ H', Same H H' → Q (.bl true) H'
theorem sc_is_ring : FnScope ["table", "thing", "key"] ["table", "thing"] (defScope s_is_ring) := ⟨rfl, rfl, rfl, by decide +kernel, rfl, by decide +kernel, by decide +kernel⟩
theorem ok_is_ring (T : Txt K mg) : FnR P w K mg base CX0 9 (a_is_ring K) (spIsRing K) := by
  have nd := sc_is_ring.nd
  refine okR T.f_is_ring sc_is_ring (fun _ _ _ _ _ _ us hl => match us, hl with | [_, _], _ => rfl) (fun vs H Q E h => ?_) (fun cdv A outer s H vs Q E hr h => ?_)
  · obtain ⟨p, t, r, ks, rfl, _⟩ := h
    rfl
  · obtain ⟨p, t, r, ks, rfl, ht, inj, hk, hm, q⟩ := h
    refine ⟨_, (pss_one (ps_ret (pe_and (pe_callB call_isi (by rfl) T.n_isinstance (by decide +kernel) (pa_cons (pv 1) (pa_cons (pe_bltn (v := .ty "tuple") (by rfl) T.n_tuple (by decide +kernel) rfl) pa_nil))) (pe_and (pe_callB (cr_all rfl) (by rfl) T.n_all (by decide +kernel) (pa_cons (pe_lc (own := [("key", 2)]) (g := (gName 2)) rfl nd (pi_tup (pv 1)) (blkOk_by (own := [("key", 2)]) (N := ["table", "thing", "key"]) (sc := defScope s_is_ring) (by decide +kernel)) (fun _ _ _ _ _ => (pg_name (i := 2) nd rfl (.inl rfl) (.inr rfl))) (fun _ _ _ _ _ => pts_nil) (fun _ _ _ _ _ => (pe_cmpR (op_inO T.inO (ok_tIn T) (by exact hr.mono (by decide)) pass0) (pv 2) (pv 0) (by rfl)))) pa_nil)) (pe_one (pe_cmpR (op_inD (by exact u65 hr)) (pv 1) (pe_cl (ok_rings_of T) (by exact hr.mono (by decide)) (by rfl) T.g_rings_of (T.f_rings_of.elim fun _ F => F.kp) pass0 (pa_cons (pv 0) pa_nil)) (by rfl))))))), ?_⟩
    obtain ⟨dx, fs, hi⟩ := ht.ins
    have G := gr_of ht.1 inj
    obtain ⟨k0, hk0, _, rfl⟩ := (Rc.mem_rings G).mp hm
    have hin := Rc.path_sub G hk0
    have hl : (Rc.path (keysT r) (wtT r) k0).length ≤ 40 := Nat.le_trans (Rc.nodup_length_le (Rc.path_is G hk0).nd hin) (keys_sz ht.1)
    refine ⟨_, rfl, .ref t, .ty "tuple", _, _, true, rfl, .ty _, tyX_tup hk, kit_ty (by decide +kernel), true, rfl, iteT ?_⟩
    refine ⟨_, rfl, t, rfl, ⟨_, hk⟩, fun D hD => ?_⟩
    refine lc_go (walk_tup (xs := (Rc.path (keysT r) (wtT r) k0).map V.int)) (fun i acc H => acc = List.replicate i (V.bl true)) (by rw [List.length_map]; omega) hD (fun H s => Same.tup s hk) rfl ?_ ?_
    · rintro i x H0 H2 acc hi' L ⟨rfl, ex⟩
      rw [List.getElem?_map] at ex
      obtain ⟨k, e1, rfl⟩ := Option.map_eq_some_iff.mp ex
      have s2 := L.same.trans hid_same
      have hm := hin k (List.mem_of_getElem? e1)
      refine ⟨rfl, yes ⟨_, rfl, _, rfl, p, dx, fs, rfl, s2 _ _ hi, ⟨p, r, k, rfl, ht.same s2, _, rfl, L.snoc (by rw [List.length_map] at hi'; omega) (Same.refl _) ?_⟩⟩⟩
      show acc ++ [V.bl (decide (k ∈ keysT r))] = _
      rw [decide_eq_true hm, List.replicate_succ', ← show acc = _ from L.f]
    · intro H' acc s e f _
      rw [show acc = _ from f, rep_bl] at e
      refine ⟨D, _, rfl, SqL.of e, _, rfl, ?_⟩
      rw [all_true]
      refine iteT ⟨_, rfl, _, rfl, p, r, rfl, ht.same s, inj, fun H2 l xs s2 _ e2 hd => ?_⟩
      refine ⟨tI (Rc.path (keysT r) (wtT r) k0), (ringsR r).map tI, dp_tI (Same.tup (s.trans s2) hk), .lst (SqL.of e2) (DpAll.same hid_same _ _ hd), shaped_tI _, shaped_tIs _, ?_⟩
      have : ((ringsR r).map tI).any (fun z => PyData.eqv z (tI (Rc.path (keysT r) (wtT r) k0))) = true := List.any_eq_true.mpr ⟨_, List.mem_map.mpr ⟨_, hm, rfl⟩, eqv_self (shaped_tI _)⟩
      rw [this]
      exact q _ (s.trans s2)
def spLeft (K : PySem.W.Frag) : Sp := fun vs H Q _ => ∃ (p : Addr) (r : Tb), vs = [.ref p] ∧ TabAt K H p r ∧ ∀ H', Same H H' → Q (.bl ((keysT r).any fun k => (wtT r k).isSome)) H'
theorem sc_waits_left : FnScope ["table", "key"] ["table"] (defScope s_waits_left) := ⟨rfl, rfl, rfl, by decide +kernel, rfl, by decide +kernel, by decide +kernel⟩
theorem ok_waits_left (T : Txt K mg) : FnR P w K mg base CX0 8 (a_waits_left K) (spLeft K) := by
  have nd := sc_waits_left.nd
  refine okR T.f_waits_left sc_waits_left (fun _ _ _ _ _ _ us hl => match us, hl with | [_], _ => rfl) (fun vs H Q E h => ?_) (fun cdv A outer s H vs Q E hr h => ?_)
  · obtain ⟨p, r, rfl, _⟩ := h
    rfl
  · obtain ⟨p, r, rfl, ht, q⟩ := h
    have hS := keys_sz ht.1
    refine ⟨_, (pss_one (ps_ret (pe_callB (cr_any rfl) (by rfl) T.n_any (by decide +kernel) (pa_cons (pe_lc (own := [("key", 1)]) (g := (gName 1)) rfl nd (pi_list (pe_cl (ok_keys_of T) (by exact hr.mono (by decide)) (by rfl) T.g_keys_of (T.f_keys_of.elim fun _ F => F.kp) pass0 (pa_cons (pv 0) pa_nil))) (blkOk_by (own := [("key", 1)]) (N := ["table", "key"]) (sc := defScope s_waits_left) (by decide +kernel)) (fun _ _ _ _ _ => (pg_name (i := 1) nd rfl (.inl rfl) (.inr rfl))) (fun _ _ _ _ _ => pts_nil) (fun _ _ _ _ _ => (pe_cmp (pc_notN (pe_cl (ok_waited T) (by exact hr.mono (by decide)) (by rfl) T.g_waited (T.f_waited.elim fun _ F => F.kp) pass0 (pa_cons (pv 0) (pa_cons (pv 1) pa_nil))))))) pa_nil)))), ?_⟩
    refine ⟨_, rfl, p, r, rfl, ht, fun H1 t s1 _ e1 => ⟨t, rfl, ⟨_, SqL.of e1⟩, fun D hD => ?_⟩⟩
    refine lc_go (walk_list (xs := (keysT r).map V.int)) (fun i acc H => acc = (((keysT r).take i).map fun k => (wtT r k).isSome).map V.bl) (by rw [memI]; omega) hD (fun H s => SqL.of (s _ _ e1)) rfl ?_ ?_
    · rintro i x H0 H2 acc hi L ⟨rfl, ex⟩
      rw [List.getElem?_map] at ex
      obtain ⟨k, e2, rfl⟩ := Option.map_eq_some_iff.mp ex
      have s2 := L.same.trans hid_same
      rw [memI] at hi
      refine ⟨rfl, yes ⟨_, rfl, _, rfl, p, r, k, rfl, ht.same (s1.trans s2), List.mem_of_getElem? e2, L.snoc (by omega) (Same.refl _) ?_⟩⟩
      show acc ++ [_] = _
      rw [take_map e2, List.map_append, ← show acc = _ from L.f]
      cases wtT r k <;> rfl
    · intro H' acc s e f _
      have f : acc = (((keysT r).take ((keysT r).map V.int).length).map fun k => (wtT r k).isSome).map V.bl := f
      rw [memI, List.take_length] at f
      rw [f] at e
      refine ⟨D, _, rfl, SqL.of e, ?_⟩
      rw [List.any_map]
      exact q _ (s1.trans s)
end
end Rw

-- D12
set_option Elab.async false
set_option linter.all false
set_option maxRecDepth 100000
set_option maxHeartbeats 4000000
/-! is_enough, enough, lines_of, least_many. -/
namespace Rw
open PySem PySem.Spec PyProof.Rows L2
section
variable {P : Program} {w : World} {K : PySem.W.Frag} {mg : Str → Option Value} {base : Heap}

theorem keys_sub (r : Tb) (ks : List Int) : keysT (subT r ks) = Rc.sdel (keysT r) ks := by
  unfold keysT subT Rc.sdel
  rw [List.filter_map]
  congr 1
  refine List.filter_congr fun p _ => ?_
  simp
theorem mem_subT {r : Tb} {ks : List Int} {p : Int × Int} : p ∈ subT r ks ↔ p ∈ r ∧ p.1 ∉ ks := by
  unfold subT
  rw [List.mem_filter]
  simp
theorem wt_sub {r : Tb} (g : Good r) (ks : List Int) : wtT (subT r ks) = Rc.del (wtT r) ks := by
  funext k
  refine Option.ext fun v => ?_
  rw [wtT_some, Rc.del_some, wtT_some, newT_iff (g.sub ks).nd, newT_iff g.nd, keys_sub, Rc.mem_sdel, mem_subT]
  constructor
  · rintro ⟨⟨a, b⟩, c, d, e⟩
    exact ⟨b, e, a, c, d⟩
  · rintro ⟨b, e, a, c, d⟩
    exact ⟨⟨a, b⟩, c, d, e⟩
theorem Inj.sub {r : Tb} (h : Inj r) (ks : List Int) : Inj (subT r ks) := h.sublist ((List.filter_sublist (l := r)).map _)
theorem rings_sub {r : Tb} (g : Good r) (ks : List Int) : ringsR (subT r ks) = Rc.rings (Rc.sdel (keysT r) ks) (Rc.del (wtT r) ks) := by
  unfold ringsR
  rw [keys_sub, wt_sub g]
/-- is it enough to park ks -/
def enB (r : Tb) (ks : List Int) (a : Bool) : Bool := if a = true then !((keysT (subT r ks)).any fun k => (wtT (subT r ks) k).isSome) else decide (ringsR (subT r ks) = [])
theorem map_nil_dec (L : List (List Int)) : decide (L.map tI = []) = decide (L = []) := by
  cases L <;> simp
def spIsEn (K : PySem.W.Frag) : Sp := fun vs H Q _ => ∃ (p t : Addr) (r : Tb) (ks : List Int) (a : Bool), vs = [.ref p, .ref t, .bl a] ∧ TabAt K H p r ∧ Inj r ∧ SqT K H t (ks.map V.int) ∧ (∀ k ∈ ks, k ∈ keysT r) ∧ ks.Pairwise (· < ·) ∧ ks.length ≤ 800 ∧ ∀ H', Same H H' → Q (.bl (enB r ks a)) H'
theorem sc_is_enough : FnScope ["table", "rows", "always", "rest"] ["table", "rows", "always"] (defScope s_is_enough) := ⟨rfl, rfl, rfl, by decide +kernel, rfl, by decide +kernel, by decide +kernel⟩
theorem ok_is_enough (T : Txt K mg) : FnR P w K mg base CX0 10 (a_is_enough K) (spIsEn K) := by
  have nd := sc_is_enough.nd
  refine okR T.f_is_enough sc_is_enough (fun _ _ _ _ _ _ us hl => match us, hl with | [_, _, _], _ => rfl) (fun vs H Q E h => ?_) (fun cdv A outer s H vs Q E hr h => ?_)
  · obtain ⟨p, t, r, ks, a, rfl, _⟩ := h
    rfl
  · obtain ⟨p, t, r, ks, a, rfl, ht, inj, hk, hin, asc, hl, q⟩ := h
    obtain ⟨fo, ro, b1, b2, b3⟩ := T.subT
    refine ⟨_, (pss_cons (ps_set (i := 3) nd rfl (.inl rfl) (pe_op (op_binO T.subO.1 T.subO.2 T.self1 b1 b2 b3 (ok_tSub T) (by exact hr.mono (by decide)) pass0) (pv 0) (pv 1))) (pss_one (ps_ret (pe_ifExp (pt_val (pv 2)) (pe_not (pe_cl (ok_waits_left T) (by exact hr.mono (by decide)) (by rfl) T.g_waits_left (T.f_waits_left.elim fun _ F => F.kp) pass0 (pa_cons (pv 3) pa_nil))) (pe_cmpR (op_eqD hr.units) (pe_cl (ok_rings_of T) (by exact hr.mono (by decide)) (by rfl) T.g_rings_of (T.f_rings_of.elim fun _ F => F.kp) pass0 (pa_cons (pv 3) pa_nil)) (pe_lst pa_nil) (nomark _)))))), ?_⟩
    obtain ⟨dx, fs, hi⟩ := ht.ins
    refine ⟨_, rfl, _, rfl, p, dx, fs, t, _, rfl, rfl, hi, hk, ⟨p, t, r, ks, rfl, ht, hk, hin, asc, hl, fun H1 c s1 _ hc => ⟨c, rfl, ?_⟩⟩⟩
    refine ⟨_, rfl, a, rfl, ?_⟩
    cases a with
    | true =>
      refine iteT ⟨_, rfl, c, subT r ks, rfl, hc, fun H2 s2 => ⟨_, rfl, ?_⟩⟩
      exact q _ (s1.trans s2)
    | false =>
      refine iteF ⟨_, rfl, c, subT r ks, rfl, hc, inj.sub ks, fun H2 l xs s2 hl2 e2 hd => ?_⟩
      refine ⟨Nat.zero_le _, fun l3 hl3 => ?_⟩
      have s3 := same_up (o := .lst []) hl3
      refine ⟨.list ((ringsR (subT r ks)).map tI), .list [], .lst (SqL.of (s3 _ _ e2)) (DpAll.same (hid_same.trans s3) _ _ hd), .lst (SqL.of upd_same) .nil, shaped_tIs _, shaped_nil, ?_⟩
      rw [eqv_lnil, map_nil_dec]
      exact q _ ((s1.trans s2).trans s3)
theorem sc_enough : FnScope ["table", "rows", "always"] ["table", "rows", "always"] (defScope s_enough) := ⟨rfl, rfl, rfl, by decide +kernel, rfl, by decide +kernel, by decide +kernel⟩
theorem ok_enough (T : Txt K mg) : ∃ fd, FnOk P w K mg base CX0 11 (a_enough K) fd ["table", "rows", "always"] (spIsEn K) ∧ KBinds K fd ["table", "rows", "always"] ["always"] kg2 kg2 := by
  obtain ⟨fd, F⟩ := T.f_enough
  have nd := sc_enough.nd
  refine ⟨fd, F.ok sc_enough (fun vs H Q E h => ?_) (fun cdv A outer s H vs Q E hr h => ?_), ?_⟩
  · obtain ⟨p, t, r, ks, a, rfl, _⟩ := h
    rfl
  · obtain ⟨p, t, r, ks, a, rfl, ht, inj, hk, hin, asc, hl, q⟩ := h
    refine ⟨_, (pss_cons (ps_expr (pe_cl (ok_need_rows T) (by exact hr.mono (by decide)) (by rfl) T.g_need_rows (T.f_need_rows.elim fun _ F => F.kp) pass0 (pa_cons (pv 0) (pa_cons (pv 1) pa_nil)))) (pss_cons (ps_expr (pe_cl (ok_need_no_pair T) (by exact hr.mono (by decide)) (by rfl) T.g_need_no_pair (T.f_need_no_pair.elim fun _ F => F.kp) pass0 (pa_cons (pv 0) pa_nil))) (pss_one (ps_ret (pe_cl (ok_is_enough T) (by exact hr.mono (by decide)) (by rfl) T.g_is_enough (T.f_is_enough.elim fun _ F => F.kp) pass0 (pa_cons (pv 0) (pa_cons (pv 1) (pa_cons (pv 2) pa_nil)))))))), ?_⟩
    refine ⟨_, rfl, _, rfl, p, t, r, ks, rfl, ht, hk, hin, asc, hl, fun H1 s1 => ?_⟩
    refine ⟨_, rfl, p, r, rfl, ht.same s1, inj, fun H2 s2 => ?_⟩
    exact ⟨_, rfl, _, rfl, _, rfl, p, t, r, ks, a, rfl, ht.same (s1.trans s2), inj, Same.tup (s1.trans s2) hk, hin, asc, hl, fun H3 s3 => q H3 ((s1.trans s2).trans s3)⟩
  · obtain ⟨oc, od, kV, doc, pm, an, cdv, ct, osl, rfl, lk, hcd⟩ := F.ex
    refine ⟨fun s us ws _ hl => ?_, vals_kg2⟩
    obtain ⟨a, b, c, rfl, rfl⟩ := kg2_len hl
    exact BindsTo.of_eq rfl
/-- the lines of the keys so far -/
def linesTo (r : Tb) (i : Nat) : List (List Int) := (((keysT r).take i).filter (Rc.isLine (keysT r) (wtT r))).map (Rc.path (keysT r) (wtT r))
theorem linesTo_succ {r : Tb} {i : Nat} {k : Int} (e : (keysT r)[i]? = some k) : linesTo r (i + 1) = linesTo r i ++ (if Rc.isLine (keysT r) (wtT r) k = true then [Rc.path (keysT r) (wtT r) k] else []) := by
  unfold linesTo
  rw [take_snoc e, List.filter_append, List.map_append]
  congr 1
  by_cases h : Rc.isLine (keysT r) (wtT r) k = true <;> simp [h]
def linesR (r : Tb) : List (List Int) := Rc.lines (keysT r) (wtT r)
theorem linesTo_all (r : Tb) : linesTo r (keysT r).length = linesR r := by
  unfold linesTo linesR Rc.lines
  rw [List.take_length]
def spLines (K : PySem.W.Frag) : Sp := fun vs H Q _ => ∃ (p : Addr) (r : Tb), vs = [.ref p] ∧ TabAt K H p r ∧ Inj r ∧ ∀ H' l xs, Same H H' → H l = none → H' l = some (.lst xs) → DpAll K (hid H' l) xs ((linesR r).map lI) → Q (.ref l) H'
theorem sc_lines_of : FnScope ["table", "key"] ["table"] (defScope s_lines_of) := ⟨rfl, rfl, rfl, by decide +kernel, rfl, by decide +kernel, by decide +kernel⟩
theorem ok_lines_of (T : Txt K mg) : FnR P w K mg base CX0 9 (a_lines_of K) (spLines K) := by
  have nd := sc_lines_of.nd
  refine okR T.f_lines_of sc_lines_of (fun _ _ _ _ _ _ us hl => match us, hl with | [_], _ => rfl) (fun vs H Q E h => ?_) (fun cdv A outer s H vs Q E hr h => ?_)
  · obtain ⟨p, r, rfl, _⟩ := h
    rfl
  · obtain ⟨p, r, rfl, ht, inj, q⟩ := h
    have hS := keys_sz ht.1
    refine ⟨_, (pss_one (ps_ret (pe_lc (own := [("key", 1)]) (g := (gName 1)) rfl nd (pi_list (pe_cl (ok_keys_of T) (by exact hr.mono (by decide)) (by rfl) T.g_keys_of (T.f_keys_of.elim fun _ F => F.kp) pass0 (pa_cons (pv 0) pa_nil))) (blkOk_by (own := [("key", 1)]) (N := ["table", "key"]) (sc := defScope s_lines_of) (by decide +kernel)) (fun _ _ _ _ _ => (pg_name (i := 1) nd rfl (.inl rfl) (.inr rfl))) (fun _ _ _ _ _ => (pts_one (pt_cmpR (op_eqDK (K := K) rfl (by exact hr.units)) (pe_cl (ok_waiting_for T) (by exact hr.mono (by decide)) (by rfl) T.g_waiting_for (T.f_waiting_for.elim fun _ F => F.kp) pass0 (pa_cons (pv 0) (pa_cons (pv 1) pa_nil))) (pe_lst pa_nil) (nomark _)))) (fun _ _ _ _ _ => (pe_cl (ok_path_of T) (by exact hr.mono (by decide)) (by rfl) T.g_path_of (T.f_path_of.elim fun _ F => F.kp) pass0 (pa_cons (pv 0) (pa_cons (pv 1) pa_nil))))))), ?_⟩
    refine ⟨_, rfl, p, r, rfl, ht, fun H1 t s1 _ e1 => ⟨t, rfl, ⟨_, SqL.of e1⟩, fun D hD => ?_⟩⟩
    refine lc_go (walk_list (xs := (keysT r).map V.int)) (fun i acc H => DpAll K H acc ((linesTo r i).map lI)) (by rw [memI]; omega) hD (fun H s => SqL.of (s _ _ e1)) .nil ?_ ?_
    · rintro i x H0 H2 acc hi L ⟨rfl, ex⟩
      rw [List.getElem?_map] at ex
      obtain ⟨k, e2, rfl⟩ := Option.map_eq_some_iff.mp ex
      have s2 := L.same.trans hid_same
      have hk := List.mem_of_getElem? e2
      rw [memI] at hi
      refine ⟨rfl, ⟨_, rfl, _, rfl, p, r, k, rfl, ht.same (s1.trans s2), fun H3 l s3 hl e3 => ?_⟩⟩
      refine ⟨Nat.zero_le _, fun l2 hl2 => ?_⟩
      have s4 := s3.trans (same_up (o := .lst []) hl2)
      have wd : (Rc.isLine (keysT r) (wtT r) k) = decide ((waiters r k).map PyData.int = []) := by
        cases e : Rc.isLine (keysT r) (wtT r) k with
        | true =>
          rw [(waiters_nil ht.1 hk).mpr e]
          simp
        | false =>
          rw [decide_eq_false]
          intro z
          have z2 : waiters r k = [] := List.map_eq_nil_iff.mp z
          rw [(waiters_nil ht.1 hk).mp z2] at e
          cases e
      refine ⟨.list ((waiters r k).map .int), .list [], .lst (SqL.of (same_up hl2 _ _ e3)) (dpAll_ints _), .lst (SqL.of upd_same) .nil, shaped_ints _, shaped_nil, _, rfl, ?_⟩
      rw [eqv_lnil, ← wd]
      refine ite2 (fun z => ?_) (fun z => ?_)
      · refine ⟨_, rfl, _, rfl, p, r, k, rfl, ht.same ((s1.trans s2).trans s4), inj, hk, fun l5 hl5 => ?_⟩
        have s5 := s4.trans (same_up (o := .lst ((Rc.path (keysT r) (wtT r) k).map V.int)) hl5)
        have hl5D : l5 ≠ D := fun e => by rw [e, s4 _ _ L.at_] at hl5; cases hl5
        refine L.snoc (by omega) s5 ?_
        show DpAll K _ (acc ++ [V.ref l5]) ((linesTo r (i + 1)).map lI)
        rw [linesTo_succ e2, z, if_pos rfl, List.map_append]
        refine dpAll_snoc (DpAll.same (hid_mono s5) _ _ L.f) (dp_lI (SqL.of ?_))
        rw [hid_ne hl5D]
        exact upd_same
      · refine L.skip (by omega) s4 ?_
        show DpAll K _ acc ((linesTo r (i + 1)).map lI)
        rw [linesTo_succ e2, z, if_neg Bool.false_ne_true, List.append_nil]
        exact DpAll.same (hid_mono s4) _ _ L.f
    · intro H' acc s e f _
      have f : DpAll K (hid H' D) acc ((linesTo r ((keysT r).map V.int).length).map lI) := f
      rw [memI, linesTo_all] at f
      exact q H' D acc (s1.trans s) (s1.free hD) e f
end
end Rw

-- D13
set_option Elab.async false
set_option linter.all false
set_option maxRecDepth 100000
set_option maxHeartbeats 4000000
/-! least_many, first_cover, fewest_parked. -/
namespace Rw
open PySem PySem.Spec PyProof.Rows L2
section
variable {P : Program} {w : World} {K : PySem.W.Frag} {mg : Str → Option Value} {base : Heap}

theorem lines_sz {r : Tb} (g : Good r) : (linesR r).length ≤ 40 := by
  unfold linesR Rc.lines
  rw [List.length_map]
  exact Nat.le_trans (List.length_filter_le _ _) (keys_sz g)
theorem rings_sz {r : Tb} (g : Good r) : (ringsR r).length ≤ 40 := by
  unfold ringsR Rc.rings
  rw [List.length_map]
  exact Nat.le_trans (List.length_filter_le _ _) (keys_sz g)
abbrev leastR (r : Tb) : Nat := Rc.least (keysT r) (wtT r)
def spLeast (K : PySem.W.Frag) : Sp := fun vs H Q _ => ∃ (p : Addr) (r : Tb), vs = [.ref p] ∧ TabAt K H p r ∧ Inj r ∧ ∀ H', Same H H' → Q (.int (leastR r : Nat)) H'
theorem cdiv2 (i : Int) : CDiv i 2 := ⟨by omega, by omega⟩
theorem half_int (n : Nat) : ((n : Int) / 2) = ((n / 2 : Nat) : Int) := by omega
theorem half1_int (n : Nat) : (((n : Int) + 1) / 2) = (((n + 1) / 2 : Nat) : Int) := by omega
theorem sc_least_many : FnScope ["table", "found", "line", "ring"] ["table"] (defScope s_least_many) := ⟨rfl, rfl, rfl, by decide +kernel, rfl, by decide +kernel, by decide +kernel⟩
theorem ok_least_many (T : Txt K mg) : FnR P w K mg base CX0 10 (a_least_many K) (spLeast K) := by
  have nd := sc_least_many.nd
  refine okR T.f_least_many sc_least_many (fun _ _ _ _ _ _ us hl => match us, hl with | [_], _ => rfl) (fun vs H Q E h => ?_) (fun cdv A outer s H vs Q E hr h => ?_)
  · obtain ⟨p, r, rfl, _⟩ := h
    rfl
  · obtain ⟨p, r, rfl, ht, inj, q⟩ := h
    refine ⟨_, (pss_cons (ps_set (i := 1) nd rfl (.inl rfl) (pe_callB (cr_sum rfl) (by rfl) T.n_sum (by decide +kernel) (pa_cons (pe_lc (own := [("line", 2)]) (g := (gName 2)) rfl nd (pi_list (pe_cl (ok_lines_of T) (by exact hr.mono (by decide)) (by rfl) T.g_lines_of (T.f_lines_of.elim fun _ F => F.kp) pass0 (pa_cons (pv 0) pa_nil))) (blkOk_by (own := [("line", 2)]) (N := ["table", "found", "line", "ring"]) (sc := defScope s_least_many) (by decide +kernel)) (fun _ _ _ _ _ => (pg_name (i := 2) nd rfl (.inl rfl) (.inr rfl))) (fun _ _ _ _ _ => pts_nil) (fun _ _ _ _ _ => (pe_op op_fdiv (pe_callB (call_lenK (K := K) rfl) (by rfl) T.n_len (by decide +kernel) (pa_cons (pv 2) pa_nil)) pe_int))) pa_nil))) (pss_one (ps_ret (pe_op op_add (pv 1) (pe_callB (cr_sum rfl) (by rfl) T.n_sum (by decide +kernel) (pa_cons (pe_lc (own := [("ring", 3)]) (g := (gName 3)) rfl nd (pi_list (pe_cl (ok_rings_of T) (by exact hr.mono (by decide)) (by rfl) T.g_rings_of (T.f_rings_of.elim fun _ F => F.kp) pass0 (pa_cons (pv 0) pa_nil))) (blkOk_by (own := [("ring", 3)]) (N := ["table", "found", "line", "ring"]) (sc := defScope s_least_many) (by decide +kernel)) (fun _ _ _ _ _ => (pg_name (i := 3) nd rfl (.inl rfl) (.inr rfl))) (fun _ _ _ _ _ => pts_nil) (fun _ _ _ _ _ => (pe_op op_fdiv (pe_op op_add (pe_callB (call_lenK (K := K) rfl) (by rfl) T.n_len (by decide +kernel) (pa_cons (pv 3) pa_nil)) pe_int) pe_int))) pa_nil)))))), ?_⟩
    refine ⟨_, rfl, p, r, rfl, ht, inj, fun H1 l xs s1 _ e1 hd => ⟨l, rfl, ⟨_, SqL.of e1⟩, fun D hD => ?_⟩⟩
    have hxs : xs.length = (linesR r).length := by
      have := dpAll_len hd
      rwa [List.length_map] at this
    have hd0 : DpAll K H1 xs ((linesR r).map lI) := DpAll.same hid_same _ _ hd
    refine lc_go (walk_list (xs := xs)) (fun i acc H => acc = (((linesR r).take i).map fun p => ((p.length / 2 : Nat) : Int)).map V.int) (by have := lines_sz ht.1; omega) hD (fun H s => SqL.of (s _ _ e1)) rfl ?_ ?_
    · rintro i x H0 H2 acc hi L ⟨rfl, ex⟩
      have s2 := L.same.trans hid_same
      obtain ⟨ln, e2, hdp⟩ := dp_nth (DpAll.same s2 _ _ hd0) ex
      obtain ⟨a, rfl, ha⟩ := lI_dp hdp
      refine ⟨rfl, yes ⟨_, rfl, a, _, rfl, .inl ha, _, _, rfl, rfl, cdiv2 _, L.snoc (by have := lines_sz ht.1; omega) (Same.refl _) ?_⟩⟩
      show acc ++ [V.int (((ln.map V.int).length : Int) / 2)] = _
      rw [memI, half_int, take_map e2, List.map_append, ← show acc = _ from L.f]
      rfl
    · intro H2 acc s2 e2 f _
      have f : acc = (((linesR r).take xs.length).map fun p => ((p.length / 2 : Nat) : Int)).map V.int := f
      rw [hxs, List.take_length] at f
      rw [f] at e2
      refine ⟨D, _, rfl, SqL.of e2, ?_⟩
      refine ⟨_, rfl, _, rfl, p, r, rfl, ht.same (s1.trans s2), inj, fun H3 l3 ys s3 _ e3 hr3 => ⟨l3, rfl, ⟨_, SqL.of e3⟩, fun D2 hD2 => ?_⟩⟩
      have hys : ys.length = (ringsR r).length := by
        have := dpAll_len hr3
        rwa [List.length_map] at this
      have hd1 : DpAll K H3 ys ((ringsR r).map tI) := DpAll.same hid_same _ _ hr3
      refine lc_go (walk_list (xs := ys)) (fun i acc H => acc = (((ringsR r).take i).map fun p => (((p.length + 1) / 2 : Nat) : Int)).map V.int) (by have := rings_sz ht.1; omega) hD2 (fun H s => SqL.of (s _ _ e3)) rfl ?_ ?_
      · rintro i x H0 H4 acc hi L ⟨rfl, ex⟩
        have s4 := L.same.trans hid_same
        obtain ⟨ln, e4, hdp⟩ := dp_nth (DpAll.same s4 _ _ hd1) ex
        obtain ⟨a, rfl, ha⟩ := tI_dp hdp
        refine ⟨rfl, yes ⟨_, rfl, a, _, rfl, .inr ha, _, _, rfl, rfl, _, _, rfl, rfl, cdiv2 _, L.snoc (by have := rings_sz ht.1; omega) (Same.refl _) ?_⟩⟩
        show acc ++ [V.int ((((ln.map V.int).length : Int) + 1) / 2)] = _
        rw [memI, half1_int, take_map e4, List.map_append, ← show acc = _ from L.f]
        rfl
      · intro H4 acc s4 e4 f _
        have f : acc = (((ringsR r).take ys.length).map fun p => (((p.length + 1) / 2 : Nat) : Int)).map V.int := f
        rw [hys, List.take_length] at f
        rw [f] at e4
        refine ⟨D2, _, rfl, SqL.of e4, _, _, rfl, rfl, ?_⟩
        rw [sum_cast (fun p : List Int => p.length / 2), sum_cast (fun p : List Int => (p.length + 1) / 2)]
        have z := q _ (((s1.trans s2).trans s3).trans s4)
        unfold leastR Rc.least at z
        rw [Int.natCast_add] at z
        exact z
def coverR (r : Tb) : List Int := Rc.firstCover (keysT r) (wtT r)
def spCover (K : PySem.W.Frag) : Sp := fun vs H Q _ => ∃ (p : Addr) (r : Tb), vs = [.ref p] ∧ TabAt K H p r ∧ Inj r ∧ ∀ H' t, Same H H' → H t = none → SqT K H' t ((coverR r).map V.int) → Q (.ref t) H'
theorem sc_first_cover : FnScope ["table", "chosen", "many", "key", "more"] ["table"] (defScope s_first_cover) := ⟨rfl, rfl, rfl, by decide +kernel, rfl, by decide +kernel, by decide +kernel⟩
theorem ok_first_cover (T : Txt K mg) : FnR P w K mg base CX0 11 (a_first_cover K) (spCover K) := by
  have nd := sc_first_cover.nd
  refine okR T.f_first_cover sc_first_cover (fun _ _ _ _ _ _ us hl => match us, hl with | [_], _ => rfl) (fun vs H Q E h => ?_) (fun cdv A outer s H vs Q E hr h => ?_)
  · obtain ⟨p, r, rfl, _⟩ := h
    rfl
  · obtain ⟨p, r, rfl, ht, inj, q⟩ := h
    have hS := keys_sz ht.1
    obtain ⟨fo, ro, b1, b2, b3⟩ := T.subT
    refine ⟨_, (pss_cons (ps_par (i := 1) (j := 2) (by rfl) nd rfl rfl (by decide) rfl rfl (pa_cons (pe_lst pa_nil) (pa_cons (pe_cl (ok_least_many T) (by exact hr.mono (by decide)) (by rfl) T.g_least_many (T.f_least_many.elim fun _ F => F.kp) pass0 (pa_cons (pv 0) pa_nil)) pa_nil)) (by rfl)) (pss_cons (ps_for PassesOwn.never rfl (pi_list (pe_cl (ok_keys_of T) (by exact hr.mono (by decide)) (by rfl) T.g_keys_of (T.f_keys_of.elim fun _ F => F.kp) pass0 (pa_cons (pv 0) pa_nil))) (pg_name (i := 3) nd rfl (.inl rfl)) (pss_cons (ps_set (i := 4) nd rfl (.inl rfl) (pe_tup (StX.pa_star (pv 1) (pa_cons (pv 3) pa_nil)))) (pss_one (ps_if (pw_and (pt_cmpR op_lt (pe_callB call_len_seq (by rfl) T.n_len (by decide +kernel) (pa_cons (pv 1) pa_nil)) (pv 2) (nomark _)) (pw_and1 (pt_cmpR op_eq (pe_op op_add (pe_callB call_len_seq (by rfl) T.n_len (by decide +kernel) (pa_cons (pv 4) pa_nil)) (pe_cl (ok_least_many T) (by exact hr.mono (by decide)) (by rfl) T.g_least_many (T.f_least_many.elim fun _ F => F.kp) pass0 (pa_cons (pe_op (op_binO T.subO.1 T.subO.2 T.self1 b1 b2 b3 (ok_tSub T) (by exact hr.mono (by decide)) pass0) (pv 0) (pv 4)) pa_nil))) (pv 2) (nomark _)))).pt (pss_one (ps_expr (pe_bm PySem.F.plainAttrs_list PySem.F.slot_list_append PySem.F.type_list_append mt_append (pv 1) (pa_cons (pv 3) pa_nil)))) pss_nil)))) (pss_one (ps_ret (pe_callTy call_tuple_of (by rfl) T.n_tuple (by decide +kernel) (pa_cons (pv 1) pa_nil)))))), ?_⟩
    refine ⟨Nat.zero_le _, fun D hD => ?_⟩
    have s0 : Same H (upd H D (.lst [])) := same_up hD
    refine ⟨_, rfl, p, r, rfl, ht.same s0, inj, fun H1 s1 => ⟨_, _, rfl, ?_⟩⟩
    refine ⟨_, rfl, p, r, rfl, ht.same (s0.trans s1), fun H2 t s2 htn e2 => ⟨t, rfl, ⟨_, SqL.of e2⟩, ?_⟩⟩
    have eD : H2 D = some (.lst []) := s2 _ _ (s1 _ _ upd_same)
    have htD : t ≠ D := fun e => by rw [e, s1 _ _ upd_same] at htn; cases htn
    have sB : Same H (hid H2 D) := hid_of hD (s1.trans s2)
    have et : hid H2 D t = some (.lst ((keysT r).map V.int)) := by rw [hid_ne htD]; exact e2
    refine for_it (walk_list (xs := (keysT r).map V.int)) (fun i σ H3 => (∃ y3 y4, σ = [some (.ref p), some (.ref D), some (.int (leastR r : Nat)), y3, y4]) ∧ Same (hid H2 D) (hid H3 D) ∧ ∃ c : List Int, H3 D = some (.lst (c.map V.int)) ∧ c.Sublist ((keysT r).take i) ∧ Rc.greedy (keysT r) (wtT r) (leastR r) ((keysT r).drop i) c = coverR r) ⟨⟨_, _, rfl⟩, Same.refl _, [], eD, .slnil, rfl⟩ (fun i σ H3 _ ⟨_, s, _⟩ => SqL.of (s.trans hid_same _ _ et)) ?_ ?_
    · rintro i x σ H0 H3 hi ⟨⟨y3, y4, rfl⟩, s3, c, ec, hsub, hg⟩ ⟨rfl, ex⟩
      rw [List.getElem?_map] at ex
      obtain ⟨k, e1, rfl⟩ := Option.map_eq_some_iff.mp ex
      rw [memI] at hi
      have hk := List.mem_of_getElem? e1
      have s4 : Same H H3 := (sB.trans s3).trans hid_same
      have hcl : c.length ≤ 40 := by
        have := hsub.length_le
        rw [List.length_take] at this
        omega
      have hsub2 : (c ++ [k]).Sublist ((keysT r).take (i + 1)) := by
        rw [take_snoc e1]
        exact hsub.append (List.Sublist.refl _)
      have hsub3 : (c ++ [k]).Sublist (keysT r) := hsub2.trans (List.take_sublist _ _)
      have hdrop : (keysT r).drop i = k :: (keysT r).drop (i + 1) := by
        obtain ⟨hlt, rfl⟩ := List.getElem?_eq_some_iff.mp e1
        exact List.drop_eq_getElem_cons hlt
      rw [hdrop] at hg
      have nx : ¬ (c.length < leastR r ∧ (c ++ [k]).length + Rc.least (Rc.sdel (keysT r) (c ++ [k])) (Rc.del (wtT r) (c ++ [k])) = leastR r) → Rc.greedy (keysT r) (wtT r) (leastR r) ((keysT r).drop (i + 1)) c = coverR r := fun h => by
        unfold Rc.greedy at hg
        rw [if_neg h] at hg
        exact hg
      refine ⟨_, rfl, D, _, rfl, .inr (SqL.of ec), _, rfl, Nat.le_of_lt (small1000 (by simp; omega)), fun m hm => ?_⟩
      have hmD : m ≠ D := fun e => by rw [e, ec] at hm; cases hm
      have s5 : Same H3 (upd H3 m (.tup (c.map V.int ++ [V.int k]))) := same_up hm
      have em : SqT K (upd H3 m (.tup (c.map V.int ++ [V.int k]))) m ((c ++ [k]).map V.int) := by
        rw [List.map_append]
        exact SqT.of upd_same
      refine ⟨_, rfl, D, _, rfl, .inl (SqL.of (s5 _ _ ec)), _, rfl, _, _, rfl, rfl, _, rfl, ?_⟩
      have skip : ∀ {H4 : Hp}, Same H3 H4 → ¬ (c.length < leastR r ∧ (c ++ [k]).length + Rc.least (Rc.sdel (keysT r) (c ++ [k])) (Rc.del (wtT r) (c ++ [k])) = leastR r) → Same (hid H2 D) (hid H4 D) ∧ ∃ c : List Int, H4 D = some (.lst (c.map V.int)) ∧ c.Sublist ((keysT r).take (i + 1)) ∧ Rc.greedy (keysT r) (wtT r) (leastR r) ((keysT r).drop (i + 1)) c = coverR r := fun s6 h =>
        ⟨s3.trans (hid_mono s6), c, s6 _ _ ec, hsub.trans (by rw [take_snoc e1]; exact List.sublist_append_left _ _), nx h⟩
      refine ite2 (fun z => ?_) (fun z => ?_)
      · have z := of_decide_eq_true z
        rw [memI] at z
        obtain ⟨dx, fs, hi'⟩ := ht.ins
        have hasc : (c ++ [k]).Pairwise (· < ·) := ht.1.asc.sublist hsub3
        refine ⟨_, rfl, m, _, rfl, .inr em, ?_⟩
        refine ⟨_, rfl, _, rfl, p, dx, fs, m, _, rfl, rfl, (s4.trans s5) _ _ hi', em, ⟨p, m, r, c ++ [k], rfl, ht.same (s4.trans s5), em, fun x hx => hsub3.subset hx, hasc, by simp; omega, fun H6 tb s6 _ htb => ⟨tb, rfl, ?_⟩⟩⟩
        refine ⟨tb, _, rfl, htb, inj.sub _, fun H7 s7 => ?_⟩
        have s8 := (s5.trans s6).trans s7
        refine ⟨_, _, rfl, rfl, _, rfl, rfl, _, rfl, ?_⟩
        have hn : leastR (subT r (c ++ [k])) = Rc.least (Rc.sdel (keysT r) (c ++ [k])) (Rc.del (wtT r) (c ++ [k])) := by
          unfold leastR
          rw [keys_sub, wt_sub ht.1]
        refine ite2 (fun z2 => ?_) (fun z2 => ?_)
        · rw [dInt] at z2
          have z2 := of_decide_eq_true z2
          rw [memI, hn] at z2
          have hyes : c.length < leastR r ∧ (c ++ [k]).length + Rc.least (Rc.sdel (keysT r) (c ++ [k])) (Rc.del (wtT r) (c ++ [k])) = leastR r := ⟨by omega, by omega⟩
          refine ⟨_, rfl, .inl ⟨rfl, _, SqL.of (s8 _ _ ec)⟩, _, rfl, D, _, _, rfl, rfl, s8 _ _ ec, small1000 (by rw [memI]; omega), ⟨_, _, rfl⟩, ?_, c ++ [k], ?_, hsub2, ?_⟩
          · rw [hid_upd]
            exact s3.trans (hid_mono s8)
          · rw [upd_same]
            simp
          · unfold Rc.greedy at hg
            rw [if_pos hyes] at hg
            exact hg
        · rw [dInt] at z2
          have z2 := of_decide_eq_false z2
          rw [memI, hn] at z2
          exact ⟨⟨_, _, rfl⟩, skip s8 fun h => z2 (by omega)⟩
      · have z := of_decide_eq_false z
        rw [memI] at z
        exact ⟨⟨_, _, rfl⟩, skip s5 fun h => z (by omega)⟩
    · rintro σ H3 ⟨⟨y3, y4, rfl⟩, s3, c, ec, hsub, hg⟩
      have s4 : Same H H3 := (sB.trans s3).trans hid_same
      rw [memI, List.drop_length] at hg
      have hc : c = coverR r := hg
      refine ⟨_, rfl, D, _, rfl, .inl ⟨SqL.of ec, fun t' ht' => ?_⟩⟩
      rw [← hc] at q
      exact q _ t' (s4.trans (same_up ht')) (s4.free ht') (SqT.of upd_same)
end
end Rw

-- D14
set_option Elab.async false
set_option linter.all false
set_option maxRecDepth 100000
set_option maxHeartbeats 4000000
/-! fewest_parked, pairs_along. -/
namespace Rw
open PySem PySem.Spec PyProof.Rows L2
section
variable {P : Program} {w : World} {K : PySem.W.Frag} {mg : Str → Option Value} {base : Heap}

def firstsR (r : Tb) : List Int := Rc.firsts (keysT r) (wtT r)
/-- the rows that are parked -/
def parkR (r : Tb) (a : Bool) : List Int := if a = true then coverR r else firstsR r
theorem firsts_asc {r : Tb} (g : Good r) : (firstsR r).Pairwise (· < ·) := g.asc.sublist List.filter_sublist
theorem firsts_at {r : Tb} (G : Rc.Gr (keysT r) (wtT r)) {i : Nat} {p : List Int} (e : (ringsR r)[i]? = some p) : ∃ k, (firstsR r)[i]? = some k ∧ p[0]? = some k := by
  have h := Rc.ring_firsts G
  have h1 : ((ringsR r).map fun p => p[0]?)[i]? = ((firstsR r).map some)[i]? := by
    unfold ringsR firstsR
    rw [h]
  rw [List.getElem?_map, List.getElem?_map, e] at h1
  cases z : (firstsR r)[i]? with
  | none => rw [z] at h1; cases h1
  | some k =>
    rw [z] at h1
    exact ⟨k, rfl, Option.some.inj h1⟩
theorem firsts_len {r : Tb} (G : Rc.Gr (keysT r) (wtT r)) : (ringsR r).length = (firstsR r).length := by
  have h := congrArg List.length (Rc.ring_firsts G)
  rwa [List.length_map, List.length_map] at h
def spPark (K : PySem.W.Frag) : Sp := fun vs H Q _ => ∃ (p : Addr) (r : Tb) (a : Bool), vs = [.ref p, .bl a] ∧ TabAt K H p r ∧ Inj r ∧ ∀ H' t, Same H H' → H t = none → SqT K H' t ((parkR r a).map V.int) → Q (.ref t) H'
theorem sc_fewest_parked : FnScope ["table", "always", "ring"] ["table", "always"] (defScope s_fewest_parked) := ⟨rfl, rfl, rfl, by decide +kernel, rfl, by decide +kernel, by decide +kernel⟩
theorem ok_fewest_parked (T : Txt K mg) : ∃ fd, FnOk P w K mg base CX0 12 (a_fewest_parked K) fd ["table", "always"] (spPark K) ∧ KBinds K fd ["table", "always"] ["always"] kg1 kg1 := by
  obtain ⟨fd, F⟩ := T.f_fewest_parked
  have nd := sc_fewest_parked.nd
  refine ⟨fd, F.ok sc_fewest_parked (fun vs H Q E h => ?_) (fun cdv A outer s H vs Q E hr h => ?_), ?_⟩
  · obtain ⟨p, r, a, rfl, _⟩ := h
    rfl
  · obtain ⟨p, r, a, rfl, ht, inj, q⟩ := h
    have G := gr_of ht.1 inj
    refine ⟨_, (pss_cons (ps_expr (pe_cl (ok_need_table T) (by exact hr.mono (by decide)) (by rfl) T.g_need_table (T.f_need_table.elim fun _ F => F.kp) pass0 (pa_cons (pv 0) pa_nil))) (pss_cons (ps_expr (pe_cl (ok_need_no_pair T) (by exact hr.mono (by decide)) (by rfl) T.g_need_no_pair (T.f_need_no_pair.elim fun _ F => F.kp) pass0 (pa_cons (pv 0) pa_nil))) (pss_cons (ps_if (pt_val (pv 1)) (pss_one (ps_ret (pe_cl (ok_first_cover T) (by exact hr.mono (by decide)) (by rfl) T.g_first_cover (T.f_first_cover.elim fun _ F => F.kp) pass0 (pa_cons (pv 0) pa_nil)))) pss_nil) (pss_one (ps_ret (pe_callTy call_tuple_of (by rfl) T.n_tuple (by decide +kernel) (pa_cons (pe_callB (cr_sortD hr.units) (by rfl) T.n_sorted (by decide +kernel) (pa_cons (pe_lc (own := [("ring", 2)]) (g := (gName 2)) rfl nd (pi_list (pe_cl (ok_rings_of T) (by exact hr.mono (by decide)) (by rfl) T.g_rings_of (T.f_rings_of.elim fun _ F => F.kp) pass0 (pa_cons (pv 0) pa_nil))) (blkOk_by (own := [("ring", 2)]) (N := ["table", "always", "ring"]) (sc := defScope s_fewest_parked) (by decide +kernel)) (fun _ _ _ _ _ => (pg_name (i := 2) nd rfl (.inl rfl) (.inr rfl))) (fun _ _ _ _ _ => pts_nil) (fun _ _ _ _ _ => (pe_ix (ix_tupK (K := K) rfl) (pv 2) pe_int (fun _ _ => rfl)))) pa_nil)) pa_nil))))))), ?_⟩
    obtain ⟨dx, fs, hi⟩ := ht.ins
    refine ⟨_, rfl, p, dx, fs, rfl, hi, ?_⟩
    refine ⟨_, rfl, p, r, rfl, ht, inj, fun H1 s1 => ?_⟩
    refine ⟨_, rfl, a, rfl, ?_⟩
    cases a with
    | true => exact iteT ⟨_, rfl, p, r, rfl, ht.same s1, inj, fun H2 t s2 ht2 e2 => q H2 t (s1.trans s2) (s1.free ht2) e2⟩
    | false =>
      refine iteF ⟨_, rfl, p, r, rfl, ht.same s1, inj, fun H2 l xs s2 _ e2 hd => ⟨l, rfl, ⟨_, SqL.of e2⟩, fun D hD => ?_⟩⟩
      have hxs : xs.length = (ringsR r).length := by
        have := dpAll_len hd
        rwa [List.length_map] at this
      have hsz := rings_sz ht.1
      have hd0 : DpAll K H2 xs ((ringsR r).map tI) := DpAll.same hid_same _ _ hd
      refine lc_go (walk_list (xs := xs)) (fun i acc H => acc = ((firstsR r).take i).map V.int) (by omega) hD (fun H s => SqL.of (s _ _ e2)) rfl ?_ ?_
      · rintro i x H0 H3 acc hi L ⟨rfl, ex⟩
        have s3 := L.same.trans hid_same
        obtain ⟨rg, e3, hdp⟩ := dp_nth (DpAll.same s3 _ _ hd0) ex
        obtain ⟨a, rfl, ha⟩ := tI_dp hdp
        obtain ⟨k, ek, ek2⟩ := firsts_at G e3
        refine ⟨rfl, yes ⟨_, rfl, a, _, 0, _, rfl, rfl, ha, atI_nat (j := 0) (v := V.int k) (by rw [List.getElem?_map, ek2]; rfl), L.snoc (by omega) (Same.refl _) ?_⟩⟩
        show acc ++ [V.int k] = _
        rw [take_map ek, ← show acc = _ from L.f]
      · intro H3 acc s3 e3 f _
        have f : acc = ((firstsR r).take xs.length).map V.int := f
        rw [hxs, firsts_len G, List.take_length] at f
        refine ⟨D, acc, (firstsR r).map .int, rfl, .inl (SqL.of e3), by rw [f]; exact dpAll_ints _, ?_⟩
        refine sortGo_int (by rw [← firsts_len G]; omega) fun l4 S hl4 pm pw => ?_
        have hS : S = firstsR r := int_eq pm pw ((firsts_asc ht.1).imp fun {a b} h => by omega)
        refine ⟨l4, _, rfl, .inl ⟨SqL.of upd_same, fun t ht5 => ?_⟩⟩
        have s5 := (same_up (o := .lst (S.map V.int)) hl4).trans (same_up (o := .tup (S.map V.int)) ht5)
        have s6 := ((s1.trans s2).trans s3)
        refine q _ t (s6.trans s5) ((s6.trans (same_up hl4)).free ht5) ?_
        rw [hS]
        exact SqT.of upd_same
  · obtain ⟨oc, od, kV, doc, pm, an, cdv, ct, osl, rfl, lk, hcd⟩ := F.ex
    refine ⟨fun s us ws _ hl => ?_, vals_kg1⟩
    obtain ⟨a, c, rfl, rfl⟩ := kg1_len hl
    exact BindsTo.of_eq rfl
theorem pairs_len : ∀ ns : List Int, (Rc.pairsAlong ns).length = ns.length / 2
  | [] => rfl
  | [_] => by simp [Rc.pairsAlong]
  | a :: b :: l => by
    show (Rc.pairsAlong l).length + 1 = (l.length + 1 + 1) / 2
    rw [pairs_len l]
    omega
theorem pairs_get : ∀ (ns : List Int) (i : Nat), i < ns.length / 2 → ∃ x y, ns[2 * i]? = some x ∧ ns[2 * i + 1]? = some y ∧ (Rc.pairsAlong ns)[i]? = some [x, y]
  | [], i, h => by simp at h
  | [_], i, h => by simp at h
  | a :: b :: l, 0, _ => ⟨a, b, rfl, rfl, rfl⟩
  | a :: b :: l, i + 1, h => by
    obtain ⟨x, y, h1, h2, h3⟩ := pairs_get l i (by simp at h; omega)
    refine ⟨x, y, ?_, ?_, ?_⟩
    · rw [show 2 * (i + 1) = 2 * i + 1 + 1 by omega]
      exact h1
    · rw [show 2 * (i + 1) + 1 = (2 * i + 1) + 1 + 1 by omega]
      exact h2
    · exact h3
theorem rg_pairs : ∀ n : Fin 41, Builtin.Range.small 0 ((n.val : Int) - 1) 2 = true ∧ Builtin.Range.rangeSize 0 ((n.val : Int) - 1) 2 = n.val / 2 := by decide +kernel
theorem ix_seqK {X : Cx} {K : PySem.W.Frag} (hK : X.K = K) : IxR X (rIx K) := by
  subst hK
  exact ix_seq
theorem rIx_go {K : PySem.W.Frag} {H : Hp} {a : Addr} {ns : List Int} {j : Nat} {x z : Int} {Q : VK} (h : SqL K H a (ns.map V.int) ∨ SqT K H a (ns.map V.int)) (ez : z = (j : Nat)) (e : ns[j]? = some x) (q : Q (.int x) H) : rIx K (.ref a) (.int z) H Q := by
  subst ez
  have e2 : (ns.map V.int)[j]? = some (V.int x) := by
    rw [List.getElem?_map, e]
    rfl
  rcases h with h | h
  · exact .inl ⟨a, _, _, _, rfl, rfl, h, atI_nat e2, q⟩
  · exact .inr (.inl ⟨a, _, _, _, rfl, rfl, h, atI_nat e2, q⟩)
def spPairs (K : PySem.W.Frag) : Sp := fun vs H Q _ => ∃ (a : Addr) (ns : List Int), vs = [.ref a] ∧ (SqL K H a (ns.map V.int) ∨ SqT K H a (ns.map V.int)) ∧ ns.length ≤ 40 ∧
  ∀ H' l xs, Same H H' → H l = none → H' l = some (.lst xs) → DpAll K (hid H' l) xs ((Rc.pairsAlong ns).map tI) → Q (.ref l) H'
theorem sc_pairs_along : FnScope ["rows", "at"] ["rows"] (defScope s_pairs_along) := ⟨rfl, rfl, rfl, by decide +kernel, rfl, by decide +kernel, by decide +kernel⟩
theorem ok_pairs_along (T : Txt K mg) : FnR P w K mg base CX0 1 (a_pairs_along K) (spPairs K) := by
  have nd := sc_pairs_along.nd
  refine okR T.f_pairs_along sc_pairs_along (fun _ _ _ _ _ _ us hl => match us, hl with | [_], _ => rfl) (fun vs H Q E h => ?_) (fun cdv A outer s H vs Q E hr h => ?_)
  · obtain ⟨a, ns, rfl, _⟩ := h
    rfl
  · obtain ⟨a, ns, rfl, ha, hl, q⟩ := h
    refine ⟨_, (pss_one (ps_ret (pe_lc (own := [("at", 1)]) (g := (gName 1)) rfl nd (pi_range3 (by rfl) T.n_range (pa_cons pe_int (pa_cons (pe_op op_sub (pe_callB call_len_seq (by rfl) T.n_len (by decide +kernel) (pa_cons (pv 0) pa_nil)) pe_int) (pa_cons pe_int pa_nil)))) (blkOk_by (own := [("at", 1)]) (N := ["rows", "at"]) (sc := defScope s_pairs_along) (by decide +kernel)) (fun _ _ _ _ _ => (pg_name (i := 1) nd rfl (.inl rfl) (.inr rfl))) (fun _ _ _ _ _ => pts_nil) (fun _ _ _ _ _ => (pe_tup (pa_cons (pe_ix (ix_seqK (K := K) rfl) (pv 0) (pv 1) (fun _ _ => rfl)) (pa_cons (pe_ix (ix_seqK (K := K) rfl) (pv 0) (pe_op op_add (pv 1) pe_int) (fun _ _ => rfl)) pa_nil))))))), ?_⟩
    obtain ⟨r1, r2⟩ := rg_pairs ⟨ns.length, by omega⟩
    refine ⟨_, rfl, a, _, rfl, ha, _, _, rfl, rfl, ?_⟩
    refine ⟨0, _, 2, ns.length / 2, rfl, ⟨by decide, by decide, by rw [memI]; exact r1, by rw [memI]; exact r2⟩, fun D hD => ?_⟩
    have hs : ∀ {H'}, Same H H' → (SqL K H' a (ns.map V.int) ∨ SqT K H' a (ns.map V.int)) := fun s => ha.imp (fun h => s.seq h) (fun h => Same.tup s h)
    refine lc_go walk_rangeC (fun i acc H => DpAll K H acc (((Rc.pairsAlong ns).take i).map tI)) (by omega) hD (fun H s => True.intro) .nil ?_ ?_
    · rintro i x H0 H2 acc hi L ⟨rfl, rfl⟩
      have s2 := L.same.trans hid_same
      obtain ⟨x, y, e1, e2, e3⟩ := pairs_get ns i hi
      have ei : (0 : Int) + (i : Nat) * 2 = ((2 * i : Nat) : Int) := by omega
      have ei2 : (0 : Int) + (i : Nat) * 2 + 1 = ((2 * i + 1 : Nat) : Int) := by omega
      refine ⟨rfl, yes ⟨_, rfl, _, rfl, ?_⟩⟩
      refine rIx_go (hs s2) ei e1 ⟨_, rfl, _, rfl, _, _, rfl, rfl, ?_⟩
      refine rIx_go (hs s2) ei2 e2 ⟨(show 2 ≤ sizeLine by decide), fun t ht => ?_⟩
      have htD : t ≠ D := fun e => by rw [e, L.at_] at ht; cases ht
      refine L.snoc (by omega) (same_up ht) ?_
      show DpAll K _ (acc ++ [V.ref t]) (((Rc.pairsAlong ns).take (i + 1)).map tI)
      rw [take_map e3]
      refine dpAll_snoc (DpAll.same (hid_mono (same_up ht)) _ _ L.f) (dp_tI (ns := [x, y]) (SqT.of ?_))
      rw [hid_ne htD]
      exact upd_same
    · intro H' acc s e f _
      have f : DpAll K (hid H' D) acc (((Rc.pairsAlong ns).take (ns.length / 2)).map tI) := f
      rw [← pairs_len, List.take_length] at f
      exact q H' D acc s hD e f
end
end Rw

-- D15
set_option Elab.async false
set_option linter.all false
set_option maxRecDepth 100000
set_option maxHeartbeats 4000000
/-! needs. -/
namespace Rw
open PySem PySem.Spec PyProof.Rows L2
section
variable {P : Program} {w : World} {K : PySem.W.Frag} {mg : Str → Option Value} {base : Heap}

theorem dpAll_app {H : Hp} {vs ws : List V} {ds es : List PyData} (h1 : DpAll K H vs ds) (h2 : DpAll K H ws es) : DpAll K H (vs ++ ws) (ds ++ es) := by
  induction vs generalizing ds with
  | nil => cases h1; exact h2
  | cons v vs ih => cases h1 with | cons x y => exact .cons x (ih y)
theorem small3 {n : Nat} (h : n ≤ 9000) : n < sizeLine := by
  rw [sizeLine_eq]
  omega
theorem path_sz {r : Tb} (g : Good r) (inj : Inj r) {k : Int} (hk : k ∈ keysT r) : (Rc.path (keysT r) (wtT r) k).length ≤ 40 :=
  Nat.le_trans (Rc.nodup_length_le (Rc.path_is (gr_of g inj) hk).nd (Rc.path_sub (gr_of g inj) hk)) (keys_sz g)
theorem line_sz {r : Tb} (g : Good r) (inj : Inj r) {p : List Int} (h : p ∈ linesR r) : p.length ≤ 40 ∧ p ≠ [] := by
  obtain ⟨k, hk, rfl⟩ := List.mem_map.mp h
  have hk := (List.mem_filter.mp hk).1
  refine ⟨path_sz g inj hk, fun e => ?_⟩
  have := (Rc.path_is (gr_of g inj) hk).hd
  rw [e] at this
  cases this
theorem ring_sz {r : Tb} (g : Good r) (inj : Inj r) {p : List Int} (h : p ∈ ringsR r) : p.length ≤ 40 ∧ p ≠ [] := by
  obtain ⟨k, hk, rfl⟩ := List.mem_map.mp h
  have hk := (List.mem_filter.mp hk).1
  refine ⟨path_sz g inj hk, fun e => ?_⟩
  have := (Rc.path_is (gr_of g inj) hk).hd
  rw [e] at this
  cases this
theorem flat_le (h : List Int → List (List Int)) (c : Nat) : ∀ (L : List (List Int)), (∀ p ∈ L, (h p).length ≤ c) → (L.map h).flatten.length ≤ L.length * c
  | [], _ => by simp
  | p :: L, hh => by
    have h1 := flat_le h c L fun q hq => hh q (List.mem_cons_of_mem _ hq)
    have h2 := hh p (by simp)
    rw [List.map_cons, List.flatten_cons, List.length_append, List.length_cons, Nat.add_mul]
    omega
theorem len_flat : ∀ (L : List (List Int)), (∀ p ∈ L, p ≠ []) → L.length ≤ L.flatten.length
  | [], _ => by simp
  | p :: L, hh => by
    have h1 := len_flat L fun q hq => hh q (List.mem_cons_of_mem _ hq)
    have h2 := hh p (by simp)
    have : 0 < p.length := List.length_pos_iff.mpr h2
    rw [List.flatten_cons, List.length_append, List.length_cons]
    omega
def piecesR (r : Tb) : List (List Int) := Rc.pieces (keysT r) (wtT r)
theorem pieces_in {r : Tb} (g : Good r) (inj : Inj r) : ∀ x ∈ (piecesR r).flatten, x ∈ keysT r := by
  intro x hx
  have G := gr_of g inj
  have hs : ((piecesR r).flatten).Sublist ((linesR r).flatten ++ (ringsR r).flatten) := by
    unfold piecesR Rc.pieces
    rw [List.flatten_append]
    exact (Rc.flat_map_sub _ Rc.pairsAlong_flat _).append (Rc.flat_map_sub _ Rc.ringPieces_flat _)
  have hx := hs.subset hx
  rcases List.mem_append.mp hx with h | h
  · obtain ⟨p, hp, hx⟩ := List.mem_flatten.mp h
    obtain ⟨k, hk, rfl⟩ := List.mem_map.mp hp
    exact Rc.path_sub G (List.mem_filter.mp hk).1 x hx
  · obtain ⟨p, hp, hx⟩ := List.mem_flatten.mp h
    obtain ⟨k, hk, rfl⟩ := List.mem_map.mp hp
    exact Rc.path_sub G (List.mem_filter.mp hk).1 x hx
theorem pieces_sz {r : Tb} (g : Good r) (inj : Inj r) : (piecesR r).length ≤ 40 := by
  have G := gr_of g inj
  refine Nat.le_trans (len_flat _ (Rc.pieces_ne G)) (Nat.le_trans (Rc.nodup_length_le (Rc.pieces_nodup G) (pieces_in g inj)) (keys_sz g))
/-- lists that are not empty stand apart from an empty one -/
theorem hid_lI {H : Hp} {D : Addr} (e : H D = some (.lst [])) : ∀ {L : List (List Int)} {xs : List V}, (∀ p ∈ L, p ≠ []) → DpAll K H xs (L.map lI) → DpAll K (hid H D) xs (L.map lI)
  | [], _, _, h => by cases h; exact .nil
  | p :: L, _, hn, h => by
    cases h with
    | cons a b =>
      refine .cons ?_ (hid_lI e (fun q hq => hn q (List.mem_cons_of_mem _ hq)) b)
      obtain ⟨c, rfl, hc⟩ := lI_dp a
      refine dp_lI ?_
      rcases hc with (h | ⟨o, h⟩) | h
      · have : c ≠ D := fun z => by
          rw [z, e] at h
          have : ([] : List V) = p.map V.int := by injection (Option.some.inj h)
          have := List.map_eq_nil_iff.mp this.symm
          exact hn p (by simp) this
        exact .inl (.inl (by rw [hid_ne this]; exact h))
      · have : c ≠ D := fun z => by rw [z, e] at h; cases h
        exact .inl (.inr ⟨o, by rw [hid_ne this]; exact h⟩)
      · exact .inr h
/-- a list that grows by pieces -/
def Grow (K : PySem.W.Frag) (D : Addr) (H2 : Hp) (L : List (List Int)) (H : Hp) : Prop := Same (hid H2 D) (hid H D) ∧ ∃ acc, H D = some (.lst acc) ∧ DpAll K (hid H D) acc (L.map tI)
theorem Grow.ext {D : Addr} {H2 H H5 : Hp} {L M : List (List Int)} (h : Grow K D H2 L H) (hl : L.length + M.length ≤ 9000) (s : Same H H5) {l5 : Addr} {zs : List V} (e5 : H5 l5 = some (.lst zs)) (hd : DpAll K (hid H5 l5) zs (M.map tI)) :
    ∃ acc, H5 D = some (.lst acc) ∧ acc.length + zs.length ≤ sizeLine ∧ Grow K D H2 (L ++ M) (upd H5 D (.lst (acc ++ zs))) := by
  obtain ⟨s2, acc, e, f⟩ := h
  have hz := dpAll_len hd
  have ha := dpAll_len f
  rw [List.length_map] at hz ha
  refine ⟨acc, s _ _ e, Nat.le_of_lt (small3 (by omega)), ?_, acc ++ zs, upd_same, ?_⟩
  · rw [hid_upd]
    exact s2.trans (hid_mono s)
  · rw [hid_upd, List.map_append]
    exact dpAll_app (DpAll.same (hid_mono s) _ _ f) (DpAll.hid (notL_lst (s _ _ e)) _ _ (noLs_tI _) (DpAll.same hid_same _ _ hd))
theorem Grow.snoc {D : Addr} {H2 H : Hp} {L : List (List Int)} (h : Grow K D H2 L H) (hl : L.length ≤ 8000) {a : Addr} {p : List Int} (hd : SqT K H a (p.map V.int)) :
    ∃ acc, H D = some (.lst acc) ∧ acc.length < sizeLine ∧ Grow K D H2 (L ++ [p]) (upd H D (.lst (acc ++ [V.ref a]))) := by
  obtain ⟨s2, acc, e, f⟩ := h
  have ha := dpAll_len f
  rw [List.length_map] at ha
  refine ⟨acc, e, small3 (by omega), ?_, acc ++ [V.ref a], upd_same, ?_⟩
  · rw [hid_upd]
    exact s2
  · rw [hid_upd, List.map_append]
    exact dpAll_snoc f (dp_tI (hid_tup (notL_lst e) hd))
theorem flat_take {h : List Int → List (List Int)} {L : List (List Int)} {i : Nat} {p : List Int} (e : L[i]? = some p) : ((L.take (i + 1)).map h).flatten = ((L.take i).map h).flatten ++ h p := by
  rw [take_map e, List.flatten_append, List.flatten_cons, List.flatten_nil, List.append_nil]
def needsP (r : Tb) (a : Bool) (L : List (List Int)) : Prop := if a = true then L.Perm (piecesR r) ∧ L.Pairwise (· ≤ ·) else L = ringsR r
def spNeeds (K : PySem.W.Frag) : Sp := fun vs H Q _ => ∃ (p : Addr) (r : Tb) (a : Bool), vs = [.ref p, .bl a] ∧ TabAt K H p r ∧ Inj r ∧ ∀ H' t xs L, Same H H' → SqT K H' t xs → DpAll K H' xs (L.map tI) → needsP r a L → Q (.ref t) H'
theorem sc_needs : FnScope ["table", "always", "found", "line", "ring"] ["table", "always"] (defScope s_needs) := ⟨rfl, rfl, rfl, by decide +kernel, rfl, by decide +kernel, by decide +kernel⟩
theorem ok_needs (T : Txt K mg) : ∃ fd, FnOk P w K mg base CX0 12 (a_needs K) fd ["table", "always"] (spNeeds K) ∧ KBinds K fd ["table", "always"] ["always"] kg1 kg1 := by
  obtain ⟨fd, F⟩ := T.f_needs
  have nd := sc_needs.nd
  refine ⟨fd, F.ok sc_needs (fun vs H Q E h => ?_) (fun cdv A outer s H vs Q E hr h => ?_), ?_⟩
  · obtain ⟨p, r, a, rfl, _⟩ := h
    rfl
  · obtain ⟨p, r, a, rfl, ht, inj, q⟩ := h
    have G := gr_of ht.1 inj
    refine ⟨_, (pss_cons (ps_expr (pe_cl (ok_need_table T) (by exact hr.mono (by decide)) (by rfl) T.g_need_table (T.f_need_table.elim fun _ F => F.kp) pass0 (pa_cons (pv 0) pa_nil))) (pss_cons (ps_expr (pe_cl (ok_need_no_pair T) (by exact hr.mono (by decide)) (by rfl) T.g_need_no_pair (T.f_need_no_pair.elim fun _ F => F.kp) pass0 (pa_cons (pv 0) pa_nil))) (pss_cons (ps_if (pt_not (pt_val (pv 1))) (pss_one (ps_ret (pe_callTy call_tuple_of (by rfl) T.n_tuple (by decide +kernel) (pa_cons (pe_cl (ok_rings_of T) (by exact hr.mono (by decide)) (by rfl) T.g_rings_of (T.f_rings_of.elim fun _ F => F.kp) pass0 (pa_cons (pv 0) pa_nil)) pa_nil)))) pss_nil) (pss_cons (ps_set (i := 2) nd rfl (.inl rfl) (pe_lst pa_nil)) (pss_cons (ps_for PassesOwn.never rfl (pi_list (pe_cl (ok_lines_of T) (by exact hr.mono (by decide)) (by rfl) T.g_lines_of (T.f_lines_of.elim fun _ F => F.kp) pass0 (pa_cons (pv 0) pa_nil))) (pg_name (i := 3) nd rfl (.inl rfl)) (pss_one (ps_expr (pe_bm PySem.F.plainAttrs_list PySem.F.slot_list_extend PySem.F.type_list_extend mt_extend (pv 2) (pa_cons (pe_cl (ok_pairs_along T) (by exact hr.mono (by decide)) (by rfl) T.g_pairs_along (T.f_pairs_along.elim fun _ F => F.kp) pass0 (pa_cons (pv 3) pa_nil)) pa_nil))))) (pss_cons (ps_for PassesOwn.never rfl (pi_list (pe_cl (ok_rings_of T) (by exact hr.mono (by decide)) (by rfl) T.g_rings_of (T.f_rings_of.elim fun _ F => F.kp) pass0 (pa_cons (pv 0) pa_nil))) (pg_name (i := 4) nd rfl (.inl rfl)) (pss_one (ps_if (pt_cmpR op_eq (pe_op op_mod (pe_callB call_len_seq (by rfl) T.n_len (by decide +kernel) (pa_cons (pv 4) pa_nil)) pe_int) pe_int (nomark _)) (pss_one (ps_expr (pe_bm PySem.F.plainAttrs_list PySem.F.slot_list_append PySem.F.type_list_append mt_append (pv 2) (pa_cons (pv 4) pa_nil)))) (pss_one (ps_expr (pe_bm PySem.F.plainAttrs_list PySem.F.slot_list_extend PySem.F.type_list_extend mt_extend (pv 2) (pa_cons (pe_cl (ok_pairs_along T) (by exact hr.mono (by decide)) (by rfl) T.g_pairs_along (T.f_pairs_along.elim fun _ F => F.kp) pass0 (pa_cons (pv 4) pa_nil)) pa_nil))))))) (pss_one (ps_ret (pe_callTy call_tuple_of (by rfl) T.n_tuple (by decide +kernel) (pa_cons (pe_callB (cr_sortD hr.units) (by rfl) T.n_sorted (by decide +kernel) (pa_cons (pv 2) pa_nil)) pa_nil)))))))))), ?_⟩
    obtain ⟨dx, fs, hi⟩ := ht.ins
    refine ⟨_, rfl, p, dx, fs, rfl, hi, ?_⟩
    refine ⟨_, rfl, p, r, rfl, ht, inj, fun H1 s1 => ?_⟩
    refine ⟨_, rfl, a, rfl, ?_⟩
    cases a with
    | false =>
      refine iteT ⟨_, rfl, p, r, rfl, ht.same s1, inj, fun H2 l xs s2 hl2 e2 hd => ?_⟩
      refine ⟨l, xs, rfl, .inl ⟨SqL.of e2, fun t ht2 => ?_⟩⟩
      exact q _ t xs (ringsR r) ((s1.trans s2).trans (same_up ht2)) (SqT.of upd_same) (DpAll.same (hid_same.trans (same_up ht2)) _ _ hd) rfl
    | true =>
      refine iteF ⟨Nat.zero_le _, fun D hD => ?_⟩
      have s2 : Same H (upd H1 D (.lst [])) := s1.trans (same_up hD)
      refine ⟨_, rfl, p, r, rfl, ht.same s2, inj, fun H2 l xs s3 hl2 e2 hd => ⟨l, rfl, ⟨_, SqL.of e2⟩, ?_⟩⟩
      have eD : H2 D = some (.lst []) := s3 _ _ upd_same
      have hlD : l ≠ D := fun e => by rw [e, upd_same] at hl2; cases hl2
      have sB : Same H (hid H2 D) := s1.trans (hid_of hD s3)
      have el : hid H2 D l = some (.lst xs) := by rw [hid_ne hlD]; exact e2
      have hxs : xs.length = (linesR r).length := by
        have := dpAll_len hd
        rwa [List.length_map] at this
      have hd0 : DpAll K (hid H2 D) xs ((linesR r).map lI) := hid_lI eD (fun p hp => (line_sz ht.1 inj hp).2) (DpAll.same hid_same _ _ hd)
      have hL : ∀ i, (((linesR r).take i).map Rc.pairsAlong).flatten.length ≤ 800 := fun i => by
        have h1 := flat_le Rc.pairsAlong 20 ((linesR r).take i) fun p hp => by
          rw [pairs_len]
          have := (line_sz ht.1 inj (List.mem_of_mem_take hp)).1
          omega
        have h2 := lines_sz ht.1
        have h3 := List.length_take_le i (linesR r)
        have h4 : ((linesR r).take i).length * 20 ≤ 40 * 20 := Nat.mul_le_mul_right 20 (by rw [List.length_take]; omega)
        omega
      refine for_it (walk_list (xs := xs)) (fun i σ H => (∃ y3 y4, σ = [some (.ref p), some (.bl true), some (.ref D), y3, y4]) ∧ Grow K D H2 (((linesR r).take i).map Rc.pairsAlong).flatten H) ⟨⟨_, _, rfl⟩, Same.refl _, [], eD, .nil⟩ (fun i σ H _ ⟨_, g⟩ => SqL.of (g.1.trans hid_same _ _ el)) ?_ ?_
      · rintro i x σ H0 H3 hi' ⟨⟨y3, y4, rfl⟩, g⟩ ⟨rfl, ex⟩
        have s4 := g.1.trans hid_same
        obtain ⟨ln, e3, hdp⟩ := dp_nth (DpAll.same s4 _ _ hd0) ex
        obtain ⟨b, rfl, hb⟩ := lI_dp hdp
        obtain ⟨_, acc0, eacc, _⟩ := id g
        refine ⟨_, rfl, .inl ⟨rfl, _, SqL.of eacc⟩, ?_⟩
        refine ⟨_, rfl, b, ln, rfl, .inl hb, (line_sz ht.1 inj (List.mem_of_getElem? e3)).1, fun H5 l5 zs s5 hl5 e5 hd5 => ?_⟩
        have hM : (Rc.pairsAlong ln).length ≤ 40 := by
          rw [pairs_len]
          have := (line_sz ht.1 inj (List.mem_of_getElem? e3)).1
          omega
        obtain ⟨acc, e6, hz6, g6⟩ := g.ext (by have := hL i; omega) s5 e5 hd5
        refine ⟨D, l5, acc, zs, rfl, rfl, e6, e5, hz6, ⟨_, _, rfl⟩, ?_⟩
        rw [flat_take e3]
        exact g6
      · rintro σ H3 ⟨⟨y3, y4, rfl⟩, g⟩
        rw [hxs, List.take_length] at g
        have hL1 := hL (linesR r).length
        rw [List.take_length] at hL1
        have s4 : Same H H3 := (sB.trans g.1).trans hid_same
        obtain ⟨gs, acc3, ea3, fa3⟩ := id g
        refine ⟨_, rfl, p, r, rfl, ht.same s4, inj, fun H4 l4 ys s5 hl4 e4 hd4 => ⟨l4, rfl, ⟨_, SqL.of e4⟩, ?_⟩⟩
        have hl4D : l4 ≠ D := fun e => by rw [e, ea3] at hl4; cases hl4
        have eD4 := s5 _ _ ea3
        have el4 : hid H4 D l4 = some (.lst ys) := by rw [hid_ne hl4D]; exact e4
        have hys : ys.length = (ringsR r).length := by
          have := dpAll_len hd4
          rwa [List.length_map] at this
        have hd40 : DpAll K (hid H4 D) ys ((ringsR r).map tI) := DpAll.hid (notL_lst eD4) _ _ (noLs_tI _) (DpAll.same hid_same _ _ hd4)
        have hRp : ∀ p ∈ ringsR r, (Rc.ringPieces p).length ≤ 40 := fun p hp => by
          have := (ring_sz ht.1 inj hp).1
          unfold Rc.ringPieces
          split
          · simp
          · rw [pairs_len]
            omega
        have hR : ∀ i, (((ringsR r).take i).map Rc.ringPieces).flatten.length ≤ 1600 := fun i => by
          have h1 := flat_le Rc.ringPieces 40 ((ringsR r).take i) fun p hp => hRp p (List.mem_of_mem_take hp)
          have h2 := rings_sz ht.1
          have h4 : ((ringsR r).take i).length * 40 ≤ 40 * 40 := Nat.mul_le_mul_right 40 (by rw [List.length_take]; omega)
          omega
        refine for_it (walk_list (xs := ys)) (fun i σ H => (∃ y3 y4, σ = [some (.ref p), some (.bl true), some (.ref D), y3, y4]) ∧ Grow K D H4 (((linesR r).map Rc.pairsAlong).flatten ++ (((ringsR r).take i).map Rc.ringPieces).flatten) H) ⟨⟨_, _, rfl⟩, Same.refl _, acc3, eD4, ?_⟩ (fun i σ H _ ⟨_, g⟩ => SqL.of (g.1.trans hid_same _ _ el4)) ?_ ?_
        · rw [List.take_zero, List.map_nil, List.flatten_nil, List.append_nil]
          exact DpAll.same (hid_mono s5) _ _ fa3
        · rintro i x σ H0 H5 hi' ⟨⟨y3, y4, rfl⟩, g5⟩ ⟨rfl, ex⟩
          have s6 := g5.1.trans hid_same
          obtain ⟨rg, e6, hdp⟩ := dp_nth (DpAll.same s6 _ _ hd40) ex
          obtain ⟨b, rfl, hb⟩ := tI_dp hdp
          have hrg := ring_sz ht.1 inj (List.mem_of_getElem? e6)
          obtain ⟨_, acc5, eacc, _⟩ := id g5
          refine ⟨_, rfl, b, _, rfl, .inr hb, _, _, rfl, rfl, (by decide : (0 : Int) < 2), rfl, _, rfl, ?_⟩
          have hlen : (((ringsR r).take (i + 1)).map Rc.ringPieces).flatten = (((ringsR r).take i).map Rc.ringPieces).flatten ++ Rc.ringPieces rg := flat_take e6
          refine ite2 (fun z => ?_) (fun z => ?_)
          · rw [dInt] at z
            have z := of_decide_eq_true z
            rw [memI] at z
            have hp1 : Rc.ringPieces rg = [rg] := by
              unfold Rc.ringPieces
              rw [if_pos (by omega)]
            obtain ⟨acc, e7, hz7, g7⟩ := g5.snoc (by rw [List.length_append]; have := hR i; omega) hb
            refine ⟨_, rfl, .inl ⟨rfl, _, SqL.of e7⟩, _, rfl, D, acc, _, rfl, rfl, e7, hz7, ⟨_, _, rfl⟩, ?_⟩
            rw [hlen, hp1, ← List.append_assoc]
            exact g7
          · rw [dInt] at z
            have z := of_decide_eq_false z
            rw [memI] at z
            have hp1 : Rc.ringPieces rg = Rc.pairsAlong rg := by
              unfold Rc.ringPieces
              rw [if_neg (by omega)]
            refine ⟨_, rfl, .inl ⟨rfl, _, SqL.of eacc⟩, ?_⟩
            refine ⟨_, rfl, b, rg, rfl, .inr hb, hrg.1, fun H7 l7 zs s7 hl7 e7 hd7 => ?_⟩
            have hM : (Rc.pairsAlong rg).length ≤ 40 := by
              rw [pairs_len]
              omega
            obtain ⟨acc, e8, hz8, g8⟩ := g5.ext (by rw [List.length_append]; have := hR i; omega) s7 e7 hd7
            refine ⟨D, l7, acc, zs, rfl, rfl, e8, e7, hz8, ⟨_, _, rfl⟩, ?_⟩
            rw [hlen, hp1, ← List.append_assoc]
            exact g8
        · rintro σ H5 ⟨⟨y3, y4, rfl⟩, g5⟩
          rw [hys, List.take_length] at g5
          obtain ⟨gs5, acc5, ea5, fa5⟩ := g5
          have fa5 : DpAll K (hid H5 D) acc5 ((piecesR r).map tI) := fa5
          have s7 : Same H H5 := (((sB.trans g.1).trans (hid_mono s5)).trans gs5).trans hid_same
          refine ⟨_, rfl, D, acc5, (piecesR r).map tI, rfl, .inl (SqL.of ea5), DpAll.same hid_same _ _ fa5, ?_⟩
          refine sortGo_tI (by have := pieces_sz ht.1 inj; omega) (Rc.pieces_ne G) fun l6 ws L hl6 hw pm pw => ?_
          refine ⟨l6, ws, rfl, .inl ⟨SqL.of upd_same, fun t ht7 => ?_⟩⟩
          have s8 := (same_up (o := .lst ws) hl6).trans (same_up (o := .tup ws) ht7)
          exact q _ t ws L (s7.trans s8) (SqT.of upd_same) (DpAll.same s8 _ _ hw) ⟨pm, pw⟩
  · obtain ⟨oc, od, kV, doc, pm, an, cdv, ct, osl, rfl, lk, hcd⟩ := F.ex
    refine ⟨fun s us ws _ hl => ?_, vals_kg1⟩
    obtain ⟨a, c, rfl, rfl⟩ := kg1_len hl
    exact BindsTo.of_eq rfl
end
end Rw

-- D16
set_option Elab.async false
set_option linter.all false
set_option maxRecDepth 100000
set_option maxHeartbeats 4000000
/-! is_wait, is_piece. -/
namespace Rw
open PySem PySem.Spec PyProof.Rows L2
section
variable {P : Program} {w : World} {K : PySem.W.Frag} {mg : Str → Option Value} {base : Heap}

def isW (r : Tb) : List Int → Bool
  | [a, b] => wtT r a == some b
  | _ => false
theorem isW_ne {r : Tb} {ks : List Int} (h : ks.length ≠ 2) : isW r ks = false := by
  match ks, h with
  | [], _ => rfl
  | [_], _ => rfl
  | [_, _], h => exact absurd rfl h
  | _ :: _ :: _ :: _, _ => rfl
def spIsWait (K : PySem.W.Frag) : Sp := fun vs H Q _ => ∃ (p t : Addr) (r : Tb) (ks : List Int), vs = [.ref p, .ref t] ∧ TabAt K H p r ∧ SqT K H t (ks.map V.int) ∧ (∀ k ∈ ks, k ∈ keysT r) ∧ ks.length ≤ 40 ∧ ∀ H', Same H H' → Q (.bl (isW r ks)) H'
theorem sc_is_wait : FnScope ["table", "thing", "key"] ["table", "thing"] (defScope s_is_wait) := ⟨rfl, rfl, rfl, by decide +kernel, rfl, by decide +kernel, by decide +kernel⟩
theorem ok_is_wait (T : Txt K mg) : FnR P w K mg base CX0 8 (a_is_wait K) (spIsWait K) := by
  have nd := sc_is_wait.nd
  refine okR T.f_is_wait sc_is_wait (fun _ _ _ _ _ _ us hl => match us, hl with | [_, _], _ => rfl) (fun vs H Q E h => ?_) (fun cdv A outer s H vs Q E hr h => ?_)
  · obtain ⟨p, t, r, ks, rfl, _⟩ := h
    rfl
  · obtain ⟨p, t, r, ks, rfl, ht, hk, hin, hl, q⟩ := h
    refine ⟨_, (pss_cons (ps_if (pw_or (pt_not (pt_val (pe_callB call_isi (by rfl) T.n_isinstance (by decide +kernel) (pa_cons (pv 1) (pa_cons (pe_bltn (v := .ty "tuple") (by rfl) T.n_tuple (by decide +kernel) rfl) pa_nil))))) (pw_or (pt_cmpR op_ne (pe_callB call_len_seq (by rfl) T.n_len (by decide +kernel) (pa_cons (pv 1) pa_nil)) pe_int (nomark _)) (pw_or1 (pt_not (pt_val (pe_callB (cr_all rfl) (by rfl) T.n_all (by decide +kernel) (pa_cons (pe_lc (own := [("key", 2)]) (g := (gName 2)) rfl nd (pi_tup (pv 1)) (blkOk_by (own := [("key", 2)]) (N := ["table", "thing", "key"]) (sc := defScope s_is_wait) (by decide +kernel)) (fun _ _ _ _ _ => (pg_name (i := 2) nd rfl (.inl rfl) (.inr rfl))) (fun _ _ _ _ _ => pts_nil) (fun _ _ _ _ _ => (pe_cmpR (op_inO T.inO (ok_tIn T) (by exact hr.mono (by decide)) pass0) (pv 2) (pv 0) (by rfl)))) pa_nil))))))).pt (pss_one (ps_ret pe_bl)) pss_nil) (pss_one (ps_ret (pe_cmpR op_eq (pe_cl (ok_waited T) (by exact hr.mono (by decide)) (by rfl) T.g_waited (T.f_waited.elim fun _ F => F.kp) pass0 (pa_cons (pv 0) (pa_cons (pe_ix ix_tup (pv 1) pe_int (fun _ _ => rfl)) pa_nil))) (pe_ix ix_tup (pv 1) pe_int (fun _ _ => rfl)) (nomark _))))), ?_⟩
    obtain ⟨dx, fs, hi⟩ := ht.ins
    refine ⟨_, rfl, .ref t, .ty "tuple", _, _, true, rfl, .ty _, tyX_tup hk, kit_ty (by decide +kernel), true, rfl, iteF ?_⟩
    refine ⟨_, rfl, t, _, rfl, .inr hk, rfl, _, rfl, ?_⟩
    refine ite2 (fun z => ?_) (fun z => ?_)
    · refine iteT ?_
      have z : (!decide (V.int ((ks.map V.int).length : Int) = V.int 2)) = true := z
      rw [dInt, memI] at z
      have h2 : ks.length ≠ 2 := by
        intro e
        rw [e] at z
        simp at z
      have := q H (Same.refl H)
      rw [isW_ne h2] at this
      exact this
    · have z : (!decide (V.int ((ks.map V.int).length : Int) = V.int 2)) = false := z
      rw [dInt, memI] at z
      have h2 : ks.length = 2 := by
        simp at z
        omega
      obtain ⟨a, b, rfl⟩ : ∃ a b, ks = [a, b] := by
        match ks, h2 with
        | [a, b], _ => exact ⟨a, b, rfl⟩
      refine ⟨_, rfl, t, rfl, ⟨_, hk⟩, fun D hD => ?_⟩
      refine lc_go (walk_tup (xs := [a, b].map V.int)) (fun i acc H => acc = List.replicate i (V.bl true)) (show 2 ≤ 900 by decide) hD (fun H s => Same.tup s hk) rfl ?_ ?_
      · rintro i x H0 H2 acc hi' L ⟨rfl, ex⟩
        rw [List.getElem?_map] at ex
        obtain ⟨k, e1, rfl⟩ := Option.map_eq_some_iff.mp ex
        have s2 := L.same.trans hid_same
        have hm := hin k (List.mem_of_getElem? e1)
        refine ⟨rfl, yes ⟨_, rfl, _, rfl, p, dx, fs, rfl, s2 _ _ hi, ⟨p, r, k, rfl, ht.same s2, _, rfl, L.snoc (by have : i < 2 := hi'; omega) (Same.refl _) ?_⟩⟩⟩
        show acc ++ [V.bl (decide (k ∈ keysT r))] = _
        rw [decide_eq_true hm, List.replicate_succ', ← show acc = _ from L.f]
      · intro H' acc s e f _
        rw [show acc = _ from f, rep_bl] at e
        refine ⟨D, _, rfl, SqL.of e, _, rfl, ?_⟩
        rw [all_true]
        refine iteF ?_
        have hk' := Same.tup s hk
        refine ⟨_, rfl, _, rfl, t, _, 0, _, rfl, rfl, hk', atI_nat (j := 0) rfl, p, r, a, rfl, ht.same s, hin a (by simp), ?_⟩
        refine ⟨_, rfl, t, _, 1, _, rfl, rfl, hk', atI_nat (j := 1) rfl, ?_, ?_⟩
        · cases wtT r a <;> rfl
        · have e2 : decide (oV (wtT r a) = V.int b) = isW r [a, b] := by
            show decide (oV (wtT r a) = V.int b) = (wtT r a == some b)
            cases wtT r a with
            | none => rfl
            | some y =>
              by_cases hy : y = b
              · rw [hy]
                simp [oV]
              · simp [oV, hy]
          rw [e2]
          exact q _ s
/-- a piece that shows its need -/
def Piece (r : Tb) (a : Bool) (ks : List Int) : Prop := if a = true then (∃ x y, ks = [x, y] ∧ wtT r x = some y) ∨ (ks ∈ ringsR r ∧ ks.length % 2 = 1) else ks ∈ ringsR r
theorem Piece.sub {r : Tb} (g : Good r) (inj : Inj r) {a : Bool} {ks : List Int} (h : Piece r a ks) : (∀ k ∈ ks, k ∈ keysT r) ∧ ks.length ≤ 40 := by
  have hr : ∀ {ks}, ks ∈ ringsR r → (∀ k ∈ ks, k ∈ keysT r) ∧ ks.length ≤ 40 := fun {ks} h => by
    refine ⟨?_, (ring_sz g inj h).1⟩
    obtain ⟨k, hk, rfl⟩ := List.mem_map.mp h
    exact Rc.path_sub (gr_of g inj) (List.mem_filter.mp hk).1
  unfold Piece at h
  split at h
  · rcases h with ⟨x, y, rfl, e⟩ | ⟨h, _⟩
    · have G := gr_of g inj
      refine ⟨fun k hk => ?_, by simp⟩
      rcases List.mem_cons.mp hk with e1 | hk
      · rw [e1]; exact G.dom e
      · have : k = y := by simpa using hk
        rw [this]; exact G.cod e
    · exact hr h
  · exact hr h
def spIsPiece (K : PySem.W.Frag) : Sp := fun vs H Q _ => ∃ (p t : Addr) (r : Tb) (ks : List Int) (a : Bool), vs = [.ref p, .ref t, .bl a] ∧ TabAt K H p r ∧ Inj r ∧ SqT K H t (ks.map V.int) ∧ Piece r a ks ∧ ∀ H', Same H H' → Q (.bl true) H'
theorem sc_is_piece : FnScope ["table", "thing", "always"] ["table", "thing", "always"] (defScope s_is_piece) := ⟨rfl, rfl, rfl, by decide +kernel, rfl, by decide +kernel, by decide +kernel⟩
theorem ok_is_piece (T : Txt K mg) : FnR P w K mg base CX0 10 (a_is_piece K) (spIsPiece K) := by
  have nd := sc_is_piece.nd
  refine okR T.f_is_piece sc_is_piece (fun _ _ _ _ _ _ us hl => match us, hl with | [_, _, _], _ => rfl) (fun vs H Q E h => ?_) (fun cdv A outer s H vs Q E hr h => ?_)
  · obtain ⟨p, t, r, ks, a, rfl, _⟩ := h
    rfl
  · obtain ⟨p, t, r, ks, a, rfl, ht, inj, hk, hp, q⟩ := h
    refine ⟨_, (pss_cons (ps_if (pt_not (pt_val (pv 2))) (pss_one (ps_ret (pe_cl (ok_is_ring T) (by exact hr.mono (by decide)) (by rfl) T.g_is_ring (T.f_is_ring.elim fun _ F => F.kp) pass0 (pa_cons (pv 0) (pa_cons (pv 1) pa_nil))))) pss_nil) (pss_one (ps_ret (pe_or (pe_cl (ok_is_wait T) (by exact hr.mono (by decide)) (by rfl) T.g_is_wait (T.f_is_wait.elim fun _ F => F.kp) pass0 (pa_cons (pv 0) (pa_cons (pv 1) pa_nil))) (pe_one (pe_and (pe_cl (ok_is_ring T) (by exact hr.mono (by decide)) (by rfl) T.g_is_ring (T.f_is_ring.elim fun _ F => F.kp) pass0 (pa_cons (pv 0) (pa_cons (pv 1) pa_nil))) (pe_one (pe_cmpR op_eq (pe_op op_mod (pe_callB call_len_seq (by rfl) T.n_len (by decide +kernel) (pa_cons (pv 1) pa_nil)) pe_int) pe_int (nomark _))))))))), ?_⟩
    obtain ⟨hin, hl⟩ := hp.sub ht.1 inj
    refine ⟨_, rfl, a, rfl, ?_⟩
    cases a with
    | false =>
      have hp : ks ∈ ringsR r := hp
      exact iteT ⟨_, rfl, _, rfl, p, t, r, ks, rfl, ht, inj, hk, hp, q⟩
    | true =>
      have hp : (∃ x y, ks = [x, y] ∧ wtT r x = some y) ∨ (ks ∈ ringsR r ∧ ks.length % 2 = 1) := hp
      refine iteF ⟨_, rfl, _, rfl, p, t, r, ks, rfl, ht, hk, hin, hl, fun H1 s1 => ⟨_, rfl, ?_⟩⟩
      refine ite2 (fun z => q _ s1) (fun z => ?_)
      have hr : ks ∈ ringsR r ∧ ks.length % 2 = 1 := by
        rcases hp with ⟨x, y, rfl, e⟩ | h
        · have z : (wtT r x == some y) = false := z
          rw [e] at z
          simp at z
        · exact h
      refine ⟨_, rfl, _, rfl, p, t, r, ks, rfl, ht.same s1, inj, Same.tup s1 hk, hr.1, fun H2 s2 => ⟨_, rfl, iteT ?_⟩⟩
      refine ⟨_, rfl, t, _, rfl, .inr (Same.tup (s1.trans s2) hk), _, _, rfl, rfl, (by decide : (0 : Int) < 2), rfl, ?_⟩
      rw [dInt, decide_eq_true (by rw [memI]; omega)]
      exact q _ (s1.trans s2)
end
end Rw

-- D17
set_option Elab.async false
set_option linter.all false
set_option maxRecDepth 100000
set_option maxHeartbeats 4000000
/-! shows_needs. -/
namespace Rw
open PySem PySem.Spec PyProof.Rows L2
section
variable {P : Program} {w : World} {K : PySem.W.Frag} {mg : Str → Option Value} {base : Heap}

theorem hid_start {H : Hp} {D : Addr} {o : HO} (hD : H D = none) : Same H (hid (upd H D o) D) := by
  rw [hid_upd, hid_none hD]
  exact Same.refl _
theorem ring_heads {r : Tb} (g : Good r) (inj : Inj r) : (ringsR r).Pairwise (· ≤ ·) := by
  have G := gr_of g inj
  unfold ringsR Rc.rings
  rw [List.pairwise_map]
  have h : ((keysT r).filter (Rc.isRing (keysT r) (wtT r))).Pairwise (· < ·) := g.asc.sublist List.filter_sublist
  refine (List.Pairwise.and_mem.mp h).imp ?_
  rintro a b ⟨ha, hb, hab⟩
  have h1 := (Rc.path_is G (List.mem_filter.mp ha).1).hd
  have h2 := (Rc.path_is G (List.mem_filter.mp hb).1).hd
  cases e1 : Rc.path (keysT r) (wtT r) a with
  | nil => rw [e1] at h1; cases h1
  | cons x xs =>
    cases e2 : Rc.path (keysT r) (wtT r) b with
    | nil => rw [e2] at h2; cases h2
    | cons y ys =>
      rw [e1] at h1
      rw [e2] at h2
      cases h1
      cases h2
      exact List.le_of_lt (List.Lex.rel hab)
structure Shown (r : Tb) (a : Bool) (L : List (List Int)) : Prop where
  asc : L.Pairwise (· ≤ ·)
  nd : L.Nodup
  ne : ∀ p ∈ L, p ≠ []
  sz : L.length ≤ 40
  each : ∀ p ∈ L, Piece r a p
  fnd : L.flatten.Nodup
  fin : ∀ x ∈ L.flatten, x ∈ keysT r
  many : a = false → L.length = (ringsR r).length
  sum : a = true → (L.map fun p => (p.length + 1) / 2).sum = leastR r
theorem shown_of {r : Tb} (g : Good r) (inj : Inj r) {a : Bool} {L : List (List Int)} (h : needsP r a L) : Shown r a L := by
  have G := gr_of g inj
  cases a with
  | true =>
    obtain ⟨pm, pw⟩ : L.Perm (piecesR r) ∧ L.Pairwise (· ≤ ·) := h
    have hf := pm.flatten
    exact ⟨pw, pm.nodup_iff.mpr (Rc.pieces_distinct G), fun p hp => Rc.pieces_ne G p (pm.mem_iff.mp hp), by rw [pm.length_eq]; exact pieces_sz g inj, fun p hp => Rc.pieces_show G p (pm.mem_iff.mp hp),
      hf.nodup_iff.mpr (Rc.pieces_nodup G), fun x hx => pieces_in g inj x (hf.mem_iff.mp hx), fun e => (by cases e), fun _ => (pm.map _).sum_nat.trans Rc.pieces_sum⟩
  | false =>
    have h : L = ringsR r := h
    subst h
    refine ⟨ring_heads g inj, Rc.rings_distinct G, fun p hp => (ring_sz g inj hp).2, rings_sz g, fun p hp => hp, Rc.rings_nodup G, fun x hx => ?_, fun _ => rfl, fun e => by cases e⟩
    obtain ⟨p, hp, hx⟩ := List.mem_flatten.mp hx
    obtain ⟨k, hk, rfl⟩ := List.mem_map.mp hp
    exact Rc.path_sub G (List.mem_filter.mp hk).1 x hx
/-- values that are tuples, by address -/
theorem tups_at {H : Hp} : ∀ {L : List (List Int)} {xs : List V}, DpAll K H xs (L.map tI) → ∃ ks : List (Addr × List Int), xs = ks.map (fun p => V.ref p.1) ∧ ks.map (·.2) = L ∧ ∀ p ∈ ks, SqT K H p.1 (p.2.map V.int)
  | [], _, h => by cases h; exact ⟨[], rfl, rfl, fun p hp => by cases hp⟩
  | n :: L, _, h => by
    cases h with
    | cons a b =>
      obtain ⟨c, rfl, hc⟩ := tI_dp a
      obtain ⟨ks, rfl, h2, h3⟩ := tups_at b
      refine ⟨(c, n) :: ks, rfl, by rw [List.map_cons, h2], fun p hp => ?_⟩
      rcases List.mem_cons.mp hp with e | e
      · rw [e]; exact hc
      · exact h3 p e
theorem flatten_take {L : List (List Int)} {i : Nat} {p : List Int} (e : L[i]? = some p) : (L.take (i + 1)).flatten = (L.take i).flatten ++ p := by
  rw [take_snoc e, List.flatten_append, List.flatten_cons, List.flatten_nil, List.append_nil]
theorem flat_take_le (L : List (List Int)) (i : Nat) : (L.take i).flatten.length ≤ L.flatten.length := by
  have h : L.flatten = (L.take i).flatten ++ (L.drop i).flatten := by rw [← List.flatten_append, List.take_append_drop]
  rw [h, List.length_append]
  omega
def spShows (K : PySem.W.Frag) : Sp := fun vs H Q _ => ∃ (p t : Addr) (r : Tb) (a : Bool) (xs : List V) (L : List (List Int)), vs = [.ref p, .ref t, .bl a] ∧ TabAt K H p r ∧ Inj r ∧ SqT K H t xs ∧ DpAll K H xs (L.map tI) ∧ needsP r a L ∧ ∀ H', Same H H' → Q (.bl true) H'
theorem sc_shows_needs : FnScope ["table", "thing", "always", "rows", "piece"] ["table", "thing", "always"] (defScope s_shows_needs) := ⟨rfl, rfl, rfl, by decide +kernel, rfl, by decide +kernel, by decide +kernel⟩
theorem ok_shows_needs (T : Txt K mg) : ∃ fd, FnOk P w K mg base CX0 12 (a_shows_needs K) fd ["table", "thing", "always"] (spShows K) ∧ KBinds K fd ["table", "thing", "always"] ["always"] kg2 kg2 := by
  obtain ⟨fd, F⟩ := T.f_shows_needs
  have nd := sc_shows_needs.nd
  refine ⟨fd, F.ok sc_shows_needs (fun vs H Q E h => ?_) (fun cdv A outer s H vs Q E hr h => ?_), ?_⟩
  · obtain ⟨p, t, r, a, xs, L, rfl, _⟩ := h
    rfl
  · obtain ⟨p, t, r, a, xs, L, rfl, ht, inj, hT, hd, hn, q⟩ := h
    have sh := shown_of ht.1 inj hn
    have hlen : xs.length = L.length := by
      have := dpAll_len hd
      rwa [List.length_map] at this
    have hsz := sh.sz
    have hf40 : L.flatten.length ≤ 40 := Nat.le_trans (Rc.nodup_length_le sh.fnd sh.fin) (keys_sz ht.1)
    refine ⟨_, (pss_cons (ps_expr (pe_cl (ok_need_table T) (by exact hr.mono (by decide)) (by rfl) T.g_need_table (T.f_need_table.elim fun _ F => F.kp) pass0 (pa_cons (pv 0) pa_nil))) (pss_cons (ps_expr (pe_cl (ok_need_no_pair T) (by exact hr.mono (by decide)) (by rfl) T.g_need_no_pair (T.f_need_no_pair.elim fun _ F => F.kp) pass0 (pa_cons (pv 0) pa_nil))) (pss_cons (ps_if (pw_or (pt_not (pt_val (pe_callB call_isi (by rfl) T.n_isinstance (by decide +kernel) (pa_cons (pv 1) (pa_cons (pe_bltn (v := .ty "tuple") (by rfl) T.n_tuple (by decide +kernel) rfl) pa_nil))))) (pw_or1 (pt_not (pt_val (pe_callB (cr_all rfl) (by rfl) T.n_all (by decide +kernel) (pa_cons (pe_lc (own := [("piece", 4)]) (g := (gName 4)) rfl nd (pi_tup (pv 1)) (blkOk_by (own := [("piece", 4)]) (N := ["table", "thing", "always", "rows", "piece"]) (sc := defScope s_shows_needs) (by decide +kernel)) (fun _ _ _ _ _ => (pg_name (i := 4) nd rfl (.inl rfl) (.inr rfl))) (fun _ _ _ _ _ => pts_nil) (fun _ _ _ _ _ => (pe_cl (ok_is_piece T) (by exact hr.mono (by decide)) (by rfl) T.g_is_piece (T.f_is_piece.elim fun _ F => F.kp) pass0 (pa_cons (pv 0) (pa_cons (pv 4) (pa_cons (pv 2) pa_nil)))))) pa_nil)))))).pt (pss_one (ps_ret pe_bl)) pss_nil) (pss_cons (ps_if (pt_cmpR (op_neD hr.units) (pe_callTy call_list_of (by rfl) T.n_list (by decide +kernel) (pa_cons (pv 1) pa_nil)) (pe_callB (cr_sortSet rfl hr.units) (by rfl) T.n_sorted (by decide +kernel) (pa_cons (pe_callTy (cr_setTT rfl hr.units) (by rfl) T.n_set (by decide +kernel) (pa_cons (pv 1) pa_nil)) pa_nil)) (nomark _)) (pss_one (ps_ret pe_bl)) pss_nil) (pss_cons (ps_set (i := 3) nd rfl (.inl rfl) (pe_lst pa_nil)) (pss_cons (ps_for PassesOwn.never rfl (pi_tup (pv 1)) (pg_name (i := 4) nd rfl (.inl rfl)) (pss_one (ps_expr (pe_bm PySem.F.plainAttrs_list PySem.F.slot_list_extend PySem.F.type_list_extend mt_extT (pv 3) (pa_cons (pv 4) pa_nil))))) (pss_cons (ps_if (pt_cmpR op_lt (RZ.pe_lenSetI (by rfl) T.n_len (by rfl) T.n_set (pv 3)) (pe_callB call_len_seq (by rfl) T.n_len (by decide +kernel) (pa_cons (pv 3) pa_nil)) (nomark _)) (pss_one (ps_ret pe_bl)) pss_nil) (pss_cons (ps_if (pt_not (pt_val (pv 2))) (pss_one (ps_ret (pe_cmpR op_eq (pe_callB call_len_seq (by rfl) T.n_len (by decide +kernel) (pa_cons (pv 1) pa_nil)) (pe_callB call_len_seq (by rfl) T.n_len (by decide +kernel) (pa_cons (pe_cl (ok_rings_of T) (by exact hr.mono (by decide)) (by rfl) T.g_rings_of (T.f_rings_of.elim fun _ F => F.kp) pass0 (pa_cons (pv 0) pa_nil)) pa_nil)) (nomark _)))) pss_nil) (pss_one (ps_ret (pe_cmpR op_eq (pe_callB (cr_sum rfl) (by rfl) T.n_sum (by decide +kernel) (pa_cons (pe_lc (own := [("piece", 4)]) (g := (gName 4)) rfl nd (pi_tup (pv 1)) (blkOk_by (own := [("piece", 4)]) (N := ["table", "thing", "always", "rows", "piece"]) (sc := defScope s_shows_needs) (by decide +kernel)) (fun _ _ _ _ _ => (pg_name (i := 4) nd rfl (.inl rfl) (.inr rfl))) (fun _ _ _ _ _ => pts_nil) (fun _ _ _ _ _ => (pe_op op_fdiv (pe_op op_add (pe_callB (call_lenK (K := K) rfl) (by rfl) T.n_len (by decide +kernel) (pa_cons (pv 4) pa_nil)) pe_int) pe_int))) pa_nil)) (pe_cl (ok_least_many T) (by exact hr.mono (by decide)) (by rfl) T.g_least_many (T.f_least_many.elim fun _ F => F.kp) pass0 (pa_cons (pv 0) pa_nil)) (nomark _)))))))))))), ?_⟩
    obtain ⟨dx, fs, hi⟩ := ht.ins
    refine ⟨_, rfl, p, dx, fs, rfl, hi, ?_⟩
    refine ⟨_, rfl, p, r, rfl, ht, inj, fun H1 s1 => ?_⟩
    have hT1 := Same.tup s1 hT
    refine ⟨_, rfl, .ref t, .ty "tuple", _, _, true, rfl, .ty _, tyX_tup hT1, kit_ty (by decide +kernel), true, rfl, iteF ?_⟩
    refine ⟨_, rfl, t, rfl, ⟨_, hT1⟩, fun D hD => ?_⟩
    refine lc_go (walk_tup (xs := xs)) (fun i acc H => acc = List.replicate i (V.bl true)) (by omega) hD (fun H s => Same.tup s hT1) rfl ?_ ?_
    · rintro i x H0 H2 acc hi' L' ⟨rfl, ex⟩
      have s2 := L'.same.trans hid_same
      obtain ⟨ps, e1, hdp⟩ := dp_nth (DpAll.same (s1.trans s2) _ _ hd) ex
      obtain ⟨c, rfl, hc⟩ := tI_dp hdp
      refine ⟨rfl, yes ⟨_, rfl, _, rfl, _, rfl, p, c, r, ps, a, rfl, ht.same (s1.trans s2), inj, hc, sh.each ps (List.mem_of_getElem? e1), fun H3 s3 => L'.snoc (by omega) s3 ?_⟩⟩
      show acc ++ [V.bl true] = _
      rw [List.replicate_succ', ← show acc = _ from L'.f]
    · intro H2 acc s2 e2 f _
      rw [show acc = _ from f, rep_bl] at e2
      refine ⟨D, _, rfl, SqL.of e2, _, rfl, ?_⟩
      rw [all_true]
      refine iteF ?_
      -- list(thing) != sorted(set(thing))
      have s12 := s1.trans s2
      refine ⟨_, rfl, t, xs, rfl, .inr (Same.tup s12 hT), fun l hl => ?_⟩
      have s3 := s12.trans (same_up (o := .lst xs) hl)
      obtain ⟨ks, ex, eL, hks⟩ := tups_at (DpAll.same s3 _ _ hd)
      refine ⟨_, rfl, t, ks, rfl, by rw [← ex]; exact Same.tup s3 hT, hks, ?_, by rw [eL]; exact sh.nd, fun b L2 hb pm => ?_⟩
      · have := congrArg List.length eL
        rw [List.length_map] at this
        omega
      · have s4 := s3.trans (same_up (o := SetTO P w b L2) hb)
        refine ⟨b, L2, rfl, upd_same, fun pp hp => Same.tup (same_up hb) (hks pp (pm.mem_iff.mp hp)), ?_⟩
        have pm2 : (L2.map (·.2)).Perm L := by
          rw [← eL]
          exact pm.map _
        rw [show (L2.map fun p : Addr × List Int => PyData.tuple (p.2.map .int)) = (L2.map (·.2)).map tI by rw [List.map_map]; rfl]
        refine sortGo_tI (by rw [pm2.length_eq]; omega) (fun x hx => sh.ne x (pm2.mem_iff.mp hx)) fun l2 ys S hl2 hys pmS pw => ?_
        have hS : S = L := lex_eq (pmS.trans pm2) pw sh.asc
        have s5 := s4.trans (same_up (o := .lst ys) hl2)
        have s35 := (same_up (o := SetTO P w b L2) hb).trans (same_up (o := .lst ys) hl2)
        refine ⟨.list (L.map tI), .list (L.map tI), .lst (SqL.of (s35 _ _ upd_same)) (DpAll.same s5 _ _ hd), .lst (SqL.of upd_same) (by rw [← hS]; exact DpAll.same (same_up hl2) _ _ hys), shaped_tIs _, shaped_tIs _, _, rfl, ?_⟩
        rw [eqv_self (shaped_tIs _)]
        refine iteF ?_
        -- rows
        refine ⟨Nat.zero_le _, fun D3 hD3 => ?_⟩
        let H5 : Hp := upd (upd (upd H2 l (.lst xs)) b (SetTO P w b L2)) l2 (.lst ys)
        have s5 : Same H H5 := s5
        have hD3 : H5 D3 = none := hD3
        have hd5 := DpAll.same s5 _ _ hd
        have hT5 := Same.tup s5 hT
        refine ⟨_, rfl, t, rfl, ⟨_, Same.tup (same_up hD3) hT5⟩, ?_⟩
        refine for_it (walk_tup (xs := xs)) (fun i σ Hx => (∃ y, σ = [some (.ref p), some (.ref t), some (.bl a), some (.ref D3), y]) ∧ Same H5 (hid Hx D3) ∧ Hx D3 = some (.lst (((L.take i).flatten).map V.int))) ⟨⟨_, rfl⟩, hid_start hD3, upd_same⟩ (fun i σ Hx _ ⟨_, s, _⟩ => Same.tup (s.trans hid_same) hT5) ?_ ?_
        · rintro i x σ H0 H6 hi' ⟨⟨y, rfl⟩, s6, e6⟩ ⟨rfl, ex6⟩
          obtain ⟨ps, e7, hdp⟩ := dp_nth (DpAll.same (s6.trans hid_same) _ _ hd5) ex6
          obtain ⟨c, rfl, hc⟩ := tI_dp hdp
          have h1 := flat_take_le L i
          have h2 : ps.length ≤ 40 := ((sh.each ps (List.mem_of_getElem? e7)).sub ht.1 inj).2
          refine ⟨_, rfl, .inl ⟨rfl, _, SqL.of e6⟩, _, rfl, D3, c, _, _, rfl, rfl, e6, hc, Nat.le_of_lt (small1000 (by rw [memI, memI]; omega)), ⟨_, rfl⟩, ?_, ?_⟩
          · rw [hid_upd]
            exact s6
          · rw [upd_same, flatten_take e7, List.map_append]
        · rintro σ H6 ⟨⟨y, rfl⟩, s6, e6⟩
          rw [hlen, List.take_length] at e6
          have s7 := s5.trans (s6.trans hid_same)
          refine ⟨_, rfl, D3, L.flatten, rfl, SqL.of e6, sh.fnd, by omega, ?_⟩
          refine ⟨_, rfl, D3, _, rfl, .inl (SqL.of e6), _, _, rfl, rfl, _, rfl, ?_⟩
          rw [decide_eq_false (by rw [memI]; omega)]
          refine iteF ⟨_, rfl, a, rfl, ?_⟩
          cases ea : a with
          | false =>
            refine iteT ⟨_, rfl, t, _, rfl, .inr (Same.tup s7 hT), ?_⟩
            refine ⟨_, rfl, p, r, rfl, ht.same s7, inj, fun H8 l8 zs s8 hl8 e8 hd8 => ?_⟩
            refine ⟨l8, _, rfl, .inl (SqL.of e8), rfl, ?_⟩
            have hz : zs.length = (ringsR r).length := by
              have := dpAll_len hd8
              rwa [List.length_map] at this
            rw [dInt, decide_eq_true (by rw [hlen, sh.many ea, hz])]
            exact q _ (s7.trans s8)
          | true =>
            refine iteF ⟨_, rfl, t, rfl, ⟨_, Same.tup s7 hT⟩, fun D9 hD9 => ?_⟩
            refine lc_go (walk_tup (xs := xs)) (fun i acc H => acc = ((L.take i).map fun p => (((p.length + 1) / 2 : Nat) : Int)).map V.int) (by omega) hD9 (fun H s => Same.tup (s7.trans s) hT) rfl ?_ ?_
            · rintro i x H0 H9 acc hi' L' ⟨rfl, ex9⟩
              obtain ⟨ps, e7, hdp⟩ := dp_nth (DpAll.same (s7.trans (L'.same.trans hid_same)) _ _ hd) ex9
              obtain ⟨c, rfl, hc⟩ := tI_dp hdp
              refine ⟨rfl, yes ⟨_, rfl, c, _, rfl, .inr hc, _, _, rfl, rfl, _, _, rfl, rfl, cdiv2 _, L'.snoc (by omega) (Same.refl _) ?_⟩⟩
              show acc ++ [V.int ((((ps.map V.int).length : Int) + 1) / 2)] = _
              rw [memI, half1_int, take_map e7, List.map_append, ← show acc = _ from L'.f]
              rfl
            · intro H9 acc s9 e9 f9 _
              have f9 : acc = ((L.take xs.length).map fun p => (((p.length + 1) / 2 : Nat) : Int)).map V.int := f9
              rw [hlen, List.take_length] at f9
              rw [f9] at e9
              refine ⟨D9, _, rfl, SqL.of e9, ?_⟩
              refine ⟨_, rfl, p, r, rfl, ht.same (s7.trans s9), inj, fun H10 s10 => ⟨rfl, ?_⟩⟩
              rw [sum_cast (fun p : List Int => (p.length + 1) / 2), sh.sum ea, dInt, decide_eq_true rfl]
              exact q _ ((s7.trans s9).trans s10)
  · obtain ⟨oc, od, kV, doc, pm, an, cdv, ct, osl, rfl, lk, hcd⟩ := F.ex
    refine ⟨fun s us ws _ hl => ?_, vals_kg2⟩
    obtain ⟨a, b, c, rfl, rfl⟩ := kg2_len hl
    exact BindsTo.of_eq rfl
end
end Rw

-- D18
set_option Elab.async false
set_option linter.all false
set_option maxRecDepth 100000
set_option maxHeartbeats 4000000
/-! Outcome, holder_of. -/
namespace Rw
open PySem PySem.Spec PyProof.Rows L2
section
variable {P : Program} {w : World} {K : PySem.W.Frag} {mg : Str → Option Value} {base : Heap}

theorem dc_it {J : It} {n : Nat} {G : Hp → Prop} {Y : Nat → Hp → V → Hp → Prop} (w : Walk J n G Y) {g : TG} {tt : TT} {tk tv : TE} {vs : List Nat} {σ : L2.St} {H1 : Hp} {D : Addr} {Qd : Hp → Prop} (Pv : Nat → Hp → Prop) (h0 : Pv 0 (upd H1 D (.dK []))) (hG : ∀ i H, i ≤ n → Pv i H → G H)
    (hs : ∀ i x H H', i < n → Pv i H → Y i H x H' → g x (wipe σ vs) H' fun σ2 H2 => wipe σ2 vs = wipe σ vs ∧ tt σ2 H2 fun b H3 =>
      if b = true then tk σ2 H3 fun y H4 => tv σ2 H4 fun z H5 => ∃ kvs k, y = kV k ∧ H5 D = some (.dK kvs) ∧ kvs.length < sizeLine ∧ Pv (i + 1) (upd H5 D (.dK (putK kvs k z))) else Pv (i + 1) H3) (hd : ∀ H, Pv n H → Qd H) :
    ∃ W : Nat → Nat → Hp → Prop, (∃ m, W 0 m (upd H1 D (.dK []))) ∧ ∀ i m H, W i m H →
      (J.stop i H ∧ Qd H) ∨ (J.go i H ∧ ∃ Nx : Hp → Prop, (∀ H', Nx H' → ∃ m', m' < m ∧ W (i + 1) m' H') ∧ ∀ x H', J.yld i H x H' → g x (wipe σ vs) H' fun σ2 H2 => wipe σ2 vs = wipe σ vs ∧ tt σ2 H2 fun b H3 =>
        if b = true then tk σ2 H3 fun y H4 => tv σ2 H4 fun z H5 => ∃ kvs k, y = kV k ∧ H5 D = some (.dK kvs) ∧ kvs.length < sizeLine ∧ Nx (upd H5 D (.dK (putK kvs k z))) else Nx H3) := by
  refine ⟨fun i m H => m = n - i ∧ i ≤ n ∧ Pv i H, ⟨n, by simp, Nat.zero_le _, h0⟩, ?_⟩
  rintro i m H ⟨rfl, hi, p⟩
  by_cases hlt : i < n
  · exact .inr ⟨w.goes i H hlt (hG i H hi p), fun H' => Pv (i + 1) H', fun H' h => ⟨n - (i + 1), by omega, rfl, by omega, h⟩, fun x H' y => hs i x H H' hlt p (w.yields i H x H' hlt (hG i H hi p) y)⟩
  · have : i = n := by omega
    subst this
    exact .inl ⟨w.stops H (hG i H hi p), hd H p⟩
theorem upd_self {H : Hp} {d : Addr} {o u : HO} (h : H d = some u) : upd (upd H d o) d u = H := by
  rw [upd_upd]
  funext b
  by_cases e : b = d
  · rw [e, upd_same, h]
  · rw [upd_ne e]
def spOInit (K : PySem.W.Frag) : Sp := fun vs H Q _ => ∃ (z dx : Addr) (a b c : V), vs = [.ref z, a, b, c] ∧ H z = some (.ins (cO K) dx []) ∧ ∀ t, H t = none → Q .non (upd (upd H t (.tup [a, b, c])) z (.ins (cO K) dx [("triple", .ref t)]))
theorem sc_oInit : FnScope ["self", "rows", "stop", "ends"] ["self", "rows", "stop", "ends"] (defScope s_oInit) := ⟨rfl, rfl, rfl, by decide +kernel, rfl, by decide +kernel, by decide +kernel⟩
theorem ok_oInit (T : Txt K mg) : FnR P w K mg base CX0 1 (a_oInit K) (spOInit K) := by
  have nd := sc_oInit.nd
  refine okR T.f_oInit sc_oInit (fun _ _ _ _ _ _ us hl => match us, hl with | [_, _, _, _], _ => rfl) (fun vs H Q E h => ?_) (fun cdv A outer s H vs Q E hr h => ?_)
  · obtain ⟨z, dx, a, b, c, rfl, _⟩ := h
    rfl
  · obtain ⟨z, dx, a, b, c, rfl, hz, q⟩ := h
    refine ⟨_, (pss_one (ps_fld (f := "triple") (pv 0) (pe_tup (pa_cons (pv 1) (pa_cons (pv 2) (pa_cons (pv 3) pa_nil)))) (by rfl))), ?_⟩
    refine ⟨_, rfl, _, rfl, _, rfl, (show 3 ≤ sizeLine by decide), fun t ht => ?_⟩
    exact ⟨_, rfl, z, cO K, dx, [], rfl, same_up ht _ _ hz, T.clO, T.nt, by decide, q t ht⟩
/-- an outcome's triple -/
def OutAt (K : PySem.W.Frag) (H : Hp) (c : Addr) (a b e : V) : Prop := ∃ dx t, H c = some (.ins (cO K) dx [("triple", .ref t)]) ∧ SqT K H t [a, b, e]
def spOStop (K : PySem.W.Frag) : Sp := fun vs H Q _ => ∃ (c : Addr) (a b e : V), vs = [.ref c] ∧ OutAt K H c a b e ∧ Q b H
theorem sc_oStop : FnScope ["self"] ["self"] (defScope s_oStop) := ⟨rfl, rfl, rfl, by decide +kernel, rfl, by decide +kernel, by decide +kernel⟩
theorem ok_oStop (T : Txt K mg) : FnR P w K mg base CX0 1 (a_oStop K) (spOStop K) := by
  have nd := sc_oStop.nd
  refine okR T.f_oStop sc_oStop (fun _ _ _ _ _ _ us hl => match us, hl with | [_], _ => rfl) (fun vs H Q E h => ?_) (fun cdv A outer s H vs Q E hr h => ?_)
  · obtain ⟨c, a, b, e, rfl, _⟩ := h
    rfl
  · obtain ⟨c, a, b, e, rfl, ⟨dx, t, h1, h2⟩, q⟩ := h
    refine ⟨_, (pss_one (ps_ret (pe_ix ix_tup (pe_fld (f := "triple") (pv 0) (by rfl)) pe_int (fun _ _ => rfl)))), ?_⟩
    exact ⟨_, rfl, c, cO K, dx, _, _, rfl, h1, T.clO, T.nt, rfl, t, _, 1, _, rfl, rfl, h2, atI_nat (j := 1) rfl, q⟩
def spOEnds (K : PySem.W.Frag) : Sp := fun vs H Q _ => ∃ (c : Addr) (a b e : V), vs = [.ref c] ∧ OutAt K H c a b e ∧ Q e H
theorem sc_oEnds : FnScope ["self"] ["self"] (defScope s_oEnds) := ⟨rfl, rfl, rfl, by decide +kernel, rfl, by decide +kernel, by decide +kernel⟩
theorem ok_oEnds (T : Txt K mg) : FnR P w K mg base CX0 1 (a_oEnds K) (spOEnds K) := by
  have nd := sc_oEnds.nd
  refine okR T.f_oEnds sc_oEnds (fun _ _ _ _ _ _ us hl => match us, hl with | [_], _ => rfl) (fun vs H Q E h => ?_) (fun cdv A outer s H vs Q E hr h => ?_)
  · obtain ⟨c, a, b, e, rfl, _⟩ := h
    rfl
  · obtain ⟨c, a, b, e, rfl, ⟨dx, t, h1, h2⟩, q⟩ := h
    refine ⟨_, (pss_one (ps_ret (pe_ix ix_tup (pe_fld (f := "triple") (pv 0) (by rfl)) pe_int (fun _ _ => rfl)))), ?_⟩
    exact ⟨_, rfl, c, cO K, dx, _, _, rfl, h1, T.clO, T.nt, rfl, t, _, 2, _, rfl, rfl, h2, atI_nat (j := 2) rfl, q⟩
/-- no row holds the key -/
def spHolder (K : PySem.W.Frag) : Sp := fun vs H Q _ => ∃ (d : Addr) (kv : Tb) (k : Int), vs = [.ref d, .int k] ∧ H d = some (.dK (kvI kv)) ∧ (keysT kv).Nodup ∧ (∀ p ∈ kv, p.2 ≠ k) ∧ Q .non H
theorem sc_holder_of : FnScope ["places", "key", "row"] ["places", "key"] (defScope s_holder_of) := ⟨rfl, rfl, rfl, by decide +kernel, rfl, by decide +kernel, by decide +kernel⟩
theorem ok_holder_of (T : Txt K mg) : FnR P w K mg base CX0 1 (a_holder_of K) (spHolder K) := by
  have nd := sc_holder_of.nd
  refine okR T.f_holder_of sc_holder_of (fun _ _ _ _ _ _ us hl => match us, hl with | [_, _], _ => rfl) (fun vs H Q E h => ?_) (fun cdv A outer s H vs Q E hr h => ?_)
  · obtain ⟨d, kv, k, rfl, _⟩ := h
    rfl
  · obtain ⟨d, kv, k, rfl, hd, nd', hk, q⟩ := h
    have hu := hu_of hr
    refine ⟨_, (pss_cons (ps_lock (ps_for PassesOwn.never rfl (pi_keys (pv 0)) (pg_name (i := 2) nd rfl (.inl rfl)) (pss_one (ps_if (pt_cmpR op_eq (pe_dget (by exact hu) (pv 0) (pv 2) (fun _ _ => rfl)) (pv 1) (nomark _)) (pss_one (ps_ret (pv 2))) pss_nil)))) (pss_one (ps_ret pe_non))), ?_⟩
    refine ⟨d, _, hd, True.intro, fun od => ⟨_, rfl, d, od, rfl, .inl ⟨_, upd_same, ?_⟩⟩⟩
    refine for_it walk_keys (fun i σ Hx => (∃ y, σ = [some (.ref d), some (.int k), y]) ∧ Hx = upd H d (.frz od (.dK (kvI kv)))) ⟨⟨_, rfl⟩, rfl⟩ (fun i σ Hx _ ⟨_, e⟩ => by rw [e]; exact upd_same) ?_ ?_
    · rintro i x σ H0 H2 hi ⟨⟨y, rfl⟩, rfl⟩ ⟨rfl, kk, vv, ek, rfl⟩
      obtain ⟨p, e1, rfl, rfl⟩ := kvI_get ek
      have z : DGet (upd H d (.frz od (.dK (kvI kv)))) d (V.int p.1) (valV (kvI kv) (Sum.inl p.1)) := .inl ⟨_, Sum.inl p.1, .inr ⟨od, upd_same⟩, rfl, rfl⟩
      rw [kvI_val, newT_of nd' (List.mem_of_getElem? (show kv[i]? = some (p.1, p.2) from e1))] at z
      refine ⟨_, rfl, _, rfl, d, _, rfl, z, _, rfl, rfl, _, rfl, ?_⟩
      rw [dInt, decide_eq_false (hk p (List.mem_of_getElem? e1))]
      exact iteF ⟨⟨_, rfl⟩, rfl⟩
    · rintro σ H2 ⟨⟨y, rfl⟩, rfl⟩
      refine ⟨upd_same, ?_⟩
      rw [upd_self hd]
      exact q
end
end Rw

-- D19
set_option Elab.async false
set_option linter.all false
set_option maxRecDepth 100000
set_option maxHeartbeats 4000000
/-! Rule.__call__ on an order that passes. -/
namespace Rw
open PySem PySem.Spec PyProof.Rows L2
section
variable {P : Program} {w : World} {K : PySem.W.Frag} {mg : Str → Option Value} {base : Heap}

/-- the places: each row's key -/
def plc (o : List Int) (f : Int → Int) : Tb := o.map fun k => (k, f k)
theorem plc_keys (o : List Int) (f : Int → Int) : keysT (plc o f) = o := by
  unfold keysT plc
  rw [List.map_map]
  exact List.map_id o
theorem plc_put {o : List Int} {f : Int → Int} {x v : Int} (hx : x ∈ o) : putK (kvI (plc o f)) (Sum.inl x) (.int v) = kvI (plc o fun k => if k = x then v else f k) := by
  unfold putK kvI plc
  rw [if_pos]
  · rw [List.map_map, List.map_map, List.map_map]
    refine List.map_congr_left fun k _ => ?_
    show (if (Sum.inl k : Key) = Sum.inl x then ((Sum.inl k : Key), V.int v) else (Sum.inl k, V.int (f k))) = (Sum.inl k, V.int (if k = x then v else f k))
    by_cases h : k = x
    · rw [if_pos h, if_pos (congrArg Sum.inl h)]
    · rw [if_neg h, if_neg fun e => h (Sum.inl.inj e)]
  · rw [List.any_eq_true]
    exact ⟨(Sum.inl x, .int (f x)), List.mem_map.mpr ⟨(x, f x), List.mem_map.mpr ⟨x, hx, rfl⟩, rfl⟩, by simp⟩
theorem plc_get {o : List Int} {f : Int → Int} {x : Int} (nd : o.Nodup) (hx : x ∈ o) : valV (kvI (plc o f)) (Sum.inl x) = some (.int (f x)) := by
  rw [kvI_val, newT_of (by rw [plc_keys]; exact nd) (show (x, f x) ∈ plc o f from List.mem_map.mpr ⟨x, hx, rfl⟩)]
  rfl
theorem plc_all {r : Tb} {o : List Int} {f : Int → Int} (nd : (keysT r).Nodup) (pm : o.Perm (keysT r)) (h : ∀ k ∈ o, newT r k = some (f k)) : (plc o f).Perm r := by
  have : r = (keysT r).map fun k => (k, f k) := by
    unfold keysT
    rw [List.map_map]
    have e : r.map (fun p => p) = r := List.map_id r
    rw [← e]
    rw [List.map_map]
    refine List.map_congr_left fun p hp => ?_
    have h1 := h p.1 (pm.mem_iff.mpr (List.mem_map.mpr ⟨p, hp, rfl⟩))
    rw [newT_of nd (show (p.1, p.2) ∈ r from hp)] at h1
    have h2 : p.2 = f p.1 := Option.some.inj h1
    show p = (p.1, f p.1)
    rw [← h2]
  rw [this]
  exact pm.map _
theorem mem_take_succ {o : List Int} {i : Nat} {x k : Int} (e : o[i]? = some x) (h : k ∈ o.take (i + 1)) : k ∈ o.take i ∨ k = x := by
  rw [take_snoc e] at h
  rcases List.mem_append.mp h with h | h
  · exact .inl h
  · exact .inr (by simpa using h)
theorem not_take {o : List Int} (nd : o.Nodup) {i : Nat} {x : Int} (e : o[i]? = some x) : x ∉ o.take i := fun h => by
  obtain ⟨j, hj⟩ := List.getElem?_of_mem h
  have hji : j < i := by
    have := (List.getElem?_eq_some_iff.mp hj).1
    rw [List.length_take] at this
    omega
  rw [List.getElem?_take_of_lt hji] at hj
  have := Rc.nd_idx nd e hj
  omega
/-- no row stands where the next one goes -/
theorem go_free {r : Tb} (g : Good r) (inj : Inj r) {o : List Int} (pm : o.Perm (keysT r)) (ps : Rc.Passing (wtT r) o) {i : Nat} {x v : Int} {f : Int → Int} (e : o[i]? = some x) (hv : newT r x = some v) (hne : v ≠ x)
    (h1 : ∀ k ∈ o.take i, newT r k = some (f k)) (h2 : ∀ k ∈ o, k ∉ o.take i → f k = k) : ∀ p ∈ plc o f, p.2 ≠ v := by
  have nd : o.Nodup := pm.nodup_iff.mpr g.nd
  intro p hp ep
  obtain ⟨y, hy, rfl⟩ := List.mem_map.mp hp
  have ep : f y = v := ep
  by_cases hyt : y ∈ o.take i
  · have h3 := h1 y hyt
    rw [ep] at h3
    -- two rows that want v
    have a := newT_mem h3
    have b := newT_mem hv
    obtain ⟨m, hm⟩ := List.getElem?_of_mem a
    obtain ⟨n, hn⟩ := List.getElem?_of_mem b
    have e1 : (r.map (·.2))[m]? = some v := by rw [List.getElem?_map, hm]; rfl
    have e2 : (r.map (·.2))[n]? = some v := by rw [List.getElem?_map, hn]; rfl
    have := Rc.nd_idx inj e1 e2
    subst this
    rw [hm] at hn
    cases hn
    exact not_take nd e hyt
  · have h3 := h2 y hy hyt
    have hyv : y = v := h3.symm.trans ep
    rw [hyv] at hy hyt
    have hw : wtT r x = some v := wtT_some.mpr ⟨hv, hne, pm.mem_iff.mp hy⟩
    rcases ps i x e with h | ⟨z, hz, h⟩
    · rw [hw] at h; cases h
    · rw [hw] at h
      cases h
      exact hyt hz
def spCall (K : PySem.W.Frag) : Sp := fun vs H Q _ => ∃ (x : V) (p t : Addr) (r : Tb) (o : List Int), vs = [x, .ref p, .ref t] ∧ TabAt K H p r ∧ Inj r ∧ SqT K H t (o.map V.int) ∧ o.Perm (keysT r) ∧ Rc.Passing (wtT r) o ∧
  ∀ (H' : Hp) (c ro st e : Addr) (ps : List Addr) (ob : Obj), Same H H' → OutAt K H' c (.ref ro) (.ref st) (.ref e) → SqT K H' st [] → H' e = some (.frz ob (.tup (ps.map V.ref))) → ob.dict = none → DpAll K H' (ps.map V.ref) (r.map rD) → Q (.ref c) H'
theorem refs_of {H : Hp} : ∀ {L : List (List Int)} {xs : List V}, DpAll K H xs (L.map tI) → ∃ ps : List Addr, xs = ps.map V.ref := by
  intro L xs h
  obtain ⟨ks, h1, _⟩ := tups_at h
  exact ⟨ks.map (·.1), by rw [h1, List.map_map]; rfl⟩
theorem sc_rCall : FnScope ["self", "table", "order", "places", "stop", "row", "new", "holder", "ends", "key"] ["self", "table", "order"] (defScope s_rCall) := ⟨rfl, rfl, rfl, by decide +kernel, rfl, by decide +kernel, by decide +kernel⟩
theorem ok_rCall (T : Txt K mg) : FnR P w K mg base CX0 8 (a_rCall K) (spCall K) := by
  have nd := sc_rCall.nd
  refine okR T.f_rCall sc_rCall (fun _ _ _ _ _ _ us hl => match us, hl with | [_, _, _], _ => rfl) (fun vs H Q E h => ?_) (fun cdv A outer s H vs Q E hr h => ?_)
  · obtain ⟨x, p, t, r, o, rfl, _⟩ := h
    rfl
  · obtain ⟨x0, p, t, r, o, rfl, ht, inj, hT, pm, ps, q⟩ := h
    have hu := hu_of hr
    have ndo : o.Nodup := pm.nodup_iff.mpr ht.1.nd
    have hol : o.length ≤ 40 := by
      rw [pm.length_eq]
      exact keys_sz ht.1
    refine ⟨_, (pss_cons (ps_expr (pe_cl (ok_need_order T) (by exact hr.mono (by decide)) (by rfl) T.g_need_order (T.f_need_order.elim fun _ F => F.kp) pass0 (pa_cons (pv 1) (pa_cons (pv 2) pa_nil)))) (pss_cons (ps_asg (pe_tup (pa_cons (pe_dc (own := [("key", 9)]) (g := gName 9) (tt := tYes) rfl nd (pi_tup (pv 2)) (blkOk_by (own := [("key", 9)]) (N := ["self", "table", "order", "places", "stop", "row", "new", "holder", "ends", "key"]) (sc := defScope s_rCall) (by decide +kernel)) (fun _ _ _ _ _ => (pg_name (i := 9) nd rfl (.inl rfl) (.inr rfl))) (fun _ _ _ _ _ => pts_nil) (fun _ _ _ _ _ => (pv 9)) (fun _ _ _ _ _ => (pv 9))) (pa_cons (pe_tup pa_nil) pa_nil))) (pg_tup rfl (pgs_cons (pg_name (i := 3) nd rfl (.inr rfl)) (pgs_cons (pg_name (i := 4) nd rfl (.inl rfl)) pgs_nil)))) (pss_cons (ps_for PassesOwn.never rfl (pi_tup (pv 2)) (pg_name (i := 5) nd rfl (.inl rfl)) (pss_cons (ps_set (i := 6) nd rfl (.inl rfl) (pe_getO T.getO (ok_tGet T) (by exact hr.mono (by decide)) pass0 (pv 1) (pv 5))) (pss_cons (ps_if (pw_or (pt_cmp (pc_isN (pe_dget (by exact hu) (pv 3) (pv 5) (fun _ _ => rfl)))) (pw_or1 (pt_cmpR op_eq (pv 6) (pv 5) (nomark _)))).pt (pss_one ps_continue) pss_nil) (pss_cons (ps_set (i := 7) nd rfl (.inl rfl) (pe_cl (ok_holder_of T) (by exact hr.mono (by decide)) (by rfl) T.g_holder_of (T.f_holder_of.elim fun _ F => F.kp) pass0 (pa_cons (pv 3) (pa_cons (pv 6) pa_nil)))) (pss_cons (ps_if (pt_cmp (pc_isN (pv 7))) (pss_cons (ps_dput hu (pv 3) (pv 5) (pv 6) rfl) (pss_one ps_continue)) pss_nil) pss_never))))) (pss_cons (ps_set (i := 8) nd rfl (.inl rfl) (pe_callTy call_tupleF (by rfl) T.n_tuple (by decide +kernel) (pa_cons (pe_callB (cr_sortD hr.units) (by rfl) T.n_sorted (by decide +kernel) (pa_cons (pe_lock (pe_lc (own := [("row", 5)]) (g := (gName 5)) rfl nd (pi_keys (pv 3)) (blkOk_by (own := [("row", 5)]) (N := ["self", "table", "order", "places", "stop", "row", "new", "holder", "ends", "key"]) (sc := defScope s_rCall) (by decide +kernel)) (fun _ _ _ _ _ => (pg_name (i := 5) nd rfl (.inl rfl) (.inr rfl))) (fun _ _ _ _ _ => (pts_one (pt_cmp (pc_notN (pe_dget (by exact hu) (pv 3) (pv 5) (fun _ _ => rfl)))))) (fun _ _ _ _ _ => (pe_tup (pa_cons (pv 5) (pa_cons (pe_dget (by exact hu) (pv 3) (pv 5) (fun _ _ => rfl)) pa_nil)))))) pa_nil)) pa_nil))) (pss_one (ps_ret (StX.pe_makeR T.mkO (ok_oInit T) (by exact hr.mono (by decide)) (by rfl) T.g_Outcome pass0 (pa_cons (pe_propR (pv 1) T.cl T.rowsP (ok_tRows T) (by exact hr.mono (by decide)) pass0 (by rfl)) (pa_cons (pv 4) (pa_cons (pv 8) pa_nil)))))))))), ?_⟩
    refine ⟨_, rfl, _, rfl, p, t, r, o, rfl, ht, hT, pm, fun H1 s1 => ?_⟩
    have hT1 := Same.tup s1 hT
    -- places
    refine ⟨_, rfl, t, rfl, ⟨_, hT1⟩, fun D hD => ?_⟩
    refine dc_it (walk_tup (xs := o.map V.int)) (fun i H => Same H1 (hid H D) ∧ H D = some (.dK (kvI (plc (o.take i) fun k => k)))) ⟨hid_start hD, upd_same⟩ (fun i H _ ⟨s, _⟩ => Same.tup (s.trans hid_same) hT1) ?_ ?_
    · rintro i x H0 H2 hi ⟨s2, e2⟩ ⟨rfl, ex⟩
      rw [List.getElem?_map] at ex
      obtain ⟨k, e1, rfl⟩ := Option.map_eq_some_iff.mp ex
      refine ⟨rfl, yes ⟨_, rfl, _, rfl, _, Sum.inl k, rfl, e2, small1000 (by rw [kvI_len]; unfold plc; rw [List.length_map, List.length_take]; omega), ?_, ?_⟩⟩
      · rw [hid_upd]
        exact s2
      · rw [upd_same, kvI_put (by rw [plc_keys]; exact not_take ndo e1)]
        unfold plc
        rw [take_map e1]
    · rintro H2 ⟨s2, e2⟩
      rw [memI, List.take_length] at e2
      refine ⟨Nat.zero_le _, fun st hst => ?_⟩
      have hstD : st ≠ D := fun e => by rw [e, e2] at hst; cases hst
      refine ⟨(show 2 ≤ sizeLine by decide), fun tp htp => ?_⟩
      have s3 : Same H2 (upd (upd H2 st (.tup [])) tp (.tup [.ref D, .ref st])) := (same_up hst).trans (same_up htp)
      refine ⟨tp, _, rfl, SqT.of upd_same, rfl, _, _, rfl, _, _, rfl, rfl, ?_⟩
      let H3 : Hp := upd (upd H2 st (.tup [])) tp (.tup [.ref D, .ref st])
      have e3 : H3 D = some (.dK (kvI (plc o fun k => k))) := s3 _ _ e2
      have est : H3 st = some (.tup []) := same_up htp _ _ upd_same
      have s13 : Same H1 (hid H3 D) := s2.trans (hid_mono s3)
      have hT3 : SqT K (hid H3 D) t (o.map V.int) := Same.tup s13 hT1
      have est3 : hid H3 D st = some (.tup []) := by rw [hid_ne hstD]; exact est
      obtain ⟨dx, fs, hi0⟩ := ht.ins
      refine ⟨_, rfl, t, rfl, ⟨_, Same.tup hid_same hT3⟩, ?_⟩
      refine for_it (walk_tup (xs := o.map V.int)) (fun i σ H => (∃ y5 y6 y7, σ = [some x0, some (.ref p), some (.ref t), some (.ref D), some (.ref st), y5, y6, y7, none, none]) ∧ Same (hid H3 D) (hid H D) ∧ ∃ f : Int → Int, H D = some (.dK (kvI (plc o f))) ∧ (∀ k ∈ o.take i, newT r k = some (f k)) ∧ (∀ k ∈ o, k ∉ o.take i → f k = k)) ⟨⟨_, _, _, rfl⟩, Same.refl _, fun k => k, e3, fun k hk => by simp at hk, fun k _ _ => rfl⟩ (fun i σ H _ ⟨_, s, _⟩ => Same.tup (s.trans hid_same) hT3) ?_ ?_
      · rintro i x σ H0 H4 hi ⟨⟨y5, y6, y7, rfl⟩, s4, f, e4, hf1, hf2⟩ ⟨rfl, ex⟩
        rw [List.getElem?_map] at ex
        obtain ⟨k, e1, rfl⟩ := Option.map_eq_some_iff.mp ex
        have hk := List.mem_of_getElem? e1
        have hkr := pm.mem_iff.mp hk
        obtain ⟨v, hv⟩ := newT_some hkr
        have s5 : Same H H4 := ((s1.trans s13).trans s4).trans hid_same
        have hfk : f k = k := hf2 k hk (not_take ndo e1)
        refine ⟨_, rfl, _, rfl, p, dx, fs, rfl, s5 _ _ hi0, ⟨p, r, k, v, rfl, ht.same s5, hv, ?_⟩⟩
        have z : DGet H4 D (V.int k) (valV (kvI (plc o f)) (Sum.inl k)) := DGet.k (k := Sum.inl k) e4
        rw [plc_get ndo hk] at z
        refine ⟨_, rfl, _, rfl, D, _, rfl, z, _, rfl, iteF ?_⟩
        refine ⟨_, rfl, _, rfl, rfl, _, rfl, ?_⟩
        by_cases hvk : v = k
        · rw [dInt, decide_eq_true hvk]
          refine iteT ⟨⟨_, _, _, rfl⟩, s4, f, e4, fun k2 h => ?_, fun k2 h h' => hf2 k2 h fun z => h' (by rw [take_snoc e1]; exact List.mem_append_left _ z)⟩
          rcases mem_take_succ e1 h with h | h
          · exact hf1 k2 h
          · rw [h, hfk, hv, hvk]
        · rw [dInt, decide_eq_false hvk]
          have hfree := go_free ht.1 inj pm ps e1 hv hvk hf1 hf2
          refine iteF ⟨_, rfl, _, rfl, D, plc o f, v, rfl, e4, by rw [plc_keys]; exact ndo, hfree, ?_⟩
          refine ⟨_, rfl, _, rfl, iteT ?_⟩
          refine ⟨_, rfl, _, rfl, _, rfl, D, _, rfl, DPut.k (k := Sum.inl k) e4 (small1000 (by rw [kvI_len]; unfold plc; rw [List.length_map]; omega)), ?_⟩
          refine ⟨⟨_, _, _, rfl⟩, by rw [hid_upd]; exact s4, fun k2 => if k2 = k then v else f k2, by rw [upd_same, plc_put hk], fun k2 h => ?_, fun k2 h h' => ?_⟩
          · show newT r k2 = some (if k2 = k then v else f k2)
            by_cases h2 : k2 = k
            · rw [if_pos h2, h2]
              exact hv
            · rw [if_neg h2]
              rcases mem_take_succ e1 h with h | h
              · exact hf1 k2 h
              · exact absurd h h2
          · have h2 : k2 ≠ k := fun e => h' (by rw [take_snoc e1, e]; simp)
            show (if k2 = k then v else f k2) = k2
            rw [if_neg h2]
            exact hf2 k2 h fun z => h' (by rw [take_snoc e1]; exact List.mem_append_left _ z)
      · rintro σ H4 ⟨⟨y5, y6, y7, rfl⟩, s4, f, e4, hf1, hf2⟩
        rw [memI, List.take_length] at hf1
        have pmr : (plc o f).Perm r := plc_all ht.1.nd pm hf1
        have hpl : (plc o f).length = o.length := List.length_map _
        have s5 : Same H (hid H4 D) := (s1.trans s13).trans s4
        refine ⟨D, _, e4, True.intro, fun od => ⟨_, rfl, D, od, rfl, .inl ⟨_, upd_same, fun D5 hD5 => ?_⟩⟩⟩
        have hD5D : D5 ≠ D := fun e => by
          rw [e, upd_same] at hD5
          cases hD5
        refine lc_go walk_keys (fun i acc H => DpAll K H acc (((plc o f).take i).map rD)) (by rw [kvI_len]; omega) hD5 (fun H s => s _ _ upd_same) .nil ?_ ?_
        · rintro i x H0 H6 acc hi L ⟨rfl, kk, vv, ek, rfl⟩
          obtain ⟨pr, e1, rfl, rfl⟩ := kvI_get ek
          have hfr : H6 D = some (.frz od (.dK (kvI (plc o f)))) := (L.same.trans hid_same) _ _ upd_same
          have z : DGet H6 D (V.int pr.1) (valV (kvI (plc o f)) (Sum.inl pr.1)) := .inl ⟨_, Sum.inl pr.1, .inr ⟨od, hfr⟩, rfl, rfl⟩
          rw [kvI_val, newT_of (by rw [plc_keys]; exact ndo) (List.mem_of_getElem? (show (plc o f)[i]? = some (pr.1, pr.2) from e1))] at z
          refine ⟨rfl, ⟨_, rfl, _, rfl, D, _, rfl, z, _, rfl, iteT ?_⟩⟩
          refine ⟨_, rfl, _, rfl, _, rfl, D, _, rfl, z, (show 2 ≤ sizeLine by decide), fun t2 ht2 => ?_⟩
          have ht2D : t2 ≠ D5 := fun e => by rw [e, L.at_] at ht2; cases ht2
          rw [kvI_len] at hi
          refine L.snoc (by omega) (same_up ht2) ?_
          show DpAll K _ (acc ++ [V.ref t2]) (((plc o f).take (i + 1)).map rD)
          rw [take_map e1]
          refine dpAll_snoc (DpAll.same (hid_mono (same_up ht2)) _ _ L.f) (dp_tI (ns := [pr.1, pr.2]) (SqT.of ?_))
          rw [hid_ne ht2D]
          exact upd_same
        · intro H6 acc s6 e6 f6 _
          have hfr : H6 D = some (.frz od (.dK (kvI (plc o f)))) := s6 _ _ upd_same
          refine ⟨hfr, ?_⟩
          have f7 : DpAll K H6 acc ((plc o f).map rD) := by
            have f6 : DpAll K (hid H6 D5) acc (((plc o f).take (kvI (plc o f)).length).map rD) := f6
            rw [kvI_len, List.take_length] at f6
            exact DpAll.same hid_same _ _ f6
          let H7 : Hp := upd H6 D (.dK (kvI (plc o f)))
          have e7 : H7 D5 = some (.lst acc) := by
            show upd H6 D _ D5 = _
            rw [upd_ne hD5D]
            exact e6
          have f8 : DpAll K H7 acc ((plc o f).map rD) := DpAll.set (notL_frz hfr) _ _ (by rw [rD_map]; exact noLs_tI _) f7
          have s7 : Same (hid H4 D) H7 := fun b o' e => by
            have hb : b ≠ D := fun z => by
              unfold hid at e
              rw [if_pos z] at e
              cases e
            show upd H6 D _ b = _
            rw [upd_ne hb]
            refine s6 _ _ ?_
            rw [upd_ne hb]
            rw [hid_ne hb] at e
            exact e
          refine ⟨D5, acc, (plc o f).map rD, rfl, .inl (SqL.of e7), f8, ?_⟩
          rw [rD_map]
          refine sortGo_tI (by rw [List.length_map]; omega) (rL_ne _) fun l ys S hl' hys pmS pw => ?_
          have hS : S = r.map rL := lex_eq (pmS.trans (pmr.map rL)) pw (rows_sorted ht.1.asc)
          obtain ⟨pp, rfl⟩ := refs_of hys
          refine ⟨l, _, rfl, SqL.of upd_same, fun e ob hob he => ?_⟩
          have s8 : Same H7 (upd (upd H7 l (.lst (pp.map V.ref))) e (.frz ob (.tup (pp.map V.ref)))) := (same_up hl').trans (same_up he)
          have s9 : Same H _ := (s5.trans s7).trans s8
          refine ⟨_, rfl, p, dx, fs, rfl, s9 _ _ hi0, ⟨p, r, rfl, ht.same s9, fun H10 ro s10 _ ⟨rs, hro, hrs⟩ => ?_⟩⟩
          refine ⟨_, rfl, _, rfl, fun c dxc hc hdxc hne => ?_⟩
          refine ⟨c, dxc, .ref ro, .ref st, .ref e, rfl, upd_same, fun tt htt => ⟨rfl, ?_⟩⟩
          have hcc : upd (upd H10 dxc (.own c)) c (.ins (cO K) dxc []) c = some (.ins (cO K) dxc []) := upd_same
          have httc : tt ≠ c := fun e => by rw [e, hcc] at htt; cases htt
          have sf : Same H10 (upd (upd (upd (upd H10 dxc (.own c)) c (.ins (cO K) dxc [])) tt (.tup [.ref ro, .ref st, .ref e])) c (.ins (cO K) dxc [("triple", .ref tt)])) := fun b u eb => by
            have hbc : b ≠ c := fun z => by rw [z, hc] at eb; cases eb
            have hbd : b ≠ dxc := fun z => by rw [z, hdxc] at eb; cases eb
            rw [upd_ne hbc]
            refine same_up htt _ _ ?_
            rw [upd_ne hbc, upd_ne hbd]
            exact eb
          have sA := (s8.trans s10).trans sf
          refine q _ c ro st e pp ob ((s9.trans s10).trans sf) ⟨dxc, tt, upd_same, SqT.of ?_⟩ (SqT.of (sA _ _ (s7 _ _ (s4 _ _ est3)))) ((s10.trans sf) _ _ upd_same) hob ?_
          · rw [upd_ne httc]
            exact upd_same
          · rw [rD_map, ← hS]
            exact DpAll.same sA _ _ hys
end
end Rw

-- D20
set_option Elab.async false
set_option linter.all false
set_option maxRecDepth 100000
set_option maxHeartbeats 4000000
/-! The law's pen: _law_cell_at, _law_pen, _law_draw, _law_pick. -/
namespace Rw
open PySem PySem.Spec PyProof.Rows L2
section
variable {P : Program} {w : World} {K : PySem.W.Frag} {mg : Str → Option Value} {base : Heap}

def spCell (K : PySem.W.Frag) : Sp := fun vs H Q _ => ∃ (a : Addr) (ns : List Int) (k : Nat), vs = [.ref a, .int k] ∧ SqL K H a (ns.map V.int) ∧ ∀ x : Int, Q (.int x) H
theorem sc_law_cell_at : FnScope ["_law_script", "_law_k"] ["_law_script", "_law_k"] (defScope s_law_cell_at) := ⟨rfl, rfl, rfl, by decide +kernel, rfl, by decide +kernel, by decide +kernel⟩
theorem ok_law_cell_at (T : Txt K mg) : FnR P w K mg base CX0 1 (a_law_cell_at K) (spCell K) := by
  have nd := sc_law_cell_at.nd
  refine okR T.f_law_cell_at sc_law_cell_at (fun _ _ _ _ _ _ us hl => match us, hl with | [_, _], _ => rfl) (fun vs H Q E h => ?_) (fun cdv A outer s H vs Q E hr h => ?_)
  · obtain ⟨a, ns, k, rfl, _⟩ := h
    rfl
  · obtain ⟨a, ns, k, rfl, ha, q⟩ := h
    refine ⟨_, (pss_cons (ps_if (pt_cmpR op_lt (pv 1) (pe_callB call_len_seq (by rfl) T.n_len (by decide +kernel) (pa_cons (pv 0) pa_nil)) (nomark _)) (pss_one (ps_ret (pe_ix ix_list (pv 0) (pv 1) (fun _ _ => rfl)))) pss_nil) (pss_one (ps_ret pe_int))), ?_⟩
    refine ⟨_, rfl, _, rfl, a, _, rfl, .inl ha, _, _, rfl, rfl, _, rfl, ?_⟩
    refine ite2 (fun z => ?_) (fun z => q 0)
    have z := of_decide_eq_true z
    rw [memI] at z
    have hk : k < ns.length := by omega
    refine ⟨_, rfl, _, rfl, a, _, _, _, rfl, rfl, ha, atI_nat (j := k) (v := .int ns[k]) (by rw [List.getElem?_map, List.getElem?_eq_getElem hk]; rfl), q _⟩
/-- what a pen holds -/
def PenL (l : List V) : Prop := ∃ a b c : Int, l = [.int a, .int b, .int c] ∧ 0 ≤ b ∧ b < 2 ^ 31
def spPen : Sp := fun vs H Q _ => ∃ x : Int, vs = [.int x] ∧ ∀ p l, H p = none → PenL l → Q (.ref p) (upd H p (.lst l))
theorem sc_law_pen : FnScope ["_law_cell"] ["_law_cell"] (defScope s_law_pen) := ⟨rfl, rfl, rfl, by decide +kernel, rfl, by decide +kernel, by decide +kernel⟩
theorem ok_law_pen (T : Txt K mg) : FnR P w K mg base CX0 1 (a_law_pen K) spPen := by
  have nd := sc_law_pen.nd
  refine okR T.f_law_pen sc_law_pen (fun _ _ _ _ _ _ us hl => match us, hl with | [_], _ => rfl) (fun vs H Q E h => ?_) (fun cdv A outer s H vs Q E hr h => ?_)
  · obtain ⟨x, rfl, _⟩ := h
    rfl
  · obtain ⟨x, rfl, q⟩ := h
    refine ⟨_, (pss_one (ps_ret (pe_lst (pa_cons (pe_callB (call_max2 rfl) (by rfl) T.n_max (by decide +kernel) (pa_cons pe_int (pa_cons (pe_op op_sub (pv 0) (pe_op op_pow pe_int pe_int)) pa_nil))) (pa_cons (pe_op op_mod (pe_callTy call_int1 (by rfl) T.n_int (by decide +kernel) (pa_cons (pv 0) pa_nil)) pe_int) (pa_cons pe_int pa_nil)))))), ?_⟩
    refine ⟨_, rfl, _, _, rfl, rfl, ⟨by decide, by decide, by decide⟩, _, _, rfl, rfl, _, _, rfl, ?_⟩
    refine ⟨_, rfl, .inl ⟨_, rfl, _, _, rfl, rfl, (by decide : (0 : Int) < 2147483629), ?_⟩⟩
    refine ⟨(show 3 ≤ sizeLine by decide), fun p hp => q p _ hp ⟨_, _, _, rfl, Int.emod_nonneg _ (by decide), ?_⟩⟩
    have : x % 2147483629 < 2147483629 := Int.emod_lt_of_pos _ (by decide)
    omega
def spDraw : Sp := fun vs H Q _ => ∃ (pn : Addr) (n : Int) (l : List V), vs = [.ref pn, .int n] ∧ H pn = some (.lst l) ∧ PenL l ∧ 0 < n ∧ n < 1000000 ∧ ∀ k l', 0 ≤ k → k < n → PenL l' → Q (.int k) (upd H pn (.lst l'))
theorem sc_law_draw : FnScope ["_law_pen_here", "_law_many", "_law_digit", "_law_stirred"] ["_law_pen_here", "_law_many"] (defScope s_law_draw) := ⟨rfl, rfl, rfl, by decide +kernel, rfl, by decide +kernel, by decide +kernel⟩
theorem ok_law_draw (T : Txt K mg) : FnR P w K mg base CX0 1 (a_law_draw K) spDraw := by
  have nd := sc_law_draw.nd
  refine okR T.f_law_draw sc_law_draw (fun _ _ _ _ _ _ us hl => match us, hl with | [_, _], _ => rfl) (fun vs H Q E h => ?_) (fun cdv A outer s H vs Q E hr h => ?_)
  · obtain ⟨pn, n, l, rfl, _⟩ := h
    rfl
  · obtain ⟨pn, n, l, rfl, hp, ⟨a, b, c, rfl, hb0, hb1⟩, hn0, hn1, q⟩ := h
    refine ⟨_, (pss_cons (ps_if (pt_cmpR op_gt (pe_ix ix_list (pv 0) pe_int (fun _ _ => rfl)) pe_int (nomark _)) (pss_cons (ps_set (i := 2) nd rfl (.inl rfl) (pe_op op_mod (pe_callTy call_int1 (by rfl) T.n_int (by decide +kernel) (pa_cons (pe_ix ix_list (pv 0) pe_int (fun _ _ => rfl)) pa_nil)) (pv 1))) (pss_cons (ps_asg (pe_op op_fdiv (pe_ix ix_list (pv 0) pe_int (fun _ _ => rfl)) (pv 1)) (pg_sub (pv 0) pe_int set_list)) (pss_one (ps_ret (pv 2))))) pss_nil) (pss_cons (ps_asg (pe_op op_add (pe_ix ix_list (pv 0) pe_int (fun _ _ => rfl)) pe_int) (pg_sub (pv 0) pe_int set_list)) (pss_cons (ps_asg (pe_op op_mod (pe_callTy call_int1 (by rfl) T.n_int (by decide +kernel) (pa_cons (pe_op op_add (pe_op op_add (pe_op op_mul (pe_ix ix_list (pv 0) pe_int (fun _ _ => rfl)) pe_int) (pe_op op_mul pe_int (pe_ix ix_list (pv 0) pe_int (fun _ _ => rfl)))) pe_int) pa_nil)) pe_int) (pg_sub (pv 0) pe_int set_list)) (pss_cons (ps_set (i := 3) nd rfl (.inl rfl) (pe_op op_mod (pe_callTy call_int1 (by rfl) T.n_int (by decide +kernel) (pa_cons (pe_op op_add (pe_op op_add (pe_op op_mul (pe_ix ix_list (pv 0) pe_int (fun _ _ => rfl)) (pe_ix ix_list (pv 0) pe_int (fun _ _ => rfl))) (pe_op op_mul pe_int (pe_ix ix_list (pv 0) pe_int (fun _ _ => rfl)))) (pe_ix ix_list (pv 0) pe_int (fun _ _ => rfl))) pa_nil)) pe_int)) (pss_one (ps_ret (pe_op op_mod (pe_callTy call_int1 (by rfl) T.n_int (by decide +kernel) (pa_cons (pe_op op_fdiv (pe_op op_mod (pe_callTy call_int1 (by rfl) T.n_int (by decide +kernel) (pa_cons (pe_op op_mul (pv 3) pe_int) pa_nil)) pe_int) pe_int) pa_nil)) (pv 1)))))))), ?_⟩
    have hm : ∀ x : Int, 0 ≤ x % n ∧ x % n < n := fun x => ⟨Int.emod_nonneg _ (by omega), Int.emod_lt_of_pos _ hn0⟩
    refine ⟨_, rfl, pn, _, 0, _, rfl, rfl, SqL.of hp, atI_nat (j := 0) rfl, _, _, rfl, rfl, _, rfl, ?_⟩
    refine ite2 (fun z => ?_) (fun z => ?_)
    · refine ⟨_, rfl, pn, _, 0, _, rfl, rfl, SqL.of hp, atI_nat (j := 0) rfl, .inl ⟨_, rfl, _, rfl, _, _, rfl, rfl, hn0, ?_⟩⟩
      refine ⟨_, rfl, pn, _, 0, _, rfl, rfl, SqL.of hp, atI_nat (j := 0) rfl, _, rfl, _, _, rfl, rfl, ⟨hn0, by omega⟩, ?_⟩
      refine ⟨_, rfl, pn, _, 0, 0, rfl, rfl, hp, rfl, _, rfl, ?_⟩
      exact q _ _ (hm a).1 (hm a).2 ⟨_, _, _, rfl, hb0, hb1⟩
    · refine ⟨_, rfl, pn, _, 2, _, rfl, rfl, SqL.of hp, atI_nat (j := 2) rfl, _, _, rfl, rfl, ?_⟩
      refine ⟨_, rfl, pn, _, 2, 2, rfl, rfl, hp, rfl, ?_⟩
      have e1 : (upd H pn (.lst ([V.int a, V.int b, V.int c].set 2 (.int (c + 1))))) pn = some (.lst [V.int a, V.int b, .int (c + 1)]) := upd_same
      have hq1 : 0 ≤ (b * 48271 + 7919 * (c + 1) + 11) % 2147483647 := Int.emod_nonneg _ (by decide)
      have hq2 : (b * 48271 + 7919 * (c + 1) + 11) % 2147483647 < 2147483647 := Int.emod_lt_of_pos _ (by decide)
      refine ⟨_, rfl, pn, _, 1, _, rfl, rfl, SqL.of e1, atI_nat (j := 1) rfl, _, _, rfl, rfl, .inl ⟨by omega, by omega⟩, ?_⟩
      refine ⟨_, rfl, pn, _, 2, _, rfl, rfl, SqL.of e1, atI_nat (j := 2) rfl, _, _, rfl, rfl, .inl ⟨by omega, by omega⟩, ?_⟩
      refine ⟨_, _, rfl, rfl, _, _, rfl, rfl, .inl ⟨_, rfl, _, _, rfl, rfl, (by decide : (0 : Int) < 2147483647), ?_⟩⟩
      refine ⟨_, rfl, pn, _, 1, 1, rfl, rfl, e1, rfl, ?_⟩
      rw [upd_upd]
      have e2 : (upd H pn (.lst ([V.int a, V.int b, V.int (c + 1)].set 1 (.int ((b * 48271 + 7919 * (c + 1) + 11) % 2147483647))))) pn = some (.lst [V.int a, .int ((b * 48271 + 7919 * (c + 1) + 11) % 2147483647), .int (c + 1)]) := upd_same
      refine ⟨_, rfl, pn, _, 1, _, rfl, rfl, SqL.of e2, atI_nat (j := 1) rfl, _, rfl, pn, _, 1, _, rfl, rfl, SqL.of e2, atI_nat (j := 1) rfl, _, _, rfl, rfl, .inl ⟨by omega, by omega⟩, ?_⟩
      refine ⟨_, rfl, pn, _, 1, _, rfl, rfl, SqL.of e2, atI_nat (j := 1) rfl, _, _, rfl, rfl, .inl ⟨by omega, by omega⟩, ?_⟩
      refine ⟨_, _, rfl, rfl, _, rfl, pn, _, 2, _, rfl, rfl, SqL.of e2, atI_nat (j := 2) rfl, _, _, rfl, rfl, .inl ⟨_, rfl, _, _, rfl, rfl, (by decide : (0 : Int) < 2147483563), ?_⟩⟩
      refine ⟨_, rfl, _, _, rfl, rfl, .inr ⟨by omega, by omega⟩, .inl ⟨_, rfl, _, _, rfl, rfl, (by decide : (0 : Int) < 2147483647), ?_⟩⟩
      refine ⟨_, _, rfl, rfl, ⟨by omega, by omega⟩, .inl ⟨_, rfl, _, rfl, _, _, rfl, rfl, hn0, ?_⟩⟩
      exact q _ _ (hm _).1 (hm _).2 ⟨_, _, _, rfl, hq1, by omega⟩
def spPick (K : PySem.W.Frag) : Sp := fun vs H Q _ => ∃ (pn t : Addr) (l : List V) (ns : List Int), vs = [.ref pn, .ref t] ∧ H pn = some (.lst l) ∧ PenL l ∧ t ≠ pn ∧ SqL K H t (ns.map V.int) ∧ ns ≠ [] ∧ ns.length ≤ 900 ∧ ∀ x l', x ∈ ns → PenL l' → Q (.int x) (upd H pn (.lst l'))
theorem seq_ne {H : Hp} {t pn : Addr} {xs : List V} {o : HO} (h : SqL K H t xs) (ne : t ≠ pn) : SqL K (upd H pn o) t xs := by
  rcases h with (h | ⟨o', h⟩) | h
  · exact .inl (.inl (by rw [upd_ne ne]; exact h))
  · exact .inl (.inr ⟨o', by rw [upd_ne ne]; exact h⟩)
  · exact .inr h
theorem sc_law_pick : FnScope ["_law_pen_here", "_law_things"] ["_law_pen_here", "_law_things"] (defScope s_law_pick) := ⟨rfl, rfl, rfl, by decide +kernel, rfl, by decide +kernel, by decide +kernel⟩
theorem ok_law_pick (T : Txt K mg) : FnR P w K mg base CX0 2 (a_law_pick K) (spPick K) := by
  have nd := sc_law_pick.nd
  refine okR T.f_law_pick sc_law_pick (fun _ _ _ _ _ _ us hl => match us, hl with | [_, _], _ => rfl) (fun vs H Q E h => ?_) (fun cdv A outer s H vs Q E hr h => ?_)
  · obtain ⟨pn, t, l, ns, rfl, _⟩ := h
    rfl
  · obtain ⟨pn, t, l, ns, rfl, hp, hl, hne, ht, hn, hsz, q⟩ := h
    refine ⟨_, (pss_one (ps_ret (pe_ix ix_list (pv 1) (pe_cl (ok_law_draw T) (by exact hr.mono (by decide)) (by rfl) T.g_law_draw (T.f_law_draw.elim fun _ F => F.kp) pass0 (pa_cons (pv 0) (pa_cons (pe_callB call_len_seq (by rfl) T.n_len (by decide +kernel) (pa_cons (pv 1) pa_nil)) pa_nil))) (fun _ _ => rfl)))), ?_⟩
    have hpos : 0 < ns.length := List.length_pos_iff.mpr hn
    refine ⟨_, rfl, _, rfl, _, rfl, t, _, rfl, .inl ht, pn, _, l, rfl, hp, hl, by rw [memI]; omega, by rw [memI]; omega, fun k l' h0 h1 hl' => ?_⟩
    rw [memI] at h1
    obtain ⟨m, rfl⟩ : ∃ m : Nat, k = m := ⟨k.toNat, by omega⟩
    have hk : m < ns.length := by omega
    exact ⟨t, _, _, _, rfl, rfl, seq_ne ht hne, atI_nat (v := V.int ns[m]) (by rw [List.getElem?_map, List.getElem?_eq_getElem hk]; rfl), q ns[m] l' (List.getElem_mem hk) hl'⟩
end
end Rw

-- D21
set_option Elab.async false
set_option linter.all false
set_option maxRecDepth 100000
set_option maxHeartbeats 4000000
/-! _law_mixed. -/
namespace Rw
open PySem PySem.Spec PyProof.Rows L2
section
variable {P : Program} {w : World} {K : PySem.W.Frag} {mg : Str → Option Value} {base : Heap}

def PenOk (H : Hp) (pn : Addr) : Prop := ∃ l, H pn = some (.lst l) ∧ PenL l
theorem PenOk.upd {H : Hp} {pn a : Addr} {o : HO} (h : PenOk H pn) (ne : a ≠ pn) : PenOk (upd H a o) pn := by
  obtain ⟨l, e, p⟩ := h
  exact ⟨l, by rw [upd_ne (Ne.symm ne)]; exact e, p⟩
theorem PenOk.same {H H' : Hp} {pn : Addr} (h : PenOk H pn) (s : Same H H') : PenOk H' pn := by
  obtain ⟨l, e, p⟩ := h
  exact ⟨l, s _ _ e, p⟩
theorem seqIx {n : Nat} {k : Nat} (h : k < n) : seqIndex? (k : Int) n = some k := by
  unfold seqIndex?
  have h1 : ¬ (k : Int) < 0 := by omega
  rw [if_neg h1]
  simp [h]
/-- a new thing does not stand where the base does -/
theorem base_up {H H' : Hp} {pn a : Addr} {o : HO} (s : Same (hid H pn) (hid H' pn)) (ha : H a = none) (ne : a ≠ pn) : Same (hid H pn) (hid (upd H' a o) pn) := by
  rw [hid_up ne]
  exact Same.set s (by rw [hid_ne ne]; exact ha)
theorem eraseIdx_map {α β : Type} (f : α → β) : ∀ (l : List α) (j : Nat), (l.map f).eraseIdx j = (l.eraseIdx j).map f
  | [], _ => by simp
  | _ :: _, 0 => by simp
  | a :: l, j + 1 => by
    rw [List.map_cons, List.eraseIdx_cons_succ, List.eraseIdx_cons_succ, List.map_cons, eraseIdx_map f l j]
theorem erase_perm {α : Type} : ∀ (l : List α) (j : Nat) (h : j < l.length), (l[j] :: l.eraseIdx j).Perm l
  | a :: l, 0, _ => by
    rw [List.eraseIdx_cons_zero]
    exact .refl _
  | a :: l, j + 1, h => by
    rw [List.eraseIdx_cons_succ]
    show (l[j]'(by simpa using h) :: a :: l.eraseIdx j).Perm (a :: l)
    exact (List.Perm.swap _ _ _).trans ((erase_perm l j (by simpa using h)).cons a)
def spMixed (K : PySem.W.Frag) : Sp := fun vs H Q _ => ∃ (pn t : Addr) (xs : List V) (ds : List PyData), vs = [.ref pn, .ref t] ∧ PenOk H pn ∧ (SqL K (hid H pn) t xs ∨ SqT K (hid H pn) t xs) ∧ DpAll K (hid H pn) xs ds ∧ (∀ es, (∀ d ∈ es, d ∈ ds) → SeqAt.shaped (.list es) = true) ∧ xs.length ≤ 900 ∧
  ∀ (H' : Hp) (l : Addr) (ys : List V) (es : List PyData), Same (hid H pn) (hid H' pn) → PenOk H' pn → H l = none → H' l = some (.lst ys) → DpAll K (hid H pn) ys es → es.Perm ds → Q (.ref l) H'
theorem sc_law_mixed : FnScope ["_law_pen_here", "_law_things", "_law_left", "_law_found"] ["_law_pen_here", "_law_things"] (defScope s_law_mixed) := ⟨rfl, rfl, rfl, by decide +kernel, rfl, by decide +kernel, by decide +kernel⟩
theorem ok_law_mixed (T : Txt K mg) : FnR P w K mg base CX0 2 (a_law_mixed K) (spMixed K) := by
  have nd := sc_law_mixed.nd
  refine okR T.f_law_mixed sc_law_mixed (fun _ _ _ _ _ _ us hl => match us, hl with | [_, _], _ => rfl) (fun vs H Q E h => ?_) (fun cdv A outer s H vs Q E hr h => ?_)
  · obtain ⟨pn, t, xs, ds, rfl, _⟩ := h
    rfl
  · obtain ⟨pn, t, xs, ds, rfl, hp, ht, hd, hsh, hsz, q⟩ := h
    refine ⟨_, (pss_cons (ps_par (i := 2) (j := 3) (by rfl) nd rfl rfl (by decide) rfl rfl (pa_cons (pe_callTy call_list_of (by rfl) T.n_list (by decide +kernel) (pa_cons (pv 1) pa_nil)) (pa_cons (pe_lst pa_nil) pa_nil)) (by rfl)) (pss_cons (ps_while PassesOwn.never (pt_cmpR (op_neD hr.units) (pv 2) (pe_lst pa_nil) (nomark _)) (pss_one (ps_expr (pe_bm PySem.F.plainAttrs_list PySem.F.slot_list_append PySem.F.type_list_append mt_append (pv 3) (pa_cons (pe_bm PySem.F.plainAttrs_list PySem.F.slot_list_pop PySem.F.type_list_pop mt_popAt (pv 2) (pa_cons (pe_cl (ok_law_draw T) (by exact hr.mono (by decide)) (by rfl) T.g_law_draw (T.f_law_draw.elim fun _ F => F.kp) pass0 (pa_cons (pv 0) (pa_cons (pe_callB call_len_seq (by rfl) T.n_len (by decide +kernel) (pa_cons (pv 2) pa_nil)) pa_nil))) pa_nil)) pa_nil))))) (pss_one (ps_ret (pv 3))))), ?_⟩
    obtain ⟨l0, ep0, pl0⟩ := id hp
    refine ⟨_, rfl, t, xs, rfl, ht.imp (fun h => hid_same.seq h) (fun h => Same.tup hid_same h), fun L hL => ?_⟩
    refine ⟨Nat.zero_le _, fun F hF => ⟨_, _, rfl, ?_⟩⟩
    have hLp : L ≠ pn := fun e => by rw [e, ep0] at hL; cases hL
    have hFL : F ≠ L := fun e => by rw [e, upd_same] at hF; cases hF
    have hF0 : H F = none := by rw [upd_ne hFL] at hF; exact hF
    have hFp : F ≠ pn := fun e => by rw [e, ep0] at hF0; cases hF0
    obtain ⟨hl, hz⟩ := dpAll_zip hd
    have z1 : (xs.zip ds).map Prod.fst = xs := List.map_fst_zip (by omega)
    have z2 : (xs.zip ds).map Prod.snd = ds := List.map_snd_zip (by omega)
    refine ⟨fun m σ H' => ∃ zl zf : List (V × PyData), σ = [some (.ref pn), some (.ref t), some (.ref L), some (.ref F)] ∧ Same (hid H pn) (hid H' pn) ∧ PenOk H' pn ∧ H' L = some (.lst (zl.map Prod.fst)) ∧ H' F = some (.lst (zf.map Prod.fst)) ∧ (zl ++ zf).Perm (xs.zip ds) ∧ zl.length = m, ⟨xs.length, xs.zip ds, [], rfl, base_up (base_up (Same.refl _) hL hLp) hF0 hFp, (hp.upd hLp).upd hFp, ?_, upd_same, by rw [List.append_nil], ?_⟩, ?_⟩
    · rw [upd_ne (Ne.symm hFL), upd_same, z1]
    · rw [List.length_zip]
      omega
    · rintro m σ H1 ⟨zl, zf, rfl, s1, hp1, eL, eF, pm, hm⟩
      have hmem : ∀ z ∈ zl ++ zf, Dp K (hid H pn) z.1 z.2 := fun z h => hz z (pm.mem_iff.mp h)
      have hlen : zl.length + zf.length ≤ 900 := by
        have := pm.length_eq
        rw [List.length_append, List.length_zip] at this
        omega
      refine ⟨_, rfl, Nat.zero_le _, fun n hn => ?_⟩
      have s2 : Same (hid H pn) (upd H1 n (.lst [])) := (s1.trans hid_same).trans (same_up hn)
      have hd1 : DpAll K (upd H1 n (.lst [])) (zl.map Prod.fst) (zl.map Prod.snd) := dpAll_of_zip fun z h => Dp.same s2 _ _ (hmem z (List.mem_append_left _ h))
      have hnp : n ≠ pn := fun e => by
        obtain ⟨l', e', _⟩ := hp1
        rw [e, e'] at hn
        cases hn
      have hnL : n ≠ L := fun e => by rw [e, eL] at hn; cases hn
      have hnF : n ≠ F := fun e => by rw [e, eF] at hn; cases hn
      have eL2 : upd H1 n (.lst []) L = some (.lst (zl.map Prod.fst)) := same_up hn _ _ eL
      have eF2 : upd H1 n (.lst []) F = some (.lst (zf.map Prod.fst)) := same_up hn _ _ eF
      have s3 : Same (hid H pn) (hid (upd H1 n (.lst [])) pn) := s1.trans (hid_mono (same_up hn))
      obtain ⟨l2, ep2, pl2⟩ := hp1.upd (o := .lst []) hnp
      refine ⟨.list (zl.map Prod.snd), .list [], .lst (SqL.of eL2) hd1, .lst (SqL.of upd_same) .nil, hsh _ fun d hd' => ?_, shaped_nil, _, rfl, ?_⟩
      · obtain ⟨z, hz1, rfl⟩ := List.mem_map.mp hd'
        rw [← z2]
        exact List.mem_map.mpr ⟨z, pm.mem_iff.mp (List.mem_append_left _ hz1), rfl⟩
      · rw [eqv_lnil]
        refine ite2 (fun z => ?_) (fun z => ?_)
        · have hne : zl ≠ [] := fun e => by
            rw [e] at z
            simp at z
          have hpos : 0 < zl.length := List.length_pos_iff.mpr hne
          cases m with
          | zero => omega
          | succ m =>
            refine ⟨fun σ H' => ∃ zl zf : List (V × PyData), σ = [some (.ref pn), some (.ref t), some (.ref L), some (.ref F)] ∧ Same (hid H pn) (hid H' pn) ∧ PenOk H' pn ∧ H' L = some (.lst (zl.map Prod.fst)) ∧ H' F = some (.lst (zf.map Prod.fst)) ∧ (zl ++ zf).Perm (xs.zip ds) ∧ zl.length = m, fun σ' H' h => ⟨m, Nat.lt_succ_self m, h⟩, ?_⟩
            have ml : (zl.map Prod.fst).length = zl.length := List.length_map _
            refine ⟨_, rfl, .inl ⟨rfl, _, SqL.of eF2⟩, _, rfl, .inl ⟨rfl, _, SqL.of eL2⟩, _, rfl, _, rfl, L, _, rfl, .inl (SqL.of eL2), ?_⟩
            refine ⟨pn, _, l2, rfl, ep2, pl2, by rw [ml]; omega, by rw [ml]; omega, fun k l3 h0 h1 hl3 => ?_⟩
            rw [ml] at h1
            obtain ⟨j, rfl⟩ : ∃ j : Nat, k = j := ⟨k.toNat, by omega⟩
            have hj : j < zl.length := by omega
            refine ⟨L, zl.map Prod.fst, _, j, zl[j].1, rfl, rfl, by rw [upd_ne hLp]; exact eL2, by omega, by omega, by rw [ml]; exact seqIx hj, by rw [List.getElem?_map, List.getElem?_eq_getElem hj]; rfl, ?_⟩
            refine ⟨F, zf.map Prod.fst, _, rfl, rfl, by rw [upd_ne hFL, upd_ne hFp]; exact eF2, small1000 (by rw [List.length_map]; omega), ?_⟩
            refine ⟨zl.eraseIdx j, zf ++ [zl[j]], rfl, ?_, ?_, ?_, ?_, ?_, ?_⟩
            · refine base_up (base_up ?_ hL hLp) hF0 hFp
              rw [hid_upd]
              exact s3
            · exact (PenOk.upd (PenOk.upd ⟨l3, upd_same, hl3⟩ hLp) hFp)
            · rw [upd_ne (Ne.symm hFL), upd_same, eraseIdx_map]
            · rw [upd_same, List.map_append]
              rfl
            · have h1 : (zl[j] :: zl.eraseIdx j).Perm zl := erase_perm zl j hj
              refine List.Perm.trans ?_ pm
              refine List.Perm.trans ?_ (h1.append_right zf)
              rw [← List.append_assoc]
              exact List.perm_append_singleton _ _
            · rw [List.length_eraseIdx_of_lt hj]
              omega
        · have hnil : zl = [] := by
            have : zl.map Prod.snd = [] := by simpa using z
            exact List.map_eq_nil_iff.mp this
          subst hnil
          refine ⟨_, rfl, ?_⟩
          refine q _ F (zf.map Prod.fst) (zf.map Prod.snd) s3 ⟨l2, ep2, pl2⟩ hF0 eF2 (dpAll_of_zip fun z h => hmem z (by simpa using h)) ?_
          have pm : zf.Perm (xs.zip ds) := pm
          have := pm.map Prod.snd
          rwa [z2] at this
end
end Rw

-- M4
set_option Elab.async false
set_option linter.all false
set_option maxHeartbeats 4000000
/-! The law's chains and rings: drawn spots, no two rows with one key or one new key. -/
namespace Rw
open PySem PySem.Spec PyProof.Rows L2
structure LInv (m : Nat) (φ : Int → Int) (S : List Int) (d : Tb) (left : Nat) : Prop where
  nd : S.Nodup
  rg : ∀ x ∈ S, 0 ≤ x ∧ x ≤ 2 * m + 1
  many : 2 * left + 2 ≤ S.length
  len : d.length + left ≤ m
  use : ∃ A B : List Int, d.map (·.1) = A.map φ ∧ d.map (·.2) = B.map φ ∧ A.Nodup ∧ B.Nodup ∧ (∀ x ∈ A, (0 ≤ x ∧ x ≤ 2 * m + 1) ∧ x ∉ S) ∧ (∀ x ∈ B, (0 ≤ x ∧ x ≤ 2 * m + 1) ∧ x ∉ S)
def lineOf (S : List Int) (s : Nat) : List Int := S.take (s + 1)
def endsOf (S : List Int) (s : Nat) (b : Bool) : List Int := ((lineOf S s).drop 1).take (s - 1) ++ (if b = true then (lineOf S s).take 1 else (lineOf S s).drop s)
theorem line_len {S : List Int} {s : Nat} (h : s + 1 ≤ S.length) : (lineOf S s).length = s + 1 := by
  unfold lineOf
  rw [List.length_take]
  omega
theorem ends_len {S : List Int} {s : Nat} {b : Bool} (h : s + 1 ≤ S.length) (hs : 1 ≤ s) : (endsOf S s b).length = s := by
  have := line_len h
  unfold endsOf
  rw [List.length_append, List.length_take, List.length_drop]
  cases b with
  | true =>
    rw [if_pos rfl, List.length_take]
    omega
  | false =>
    rw [if_neg Bool.false_ne_true, List.length_drop]
    omega
theorem ends_sub {S : List Int} {s : Nat} {b : Bool} : ∀ x ∈ endsOf S s b, x ∈ lineOf S s := by
  intro x hx
  unfold endsOf at hx
  rcases List.mem_append.mp hx with h | h
  · exact List.mem_of_mem_drop (List.mem_of_mem_take h)
  · split at h
    · exact List.mem_of_mem_take h
    · exact List.mem_of_mem_drop h
theorem ends_nd {S : List Int} {s : Nat} {b : Bool} (h : s + 1 ≤ S.length) (hs : 1 ≤ s) (nd : S.Nodup) : (endsOf S s b).Nodup := by
  have ndl : (lineOf S s).Nodup := nd.sublist (List.take_sublist _ _)
  have hl := line_len h
  unfold endsOf
  cases e : lineOf S s with
  | nil => rw [e] at hl; simp at hl
  | cons c rest =>
    rw [e] at ndl hl
    obtain ⟨hc, hr⟩ := List.nodup_cons.mp ndl
    have hrl : rest.length = s := by simpa using hl
    have e1 : (c :: rest).drop 1 = rest := rfl
    rw [e1]
    cases b with
    | true =>
      rw [if_pos rfl]
      have e2 : (c :: rest).take 1 = [c] := rfl
      rw [e2]
      refine List.nodup_append.mpr ⟨hr.sublist (List.take_sublist _ _), by simp, fun x hx y hy e3 => ?_⟩
      have : y = c := by simpa using hy
      rw [← this, ← e3] at hc
      exact hc (List.mem_of_mem_take hx)
    | false =>
      rw [if_neg Bool.false_ne_true]
      have e2 : (c :: rest).drop s = rest.drop (s - 1) := by
        obtain ⟨t, rfl⟩ : ∃ t, s = t + 1 := ⟨s - 1, by omega⟩
        rfl
      rw [e2, List.take_append_drop]
      exact hr
theorem zip_fst {A B : List Int} (h : B.length ≤ A.length) : (A.zip B).map (·.1) = A.take B.length := by
  induction B generalizing A with
  | nil => simp
  | cons b B ih =>
    cases A with
    | nil => simp at h
    | cons a A =>
      rw [List.zip_cons_cons, List.map_cons, List.length_cons, List.take_succ_cons, ih (by simpa using h)]
theorem zip_snd {A B : List Int} (h : B.length ≤ A.length) : (A.zip B).map (·.2) = B := List.map_snd_zip h
theorem linv_step {m : Nat} {φ : Int → Int} {S : List Int} {d : Tb} {left s : Nat} {b : Bool} (h : LInv m φ S d left) (h1 : 1 ≤ s) (h2 : s ≤ left) :
    LInv m φ (S.drop (s + 1)) (d ++ ((lineOf S s).zip (endsOf S s b)).map fun p => (φ p.1, φ p.2)) (left - s) := by
  have hm := h.many
  have hsl : s + 1 ≤ S.length := by omega
  have hll := line_len hsl
  have hel := ends_len (b := b) hsl h1
  have hz := zip_fst (A := lineOf S s) (B := endsOf S s b) (by omega)
  have hz2 := zip_snd (A := lineOf S s) (B := endsOf S s b) (by omega)
  have hsplit : S = lineOf S s ++ S.drop (s + 1) := (List.take_append_drop _ _).symm
  have hdis : ∀ x ∈ lineOf S s, x ∉ S.drop (s + 1) := by
    intro x hx hx2
    have ndS := h.nd
    rw [hsplit] at ndS
    exact (List.nodup_append.mp ndS).2.2 x hx x hx2 rfl
  have hline : ∀ x ∈ lineOf S s, x ∈ S := fun x hx => List.mem_of_mem_take hx
  obtain ⟨A, B, e1, e2, n1, n2, a1, b1⟩ := h.use
  refine ⟨h.nd.sublist (List.drop_sublist _ _), fun x hx => h.rg x (List.mem_of_mem_drop hx), ?_, ?_, A ++ (lineOf S s).take s, B ++ endsOf S s b, ?_, ?_, ?_, ?_, ?_, ?_⟩
  · rw [List.length_drop]
    omega
  · rw [List.length_append, List.length_map, List.length_zip, hll, hel]
    have := h.len
    omega
  · rw [List.map_append, List.map_append, e1, List.map_map]
    congr 1
    rw [hel] at hz
    rw [← hz, List.map_map]
    rfl
  · rw [List.map_append, List.map_append, e2, List.map_map]
    congr 1
    rw [← hz2, List.map_map, hz2]
    rfl
  · refine List.nodup_append.mpr ⟨n1, (h.nd.sublist (List.take_sublist _ _)).sublist (List.take_sublist _ _), fun x hx y hy e3 => ?_⟩
    exact (a1 x hx).2 (by rw [e3]; exact hline y (List.mem_of_mem_take hy))
  · refine List.nodup_append.mpr ⟨n2, ends_nd hsl h1 h.nd, fun x hx y hy e3 => ?_⟩
    exact (b1 x hx).2 (by rw [e3]; exact hline y (ends_sub y hy))
  · intro x hx
    rcases List.mem_append.mp hx with h3 | h3
    · exact ⟨(a1 x h3).1, fun h4 => (a1 x h3).2 (List.mem_of_mem_drop h4)⟩
    · have h3 := List.mem_of_mem_take h3
      exact ⟨h.rg x (hline x h3), hdis x h3⟩
  · intro x hx
    rcases List.mem_append.mp hx with h3 | h3
    · exact ⟨(b1 x h3).1, fun h4 => (b1 x h3).2 (List.mem_of_mem_drop h4)⟩
    · have h3 := ends_sub x h3
      exact ⟨h.rg x (hline x h3), hdis x h3⟩
/-- pairs that the law has drawn -/
structure LawD (d : Tb) : Prop where
  nd : (keysT d).Nodup
  inj : Inj d
  len : d.length ≤ 40
  kb : ∀ p ∈ d, (-(42 * 10 ^ 27) ≤ p.1 ∧ p.1 ≤ 42 * 10 ^ 27) ∧ (-(42 * 10 ^ 27) ≤ p.2 ∧ p.2 ≤ 42 * 10 ^ 27)
theorem LawD.perm {d e : Tb} (h : LawD d) (p : e.Perm d) : LawD e :=
  ⟨(List.Perm.nodup_iff (p.map Prod.fst)).mpr h.nd, (List.Perm.nodup_iff (p.map Prod.snd)).mpr h.inj, by rw [p.length_eq]; exact h.len, fun q hq => h.kb q (p.mem_iff.mp hq)⟩
theorem nodup_map {f : Int → Int} (hf : ∀ a b, f a = f b → a = b) {l : List Int} (h : l.Nodup) : (l.map f).Nodup := by
  rw [List.Nodup, List.pairwise_map]
  exact h.imp fun {a b} ne e => ne (hf a b e)
theorem mul_b {x k : Int} (h0 : -41 ≤ x) (h1 : x ≤ 41) (hk : k = 1 ∨ k = 3 ∨ k = 10 ^ 27) : -(42 * 10 ^ 27) ≤ x * k ∧ x * k ≤ 42 * 10 ^ 27 := by
  rcases hk with h | h | h <;> subst h <;> omega
theorem mul_i {a b m k : Int} (hk : k = 1 ∨ k = 3 ∨ k = 10 ^ 27) (h : (a - m) * k = (b - m) * k) : a = b := by
  rcases hk with h' | h' | h' <;> subst h' <;> omega
theorem lawD_of {m : Nat} (hm : m ≤ 40) {k : Int} (hk : k = 1 ∨ k = 3 ∨ k = 10 ^ 27) {S : List Int} {d : Tb} {left : Nat} (h : LInv m (fun x => (x - m) * k) S d left) : LawD d := by
  obtain ⟨A, B, e1, e2, n1, n2, a1, b1⟩ := h.use
  refine ⟨?_, ?_, by have := h.len; omega, fun p hp => ⟨?_, ?_⟩⟩
  · unfold keysT
    rw [e1]
    exact nodup_map (fun a b => mul_i hk) n1
  · unfold Inj
    rw [e2]
    exact nodup_map (fun a b => mul_i hk) n2
  · have : p.1 ∈ d.map (·.1) := List.mem_map.mpr ⟨p, hp, rfl⟩
    rw [e1] at this
    obtain ⟨x, hx, e⟩ := List.mem_map.mp this
    have := (a1 x hx).1
    rw [← e]
    exact mul_b (by omega) (by omega) hk
  · have : p.2 ∈ d.map (·.2) := List.mem_map.mpr ⟨p, hp, rfl⟩
    rw [e2] at this
    obtain ⟨x, hx, e⟩ := List.mem_map.mp this
    have := (b1 x hx).1
    rw [← e]
    exact mul_b (by omega) (by omega) hk
theorem linv_start {m : Nat} {φ : Int → Int} {S : List Int} {left : Nat} (nd : S.Nodup) (rg : ∀ x ∈ S, 0 ≤ x ∧ x ≤ 2 * m + 1) (hl : S.length = 2 * m + 2) (h : left ≤ m) : LInv m φ S [] left :=
  ⟨nd, rg, by omega, by simpa using h, [], [], rfl, rfl, by simp, by simp, by simp, by simp⟩
end Rw

-- D22
set_option Elab.async false
set_option linter.all false
set_option maxRecDepth 100000
set_option maxHeartbeats 4000000
/-! _law_lines. -/
namespace Rw
open PySem PySem.Spec PyProof.Rows L2
section
variable {P : Program} {w : World} {K : PySem.W.Frag} {mg : Str → Option Value} {base : Heap}

/-- all but the pen stays, the pen is a pen -/
structure FrP (pn : Addr) (H H' : Hp) : Prop where
  s : Same (hid H pn) (hid H' pn)
  p : PenOk H' pn
theorem FrP.refl {pn : Addr} {H : Hp} (h : PenOk H pn) : FrP pn H H := ⟨Same.refl _, h⟩
theorem FrP.trans {pn : Addr} {H H1 H2 : Hp} (a : FrP pn H H1) (b : FrP pn H1 H2) : FrP pn H H2 := ⟨a.s.trans b.s, b.p⟩
theorem FrP.pure {pn : Addr} {H H1 H2 : Hp} (a : FrP pn H H1) (s : Same H1 H2) : FrP pn H H2 := ⟨a.s.trans (hid_mono s), a.p.same s⟩
theorem FrP.down {pn : Addr} {H H' : Hp} (f : FrP pn H H') : Same (hid H pn) H' := f.s.trans hid_same
theorem new_ne {pn a : Addr} {H : Hp} (hp : PenOk H pn) (ha : H a = none) : a ≠ pn := fun e => by
  obtain ⟨l, e', _⟩ := hp
  rw [e, e'] at ha
  cases ha
theorem fr_draw {H : Hp} {pn : Addr} {l : List V} (hl : PenL l) : FrP pn H (upd H pn (.lst l)) := ⟨by rw [hid_upd]; exact Same.refl _, l, upd_same, hl⟩
theorem shape_ints {ns : List Int} (es : List PyData) (h : ∀ d ∈ es, d ∈ ns.map PyData.int) : SeqAt.shaped (.list es) = true := by
  have : ∃ ms : List Int, es = ms.map .int := by
    induction es with
    | nil => exact ⟨[], rfl⟩
    | cons d es ih =>
      obtain ⟨ms, rfl⟩ := ih fun d hd => h d (List.mem_cons_of_mem _ hd)
      obtain ⟨m, _, rfl⟩ := List.mem_map.mp (h d (by simp))
      exact ⟨m :: ms, rfl⟩
  obtain ⟨ms, rfl⟩ := this
  exact shaped_ints ms
theorem shape_rows {d : Tb} (es : List PyData) (h : ∀ x ∈ es, x ∈ d.map rD) : SeqAt.shaped (.list es) = true := by
  have : ∃ L : List (List Int), es = L.map tI := by
    induction es with
    | nil => exact ⟨[], rfl⟩
    | cons x es ih =>
      obtain ⟨L, rfl⟩ := ih fun d hd => h d (List.mem_cons_of_mem _ hd)
      obtain ⟨p, _, rfl⟩ := List.mem_map.mp (h x (by simp))
      exact ⟨rL p :: L, rfl⟩
  obtain ⟨L, rfl⟩ := this
  exact shaped_tIs L
theorem rgV_eq (n : Nat) : rgV 0 (n : Nat) = ((List.range n).map fun i => ((i : Nat) : Int)).map V.int := by
  unfold rgV
  rw [List.map_map]
  simp
def LinesW (K : PySem.W.Frag) (pn : Addr) (H : Hp) (m : Nat) (k wd : Int) (mm : Nat) (σ : L2.St) (H' : Hp) : Prop := ∃ (P SP : Addr) (ps : List V) (d : Tb) (S : List Int) (y7 y8 y9 : Option V), σ = [some (.ref pn), some (.int m), some (.int mm), some (.ref P), some (.int k), some (.ref SP), some (.int wd), y7, y8, y9, none, none] ∧ FrP pn H H' ∧ hid H' pn P = some (.lst ps) ∧ DpAll K (hid H' pn) ps (d.map rD) ∧ hid H' pn SP = some (.lst (S.map V.int)) ∧ LInv m (fun x => (x - m) * k) S d mm
def spLinesL (K : PySem.W.Frag) : Sp := fun vs H Q _ => ∃ (pn : Addr) (m : Nat), vs = [.ref pn, .int m] ∧ PenOk H pn ∧ 1 ≤ m ∧ m ≤ 40 ∧ ∀ (H' : Hp) (l : Addr) (ys : List V) (d : Tb), FrP pn H H' → H l = none → hid H' pn l = some (.lst ys) → DpAll K (hid H' pn) ys (d.map rD) → LawD d → Q (.ref l) H'
theorem sc_law_lines : FnScope ["_law_pen_here", "_law_most", "_law_left", "_law_pairs", "_law_step", "_law_spots", "_law_wide", "_law_size", "_law_line", "_law_ends", "_law_one", "_law_later"] ["_law_pen_here", "_law_most"] (defScope s_law_lines) := ⟨rfl, rfl, rfl, by decide +kernel, rfl, by decide +kernel, by decide +kernel⟩
theorem ok_law_lines (T : Txt K mg) : FnR P w K mg base CX0 4 (a_law_lines K) (spLinesL K) := by
  have nd := sc_law_lines.nd
  refine okR T.f_law_lines sc_law_lines (fun _ _ _ _ _ _ us hl => match us, hl with | [_, _], _ => rfl) (fun vs H Q E h => ?_) (fun cdv A outer s H vs Q E hr h => ?_)
  · obtain ⟨pn, m, rfl, _⟩ := h
    rfl
  · obtain ⟨pn, m, rfl, hp, m1, m40, q⟩ := h
    refine ⟨_, (pss_cons (ps_asg (pe_tup (pa_cons (pe_cl (ok_law_draw T) (by exact hr.mono (by decide)) (by rfl) T.g_law_draw (T.f_law_draw.elim fun _ F => F.kp) pass0 (pa_cons (pv 0) (pa_cons (pe_op op_add (pv 1) pe_int) pa_nil))) (pa_cons (pe_lst pa_nil) (pa_cons (pe_cl (ok_law_pick T) (by exact hr.mono (by decide)) (by rfl) T.g_law_pick (T.f_law_pick.elim fun _ F => F.kp) pass0 (pa_cons (pv 0) (pa_cons (pe_lst (pa_cons pe_int (pa_cons pe_int (pa_cons (pe_op op_pow pe_int pe_int) pa_nil)))) pa_nil))) pa_nil)))) (pg_tup rfl (pgs_cons (pg_name (i := 2) nd rfl (.inl rfl)) (pgs_cons (pg_name (i := 3) nd rfl (.inl rfl)) (pgs_cons (pg_name (i := 4) nd rfl (.inr rfl)) pgs_nil))))) (pss_cons (ps_par (i := 5) (j := 6) (by rfl) nd rfl rfl (by decide) rfl rfl (pa_cons (pe_cl (ok_law_mixed T) (by exact hr.mono (by decide)) (by rfl) T.g_law_mixed (T.f_law_mixed.elim fun _ F => F.kp) pass0 (pa_cons (pv 0) (pa_cons (pe_listRg rfl (by rfl) T.n_list (prg_1 (by rfl) T.n_range (pe_op op_add (pe_op op_mul pe_int (pv 1)) pe_int))) pa_nil))) (pa_cons (pe_cl (ok_law_pick T) (by exact hr.mono (by decide)) (by rfl) T.g_law_pick (T.f_law_pick.elim fun _ F => F.kp) pass0 (pa_cons (pv 0) (pa_cons (pe_lst (pa_cons pe_int (pa_cons pe_int (pa_cons pe_int pa_nil)))) pa_nil))) pa_nil)) (by rfl)) (pss_cons (ps_while PassesOwn.never (pt_cmpR op_gt (pv 2) pe_int (nomark _)) (pss_cons (ps_set (i := 7) nd rfl (.inl rfl) (pe_op op_add pe_int (pe_cl (ok_law_draw T) (by exact hr.mono (by decide)) (by rfl) T.g_law_draw (T.f_law_draw.elim fun _ F => F.kp) pass0 (pa_cons (pv 0) (pa_cons (pe_callB (call_min2 rfl) (by rfl) T.n_min (by decide +kernel) (pa_cons (pv 2) (pa_cons (pv 6) pa_nil))) pa_nil))))) (pss_cons (ps_par (i := 8) (j := 5) (by rfl) nd rfl rfl (by decide) rfl rfl (pa_cons (pe_slice sl_list (pv 5) po_none (po_some (pe_op op_add (pv 7) pe_int))) (pa_cons (pe_slice sl_list (pv 5) (po_some (pe_op op_add (pv 7) pe_int)) po_none) pa_nil)) (by rfl)) (pss_cons (ps_set (i := 9) nd rfl (.inl rfl) (pe_op op_cat (pe_slice sl_list (pv 8) (po_some pe_int) (po_some (pv 7))) (pe_ifExp (pt_cmpR op_eq (pe_cl (ok_law_draw T) (by exact hr.mono (by decide)) (by rfl) T.g_law_draw (T.f_law_draw.elim fun _ F => F.kp) pass0 (pa_cons (pv 0) (pa_cons pe_int pa_nil))) pe_int (nomark _)) (pe_slice sl_list (pv 8) po_none (po_some pe_int)) (pe_slice sl_list (pv 8) (po_some (pv 7)) po_none)))) (pss_cons (ps_set (i := 3) nd rfl (.inl rfl) (pe_op op_cat (pv 3) (pe_lc (own := [("_law_one", 10), ("_law_later", 11)]) (g := (gTup K 2 (gCons (gName 10) (gCons (gName 11) gNil)))) rfl nd (RZ.pi_zipA (by rfl) T.n_zip (pa_cons (pv 8) (pa_cons (pv 9) pa_nil))) (blkOk_by (own := [("_law_one", 10), ("_law_later", 11)]) (N := ["_law_pen_here", "_law_most", "_law_left", "_law_pairs", "_law_step", "_law_spots", "_law_wide", "_law_size", "_law_line", "_law_ends", "_law_one", "_law_later"]) (sc := defScope s_law_lines) (by decide +kernel)) (fun _ _ _ _ _ => (pg_tup rfl (pgs_cons (pg_name (i := 10) nd rfl (.inl rfl) (.inr rfl)) (pgs_cons (pg_name (i := 11) nd rfl (.inl rfl) (.inr rfl)) pgs_nil)))) (fun _ _ _ _ _ => pts_nil) (fun _ _ _ _ _ => (pe_tup (pa_cons (pe_op op_mul (pe_op op_sub (pv 10) (pv 1)) (pv 4)) (pa_cons (pe_op op_mul (pe_op op_sub (pv 11) (pv 1)) (pv 4)) pa_nil))))))) (pss_one (ps_set (i := 2) nd rfl (.inl rfl) (pe_op op_sub (pv 2) (pv 7))))))))) (pss_one (ps_ret (pe_cl (ok_law_mixed T) (by exact hr.mono (by decide)) (by rfl) T.g_law_mixed (T.f_law_mixed.elim fun _ F => F.kp) pass0 (pa_cons (pv 0) (pa_cons (pv 3) pa_nil)))))))), ?_⟩
    have hk27 : ∀ x : Int, x ∈ ([1, 3, 10 ^ (27 : Int).toNat] : List Int) → x = 1 ∨ x = 3 ∨ x = 10 ^ 27 := fun x hx => by
      rcases List.mem_cons.mp hx with h | hx
      · exact .inl h
      · rcases List.mem_cons.mp hx with h | hx
        · exact .inr (.inl h)
        · exact .inr (.inr (List.mem_singleton.mp hx))
    obtain ⟨q0, eq0, pq0⟩ := id hp
    refine ⟨_, rfl, _, rfl, _, _, rfl, rfl, pn, _, q0, rfl, eq0, pq0, by omega, by omega, fun lf0 q1 l0 l1 hq1 => ?_⟩
    have f1 := fr_draw (H := H) (pn := pn) hq1
    generalize upd H pn (.lst q1) = H1 at f1 ⊢
    obtain ⟨lf, rfl⟩ : ∃ j : Nat, lf0 = j := ⟨lf0.toNat, by omega⟩
    refine ⟨Nat.zero_le _, fun P hP => ?_⟩
    have hPp := new_ne f1.p hP
    refine ⟨_, rfl, _, _, rfl, rfl, ⟨by decide, by decide, by decide⟩, (show 3 ≤ sizeLine by decide), fun t ht => ?_⟩
    have f2 := (f1.pure (same_up (o := .lst []) hP)).pure (same_up (o := .lst [V.int 1, .int 3, .int (10 ^ (27 : Int).toNat)]) ht)
    have eP2 : hid (upd (upd H1 P (.lst [])) t (.lst [V.int 1, .int 3, .int (10 ^ (27 : Int).toNat)])) pn P = some (.lst []) := by
      rw [hid_ne hPp]
      exact same_up ht _ _ upd_same
    obtain ⟨q2, eq2, pq2⟩ := f2.p
    refine ⟨pn, t, q2, [1, 3, 10 ^ (27 : Int).toNat], rfl, eq2, pq2, new_ne (f1.pure (same_up (o := .lst []) hP)).p ht, SqL.of upd_same, by simp, (show 3 ≤ 900 by decide), fun k q3 hk hq3 => ?_⟩
    have hk := hk27 k hk
    have f3 := fr_draw (H := upd (upd H1 P (.lst [])) t (.lst [V.int 1, .int 3, .int (10 ^ (27 : Int).toNat)])) (pn := pn) hq3
    generalize upd (upd (upd H1 P (.lst [])) t (.lst [V.int 1, .int 3, .int (10 ^ (27 : Int).toNat)])) pn (.lst q3) = H3 at f3 ⊢
    refine ⟨(show 3 ≤ sizeLine by decide), fun tp htp => ?_⟩
    have f4 : FrP pn H (upd H3 tp (.tup [.int lf, .ref P, .int k])) := (f2.trans f3).pure (same_up htp)
    have eP4 : hid (upd H3 tp (.tup [.int lf, .ref P, .int k])) pn P = some (.lst []) := hid_mono (same_up htp) _ _ (f3.s _ _ eP2)
    refine ⟨tp, _, rfl, SqT.of upd_same, rfl, _, _, rfl, _, _, rfl, _, _, rfl, rfl, ?_⟩
    -- spots, wide
    refine ⟨_, rfl, _, rfl, _, _, rfl, rfl, .inl ⟨by omega, by omega⟩, _, _, rfl, rfl, _, rfl, RgOk.of_le (by omega) (by omega) (by omega) (by omega), fun R hR => ?_⟩
    have eR : rgV 0 (2 * (m : Int) + 2) = ((List.range (2 * m + 2)).map fun i => ((i : Nat) : Int)).map V.int := by
      rw [show 2 * (m : Int) + 2 = ((2 * m + 2 : Nat) : Int) by omega, rgV_eq]
    have hRp := new_ne f4.p hR
    have f5 := f4.pure (same_up (o := .lst (rgV 0 (2 * (m : Int) + 2))) hR)
    refine ⟨pn, R, ((List.range (2 * m + 2)).map fun i => ((i : Nat) : Int)).map V.int, ((List.range (2 * m + 2)).map fun i => ((i : Nat) : Int)).map .int, rfl, f5.p, .inl (SqL.of (by rw [hid_ne hRp, upd_same, eR])), dpAll_ints _, shape_ints, by rw [List.length_map, List.length_map, List.length_range]; omega, fun H6 SP ys es s6 p6 hSP e6 hd6 pm => ?_⟩
    have f6 : FrP pn _ H6 := ⟨s6, p6⟩
    have e6 : hid H6 pn SP = some (.lst ys) := by rw [hid_ne (new_ne f5.p hSP)]; exact e6
    obtain ⟨S0, rfl, pmS⟩ := perm_map_of pm
    have eys := dpAll_int hd6
    subst eys
    have nd0 : S0.Nodup := by
      refine pmS.nodup_iff.mpr ?_
      rw [List.Nodup, List.pairwise_map]
      exact List.nodup_range.imp fun {a b} h e => h (by omega)
    have rg0 : ∀ x ∈ S0, 0 ≤ x ∧ x ≤ 2 * m + 1 := fun x hx => by
      obtain ⟨i, hi, rfl⟩ := List.mem_map.mp (pmS.mem_iff.mp hx)
      have := List.mem_range.mp hi
      omega
    have ln0 : S0.length = 2 * m + 2 := by rw [pmS.length_eq, List.length_map, List.length_range]
    refine ⟨_, rfl, (show 3 ≤ sizeLine by decide), fun t2 ht2 => ?_⟩
    have f7 := (f5.trans f6).pure (same_up (o := .lst [V.int 40, .int 4, .int 2]) ht2)
    obtain ⟨q7, eq7, pq7⟩ := f7.p
    refine ⟨pn, t2, q7, [40, 4, 2], rfl, eq7, pq7, new_ne (f5.trans f6).p ht2, SqL.of upd_same, by simp, (show 3 ≤ 900 by decide), fun wd q8 hwd hq8 => ?_⟩
    have f8 := fr_draw (H := upd H6 t2 (.lst [V.int 40, .int 4, .int 2])) (pn := pn) hq8
    generalize upd (upd H6 t2 (.lst [V.int 40, .int 4, .int 2])) pn (.lst q8) = H8 at f8 ⊢
    have hwd : 1 ≤ wd ∧ wd ≤ 40 := by
      rcases List.mem_cons.mp hwd with h | hx
      · omega
      · rcases List.mem_cons.mp hx with h | hx
        · omega
        · have := List.mem_singleton.mp hx
          omega
    have f9 := f7.trans f8
    have eSP : hid H8 pn SP = some (.lst (S0.map V.int)) := f8.s _ _ (hid_mono (same_up ht2) _ _ e6)
    have eP9 : hid H8 pn P = some (.lst []) := f8.s _ _ (hid_mono (same_up ht2) _ _ (f6.s _ _ (hid_mono (same_up hR) _ _ eP4)))
    refine ⟨_, _, rfl, ?_⟩
    refine ⟨LinesW K pn H m k wd,
      ⟨lf, P, SP, [], [], S0, _, _, _, rfl, f9, eP9, .nil, eSP, linv_start nd0 rg0 ln0 (by omega)⟩, ?_⟩
    rintro mm σ H' ⟨P', SP', ps, d, S, y7, y8, y9, rfl, fr, eP, hd, eS, li⟩
    refine ⟨_, rfl, _, _, rfl, rfl, _, rfl, ?_⟩
    refine ite2 (fun z => ?_) (fun z => ?_)
    · have z := of_decide_eq_true z
      have hm := li.many
      obtain ⟨q0, eq0, pq0⟩ := fr.p
      refine ⟨fun σ H' => ∃ mm', mm' < mm ∧ LinesW K pn H m k wd mm' σ H', fun σ' H' h => h, ?_⟩
      have hmin : 0 < (if wd < (mm : Int) then wd else (mm : Int)) ∧ (if wd < (mm : Int) then wd else (mm : Int)) ≤ mm ∧ (if wd < (mm : Int) then wd else (mm : Int)) ≤ 40 := by
        have := li.len
        split <;> omega
      refine ⟨_, rfl, _, rfl, _, rfl, _, _, rfl, pn, _, q0, rfl, eq0, pq0, hmin.1, by omega, fun j0 q1 j1 j2 hq1 => ?_⟩
      obtain ⟨j, rfl⟩ : ∃ j : Nat, j0 = j := ⟨j0.toNat, by omega⟩
      have hj : j + 1 ≤ mm := by omega
      have f1 := fr_draw (H := H') (pn := pn) hq1
      generalize upd H' pn (.lst q1) = H1 at f1 ⊢
      refine ⟨_, _, rfl, rfl, ?_⟩
      have hsl : (j + 1) + 1 ≤ S.length := by omega
      have hll := line_len hsl
      have eS1 : hid H1 pn SP' = some (.lst (S.map V.int)) := f1.s _ _ eS
      -- line, spots
      have ec1 : cutV (S.map V.int) none (some (1 + (j : Int) + 1)) = (lineOf S (j + 1)).map V.int := by
        rw [show 1 + (j : Int) + 1 = ((j + 1 + 1 : Nat) : Int) by omega, cut_to, ← List.map_take]
        rfl
      have ec2 : cutV (S.map V.int) (some (1 + (j : Int) + 1)) none = (S.drop (j + 1 + 1)).map V.int := by
        rw [show 1 + (j : Int) + 1 = ((j + 1 + 1 : Nat) : Int) by omega, cut_from, ← List.map_drop]
      refine ⟨_, rfl, _, rfl, _, _, rfl, rfl, _, rfl, SP', _, rfl, SqL.of (hid_same _ _ eS1), fun ln hln => ?_⟩
      have hlnp := new_ne f1.p hln
      have s2 := same_up (o := .lst (cutV (S.map V.int) none (some (1 + (j : Int) + 1)))) hln
      refine ⟨_, rfl, _, rfl, _, _, rfl, rfl, _, rfl, SP', _, rfl, SqL.of (s2 _ _ (hid_same _ _ eS1)), fun sp2 hsp2 => ?_⟩
      have f2 := f1.pure s2
      have hspp := new_ne f2.p hsp2
      have s3 := same_up (o := .lst (cutV (S.map V.int) (some (1 + (j : Int) + 1)) none)) hsp2
      have f3 := f2.pure s3
      refine ⟨_, _, rfl, ?_⟩
      have eln3 : (upd (upd H1 ln (.lst (cutV (S.map V.int) none (some (1 + (j : Int) + 1))))) sp2 (.lst (cutV (S.map V.int) (some (1 + (j : Int) + 1)) none))) ln = some (.lst ((lineOf S (j + 1)).map V.int)) := by
        rw [← ec1]
        exact s3 _ _ upd_same
      have esp3 : (upd (upd H1 ln (.lst (cutV (S.map V.int) none (some (1 + (j : Int) + 1))))) sp2 (.lst (cutV (S.map V.int) (some (1 + (j : Int) + 1)) none))) sp2 = some (.lst ((S.drop (j + 1 + 1)).map V.int)) := by
        rw [← ec2]
        exact upd_same
      generalize (upd (upd H1 ln (.lst (cutV (S.map V.int) none (some (1 + (j : Int) + 1))))) sp2 (.lst (cutV (S.map V.int) (some (1 + (j : Int) + 1)) none))) = H3 at f3 eln3 esp3 ⊢
      -- ends
      refine ⟨_, rfl, _, rfl, _, rfl, _, rfl, ln, _, rfl, SqL.of eln3, fun a ha => ?_⟩
      have ec3 : cutV ((lineOf S (j + 1)).map V.int) (some (1 : Int)) (some (1 + (j : Int))) = (((lineOf S (j + 1)).drop 1).take j).map V.int := by
        rw [show 1 + (j : Int) = ((1 + j : Nat) : Int) by omega, show (1 : Int) = ((1 : Nat) : Int) from rfl, cut_mid (by omega), ← List.map_drop, ← List.map_take, show 1 + j - 1 = j by omega]
      have hap := new_ne f3.p ha
      have s4 := same_up (o := .lst (cutV ((lineOf S (j + 1)).map V.int) (some (1 : Int)) (some (1 + (j : Int))))) ha
      have f4 := f3.pure s4
      have ea4 : (upd H3 a (.lst (cutV ((lineOf S (j + 1)).map V.int) (some (1 : Int)) (some (1 + (j : Int)))))) a = some (.lst ((((lineOf S (j + 1)).drop 1).take j).map V.int)) := by
        rw [← ec3]
        exact upd_same
      have eln4 := s4 _ _ eln3
      have esp4 := s4 _ _ esp3
      generalize (upd H3 a (.lst (cutV ((lineOf S (j + 1)).map V.int) (some (1 : Int)) (some (1 + (j : Int)))))) = H4 at f4 ea4 eln4 esp4 ⊢
      obtain ⟨q4, eq4, pq4⟩ := f4.p
      refine ⟨_, rfl, pn, _, q4, rfl, eq4, pq4, by omega, by omega, fun c q5 c0 c1 hq5 => ?_⟩
      have g5 := fr_draw (H := H4) (pn := pn) hq5
      generalize upd H4 pn (.lst q5) = H5 at g5 ⊢
      have f5 := f4.trans g5
      have up5 : ∀ {x o}, x ≠ pn → H4 x = some o → H5 x = some o := fun {x o} hx e => hid_same _ _ (g5.s _ _ (by rw [hid_ne hx]; exact e))
      have ea5 := up5 hap ea4
      have eln5 := up5 hlnp eln4
      have esp5 := up5 hspp esp4
      refine ⟨rfl, _, rfl, ?_⟩
      refine ite2 (fun zb => ?_) (fun zb => ?_)
      · refine ⟨_, rfl, _, rfl, ln, _, rfl, SqL.of eln5, fun b hb => ?_⟩
        have ec6 : cutV ((lineOf S (j + 1)).map V.int) none (some (1 : Int)) = ((lineOf S (j + 1)).take 1).map V.int := by
          rw [show (1 : Int) = ((1 : Nat) : Int) from rfl, cut_to, ← List.map_take]
        have f6 := f5.pure (same_up (o := .lst (cutV ((lineOf S (j + 1)).map V.int) none (some (1 : Int)))) hb)
        have ea6 := same_up (o := .lst (cutV ((lineOf S (j + 1)).map V.int) none (some (1 : Int)))) hb _ _ ea5
        have eln6 := same_up (o := .lst (cutV ((lineOf S (j + 1)).map V.int) none (some (1 : Int)))) hb _ _ eln5
        have esp6 := same_up (o := .lst (cutV ((lineOf S (j + 1)).map V.int) none (some (1 : Int)))) hb _ _ esp5
        have eb6 : (upd H5 b (.lst (cutV ((lineOf S (j + 1)).map V.int) none (some (1 : Int))))) b = some (.lst (((lineOf S (j + 1)).take 1).map V.int)) := by
          rw [← ec6]
          exact upd_same
        generalize (upd H5 b (.lst (cutV ((lineOf S (j + 1)).map V.int) none (some (1 : Int))))) = H6 at f6 ea6 eln6 esp6 eb6 ⊢
        have hel := ends_len (b := true) hsl (by omega)
        have hen : (((lineOf S (j + 1)).drop 1).take j).map V.int ++ ((lineOf S (j + 1)).take 1).map V.int = (endsOf S (j + 1) true).map V.int := by
          rw [← List.map_append]
          rfl
        refine ⟨a, b, _, _, rfl, rfl, ea6, eb6, ?_, fun en hne => ?_⟩
        · rw [← List.length_append, hen, List.length_map, hel]
          exact Nat.le_of_lt (small1000 (by have := li.len; omega))
        · have s7 := same_up (o := .lst ((((lineOf S (j + 1)).drop 1).take j).map V.int ++ ((lineOf S (j + 1)).take 1).map V.int)) hne
          have f7 := f6.pure s7
          have een7 : (upd H6 en (.lst ((((lineOf S (j + 1)).drop 1).take j).map V.int ++ ((lineOf S (j + 1)).take 1).map V.int))) en = some (.lst ((endsOf S (j + 1) true).map V.int)) := by
            rw [← hen]
            exact upd_same
          have eln7 := s7 _ _ eln6
          have esp7 := s7 _ _ esp6
          generalize (upd H6 en (.lst ((((lineOf S (j + 1)).drop 1).take j).map V.int ++ ((lineOf S (j + 1)).take 1).map V.int))) = H7 at f7 een7 eln7 esp7 ⊢
          refine ⟨_, rfl, _, rfl, _, rfl, ln, en, _, _, rfl, .inl ⟨SqL.of eln7, SqL.of een7, fun D hD => ?_⟩⟩
          have hzl : ((lineOf S (j + 1)).zip (endsOf S (j + 1) true)).length = j + 1 := by
            rw [List.length_zip, hll, hel]
            omega
          have li2 := linv_step (b := true) li (by omega : 1 ≤ j + 1) hj
          have hzm : min ((lineOf S (j + 1)).map V.int).length ((endsOf S (j + 1) true).map V.int).length = j + 1 := by
            rw [memI, memI, hll, hel]
            omega
          have hj40 : j + 1 ≤ 40 := by have := li.len; omega
          refine lc_go (walk_zip (K := K) (a := ln) (b := en) (xs := (lineOf S (j + 1)).map V.int) (ys := (endsOf S (j + 1) true).map V.int) hzm.symm) (fun i acc Hx => DpAll K Hx acc (((((lineOf S (j + 1)).zip (endsOf S (j + 1) true)).map fun p => ((p.1 - (m : Int)) * k, (p.2 - (m : Int)) * k)).take i).map rD)) (by omega) hD (fun H s => ⟨SqL.of (s _ _ eln7), SqL.of (s _ _ een7)⟩) .nil ?_ ?_
          · rintro i x H8 H9 acc hi L ⟨T', x', y', rfl, hT, rfl, ex, ey⟩
            have ex : ((lineOf S (j + 1)).map V.int)[i]? = some x' := ex
            have ey : ((endsOf S (j + 1) true).map V.int)[i]? = some y' := ey
            rw [List.getElem?_map] at ex ey
            obtain ⟨u1, e1, rfl⟩ := Option.map_eq_some_iff.mp ex
            obtain ⟨u2, e2, rfl⟩ := Option.map_eq_some_iff.mp ey
            have r1 := li.rg u1 (List.mem_of_mem_take (List.mem_of_getElem? e1))
            have r2 := li.rg u2 (List.mem_of_mem_take (ends_sub u2 (List.mem_of_getElem? e2)))
            have e3 : ((lineOf S (j + 1)).zip (endsOf S (j + 1) true))[i]? = some (u1, u2) := List.getElem?_zip_eq_some.mpr ⟨e1, e2⟩
            have ez : (((lineOf S (j + 1)).zip (endsOf S (j + 1) true)).map fun p => ((p.1 - (m : Int)) * k, (p.2 - (m : Int)) * k))[i]? = some ((u1 - (m : Int)) * k, (u2 - (m : Int)) * k) := by
              rw [List.getElem?_map, e3]
              rfl
            refine ⟨T', _, rfl, SqT.of upd_same, rfl, _, _, rfl, _, _, rfl, rfl, rfl, yes ?_⟩
            refine ⟨_, rfl, _, rfl, _, _, rfl, rfl, _, rfl, _, _, rfl, rfl, .inl ⟨by omega, by omega⟩, ?_⟩
            refine ⟨_, rfl, _, rfl, _, _, rfl, rfl, _, rfl, _, _, rfl, rfl, .inl ⟨by omega, by omega⟩, ?_⟩
            refine ⟨(show 2 ≤ sizeLine by decide), fun t3 ht3 => ?_⟩
            have sT : Same H8 (upd (upd H8 T' (.tup [V.int u1, V.int u2])) t3 (.tup [V.int ((u1 - (m : Int)) * k), V.int ((u2 - (m : Int)) * k)])) := (same_up hT).trans (same_up ht3)
            have ht3D : t3 ≠ D := fun e => by
              rw [e, same_up hT _ _ L.at_] at ht3
              cases ht3
            refine L.snoc (by omega) sT ?_
            show DpAll K _ (acc ++ [V.ref t3]) (((((lineOf S (j + 1)).zip (endsOf S (j + 1) true)).map fun p => ((p.1 - (m : Int)) * k, (p.2 - (m : Int)) * k)).take (i + 1)).map rD)
            rw [take_map ez]
            refine dpAll_snoc (DpAll.same (hid_mono sT) _ _ L.f) (dp_tI (ns := [(u1 - (m : Int)) * k, (u2 - (m : Int)) * k]) (SqT.of ?_))
            rw [hid_ne ht3D]
            exact upd_same
          · intro H8 acc s8 e8 fa _
            have fa : DpAll K (hid H8 D) acc (((((lineOf S (j + 1)).zip (endsOf S (j + 1) true)).map fun p => ((p.1 - (m : Int)) * k, (p.2 - (m : Int)) * k)).take (j + 1)).map rD) := fa
            rw [List.take_of_length_le (by rw [List.length_map, hzl]; omega)] at fa
            have f8 := f7.pure s8
            have eP8 : hid H8 pn P' = some (.lst ps) := f8.s _ _ eP
            have hal := dpAll_len fa
            rw [List.length_map, List.length_map, hzl] at hal
            have hpl := dpAll_len hd
            rw [List.length_map] at hpl
            refine ⟨P', D, ps, acc, rfl, rfl, hid_same _ _ eP8, e8, Nat.le_of_lt (small1000 (by have := li.len; omega)), fun P2 hP2 => ?_⟩
            have hP2p := new_ne f8.p hP2
            have f9 := f8.pure (same_up (o := .lst (ps ++ acc)) hP2)
            obtain ⟨q9, eq9, _⟩ := id f8.p
            refine ⟨_, rfl, _, rfl, _, _, rfl, rfl, mm - (j + 1), by omega, P2, sp2, ps ++ acc, _, _, some (.int (1 + (j : Int))), some (.ref ln), some (.ref en), ?_, fr.trans f9, ?_, ?_, ?_, li2⟩
            · rw [show ((mm - (j + 1) : Nat) : Int) = (mm : Int) - (1 + (j : Int)) by omega]
              rfl
            · rw [hid_ne hP2p]
              exact upd_same
            · rw [List.map_append]
              refine dpAll_app (DpAll.same f9.s _ _ hd) ?_
              refine DpAll.same (hid_mono (same_up hP2)) _ _ (DpAll.hid (notL_lst eq9) _ _ (by rw [rD_map]; exact noLs_tI _) (DpAll.same hid_same _ _ fa))
            · rw [hid_ne hspp]
              exact same_up hP2 _ _ (s8 _ _ esp7)
      · refine ⟨_, rfl, _, rfl, _, rfl, ln, _, rfl, SqL.of eln5, fun b hb => ?_⟩
        have ec6 : cutV ((lineOf S (j + 1)).map V.int) (some (1 + (j : Int))) none = ((lineOf S (j + 1)).drop (j + 1)).map V.int := by
          rw [show 1 + (j : Int) = ((j + 1 : Nat) : Int) by omega, cut_from, ← List.map_drop]
        have f6 := f5.pure (same_up (o := .lst (cutV ((lineOf S (j + 1)).map V.int) (some (1 + (j : Int))) none)) hb)
        have ea6 := same_up (o := .lst (cutV ((lineOf S (j + 1)).map V.int) (some (1 + (j : Int))) none)) hb _ _ ea5
        have eln6 := same_up (o := .lst (cutV ((lineOf S (j + 1)).map V.int) (some (1 + (j : Int))) none)) hb _ _ eln5
        have esp6 := same_up (o := .lst (cutV ((lineOf S (j + 1)).map V.int) (some (1 + (j : Int))) none)) hb _ _ esp5
        have eb6 : (upd H5 b (.lst (cutV ((lineOf S (j + 1)).map V.int) (some (1 + (j : Int))) none))) b = some (.lst (((lineOf S (j + 1)).drop (j + 1)).map V.int)) := by
          rw [← ec6]
          exact upd_same
        generalize (upd H5 b (.lst (cutV ((lineOf S (j + 1)).map V.int) (some (1 + (j : Int))) none))) = H6 at f6 ea6 eln6 esp6 eb6 ⊢
        have hel := ends_len (b := false) hsl (by omega)
        have hen : (((lineOf S (j + 1)).drop 1).take j).map V.int ++ ((lineOf S (j + 1)).drop (j + 1)).map V.int = (endsOf S (j + 1) false).map V.int := by
          rw [← List.map_append]
          rfl
        refine ⟨a, b, _, _, rfl, rfl, ea6, eb6, ?_, fun en hne => ?_⟩
        · rw [← List.length_append, hen, List.length_map, hel]
          exact Nat.le_of_lt (small1000 (by have := li.len; omega))
        · have s7 := same_up (o := .lst ((((lineOf S (j + 1)).drop 1).take j).map V.int ++ ((lineOf S (j + 1)).drop (j + 1)).map V.int)) hne
          have f7 := f6.pure s7
          have een7 : (upd H6 en (.lst ((((lineOf S (j + 1)).drop 1).take j).map V.int ++ ((lineOf S (j + 1)).drop (j + 1)).map V.int))) en = some (.lst ((endsOf S (j + 1) false).map V.int)) := by
            rw [← hen]
            exact upd_same
          have eln7 := s7 _ _ eln6
          have esp7 := s7 _ _ esp6
          generalize (upd H6 en (.lst ((((lineOf S (j + 1)).drop 1).take j).map V.int ++ ((lineOf S (j + 1)).drop (j + 1)).map V.int))) = H7 at f7 een7 eln7 esp7 ⊢
          refine ⟨_, rfl, _, rfl, _, rfl, ln, en, _, _, rfl, .inl ⟨SqL.of eln7, SqL.of een7, fun D hD => ?_⟩⟩
          have hzl : ((lineOf S (j + 1)).zip (endsOf S (j + 1) false)).length = j + 1 := by
            rw [List.length_zip, hll, hel]
            omega
          have li2 := linv_step (b := false) li (by omega : 1 ≤ j + 1) hj
          have hzm : min ((lineOf S (j + 1)).map V.int).length ((endsOf S (j + 1) false).map V.int).length = j + 1 := by
            rw [memI, memI, hll, hel]
            omega
          have hj40 : j + 1 ≤ 40 := by have := li.len; omega
          refine lc_go (walk_zip (K := K) (a := ln) (b := en) (xs := (lineOf S (j + 1)).map V.int) (ys := (endsOf S (j + 1) false).map V.int) hzm.symm) (fun i acc Hx => DpAll K Hx acc (((((lineOf S (j + 1)).zip (endsOf S (j + 1) false)).map fun p => ((p.1 - (m : Int)) * k, (p.2 - (m : Int)) * k)).take i).map rD)) (by omega) hD (fun H s => ⟨SqL.of (s _ _ eln7), SqL.of (s _ _ een7)⟩) .nil ?_ ?_
          · rintro i x H8 H9 acc hi L ⟨T', x', y', rfl, hT, rfl, ex, ey⟩
            have ex : ((lineOf S (j + 1)).map V.int)[i]? = some x' := ex
            have ey : ((endsOf S (j + 1) false).map V.int)[i]? = some y' := ey
            rw [List.getElem?_map] at ex ey
            obtain ⟨u1, e1, rfl⟩ := Option.map_eq_some_iff.mp ex
            obtain ⟨u2, e2, rfl⟩ := Option.map_eq_some_iff.mp ey
            have r1 := li.rg u1 (List.mem_of_mem_take (List.mem_of_getElem? e1))
            have r2 := li.rg u2 (List.mem_of_mem_take (ends_sub u2 (List.mem_of_getElem? e2)))
            have e3 : ((lineOf S (j + 1)).zip (endsOf S (j + 1) false))[i]? = some (u1, u2) := List.getElem?_zip_eq_some.mpr ⟨e1, e2⟩
            have ez : (((lineOf S (j + 1)).zip (endsOf S (j + 1) false)).map fun p => ((p.1 - (m : Int)) * k, (p.2 - (m : Int)) * k))[i]? = some ((u1 - (m : Int)) * k, (u2 - (m : Int)) * k) := by
              rw [List.getElem?_map, e3]
              rfl
            refine ⟨T', _, rfl, SqT.of upd_same, rfl, _, _, rfl, _, _, rfl, rfl, rfl, yes ?_⟩
            refine ⟨_, rfl, _, rfl, _, _, rfl, rfl, _, rfl, _, _, rfl, rfl, .inl ⟨by omega, by omega⟩, ?_⟩
            refine ⟨_, rfl, _, rfl, _, _, rfl, rfl, _, rfl, _, _, rfl, rfl, .inl ⟨by omega, by omega⟩, ?_⟩
            refine ⟨(show 2 ≤ sizeLine by decide), fun t3 ht3 => ?_⟩
            have sT : Same H8 (upd (upd H8 T' (.tup [V.int u1, V.int u2])) t3 (.tup [V.int ((u1 - (m : Int)) * k), V.int ((u2 - (m : Int)) * k)])) := (same_up hT).trans (same_up ht3)
            have ht3D : t3 ≠ D := fun e => by
              rw [e, same_up hT _ _ L.at_] at ht3
              cases ht3
            refine L.snoc (by omega) sT ?_
            show DpAll K _ (acc ++ [V.ref t3]) (((((lineOf S (j + 1)).zip (endsOf S (j + 1) false)).map fun p => ((p.1 - (m : Int)) * k, (p.2 - (m : Int)) * k)).take (i + 1)).map rD)
            rw [take_map ez]
            refine dpAll_snoc (DpAll.same (hid_mono sT) _ _ L.f) (dp_tI (ns := [(u1 - (m : Int)) * k, (u2 - (m : Int)) * k]) (SqT.of ?_))
            rw [hid_ne ht3D]
            exact upd_same
          · intro H8 acc s8 e8 fa _
            have fa : DpAll K (hid H8 D) acc (((((lineOf S (j + 1)).zip (endsOf S (j + 1) false)).map fun p => ((p.1 - (m : Int)) * k, (p.2 - (m : Int)) * k)).take (j + 1)).map rD) := fa
            rw [List.take_of_length_le (by rw [List.length_map, hzl]; omega)] at fa
            have f8 := f7.pure s8
            have eP8 : hid H8 pn P' = some (.lst ps) := f8.s _ _ eP
            have hal := dpAll_len fa
            rw [List.length_map, List.length_map, hzl] at hal
            have hpl := dpAll_len hd
            rw [List.length_map] at hpl
            refine ⟨P', D, ps, acc, rfl, rfl, hid_same _ _ eP8, e8, Nat.le_of_lt (small1000 (by have := li.len; omega)), fun P2 hP2 => ?_⟩
            have hP2p := new_ne f8.p hP2
            have f9 := f8.pure (same_up (o := .lst (ps ++ acc)) hP2)
            obtain ⟨q9, eq9, _⟩ := id f8.p
            refine ⟨_, rfl, _, rfl, _, _, rfl, rfl, mm - (j + 1), by omega, P2, sp2, ps ++ acc, _, _, some (.int (1 + (j : Int))), some (.ref ln), some (.ref en), ?_, fr.trans f9, ?_, ?_, ?_, li2⟩
            · rw [show ((mm - (j + 1) : Nat) : Int) = (mm : Int) - (1 + (j : Int)) by omega]
              rfl
            · rw [hid_ne hP2p]
              exact upd_same
            · rw [List.map_append]
              refine dpAll_app (DpAll.same f9.s _ _ hd) ?_
              refine DpAll.same (hid_mono (same_up hP2)) _ _ (DpAll.hid (notL_lst eq9) _ _ (by rw [rD_map]; exact noLs_tI _) (DpAll.same hid_same _ _ fa))
            · rw [hid_ne hspp]
              exact same_up hP2 _ _ (s8 _ _ esp7)
    · refine ⟨_, rfl, _, rfl, pn, P', ps, d.map rD, rfl, fr.p, .inl (SqL.of eP), hd, shape_rows, ?_, fun H2 l ys es s2 p2 hl e2 hd2 pm => ?_⟩
      · have h1 := dpAll_len hd
        rw [List.length_map] at h1
        have := li.len
        omega
      · obtain ⟨d2, rfl, pd⟩ := perm_map_of pm
        have f2 : FrP pn _ H2 := ⟨s2, p2⟩
        have e2 : hid H2 pn l = some (.lst ys) := by rw [hid_ne (new_ne fr.p hl)]; exact e2
        refine q H2 l ys d2 (fr.trans f2) ?_ e2 (DpAll.same f2.s _ _ hd2) ((lawD_of m40 hk li).perm pd)
        have hlp := new_ne fr.p hl
        have h3 := fr.s.free (l := l) (by rw [hid_ne hlp]; exact hl)
        rwa [hid_ne hlp] at h3
end
end Rw

-- D23
set_option Elab.async false
set_option linter.all false
set_option maxRecDepth 100000
set_option maxHeartbeats 4000000
/-! _law_need, _law_places. -/
namespace Rw
open PySem PySem.Spec PyProof.Rows L2
section
variable {P : Program} {w : World} {K : PySem.W.Frag} {mg : Str → Option Value} {base : Heap}

def spNeed (K : PySem.W.Frag) : Sp := fun vs H Q _ => ∃ (t : Addr) (xs : List V) (L : List (List Int)), vs = [.ref t] ∧ SqT K H t xs ∧ DpAll K H xs (L.map tI) ∧ L.length ≤ 40 ∧ ∀ H', Same H H' → Q (.int ((L.map fun p => (p.length + 1) / 2).sum : Nat)) H'
theorem sc_law_need : FnScope ["_law_pieces", "_law_piece"] ["_law_pieces"] (defScope s_law_need) := ⟨rfl, rfl, rfl, by decide +kernel, rfl, by decide +kernel, by decide +kernel⟩
theorem ok_law_need (T : Txt K mg) : FnR P w K mg base CX0 1 (a_law_need K) (spNeed K) := by
  have nd := sc_law_need.nd
  refine okR T.f_law_need sc_law_need (fun _ _ _ _ _ _ us hl => match us, hl with | [_], _ => rfl) (fun vs H Q E h => ?_) (fun cdv A outer s H vs Q E hr h => ?_)
  · obtain ⟨t, xs, L, rfl, _⟩ := h
    rfl
  · obtain ⟨t, xs, L, rfl, hT, hd, hl, q⟩ := h
    have hlen : xs.length = L.length := by
      have := dpAll_len hd
      rwa [List.length_map] at this
    refine ⟨_, (pss_one (ps_ret (pe_callB (cr_sum rfl) (by rfl) T.n_sum (by decide +kernel) (pa_cons (pe_lc (own := [("_law_piece", 1)]) (g := (gName 1)) rfl nd (pi_tup (pv 0)) (blkOk_by (own := [("_law_piece", 1)]) (N := ["_law_pieces", "_law_piece"]) (sc := defScope s_law_need) (by decide +kernel)) (fun _ _ _ _ _ => (pg_name (i := 1) nd rfl (.inl rfl) (.inr rfl))) (fun _ _ _ _ _ => pts_nil) (fun _ _ _ _ _ => (pe_op op_fdiv (pe_op op_add (pe_callB (call_lenK (K := K) rfl) (by rfl) T.n_len (by decide +kernel) (pa_cons (pv 1) pa_nil)) pe_int) pe_int))) pa_nil)))), ?_⟩
    refine ⟨_, rfl, t, rfl, ⟨_, hT⟩, fun D9 hD9 => ?_⟩
    refine lc_go (walk_tup (xs := xs)) (fun i acc H => acc = ((L.take i).map fun p => (((p.length + 1) / 2 : Nat) : Int)).map V.int) (by omega) hD9 (fun H s => Same.tup s hT) rfl ?_ ?_
    · rintro i x H0 H9 acc hi' L' ⟨rfl, ex9⟩
      obtain ⟨ps, e7, hdp⟩ := dp_nth (DpAll.same (L'.same.trans hid_same) _ _ hd) ex9
      obtain ⟨c, rfl, hc⟩ := tI_dp hdp
      refine ⟨rfl, yes ⟨_, rfl, c, _, rfl, .inr hc, _, _, rfl, rfl, _, _, rfl, rfl, cdiv2 _, L'.snoc (by omega) (Same.refl _) ?_⟩⟩
      show acc ++ [V.int ((((ps.map V.int).length : Int) + 1) / 2)] = _
      rw [memI, half1_int, take_map e7, List.map_append, ← show acc = _ from L'.f]
      rfl
    · intro H9 acc s9 e9 f9 _
      have f9 : acc = ((L.take xs.length).map fun p => (((p.length + 1) / 2 : Nat) : Int)).map V.int := f9
      rw [hlen, List.take_length] at f9
      rw [f9] at e9
      refine ⟨D9, _, rfl, SqL.of e9, ?_⟩
      rw [sum_cast (fun p : List Int => (p.length + 1) / 2)]
      exact q _ s9
theorem merge_kvI : ∀ (b a : Tb), (keysT (a ++ b)).Nodup → mergeK (kvI a) (kvI b) = kvI (a ++ b)
  | [], a, _ => by
    rw [List.append_nil]
    rfl
  | p :: b, a, h => by
    have h2 : (keysT ((a ++ [p]) ++ b)).Nodup := by rwa [List.append_assoc]
    have hp : p.1 ∉ keysT a := by
      unfold keysT at h ⊢
      rw [List.map_append] at h
      exact fun hm => (List.nodup_append.mp h).2.2 _ hm _ (by simp) rfl
    have e : mergeK (kvI a) (kvI (p :: b)) = mergeK (putK (kvI a) (Sum.inl p.1) (.int p.2)) (kvI b) := rfl
    rw [e, kvI_put hp, merge_kvI b _ h2, List.append_assoc]
    rfl
theorem merge0 {r : Tb} (h : (keysT r).Nodup) : mergeK [] (kvI r) = kvI r := merge_kvI r [] h
theorem paired_kv {H : Hp} : ∀ {r : Tb} {ps : List Addr}, DpAll K H (ps.map V.ref) (r.map rD) → Paired (fun p (kv : Key × V) => SqT K H p [kV kv.1, kv.2]) ps (kvI r)
  | [], [], _ => .nil
  | [], _ :: _, h => by cases h
  | _ :: _, [], h => by cases h
  | p :: r, a :: ps, h => by
    cases h with
    | cons x y =>
      refine .cons ?_ (paired_kv y)
      obtain ⟨c, e, hc⟩ := tI_dp (ns := [p.1, p.2]) x
      cases e
      exact hc
def spPlaces (K : PySem.W.Frag) : Sp := fun vs H Q _ => ∃ (p t : Addr) (r : Tb) (o : List Int), vs = [.ref p, .ref t] ∧ TabAt K H p r ∧ Inj r ∧ SqT K H t (o.map V.int) ∧ o.Perm (keysT r) ∧ Rc.Passing (wtT r) o ∧ ∀ H' d, Same H H' → H d = none → H' d = some (.dK (kvI r)) → Q (.ref d) H'
theorem sc_law_places : FnScope ["_law_table", "_law_order", "_law_rule", "_law_outcome"] ["_law_table", "_law_order"] (defScope s_law_places) := ⟨rfl, rfl, rfl, by decide +kernel, rfl, by decide +kernel, by decide +kernel⟩
theorem ok_law_places (T : Txt K mg) : FnR P w K mg base CX0 9 (a_law_places K) (spPlaces K) := by
  have nd := sc_law_places.nd
  refine okR T.f_law_places sc_law_places (fun _ _ _ _ _ _ us hl => match us, hl with | [_, _], _ => rfl) (fun vs H Q E h => ?_) (fun cdv A outer s H vs Q E hr h => ?_)
  · obtain ⟨p, t, r, o, rfl, _⟩ := h
    rfl
  · obtain ⟨p, t, r, o, rfl, ht, inj, hT, pm, ps, q⟩ := h
    refine ⟨_, (pss_cons (ps_set (i := 2) nd rfl (.inl rfl) (pe_new0 T.mkA (by rfl) T.g_Abort)) (pss_cons (ps_set (i := 3) nd rfl (.inl rfl) (StX.pe_callO (pv 2) T.callA (ok_rCall T) (by exact hr.mono (by decide)) pass0 (pa_cons (pv 0) (pa_cons (pv 1) pa_nil)))) (pss_one (ps_ret (pe_ifExp (pt_cmpR (op_eqD hr.units) (pe_propR (pv 3) T.clO T.stopP (ok_oStop T) (by exact hr.mono (by decide)) pass0 (by rfl)) (pe_tup pa_nil) (nomark _)) (pe_callTy (call_dictT rfl) (by rfl) T.n_dict (by decide +kernel) (pa_cons (pe_propR (pv 3) T.clO T.endsP (ok_oEnds T) (by exact hr.mono (by decide)) pass0 (by rfl)) pa_nil)) pe_non))))), ?_⟩
    intro z dx hz hdx hne
    have s1 : Same H (upd (upd H dx (.own z)) z (.ins (cA K) dx [])) := (same_up hdx).trans (same_up (by rw [upd_ne (Ne.symm hne)]; exact hz))
    refine ⟨_, rfl, z, rfl, _, rfl, _, rfl, .inr ⟨dx, [], upd_same⟩, .ref z, p, t, r, o, rfl, ht.same s1, inj, Same.tup s1 hT, pm, ps, fun H2 c ro st e ad ob s2 hout hst he hob hd => ?_⟩
    have hout2 := hout
    obtain ⟨dxc, tt, hc, htt⟩ := hout2
    refine ⟨_, rfl, c, dxc, _, rfl, hc, ⟨c, _, _, _, rfl, hout, ?_⟩⟩
    refine ⟨Nat.zero_le _, fun n hn => ?_⟩
    have s3 := same_up (o := .tup []) hn
    refine ⟨.tuple [], .tuple [], .tup (Same.tup s3 hst) .nil, .tup (SqT.of upd_same) .nil, shaped_tnil, shaped_tnil, _, rfl, ?_⟩
    rw [eqv_tnil]
    refine iteT ⟨_, rfl, c, dxc, _, rfl, s3 _ _ hc, ⟨c, .ref ro, .ref st, .ref e, rfl, ⟨dxc, tt, s3 _ _ hc, Same.tup s3 htt⟩, ?_⟩⟩
    refine ⟨e, ob, ad, kvI r, rfl, s3 _ _ he, hob, paired_kv (DpAll.same s3 _ _ hd), fun d hd2 => ?_⟩
    rw [merge0 ht.1.nd]
    exact q _ d (((s1.trans s2).trans s3).trans (same_up hd2)) (((s1.trans s2).trans s3).free hd2) upd_same
end
end Rw

-- D24
set_option Elab.async false
set_option linter.all false
set_option maxRecDepth 100000
set_option maxHeartbeats 4000000
/-! _law_statement. -/
namespace Rw
open PySem PySem.Spec PyProof.Rows L2
section
variable {P : Program} {w : World} {K : PySem.W.Frag} {mg : Str → Option Value} {base : Heap}

theorem unlock_same {H1 H' : Hp} {d : Addr} {u o : HO} (e : H1 d = some u) (s : Same (upd H1 d o) H') : Same H1 (upd H' d u) := fun b x ex => by
  by_cases hb : b = d
  · rw [hb] at ex ⊢
    rw [e] at ex
    cases ex
    exact upd_same
  · rw [upd_ne hb]
    refine s _ _ ?_
    rw [upd_ne hb]
    exact ex
/-- where a row goes -/
def goT (n : Tb) (p : Int × Int) : Int := (newT n p.1).getD p.2
def rowsT (h n : Tb) : Tb := h.map fun p => (p.2, goT n p)
def outT (h n : Tb) : Tb := h.map fun p => (p.1, goT n p)
structure StatOk (h n : Tb) (any : Bool) : Prop where
  nd : (keysT h).Nodup
  ndn : (keysT n).Nodup
  held : (h.map (·.2)).Nodup
  news : (h.map (goT n)).Nodup
  len : h.length ≤ 40
  kb : ∀ p ∈ h, KeyB p.2 ∧ KeyB (goT n p)
  free : any = true → ∀ p ∈ h, ∀ p' ∈ h, goT n p = p'.2 → p = p'
  rings : any = false → ∀ r, Good r → r.Perm (rowsT h n) → ringsR r = []
theorem sort_ex (d : Tb) (nd : (keysT d).Nodup) (len : d.length ≤ 40) (kb : ∀ p ∈ d, KeyB p.1 ∧ KeyB p.2) : ∃ r, Good r ∧ d.Perm r := by
  have pm : (d.mergeSort fun a b => decide (a.1 ≤ b.1)).Perm d := List.mergeSort_perm _ _
  have pw : (d.mergeSort fun a b => decide (a.1 ≤ b.1)).Pairwise fun a b => decide (a.1 ≤ b.1) = true := List.pairwise_mergeSort (fun a b c h1 h2 => by
    have h1 := of_decide_eq_true h1
    have h2 := of_decide_eq_true h2
    exact decide_eq_true (by omega)) (fun a b => by
    by_cases h : a.1 ≤ b.1
    · simp [h]
    · have : b.1 ≤ a.1 := by omega
      simp [this]) d
  refine ⟨_, ⟨?_, by rw [pm.length_eq]; exact len, fun p hp => kb p (pm.mem_iff.mp hp)⟩, pm.symm⟩
  have nd2 : ((d.mergeSort fun a b => decide (a.1 ≤ b.1)).map (·.1)).Nodup := (List.Perm.nodup_iff (pm.map Prod.fst)).mpr nd
  rw [List.Nodup, List.pairwise_map] at nd2
  rw [List.pairwise_map]
  exact (pw.and nd2).imp fun {a b} ⟨h1, h2⟩ => by
    have h1 := of_decide_eq_true h1
    omega
theorem rowsT_keys (h n : Tb) : keysT (rowsT h n) = h.map (·.2) := by
  unfold keysT rowsT
  rw [List.map_map]
  rfl
theorem outT_keys (h n : Tb) : keysT (outT h n) = keysT h := by
  unfold keysT outT
  rw [List.map_map]
  rfl
theorem rowsT_news (h n : Tb) : (rowsT h n).map (·.2) = h.map (goT n) := by
  unfold rowsT
  rw [List.map_map]
  rfl
theorem stat_table {h n : Tb} {any : Bool} (s : StatOk h n any) : ∃ r, Good r ∧ (rowsT h n).Perm r ∧ Inj r := by
  obtain ⟨r, g, pm⟩ := sort_ex (rowsT h n) (by rw [rowsT_keys]; exact s.held) (by unfold rowsT; rw [List.length_map]; exact s.len) (fun p hp => by
    obtain ⟨q, hq, rfl⟩ := List.mem_map.mp hp
    exact s.kb q hq)
  refine ⟨r, g, pm, ?_⟩
  unfold Inj
  refine (List.Perm.nodup_iff (pm.map Prod.snd)).mp ?_
  show ((rowsT h n).map (·.2)).Nodup
  rw [rowsT_news]
  exact s.news
theorem stat_free {h n : Tb} (s : StatOk h n true) {r : Tb} (g : Good r) (pm : (rowsT h n).Perm r) : ∀ x, wtT r x = none := by
  intro x
  cases e : wtT r x with
  | none => rfl
  | some y =>
    exfalso
    obtain ⟨e1, e2, e3⟩ := wtT_some.mp e
    have h1 := pm.mem_iff.mpr (newT_mem e1)
    obtain ⟨p, hp, hpe⟩ := List.mem_map.mp h1
    cases hpe
    have h2 : goT n p ∈ keysT (rowsT h n) := ((pm.map Prod.fst).mem_iff).mpr e3
    rw [rowsT_keys] at h2
    obtain ⟨p', hp', e4⟩ := List.mem_map.mp h2
    have := s.free rfl p hp p' hp' e4.symm
    rw [← this] at e4
    exact e2 e4.symm
theorem stat_get {h n : Tb} {r : Tb} (g : Good r) (pm : (rowsT h n).Perm r) {p : Int × Int} (hp : p ∈ h) : newT r p.2 = some (goT n p) :=
  newT_of g.nd (pm.mem_iff.mp (List.mem_map.mpr ⟨p, hp, rfl⟩))
def spStat (K : PySem.W.Frag) : Sp := fun vs H Q _ => ∃ (pn hd nw : Addr) (h n : Tb) (any : Bool), vs = [.ref pn, .ref hd, .ref nw, .bl any] ∧ PenOk H pn ∧ hid H pn hd = some (.dK (kvI h)) ∧ hid H pn nw = some (.dK (kvI n)) ∧ hd ≠ nw ∧ StatOk h n any ∧
  ∀ H' d, FrP pn H H' → H d = none → hid H' pn d = some (.dK (kvI (outT h n))) → Q (.ref d) H'
theorem sc_law_statement : FnScope ["_law_pen_here", "_law_held", "_law_news", "_law_is_any", "_law_table", "_law_order", "_law_told", "_law_places_here", "_law_row", "_law_key", "_law_new"] ["_law_pen_here", "_law_held", "_law_news", "_law_is_any"] (defScope s_law_statement) := ⟨rfl, rfl, rfl, by decide +kernel, rfl, by decide +kernel, by decide +kernel⟩
theorem ok_law_statement (T : Txt K mg) : FnR P w K mg base CX0 11 (a_law_statement K) (spStat K) := by
  have nd := sc_law_statement.nd
  refine okR T.f_law_statement sc_law_statement (fun _ _ _ _ _ _ us hl => match us, hl with | [_, _, _, _], _ => rfl) (fun vs H Q E h => ?_) (fun cdv A outer s H vs Q E hr h => ?_)
  · obtain ⟨pn, hd, nw, h, n, any, rfl, _⟩ := h
    rfl
  · obtain ⟨pn, hd, nw, h, n, any, rfl, hp, ehd, enw, hne, so, q⟩ := h
    have hu := hu_of hr
    obtain ⟨fo, ro, a1, a2, a3⟩ := T.addT
    refine ⟨_, (pss_cons (ps_set (i := 4) nd rfl (.inl rfl) (pe_op (op_binO T.addO.1 T.addO.2 T.self1 a1 a2 a3 (ok_tAdd T) (by exact hr.mono (by decide)) pass0) (pe_makeR0 T.mkT (ok_tInit T) (by exact hr.mono (by decide)) (by rfl) T.g_Table pass0) (pe_callTy call_tuple_of (by rfl) T.n_tuple (by decide +kernel) (pa_cons (pe_lock (pe_lc (own := [("_law_row", 8)]) (g := (gName 8)) rfl nd (pi_keys (pv 1)) (blkOk_by (own := [("_law_row", 8)]) (N := ["_law_pen_here", "_law_held", "_law_news", "_law_is_any", "_law_table", "_law_order", "_law_told", "_law_places_here", "_law_row", "_law_key", "_law_new"]) (sc := defScope s_law_statement) (by decide +kernel)) (fun _ _ _ _ _ => (pg_name (i := 8) nd rfl (.inl rfl) (.inr rfl))) (fun _ _ _ _ _ => pts_nil) (fun _ _ _ _ _ => (pe_tup (pa_cons (pe_dget (by exact hu) (pv 1) (pv 8) (fun _ _ => rfl)) (pa_cons (pe_ifExp (pt_cmp (pc_din (by exact hu) (pv 8) (pv 2)) (by rfl)) (pe_dget (by exact hu) (pv 2) (pv 8) (fun _ _ => rfl)) (pe_dget (by exact hu) (pv 1) (pv 8) (fun _ _ => rfl))) pa_nil)))))) pa_nil)))) (pss_cons (ps_set (i := 5) nd rfl (.inl rfl) (pe_callTy call_tuple_of (by rfl) T.n_tuple (by decide +kernel) (pa_cons (pe_cl (ok_law_mixed T) (by exact hr.mono (by decide)) (by rfl) T.g_law_mixed (T.f_law_mixed.elim fun _ F => F.kp) pass0 (pa_cons (pv 0) (pa_cons (pe_lc (own := [("_law_key", 9), ("_law_new", 10)]) (g := (gTup K 2 (gCons (gName 9) (gCons (gName 10) gNil)))) rfl nd (pi_tup (pe_propR (pv 4) T.cl T.rowsP (ok_tRows T) (by exact hr.mono (by decide)) pass0 (by rfl))) (blkOk_by (own := [("_law_key", 9), ("_law_new", 10)]) (N := ["_law_pen_here", "_law_held", "_law_news", "_law_is_any", "_law_table", "_law_order", "_law_told", "_law_places_here", "_law_row", "_law_key", "_law_new"]) (sc := defScope s_law_statement) (by decide +kernel)) (fun _ _ _ _ _ => (pg_tup rfl (pgs_cons (pg_name (i := 9) nd rfl (.inl rfl) (.inr rfl)) (pgs_cons (pg_name (i := 10) nd rfl (.inl rfl) (.inr rfl)) pgs_nil)))) (fun _ _ _ _ _ => pts_nil) (fun _ _ _ _ _ => (pv 9))) pa_nil))) pa_nil))) (pss_cons (ps_if (pt_not (pt_val (pv 3))) (pss_cons (ps_set (i := 6) nd rfl (.inl rfl) (pe_cl (ok_verdict T) (by exact hr.mono (by decide)) (by rfl) T.g_verdict (T.f_verdict.elim fun _ F => F.kp) pass0 (pa_cons (pv 4) pa_nil))) (pss_cons (ps_if (pt_cmpR op_ne (pe_ix ix_tup (pv 6) pe_int (fun _ _ => rfl)) pe_str (nomark _)) pss_never pss_nil) (pss_one (ps_set (i := 5) nd rfl (.inl rfl) (pe_ix ix_tup (pv 6) pe_int (fun _ _ => rfl)))))) pss_nil) (pss_cons (ps_set (i := 7) nd rfl (.inr rfl) (pe_cl (ok_law_places T) (by exact hr.mono (by decide)) (by rfl) T.g_law_places (T.f_law_places.elim fun _ F => F.kp) pass0 (pa_cons (pv 4) (pa_cons (pv 5) pa_nil)))) (pss_cons (ps_if (pt_cmp (pc_isN (pv 7))) pss_never pss_nil) (pss_one (ps_ret (pe_callTy (call_dictP rfl) (by rfl) T.n_dict (by decide +kernel) (pa_cons (pe_lock (pe_lc (own := [("_law_row", 8)]) (g := (gName 8)) rfl nd (pi_keys (pv 1)) (blkOk_by (own := [("_law_row", 8)]) (N := ["_law_pen_here", "_law_held", "_law_news", "_law_is_any", "_law_table", "_law_order", "_law_told", "_law_places_here", "_law_row", "_law_key", "_law_new"]) (sc := defScope s_law_statement) (by decide +kernel)) (fun _ _ _ _ _ => (pg_name (i := 8) nd rfl (.inl rfl) (.inr rfl))) (fun _ _ _ _ _ => pts_nil) (fun _ _ _ _ _ => (pe_tup (pa_cons (pv 8) (pa_cons (pe_dget (by exact hu) (pv 7) (pe_dget (by exact hu) (pv 1) (pv 8) (fun _ _ => rfl)) (fun _ _ => rfl)) pa_nil)))))) pa_nil))))))))), ?_⟩
    obtain ⟨r, g, pm, inj⟩ := stat_table so
    intro z dx hz hdx hne2
    refine ⟨z, dx, [], [], rfl, upd_same, .nil, ⟨by simp [keysT], by simp, fun p hp => by cases hp⟩, fun H1 kp ⟨dd, e1, e2⟩ => ⟨rfl, ?_⟩⟩
    have s1 : Same H H1 := fun b o e => by
      have h1 : b ≠ z := fun e' => by rw [e', hz] at e; cases e
      have h2 : b ≠ dx := fun e' => by rw [e', hdx] at e; cases e
      refine kp b o ?_ h1
      rw [upd_ne h1, upd_ne h2]
      exact e
    have htz : TabAt K H1 z [] := ⟨⟨.nil, by simp, fun p hp => by cases hp⟩, dx, dd, [], e1, e2, .refl _⟩
    have f1 := (FrP.refl hp).pure s1
    have eh1 : H1 hd = some (.dK (kvI h)) := hid_same _ _ (f1.s _ _ ehd)
    have en1 : H1 nw = some (.dK (kvI n)) := hid_same _ _ (f1.s _ _ enw)
    refine ⟨hd, _, eh1, True.intro, fun od => ⟨_, rfl, hd, od, rfl, .inl ⟨_, upd_same, fun D hD => ?_⟩⟩⟩
    have hDhd : D ≠ hd := fun e => by
      rw [e, upd_same] at hD
      cases hD
    have hl40 := so.len
    have hrl : (rowsT h n).length = h.length := List.length_map _
    refine lc_go walk_keys (fun i acc H => DpAll K H acc (((rowsT h n).take i).map rD)) (by rw [kvI_len]; omega) hD (fun H s => s _ _ upd_same) .nil ?_ ?_
    · rintro i x H0 H2 acc hi L ⟨rfl, kk, vv, ek, rfl⟩
      obtain ⟨pr, ep, rfl, rfl⟩ := kvI_get ek
      rw [kvI_len] at hi
      have hfr : H2 hd = some (.frz od (.dK (kvI h))) := (L.same.trans hid_same) _ _ upd_same
      have hnn : H2 nw = some (.dK (kvI n)) := (L.same.trans hid_same) _ _ (by rw [upd_ne (Ne.symm hne)]; exact en1)
      have zh : DGet H2 hd (V.int pr.1) (valV (kvI h) (Sum.inl pr.1)) := .inl ⟨_, Sum.inl pr.1, .inr ⟨od, hfr⟩, rfl, rfl⟩
      rw [kvI_val, newT_of so.nd (List.mem_of_getElem? (show h[i]? = some (pr.1, pr.2) from ep))] at zh
      have zn : DGet H2 nw (V.int pr.1) (valV (kvI n) (Sum.inl pr.1)) := DGet.k (k := Sum.inl pr.1) hnn
      rw [kvI_val] at zn
      have er : (rowsT h n)[i]? = some (pr.2, goT n pr) := by
        unfold rowsT
        rw [List.getElem?_map, ep]
        rfl
      have fin : ∀ (w' : Int), w' = goT n pr → ∀ t', H2 t' = none → ∃ acc', upd H2 t' (.tup [.int pr.2, .int w']) D = some (.lst acc') ∧ acc'.length < sizeLine ∧ LcP (fun i acc H => DpAll K H acc (((rowsT h n).take i).map rD)) D (upd H1 hd (.frz od (.dK (kvI h)))) (i + 1) (upd (upd H2 t' (.tup [.int pr.2, .int w'])) D (.lst (acc' ++ [V.ref t']))) := by
        intro w' ew t' ht'
        have ht'D : t' ≠ D := fun e => by rw [e, L.at_] at ht'; cases ht'
        refine L.snoc (by omega) (same_up ht') ?_
        show DpAll K _ (acc ++ [V.ref t']) (((rowsT h n).take (i + 1)).map rD)
        rw [take_map er, ew]
        refine dpAll_snoc (DpAll.same (hid_mono (same_up ht')) _ _ L.f) (dp_tI (ns := [pr.2, goT n pr]) (SqT.of ?_))
        rw [hid_ne ht'D]
        exact upd_same
      refine ⟨rfl, yes ⟨_, rfl, _, rfl, hd, _, rfl, zh, _, rfl, _, rfl, nw, _, rfl, zn, _, rfl, ?_⟩⟩
      cases hn : newT n pr.1 with
      | none =>
        refine iteF ⟨_, rfl, _, rfl, hd, _, rfl, zh, (show 2 ≤ sizeLine by decide), fin _ ?_⟩
        unfold goT
        rw [hn]
        rfl
      | some v =>
        rw [hn] at zn
        refine iteT ⟨_, rfl, _, rfl, nw, _, rfl, zn, (show 2 ≤ sizeLine by decide), fin _ ?_⟩
        unfold goT
        rw [hn]
        rfl
    · intro H3 acc s3 e3 f3 _
      have hfr3 : H3 hd = some (.frz od (.dK (kvI h))) := s3 _ _ upd_same
      refine ⟨hfr3, ?_⟩
      have s14 := unlock_same eh1 s3
      have e4 : upd H3 hd (.dK (kvI h)) D = some (.lst acc) := by
        rw [upd_ne hDhd]
        exact e3
      have f4 : DpAll K (upd H3 hd (.dK (kvI h))) acc ((rowsT h n).map rD) := by
        refine DpAll.set (notL_frz hfr3) _ _ (by rw [rD_map]; exact noLs_tI _) ?_
        have f3 : DpAll K (hid H3 D) acc (((rowsT h n).take (kvI h).length).map rD) := f3
        rw [kvI_len, ← hrl, List.take_length] at f3
        exact DpAll.same hid_same _ _ f3
      generalize upd H3 hd (.dK (kvI h)) = H4 at s14 e4 f4 ⊢
      refine ⟨D, acc, rfl, .inl ⟨SqL.of e4, fun tt htt => ?_⟩⟩
      have s4 := s14.trans (same_up (o := .tup acc) htt)
      refine ⟨z, dx, _, tt, acc, rfl, rfl, s4 _ _ e1, SqT.of upd_same, z, tt, [], rowsT h n, r, acc, rfl, htz.same s4, SqT.of upd_same, DpAll.same (same_up htt) _ _ f4, g, by simpa using pm, fun H5 c s5 _ htc => ⟨c, rfl, ?_⟩⟩
      have f5 := f1.pure (s4.trans s5)
      obtain ⟨dxc, fsc, hic⟩ := htc.ins
      have hkl := keys_sz g
      have hgl := g.len
      refine ⟨_, rfl, _, rfl, c, dxc, fsc, rfl, hic, ⟨c, r, rfl, htc, fun H6 t6 s6 hq6 ⟨ys, hy1, hys⟩ => ⟨t6, rfl, ⟨ys, hy1⟩, fun D2 hD2 => ?_⟩⟩⟩
      have ey1 := RowsAt.len hys
      refine lc_go (walk_tup (xs := ys)) (fun i acc H => acc = (keysT (r.take i)).map V.int) (by omega) hD2 (fun H s => Same.tup s hy1) rfl ?_ ?_
      · rintro i x H0 H2 acc hi L ⟨rfl, ex⟩
        obtain ⟨pr, a, e2, rfl, hpr⟩ := row_at (DpAll.same (L.same.trans hid_same) _ _ hys) ex
        refine ⟨a, _, rfl, hpr, rfl, _, _, rfl, _, _, rfl, rfl, rfl, yes ⟨_, rfl, L.snoc (by omega) (Same.refl _) ?_⟩⟩
        show acc ++ [V.int pr.1] = _
        rw [keysT_take1 e2, ← show acc = _ from L.f]
      · intro H7 acc7 s7 e7 f7 _
        have e7 : H7 D2 = some (.lst ((keysT r).map V.int)) := by
          rw [e7, show acc7 = _ from f7, ey1, List.take_length]
        have f67 := f5.pure (s6.trans s7)
        have hD2p : D2 ≠ pn := new_ne (f5.pure s6).p hD2
        refine ⟨pn, D2, (keysT r).map V.int, (keysT r).map .int, rfl, f67.p, .inl (SqL.of (by rw [hid_ne hD2p]; exact e7)), dpAll_ints _, shape_ints, by rw [memI]; omega, fun H8 l ys8 es s8 p8 hl8 e8 hd8 pm8 => ?_⟩
        obtain ⟨o, rfl, po⟩ := perm_map_of pm8
        have eys := dpAll_int hd8
        subst eys
        have f8 := f67.trans ⟨s8, p8⟩
        have htc8 : TabAt K H8 c r := by
          have h5 : TabAt K (hid H5 pn) c r := by
            obtain ⟨g', dxt, ddt, dt, t1, t2, t3⟩ := htc
            obtain ⟨lp, elp, _⟩ := f5.p
            have n1 : c ≠ pn := fun e => by rw [e, elp] at t1; cases t1
            have n2 : ddt ≠ pn := fun e => by rw [e, elp] at t2; cases t2
            exact ⟨g', dxt, ddt, dt, by rw [hid_ne n1]; exact t1, by rw [hid_ne n2]; exact t2, t3⟩
          exact h5.same (((hid_mono (s6.trans s7)).trans s8).trans hid_same)
        refine ⟨l, _, rfl, .inl ⟨SqL.of e8, fun ot hot => ?_⟩⟩
        have f9 := f8.pure (same_up (o := .tup (o.map V.int)) hot)
        have htc9 := htc8.same (same_up (o := .tup (o.map V.int)) hot)
        have hot9 : SqT K (upd H8 ot (.tup (o.map V.int))) ot (o.map V.int) := SqT.of upd_same
        generalize upd H8 ot (.tup (o.map V.int)) = H9 at f9 htc9 hot9 ⊢
        refine ⟨_, rfl, any, rfl, ?_⟩
        cases any with
        | true =>
          have psg : Rc.Passing (wtT r) o := Rc.passing_free (stat_free so g pm) o
          refine iteF ?_
          refine ⟨_, rfl, _, rfl, c, ot, r, o, rfl, htc9, inj, hot9, po, psg, fun HP pd sP hpd eP => ?_⟩
          have fP := f9.pure sP
          refine ⟨_, rfl, _, rfl, iteF ?_⟩
          have ehP : HP hd = some (.dK (kvI h)) := hid_same _ _ (fP.s _ _ ehd)
          have hpdhd : pd ≠ hd := fun e => by
            have := hid_same _ _ (f9.s _ _ ehd)
            rw [e, this] at hpd
            cases hpd
          refine ⟨hd, _, ehP, True.intro, fun od2 => ⟨_, rfl, hd, od2, rfl, .inl ⟨_, upd_same, fun DD hDD => ?_⟩⟩⟩
          have hDDhd : DD ≠ hd := fun e => by
            rw [e, upd_same] at hDD
            cases hDD
          have hol : (outT h n).length = h.length := List.length_map _
          refine lc_go walk_keys (fun i acc H => DpAll K H acc (((outT h n).take i).map rD)) (by rw [kvI_len]; omega) hDD (fun H s => s _ _ upd_same) .nil ?_ ?_
          · rintro i x H0 H2 acc hi L ⟨rfl, kk, vv, ek, rfl⟩
            obtain ⟨pr, ep, rfl, rfl⟩ := kvI_get ek
            rw [kvI_len] at hi
            have hfr : H2 hd = some (.frz od2 (.dK (kvI h))) := (L.same.trans hid_same) _ _ upd_same
            have hpp : H2 pd = some (.dK (kvI r)) := (L.same.trans hid_same) _ _ (by rw [upd_ne hpdhd]; exact eP)
            have zh : DGet H2 hd (V.int pr.1) (valV (kvI h) (Sum.inl pr.1)) := .inl ⟨_, Sum.inl pr.1, .inr ⟨od2, hfr⟩, rfl, rfl⟩
            rw [kvI_val, newT_of so.nd (List.mem_of_getElem? (show h[i]? = some (pr.1, pr.2) from ep))] at zh
            have zp : DGet H2 pd (V.int pr.2) (valV (kvI r) (Sum.inl pr.2)) := DGet.k (k := Sum.inl pr.2) hpp
            rw [kvI_val, stat_get g pm (List.mem_of_getElem? ep)] at zp
            have er : (outT h n)[i]? = some (pr.1, goT n pr) := by
              unfold outT
              rw [List.getElem?_map, ep]
              rfl
            refine ⟨rfl, yes ⟨_, rfl, _, rfl, _, rfl, _, rfl, hd, _, rfl, zh, pd, _, rfl, zp, (show 2 ≤ sizeLine by decide), fun t' ht' => ?_⟩⟩
            have ht'D : t' ≠ DD := fun e => by rw [e, L.at_] at ht'; cases ht'
            refine L.snoc (by omega) (same_up ht') ?_
            show DpAll K _ (acc ++ [V.ref t']) (((outT h n).take (i + 1)).map rD)
            rw [take_map er]
            refine dpAll_snoc (DpAll.same (hid_mono (same_up ht')) _ _ L.f) (dp_tI (ns := [pr.1, goT n pr]) (SqT.of ?_))
            rw [hid_ne ht'D]
            exact upd_same
          · intro HQ accQ sQ eQ fQ _
            have hfrQ : HQ hd = some (.frz od2 (.dK (kvI h))) := sQ _ _ upd_same
            refine ⟨hfrQ, ?_⟩
            have sPQ := unlock_same ehP sQ
            have eQ2 : upd HQ hd (.dK (kvI h)) DD = some (.lst accQ) := by
              rw [upd_ne hDDhd]
              exact eQ
            have fQ2 : DpAll K (upd HQ hd (.dK (kvI h))) accQ ((outT h n).map rD) := by
              refine DpAll.set (notL_frz hfrQ) _ _ (by rw [rD_map]; exact noLs_tI _) ?_
              have fQ : DpAll K (hid HQ DD) accQ (((outT h n).take (kvI h).length).map rD) := fQ
              rw [kvI_len, ← hol, List.take_length] at fQ
              exact DpAll.same hid_same _ _ fQ
            generalize upd HQ hd (.dK (kvI h)) = HR at sPQ eQ2 fQ2 ⊢
            have fR := fP.pure sPQ
            obtain ⟨pps, rfl⟩ := refs_of (by rw [rD_map] at fQ2; exact fQ2)
            refine ⟨DD, pps, kvI (outT h n), rfl, SqL.of eQ2, paired_kv fQ2, fun d hd9 => ?_⟩
            rw [merge0 (by rw [outT_keys]; exact so.nd)]
            have hdp := new_ne fR.p hd9
            refine q _ d (fR.pure (same_up hd9)) ?_ ?_
            · have h3 := fR.s.free (l := d) (by rw [hid_ne hdp]; exact hd9)
              rwa [hid_ne hdp] at h3
            · rw [hid_ne hdp]
              exact upd_same
        | false =>
          refine iteT ⟨_, rfl, c, r, rfl, htc9, inj, so.rings rfl r g pm.symm, fun H10 v6 t10 o10 s10 ev eo po10 ps10 => ?_⟩
          have f10 := f9.pure s10
          have htc10 := htc9.same s10
          refine ⟨_, rfl, v6, _, 0, _, rfl, rfl, SqT.of ev, atI_nat (j := 0) rfl, rfl, _, rfl, ?_⟩
          refine ite2 (fun zz => by simp at zz) (fun _ => ?_)
          refine ⟨_, rfl, v6, _, 1, _, rfl, rfl, SqT.of ev, atI_nat (j := 1) rfl, ?_⟩
          refine ⟨_, rfl, _, rfl, c, t10, r, o10, rfl, htc10, inj, eo, po10, ps10, fun HP pd sP hpd eP => ?_⟩
          have fP := f10.pure sP
          refine ⟨_, rfl, _, rfl, iteF ?_⟩
          have ehP : HP hd = some (.dK (kvI h)) := hid_same _ _ (fP.s _ _ ehd)
          have hpdhd : pd ≠ hd := fun e => by
            have := hid_same _ _ (f10.s _ _ ehd)
            rw [e, this] at hpd
            cases hpd
          refine ⟨hd, _, ehP, True.intro, fun od2 => ⟨_, rfl, hd, od2, rfl, .inl ⟨_, upd_same, fun DD hDD => ?_⟩⟩⟩
          have hDDhd : DD ≠ hd := fun e => by
            rw [e, upd_same] at hDD
            cases hDD
          have hol : (outT h n).length = h.length := List.length_map _
          refine lc_go walk_keys (fun i acc H => DpAll K H acc (((outT h n).take i).map rD)) (by rw [kvI_len]; omega) hDD (fun H s => s _ _ upd_same) .nil ?_ ?_
          · rintro i x H0 H2 acc hi L ⟨rfl, kk, vv, ek, rfl⟩
            obtain ⟨pr, ep, rfl, rfl⟩ := kvI_get ek
            rw [kvI_len] at hi
            have hfr : H2 hd = some (.frz od2 (.dK (kvI h))) := (L.same.trans hid_same) _ _ upd_same
            have hpp : H2 pd = some (.dK (kvI r)) := (L.same.trans hid_same) _ _ (by rw [upd_ne hpdhd]; exact eP)
            have zh : DGet H2 hd (V.int pr.1) (valV (kvI h) (Sum.inl pr.1)) := .inl ⟨_, Sum.inl pr.1, .inr ⟨od2, hfr⟩, rfl, rfl⟩
            rw [kvI_val, newT_of so.nd (List.mem_of_getElem? (show h[i]? = some (pr.1, pr.2) from ep))] at zh
            have zp : DGet H2 pd (V.int pr.2) (valV (kvI r) (Sum.inl pr.2)) := DGet.k (k := Sum.inl pr.2) hpp
            rw [kvI_val, stat_get g pm (List.mem_of_getElem? ep)] at zp
            have er : (outT h n)[i]? = some (pr.1, goT n pr) := by
              unfold outT
              rw [List.getElem?_map, ep]
              rfl
            refine ⟨rfl, yes ⟨_, rfl, _, rfl, _, rfl, _, rfl, hd, _, rfl, zh, pd, _, rfl, zp, (show 2 ≤ sizeLine by decide), fun t' ht' => ?_⟩⟩
            have ht'D : t' ≠ DD := fun e => by rw [e, L.at_] at ht'; cases ht'
            refine L.snoc (by omega) (same_up ht') ?_
            show DpAll K _ (acc ++ [V.ref t']) (((outT h n).take (i + 1)).map rD)
            rw [take_map er]
            refine dpAll_snoc (DpAll.same (hid_mono (same_up ht')) _ _ L.f) (dp_tI (ns := [pr.1, goT n pr]) (SqT.of ?_))
            rw [hid_ne ht'D]
            exact upd_same
          · intro HQ accQ sQ eQ fQ _
            have hfrQ : HQ hd = some (.frz od2 (.dK (kvI h))) := sQ _ _ upd_same
            refine ⟨hfrQ, ?_⟩
            have sPQ := unlock_same ehP sQ
            have eQ2 : upd HQ hd (.dK (kvI h)) DD = some (.lst accQ) := by
              rw [upd_ne hDDhd]
              exact eQ
            have fQ2 : DpAll K (upd HQ hd (.dK (kvI h))) accQ ((outT h n).map rD) := by
              refine DpAll.set (notL_frz hfrQ) _ _ (by rw [rD_map]; exact noLs_tI _) ?_
              have fQ : DpAll K (hid HQ DD) accQ (((outT h n).take (kvI h).length).map rD) := fQ
              rw [kvI_len, ← hol, List.take_length] at fQ
              exact DpAll.same hid_same _ _ fQ
            generalize upd HQ hd (.dK (kvI h)) = HR at sPQ eQ2 fQ2 ⊢
            have fR := fP.pure sPQ
            obtain ⟨pps, rfl⟩ := refs_of (by rw [rD_map] at fQ2; exact fQ2)
            refine ⟨DD, pps, kvI (outT h n), rfl, SqL.of eQ2, paired_kv fQ2, fun d hd9 => ?_⟩
            rw [merge0 (by rw [outT_keys]; exact so.nd)]
            have hdp := new_ne fR.p hd9
            refine q _ d (fR.pure (same_up hd9)) ?_ ?_
            · have h3 := fR.s.free (l := d) (by rw [hid_ne hdp]; exact hd9)
              rwa [hid_ne hdp] at h3
            · rw [hid_ne hdp]
              exact upd_same
end
end Rw

-- M5
set_option Elab.async false
set_option linter.all false
set_option maxRecDepth 100000
set_option maxHeartbeats 4000000
/-! The law's three statements, in plain words. -/
namespace Rw
open PySem PySem.Spec PyProof.Rows L2
theorem newT_plc {o : List Int} {f : Int → Int} (k : Int) : newT (plc o f) k = if k ∈ o then some (f k) else none := by
  by_cases h : k ∈ o
  · rw [if_pos h]
    induction o with
    | nil => cases h
    | cons x o ih =>
      by_cases e : x = k
      · subst e
        unfold newT plc
        rw [List.map_cons, List.find?_cons]
        simp
      · have hk : k ∈ o := by
          rcases List.mem_cons.mp h with h | h
          · exact absurd h.symm e
          · exact h
        have := ih hk
        unfold newT plc at this ⊢
        rw [List.map_cons, List.find?_cons]
        have e2 : (x == k) = false := by simpa using e
        simp only [e2]
        exact this
  · rw [if_neg h]
    refine newT_none.mpr ?_
    rw [plc_keys]
    exact h
theorem outT_plc (o : List Int) (f : Int → Int) (n : Tb) : outT (plc o f) n = plc o fun k => (newT n k).getD (f k) := by
  unfold outT plc
  rw [List.map_map]
  rfl
theorem plc_congr {o : List Int} {f g : Int → Int} (h : ∀ k ∈ o, f k = g k) : plc o f = plc o g := by
  unfold plc
  refine List.map_congr_left fun k hk => ?_
  rw [h k hk]
theorem nodup_on {o : List Int} {f : Int → Int} (nd : o.Nodup) (h : ∀ a ∈ o, ∀ b ∈ o, f a = f b → a = b) : (o.map f).Nodup := by
  rw [List.Nodup, List.pairwise_map]
  refine (List.Pairwise.and_mem.mp nd).imp ?_
  rintro a b ⟨ha, hb, ne⟩ e
  exact ne (h a ha b hb e)
theorem stat_plc {o : List Int} {f g : Int → Int} {n : Tb} {any : Bool} (hg : ∀ k ∈ o, (newT n k).getD (f k) = g k) (nd : o.Nodup) (ndn : (keysT n).Nodup) (fi : ∀ a ∈ o, ∀ b ∈ o, f a = f b → a = b) (gi : ∀ a ∈ o, ∀ b ∈ o, g a = g b → a = b) (len : o.length ≤ 40)
    (kb : ∀ k ∈ o, KeyB (f k) ∧ KeyB (g k)) (free : any = true → ∀ a ∈ o, ∀ b ∈ o, g a = f b → a = b) (rings : any = false → ∀ r, Good r → Inj r → r.Perm (o.map fun k => (f k, g k)) → ringsR r = []) : StatOk (plc o f) n any ∧ outT (plc o f) n = plc o g := by
  have e1 : (plc o f).map (·.2) = o.map f := by unfold plc; rw [List.map_map]; rfl
  have e2 : (plc o f).map (goT n) = o.map g := by
    unfold plc
    rw [List.map_map]
    exact List.map_congr_left fun k hk => hg k hk
  have e3 : rowsT (plc o f) n = o.map fun k => (f k, g k) := by
    unfold rowsT plc
    rw [List.map_map]
    refine List.map_congr_left fun k hk => ?_
    show (f k, (newT n k).getD (f k)) = _
    rw [hg k hk]
  have gg : ∀ p ∈ plc o f, p.1 ∈ o ∧ p.2 = f p.1 ∧ goT n p = g p.1 := fun p hp => by
    obtain ⟨k, hk, rfl⟩ := List.mem_map.mp hp
    exact ⟨hk, rfl, hg k hk⟩
  have nd2 : (o.map g).Nodup := nodup_on nd gi
  refine ⟨⟨by rw [plc_keys]; exact nd, ndn, by rw [e1]; exact nodup_on nd fi, by rw [e2]; exact nd2, by unfold plc; rw [List.length_map]; exact len, fun p hp => ?_, fun ha p hp p' hp' e => ?_, fun ha r g' pm => ?_⟩, ?_⟩
  · obtain ⟨h1, h2, h3⟩ := gg p hp
    rw [h2, h3]
    exact kb _ h1
  · obtain ⟨h1, h2, h3⟩ := gg p hp
    obtain ⟨h4, h5, h6⟩ := gg p' hp'
    rw [h3, h5] at e
    have := free ha _ h1 _ h4 e
    exact Prod.ext this (by rw [h2, h5, this])
  · rw [e3] at pm
    refine rings ha r g' ?_ pm
    unfold Inj
    refine (List.Perm.nodup_iff (pm.map Prod.snd)).mpr ?_
    rw [List.map_map]
    exact nd2
  · rw [outT_plc]
    exact plc_congr hg
/-- the spare keys -/
def spK (ks : List Int) (k : Int) : Int := 10 ^ 29 + 3 * ((ks.idxOf k : Nat) : Int)
theorem spK_at {ks : List Int} (nd : ks.Nodup) {i : Nat} {k : Int} (e : ks[i]? = some k) : spK ks k = 10 ^ 29 + 3 * (i : Int) := by
  obtain ⟨h, rfl⟩ := List.getElem?_eq_some_iff.mp e
  unfold spK
  have h1 : ks.idxOf ks[i] < ks.length := List.idxOf_lt_length_iff.mpr (List.getElem_mem h)
  have h2 : ks[ks.idxOf ks[i]]? = some ks[i] := by rw [List.getElem?_eq_getElem h1, List.getElem_idxOf]
  rw [Rc.nd_idx nd h2 (List.getElem?_eq_getElem h)]
theorem spK_b {ks : List Int} (len : ks.length ≤ 40) {k : Int} (hk : k ∈ ks) : 10 ^ 29 ≤ spK ks k ∧ spK ks k ≤ 10 ^ 29 + 200 := by
  unfold spK
  have h1 : ks.idxOf k < ks.length := List.idxOf_lt_length_iff.mpr hk
  omega
theorem spK_inj {ks : List Int} {a b : Int} (ha : a ∈ ks) (hb : b ∈ ks) (e : spK ks a = spK ks b) : a = b := by
  unfold spK at e
  have h1 : ks.idxOf a < ks.length := List.idxOf_lt_length_iff.mpr ha
  have h2 : ks.idxOf b < ks.length := List.idxOf_lt_length_iff.mpr hb
  have e2 : ks.idxOf a = ks.idxOf b := by omega
  have e3 : ks[ks.idxOf a] = a := List.getElem_idxOf h1
  have e4 : ks[ks.idxOf b] = b := List.getElem_idxOf h2
  have e5 : ks[ks.idxOf a]? = some a := by rw [List.getElem?_eq_getElem h1, e3]
  have e6 : ks[ks.idxOf b]? = some b := by rw [List.getElem?_eq_getElem h2, e4]
  rw [e2, e6] at e5
  exact (Option.some.inj e5).symm
def wD (d : Tb) (k : Int) : Int := (newT d k).getD 0
theorem d_plc {d : Tb} (nd : (keysT d).Nodup) : d = plc (keysT d) (wD d) := by
  unfold plc keysT
  rw [List.map_map]
  have : d.map id = d := List.map_id d
  conv => lhs; rw [← this]
  refine List.map_congr_left fun p hp => ?_
  show p = (p.1, wD d p.1)
  unfold wD
  rw [newT_of nd (show (p.1, p.2) ∈ d from hp)]
  rfl
theorem wD_mem {d : Tb} (nd : (keysT d).Nodup) {k : Int} (hk : k ∈ keysT d) : (k, wD d k) ∈ d := by
  obtain ⟨v, e⟩ := newT_some hk
  have := newT_mem e
  unfold wD
  rw [e]
  exact this
def BK (x : Int) : Prop := -(42 * 10 ^ 27) ≤ x ∧ x ≤ 42 * 10 ^ 27
section
variable {d r : Tb} {a : Bool}
theorem wD_b (l : LawD d) {k : Int} (hk : k ∈ keysT d) : BK k ∧ BK (wD d k) := l.kb _ (wD_mem l.nd hk)
theorem wD_inj (l : LawD d) {x y : Int} (hx : x ∈ keysT d) (hy : y ∈ keysT d) (e : wD d x = wD d y) : x = y := by
  have h1 := wD_mem l.nd hx
  have h2 := wD_mem l.nd hy
  obtain ⟨m, hm⟩ := List.getElem?_of_mem h1
  obtain ⟨n, hn⟩ := List.getElem?_of_mem h2
  have e1 : (d.map (·.2))[m]? = some (wD d x) := by rw [List.getElem?_map, hm]; rfl
  have e2 : (d.map (·.2))[n]? = some (wD d x) := by rw [List.getElem?_map, hn, e]; rfl
  have := Rc.nd_idx l.inj e1 e2
  subst this
  rw [hm] at hn
  cases hn
  rfl
theorem keyB_of {x : Int} (h : BK x) : KeyB x := by
  unfold BK at h
  unfold KeyB
  omega
theorem keyB_sp {ks : List Int} (len : ks.length ≤ 40) {k : Int} (hk : k ∈ ks) : KeyB (spK ks k) := by
  have := spK_b len hk
  unfold KeyB
  omega
def g1 (ks : List Int) (k : Int) : Int := if k ∈ ks then spK ks k else k
def g2 (d : Tb) (ks : List Int) (k : Int) : Int := if k ∈ ks then spK ks k else wD d k
/-- the rows that move ahead of the parked ones -/
def othT (d : Tb) (ks : List Int) : Tb := plc ((keysT d).filter fun k => !decide (k ∈ ks)) (wD d)
theorem g1_inj (l : LawD d) {ks : List Int} (hs : ∀ k ∈ ks, k ∈ keysT d) (len : ks.length ≤ 40) : ∀ x ∈ keysT d, ∀ y ∈ keysT d, g1 ks x = g1 ks y → x = y := by
  intro x hx y hy e
  have bx := (wD_b l hx).1
  have by' := (wD_b l hy).1
  unfold BK at bx by'
  unfold g1 at e
  by_cases h1 : x ∈ ks <;> by_cases h2 : y ∈ ks
  · rw [if_pos h1, if_pos h2] at e
    exact spK_inj h1 h2 e
  · rw [if_pos h1, if_neg h2] at e
    have := spK_b len h1
    omega
  · rw [if_neg h1, if_pos h2] at e
    have := spK_b len h2
    omega
  · rwa [if_neg h1, if_neg h2] at e
theorem g2_inj (l : LawD d) {ks : List Int} (hs : ∀ k ∈ ks, k ∈ keysT d) (len : ks.length ≤ 40) : ∀ x ∈ keysT d, ∀ y ∈ keysT d, g2 d ks x = g2 d ks y → x = y := by
  intro x hx y hy e
  have bx := (wD_b l hx).2
  have by' := (wD_b l hy).2
  unfold BK at bx by'
  unfold g2 at e
  by_cases h1 : x ∈ ks <;> by_cases h2 : y ∈ ks
  · rw [if_pos h1, if_pos h2] at e
    exact spK_inj h1 h2 e
  · rw [if_pos h1, if_neg h2] at e
    have := spK_b len h1
    omega
  · rw [if_neg h1, if_pos h2] at e
    have := spK_b len h2
    omega
  · rw [if_neg h1, if_neg h2] at e
    exact wD_inj l hx hy e
theorem g1_b (l : LawD d) {ks : List Int} (len : ks.length ≤ 40) {k : Int} (hk : k ∈ keysT d) : KeyB (g1 ks k) := by
  unfold g1
  split
  · exact keyB_sp len ‹_›
  · exact keyB_of (wD_b l hk).1
theorem g2_b (l : LawD d) {ks : List Int} (len : ks.length ≤ 40) {k : Int} (hk : k ∈ keysT d) : KeyB (g2 d ks k) := by
  unfold g2
  split
  · exact keyB_sp len ‹_›
  · exact keyB_of (wD_b l hk).2
/-- statement one: the parked rows go to the spare keys -/
theorem stat1 (l : LawD d) {ks : List Int} (hs : ∀ k ∈ ks, k ∈ keysT d) (len : ks.length ≤ 40) (nd : ks.Nodup) : StatOk (plc (keysT d) fun k => k) (plc ks (spK ks)) true ∧ outT (plc (keysT d) fun k => k) (plc ks (spK ks)) = plc (keysT d) (g1 ks) := by
  have hl : (keysT d).length ≤ 40 := by unfold keysT; rw [List.length_map]; exact l.len
  refine stat_plc (g := g1 ks) (fun k hk => ?_) l.nd (by rw [plc_keys]; exact nd) (fun x _ y _ e => e) (g1_inj l hs len) hl (fun k hk => ⟨keyB_of (wD_b l hk).1, g1_b l len hk⟩) (fun _ x hx y hy e => ?_) (fun h => by cases h)
  · rw [newT_plc]
    unfold g1
    split <;> rfl
  · unfold g1 at e
    by_cases h1 : x ∈ ks
    · rw [if_pos h1] at e
      have := spK_b len h1
      have by' := (wD_b l hy).1
      unfold BK at by'
      omega
    · rwa [if_neg h1] at e
theorem newT_oth (d : Tb) (ks : List Int) (k : Int) (hk : k ∈ keysT d) : newT (othT d ks) k = if k ∈ ks then none else some (wD d k) := by
  unfold othT
  rw [newT_plc]
  by_cases h : k ∈ ks
  · rw [if_pos h, if_neg]
    intro z
    have := (List.mem_filter.mp z).2
    simp [h] at this
  · rw [if_neg h, if_pos]
    exact List.mem_filter.mpr ⟨hk, by simp [h]⟩
theorem newT_r (l : LawD d) (g : Good r) (pm : d.Perm r) {k : Int} (hk : k ∈ keysT d) : newT r k = some (wD d k) := newT_of g.nd (pm.mem_iff.mp (wD_mem l.nd hk))
theorem keys_pm (pm : d.Perm r) {k : Int} : k ∈ keysT d ↔ k ∈ keysT r := (pm.map Prod.fst).mem_iff
/-- statement two: all others go to their new keys -/
theorem stat2 (l : LawD d) (g : Good r) (inj : Inj r) (pm : d.Perm r) {ks : List Int} (hs : ∀ k ∈ ks, k ∈ keysT d) (len : ks.length ≤ 40) (nd : ks.Nodup)
    (hc : a = true → Rc.Cover (wtT r) ks) (hf : a = false → ∀ k ∈ firstsR r, k ∈ ks) : StatOk (plc (keysT d) (g1 ks)) (othT d ks) a ∧ outT (plc (keysT d) (g1 ks)) (othT d ks) = plc (keysT d) (g2 d ks) := by
  have hl : (keysT d).length ≤ 40 := by unfold keysT; rw [List.length_map]; exact l.len
  refine stat_plc (g := g2 d ks) (fun k hk => ?_) l.nd ?_ (g1_inj l hs len) (g2_inj l hs len) hl (fun k hk => ⟨g1_b l len hk, g2_b l len hk⟩) (fun ha x hx y hy e => ?_) (fun ha r' g' inj' pm' => ?_)
  · rw [newT_oth d ks k hk]
    unfold g1 g2
    split <;> rfl
  · unfold othT
    rw [plc_keys]
    exact l.nd.sublist List.filter_sublist
  · have bx := (wD_b l hx).2
    have by' := (wD_b l hy).1
    unfold BK at bx by'
    unfold g2 g1 at e
    by_cases h1 : x ∈ ks <;> by_cases h2 : y ∈ ks
    · rw [if_pos h1, if_pos h2] at e
      exact spK_inj h1 h2 e
    · rw [if_pos h1, if_neg h2] at e
      have := spK_b len h1
      omega
    · rw [if_neg h1, if_pos h2] at e
      have := spK_b len h2
      omega
    · rw [if_neg h1, if_neg h2] at e
      by_cases h3 : y = x
      · exact h3.symm
      · exfalso
        have hw : wtT r x = some y := wtT_some.mpr ⟨by rw [newT_r l g pm hx, e], h3, (keys_pm pm).mp hy⟩
        rcases hc ha x y hw with h | h
        · exact h1 h
        · exact h2 h
  · have G := gr_of g inj
    have G' := gr_of g' inj'
    have hmem : ∀ {x y}, (x, y) ∈ r' → ∃ k ∈ keysT d, x = g1 ks k ∧ y = g2 d ks k := fun {x y} h => by
      obtain ⟨k, hk, e⟩ := List.mem_map.mp (pm'.mem_iff.mp h)
      cases e
      exact ⟨k, hk, rfl, rfl⟩
    have hkey : ∀ {x}, x ∈ keysT r' → ∃ k ∈ keysT d, x = g1 ks k := fun {x} h => by
      obtain ⟨p, hp, rfl⟩ := List.mem_map.mp h
      obtain ⟨k, hk, e, _⟩ := hmem (show (p.1, p.2) ∈ r' from hp)
      exact ⟨k, hk, e⟩
    refine Rc.rings_park_gen G G' (fun x y e => ?_) (fun k hk => ?_)
    · obtain ⟨e1, e2, e3⟩ := wtT_some.mp e
      obtain ⟨k, hk, ex, ey⟩ := hmem (newT_mem e1)
      obtain ⟨k', hk', ey'⟩ := hkey e3
      by_cases h1 : k ∈ ks
      · exfalso
        unfold g1 at ex
        unfold g2 at ey
        rw [if_pos h1] at ex ey
        exact e2 (by rw [ex, ey])
      · unfold g1 at ex
        unfold g2 at ey
        rw [if_neg h1] at ex ey
        unfold g1 at ey'
        by_cases h2 : k' ∈ ks
        · exfalso
          rw [if_pos h2] at ey'
          have := spK_b len h2
          have bw := (wD_b l hk).2
          unfold BK at bw
          omega
        · rw [if_neg h2] at ey'
          refine wtT_some.mpr ⟨?_, e2, ?_⟩
          · rw [ex, ey]
            exact newT_r l g pm hk
          · rw [ey']
            exact (keys_pm pm).mp hk'
    · obtain ⟨k', hk', e⟩ := hkey hk
      intro hfk
      have hkr : k ∈ keysT r := (List.mem_filter.mp hfk).1
      unfold g1 at e
      by_cases h2 : k' ∈ ks
      · rw [if_pos h2] at e
        have := spK_b len h2
        have bw := (wD_b l ((keys_pm pm).mpr hkr)).1
        unfold BK at bw
        omega
      · rw [if_neg h2] at e
        rw [e] at hfk
        exact h2 (hf ha _ hfk)
/-- statement three: the parked rows go to their new keys -/
theorem stat3 (l : LawD d) {ks : List Int} (hs : ∀ k ∈ ks, k ∈ keysT d) (len : ks.length ≤ 40) (nd : ks.Nodup) : StatOk (plc (keysT d) (g2 d ks)) (plc ks (wD d)) true ∧ outT (plc (keysT d) (g2 d ks)) (plc ks (wD d)) = d := by
  have hl : (keysT d).length ≤ 40 := by unfold keysT; rw [List.length_map]; exact l.len
  have z := stat_plc (o := keysT d) (f := g2 d ks) (g := wD d) (n := plc ks (wD d)) (any := true) (fun k hk => by
    rw [newT_plc]
    unfold g2
    split <;> rfl) l.nd (by rw [plc_keys]; exact nd) (g2_inj l hs len) (fun x hx y hy e => wD_inj l hx hy e) hl (fun k hk => ⟨g2_b l len hk, keyB_of (wD_b l hk).2⟩) (fun _ x hx y hy e => by
    unfold g2 at e
    by_cases h2 : y ∈ ks
    · rw [if_pos h2] at e
      have := spK_b len h2
      have bw := (wD_b l hx).2
      unfold BK at bw
      omega
    · rw [if_neg h2] at e
      exact wD_inj l hx hy e) (fun h => by cases h)
  refine ⟨z.1, ?_⟩
  rw [z.2]
  exact (d_plc l.nd).symm
end
end Rw

-- M6
set_option Elab.async false
set_option linter.all false
set_option maxRecDepth 100000
set_option maxHeartbeats 4000000
/-! The parked rows: enough, and with one less not enough. -/
namespace Rw
open PySem PySem.Spec PyProof.Rows L2
section
variable {r : Tb} {a : Bool}
theorem park_subl (r : Tb) (a : Bool) : (parkR r a).Sublist (keysT r) := by
  unfold parkR
  split
  · exact Rc.firstCover_sub
  · exact List.filter_sublist
theorem park_in {k : Int} (h : k ∈ parkR r a) : k ∈ keysT r := (park_subl r a).subset h
theorem park_asc (g : Good r) : (parkR r a).Pairwise (· < ·) := g.asc.sublist (park_subl r a)
theorem park_nd (g : Good r) : (parkR r a).Nodup := nodup_asc (park_asc g)
theorem park_len (g : Good r) : (parkR r a).length ≤ 40 := Nat.le_trans (park_subl r a).length_le (keys_sz g)
theorem park_cover (g : Good r) (inj : Inj r) (h : a = true) : Rc.Cover (wtT r) (parkR r a) := by
  subst h
  exact (Rc.firstCover_ok (gr_of g inj)).1
theorem park_first (h : a = false) : ∀ k ∈ firstsR r, k ∈ parkR r a := by
  subst h
  exact fun k hk => hk
theorem left_iff {r : Tb} (g : Good r) : ((keysT r).any fun k => (wtT r k).isSome) = false ↔ ∀ k, wtT r k = none := by
  rw [List.any_eq_false]
  constructor
  · intro h k
    cases e : wtT r k with
    | none => rfl
    | some y =>
      have hk : k ∈ keysT r := keysT_of (newT_mem (wtT_some.mp e).1)
      have := h k hk
      rw [e] at this
      simp at this
  · intro h k _
    rw [h k]
    simp
theorem park_ok (g : Good r) (inj : Inj r) : enB r (parkR r a) a = true := by
  have G := gr_of g inj
  unfold enB
  cases a with
  | true =>
    rw [if_pos rfl]
    have h := Rc.cover_del_none (park_cover g inj (a := true) rfl)
    have z : ((keysT (subT r (parkR r true))).any fun k => (wtT (subT r (parkR r true)) k).isSome) = false := (left_iff (g.sub _)).mpr fun k => by
      rw [wt_sub g]
      exact h k
    rw [z]
    rfl
  | false =>
    rw [if_neg Bool.false_ne_true]
    refine decide_eq_true ?_
    rw [rings_sub g]
    exact Rc.rings_park G (park_first (a := false) rfl)
/-- the parked rows without the one at i -/
def lessK (ks : List Int) (i : Nat) : List Int := ks.take i ++ ks.drop (i + 1)
theorem less_subl (ks : List Int) (i : Nat) : (lessK ks i).Sublist ks := by
  unfold lessK
  have h : (ks.take i ++ ks.drop (i + 1)).Sublist (ks.take i ++ ks.drop i) := (List.Sublist.refl _).append (by
    rw [show ks.drop (i + 1) = (ks.drop i).drop 1 by rw [List.drop_drop]]
    exact List.drop_sublist _ _)
  rwa [List.take_append_drop] at h
theorem less_len {ks : List Int} {i : Nat} (h : i < ks.length) : (lessK ks i).length + 1 = ks.length := by
  unfold lessK
  rw [List.length_append, List.length_take, List.length_drop]
  omega
theorem less_not {ks : List Int} (nd : ks.Nodup) {i : Nat} {x : Int} (e : ks[i]? = some x) : x ∉ lessK ks i := by
  unfold lessK
  intro h
  rcases List.mem_append.mp h with h | h
  · exact not_take nd e h
  · obtain ⟨j, hj⟩ := List.getElem?_of_mem h
    rw [List.getElem?_drop] at hj
    have := Rc.nd_idx nd e hj
    omega
theorem park_less (g : Good r) (inj : Inj r) {i : Nat} (h : i < (parkR r a).length) : enB r (lessK (parkR r a) i) a = false := by
  have G := gr_of g inj
  unfold enB
  cases a with
  | true =>
    rw [if_pos rfl]
    have hc : ¬ Rc.Cover (wtT r) (lessK (parkR r true) i) := Rc.less_no G (by
      have h1 := less_len h
      have h2 : (parkR r true).length = Rc.least (keysT r) (wtT r) := (Rc.firstCover_ok G).2
      omega)
    cases z : ((keysT (subT r (lessK (parkR r true) i))).any fun k => (wtT (subT r (lessK (parkR r true) i)) k).isSome) with
    | true => rfl
    | false =>
      exfalso
      have h1 := (left_iff (g.sub _)).mp z
      rw [wt_sub g] at h1
      exact hc (Rc.del_none h1)
  | false =>
    rw [if_neg Bool.false_ne_true]
    refine decide_eq_false ?_
    rw [rings_sub g]
    refine Rc.rings_less G (fun x hx => (less_subl _ _).subset hx) (r := (parkR r false)[i]) (List.getElem_mem h) (less_not (park_nd g) (List.getElem?_eq_getElem h))
theorem park_many (g : Good r) (inj : Inj r) : (parkR r true).length = leastR r := (Rc.firstCover_ok (gr_of g inj)).2
theorem park_rings (g : Good r) (inj : Inj r) : (parkR r false).length = (ringsR r).length := (firsts_len (gr_of g inj)).symm
end
end Rw

-- D25
set_option Elab.async false
set_option linter.all false
set_option maxRecDepth 100000
set_option maxHeartbeats 4000000
/-! _law_right. -/
namespace Rw
open PySem PySem.Spec PyProof.Rows L2
section
variable {P : Program} {w : World} {K : PySem.W.Frag} {mg : Str → Option Value} {base : Heap}

theorem PenOk.notL {H : Hp} {pn : Addr} (h : PenOk H pn) : NotL H pn := by
  obtain ⟨l, e, _⟩ := h
  exact notL_lst e
theorem wD_of {d : Tb} (nd : (keysT d).Nodup) {i : Nat} {pr : Int × Int} (e : d[i]? = some pr) : wD d pr.1 = pr.2 := by
  unfold wD
  rw [newT_of nd (List.mem_of_getElem? (show d[i]? = some (pr.1, pr.2) from e))]
  rfl
theorem keys_at {d : Tb} {i : Nat} {pr : Int × Int} (e : d[i]? = some pr) : (keysT d)[i]? = some pr.1 := by
  unfold keysT
  rw [List.getElem?_map, e]
  rfl
theorem DpAll.of_hid {H : Hp} {D : Addr} {vs : List V} {ds : List PyData} (h : DpAll K (Rw.hid H D) vs ds) : DpAll K H vs ds := DpAll.same hid_same _ _ h
def spRight (K : PySem.W.Frag) : Sp := fun vs H Q _ => ∃ (pn wd p : Addr) (d r : Tb) (a : Bool), vs = [.ref pn, .ref wd, .ref p, .bl a] ∧ PenOk H pn ∧ hid H pn wd = some (.dK (kvI d)) ∧ TabAt K (hid H pn) p r ∧ LawD d ∧ d.Perm r ∧ Inj r ∧ ∀ H', FrP pn H H' → Q (.bl true) H'
theorem sc_law_right : FnScope ["_law_pen_here", "_law_wants", "_law_table", "_law_is_always", "_law_rows", "_law_spare", "_law_others", "_law_at", "_law_row", "_law_held", "_law_turn", "_law_later", "_law_last", "_law_told"] ["_law_pen_here", "_law_wants", "_law_table", "_law_is_always"] (defScope s_law_right) := ⟨rfl, rfl, rfl, by decide +kernel, rfl, by decide +kernel, by decide +kernel⟩
theorem ok_law_right (T : Txt K mg) : FnR P w K mg base CX0 14 (a_law_right K) (spRight K) := by
  have nd := sc_law_right.nd
  refine okR T.f_law_right sc_law_right (fun _ _ _ _ _ _ us hl => match us, hl with | [_, _, _, _], _ => rfl) (fun vs H Q E h => ?_) (fun cdv A outer s H vs Q E hr h => ?_)
  · obtain ⟨pn, wd, p, d, r, a, rfl, _⟩ := h
    rfl
  · obtain ⟨pn, wd, p, d, r, a, rfl, hp, ewd, htp, ld, pm, inj, q⟩ := h
    have hu := hu_of hr
    obtain ⟨fdF, FF, BF⟩ := ok_fewest_parked (P := P) (w := w) (base := base) T
    obtain ⟨fdE, FE, BE⟩ := ok_enough (P := P) (w := w) (base := base) T
    obtain ⟨fdN, FN, BN⟩ := ok_needs (P := P) (w := w) (base := base) T
    obtain ⟨fdS, FS, BS⟩ := ok_shows_needs (P := P) (w := w) (base := base) T
    refine ⟨_, (pss_cons (ps_set (i := 4) nd rfl (.inr rfl) (pe_callK FF (by exact hr.mono (by decide)) (by rfl) T.g_fewest_parked (T.f_fewest_parked.elim fun _ F => F.kp) BF pass0 (pa_cons (pv 2) pa_nil) (pk_cons (pv 3) pk_nil))) (pss_cons (ps_par (i := 5) (j := 6) (by rfl) nd rfl rfl (by decide) rfl rfl (pa_cons pe_dnewK (pa_cons (pe_callTy (call_dictP rfl) (by rfl) T.n_dict (by decide +kernel) (pa_cons (pe_lock (pe_lc (own := [("_law_row", 8)]) (g := (gName 8)) rfl nd (pi_keys (pv 1)) (blkOk_by (own := [("_law_row", 8)]) (N := ["_law_pen_here", "_law_wants", "_law_table", "_law_is_always", "_law_rows", "_law_spare", "_law_others", "_law_at", "_law_row", "_law_held", "_law_turn", "_law_later", "_law_last", "_law_told"]) (sc := defScope s_law_right) (by decide +kernel)) (fun _ _ _ _ _ => (pg_name (i := 8) nd rfl (.inl rfl) (.inr rfl))) (fun _ _ _ _ _ => (pts_one (pt_cmpR (op_notInK (K := K) rfl) (pv 8) (pv 4) (by rfl)))) (fun _ _ _ _ _ => (pe_tup (pa_cons (pv 8) (pa_cons (pe_dget (by exact hu) (pv 1) (pv 8) (fun _ _ => rfl)) pa_nil)))))) pa_nil)) pa_nil)) (by rfl)) (pss_cons (ps_for PassesOwn.never rfl (pi_enumT (by rfl) T.n_enumerate (pa_cons (pv 4) pa_nil)) (pg_tup rfl (pgs_cons (pg_name (i := 7) nd rfl (.inl rfl)) (pgs_cons (pg_name (i := 8) nd rfl (.inl rfl)) pgs_nil))) (pss_one (ps_dput hu (pv 5) (pv 8) (pe_op op_add (pe_op op_pow pe_int pe_int) (pe_op op_mul pe_int (pv 7))) rfl))) (pss_cons (ps_set (i := 9) nd rfl (.inl rfl) (pe_cl (ok_law_statement T) (by exact hr.mono (by decide)) (by rfl) T.g_law_statement (T.f_law_statement.elim fun _ F => F.kp) pass0 (pa_cons (pv 0) (pa_cons (pe_callTy (call_dictP rfl) (by rfl) T.n_dict (by decide +kernel) (pa_cons (pe_lock (pe_lc (own := [("_law_row", 8)]) (g := (gName 8)) rfl nd (pi_keys (pv 1)) (blkOk_by (own := [("_law_row", 8)]) (N := ["_law_pen_here", "_law_wants", "_law_table", "_law_is_always", "_law_rows", "_law_spare", "_law_others", "_law_at", "_law_row", "_law_held", "_law_turn", "_law_later", "_law_last", "_law_told"]) (sc := defScope s_law_right) (by decide +kernel)) (fun _ _ _ _ _ => (pg_name (i := 8) nd rfl (.inl rfl) (.inr rfl))) (fun _ _ _ _ _ => pts_nil) (fun _ _ _ _ _ => (pe_tup (pa_cons (pv 8) (pa_cons (pv 8) pa_nil)))))) pa_nil)) (pa_cons (pv 5) (pa_cons pe_bl pa_nil)))))) (pss_cons (ps_if (pw_or (pt_cmp (pc_isN (pv 9))) (pw_or1 (pt_not (pt_val (pe_callK FE (by exact hr.mono (by decide)) (by rfl) T.g_enough (T.f_enough.elim fun _ F => F.kp) BE pass0 (pa_cons (pv 2) (pa_cons (pv 4) pa_nil)) (pk_cons (pv 3) pk_nil)))))).pt (pss_one (ps_ret pe_bl)) pss_nil) (pss_cons (ps_for PassesOwn.never rfl (pi_range1 (by rfl) T.n_range (pa_cons (pe_op op_add pe_int (pe_op op_mul pe_int (pe_callTy call_int1 (by rfl) T.n_int (by decide +kernel) (pa_cons (pv 3) pa_nil)))) pa_nil)) (pg_name (i := 10) nd rfl (.inl rfl)) (pss_cons (ps_set (i := 11) nd rfl (.inl rfl) (pe_cl (ok_law_statement T) (by exact hr.mono (by decide)) (by rfl) T.g_law_statement (T.f_law_statement.elim fun _ F => F.kp) pass0 (pa_cons (pv 0) (pa_cons (pv 9) (pa_cons (pv 6) (pa_cons (pv 3) pa_nil)))))) (pss_one (ps_if (pt_cmp (pc_isN (pv 11))) pss_never pss_nil)))) (pss_cons (ps_set (i := 12) nd rfl (.inl rfl) (pe_cl (ok_law_statement T) (by exact hr.mono (by decide)) (by rfl) T.g_law_statement (T.f_law_statement.elim fun _ F => F.kp) pass0 (pa_cons (pv 0) (pa_cons (pv 11) (pa_cons (pe_callTy (call_dictP rfl) (by rfl) T.n_dict (by decide +kernel) (pa_cons (pe_lc (own := [("_law_row", 8)]) (g := (gName 8)) rfl nd (pi_tup (pv 4)) (blkOk_by (own := [("_law_row", 8)]) (N := ["_law_pen_here", "_law_wants", "_law_table", "_law_is_always", "_law_rows", "_law_spare", "_law_others", "_law_at", "_law_row", "_law_held", "_law_turn", "_law_later", "_law_last", "_law_told"]) (sc := defScope s_law_right) (by decide +kernel)) (fun _ _ _ _ _ => (pg_name (i := 8) nd rfl (.inl rfl) (.inr rfl))) (fun _ _ _ _ _ => pts_nil) (fun _ _ _ _ _ => (pe_tup (pa_cons (pv 8) (pa_cons (pe_dget (by exact hu) (pv 1) (pv 8) (fun _ _ => rfl)) pa_nil))))) pa_nil)) (pa_cons pe_bl pa_nil)))))) (pss_cons (ps_if (pt_cmpR (op_ne_dictA hr.units0) (pv 12) (pv 1) (nomark _)) pss_never pss_nil) (pss_cons (ps_for PassesOwn.never rfl (pi_range1 (by rfl) T.n_range (pa_cons (pe_callB call_len_seq (by rfl) T.n_len (by decide +kernel) (pa_cons (pv 4) pa_nil)) pa_nil)) (pg_name (i := 7) nd rfl (.inl rfl)) (pss_one (ps_if (pt_cmpR op_isnot_bl (pe_callK FE (by exact hr.mono (by decide)) (by rfl) T.g_enough (T.f_enough.elim fun _ F => F.kp) BE pass0 (pa_cons (pv 2) (pa_cons (pe_op op_catA (pe_slice sl_tupA (pv 4) po_none (po_some (pv 7))) (pe_slice sl_tupA (pv 4) (po_some (pe_op op_add (pv 7) pe_int)) po_none)) pa_nil)) (pk_cons (pv 3) pk_nil)) pe_bl (nomark _)) pss_never pss_nil))) (pss_cons (ps_set (i := 13) nd rfl (.inl rfl) (pe_callK FN (by exact hr.mono (by decide)) (by rfl) T.g_needs (T.f_needs.elim fun _ F => F.kp) BN pass0 (pa_cons (pv 2) pa_nil) (pk_cons (pv 3) pk_nil))) (pss_cons (ps_if (pt_cmpR op_isnot_bl (pe_callK FS (by exact hr.mono (by decide)) (by rfl) T.g_shows_needs (T.f_shows_needs.elim fun _ F => F.kp) BS pass0 (pa_cons (pv 2) (pa_cons (pv 13) pa_nil)) (pk_cons (pv 3) pk_nil)) pe_bl (nomark _)) pss_never pss_nil) (pss_one (ps_ret (pe_cmpR op_eq (pe_callB call_len_seq (by rfl) T.n_len (by decide +kernel) (pa_cons (pv 4) pa_nil)) (pe_ifExp (pt_val (pv 3)) (pe_cl (ok_law_need T) (by exact hr.mono (by decide)) (by rfl) T.g_law_need (T.f_law_need.elim fun _ F => F.kp) pass0 (pa_cons (pv 13) pa_nil)) (pe_callB call_len_seq (by rfl) T.n_len (by decide +kernel) (pa_cons (pv 13) pa_nil))) (nomark _))))))))))))))), ?_⟩
    have g := htp.1
    have hK40 : (keysT d).length ≤ 40 := by unfold keysT; rw [List.length_map]; exact ld.len
    have hks_in : ∀ k ∈ parkR r a, k ∈ keysT d := fun k hk => (keys_pm pm).mpr (park_in hk)
    have hks_len := park_len (a := a) g
    have hks_nd := park_nd (a := a) g
    have hks_asc := park_asc (a := a) g
    have en_ok := park_ok (a := a) g inj
    have en_less : ∀ i, i < (parkR r a).length → enB r (lessK (parkR r a) i) a = false := fun i h => park_less g inj h
    have pk_many : a = true → (parkR r a).length = leastR r := fun h => by subst h; exact park_many g inj
    have pk_rings : a = false → (parkR r a).length = (ringsR r).length := fun h => by subst h; exact park_rings g inj
    have S1 := stat1 ld hks_in hks_len hks_nd
    have S2 := stat2 (a := a) ld g inj pm hks_in hks_len hks_nd (park_cover g inj) park_first
    have S3 := stat3 ld hks_in hks_len hks_nd
    have wne : wd ≠ pn := fun e => by
      rw [e] at ewd
      unfold hid at ewd
      rw [if_pos rfl] at ewd
      cases ewd
    -- rows
    refine ⟨_, rfl, _, rfl, p, r, a, rfl, htp.same hid_same, inj, fun H1 kt s1 hkt ekt => ?_⟩
    have f1 := (FrP.refl hp).pure s1
    have ktp := new_ne hp hkt
    have ekt1 : SqT K (hid H1 pn) kt ((parkR r a).map V.int) := hid_tup f1.p.notL ekt
    have htp1 : TabAt K (hid H1 pn) p r := htp.same f1.s
    have ewd1 : hid H1 pn wd = some (.dK (kvI d)) := f1.s _ _ ewd
    generalize parkR r a = ks at *
    -- spare, others
    intro SPA hSPA
    have SPAp := new_ne f1.p hSPA
    have SPAw : SPA ≠ wd := fun e => by rw [e, hid_same _ _ ewd1] at hSPA; cases hSPA
    have sa := same_up (o := .dK []) hSPA
    have fa := (FrP.refl f1.p).pure sa
    have ewda : upd H1 SPA (.dK []) wd = some (.dK (kvI d)) := hid_same _ _ (fa.s _ _ ewd1)
    refine ⟨wd, _, ewda, True.intro, fun od => ⟨_, rfl, wd, od, rfl, .inl ⟨_, upd_same, fun D hD => ?_⟩⟩⟩
    have hDw : D ≠ wd := fun e => by
      rw [e, upd_same] at hD
      cases hD
    have hdk : d.length = (keysT d).length := (List.length_map _).symm
    refine lc_go walk_keys (fun i acc H => DpAll K H acc ((plc (((keysT d).take i).filter fun k => !decide (k ∈ ks)) (wD d)).map rD)) (by rw [kvI_len]; omega) hD (fun H s => s _ _ upd_same) .nil ?_ ?_
    · rintro i x H0 H2 acc hi L ⟨rfl, kk, vv, ek, rfl⟩
      obtain ⟨pr, ep, rfl, rfl⟩ := kvI_get ek
      rw [kvI_len] at hi
      have hfr : H2 wd = some (.frz od (.dK (kvI d))) := (L.same.trans hid_same) _ _ upd_same
      have zh : DGet H2 wd (V.int pr.1) (valV (kvI d) (Sum.inl pr.1)) := .inl ⟨_, Sum.inl pr.1, .inr ⟨od, hfr⟩, rfl, rfl⟩
      rw [kvI_val, newT_of ld.nd (List.mem_of_getElem? (show d[i]? = some (pr.1, pr.2) from ep))] at zh
      have ktw : kt ≠ wd := fun e => by
        rw [e] at ekt1
        rcases ekt1 with (h | ⟨o, h⟩) | ⟨o, _, _, h1, _⟩
        · rw [ewd1] at h; cases h
        · rw [ewd1] at h; cases h
        · have := hid_same _ _ ewd
          rw [e, this] at hkt
          cases hkt
      have ekt2 : SqT K H2 kt (ks.map V.int) := Same.tup (L.same.trans hid_same) (by
        have h0 := Same.tup (hid_same.trans sa) ekt1
        exact tup_set (notL_dK ewda) h0)
      have et : ((keysT d).take (i + 1)).filter (fun k => !decide (k ∈ ks)) = ((keysT d).take i).filter (fun k => !decide (k ∈ ks)) ++ (if decide (pr.1 ∈ ks) = true then [] else [pr.1]) := by
        rw [take_snoc (keys_at ep), List.filter_append]
        congr 1
        by_cases hm : pr.1 ∈ ks <;> simp [hm]
      refine ⟨rfl, ⟨_, rfl, _, rfl, kt, _, rfl, .inr ekt2, rfl, flat_ints _, _, rfl, ?_⟩⟩
      refine ite2 (fun hm => ?_) (fun hm => L.skip (by omega) (Same.refl _) ?_)
      · have hm : (!inV (V.int pr.1) (ks.map V.int)) = true := hm
        rw [inV_int] at hm
        have hm : decide (pr.1 ∈ ks) = false := by simpa using hm
        refine ⟨_, rfl, _, rfl, _, rfl, wd, _, rfl, zh, (show 2 ≤ sizeLine by decide), fun t ht => ?_⟩
        have htD : t ≠ D := fun e => by rw [e, L.at_] at ht; cases ht
        refine L.snoc (by omega) (same_up ht) ?_
        show DpAll K _ (acc ++ [V.ref t]) ((plc (((keysT d).take (i + 1)).filter fun k => !decide (k ∈ ks)) (wD d)).map rD)
        rw [et, hm, if_neg Bool.false_ne_true]
        unfold plc
        rw [List.map_append, List.map_append]
        refine dpAll_snoc (DpAll.same (hid_mono (same_up ht)) _ _ L.f) (dp_tI (ns := [pr.1, wD d pr.1]) (SqT.of ?_))
        rw [hid_ne htD, wD_of ld.nd ep]
        exact upd_same
      · have hm : (!inV (V.int pr.1) (ks.map V.int)) = false := hm
        rw [inV_int] at hm
        have hm : decide (pr.1 ∈ ks) = true := by simpa using hm
        show DpAll K _ acc ((plc (((keysT d).take (i + 1)).filter fun k => !decide (k ∈ ks)) (wD d)).map rD)
        rw [et, hm, if_pos rfl, List.append_nil]
        exact L.f
    · intro H3 acc s3 e3 f3 _
      have hfr3 : H3 wd = some (.frz od (.dK (kvI d))) := s3 _ _ upd_same
      refine ⟨hfr3, ?_⟩
      have s14 := unlock_same ewda s3
      have e4 : upd H3 wd (.dK (kvI d)) D = some (.lst acc) := by
        rw [upd_ne hDw]
        exact e3
      have f4 : DpAll K (upd H3 wd (.dK (kvI d))) acc ((othT d ks).map rD) := by
        refine DpAll.set (notL_frz hfr3) _ _ (by rw [rD_map]; exact noLs_tI _) ?_
        have f3 : DpAll K (hid H3 D) acc ((plc (((keysT d).take (kvI d).length).filter fun k => !decide (k ∈ ks)) (wD d)).map rD) := f3
        rw [kvI_len, hdk, List.take_length] at f3
        exact DpAll.of_hid f3
      generalize upd H3 wd (.dK (kvI d)) = H4 at s14 e4 f4 ⊢
      obtain ⟨pps, rfl⟩ := refs_of (by rw [rD_map] at f4; exact f4)
      refine ⟨D, pps, kvI (othT d ks), rfl, SqL.of e4, paired_kv f4, fun OT hOT => ?_⟩
      have ndo : (keysT (othT d ks)).Nodup := by
        unfold othT
        rw [plc_keys]
        exact ld.nd.sublist List.filter_sublist
      rw [merge0 ndo]
      refine ⟨_, _, rfl, ?_⟩
      have s4 := s14.trans (same_up (o := .dK (kvI (othT d ks))) hOT)
      have fb := fa.pure s4
      have eOT5 : upd H4 OT (.dK (kvI (othT d ks))) OT = some (.dK (kvI (othT d ks))) := upd_same
      have eSPA5 : upd H4 OT (.dK (kvI (othT d ks))) SPA = some (.dK []) := s4 _ _ upd_same
      have OTp := new_ne (fa.pure s14).p hOT
      generalize upd H4 OT (.dK (kvI (othT d ks))) = H5 at s4 fb eOT5 eSPA5 ⊢
      have OTS : OT ≠ SPA := fun e => by
        rw [e, s14 _ _ upd_same] at hOT
        cases hOT
      have ekt5 : SqT K H5 kt (ks.map V.int) := Same.tup (fb.s.trans hid_same) ekt1
      have ekt5' : SqT K (hid H5 SPA) kt (ks.map V.int) := hid_tup (notL_dK eSPA5) ekt5
      -- the spare keys
      refine ⟨_, rfl, kt, _, rfl, ekt5, ?_⟩
      refine for_it (walk_enumT (xs := ks.map V.int)) (fun i σ Hx => (∃ y7 y8, σ = [some (.ref pn), some (.ref wd), some (.ref p), some (.bl a), some (.ref kt), some (.ref SPA), some (.ref OT), y7, y8, none, none, none, none, none]) ∧ Same (hid H5 SPA) (hid Hx SPA) ∧ Hx SPA = some (.dK (kvI (plc (ks.take i) (spK ks))))) ⟨⟨_, _, rfl⟩, Same.refl _, eSPA5⟩ (fun i σ Hx _ ⟨_, s, _⟩ => Same.tup (s.trans hid_same) ekt5') ?_ ?_
      · rintro i x σ H6 H7 hi ⟨⟨y7, y8, rfl⟩, s6, e6⟩ ⟨T', x', y', rfl, hT, rfl, ex, ey⟩
        have ey : (ks.map V.int)[i]? = some y' := ey
        have ex : some (V.int (i : Nat)) = some x' := ex
        cases ex
        rw [List.getElem?_map] at ey
        obtain ⟨k, ek, rfl⟩ := Option.map_eq_some_iff.mp ey
        have hTS : T' ≠ SPA := fun e => by rw [e, e6] at hT; cases hT
        rw [memI] at hi
        refine ⟨T', _, rfl, SqT.of upd_same, rfl, _, _, rfl, _, _, rfl, rfl, ?_⟩
        refine ⟨_, _, rfl, rfl, ⟨by decide, by decide, by decide⟩, _, rfl, _, _, rfl, rfl, .inl ⟨by decide, by decide⟩, _, _, rfl, rfl, _, rfl, _, rfl, SPA, _, rfl, DPut.k (k := Sum.inl k) (same_up hT _ _ e6) (small1000 (by rw [kvI_len]; unfold plc; rw [List.length_map, List.length_take]; omega)), ⟨_, _, rfl⟩, ?_, ?_⟩
        · rw [hid_upd]
          exact s6.trans (hid_mono (same_up hT))
        · rw [upd_same]
          have hsp : (V.int ((10 : Int) ^ (29 : Int).toNat + 3 * (i : Int))) = V.int (spK ks k) := by
            rw [spK_at hks_nd ek]
            rfl
          show some (HO.dK (putK (kvI (plc (ks.take i) (spK ks))) (Sum.inl k) (V.int ((10 : Int) ^ (29 : Int).toNat + 3 * (i : Int))))) = _
          rw [hsp, kvI_put (by rw [plc_keys]; exact not_take hks_nd ek)]
          unfold plc
          rw [take_map ek]
      · rintro σ H6 ⟨⟨y7, y8, rfl⟩, s6, e6⟩
        rw [memI, List.take_length] at e6
        have p6 : PenOk H6 pn := by
          obtain ⟨lp, elp, plp⟩ := fb.p
          exact ⟨lp, hid_same _ _ (s6 _ _ (by rw [hid_ne (Ne.symm SPAp)]; exact elp)), plp⟩
        have f16 : FrP pn H1 H6 := ⟨fun b o e => by
          have hb : b ≠ pn := fun z => by
            unfold hid at e
            rw [if_pos z] at e
            cases e
          have hb2 : b ≠ SPA := fun z => by
            rw [hid_ne hb, z, hSPA] at e
            cases e
          rw [hid_ne hb]
          refine hid_same _ _ (s6 _ _ ?_)
          rw [hid_ne hb2]
          exact hid_same _ _ (fb.s _ _ e), p6⟩
        have eOT6 : hid H6 pn OT = some (.dK (kvI (othT d ks))) := by
          rw [hid_ne OTp]
          exact hid_same _ _ (s6 _ _ (by rw [hid_ne OTS]; exact eOT5))
        have eSPA6 : hid H6 pn SPA = some (.dK (kvI (plc ks (spK ks)))) := by rw [hid_ne SPAp]; exact e6
        have fH6 := f1.trans f16
        have ewd6 : H6 wd = some (.dK (kvI d)) := hid_same _ _ (fH6.s _ _ ewd)
        -- held
        refine ⟨_, rfl, ?_⟩
        refine ⟨wd, _, ewd6, True.intro, fun od2 => ⟨_, rfl, wd, od2, rfl, .inl ⟨_, upd_same, fun D7 hD7 => ?_⟩⟩⟩
        have hD7w : D7 ≠ wd := fun e => by
          rw [e, upd_same] at hD7
          cases hD7
        refine lc_go walk_keys (fun i acc H => DpAll K H acc ((plc ((keysT d).take i) fun k => k).map rD)) (by rw [kvI_len]; omega) hD7 (fun H s => s _ _ upd_same) .nil ?_ ?_
        · rintro i x H0 H2 acc hi L ⟨rfl, kk, vv, ek, rfl⟩
          obtain ⟨pr, ep, rfl, rfl⟩ := kvI_get ek
          rw [kvI_len] at hi
          refine ⟨rfl, yes ⟨_, rfl, _, rfl, (show 2 ≤ sizeLine by decide), fun t ht => ?_⟩⟩
          have htD : t ≠ D7 := fun e => by rw [e, L.at_] at ht; cases ht
          refine L.snoc (by omega) (same_up ht) ?_
          show DpAll K _ (acc ++ [V.ref t]) ((plc ((keysT d).take (i + 1)) fun k => k).map rD)
          rw [take_snoc (keys_at ep)]
          unfold plc
          rw [List.map_append, List.map_append]
          refine dpAll_snoc (DpAll.same (hid_mono (same_up ht)) _ _ L.f) (dp_tI (ns := [pr.1, pr.1]) (SqT.of ?_))
          rw [hid_ne htD]
          exact upd_same
        · intro H7 acc7 s7 e7 f7 _
          have hfr7 : H7 wd = some (.frz od2 (.dK (kvI d))) := s7 _ _ upd_same
          refine ⟨hfr7, ?_⟩
          have s67 := unlock_same ewd6 s7
          have e7' : upd H7 wd (.dK (kvI d)) D7 = some (.lst acc7) := by
            rw [upd_ne hD7w]
            exact e7
          have f7' : DpAll K (upd H7 wd (.dK (kvI d))) acc7 ((plc (keysT d) fun k => k).map rD) := by
            refine DpAll.set (notL_frz hfr7) _ _ (by rw [rD_map]; exact noLs_tI _) ?_
            have f7 : DpAll K (hid H7 D7) acc7 ((plc ((keysT d).take (kvI d).length) fun k => k).map rD) := f7
            rw [kvI_len, hdk, List.take_length] at f7
            exact DpAll.of_hid f7
          generalize upd H7 wd (.dK (kvI d)) = H8 at s67 e7' f7' ⊢
          obtain ⟨pps7, rfl⟩ := refs_of (by rw [rD_map] at f7'; exact f7')
          refine ⟨D7, pps7, kvI (plc (keysT d) fun k => k), rfl, SqL.of e7', paired_kv f7', fun HD hHD => ?_⟩
          rw [merge0 (by rw [plc_keys]; exact ld.nd)]
          have f8 := fH6.pure s67
          have HDp := new_ne f8.p hHD
          have f9 := f8.pure (same_up (o := .dK (kvI (plc (keysT d) fun k => k))) hHD)
          have eSPA9 : hid (upd H8 HD (.dK (kvI (plc (keysT d) fun k => k)))) pn SPA = some (.dK (kvI (plc ks (spK ks)))) := hid_mono (s67.trans (same_up hHD)) _ _ eSPA6
          have eOT9 := hid_mono (D := pn) (s67.trans (same_up (o := .dK (kvI (plc (keysT d) fun k => k))) hHD)) _ _ eOT6
          have hHDS : HD ≠ SPA := fun e => by
            rw [e, s67 _ _ e6] at hHD
            cases hHD
          refine ⟨_, rfl, pn, HD, SPA, _, _, true, rfl, f9.p, by rw [hid_ne HDp]; exact upd_same, eSPA9, hHDS, S1.1, fun H10 hh f10' hhn e10 => ?_⟩
          rw [S1.2] at e10
          have f10 := f9.trans f10'
          have eOT10 : hid H10 pn OT = some (.dK (kvI (othT d ks))) := f10'.s _ _ eOT9
          have hhp := new_ne f9.p hhn
          have hhO : hh ≠ OT := fun e => by
            rw [e] at hhn
            rw [hid_same _ _ eOT9] at hhn
            cases hhn
          have htp10 := htp.same f10.down
          have ekt10 : SqT K (hid H10 pn) kt (ks.map V.int) := Same.tup ((f16.s.trans (hid_mono (s67.trans (same_up (o := .dK (kvI (plc (keysT d) fun k => k))) hHD)))).trans f10'.s) ekt1
          have hks_r : ∀ k ∈ ks, k ∈ keysT r := fun k hk => (keys_pm pm).mp (hks_in k hk)
          refine ⟨_, rfl, _, rfl, iteF ?_⟩
          refine ⟨_, rfl, _, rfl, _, rfl, p, kt, r, ks, a, rfl, htp10, inj, Same.tup hid_same ekt10, hks_r, hks_asc, by omega, fun H11 s11 => ⟨_, rfl, ?_⟩⟩
          refine ite2 (fun z => ?_) (fun _ => ?_)
          · have z : (!enB r ks a) = true := z
            rw [en_ok] at z
            cases z
          -- the second statement
          have f11 := f10.pure s11
          have ehh11 : hid H11 pn hh = some (.dK (kvI (plc (keysT d) (g1 ks)))) := hid_mono s11 _ _ e10
          have eOT11 := hid_mono (D := pn) s11 _ _ eOT10
          have ekt11 := Same.tup (hid_mono (D := pn) s11) ekt10
          have hN : 1 ≤ (1 + 2 * (if a = true then (1 : Int) else 0)).toNat ∧ (1 + 2 * (if a = true then (1 : Int) else 0)).toNat ≤ 3 := by
            cases a <;> decide
          refine ⟨_, rfl, .inr ⟨a, rfl, _, _, rfl, rfl, .inl ⟨by decide, by decide⟩, _, _, rfl, rfl, _, rfl, by split <;> omega, by split <;> omega, ?_⟩⟩
          refine for_it walk_range (fun i σ Hx => (∃ y10 y11, σ = [some (.ref pn), some (.ref wd), some (.ref p), some (.bl a), some (.ref kt), some (.ref SPA), some (.ref OT), y7, y8, some (.ref hh), y10, y11, none, none] ∧ (0 < i → ∃ lt, y11 = some (.ref lt) ∧ hid Hx pn lt = some (.dK (kvI (plc (keysT d) (g2 d ks)))))) ∧ FrP pn H11 Hx) ⟨⟨_, _, rfl, fun h => absurd h (by omega)⟩, FrP.refl f11.p⟩ (fun i σ Hx _ _ => True.intro) ?_ ?_
          · rintro i x σ H0 H12 hi ⟨⟨y10, y11, rfl, _⟩, f12⟩ ⟨rfl, rfl⟩
            refine ⟨_, rfl, _, rfl, _, rfl, _, rfl, pn, hh, OT, _, _, a, rfl, f12.p, f12.s _ _ ehh11, f12.s _ _ eOT11, hhO, S2.1, fun H13 lt f13 hlt e13 => ?_⟩
            rw [S2.2] at e13
            refine ⟨_, rfl, _, rfl, iteF ⟨⟨_, _, rfl, fun _ => ⟨lt, rfl, e13⟩⟩, f12.trans f13⟩⟩
          · rintro σ H12 ⟨⟨y10, y11, rfl, hy⟩, f12⟩
            obtain ⟨lt, rfl, elt⟩ := hy (by omega)
            have f12' := f11.trans f12
            have ekt12 := Same.tup f12.s ekt11
            have ewd12 : hid H12 pn wd = some (.dK (kvI d)) := f12'.s _ _ ewd
            -- the third statement
            refine ⟨_, rfl, _, rfl, _, rfl, kt, rfl, ⟨_, Same.tup hid_same ekt12⟩, fun D8 hD8 => ?_⟩
            refine lc_go (walk_tup (xs := ks.map V.int)) (fun i acc H => DpAll K H acc ((plc (ks.take i) (wD d)).map rD)) (by rw [memI]; omega) hD8 (fun H s => Same.tup (hid_same.trans s) ekt12) .nil ?_ ?_
            · rintro i x H0 H2 acc hi L ⟨rfl, ex⟩
              rw [List.getElem?_map] at ex
              obtain ⟨k, ek, rfl⟩ := Option.map_eq_some_iff.mp ex
              rw [memI] at hi
              have hk := List.mem_of_getElem? ek
              have zh : DGet H2 wd (V.int k) (valV (kvI d) (Sum.inl k)) := DGet.k (k := Sum.inl k) ((L.same.trans hid_same) _ _ (hid_same _ _ ewd12))
              rw [kvI_val, newT_of ld.nd (wD_mem ld.nd (hks_in k hk))] at zh
              refine ⟨rfl, yes ⟨_, rfl, _, rfl, _, rfl, wd, _, rfl, zh, (show 2 ≤ sizeLine by decide), fun t ht => ?_⟩⟩
              have htD : t ≠ D8 := fun e => by rw [e, L.at_] at ht; cases ht
              refine L.snoc (by omega) (same_up ht) ?_
              show DpAll K _ (acc ++ [V.ref t]) ((plc (ks.take (i + 1)) (wD d)).map rD)
              rw [take_snoc ek]
              unfold plc
              rw [List.map_append, List.map_append]
              refine dpAll_snoc (DpAll.same (hid_mono (same_up ht)) _ _ L.f) (dp_tI (ns := [k, wD d k]) (SqT.of ?_))
              rw [hid_ne htD]
              exact upd_same
            · intro H13 acc8 s13 e13 f13 _
              have f13' : DpAll K H13 acc8 ((plc ks (wD d)).map rD) := by
                have f13 : DpAll K (hid H13 D8) acc8 ((plc (ks.take (ks.map V.int).length) (wD d)).map rD) := f13
                rw [memI, List.take_length] at f13
                exact DpAll.of_hid f13
              obtain ⟨pps8, rfl⟩ := refs_of (by rw [rD_map] at f13'; exact f13')
              refine ⟨D8, pps8, kvI (plc ks (wD d)), rfl, SqL.of e13, paired_kv f13', fun LN hLN => ?_⟩
              rw [merge0 (by rw [plc_keys]; exact hks_nd)]
              have g13 := f12'.pure s13
              have LNp := new_ne g13.p hLN
              have g14 := g13.pure (same_up (o := .dK (kvI (plc ks (wD d)))) hLN)
              have sx := s13.trans (same_up (o := .dK (kvI (plc ks (wD d)))) hLN)
              have elt14 := hid_mono (D := pn) sx _ _ elt
              have ekt14 := Same.tup (hid_mono (D := pn) sx) ekt12
              have hltL : lt ≠ LN := fun e => by
                have := s13 _ _ (hid_same _ _ elt)
                rw [e, hLN] at this
                cases this
              refine ⟨pn, lt, LN, _, _, true, rfl, g14.p, elt14, by rw [hid_ne LNp]; exact upd_same, hltL, S3.1, fun H15 la f15 hla e15 => ?_⟩
              rw [S3.2] at e15
              have g15 := g14.trans f15
              have ekt15 := Same.tup f15.s ekt14
              -- last != wants
              refine ⟨_, rfl, _, rfl, la, wd, _, _, rfl, rfl, hid_same _ _ e15, hid_same _ _ (g15.s _ _ ewd), rfl, fun pp hpp => ?_, _, rfl, iteF ?_⟩
              · obtain ⟨i, hi⟩ := List.getElem?_of_mem hpp
                obtain ⟨pr, ep, e1, e2⟩ := kvI_get (k := pp.1) (v := pp.2) hi
                rw [e1, e2, kvI_val, newT_of ld.nd (List.mem_of_getElem? (show d[i]? = some (pr.1, pr.2) from ep))]
                exact ⟨rfl, rfl⟩
              · -- one less is not enough
                have htp15 := htp.same g15.down
                refine ⟨_, rfl, kt, _, rfl, .inr (Same.tup hid_same ekt15), _, rfl, by rw [memI]; omega, by rw [memI]; omega, ?_⟩
                refine for_it walk_range (fun i σ Hx => (∃ y7, σ = [some (.ref pn), some (.ref wd), some (.ref p), some (.bl a), some (.ref kt), some (.ref SPA), some (.ref OT), y7, y8, some (.ref hh), y10, some (.ref lt), some (.ref la), none]) ∧ Same H15 Hx) ⟨⟨_, rfl⟩, Same.refl _⟩ (fun i σ Hx _ _ => True.intro) ?_ ?_
                · rintro i x σ H0 H16 hi ⟨⟨y7', rfl⟩, s16⟩ ⟨rfl, rfl⟩
                  have hi : i < ks.length := by
                    rw [memI] at hi
                    omega
                  have ekt16 : SqT K H16 kt (ks.map V.int) := Same.tup (hid_same.trans s16) ekt15
                  refine ⟨_, rfl, _, rfl, _, rfl, _, rfl, ?_⟩
                  refine slA ekt16 fun t1 H17 s17 ht1 => ?_
                  refine ⟨_, rfl, _, rfl, _, _, rfl, rfl, _, rfl, ?_⟩
                  dsimp only [tNoPart]
                  refine slA (Same.tup s17 ekt16) fun t2 H18 s18 ht2 => ?_
                  have ei : (0 : Int) + (i : Nat) = ((i : Nat) : Int) := by omega
                  have ei2 : (0 : Int) + (i : Nat) + 1 = ((i + 1 : Nat) : Int) := by omega
                  have ht1 : SqT K H18 t1 ((ks.take i).map V.int) := by
                    have z := Same.tup s18 ht1
                    rw [ei, cut_to, ← List.map_take] at z
                    exact z
                  have ht2 : SqT K H18 t2 ((ks.drop (i + 1)).map V.int) := by
                    rw [ei2, cut_from, ← List.map_drop] at ht2
                    exact ht2
                  refine catA ht1 ht2 (by rw [memI, memI, List.length_take, List.length_drop]; omega) fun t3 H19 s19 ht3 => ?_
                  have s1519 := ((s16.trans s17).trans s18).trans s19
                  rw [← List.map_append] at ht3
                  refine ⟨_, rfl, p, t3, r, lessK ks i, a, rfl, htp15.same s1519, inj, ht3, fun x hx => hks_r x ((less_subl ks i).subset hx), hks_asc.sublist (less_subl ks i), ?_, fun H20 s20 => ⟨_, _, rfl, rfl, _, rfl, ?_⟩⟩
                  · have := less_len hi
                    omega
                  · refine ite2 (fun z => ?_) (fun _ => ⟨⟨_, rfl⟩, s1519.trans s20⟩)
                    have z : (!decide (enB r (lessK ks i) a = false)) = true := z
                    rw [en_less i hi] at z
                    simp at z
                · rintro σ H16 ⟨⟨y7', rfl⟩, s16⟩
                  have g16 := g15.pure s16
                  have htp16 := htp.same g16.down
                  have ekt16 : SqT K H16 kt (ks.map V.int) := Same.tup (hid_same.trans s16) ekt15
                  refine ⟨_, rfl, _, rfl, p, r, a, rfl, htp16, inj, fun H17 tt xs L s17 hT hdL hn => ?_⟩
                  have sh := shown_of g inj hn
                  have hxl : xs.length = L.length := by
                    have := dpAll_len hdL
                    rwa [List.length_map] at this
                  refine ⟨_, rfl, _, rfl, _, rfl, p, tt, r, a, xs, L, rfl, htp16.same s17, inj, hT, hdL, hn, fun H18 s18 => ⟨_, _, rfl, rfl, _, rfl, iteF ?_⟩⟩
                  refine ⟨_, rfl, kt, _, rfl, .inr (Same.tup (s17.trans s18) ekt16), _, rfl, a, rfl, ?_⟩
                  have gq : ∀ H', Same H18 H' → FrP pn H H' := fun H' s => ((g16.pure s17).pure s18).pure s
                  cases ha : a with
                  | true =>
                    refine iteT ⟨_, rfl, tt, xs, L, rfl, Same.tup s18 hT, DpAll.same s18 _ _ hdL, sh.sz, fun H19 s19 => ⟨rfl, ?_⟩⟩
                    rw [dInt, sh.sum ha, memI, pk_many ha, decide_eq_true rfl]
                    exact q _ (gq _ s19)
                  | false =>
                    refine iteF ⟨_, rfl, tt, xs, rfl, .inr (Same.tup s18 hT), rfl, ?_⟩
                    rw [dInt, memI, hxl, sh.many ha, pk_rings ha, decide_eq_true rfl]
                    exact q _ (gq _ (Same.refl _))
end
end Rw

-- D26
set_option Elab.async false
set_option linter.all false
set_option maxRecDepth 100000
set_option maxHeartbeats 4000000
/-! law. -/
namespace Rw
open PySem PySem.Spec PyProof.Rows L2
section
variable {P : Program} {w : World} {K : PySem.W.Frag} {mg : Str → Option Value} {base : Heap}

def spLaw (K : PySem.W.Frag) : Sp := fun vs H Q _ => ∃ (a : Addr) (ns : List Int), vs = [.ref a] ∧ SqL K H a (ns.map V.int) ∧ ∀ H', Q (.bl true) H'
theorem sc_law : FnScope ["_law_script", "_law_cell", "_law_pen_here", "_law_pairs", "_law_wants", "_law_table"] ["_law_script"] (defScope s_law) := ⟨rfl, rfl, rfl, by decide +kernel, rfl, by decide +kernel, by decide +kernel⟩
theorem ok_law {f : Addr} {fd : FuncData} (T : Txt K mg) (F : Fun K "law" "law" s_law f fd) : FnOk P w K mg base CX0 15 f fd ["_law_script"] (spLaw K) := by
  have nd := sc_law.nd
  refine F.ok sc_law (fun vs H Q E h => ?_) (fun cdv A outer s H vs Q E hr h => ?_)
  · obtain ⟨a, ns, rfl, _⟩ := h
    rfl
  · obtain ⟨a, ns, rfl, hS, q⟩ := h
    obtain ⟨fo, ro, a1, a2, a3⟩ := T.addT
    refine ⟨_, (pss_cons (ps_for PassesOwn.never rfl (pi_list (pe_op op_cat (pe_lst (pa_cons (pe_cl (ok_law_cell_at T) (by exact hr.mono (by decide)) (by rfl) T.g_law_cell_at (T.f_law_cell_at.elim fun _ F => F.kp) pass0 (pa_cons (pv 0) (pa_cons pe_int pa_nil))) pa_nil)) (pe_slice sl_list (pv 0) (po_some pe_int) (po_some pe_int)))) (pg_name (i := 1) nd rfl (.inl rfl)) (pss_cons (ps_set (i := 2) nd rfl (.inl rfl) (pe_cl (ok_law_pen T) (by exact hr.mono (by decide)) (by rfl) T.g_law_pen (T.f_law_pen.elim fun _ F => F.kp) pass0 (pa_cons (pv 1) pa_nil))) (pss_cons (ps_set (i := 3) nd rfl (.inl rfl) (pe_cl (ok_law_lines T) (by exact hr.mono (by decide)) (by rfl) T.g_law_lines (T.f_law_lines.elim fun _ F => F.kp) pass0 (pa_cons (pv 2) (pa_cons (pe_cl (ok_law_pick T) (by exact hr.mono (by decide)) (by rfl) T.g_law_pick (T.f_law_pick.elim fun _ F => F.kp) pass0 (pa_cons (pv 2) (pa_cons (pe_lst (pa_cons pe_int (pa_cons pe_int (pa_cons pe_int pa_nil)))) pa_nil))) pa_nil)))) (pss_cons (ps_par (i := 4) (j := 5) (by rfl) nd rfl rfl (by decide) rfl rfl (pa_cons (pe_callTy (call_dictP rfl) (by rfl) T.n_dict (by decide +kernel) (pa_cons (pv 3) pa_nil)) (pa_cons (pe_op (op_binO T.addO.1 T.addO.2 T.self1 a1 a2 a3 (ok_tAdd T) (by exact hr.mono (by decide)) pass0) (pe_makeR0 T.mkT (ok_tInit T) (by exact hr.mono (by decide)) (by rfl) T.g_Table pass0) (pe_callTy call_tuple_of (by rfl) T.n_tuple (by decide +kernel) (pa_cons (pv 3) pa_nil))) pa_nil)) (by rfl)) (pss_one (ps_if (pw_or (pt_not (pt_val (pe_cl (ok_law_right T) (by exact hr.mono (by decide)) (by rfl) T.g_law_right (T.f_law_right.elim fun _ F => F.kp) pass0 (pa_cons (pv 2) (pa_cons (pv 4) (pa_cons (pv 5) (pa_cons pe_bl pa_nil))))))) (pw_or1 (pt_not (pt_val (pe_cl (ok_law_right T) (by exact hr.mono (by decide)) (by rfl) T.g_law_right (T.f_law_right.elim fun _ F => F.kp) pass0 (pa_cons (pv 2) (pa_cons (pv 4) (pa_cons (pv 5) (pa_cons pe_bl pa_nil))))))))).pt (pss_one (ps_ret pe_bl)) pss_nil)))))) (pss_one (ps_ret pe_bl))), ?_⟩
    refine ⟨_, rfl, a, ns, 0, rfl, hS, fun c0 => ⟨(show 1 ≤ sizeLine by decide), fun l1 hl1 => ?_⟩⟩
    have s1 := same_up (o := .lst [V.int c0]) hl1
    refine ⟨_, rfl, _, rfl, _, rfl, a, _, rfl, s1.seq hS, fun l2 hl2 => ?_⟩
    have s2 := s1.trans (same_up (o := .lst (cutV (ns.map V.int) (some (1 : Int)) (some (2 : Int)))) hl2)
    have ecut : cutV (ns.map V.int) (some (1 : Int)) (some (2 : Int)) = ((ns.drop 1).take 1).map V.int := by
      rw [show (1 : Int) = ((1 : Nat) : Int) from rfl, show (2 : Int) = ((2 : Nat) : Int) from rfl, cut_mid (by omega), ← List.map_drop, ← List.map_take]
    have el1 : (upd (upd H l1 (.lst [V.int c0])) l2 (.lst (cutV (ns.map V.int) (some (1 : Int)) (some (2 : Int))))) l1 = some (.lst [V.int c0]) := same_up hl2 _ _ upd_same
    refine ⟨l1, l2, _, _, rfl, rfl, el1, upd_same, ?_, fun C hC => ?_⟩
    · rw [ecut, memI, List.length_take]
      exact Nat.le_of_lt (small1000 (by simp; omega))
    have e0 : [V.int c0] ++ cutV (ns.map V.int) (some (1 : Int)) (some (2 : Int)) = (c0 :: (ns.drop 1).take 1).map V.int := by
      rw [ecut]
      rfl
    have eC : (upd (upd (upd H l1 (.lst [V.int c0])) l2 (.lst (cutV (ns.map V.int) (some (1 : Int)) (some (2 : Int))))) C (.lst ([V.int c0] ++ cutV (ns.map V.int) (some (1 : Int)) (some (2 : Int))))) C = some (.lst ((c0 :: (ns.drop 1).take 1).map V.int)) := by
      rw [← e0]
      exact upd_same
    generalize (upd (upd (upd H l1 (.lst [V.int c0])) l2 (.lst (cutV (ns.map V.int) (some (1 : Int)) (some (2 : Int))))) C (.lst ([V.int c0] ++ cutV (ns.map V.int) (some (1 : Int)) (some (2 : Int))))) = Hb at eC ⊢
    generalize (c0 :: (ns.drop 1).take 1) = cs at eC
    refine ⟨C, rfl, ⟨_, SqL.of eC⟩, ?_⟩
    refine for_it (walk_list (xs := cs.map V.int)) (fun i σ Hx => (∃ y1 y2 y3 y4 y5, σ = [some (.ref a), y1, y2, y3, y4, y5]) ∧ Same Hb Hx) ⟨⟨_, _, _, _, _, rfl⟩, Same.refl _⟩ (fun i σ Hx _ ⟨_, s⟩ => SqL.of (s _ _ eC)) ?_ ?_
    · rintro i x σ H0 H1 hi ⟨⟨y1, y2, y3, y4, y5, rfl⟩, sb⟩ ⟨rfl, ex⟩
      rw [List.getElem?_map] at ex
      obtain ⟨cell, _, rfl⟩ := Option.map_eq_some_iff.mp ex
      refine ⟨_, rfl, cell, rfl, fun pn l hpn hl => ?_⟩
      have p1 : PenOk (upd H1 pn (.lst l)) pn := ⟨l, upd_same, hl⟩
      have hb1 : Same H1 (hid (upd H1 pn (.lst l)) pn) := hid_start hpn
      generalize upd H1 pn (.lst l) = H2 at p1 hb1 ⊢
      refine ⟨_, rfl, _, rfl, (show 3 ≤ sizeLine by decide), fun t ht => ?_⟩
      have f2 := (FrP.refl p1).pure (same_up (o := .lst [V.int 40, .int 9, .int 9]) ht)
      obtain ⟨q2, eq2, pq2⟩ := f2.p
      refine ⟨pn, t, q2, [40, 9, 9], rfl, eq2, pq2, new_ne p1 ht, SqL.of upd_same, by simp, (show 3 ≤ 900 by decide), fun m0 q3 hm0 hq3 => ?_⟩
      obtain ⟨m, m1, m40, rfl⟩ : ∃ m : Nat, 1 ≤ m ∧ m ≤ 40 ∧ m0 = (m : Int) := by
        rcases List.mem_cons.mp hm0 with h | h
        · exact ⟨40, by omega, by omega, h⟩
        · rcases List.mem_cons.mp h with h | h
          · exact ⟨9, by omega, by omega, h⟩
          · exact ⟨9, by omega, by omega, List.mem_singleton.mp h⟩
      have f3 := f2.trans (fr_draw hq3)
      refine ⟨pn, m, rfl, f3.p, m1, m40, fun H4 l4 ys d f4 hl4 e4 hd4 ld => ?_⟩
      have f14 := f3.trans f4
      obtain ⟨pps, rfl⟩ := refs_of (by rw [rD_map] at hd4; exact hd4)
      have e4' := hid_same _ _ e4
      have hd4' := DpAll.of_hid hd4
      refine ⟨_, rfl, l4, pps, kvI d, rfl, SqL.of e4', paired_kv hd4', fun wd hwd => ?_⟩
      rw [merge0 ld.nd]
      have s5 := same_up (o := .dK (kvI d)) hwd
      have hwdp := new_ne f14.p hwd
      intro z dx hz hdx hne2
      refine ⟨z, dx, [], [], rfl, upd_same, .nil, ⟨by simp [keysT], by simp, fun p hp => by cases hp⟩, fun H6 kp ⟨dd, e1, e2⟩ => ⟨rfl, ?_⟩⟩
      have s6 : Same (upd H4 wd (.dK (kvI d))) H6 := fun b o e => by
        have h1 : b ≠ z := fun e' => by rw [e', hz] at e; cases e
        have h2 : b ≠ dx := fun e' => by rw [e', hdx] at e; cases e
        refine kp b o ?_ h1
        rw [upd_ne h1, upd_ne h2]
        exact e
      have htz : TabAt K H6 z [] := ⟨⟨.nil, by simp, fun p hp => by cases hp⟩, dx, dd, [], e1, e2, .refl _⟩
      have s46 := s5.trans s6
      obtain ⟨r, g, pm⟩ := sort_ex d ld.nd ld.len (fun p hp => ⟨keyB_of (ld.kb p hp).1, keyB_of (ld.kb p hp).2⟩)
      have inj : Inj r := (List.Perm.nodup_iff (pm.map Prod.snd)).mp ld.inj
      refine ⟨_, rfl, l4, _, rfl, .inl ⟨SqL.of (s46 _ _ e4'), fun tt htt => ?_⟩⟩
      have s7 := same_up (o := .tup (pps.map V.ref)) htt
      refine ⟨z, dx, _, tt, _, rfl, rfl, s7 _ _ e1, SqT.of upd_same, z, tt, [], d, r, _, rfl, htz.same s7, SqT.of upd_same, DpAll.same (s46.trans s7) _ _ hd4', g, by simpa using pm, fun H8 c s8 _ htc => ⟨c, rfl, ?_⟩⟩
      refine ⟨_, _, rfl, ?_⟩
      have f8 := f14.pure ((s46.trans s7).trans s8)
      have ewd8 : hid H8 pn wd = some (.dK (kvI d)) := by
        rw [hid_ne hwdp]
        exact (s6.trans (s7.trans s8)) _ _ upd_same
      have htc8 : TabAt K (hid H8 pn) c r := by
        obtain ⟨g', dxt, ddt, dt, t1, t2, t3⟩ := htc
        obtain ⟨lp, elp, _⟩ := f8.p
        have n1 : c ≠ pn := fun e => by rw [e, elp] at t1; cases t1
        have n2 : ddt ≠ pn := fun e => by rw [e, elp] at t2; cases t2
        exact ⟨g', dxt, ddt, dt, by rw [hid_ne n1]; exact t1, by rw [hid_ne n2]; exact t2, t3⟩
      refine ⟨_, rfl, _, rfl, _, rfl, pn, wd, c, d, r, false, rfl, f8.p, ewd8, htc8, ld, pm, inj, fun H9 f9 => ⟨_, rfl, iteF ?_⟩⟩
      refine ⟨_, rfl, _, rfl, _, rfl, pn, wd, c, d, r, true, rfl, f9.p, f9.s _ _ ewd8, htc8.same f9.s, ld, pm, inj, fun H10 f10 => ⟨_, rfl, iteF ?_⟩⟩
      exact ⟨⟨_, _, _, _, _, rfl⟩, sb.trans (hb1.trans (((f8.trans f9).trans f10).down))⟩
    · rintro σ H1 ⟨⟨y1, y2, y3, y4, y5, rfl⟩, _⟩
      exact q _
end
end Rw

-- HdR
set_option Elab.async false
set_option linter.all false
set_option maxRecDepth 100000
set_option maxHeartbeats 0
/-! The top, run once in the kernel; the hook that reads the facts. -/
namespace Rw
open PySem PySem.Spec PyProof.Rows L2
abbrev ObR : Type := Bool × List He.FnV
def obsR (K : PySem.W.Frag) : ObR := (okB K, allD.map fun d => fnO K (d.ad K))
def valR : ObR := (true, allD.map DX.val)
/-- the objects at these addresses, laid out one by one -/
def layF {β : Type} (g : Addr → Option Obj) (k : PySem.W.Frag → β) : List Addr → PySem.W.Frag → β
  | [], acc => k acc
  | a :: r, acc => match g a with
    | some o => layF g k r ((a, o) :: acc)
    | none => layF g k r acc
theorem layF_in {β : Type} {h : Heap} {k : PySem.W.Frag → β} : ∀ (as : List Addr) (acc : PySem.W.Frag), (∀ q ∈ acc, h.get? q.1 = some q.2) → ∃ K : PySem.W.Frag, (∀ q ∈ K, h.get? q.1 = some q.2) ∧ layF h.get? k as acc = k K
  | [], acc, ha => ⟨acc, ha, rfl⟩
  | a :: r, acc, ha => by
    cases e : h.get? a with
    | some o =>
      obtain ⟨K, h1, h2⟩ := layF_in (k := k) r ((a, o) :: acc) (fun q hq => by
        rcases List.mem_cons.mp hq with z | z
        · rw [z]; exact e
        · exact ha q z)
      exact ⟨K, h1, by rw [← h2]; conv => lhs; unfold layF; rw [e]⟩
    | none =>
      obtain ⟨K, h1, h2⟩ := layF_in (k := k) r acc ha
      exact ⟨K, h1, by rw [← h2]; conv => lhs; unfold layF; rw [e]⟩
theorem in_of_mem {K : PySem.W.Frag} {h : Heap} (x : ∀ q ∈ K, h.get? q.1 = some q.2) : K.In h := fun a o e => by
  have key : ∀ L : PySem.W.Frag, (∀ q ∈ L, h.get? q.1 = some q.2) → L.lookup a = some o → h.get? a = some o := by
    intro L
    induction L with
    | nil => intro _ e; cases e
    | cons q L ih =>
      obtain ⟨b, u⟩ := q
      intro hL e
      have e2 : (match a == b with | true => some u | false => L.lookup a) = some o := e
      cases z : (a == b) with
      | true =>
        rw [z] at e2
        rw [beq_iff_eq.mp z, hL (b, u) (by simp)]
        exact e2
      | false =>
        rw [z] at e2
        exact ih (fun q hq => hL q (List.mem_cons_of_mem _ hq)) e2
  exact key K x e
def obsRG (g : Addr → Option Obj) : ObR := layF g obsR adL []
abbrev hkR : PySem.W.Hook where
  α := ObR
  obs := fun s => obsRG s.heap.get?
  val := fun _ => valR
  says := fun _ h => ∃ K : PySem.W.Frag, K.In h ∧ obsR K = valR
  of := fun _ s e => by
    obtain ⟨K, h1, h2⟩ := layF_in (h := s.heap) (k := obsR) adL [] (fun q hq => by cases hq)
    exact ⟨K, in_of_mem h1, h2.symm.trans e⟩
  keeps := fun _ _ _ ⟨K, hK, c⟩ k => ⟨K, PySem.W.Frag.In.keeps hK k, c⟩
def obT (s : PySem.W.SharedT) : ObR := obsRG (HandSHeadRun.getT s)
theorem obT_eq (s : PySem.W.SharedT) : obT s = hkR.obs s.abs := by
  have e : HandSHeadRun.getT s = s.abs.heap.get? := funext (HandSHeadRun.getT_eq s)
  show obsRG (HandSHeadRun.getT s) = obsRG s.abs.heap.get?
  rw [e]
def looseN : List Str := (["_wall", "RowError", "NotRow", "NotTable", "NotKey", "NotRows", "NotOrder", "Missing", "Twice", "TooMany", "Competing", "MOST_ROWS", "KEY_BOUND", "is_integer", "is_key", "is_row"] : List Str) ++ (["is_ascending", "checked_rows", "more_rows", "Table", "keys_of", "need_table", "is_set", "need_rows", "is_order", "need_order", "waited", "path_of", "rings_of", "by_new", "groups_of", "waiting_for"] : List Str) ++ (["need_no_pair", "ready", "first_order", "verdict", "is_ring", "waits_left", "is_enough", "enough", "lines_of", "least_many", "first_cover", "fewest_parked", "pairs_along", "needs", "is_wait", "is_piece"] : List Str) ++ (["shows_needs", "Outcome", "holder_of", "Rule", "Stops", "Undoes", "Abort", "_law_cell_at", "_law_pen", "_law_draw", "_law_pick", "_law_mixed", "_law_lines", "_law_need", "_law_places", "_law_statement"] : List Str) ++ (["_law_right"] : List Str)
abbrev RR : PySem.W.OpenRow := PySem.W.OpenLaw.row PySem.Challenge.rw_rowclash_k23_whole_three_statements
theorem runR (w : World) : HandSHeadRun.RunEq RR (PySem.W.view RR.prog [73]) hkR obT 8000 looseN w := by
  intro os
  kernel_rfl
end Rw

-- Fin
set_option Elab.async false
set_option linter.all false
set_option maxRecDepth 100000
set_option maxHeartbeats 0
/-! The end: the head and the law's def together. -/
namespace Rw
open PySem PySem.Spec PyProof.Rows L2
theorem facts {P : Program} {w : World} {K : PySem.W.Frag} {h : Heap} {mg : Str → Option Value} {f : Addr} (X : K.In h) (G : h.Ns mainGlobals mg) (hfa : mg ("law" : Str) = some (.ref f)) (c : obsR K = valR) :
    ∃ fd : FuncData, (∀ (s : Shared) (v : Value), BindsTo s fd ⟨[v], []⟩ [("_law_script", v)]) ∧ ∀ base : Heap, K.In base → base.Ns mainGlobals mg → FnOk P w K mg base CX0 15 f fd ["_law_script"] (spLaw K) := by
  have c1 : okB K = true := congrArg Prod.fst c
  have c2 : allD.map (fun d => fnO K (d.ad K)) = allD.map DX.val := congrArg Prod.snd c
  have T := txt_of (mg := mg) X G c1 c2
  obtain ⟨fd, F⟩ := T.f_law
  have e := hfa.symm.trans T.g_law
  cases e
  refine ⟨fd, fun s v => ?_, fun base _ _ => ok_law T F⟩
  obtain ⟨oc, od, kV, doc, pm, an, cdv, ct, osl, rfl, lk, hcd⟩ := F.ex
  exact BindsTo.of_eq rfl
end Rw
open PySem PySem.W PySem.Calls PyProof.Rows
theorem PySem.Challenge.cw_rowclash_k23_whole_three_statements_holds : PySem.Challenge.rw_rowclash_k23_whole_three_statements.Holds := by
  w_on; o_law
  refine HandSHeadRun.head_any (r := Rw.RR) (q := view Rw.RR.prog [73]) (H := Rw.hkR) (ob := Rw.obT) (M := 8000) (loose := Rw.looseN) (d := HandSHeadRun.topDef Rw.RR.prog 73) (kwd := []) Rw.obT_eq
    (by kernel_rfl) (fun s => by kernel_rfl) Rw.runR (by kernel_rfl) (by kernel_rfl) (by kernel_rfl) (by rfl) (by first | assumption | decide +kernel) (by decide +kernel) ⟨rfl, rfl, rfl, rfl, rfl, by decide +kernel⟩ ?hw ?hc
  case hw => w_witness2
  case hc =>
    refine L2.walk_ofE (l := PySem.Challenge.rw_rowclash_k23_whole_three_statements) (n := 63) (k := 15) (x := "_law_script") (CX := L2.CX0) rfl (by decide) (by kernel_rfl) ⟨rfl, by decide, by decide⟩ ?F (fun _ _ _ _ z => z)
    intro w mg fa h Y G hmg0
    obtain ⟨K, KX, c⟩ := Y
    have hmg : mg ("law" : PySem.Str) = some (.ref fa) := by
      have e : (HandSHeadRun.topDef Rw.RR.prog 73).name = ("law" : PySem.Str) := by kernel_rfl
      rw [← e]
      exact hmg0
    obtain ⟨fd, hb, hF⟩ := Rw.facts (P := (PySem.Challenge.rw_rowclash_k23_whole_three_statements).prog) (w := w) KX G hmg c
    exact ⟨K, fd, Rw.spLaw K, KX, hb, fun H a ns hl _ hS => ⟨a, ns, rfl, hS, fun H' => rfl⟩, hF⟩
