import PyProof.Rows.All
import Wide.All
import OpenK.AllK
import Wide.FinOn
import HandS.ForMost
import HandS.More
import HandS.SetFor
import HandS.SetKeys
import HandS.TupSets
import HandS.SetBool
import HandS.Deep
import HandS.Conv
import HandS.Evl
import KE.SortData
import PySem.Challenge.RW_ordershown_k58_whole_without_skew_some_o
import KE.DataEq
set_option Elab.async false
set_option linter.all false
set_option maxRecDepth 100000
set_option autoImplicit false
set_option maxHeartbeats 4000000
/-! The law k58 of the given program, by import: rings of pairs, the plain run and its dependencies; then each def walked once; then the law. -/
namespace Ok
/-! ### pairs, chains, rings -/
def Chn (ps : List (Int × Int)) : List Int → Prop
  | [] => True
  | [_] => True
  | a :: b :: r => (a, b) ∈ ps ∧ Chn ps (b :: r)

theorem Chn.tail {ps : List (Int × Int)} : ∀ {a : Int} {l : List Int}, Chn ps (a :: l) → Chn ps l
  | _, [], _ => trivial
  | _, _ :: _, h => h.2

theorem Chn.cons {ps : List (Int × Int)} {a b : Int} {l : List Int} (h : (a, b) ∈ ps) (c : Chn ps (b :: l)) : Chn ps (a :: b :: l) := ⟨h, c⟩

theorem Chn.append_left {ps : List (Int × Int)} : ∀ {l1 l2 : List Int}, Chn ps (l1 ++ l2) → Chn ps l1
  | [], _, _ => trivial
  | [_], _, _ => trivial
  | _ :: b :: r, l2, h => ⟨h.1, Chn.append_left (l1 := b :: r) (l2 := l2) h.2⟩

theorem Chn.append_right {ps : List (Int × Int)} : ∀ {l1 l2 : List Int}, Chn ps (l1 ++ l2) → Chn ps l2
  | [], _, h => h
  | _ :: r, l2, h => Chn.append_right (l1 := r) (l2 := l2) (Chn.tail h)

/-- the join of two chains -/
theorem Chn.join {ps : List (Int × Int)} : ∀ {l1 : List Int} {z b : Int} {l2 : List Int}, Chn ps (l1 ++ [z]) → (z, b) ∈ ps → Chn ps (b :: l2) → Chn ps (l1 ++ [z] ++ b :: l2)
  | [], _, _, _, _, h, c => ⟨h, c⟩
  | [_], _, _, _, c1, h, c => ⟨c1.1, h, c⟩
  | _ :: b' :: r, _, _, _, c1, h, c => ⟨c1.1, Chn.join (l1 := b' :: r) c1.2 h c⟩

/-- two neighbours in a chain -/
theorem Chn.pair {ps : List (Int × Int)} : ∀ {l1 : List Int} {a b : Int} {l2 : List Int}, Chn ps (l1 ++ a :: b :: l2) → (a, b) ∈ ps
  | [], _, _, _, h => h.1
  | _ :: r, _, _, _, h => Chn.pair (l1 := r) (Chn.tail h)

theorem Chn.mono {ps qs : List (Int × Int)} (h : ∀ p ∈ ps, p ∈ qs) : ∀ {l : List Int}, Chn ps l → Chn qs l
  | [], _ => trivial
  | [_], _ => trivial
  | _ :: b :: r, c => ⟨h _ c.1, Chn.mono (l := b :: r) h c.2⟩

/-- a measure that rises along pairs rises along a chain -/
theorem Chn.rise {ps : List (Int × Int)} (f : Int → Nat) (h : ∀ a b, (a, b) ∈ ps → f a < f b) : ∀ {a : Int} {l : List Int} {z : Int}, Chn ps (a :: l) → (a :: l).getLast? = some z → f a ≤ f z
  | a, [], z, _, e => by
    have : a = z := by simpa using e
    rw [this]; exact Nat.le_refl _
  | a, b :: r, z, c, e => by
    have e' : (b :: r).getLast? = some z := by simpa [List.getLast?_cons_cons] using e
    exact Nat.le_trans (Nat.le_of_lt (h _ _ c.1)) (Chn.rise f h c.2 e')

/-- a ring of pairs that begins with its least -/
structure RingF (ps : List (Int × Int)) (a : Int) (l : List Int) : Prop where
  ch : Chn ps (a :: l)
  nd : (a :: l).Nodup
  cl : ∃ z, (a :: l).getLast? = some z ∧ (z, a) ∈ ps
  lo : ∀ x ∈ l, a < x

/-- a ring -/
structure Ring (ps : List (Int × Int)) (a : Int) (l : List Int) : Prop where
  ch : Chn ps (a :: l)
  nd : (a :: l).Nodup
  cl : ∃ z, (a :: l).getLast? = some z ∧ (z, a) ∈ ps

theorem RingF.ring {ps : List (Int × Int)} {a : Int} {l : List Int} (r : RingF ps a l) : Ring ps a l := ⟨r.ch, r.nd, r.cl⟩
theorem Ring.mono {ps qs : List (Int × Int)} (h : ∀ p ∈ ps, p ∈ qs) {a : Int} {l : List Int} (r : Ring ps a l) : Ring qs a l :=
  ⟨r.ch.mono h, r.nd, let ⟨z, e, m⟩ := r.cl; ⟨z, e, h _ m⟩⟩
theorem RingF.mono {ps qs : List (Int × Int)} (h : ∀ p ∈ ps, p ∈ qs) {a : Int} {l : List Int} (r : RingF ps a l) : RingF qs a l :=
  ⟨r.ch.mono h, r.nd, (let ⟨z, e, m⟩ := r.cl; ⟨z, e, h _ m⟩), r.lo⟩

/-- no measure rises along all pairs of a ring -/
theorem Ring.no_rise {ps : List (Int × Int)} {a : Int} {l : List Int} (r : Ring ps a l) (f : Int → Nat) (h : ∀ x y, (x, y) ∈ ps → f x < f y) : False := by
  obtain ⟨z, e, m⟩ := r.cl
  have h1 := r.ch.rise f h e
  have h2 := h _ _ m
  omega

/-- a list's least item -/
theorem exists_min : ∀ (l : List Int), l ≠ [] → ∃ l1 m l2, l = l1 ++ m :: l2 ∧ ∀ x ∈ l, m ≤ x
  | [], h => absurd rfl h
  | [a], _ => ⟨[], a, [], rfl, fun x hx => by
      have : x = a := by simpa using hx
      omega⟩
  | a :: b :: r, _ => by
    obtain ⟨l1, m, l2, e, hm⟩ := exists_min (b :: r) (by simp)
    by_cases h : a ≤ m
    · refine ⟨[], a, b :: r, rfl, fun x hx => ?_⟩
      rcases List.mem_cons.mp hx with rfl | hx
      · exact Int.le_refl _
      · exact Int.le_trans h (hm x hx)
    · refine ⟨a :: l1, m, l2, by rw [e]; rfl, fun x hx => ?_⟩
      rcases List.mem_cons.mp hx with rfl | hx
      · omega
      · exact hm x hx

/-- a ring turned so that it begins with its least -/
theorem Ring.turned {ps : List (Int × Int)} {a : Int} {l : List Int} (r : Ring ps a l) : ∃ b m, RingF ps b m ∧ (b :: m).length = (a :: l).length ∧ ∀ x, x ∈ b :: m ↔ x ∈ a :: l := by
  obtain ⟨l1, m, l2, e, hm⟩ := exists_min (a :: l) (by simp)
  obtain ⟨z, ez, mz⟩ := r.cl
  have ch := r.ch
  have nd := r.nd
  rw [e] at ch nd ez hm
  have lo : ∀ (l' : List Int), (m :: l').Nodup → (∀ x ∈ l', x ∈ l1 ++ m :: l2) → ∀ x ∈ l', m < x := fun l' hn hl x hx => by
    have h1 := hm x (hl x hx)
    have h2 : m ≠ x := fun q => (List.nodup_cons.mp hn).1 (q ▸ hx)
    omega
  cases l1 with
  | nil =>
    have ea : a = m ∧ l = l2 := by simpa using e
    obtain ⟨rfl, rfl⟩ := ea
    exact ⟨a, l, ⟨ch, nd, ⟨z, by simpa using ez, mz⟩, lo l nd fun x hx => by simp [hx]⟩, rfl, fun x => Iff.rfl⟩
  | cons a' l1 =>
    have ea : a = a' ∧ l = l1 ++ m :: l2 := by simpa using e
    obtain ⟨rfl, rfl⟩ := ea
    -- the last of m :: l2 is z
    have ez2 : (m :: l2).getLast? = some z := by
      rw [List.getLast?_append] at ez
      simpa using ez
    have c2 : Chn ps (m :: l2) := Chn.append_right (l1 := a :: l1) ch
    have c1 : Chn ps (a :: l1) := Chn.append_left (l2 := m :: l2) ch
    have nd' : (m :: (l2 ++ a :: l1)).Nodup := by
      have p : (a :: l1 ++ m :: l2).Perm (m :: (l2 ++ a :: l1)) := by
        have := List.perm_append_comm (l₁ := a :: l1) (l₂ := m :: l2)
        simpa using this
      exact p.nodup_iff.mp nd
    -- the whole turned chain
    have c : Chn ps (m :: (l2 ++ a :: l1)) := by
      obtain ⟨l3, hl3⟩ : ∃ l3, m :: l2 = l3 ++ [z] := by
        have hne : (m :: l2) ≠ [] := by simp
        refine ⟨(m :: l2).dropLast, ?_⟩
        have h1 := List.dropLast_concat_getLast hne
        have h2 : (m :: l2).getLast hne = z := by
          have := List.getLast?_eq_some_getLast hne
          rw [ez2] at this
          exact (Option.some.inj this).symm
        rw [h2] at h1
        exact h1.symm
      have h4 : Chn ps (l3 ++ [z] ++ a :: l1) := Chn.join (by rw [← hl3]; exact c2) mz c1
      rw [← hl3] at h4
      simpa using h4
    -- its last goes to m
    have hz : ∃ y, (m :: (l2 ++ a :: l1)).getLast? = some y ∧ (y, m) ∈ ps := by
      have hne : (a :: l1) ≠ [] := by simp
      refine ⟨(a :: l1).getLast hne, ?_, ?_⟩
      · have : m :: (l2 ++ a :: l1) = (m :: l2) ++ (a :: l1) := by simp
        rw [this, List.getLast?_append, List.getLast?_eq_some_getLast hne]
        rfl
      · have h1 := List.dropLast_concat_getLast hne
        have h2 : Chn ps ((a :: l1).dropLast ++ (a :: l1).getLast hne :: m :: l2) := by
          have : (a :: l1).dropLast ++ (a :: l1).getLast hne :: m :: l2 = (a :: l1) ++ m :: l2 := by
            have h3 : (a :: l1).dropLast ++ (a :: l1).getLast hne :: m :: l2 = ((a :: l1).dropLast ++ [(a :: l1).getLast hne]) ++ m :: l2 := by simp
            rw [h3, h1]
          rw [this]
          exact ch
        exact Chn.pair h2
    refine ⟨m, l2 ++ a :: l1, ⟨c, nd', hz, lo _ nd' fun x hx => ?_⟩, ?_, fun x => ?_⟩
    · rcases List.mem_append.mp hx with q | q
      · simp [q]
      · rcases List.mem_cons.mp q with q | q <;> simp [q]
    · simp; omega
    · simp only [List.mem_cons, List.mem_append]
      constructor
      · rintro (q | q | q | q) <;> simp [q]
      · rintro (q | q | q | q) <;> simp [q]

/-- a list without doubles that lies in another is no longer -/
theorem len_le {α : Type} [DecidableEq α] : ∀ (l D : List α), l.Nodup → (∀ x ∈ l, x ∈ D) → l.length ≤ D.length
  | [], _, _, _ => Nat.zero_le _
  | a :: r, D, h, hs => by
    obtain ⟨h1, h2⟩ := List.nodup_cons.mp h
    have ha : a ∈ D := hs a (by simp)
    have ih := len_le r (D.erase a) h2 fun x hx => by
      have hne : x ≠ a := fun q => h1 (q ▸ hx)
      exact (List.mem_erase_of_ne hne).mpr (hs x (by simp [hx]))
    rw [List.length_erase_of_mem ha] at ih
    have : 0 < D.length := List.length_pos_of_mem ha
    simp only [List.length_cons]
    omega

/-- where all of a set of places have a pair from the set, there is a ring -/
theorem ring_of_stuck {ps : List (Int × Int)} (hself : ∀ a, (a, a) ∉ ps) {S : List Int} (hS : S ≠ []) (hp : ∀ b ∈ S, ∃ a ∈ S, (a, b) ∈ ps) : ∃ a l, Ring ps a l ∧ ∀ x ∈ a :: l, x ∈ S := by
  -- longer and longer paths
  have grow : ∀ n, (∃ a l, Ring ps a l ∧ ∀ x ∈ a :: l, x ∈ S) ∨ ∃ a l, Chn ps (a :: l) ∧ (a :: l).Nodup ∧ (∀ x ∈ a :: l, x ∈ S) ∧ (a :: l).length = n + 1 := by
    intro n
    induction n with
    | zero =>
      obtain ⟨s, r, rfl⟩ := List.exists_cons_of_ne_nil hS
      exact .inr ⟨s, [], trivial, by simp, by simp, rfl⟩
    | succ n ih =>
      rcases ih with h | ⟨a, l, c, nd, hs, hl⟩
      · exact .inl h
      · obtain ⟨p, hpS, hpa⟩ := hp a (hs a (by simp))
        by_cases hm : p ∈ a :: l
        · -- the ring from a to p
          left
          obtain ⟨l1, l2, e⟩ := List.append_of_mem hm
          have hap : p ≠ a := fun q => hself a (q ▸ hpa)
          cases l1 with
          | nil =>
            have : a = p := by simpa using (List.cons.inj e).1
            exact absurd this.symm hap
          | cons a' l1 =>
            have ea : a = a' ∧ l = l1 ++ p :: l2 := by simpa using e
            obtain ⟨rfl, rfl⟩ := ea
            have e2 : a :: (l1 ++ p :: l2) = (a :: (l1 ++ [p])) ++ l2 := by simp
            refine ⟨a, l1 ++ [p], ⟨?_, ?_, ⟨p, by simp [List.getLast?_cons], hpa⟩⟩, fun x hx => hs x ?_⟩
            · rw [e2] at c
              exact Chn.append_left c
            · rw [e2] at nd
              exact (List.nodup_append.mp nd).1
            · rw [e2]
              exact List.mem_append_left _ hx
        · right
          refine ⟨p, a :: l, ⟨hpa, c⟩, List.nodup_cons.mpr ⟨hm, nd⟩, fun x hx => ?_, by simp only [List.length_cons] at hl ⊢; omega⟩
          rcases List.mem_cons.mp hx with q | q
          · rw [q]; exact hpS
          · exact hs x q
  rcases grow S.length with h | ⟨a, l, _, nd, hs, hl⟩
  · exact h
  · have := len_le (a :: l) S nd hs
    omega

/-- every item of a ring begins a pair -/
theorem Ring.firsts {ps : List (Int × Int)} {a : Int} {l : List Int} (r : Ring ps a l) : ∀ x ∈ a :: l, ∃ y, (x, y) ∈ ps := by
  intro x hx
  obtain ⟨l1, l2, e⟩ := List.append_of_mem hx
  cases l2 with
  | nil =>
    obtain ⟨z, ez, mz⟩ := r.cl
    rw [e] at ez
    have : x = z := by simpa using ez
    exact ⟨a, this ▸ mz⟩
  | cons y l2 =>
    have c := r.ch
    rw [e] at c
    exact ⟨y, Chn.pair c⟩
/-- ..and ends one -/
theorem Ring.seconds {ps : List (Int × Int)} {a : Int} {l : List Int} (r : Ring ps a l) : ∀ x ∈ a :: l, ∃ y, (y, x) ∈ ps := by
  intro x hx
  obtain ⟨l1, l2, e⟩ := List.append_of_mem hx
  rcases List.eq_nil_or_concat l1 with h | ⟨l3, y, h⟩
  · subst h
    obtain ⟨z, _, mz⟩ := r.cl
    have : a = x := by simpa using (List.cons.inj e).1
    exact ⟨z, this ▸ mz⟩
  · subst h
    have c := r.ch
    rw [e] at c
    have e2 : l3.concat y ++ x :: l2 = l3 ++ y :: x :: l2 := by simp
    rw [e2] at c
    exact ⟨y, Chn.pair c⟩
end Ok
namespace Ok
/-! ### an order by pairs -/
/-- no pair goes the wrong way -/
def Topo (ps : List (Int × Int)) (order : List Int) : Prop := order.Pairwise fun x y => (y, x) ∉ ps

theorem Topo.lt {ps : List (Int × Int)} {order : List Int} (t : Topo ps order) {a b : Int} (h : (a, b) ∈ ps) (ha : a ∈ order) (hb : b ∈ order) (hne : a ≠ b) : order.idxOf a < order.idxOf b := by
  have la := List.idxOf_lt_length_of_mem ha
  have lb := List.idxOf_lt_length_of_mem hb
  have ga : order[order.idxOf a] = a := List.getElem_idxOf la
  have gb : order[order.idxOf b] = b := List.getElem_idxOf lb
  by_cases h1 : order.idxOf b < order.idxOf a
  · have := (List.pairwise_iff_getElem.mp t) _ _ lb la h1
    rw [ga, gb] at this
    exact absurd h this
  · by_cases h2 : order.idxOf a = order.idxOf b
    · have : a = b := by
        have q : order[order.idxOf a] = order[order.idxOf b] := by simp only [h2]
        rw [ga, gb] at q
        exact q
      exact absurd this hne
    · omega

theorem Topo.no_ring {ps : List (Int × Int)} {order : List Int} (t : Topo ps order) (hin : ∀ a b, (a, b) ∈ ps → a ∈ order ∧ b ∈ order ∧ a ≠ b) {a : Int} {l : List Int} (r : Ring ps a l) : False :=
  r.no_rise (fun x => order.idxOf x) fun x y h => let ⟨h1, h2, h3⟩ := hin x y h; t.lt h h1 h2 h3

/-- what stands ahead in an order -/
theorem Topo.ahead {ps : List (Int × Int)} {pre post : List Int} {t : Int} (h : Topo ps (pre ++ t :: post)) {a : Int} (hp : (a, t) ∈ ps) (ha : a ∈ pre ++ t :: post) (hne : a ≠ t) : a ∈ pre := by
  rcases List.mem_append.mp ha with q | q
  · exact q
  · rcases List.mem_cons.mp q with q | q
    · exact absurd q hne
    · have h1 := (List.pairwise_append.mp h).2.1
      have h2 := (List.pairwise_cons.mp h1).1 a q
      exact absurd hp h2
theorem Topo.behind {ps : List (Int × Int)} {pre post : List Int} {t : Int} (h : Topo ps (pre ++ t :: post)) {a : Int} (ha : a ∈ pre) : (t, a) ∉ ps :=
  (List.pairwise_append.mp h).2.2 a ha t (by simp)

/-! ### tables -/
section
variable {κ β : Type} [DecidableEq κ]
def get (kvs : List (κ × β)) (k : κ) : Option β := (kvs.find? fun kv => decide (kv.1 = k)).map (·.2)
def put (kvs : List (κ × β)) (k : κ) (v : β) : List (κ × β) :=
  if kvs.any (fun kv => decide (kv.1 = k)) then kvs.map (fun kv => if kv.1 = k then (kv.1, v) else kv) else kvs ++ [(k, v)]
def putAll (kvs : List (κ × β)) (more : List (κ × β)) : List (κ × β) := more.foldl (fun acc p => put acc p.1 p.2) kvs
theorem get_nil {k : κ} : get ([] : List (κ × β)) k = none := rfl
theorem get_cons {p : κ × β} {r : List (κ × β)} {k : κ} : get (p :: r) k = if p.1 = k then some p.2 else get r k := by
  unfold get
  rw [List.find?_cons]
  by_cases h : p.1 = k <;> simp [h]
theorem any_get (k : κ) : ∀ kvs : List (κ × β), (kvs.any fun kv => decide (kv.1 = k)) = (get kvs k).isSome
  | [] => rfl
  | p :: r => by
    rw [List.any_cons, get_cons, any_get k r]
    by_cases h : p.1 = k <;> simp [h]
theorem get_map (k j : κ) (v : β) : ∀ kvs : List (κ × β), get (kvs.map fun kv => if kv.1 = k then (kv.1, v) else kv) j = (get kvs j).map fun x => if j = k then v else x
  | [] => rfl
  | p :: r => by
    rw [List.map_cons, get_cons, get_cons, get_map k j v r]
    by_cases h : p.1 = k
    · subst h
      by_cases h2 : p.1 = j
      · simp [h2]
      · simp [h2]
    · by_cases h2 : p.1 = j
      · subst h2; simp [h]
      · simp [h, h2]
theorem get_snoc (k j : κ) (v : β) : ∀ kvs : List (κ × β), get kvs k = none → get (kvs ++ [(k, v)]) j = if j = k then some v else get kvs j
  | [], _ => by
    rw [List.nil_append, get_cons, get_nil]
    by_cases h : k = j
    · simp [h]
    · have : ¬ j = k := fun q => h q.symm
      simp [h, this]
  | p :: r, h => by
    rw [get_cons] at h
    by_cases h1 : p.1 = k
    · simp [h1] at h
    · rw [if_neg h1] at h
      rw [List.cons_append, get_cons, get_cons, get_snoc k j v r h]
      by_cases h2 : p.1 = j
      · subst h2; simp [h1]
      · simp [h2]
theorem get_put (kvs : List (κ × β)) (k j : κ) (v : β) : get (put kvs k v) j = if j = k then some v else get kvs j := by
  unfold put
  rw [any_get]
  cases h : get kvs k with
  | none =>
    simp only [Option.isSome_none, Bool.false_eq_true, if_false]
    exact get_snoc k j v kvs h
  | some x =>
    simp only [Option.isSome_some, if_true]
    rw [get_map]
    by_cases e : j = k
    · subst e; simp [h]
    · cases get kvs j <;> simp [e]
theorem put_keys_mem (kvs : List (κ × β)) (k j : κ) (v : β) : j ∈ (put kvs k v).map (·.1) ↔ j = k ∨ j ∈ kvs.map (·.1) := by
  unfold put
  split
  · rename_i h
    have e : (kvs.map fun kv => if kv.1 = k then (kv.1, v) else kv).map (·.1) = kvs.map (·.1) := by
      rw [List.map_map]
      refine List.map_congr_left fun p _ => ?_
      by_cases hp : p.1 = k <;> simp [hp]
    rw [e]
    constructor
    · exact .inr
    · rintro (q | q)
      · obtain ⟨p, hp, e⟩ := List.any_eq_true.mp h
        exact List.mem_map.mpr ⟨p, hp, by rw [q]; exact of_decide_eq_true e⟩
      · exact q
  · simp only [List.map_append, List.map_cons, List.map_nil, List.mem_append, List.mem_singleton]
    constructor
    · rintro (q | q)
      · exact .inr q
      · exact .inl q
    · rintro (q | q)
      · exact .inr q
      · exact .inl q
theorem put_nodup {kvs : List (κ × β)} (k : κ) (v : β) (h : (kvs.map (·.1)).Nodup) : ((put kvs k v).map (·.1)).Nodup := by
  unfold put
  split
  · have e : (kvs.map fun kv => if kv.1 = k then (kv.1, v) else kv).map (·.1) = kvs.map (·.1) := by
      rw [List.map_map]
      refine List.map_congr_left fun p _ => ?_
      by_cases hp : p.1 = k <;> simp [hp]
    rw [e]; exact h
  · rename_i hn
    rw [List.map_append]
    refine List.nodup_append.mpr ⟨h, by simp, fun a ha b hb q => ?_⟩
    have : b = k := by simpa using hb
    subst this
    subst q
    apply hn
    obtain ⟨p, hp, e⟩ := List.mem_map.mp ha
    exact List.any_eq_true.mpr ⟨p, hp, decide_eq_true e⟩
theorem put_len (kvs : List (κ × β)) (k : κ) (v : β) : (put kvs k v).length ≤ kvs.length + 1 := by
  unfold put
  split <;> simp
theorem get_some_mem {kvs : List (κ × β)} {k : κ} {v : β} (h : get kvs k = some v) : (k, v) ∈ kvs := by
  unfold get at h
  obtain ⟨p, hp, e⟩ := Option.map_eq_some_iff.mp h
  have h1 := List.mem_of_find?_eq_some hp
  have h2 : p.1 = k := by
    have := List.find?_some (p := fun kv : κ × β => decide (kv.1 = k)) hp
    exact of_decide_eq_true this
  rw [← h2, ← e]
  exact h1
theorem get_mem : ∀ {kvs : List (κ × β)} {k : κ} {v : β}, (kvs.map (·.1)).Nodup → (k, v) ∈ kvs → get kvs k = some v
  | [], _, _, _, h => absurd h (by simp)
  | p :: r, k, v, hn, h => by
    rw [get_cons]
    have hn' := List.nodup_cons.mp hn
    rcases List.mem_cons.mp h with q | q
    · rw [← q]; simp
    · have : p.1 ≠ k := fun z => hn'.1 (List.mem_map.mpr ⟨(k, v), q, z.symm⟩)
      rw [if_neg this]
      exact get_mem hn'.2 q
theorem get_isSome {kvs : List (κ × β)} {k : κ} : (get kvs k).isSome = true ↔ k ∈ kvs.map (·.1) := by
  rw [← any_get, List.any_eq_true]
  constructor
  · rintro ⟨p, hp, e⟩
    exact List.mem_map.mpr ⟨p, hp, of_decide_eq_true e⟩
  · intro h
    obtain ⟨p, hp, e⟩ := List.mem_map.mp h
    exact ⟨p, hp, decide_eq_true e⟩
theorem get_putAll (j : κ) : ∀ (more kvs : List (κ × β)), (more.map (·.1)).Nodup → get (putAll kvs more) j = match get more j with | some v => some v | none => get kvs j
  | [], kvs, _ => rfl
  | p :: r, kvs, hn => by
    have hn' := List.nodup_cons.mp hn
    show get (putAll (put kvs p.1 p.2) r) j = _
    rw [get_putAll j r _ hn'.2, get_cons, get_put]
    by_cases h : p.1 = j
    · subst h
      have : get r p.1 = none := by
        cases q : get r p.1 with
        | none => rfl
        | some v => exact absurd (get_isSome.mp (by rw [q]; rfl)) hn'.1
      simp [this]
    · have h2 : ¬ j = p.1 := fun q => h q.symm
      simp only [h, h2, if_false]
theorem putAll_nodup : ∀ (more : List (κ × β)) {kvs : List (κ × β)}, (kvs.map (·.1)).Nodup → ((putAll kvs more).map (·.1)).Nodup
  | [], _, h => h
  | p :: r, _, h => putAll_nodup r (put_nodup p.1 p.2 h)
theorem putAll_len : ∀ (more kvs : List (κ × β)), (putAll kvs more).length ≤ kvs.length + more.length
  | [], kvs => Nat.le_refl _
  | p :: r, kvs => by
    have h1 := putAll_len r (put kvs p.1 p.2)
    have h2 := put_len kvs p.1 p.2
    show (putAll (put kvs p.1 p.2) r).length ≤ kvs.length + (r.length + 1)
    omega
end
end Ok
set_option linter.unusedSectionVars false
namespace Ok
/-! ### what was written last -/
section
variable {κ β : Type} [DecidableEq κ]
/-- the value of x behind transactions, by what each wrote -/
def val (W : Int → List (κ × β)) (cs : List Int) (x : κ) : Option β := cs.foldl (fun acc u => match get (W u) x with | some v => some v | none => acc) none
/-- who wrote it -/
def who (W : Int → List (κ × β)) (cs : List Int) (x : κ) : Option Int := cs.foldl (fun acc u => match get (W u) x with | some _ => some u | none => acc) none

theorem val_snoc (W : Int → List (κ × β)) (cs : List Int) (u : Int) (x : κ) : val W (cs ++ [u]) x = match get (W u) x with | some v => some v | none => val W cs x := by
  unfold val
  rw [List.foldl_append]
  rfl
theorem who_snoc (W : Int → List (κ × β)) (cs : List Int) (u : Int) (x : κ) : who W (cs ++ [u]) x = match get (W u) x with | some _ => some u | none => who W cs x := by
  unfold who
  rw [List.foldl_append]
  rfl
theorem val_congr {W W' : Int → List (κ × β)} : ∀ {cs : List Int} {x : κ}, (∀ u ∈ cs, W u = W' u) → val W cs x = val W' cs x := fun {cs x} h => by
  unfold val
  generalize (none : Option β) = acc
  induction cs generalizing acc with
  | nil => rfl
  | cons u r ih =>
    simp only [List.foldl_cons]
    rw [h u (by simp)]
    exact ih (fun v hv => h v (by simp [hv])) _
theorem who_congr {W W' : Int → List (κ × β)} : ∀ {cs : List Int} {x : κ}, (∀ u ∈ cs, W u = W' u) → who W cs x = who W' cs x := fun {cs x} h => by
  unfold who
  generalize (none : Option Int) = acc
  induction cs generalizing acc with
  | nil => rfl
  | cons u r ih =>
    simp only [List.foldl_cons]
    rw [h u (by simp)]
    exact ih (fun v hv => h v (by simp [hv])) _
/-- none wrote it, or there is a last one -/
theorem last_split (W : Int → List (κ × β)) (x : κ) : ∀ cs : List Int, ((∀ u ∈ cs, get (W u) x = none) ∧ val W cs x = none ∧ who W cs x = none) ∨
    ∃ l1 w l2 v, cs = l1 ++ w :: l2 ∧ get (W w) x = some v ∧ (∀ u ∈ l2, get (W u) x = none) ∧ val W cs x = some v ∧ who W cs x = some w := by
  intro cs
  have key : ∀ (r : List Int) (l : List Int), r.reverse = l → ((∀ u ∈ l, get (W u) x = none) ∧ val W l x = none ∧ who W l x = none) ∨
    ∃ l1 w l2 v, l = l1 ++ w :: l2 ∧ get (W w) x = some v ∧ (∀ u ∈ l2, get (W u) x = none) ∧ val W l x = some v ∧ who W l x = some w := by
    intro r
    induction r with
    | nil =>
      intro l e
      have : l = [] := by simpa using e.symm
      subst this
      exact .inl ⟨by simp, rfl, rfl⟩
    | cons u r ih =>
      intro l e
      have e' : l = r.reverse ++ [u] := by rw [← e]; simp
      subst e'
      rw [val_snoc, who_snoc]
      cases h : get (W u) x with
      | some v => exact .inr ⟨r.reverse, u, [], v, rfl, h, by simp, rfl, rfl⟩
      | none =>
        rcases ih _ rfl with ⟨h1, h2, h3⟩ | ⟨l1, w, l2, v, h1, h2, h3, h4, h5⟩
        · refine .inl ⟨fun z hz => ?_, h2, h3⟩
          rcases List.mem_append.mp hz with q | q
          · exact h1 z q
          · have : z = u := by simpa using q
            rw [this]; exact h
        · refine .inr ⟨l1, w, l2 ++ [u], v, by rw [h1]; simp, h2, fun z hz => ?_, h4, h5⟩
          rcases List.mem_append.mp hz with q | q
          · exact h3 z q
          · have : z = u := by simpa using q
            rw [this]; exact h
  exact key cs.reverse cs (by simp)
/-- the last one, told -/
theorem val_of_split {W : Int → List (κ × β)} {x : κ} {l1 l2 : List Int} {w : Int} {v : β} (h1 : get (W w) x = some v) (h2 : ∀ u ∈ l2, get (W u) x = none) : val W (l1 ++ w :: l2) x = some v := by
  have e : l1 ++ w :: l2 = (l1 ++ [w]) ++ l2 := by simp
  rw [e]
  unfold val
  rw [List.foldl_append]
  have h3 : (l1 ++ [w]).foldl (fun acc u => match get (W u) x with | some v => some v | none => acc) (none : Option β) = some v := by
    rw [List.foldl_append]
    simp only [List.foldl_cons, List.foldl_nil, h1]
  rw [h3]
  clear h3 e
  induction l2 with
  | nil => rfl
  | cons u r ih =>
    simp only [List.foldl_cons]
    rw [h2 u (by simp)]
    exact ih fun z hz => h2 z (by simp [hz])
theorem val_of_none {W : Int → List (κ × β)} {x : κ} {cs : List Int} (h : ∀ u ∈ cs, get (W u) x = none) : val W cs x = none := by
  rcases last_split W x cs with ⟨_, h2, _⟩ | ⟨l1, w, l2, v, h1, h2, _⟩
  · exact h2
  · have := h w (by rw [h1]; simp)
    rw [h2] at this
    cases this
end

/-! ### transactions on snapshots -/
inductive Step (ι : Type) where
  | rd (x : ι)
  | wr (x : ι) (n : Int)

structure Snap (ι : Type) where
  amounts : List (ι × Int)
  writers : List (ι × Int)
  moment : Nat
  total : Int
  writes : List (ι × Int)
  seen : List ι
  place : Nat

inductive Ev (ι : Type) where
  | rd (t : Int) (x : ι)
  | wr (t : Int) (x : ι)
  | commit (t : Int)
  | abort (t : Int)

structure Run (ι : Type) where
  amounts : List (ι × Int)
  writers : List (ι × Int)
  commits : List Int
  keys : List Int
  snap : Int → Snap ι
  over : List Int
  events : List (Ev ι)

section
variable {ι : Type} [DecidableEq ι]
def newSnap (am wr : List (ι × Int)) (m : Nat) : Snap ι := ⟨am, wr, m, 0, [], [], 0⟩
def stepS (s : Snap ι) : Step ι → Snap ι
  | .wr x n => { s with writes := put s.writes x (s.total + n), place := s.place + 1 }
  | .rd x => match get s.writes x with
    | some v => { s with total := s.total + v, place := s.place + 1 }
    | none => { s with total := s.total + (get s.amounts x).getD 0, seen := s.seen ++ [x], place := s.place + 1 }
def evOf (t : Int) : Step ι → Ev ι
  | .rd x => .rd t x
  | .wr x _ => .wr t x
def newRun : Run ι := ⟨[], [], [], [], fun _ => newSnap [] [] 0, [], []⟩
def setSnap (f : Int → Snap ι) (t : Int) (s : Snap ι) : Int → Snap ι := fun u => if u = t then s else f u
def ownR (t : Int) (R : Run ι) : Run ι :=
  if t ∈ R.keys then R else { R with keys := R.keys ++ [t], snap := setSnap R.snap t (newSnap R.amounts R.writers R.commits.length) }
def stepR (t : Int) (st : Step ι) (R : Run ι) : Run ι :=
  { R with snap := setSnap R.snap t (stepS (R.snap t) st), events := R.events ++ [evOf t st] }
def late (R : Run ι) (t : Int) : Bool := (R.commits.drop (R.snap t).moment).any fun u => (R.snap u).writes.any fun p => (get (R.snap t).writes p.1).isSome
def abortR (t : Int) (R : Run ι) : Run ι := { R with over := R.over ++ [t], events := R.events ++ [.abort t] }
def commitR (t : Int) (R : Run ι) : Run ι :=
  { R with over := R.over ++ [t], amounts := putAll R.amounts (R.snap t).writes, writers := putAll R.writers ((R.snap t).writes.map fun p => (p.1, t)), commits := R.commits ++ [t], events := R.events ++ [.commit t] }
def endR (t : Int) (R : Run ι) : Run ι := if late R t then abortR t R else commitR t R
def script (ss : List (List (Step ι))) (t : Int) : List (Step ι) := ss.getD (t - 1).toNat []
/-- behind own(t) -/
def actR (ss : List (List (Step ι))) (t : Int) (R : Run ι) : Run ι :=
  match (script ss t)[(R.snap t).place]? with
  | none => endR t R
  | some st => stepR t st R
def turnR (ss : List (List (Step ι))) (t : Int) (R : Run ι) : Run ι := if t ∈ R.over then R else actR ss t (ownR t R)

/-- what stays true -/
structure RInv (ss : List (List (Step ι))) (R : Run ι) : Prop where
  ndC : R.commits.Nodup
  ndO : R.over.Nodup
  ndK : R.keys.Nodup
  CO : ∀ t ∈ R.commits, t ∈ R.over
  OK : ∀ t ∈ R.over, t ∈ R.keys
  KN : ∀ t ∈ R.keys, 1 ≤ t ∧ t ≤ (ss.length : Int)
  am : ∀ x, get R.amounts x = val (fun u => (R.snap u).writes) R.commits x
  wr : ∀ x, get R.writers x = who (fun u => (R.snap u).writes) R.commits x
  mo : ∀ t ∈ R.keys, (R.snap t).moment ≤ R.commits.length
  sam : ∀ t ∈ R.keys, ∀ x, get (R.snap t).amounts x = val (fun u => (R.snap u).writes) (R.commits.take (R.snap t).moment) x
  swr : ∀ t ∈ R.keys, ∀ x, get (R.snap t).writers x = who (fun u => (R.snap u).writes) (R.commits.take (R.snap t).moment) x
  pl : ∀ t ∈ R.keys, (R.snap t).place ≤ (script ss t).length
  ex : ∀ t ∈ R.keys, R.snap t = ((script ss t).take (R.snap t).place).foldl stepS (newSnap (R.snap t).amounts (R.snap t).writers (R.snap t).moment)
  done : ∀ t ∈ R.over, (R.snap t).place = (script ss t).length
  cm : ∀ t ∈ R.commits, (R.snap t).moment ≤ R.commits.idxOf t
  nw : ∀ t ∈ R.keys, ((R.snap t).writes.map (·.1)).Nodup
  na : (R.amounts.map (·.1)).Nodup
  nr : (R.writers.map (·.1)).Nodup
  evs : (R.events.filterMap fun e => match e with | .commit t => some t | _ => none) = R.commits

theorem rinv_new (ss : List (List (Step ι))) : RInv ss (newRun : Run ι) where
  ndC := List.nodup_nil
  ndO := List.nodup_nil
  ndK := List.nodup_nil
  CO := fun _ h => nomatch h
  OK := fun _ h => nomatch h
  KN := fun _ h => nomatch h
  am := fun _ => rfl
  wr := fun _ => rfl
  mo := fun _ h => nomatch h
  sam := fun _ h => nomatch h
  swr := fun _ h => nomatch h
  pl := fun _ h => nomatch h
  ex := fun _ h => nomatch h
  done := fun _ h => nomatch h
  cm := fun _ h => nomatch h
  nw := fun _ h => nomatch h
  na := List.nodup_nil
  nr := List.nodup_nil
  evs := rfl

theorem setSnap_same (f : Int → Snap ι) (t : Int) (s : Snap ι) : setSnap f t s t = s := by simp [setSnap]
theorem setSnap_ne (f : Int → Snap ι) {t u : Int} (s : Snap ι) (h : u ≠ t) : setSnap f t s u = f u := by simp [setSnap, h]

theorem ownR_in {t : Int} {R : Run ι} (h : t ∈ R.keys) : ownR t R = R := by simp [ownR, h]
theorem ownR_keys {t : Int} {R : Run ι} : t ∈ (ownR t R).keys := by
  unfold ownR
  split
  · assumption
  · simp
theorem ownR_idem {t : Int} {R : Run ι} : ownR t (ownR t R) = ownR t R := ownR_in ownR_keys
theorem ownR_over {t : Int} {R : Run ι} : (ownR t R).over = R.over := by unfold ownR; split <;> rfl
theorem ownR_commits {t : Int} {R : Run ι} : (ownR t R).commits = R.commits := by unfold ownR; split <;> rfl
theorem ownR_events {t : Int} {R : Run ι} : (ownR t R).events = R.events := by unfold ownR; split <;> rfl
theorem ownR_amounts {t : Int} {R : Run ι} : (ownR t R).amounts = R.amounts := by unfold ownR; split <;> rfl
theorem ownR_writers {t : Int} {R : Run ι} : (ownR t R).writers = R.writers := by unfold ownR; split <;> rfl

theorem RInv.own {ss : List (List (Step ι))} {R : Run ι} (I : RInv ss R) {t : Int} (ht : 1 ≤ t ∧ t ≤ (ss.length : Int)) : RInv ss (ownR t R) := by
  unfold ownR
  split
  · exact I
  · rename_i hn
    have ne : ∀ u ∈ R.keys, u ≠ t := fun u hu q => hn (q ▸ hu)
    have neC : ∀ u ∈ R.commits, u ≠ t := fun u hu => ne u (I.OK u (I.CO u hu))
    have sn : ∀ u ∈ R.keys, setSnap R.snap t (newSnap R.amounts R.writers R.commits.length) u = R.snap u := fun u hu => setSnap_ne _ _ (ne u hu)
    have sc : ∀ cs : List Int, (∀ u ∈ cs, u ∈ R.commits) → ∀ x, val (fun u => (setSnap R.snap t (newSnap R.amounts R.writers R.commits.length) u).writes) cs x = val (fun u => (R.snap u).writes) cs x := fun cs hc x => val_congr fun u hu => by
      rw [setSnap_ne _ _ (neC u (hc u hu))]
    have wc : ∀ cs : List Int, (∀ u ∈ cs, u ∈ R.commits) → ∀ x, who (fun u => (setSnap R.snap t (newSnap R.amounts R.writers R.commits.length) u).writes) cs x = who (fun u => (R.snap u).writes) cs x := fun cs hc x => who_congr fun u hu => by
      rw [setSnap_ne _ _ (neC u (hc u hu))]
    have tk : ∀ n, ∀ u ∈ R.commits.take n, u ∈ R.commits := fun n u hu => List.mem_of_mem_take hu
    refine ⟨I.ndC, I.ndO, ?_, I.CO, fun u hu => List.mem_append_left _ (I.OK u hu), fun u hu => ?_, fun x => ?_, fun x => ?_, fun u hu => ?_, fun u hu x => ?_, fun u hu x => ?_, fun u hu => ?_, fun u hu => ?_, fun u hu => ?_, fun u hu => ?_, fun u hu => ?_, I.na, I.nr, I.evs⟩
    · show (R.keys ++ [t]).Nodup
      exact List.nodup_append.mpr ⟨I.ndK, by simp, fun a ha b hb q => by
        have : b = t := by simpa using hb
        exact hn (this ▸ q ▸ ha)⟩
    · rcases List.mem_append.mp hu with q | q
      · exact I.KN u q
      · have : u = t := by simpa using q
        rw [this]; exact ht
    · rw [sc _ fun _ h => h]; exact I.am x
    · rw [wc _ fun _ h => h]; exact I.wr x
    all_goals dsimp only at hu ⊢
    · rcases List.mem_append.mp hu with q | q
      · rw [sn u q]; exact I.mo u q
      · have : u = t := by simpa using q
        subst this
        rw [setSnap_same]; exact Nat.le_refl _
    · rcases List.mem_append.mp hu with q | q
      · rw [sn u q, sc _ (tk _)]; exact I.sam u q x
      · have : u = t := by simpa using q
        subst this
        rw [setSnap_same, sc _ (tk _)]
        show get R.amounts x = val _ (R.commits.take R.commits.length) x
        rw [List.take_length]; exact I.am x
    · rcases List.mem_append.mp hu with q | q
      · rw [sn u q, wc _ (tk _)]; exact I.swr u q x
      · have : u = t := by simpa using q
        subst this
        rw [setSnap_same, wc _ (tk _)]
        show get R.writers x = who _ (R.commits.take R.commits.length) x
        rw [List.take_length]; exact I.wr x
    · rcases List.mem_append.mp hu with q | q
      · rw [sn u q]; exact I.pl u q
      · have : u = t := by simpa using q
        subst this
        rw [setSnap_same]; exact Nat.zero_le _
    · rcases List.mem_append.mp hu with q | q
      · rw [sn u q]; exact I.ex u q
      · have : u = t := by simpa using q
        subst this
        rw [setSnap_same]; rfl
    · rw [sn u (I.OK u hu)]; exact I.done u hu
    · rw [sn u (I.OK u (I.CO u hu))]; exact I.cm u hu
    · rcases List.mem_append.mp hu with q | q
      · rw [sn u q]; exact I.nw u q
      · have : u = t := by simpa using q
        subst this
        rw [setSnap_same]; exact List.nodup_nil

theorem stepS_place (s : Snap ι) (st : Step ι) : (stepS s st).place = s.place + 1 := by
  cases st with
  | wr x n => rfl
  | rd x => simp only [stepS]; split <;> rfl
theorem stepS_base (s : Snap ι) (st : Step ι) : (stepS s st).amounts = s.amounts ∧ (stepS s st).writers = s.writers ∧ (stepS s st).moment = s.moment := by
  cases st with
  | wr x n => exact ⟨rfl, rfl, rfl⟩
  | rd x => simp only [stepS]; split <;> exact ⟨rfl, rfl, rfl⟩
theorem stepS_nw (s : Snap ι) (st : Step ι) (h : (s.writes.map (·.1)).Nodup) : ((stepS s st).writes.map (·.1)).Nodup := by
  cases st with
  | wr x n => exact put_nodup _ _ h
  | rd x => simp only [stepS]; split <;> exact h
theorem stepS_len (s : Snap ι) (st : Step ι) : (stepS s st).writes.length ≤ s.writes.length + 1 ∧ (stepS s st).seen.length ≤ s.seen.length + 1 := by
  cases st with
  | wr x n => exact ⟨put_len _ _ _, Nat.le_succ _⟩
  | rd x =>
    simp only [stepS]
    split
    · exact ⟨Nat.le_succ _, Nat.le_succ _⟩
    · exact ⟨Nat.le_succ _, by simp⟩

theorem RInv.step {ss : List (List (Step ι))} {R : Run ι} (I : RInv ss R) {t : Int} {st : Step ι} (hk : t ∈ R.keys) (ho : t ∉ R.over) (hs : (script ss t)[(R.snap t).place]? = some st) : RInv ss (stepR t st R) := by
  have neO : ∀ u ∈ R.over, u ≠ t := fun u hu q => ho (q ▸ hu)
  have neC : ∀ u ∈ R.commits, u ≠ t := fun u hu => neO u (I.CO u hu)
  have sc : ∀ cs : List Int, (∀ u ∈ cs, u ∈ R.commits) → ∀ x, val (fun u => (setSnap R.snap t (stepS (R.snap t) st) u).writes) cs x = val (fun u => (R.snap u).writes) cs x := fun cs hc x => val_congr fun u hu => by
    rw [setSnap_ne _ _ (neC u (hc u hu))]
  have wc : ∀ cs : List Int, (∀ u ∈ cs, u ∈ R.commits) → ∀ x, who (fun u => (setSnap R.snap t (stepS (R.snap t) st) u).writes) cs x = who (fun u => (R.snap u).writes) cs x := fun cs hc x => who_congr fun u hu => by
    rw [setSnap_ne _ _ (neC u (hc u hu))]
  have tk : ∀ n, ∀ u ∈ R.commits.take n, u ∈ R.commits := fun n u hu => List.mem_of_mem_take hu
  have hb := stepS_base (R.snap t) st
  have hlt : (R.snap t).place < (script ss t).length := (List.getElem?_eq_some_iff.mp hs).1
  unfold stepR
  refine ⟨I.ndC, I.ndO, I.ndK, I.CO, I.OK, I.KN, fun x => ?_, fun x => ?_, fun u hu => ?_, fun u hu x => ?_, fun u hu x => ?_, fun u hu => ?_, fun u hu => ?_, fun u hu => ?_, fun u hu => ?_, fun u hu => ?_, I.na, I.nr, ?_⟩
  · rw [sc _ fun _ h => h]; exact I.am x
  · rw [wc _ fun _ h => h]; exact I.wr x
  all_goals dsimp only
  · by_cases q : u = t
    · subst q; rw [setSnap_same, hb.2.2]; exact I.mo u hu
    · rw [setSnap_ne _ _ q]; exact I.mo u hu
  · by_cases q : u = t
    · subst q; rw [setSnap_same, hb.1, hb.2.2, sc _ (tk _)]; exact I.sam u hu x
    · rw [setSnap_ne _ _ q, sc _ (tk _)]; exact I.sam u hu x
  · by_cases q : u = t
    · subst q; rw [setSnap_same, hb.2.1, hb.2.2, wc _ (tk _)]; exact I.swr u hu x
    · rw [setSnap_ne _ _ q, wc _ (tk _)]; exact I.swr u hu x
  · by_cases q : u = t
    · subst q; rw [setSnap_same, stepS_place]; exact hlt
    · rw [setSnap_ne _ _ q]; exact I.pl u hu
  · by_cases q : u = t
    · subst q
      rw [setSnap_same, stepS_place, hb.1, hb.2.1, hb.2.2]
      have e : (script ss u).take ((R.snap u).place + 1) = (script ss u).take (R.snap u).place ++ [st] := by
        rw [List.take_add_one, hs]; rfl
      rw [e, List.foldl_append, ← I.ex u hu]
      rfl
    · rw [setSnap_ne _ _ q]; exact I.ex u hu
  · rw [setSnap_ne _ _ (neO u hu)]; exact I.done u hu
  · rw [setSnap_ne _ _ (neC u hu)]; exact I.cm u hu
  · by_cases q : u = t
    · subst q; rw [setSnap_same]; exact stepS_nw _ _ (I.nw u hu)
    · rw [setSnap_ne _ _ q]; exact I.nw u hu
  · rw [List.filterMap_append, I.evs]
    cases st <;> simp [evOf]

theorem RInv.finish {ss : List (List (Step ι))} {R : Run ι} (I : RInv ss R) {t : Int} (hk : t ∈ R.keys) (ho : t ∉ R.over) (hs : (script ss t)[(R.snap t).place]? = none) : RInv ss (endR t R) := by
  have pe : (R.snap t).place = (script ss t).length := Nat.le_antisymm (I.pl t hk) (List.getElem?_eq_none_iff.mp hs)
  have hC : t ∉ R.commits := fun h => ho (I.CO t h)
  have ndO : (R.over ++ [t]).Nodup := List.nodup_append.mpr ⟨I.ndO, by simp, fun a ha b hb q => by
    have : b = t := by simpa using hb
    exact ho (this ▸ q ▸ ha)⟩
  have oK : ∀ u ∈ R.over ++ [t], u ∈ R.keys := fun u hu => by
    rcases List.mem_append.mp hu with q | q
    · exact I.OK u q
    · have : u = t := by simpa using q
      rw [this]; exact hk
  have dn : ∀ u ∈ R.over ++ [t], (R.snap u).place = (script ss u).length := fun u hu => by
    rcases List.mem_append.mp hu with q | q
    · exact I.done u q
    · have : u = t := by simpa using q
      rw [this]; exact pe
  unfold endR
  split
  · unfold abortR
    refine ⟨I.ndC, ndO, I.ndK, fun u hu => List.mem_append_left _ (I.CO u hu), oK, I.KN, I.am, I.wr, I.mo, I.sam, I.swr, I.pl, I.ex, dn, I.cm, I.nw, I.na, I.nr, ?_⟩
    show List.filterMap _ (R.events ++ [Ev.abort t]) = R.commits
    rw [List.filterMap_append, I.evs]
    simp
  · unfold commitR
    have nwt := I.nw t hk
    have ndW : (((R.snap t).writes.map fun p => (p.1, t)).map (·.1)).Nodup := by
      rw [List.map_map]
      exact nwt
    have gW : ∀ x, get ((R.snap t).writes.map fun p => (p.1, t)) x = (get (R.snap t).writes x).map fun _ => t := by
      intro x
      generalize (R.snap t).writes = l
      induction l with
      | nil => rfl
      | cons p r ih =>
        rw [List.map_cons, get_cons, get_cons, ih]
        by_cases h : p.1 = x <;> simp [h]
    have ndC : (R.commits ++ [t]).Nodup := List.nodup_append.mpr ⟨I.ndC, by simp, fun a ha b hb q => by
      have : b = t := by simpa using hb
      exact hC (this ▸ q ▸ ha)⟩
    have tk : ∀ u ∈ R.keys, (R.commits ++ [t]).take (R.snap u).moment = R.commits.take (R.snap u).moment := fun u hu => List.take_append_of_le_length (I.mo u hu)
    refine ⟨ndC, ndO, I.ndK, fun u hu => ?_, oK, I.KN, fun x => ?_, fun x => ?_, fun u hu => ?_, fun u hu x => ?_, fun u hu x => ?_, I.pl, I.ex, dn, fun u hu => ?_, I.nw, ?_, ?_, ?_⟩
    · show u ∈ R.over ++ [t]
      rcases List.mem_append.mp hu with q | q
      · exact List.mem_append_left _ (I.CO u q)
      · exact List.mem_append_right _ q
    · show get (putAll R.amounts (R.snap t).writes) x = val (fun u => (R.snap u).writes) (R.commits ++ [t]) x
      rw [val_snoc, get_putAll x _ _ nwt, I.am x]
    · show get (putAll R.writers ((R.snap t).writes.map fun p => (p.1, t))) x = who (fun u => (R.snap u).writes) (R.commits ++ [t]) x
      rw [who_snoc, get_putAll x _ _ ndW, gW, I.wr x]
      cases get (R.snap t).writes x <;> rfl
    · show (R.snap u).moment ≤ (R.commits ++ [t]).length
      have := I.mo u hu
      simp; omega
    · show get (R.snap u).amounts x = val (fun u => (R.snap u).writes) ((R.commits ++ [t]).take (R.snap u).moment) x
      rw [tk u hu]; exact I.sam u hu x
    · show get (R.snap u).writers x = who (fun u => (R.snap u).writes) ((R.commits ++ [t]).take (R.snap u).moment) x
      rw [tk u hu]; exact I.swr u hu x
    · show (R.snap u).moment ≤ (R.commits ++ [t]).idxOf u
      rcases List.mem_append.mp hu with q | q
      · rw [List.idxOf_append, if_pos q]; exact I.cm u q
      · have e : u = t := by simpa using q
        subst e
        rw [List.idxOf_append, if_neg hC]
        have := I.mo u hk
        simp; omega
    · exact putAll_nodup _ I.na
    · exact putAll_nodup _ I.nr
    · show List.filterMap _ (R.events ++ [Ev.commit t]) = R.commits ++ [t]
      rw [List.filterMap_append, I.evs]
      simp

theorem RInv.turn {ss : List (List (Step ι))} {R : Run ι} (I : RInv ss R) {t : Int} (ht : 1 ≤ t ∧ t ≤ (ss.length : Int)) : RInv ss (turnR ss t R) := by
  unfold turnR
  split
  · exact I
  · rename_i ho
    have I' := I.own ht
    have ho' : t ∉ (ownR t R).over := by rw [ownR_over]; exact ho
    unfold actR
    cases h : (script ss t)[((ownR t R).snap t).place]? with
    | none => exact I'.finish ownR_keys ho' h
    | some st => exact I'.step ownR_keys ho' h
end
end Ok
namespace Ok
section
variable {ι : Type} [DecidableEq ι]
/-! ### dependencies -/
inductive Kd where | write | read | miss
  deriving DecidableEq

def hasW (R : Run ι) (t u : Int) : Bool := (R.snap t).writes.any (fun p => (get (R.snap u).writes p.1).isSome) && decide (R.commits.idxOf t < R.commits.idxOf u)
def hasR (R : Run ι) (t u : Int) : Bool := (R.snap u).seen.any fun x => decide (get (R.snap u).writers x = some t)
def hasM (R : Run ι) (t u : Int) : Bool := decide ((R.snap t).moment ≤ R.commits.idxOf u) && (R.snap t).seen.any fun x => (get (R.snap u).writes x).isSome
def kinds (R : Run ι) (t u : Int) : List Kd := (if hasW R t u then [.write] else []) ++ (if hasR R t u then [.read] else []) ++ (if hasM R t u then [.miss] else [])
def depsAt (R : Run ι) (t u : Int) : List (Int × Int × Kd) := if t = u then [] else (kinds R t u).map fun k => (t, u, k)
def deps (R : Run ι) : List (Int × Int × Kd) := R.commits.flatMap fun t => R.commits.flatMap fun u => depsAt R t u

theorem mem_kinds {R : Run ι} {t u : Int} {k : Kd} : k ∈ kinds R t u ↔ (k = .write ∧ hasW R t u = true) ∨ (k = .read ∧ hasR R t u = true) ∨ (k = .miss ∧ hasM R t u = true) := by
  unfold kinds
  simp only [List.mem_append]
  cases hasW R t u <;> cases hasR R t u <;> cases hasM R t u <;> cases k <;> simp
theorem mem_deps {R : Run ι} {t u : Int} {k : Kd} : (t, u, k) ∈ deps R ↔ t ∈ R.commits ∧ u ∈ R.commits ∧ t ≠ u ∧ k ∈ kinds R t u := by
  unfold deps depsAt
  simp only [List.mem_flatMap]
  constructor
  · rintro ⟨a, ha, b, hb, h⟩
    by_cases e : a = b
    · simp [e] at h
    · rw [if_neg e] at h
      obtain ⟨k', hk, q⟩ := List.mem_map.mp h
      simp only [Prod.mk.injEq] at q
      obtain ⟨rfl, rfl, rfl⟩ := q
      exact ⟨ha, hb, e, hk⟩
  · rintro ⟨ha, hb, e, hk⟩
    exact ⟨t, ha, u, hb, by rw [if_neg e]; exact List.mem_map.mpr ⟨k, hk, rfl⟩⟩

theorem any_writes {W : List (ι × Int)} {p : ι → Bool} : (W.any fun q => p q.1) = true ↔ ∃ x, (get W x).isSome = true ∧ p x = true := by
  rw [List.any_eq_true]
  constructor
  · rintro ⟨q, hq, h⟩
    exact ⟨q.1, get_isSome.mpr (List.mem_map.mpr ⟨q, hq, rfl⟩), h⟩
  · rintro ⟨x, hx, h⟩
    obtain ⟨q, hq, e⟩ := List.mem_map.mp (get_isSome.mp hx)
    exact ⟨q, hq, by rw [e]; exact h⟩

theorem idx_of_take {l : List Int} {n : Nat} {a : Int} (h : a ∈ l.take n) : l.idxOf a = (l.take n).idxOf a := by
  have e : l.take n ++ l.drop n = l := List.take_append_drop n l
  have : (l.take n ++ l.drop n).idxOf a = (l.take n).idxOf a := by rw [List.idxOf_append, if_pos h]
  rw [e] at this
  exact this
theorem mem_take_idx {l : List Int} {n : Nat} {a : Int} (h : a ∈ l.take n) : l.idxOf a < n := by
  have h1 : (l.take n).idxOf a < (l.take n).length := List.idxOf_lt_length_of_mem h
  have h2 : l.idxOf a = (l.take n).idxOf a := by
    have e : l.take n ++ l.drop n = l := List.take_append_drop n l
    have : (l.take n ++ l.drop n).idxOf a = (l.take n).idxOf a := by rw [List.idxOf_append, if_pos h]
    rw [e] at this
    exact this
  rw [List.length_take] at h1
  omega
theorem idx_take {l : List Int} {n : Nat} {a : Int} (h : a ∈ l) (hn : l.idxOf a < n) : a ∈ l.take n := by
  have hl := List.idxOf_lt_length_of_mem h
  have e : l[l.idxOf a] = a := List.getElem_idxOf hl
  have : (l.take n)[l.idxOf a]'(by rw [List.length_take]; omega) = a := by rw [List.getElem_take]; exact e
  rw [← this]
  exact List.getElem_mem _
theorem idx_split {l1 l2 : List Int} {w u : Int} (hn : (l1 ++ w :: l2).Nodup) (hu : u ∈ l1 ++ w :: l2) (hne : u ≠ w) (hn2 : u ∉ l2) : (l1 ++ w :: l2).idxOf u < (l1 ++ w :: l2).idxOf w := by
  have hw : w ∉ l1 := fun h => (List.nodup_append.mp hn).2.2 w h w (by simp) rfl
  have h1 : u ∈ l1 := by
    rcases List.mem_append.mp hu with q | q
    · exact q
    · rcases List.mem_cons.mp q with q | q
      · exact absurd q hne
      · exact absurd q hn2
  rw [List.idxOf_append, if_pos h1, List.idxOf_append, if_neg hw, List.idxOf_cons_self]
  have := List.idxOf_lt_length_of_mem h1
  omega

variable {ss : List (List (Step ι))} {R : Run ι}
/-- what is not a miss goes with the order of the commits -/
theorem dep_lt (I : RInv ss R) {t u : Int} {k : Kd} (h : (t, u, k) ∈ deps R) (hk : k ≠ .miss) : R.commits.idxOf t < R.commits.idxOf u := by
  obtain ⟨ht, hu, hne, hm⟩ := mem_deps.mp h
  rcases mem_kinds.mp hm with ⟨_, q⟩ | ⟨_, q⟩ | ⟨e, _⟩
  · unfold hasW at q
    rw [Bool.and_eq_true] at q
    exact of_decide_eq_true q.2
  · unfold hasR at q
    obtain ⟨x, hx, e⟩ := List.any_eq_true.mp q
    have e := of_decide_eq_true e
    have hK := I.OK u (I.CO u hu)
    rw [I.swr u hK x] at e
    have h1 : t ∈ R.commits.take (R.snap u).moment := by
      rcases last_split (fun u => (R.snap u).writes) x (R.commits.take (R.snap u).moment) with ⟨_, _, h3⟩ | ⟨l1, w, l2, v, h1, _, _, _, h5⟩
      · rw [h3] at e; cases e
      · rw [h5] at e
        cases e
        rw [h1]; simp
    have h2 := mem_take_idx h1
    have h3 := I.cm u hu
    omega
  · exact absurd e hk

/-- the pairs of the dependencies -/
def prs (R : Run ι) : List (Int × Int) := (deps R).map fun d => (d.1, d.2.1)
theorem mem_prs {R : Run ι} {t u : Int} : (t, u) ∈ prs R ↔ ∃ k, (t, u, k) ∈ deps R := by
  unfold prs
  constructor
  · intro h
    obtain ⟨d, hd, e⟩ := List.mem_map.mp h
    obtain ⟨a, b, k⟩ := d
    simp only [Prod.mk.injEq] at e
    obtain ⟨rfl, rfl⟩ := e
    exact ⟨k, hd⟩
  · rintro ⟨k, h⟩
    exact List.mem_map.mpr ⟨_, h, rfl⟩
theorem prs_in {t u : Int} (h : (t, u) ∈ prs R) : t ∈ R.commits ∧ u ∈ R.commits ∧ t ≠ u := by
  obtain ⟨k, hk⟩ := mem_prs.mp h
  obtain ⟨h1, h2, h3, _⟩ := mem_deps.mp hk
  exact ⟨h1, h2, h3⟩
theorem pr_w {t u : Int} (ht : t ∈ R.commits) (hu : u ∈ R.commits) (hne : t ≠ u) {x : ι} (h1 : (get (R.snap t).writes x).isSome = true) (h2 : (get (R.snap u).writes x).isSome = true) (hi : R.commits.idxOf t < R.commits.idxOf u) : (t, u) ∈ prs R := by
  refine mem_prs.mpr ⟨.write, mem_deps.mpr ⟨ht, hu, hne, mem_kinds.mpr (.inl ⟨rfl, ?_⟩)⟩⟩
  unfold hasW
  rw [Bool.and_eq_true]
  exact ⟨(any_writes (p := fun y => (get (R.snap u).writes y).isSome)).mpr ⟨x, h1, h2⟩, decide_eq_true hi⟩
theorem pr_r {t u : Int} (ht : t ∈ R.commits) (hu : u ∈ R.commits) (hne : t ≠ u) {x : ι} (hx : x ∈ (R.snap u).seen) (h : get (R.snap u).writers x = some t) : (t, u) ∈ prs R := by
  refine mem_prs.mpr ⟨.read, mem_deps.mpr ⟨ht, hu, hne, mem_kinds.mpr (.inr (.inl ⟨rfl, ?_⟩))⟩⟩
  unfold hasR
  exact List.any_eq_true.mpr ⟨x, hx, decide_eq_true h⟩
theorem pr_m {t u : Int} (ht : t ∈ R.commits) (hu : u ∈ R.commits) (hne : t ≠ u) {x : ι} (hx : x ∈ (R.snap t).seen) (h : (get (R.snap u).writes x).isSome = true) (hm : (R.snap t).moment ≤ R.commits.idxOf u) : (t, u) ∈ prs R := by
  refine mem_prs.mpr ⟨.miss, mem_deps.mpr ⟨ht, hu, hne, mem_kinds.mpr (.inr (.inr ⟨rfl, ?_⟩))⟩⟩
  unfold hasM
  rw [Bool.and_eq_true]
  exact ⟨decide_eq_true hm, List.any_eq_true.mpr ⟨x, hx, h⟩⟩

/-! ### the serial run -/
def stepW (t : Int) (st : List (ι × Int) × List (Int × Int)) : Step ι → List (ι × Int) × List (Int × Int)
  | .rd x => (st.1, put st.2 t ((get st.2 t).getD 0 + (get st.1 x).getD 0))
  | .wr x n => (put st.1 x ((get st.2 t).getD 0 + n), st.2)
def serialOne (ss : List (List (Step ι))) (t : Int) (st : List (ι × Int) × List (Int × Int)) : List (ι × Int) × List (Int × Int) := (script ss t).foldl (stepW t) st
def serialR (ss : List (List (Step ι))) (order : List Int) : List (ι × Int) × List (Int × Int) := order.foldl (fun st t => serialOne ss t st) ([], [])

/-- a script run on A does as it did on its snapshot, if what it saw is the same -/
theorem run_same (t : Int) (A : List (ι × Int)) (S : List (Int × Int)) (hS : get S t = none) : ∀ (sts : List (Step ι)) (am wr : List (ι × Int)) (m : Nat),
    (∀ x ∈ (sts.foldl stepS (newSnap am wr m)).seen, get A x = get am x) →
    (∀ x, get (sts.foldl (stepW t) (A, S)).1 x = match get (sts.foldl stepS (newSnap am wr m)).writes x with | some v => some v | none => get A x) ∧
    ((get (sts.foldl (stepW t) (A, S)).2 t).getD 0 = (sts.foldl stepS (newSnap am wr m)).total) ∧
    (∀ u, u ≠ t → get (sts.foldl (stepW t) (A, S)).2 u = get S u) ∧ (sts.foldl stepS (newSnap am wr m)).amounts = am := by
  intro sts
  have key : ∀ (r sts : List (Step ι)), r = sts.reverse → ∀ (am wr : List (ι × Int)) (m : Nat),
    (∀ x ∈ (sts.foldl stepS (newSnap am wr m)).seen, get A x = get am x) →
    (∀ x, get (sts.foldl (stepW t) (A, S)).1 x = match get (sts.foldl stepS (newSnap am wr m)).writes x with | some v => some v | none => get A x) ∧
    ((get (sts.foldl (stepW t) (A, S)).2 t).getD 0 = (sts.foldl stepS (newSnap am wr m)).total) ∧
    (∀ u, u ≠ t → get (sts.foldl (stepW t) (A, S)).2 u = get S u) ∧ (sts.foldl stepS (newSnap am wr m)).amounts = am := by
    intro r
    induction r with
    | nil =>
      intro sts e am wr m _
      have : sts = [] := by simpa using e.symm
      subst this
      refine ⟨fun x => rfl, ?_, fun u _ => rfl, rfl⟩
      show (get S t).getD 0 = 0
      rw [hS]; rfl
    | cons st r ih =>
      intro sts e am wr m hs
      have e' : sts = r.reverse ++ [st] := by
        have := congrArg List.reverse e
        simpa using this.symm
      subst e'
      rw [List.foldl_append, List.foldl_append] at *
      simp only [List.foldl_cons, List.foldl_nil] at *
      have ih' := ih r.reverse (by simp) am wr m
      generalize r.reverse.foldl stepS (newSnap am wr m) = s at *
      generalize r.reverse.foldl (stepW t) (A, S) = z at *
      cases st with
      | wr x n =>
        obtain ⟨h1, h2, h3, h4⟩ := ih' hs
        refine ⟨fun y => ?_, h2, h3, h4⟩
        show get (put z.1 x ((get z.2 t).getD 0 + n)) y = match get (put s.writes x (s.total + n)) y with | some v => some v | none => get A y
        rw [get_put, get_put, h2, h1 y]
        by_cases q : y = x <;> simp [q]
      | rd x =>
        simp only [stepS] at hs ⊢
        cases hw : get s.writes x with
        | some v =>
          rw [hw] at hs
          obtain ⟨h1, h2, h3, h4⟩ := ih' hs
          refine ⟨h1, ?_, fun u hu => ?_, h4⟩
          · show (get (put z.2 t ((get z.2 t).getD 0 + (get z.1 x).getD 0)) t).getD 0 = s.total + v
            rw [get_put, h1 x, hw, h2]
            simp
          · show get (put z.2 t _) u = get S u
            rw [get_put, if_neg hu]; exact h3 u hu
        | none =>
          rw [hw] at hs
          obtain ⟨h1, h2, h3, h4⟩ := ih' fun y hy => hs y (List.mem_append_left _ hy)
          have hx : get A x = get am x := hs x (List.mem_append_right _ (by simp))
          refine ⟨h1, ?_, fun u hu => ?_, h4⟩
          · show (get (put z.2 t ((get z.2 t).getD 0 + (get z.1 x).getD 0)) t).getD 0 = s.total + (get s.amounts x).getD 0
            rw [get_put, h1 x, hw, h2, h4, hx]
            simp
          · show get (put z.2 t _) u = get S u
            rw [get_put, if_neg hu]; exact h3 u hu
  exact key sts.reverse sts rfl

/-- THE LAW: by an order that all pairs go with, the serial run has the values of the snapshot run -/
theorem serial_same (I : RInv ss R) {order : List Int} (hp : order.Perm R.commits) (ht : Topo (prs R) order) (x : ι) : get (serialR ss order).1 x = get R.amounts x := by
  have nd : order.Nodup := hp.nodup_iff.mpr I.ndC
  have mem : ∀ t, t ∈ order ↔ t ∈ R.commits := fun t => hp.mem_iff
  -- behind a part of the order
  have part : ∀ (r pre post : List Int), r = pre.reverse → order = pre ++ post → (∀ x, get (serialR ss pre).1 x = val (fun u => (R.snap u).writes) pre x) ∧ ∀ u, u ∉ pre → get (serialR ss pre).2 u = none := by
    intro r
    induction r with
    | nil =>
      intro pre post e _
      have : pre = [] := by simpa using e.symm
      subst this
      exact ⟨fun _ => rfl, fun _ _ => rfl⟩
    | cons t r ih =>
      intro pre post e ho
      have e' : pre = r.reverse ++ [t] := by
        have := congrArg List.reverse e
        simpa using this.symm
      subst e'
      have ho' : order = r.reverse ++ t :: post := by rw [ho]; simp
      obtain ⟨h1, h2⟩ := ih r.reverse (t :: post) (by simp) ho'
      have hser : serialR ss (r.reverse ++ [t]) = serialOne ss t (serialR ss r.reverse) := by
        unfold serialR
        rw [List.foldl_append]
        rfl
      have nd2 := nd
      rw [ho'] at nd2
      have htn : t ∉ r.reverse := fun h => (List.nodup_append.mp nd2).2.2 t h t (by simp) rfl
      have htC : t ∈ R.commits := (mem t).mp (by rw [ho']; simp)
      have htK := I.OK t (I.CO t htC)
      have hex := I.ex t htK
      rw [I.done t (I.CO t htC), List.take_length] at hex
      -- what t saw stands there
      have saw : ∀ x ∈ (R.snap t).seen, get (serialR ss r.reverse).1 x = get (R.snap t).amounts x := by
        intro x hx
        rw [h1 x, I.sam t htK x]
        have topo := ht
        rw [ho'] at topo
        have inC : ∀ w ∈ r.reverse, w ∈ R.commits := fun w hw => (mem w).mp (by rw [ho']; exact List.mem_append_left _ hw)
        have neT : ∀ w ∈ r.reverse, w ≠ t := fun w hw q => htn (q ▸ hw)
        -- no writer ahead of t in the order committed behind t's beginning
        have early : ∀ w ∈ r.reverse, (get (R.snap w).writes x).isSome = true → w ∈ R.commits.take (R.snap t).moment := fun w hw hx2 => by
          by_cases hm : (R.snap t).moment ≤ R.commits.idxOf w
          · exact absurd (pr_m htC (inC w hw) (Ne.symm (neT w hw)) hx hx2 hm) (topo.behind hw)
          · exact idx_take (inC w hw) (by omega)
        rcases last_split (fun u => (R.snap u).writes) x (R.commits.take (R.snap t).moment) with ⟨g1, g2, _⟩ | ⟨l1, w, l2, v, g1, g2, g3, g4, g5⟩
        · rw [g2]
          refine val_of_none fun w hw => ?_
          cases q : get (R.snap w).writes x with
          | none => rfl
          | some v =>
            have := g1 w (early w hw (by rw [q]; rfl))
            rw [q] at this
            cases this
        · rw [g4]
          have hwT : w ∈ R.commits.take (R.snap t).moment := by rw [g1]; simp
          have hwC : w ∈ R.commits := List.mem_of_mem_take hwT
          have hwt : w ≠ t := fun q => by
            have h3 := mem_take_idx hwT
            have h4 := I.cm t htC
            rw [q] at h3
            omega
          have hpw : (w, t) ∈ prs R := pr_r hwC htC hwt hx (by rw [I.swr t htK x]; exact g5)
          have hwp : w ∈ r.reverse := topo.ahead hpw (by rw [← ho']; exact (mem w).mpr hwC) hwt
          obtain ⟨m1, m2, em⟩ := List.append_of_mem hwp
          rw [em]
          refine val_of_split g2 fun u hu => ?_
          cases q : get (R.snap u).writes x with
          | none => rfl
          | some v' =>
            exfalso
            have hur : u ∈ r.reverse := by rw [em]; simp [hu]
            have hue := early u hur (by rw [q]; rfl)
            have ndr : (m1 ++ w :: m2).Nodup := by
              rw [← em]
              exact (List.nodup_append.mp nd2).1
            have huw : u ≠ w := fun z => (List.nodup_cons.mp (List.nodup_append.mp ndr).2.1).1 (z ▸ hu)
            -- u committed ahead of w
            have hul2 : u ∉ l2 := fun z => by
              have := g3 u z
              rw [q] at this
              cases this
            have ndT : (R.commits.take (R.snap t).moment).Nodup := I.ndC.sublist (List.take_sublist _ _)
            have hlt : (R.commits.take (R.snap t).moment).idxOf u < (R.commits.take (R.snap t).moment).idxOf w := by
              rw [g1] at ndT hue ⊢
              exact idx_split ndT hue huw hul2
            have hlt2 : R.commits.idxOf u < R.commits.idxOf w := by
              have a1 := idx_of_take hue
              have a2 := idx_of_take hwT
              omega
            have hpu : (u, w) ∈ prs R := pr_w (inC u hur) hwC huw (x := x) (by rw [q]; rfl) (by rw [g2]; rfl) hlt2
            -- but in the order w stands ahead of u
            have hord : order = m1 ++ w :: (m2 ++ t :: post) := by rw [ho', em]; simp
            have topo2 := ht
            rw [hord] at topo2
            have t3 := (List.pairwise_append.mp topo2).2.1
            exact (List.pairwise_cons.mp t3).1 u (List.mem_append_left _ hu) hpu
      obtain ⟨k1, k2, k3, k4⟩ := run_same t (serialR ss r.reverse).1 (serialR ss r.reverse).2 (h2 t htn) (script ss t) (R.snap t).amounts (R.snap t).writers (R.snap t).moment (by rw [← hex]; exact saw)
      rw [← hex] at k1 k2
      refine ⟨fun x => ?_, fun u hu => ?_⟩
      · rw [hser, val_snoc]
        show get (List.foldl (stepW t) (serialR ss r.reverse) (script ss t)).1 x = _
        rw [show serialR ss r.reverse = ((serialR ss r.reverse).1, (serialR ss r.reverse).2) from rfl, k1 x, h1 x]
        cases get (R.snap t).writes x <;> rfl
      · rw [hser]
        show get (List.foldl (stepW t) (serialR ss r.reverse) (script ss t)).2 u = _
        have hut : u ≠ t := fun q => hu (by rw [q]; simp)
        rw [show serialR ss r.reverse = ((serialR ss r.reverse).1, (serialR ss r.reverse).2) from rfl, k3 u hut]
        exact h2 u fun q => hu (List.mem_append_left _ q)
  obtain ⟨h1, _⟩ := part order.reverse order [] rfl (by simp)
  rw [h1 x, I.am x]
  -- the last writer is the same
  rcases last_split (fun u => (R.snap u).writes) x R.commits with ⟨g1, g2, _⟩ | ⟨l1, w, l2, v, g1, g2, g3, g4, g5⟩
  · rw [g2]
    exact val_of_none fun u hu => g1 u ((mem u).mp hu)
  · rw [g4]
    have hwC : w ∈ R.commits := by rw [g1]; simp
    obtain ⟨m1, m2, em⟩ := List.append_of_mem ((mem w).mpr hwC)
    rw [em]
    refine val_of_split g2 fun u hu => ?_
    cases q : get (R.snap u).writes x with
    | none => rfl
    | some v' =>
      exfalso
      have huo : u ∈ order := by rw [em]; simp [hu]
      have huC := (mem u).mp huo
      have nd2 := nd
      rw [em] at nd2
      have huw : u ≠ w := fun z => (List.nodup_cons.mp (List.nodup_append.mp nd2).2.1).1 (z ▸ hu)
      have hul2 : u ∉ l2 := fun z => by
        have := g3 u z
        rw [q] at this
        cases this
      have hlt : R.commits.idxOf u < R.commits.idxOf w := by
        have ndC := I.ndC
        rw [g1] at ndC huC ⊢
        exact idx_split ndC huC huw hul2
      have hpu : (u, w) ∈ prs R := pr_w huC hwC huw (x := x) (by rw [q]; rfl) (by rw [g2]; rfl) hlt
      have topo2 := ht
      rw [em] at topo2
      exact (List.pairwise_cons.mp (List.pairwise_append.mp topo2).2.1).1 u hu hpu
end
end Ok

namespace Ok
open PySem L2
/-! ### the text by places -/
def top (i : Nat) : Stmt := PySem.Challenge.pw_ordershown_k58_whole_without_skew_some_o.main.body.getD i (.Pass ⟨0, 0, 0, 0⟩)
abbrev sOrderOf : Stmt := top 2
abbrev sClosing : Stmt := top 3
abbrev sRingIn : Stmt := top 4
abbrev sTold : Stmt := top 6
abbrev sWInit : Stmt := inClass (top 7) 0
abbrev sWStep : Stmt := inClass (top 7) 1
abbrev sSerial : Stmt := top 8
abbrev sNInit : Stmt := inClass (top 10) 0
abbrev sRInit : Stmt := inClass (top 11) 0
abbrev sOwn : Stmt := inClass (top 11) 1
abbrev sStep : Stmt := inClass (top 11) 2
abbrev sLate : Stmt := inClass (top 11) 3
abbrev sEnd : Stmt := inClass (top 11) 4
abbrev sTurn : Stmt := inClass (top 11) 5
abbrev sFin : Stmt := top 12
abbrev sSnapRun : Stmt := top 13
abbrev sKinds : Stmt := top 14
abbrev sDeps : Stmt := top 15
abbrev sSkew : Stmt := top 16
abbrev sCell : Stmt := top 18
abbrev sDraw : Stmt := top 19
abbrev sScripts : Stmt := top 20
abbrev sWeaving : Stmt := top 21
abbrev sLaw : Stmt := top 23

/-! ### heaps -/
theorem _root_.L2.Same.sqt {K : PySem.W.Frag} {H H' : Hp} {a : Addr} {xs : List V} (e : Same H H') (h : SqT K H a xs) : SqT K H' a xs := by
  rcases h with (h | ⟨o, h⟩) | h
  · exact .inl (.inl (e _ _ h))
  · exact .inl (.inr ⟨o, e _ _ h⟩)
  · exact .inr h
/-- a new object -/
theorem _root_.L2.Same.new {H H' : Hp} {p : Addr} {o : HO} (e : Same H H') (h : H' p = none) : Same H (upd H' p o) := fun b u q => by
  rw [upd_ne (ne_of_none (e b u q) h)]
  exact e b u q
/-- an object that H does not know may change -/
theorem _root_.L2.Same.mut {H H' : Hp} {p : Addr} {o : HO} (e : Same H H') (h : H p = none) : Same H (upd H' p o) := fun b u q => by
  rw [upd_ne (ne_of_none q h)]
  exact e b u q
theorem upd_self {H : Hp} {a : Addr} {o : HO} (h : H a = some o) : upd H a o = H := by
  funext b
  unfold upd
  by_cases e : b = a
  · rw [if_pos e, e, h]
  · rw [if_neg e]

/-- the heap without an address -/
def del (H : Hp) (l : Addr) : Hp := fun b => if b = l then none else H b
theorem del_none {H : Hp} {l : Addr} : del H l l = none := by unfold del; rw [if_pos rfl]
theorem del_ne {H : Hp} {l b : Addr} (h : b ≠ l) : del H l b = H b := by unfold del; rw [if_neg h]
theorem del_le {H : Hp} {l : Addr} : Same (del H l) H := fun b o e => by
  unfold del at e
  by_cases h : b = l
  · rw [if_pos h] at e; cases e
  · rw [if_neg h] at e; exact e
theorem del_upd {H : Hp} {l : Addr} {o : HO} : del (upd H l o) l = del H l := by
  funext b
  unfold del upd
  by_cases h : b = l
  · rw [if_pos h, if_pos h]
  · rw [if_neg h, if_neg h, if_neg h]
theorem _root_.L2.Same.del {H H' : Hp} {l : Addr} (e : Same H H') : Same (del H l) (del H' l) := fun b o q => by
  by_cases h : b = l
  · rw [h, del_none] at q; cases q
  · rw [del_ne h] at q ⊢
    exact e b o q
/-- what does not know l -/
theorem _root_.L2.Same.off {H H' : Hp} {l : Addr} (e : Same H H') (h : H l = none) : Same H (Ok.del H' l) := fun b o q => by
  rw [del_ne (ne_of_none q h)]
  exact e b o q
theorem sqt_upd {K : PySem.W.Frag} {H : Hp} {l b : Addr} {o : HO} {r : List V} (mu : Mut (H l)) (h : SqT K H b r) : SqT K (upd H l o) b r := by
  rcases h with (h | ⟨ob, h⟩) | h
  · refine .inl (.inl ?_)
    rw [upd_ne]
    · exact h
    · rintro rfl
      rw [h] at mu
      exact mu
  · refine .inl (.inr ⟨ob, ?_⟩)
    rw [upd_ne]
    · exact h
    · rintro rfl
      rw [h] at mu
      exact mu
  · exact .inr h
theorem sqt_del {K : PySem.W.Frag} {H : Hp} {l b : Addr} {r : List V} (mu : Mut (H l)) (h : SqT K H b r) : SqT K (del H l) b r := by
  rcases h with (h | ⟨ob, h⟩) | h
  · refine .inl (.inl ?_)
    rw [del_ne]
    · exact h
    · rintro rfl
      rw [h] at mu
      exact mu
  · refine .inl (.inr ⟨ob, ?_⟩)
    rw [del_ne]
    · exact h
    · rintro rfl
      rw [h] at mu
      exact mu
  · exact .inr h
theorem mut_lst {H : Hp} {l : Addr} {xs : List V} (h : H l = some (.lst xs)) : Mut (H l) := by rw [h]; trivial

/-- tuples, each told by its items -/
def TupsAt (K : PySem.W.Frag) (H : Hp) (as : List Addr) (rows : List (List V)) : Prop :=
  as.length = rows.length ∧ ∀ (i : Nat) (b : Addr) (r : List V), as[i]? = some b → rows[i]? = some r → SqT K H b r
theorem TupsAt.nil {K : PySem.W.Frag} {H : Hp} : TupsAt K H [] [] := ⟨rfl, fun i b r h => by simp at h⟩
theorem TupsAt.same {K : PySem.W.Frag} {H H' : Hp} {as : List Addr} {rows : List (List V)} (e : Same H H') (h : TupsAt K H as rows) : TupsAt K H' as rows := ⟨h.1, fun i b r q1 q2 => e.sqt (h.2 i b r q1 q2)⟩
theorem TupsAt.upd {K : PySem.W.Frag} {H : Hp} {as : List Addr} {rows : List (List V)} {l : Addr} {o : HO} (mu : Mut (H l)) (h : TupsAt K H as rows) : TupsAt K (upd H l o) as rows := ⟨h.1, fun i b r q1 q2 => sqt_upd mu (h.2 i b r q1 q2)⟩
theorem TupsAt.del {K : PySem.W.Frag} {H : Hp} {as : List Addr} {rows : List (List V)} {l : Addr} (mu : Mut (H l)) (h : TupsAt K H as rows) : TupsAt K (Ok.del H l) as rows := ⟨h.1, fun i b r q1 q2 => sqt_del mu (h.2 i b r q1 q2)⟩
theorem TupsAt.snoc {K : PySem.W.Frag} {H : Hp} {as : List Addr} {rows : List (List V)} {b : Addr} {r : List V} (h : TupsAt K H as rows) (hb : SqT K H b r) : TupsAt K H (as ++ [b]) (rows ++ [r]) := by
  refine ⟨by simp [h.1], fun i c q h1 h2 => ?_⟩
  by_cases hi : i < as.length
  · rw [List.getElem?_append_left hi] at h1
    rw [List.getElem?_append_left (by rw [← h.1]; exact hi)] at h2
    exact h.2 i c q h1 h2
  · have hl := (List.getElem?_eq_some_iff.mp h1).1
    rw [List.length_append, List.length_singleton] at hl
    have e : i = as.length := by omega
    rw [e, List.getElem?_append_right (Nat.le_refl _), Nat.sub_self] at h1
    rw [e, h.1, List.getElem?_append_right (Nat.le_refl _), Nat.sub_self] at h2
    simp only [List.getElem?_cons_zero, Option.some.injEq] at h1 h2
    rw [← h1, ← h2]
    exact hb
theorem TupsAt.at {K : PySem.W.Frag} {H : Hp} {as : List Addr} {rows : List (List V)} (h : TupsAt K H as rows) {i : Nat} {v : V} (e : (as.map V.ref)[i]? = some v) : ∃ b r, v = .ref b ∧ as[i]? = some b ∧ rows[i]? = some r ∧ SqT K H b r := by
  rw [List.getElem?_map] at e
  obtain ⟨b, hb, rfl⟩ := Option.map_eq_some_iff.mp e
  have hi := (List.getElem?_eq_some_iff.mp hb).1
  have hr : i < rows.length := by rw [← h.1]; exact hi
  have hr' : rows[i]? = some rows[i] := List.getElem?_eq_getElem hr
  exact ⟨b, rows[i], rfl, hb, hr', h.2 i b _ hb hr'⟩
theorem refs_snoc {as : List Addr} {b : Addr} : as.map V.ref ++ [V.ref b] = (as ++ [b]).map V.ref := by simp
/-- a list of tuples -/
def RowsAt (K : PySem.W.Frag) (H : Hp) (a : Addr) (rows : List (List V)) : Prop := ∃ as : List Addr, SqL K H a (as.map V.ref) ∧ TupsAt K H as rows
theorem RowsAt.same {K : PySem.W.Frag} {H H' : Hp} {a : Addr} {rows : List (List V)} (e : Same H H') (h : RowsAt K H a rows) : RowsAt K H' a rows :=
  let ⟨as, h1, h2⟩ := h
  ⟨as, e.seq h1, h2.same e⟩

/-- pairs of ints, as tuples -/
abbrev encP (p : Int × Int) : List V := [.int p.1, .int p.2]
abbrev encT (p : Str × Int) : List V := [.str p.1, .int p.2]
def kdS : Kd → Str
  | .write => "write"
  | .read => "read"
  | .miss => "miss"
abbrev encD (d : Int × Int × Kd) : List V := [.int d.1, .int d.2.1, .str (kdS d.2.2)]
def encS : Step Str → List V
  | .rd x => [.str "read", .str x]
  | .wr x n => [.str "write", .str x, .int n]
def encE : Ev Str → List V
  | .rd t x => [.str "read", .int t, .str x]
  | .wr t x => [.str "write", .int t, .str x]
  | .commit t => [.str "commit", .int t]
  | .abort t => [.str "abort", .int t]
/-- a list of scripts -/
def SsAt (K : PySem.W.Frag) (H : Hp) (a : Addr) (ss : List (List (Step Str))) : Prop :=
  ∃ as : List Addr, SqL K H a (as.map V.ref) ∧ as.length = ss.length ∧ ∀ (i : Nat) (b : Addr) (s : List (Step Str)), as[i]? = some b → ss[i]? = some s → RowsAt K H b (s.map encS)
theorem SsAt.same {K : PySem.W.Frag} {H H' : Hp} {a : Addr} {ss : List (List (Step Str))} (e : Same H H') (h : SsAt K H a ss) : SsAt K H' a ss :=
  let ⟨as, h1, h2, h3⟩ := h
  ⟨as, e.seq h1, h2, fun i b r q1 q2 => (h3 i b r q1 q2).same e⟩
/-- what scripts are here -/
structure SsOk (ss : List (List (Step Str))) : Prop where
  few : ss.length ≤ 5
  short : ∀ s ∈ ss, s.length ≤ 8
end Ok
namespace Ok
open PySem L2
/-- what the walk asks of the names of the built-ins -/
structure Glb (mg : Str → Option Value) : Prop where
  len : mg "len" = none
  range : mg "range" = none
  sorted : mg "sorted" = none
  min : mg "min" = none
  dict : mg "dict" = none
  any : mg "any" = none
  list : mg "list" = none
  enumerate : mg "enumerate" = none
theorem at_int {α : Type} {xs : List α} {k : Int} {v : α} (h : 0 ≤ k) (e : xs[k.toNat]? = some v) : atI xs k = some v := by
  have q : atI xs ((k.toNat : Nat) : Int) = some v := atI_nat e
  rw [Int.toNat_of_nonneg h] at q
  exact q
theorem map_get {α β : Type} {f : α → β} {l : List α} {i : Nat} {y : β} (h : (l.map f)[i]? = some y) : ∃ x, l[i]? = some x ∧ y = f x := by
  rw [List.getElem?_map] at h
  obtain ⟨x, hx, e⟩ := Option.map_eq_some_iff.mp h
  exact ⟨x, hx, e.symm⟩
theorem map_at {α β : Type} {f : α → β} {l : List α} {i : Nat} {x : α} (h : l[i]? = some x) : (l.map f)[i]? = some (f x) := by
  rw [List.getElem?_map, h]
  rfl
section
variable {P : Program} {w : World} {K : PySem.W.Frag} {mg : Str → Option Value} {base : Heap}
theorem pow18 : CPow 10 18 := ⟨by decide, by decide, by decide⟩
/-! ### the law's own draws -/
def spCell (K : PySem.W.Frag) : Sp := fun vs H Q _ => ∃ (a : Addr) (ns : List Int) (k : Int), vs = [.ref a, .int k] ∧ SqL K H a (ns.map V.int) ∧ 0 ≤ k ∧ ∀ n : Int, Q (.int n) H
theorem scCell : FnScope ["_law_script", "_law_k"] ["_law_script", "_law_k"] (defScope sCell) := ⟨rfl, rfl, rfl, by decide +kernel, rfl, by decide +kernel, by decide +kernel⟩
theorem ok_cell {f : Addr} {fd : FuncData} (F : Fun K "_law_cell" "_law_cell" sCell f fd) (T : Glb mg) : FnOk P w K mg base CX0 1 f fd ["_law_script", "_law_k"] (spCell K) := by
  refine F.ok scCell (fun vs H Q E h => ?_) (fun cdv A outer s H vs Q E hr h => ?_)
  · obtain ⟨a, ns, k, rfl, _⟩ := h
    rfl
  · obtain ⟨a, ns, k, rfl, hS, hk, q⟩ := h
    refine ⟨_, (pss_cons (ps_if (pt_cmpR op_lt (pv 1) (pe_callB call_len_seq (by rfl) T.len PySem.boot_len (pa_cons (pv 0) pa_nil)) (nomark _)) (pss_one (ps_ret (pe_ix ix_list (pv 0) (pv 1) (fun _ _ => rfl)))) pss_nil) (pss_one (ps_ret pe_int))), ?_⟩
    refine ⟨_, rfl, _, rfl, a, _, rfl, .inl hS, _, _, rfl, rfl, _, rfl, ?_⟩
    refine ite2 (fun c => ?_) (fun c => ?_)
    · have hlt : k.toNat < ns.length := by
        have c := of_decide_eq_true c
        rw [List.length_map] at c
        omega
      exact ⟨_, rfl, _, rfl, a, _, _, _, rfl, rfl, hS, at_int hk (map_at (List.getElem?_eq_getElem hlt)), q _⟩
    · exact q 0

/-- what is drawn lies within the sizes -/
def Drawn (ds zs : List Int) : Prop := ds.length = zs.length ∧ ∀ (i : Nat) (d z : Int), ds[i]? = some d → zs[i]? = some z → 0 ≤ d ∧ d < z
def spDraw (K : PySem.W.Frag) : Sp := fun vs H Q _ => ∃ (a b : Addr) (ns zs : List Int) (k : Int), vs = [.ref a, .int k, .ref b] ∧ SqL K H a (ns.map V.int) ∧ SqL K H b (zs.map V.int) ∧ 0 ≤ k ∧ zs.length ≤ 100 ∧
  (∀ z ∈ zs, 0 < z ∧ z < 1073741824) ∧ ∀ (ds : List Int) (p : Addr) (H' : Hp), Drawn ds zs → Same H H' → H p = none → H' p = some (.lst (ds.map V.int)) → Q (.ref p) H'
theorem scDraw : FnScope ["_law_script", "_law_k", "_law_sizes", "_law_cell_here", "_law_drawn", "_law_size", "_law_mixed", "_law_j"] ["_law_script", "_law_k", "_law_sizes"] (defScope sDraw) := ⟨rfl, rfl, rfl, by decide +kernel, rfl, by decide +kernel, by decide +kernel⟩
/-- a list of what was drawn, one more -/
theorem drawn_more {ds zs : List Int} {i : Nat} {d z : Int} (h : Drawn ds (zs.take i)) (hz : zs[i]? = some z) (h0 : 0 ≤ d) (h1 : d < z) : Drawn (ds ++ [d]) (zs.take (i + 1)) := by
  obtain ⟨hl, hd⟩ := h
  have hi := (List.getElem?_eq_some_iff.mp hz).1
  have e : zs.take (i + 1) = zs.take i ++ [z] := by
    rw [List.take_add_one, hz]
    rfl
  have hl2 : (zs.take i).length = i := by rw [List.length_take]; omega
  rw [e]
  refine ⟨by simp [hl], fun j d' z' h1' h2' => ?_⟩
  by_cases hj : j < i
  · rw [List.getElem?_append_left (by omega)] at h1' h2'
    exact hd j d' z' h1' h2'
  · have hlt := (List.getElem?_eq_some_iff.mp h1').1
    rw [List.length_append, List.length_singleton] at hlt
    have : j = i := by omega
    subst this
    rw [List.getElem?_append_right (by omega)] at h1' h2'
    rw [hl, hl2] at h1'
    rw [hl2] at h2'
    simp only [Nat.sub_self, List.getElem?_cons_zero, Option.some.injEq] at h1' h2'
    subst h1' h2'
    exact ⟨h0, h1⟩
theorem drawn_map_snoc {ds : List Int} {d : Int} : ds.map V.int ++ [V.int d] = (ds ++ [d]).map V.int := by simp
theorem ok_draw {f fC : Addr} {fd fdC : FuncData} (F : Fun K "_law_draw" "_law_draw" sDraw f fd) (T : Glb mg) (FC : Fun K "_law_cell" "_law_cell" sCell fC fdC) (bC : Binds K fdC ["_law_script", "_law_k"] []) (mC : mg "_law_cell" = some (.ref fC)) :
    FnOk P w K mg base CX0 2 f fd ["_law_script", "_law_k", "_law_sizes"] (spDraw K) := by
  have GC : FnOk P w K mg base CX0 1 fC fdC ["_law_script", "_law_k"] (spCell K) := ok_cell FC T
  have sc := scDraw
  refine F.ok scDraw (fun vs H Q E h => ?_) (fun cdv A outer s H vs Q E hr h => ?_)
  · obtain ⟨a, b, ns, zs, k, rfl, _⟩ := h
    rfl
  · obtain ⟨a, b, ns, zs, k, rfl, hA, hB, hk, hz, hp, q⟩ := h
    refine ⟨_, pss_cons (ps_set (i := 3) sc.nd rfl (Or.inl rfl) (pe_call GC hr (by rfl) mC FC.kp bC .nil pass0 (pa_cons (pv 0) (pa_cons (pv 1) pa_nil))))
      (Evl.pss_cut (ps_if (pt_cmpR op_lt (pv 3) pe_int (nomark _)) (pss_one (ps_set (i := 3) sc.nd rfl (Or.inl rfl) (pe_un un_neg (pv 3)))) pss_nil)
      (pss_cons (ps_set (i := 4) sc.nd rfl (Or.inl rfl) (pe_lst pa_nil)) (pss_cons (ps_if (pt_cmpR op_ge (pv 3) (pe_op op_pow pe_int pe_int) (nomark _)) (pss_cons (ps_set (i := 3) sc.nd rfl (Or.inl rfl) (pe_op op_sub (pv 3) (pe_op op_pow pe_int pe_int))) (pss_cons (ps_for PassesOwn.never rfl (pi_list (pv 2)) (pg_name (i := 5) sc.nd rfl (Or.inl rfl)) (pss_cons (ps_expr (pe_bm PySem.F.plainAttrs_list PySem.F.slot_list_append PySem.F.type_list_append mt_append (pv 4) (pa_cons (pe_op op_mod (pv 3) (pv 5)) pa_nil))) (pss_one (ps_set (i := 3) sc.nd rfl (Or.inl rfl) (pe_op op_fdiv (pv 3) (pv 5)))))) (pss_one (ps_ret (pv 4))))) pss_nil) (pss_cons (ps_set (i := 6) sc.nd rfl (Or.inl rfl) (pe_op op_mod (pe_op op_add (pe_op op_add (pv 3) pe_int) (pe_op op_mul pe_int (pv 1))) pe_int)) (pss_cons (ps_for PassesOwn.never rfl (pi_range1 rfl T.range (pa_cons (pe_callB call_len_seq (by rfl) T.len PySem.boot_len (pa_cons (pv 2) pa_nil)) pa_nil)) (pg_name (i := 7) sc.nd rfl (Or.inl rfl)) (pss_cons (ps_set (i := 6) sc.nd rfl (Or.inl rfl) (pe_op op_mod (pe_op op_add (pe_op op_add (pe_op op_mul (pv 6) pe_int) pe_int) (pv 7)) pe_int)) (pss_cons (ps_set (i := 6) sc.nd rfl (Or.inl rfl) (pe_op op_mod (pe_op op_add (pe_op op_mul (pv 6) pe_int) pe_int) pe_int)) (pss_one (ps_expr (pe_bm PySem.F.plainAttrs_list PySem.F.slot_list_append PySem.F.type_list_append mt_append (pv 4) (pa_cons (pe_op op_mod (pe_op op_fdiv (pv 6) pe_int) (pe_ix ix_list (pv 2) (pv 7) (fun _ _ => rfl))) pa_nil))))))) (pss_one (ps_ret (pv 4)))))))), ?_⟩
    refine ⟨_, rfl, _, rfl, a, ns, k, rfl, hA, hk, fun c => ?_⟩
    -- behind the sign
    refine ⟨fun σ H' => H' = H ∧ ∃ c : Int, σ = [some (.ref a), some (.int k), some (.ref b), some (.int c), none, none, none, none], ?_, ?_⟩
    · refine ⟨_, rfl, _, _, rfl, rfl, _, rfl, ?_⟩
      refine ite2 (fun _ => ?_) (fun _ => ?_)
      · exact ⟨_, rfl, _, rfl, rfl, _, rfl⟩
      · exact ⟨rfl, _, rfl⟩
    · rintro σ' H' ⟨rfl, c, rfl⟩
      refine ⟨Nat.zero_le _, fun l hl => ?_⟩
      have s1 : Same H' (upd H' l (.lst [])) := (Same.refl _).new hl
      refine ⟨_, rfl, _, _, rfl, rfl, pow18, _, _, rfl, rfl, _, rfl, ?_⟩
      refine ite2 (fun _ => ?_) (fun _ => ?_)
      · -- a large cell
        refine ⟨_, rfl, _, _, rfl, rfl, pow18, _, _, rfl, rfl, ?_⟩
        refine ⟨_, rfl, b, rfl, ⟨_, s1.seq hB⟩, for_list (K := K) (a := b) (xs := zs.map V.int) (fun i σ H2 => ∃ (c : Int) (v : Option V) (ds : List Int), σ = [some (.ref a), some (.int k), some (.ref b), some (.int c), some (.ref l), v, none, none] ∧ Same H' H2 ∧ H2 l = some (.lst (ds.map V.int)) ∧ Drawn ds (zs.take i) ∧ i ≤ 100)
          ⟨_, none, [], rfl, s1, upd_same, ⟨by simp, fun i d z h => by simp at h⟩, by omega⟩ (fun i σ H2 _ ⟨_, _, _, _, s2, _⟩ => s2.seq hB) ?_ ?_⟩
        · rintro i y σ H2 hi ⟨c, v, ds, rfl, s2, h2, hd, hi100⟩
          obtain ⟨z, hz', rfl⟩ := map_get hi
          have hzp := hp z (List.mem_of_getElem? hz')
          have hil := (List.getElem?_eq_some_iff.mp hz').1
          have hdl : ds.length = i := by
            rw [hd.1, List.length_take]
            omega
          refine ⟨_, rfl, .inl ⟨rfl, _, SqL.of h2⟩, _, rfl, _, rfl, _, _, rfl, rfl, hzp.1, l, _, _, rfl, rfl, h2, (by rw [List.length_map]; exact small1000 (by omega)), ?_⟩
          refine ⟨_, rfl, _, rfl, _, _, rfl, rfl, ⟨hzp.1, hzp.2⟩, ?_⟩
          exact ⟨_, _, ds ++ [c % z], rfl, s2.mut hl, by rw [upd_same, drawn_map_snoc], drawn_more hd hz' (Int.emod_nonneg _ (by omega)) (Int.emod_lt_of_pos _ hzp.1), by omega⟩
        · rintro σ H2 ⟨c, v, ds, rfl, s2, h2, hd, _⟩
          refine ⟨_, rfl, ?_⟩
          rw [List.length_map, List.take_length] at hd
          exact q ds l H2 hd s2 hl h2
      · refine ⟨_, rfl, _, _, rfl, rfl, _, rfl, _, _, rfl, rfl, .inl ⟨by decide, by decide⟩, _, _, rfl, rfl, _, _, rfl, rfl, (by show (0 : Int) < 2147483647; decide), ?_⟩
        refine ⟨_, rfl, b, _, rfl, .inl (s1.seq hB), _, rfl, (by rw [List.length_map]; omega), (by rw [List.length_map]; omega), ?_⟩
        refine for_range (lo := 0) (n := (((zs.map V.int).length : Nat) : Int).toNat) (fun i σ H2 => ∃ (m : Int) (v : Option V) (ds : List Int), σ = [some (.ref a), some (.int k), some (.ref b), some (.int c), some (.ref l), none, some (.int m), v] ∧ Same H' H2 ∧ H2 l = some (.lst (ds.map V.int)) ∧ Drawn ds (zs.take i) ∧ 0 ≤ m ∧ m < 2147483647)
          ⟨_, none, [], rfl, s1, upd_same, ⟨by simp, fun i d z h => by simp at h⟩, Int.emod_nonneg _ (by decide), Int.emod_lt_of_pos _ (by decide)⟩ ?_ ?_
        · rintro i σ H2 hi ⟨m, v, ds, rfl, s2, h2, hd, m0, m1⟩
          rw [List.length_map, Int.toNat_natCast] at hi
          have hz' : zs[i]? = some zs[i] := List.getElem?_eq_getElem hi
          have hzp := hp zs[i] (List.mem_of_getElem? hz')
          have hdl : ds.length = i := by
            rw [hd.1, List.length_take]
            omega
          refine ⟨_, rfl, _, _, rfl, rfl, .inl ⟨by omega, by omega⟩, _, _, rfl, rfl, _, rfl, _, _, rfl, rfl, _, _, rfl, rfl, (by show (0 : Int) < 2147483647; decide), ?_⟩
          have k1 := Int.emod_nonneg (m * 48271 + 11 + (0 + (i : Int))) (show (2147483647 : Int) ≠ 0 by decide)
          have k2 := Int.emod_lt_of_pos (m * 48271 + 11 + (0 + (i : Int))) (show (0 : Int) < 2147483647 by decide)
          refine ⟨_, rfl, _, _, rfl, rfl, .inl ⟨by omega, by omega⟩, _, _, rfl, rfl, _, _, rfl, rfl, (by show (0 : Int) < 2147483647; decide), ?_⟩
          refine ⟨_, rfl, .inl ⟨rfl, _, SqL.of h2⟩, _, rfl, _, _, rfl, rfl, ⟨by decide, by decide⟩, _, rfl, _, rfl, b, _, _, _, rfl, rfl, s2.seq hB, at_int (by omega) (by rw [show (0 + (i : Int)).toNat = i by omega]; exact map_at hz'), _, _, rfl, rfl, hzp.1, l, _, _, rfl, rfl, h2, (by rw [List.length_map]; exact small1000 (by omega)), ?_⟩
          exact ⟨_, _, ds ++ [_], rfl, s2.mut hl, by rw [upd_same, drawn_map_snoc], drawn_more hd hz' (Int.emod_nonneg _ (by omega)) (Int.emod_lt_of_pos _ hzp.1), Int.emod_nonneg _ (by decide), Int.emod_lt_of_pos _ (by decide)⟩
        · rintro σ H2 ⟨m, v, ds, rfl, s2, h2, hd, _⟩
          refine ⟨_, rfl, ?_⟩
          rw [List.length_map, Int.toNat_natCast, List.take_length] at hd
          exact q ds l H2 hd s2 hl h2
end
end Ok
namespace Ok
open PySem L2
section
variable {P : Program} {w : World} {K : PySem.W.Frag} {mg : Str → Option Value} {base : Heap}
theorem SsOk.snoc {ss : List (List (Step Str))} {s : List (Step Str)} (h1 : ss.length < 5) (h2 : ∀ s ∈ ss, s.length ≤ 8) (h3 : s.length ≤ 8) : SsOk (ss ++ [s]) := by
  refine ⟨by simp; omega, fun q hq => ?_⟩
  rcases List.mem_append.mp hq with q1 | q1
  · exact h2 q q1
  · have : q = s := by simpa using q1
    rw [this]; exact h3
/-- scripts told one by one -/
def ScrsAt (K : PySem.W.Frag) (H : Hp) (as : List Addr) (ss : List (List (Step Str))) : Prop :=
  as.length = ss.length ∧ ∀ (i : Nat) (b : Addr) (s : List (Step Str)), as[i]? = some b → ss[i]? = some s → RowsAt K H b (s.map encS)
theorem ScrsAt.same {K : PySem.W.Frag} {H H' : Hp} {as : List Addr} {ss : List (List (Step Str))} (e : Same H H') (h : ScrsAt K H as ss) : ScrsAt K H' as ss := ⟨h.1, fun i b r q1 q2 => (h.2 i b r q1 q2).same e⟩
theorem ScrsAt.snoc {K : PySem.W.Frag} {H : Hp} {as : List Addr} {ss : List (List (Step Str))} {b : Addr} {s : List (Step Str)} (h : ScrsAt K H as ss) (hb : RowsAt K H b (s.map encS)) : ScrsAt K H (as ++ [b]) (ss ++ [s]) := by
  refine ⟨by simp [h.1], fun i c q h1 h2 => ?_⟩
  by_cases hi : i < as.length
  · rw [List.getElem?_append_left hi] at h1
    rw [List.getElem?_append_left (by rw [← h.1]; exact hi)] at h2
    exact h.2 i c q h1 h2
  · have hl := (List.getElem?_eq_some_iff.mp h1).1
    rw [List.length_append, List.length_singleton] at hl
    have e : i = as.length := by omega
    rw [e, List.getElem?_append_right (Nat.le_refl _), Nat.sub_self] at h1
    rw [e, h.1, List.getElem?_append_right (Nat.le_refl _), Nat.sub_self] at h2
    simp only [List.getElem?_cons_zero, Option.some.injEq] at h1 h2
    rw [← h1, ← h2]
    exact hb
def spScripts (K : PySem.W.Frag) : Sp := fun vs H Q _ => ∃ (a : Addr) (ns : List Int) (k : Int), vs = [.ref a, .int k] ∧ SqL K H a (ns.map V.int) ∧ 0 ≤ k ∧
  ∀ (ss : List (List (Step Str))) (p : Addr) (H' : Hp), SsOk ss → 1 ≤ ss.length → Same H H' → H p = none → SsAt K H' p ss → Q (.ref p) H'
theorem scScripts : FnScope ["_law_script", "_law_k", "_law_head", "_law_scripts_here", "_law_t", "_law_digits", "_law_steps", "_law_j"] ["_law_script", "_law_k"] (defScope sScripts) := ⟨rfl, rfl, rfl, by decide +kernel, rfl, by decide +kernel, by decide +kernel⟩
def zsHead : List Int := [5, 3, 9, 9, 9, 9, 9, 9]
def zsDig : List Int := (List.replicate 8 [(2 : Int), 3, 19]).flatten
theorem zsDig_map : zsDig.map V.int = (List.replicate 8 [V.int 2, V.int 3, V.int 19]).flatten := by decide +kernel
theorem zsDig_ok : zsDig.length = 24 ∧ ∀ z ∈ zsDig, 0 < z ∧ z < 1073741824 := by decide +kernel
theorem zsHead_ok : zsHead.length = 8 ∧ ∀ z ∈ zsHead, 0 < z ∧ z < 1073741824 := by decide +kernel
theorem drawn_at {ds zs : List Int} (h : Drawn ds zs) {i : Nat} {z : Int} (hz : zs[i]? = some z) : ∃ d, ds[i]? = some d ∧ 0 ≤ d ∧ d < z := by
  have hi := (List.getElem?_eq_some_iff.mp hz).1
  have hi2 : i < ds.length := by rw [h.1]; exact hi
  exact ⟨ds[i], List.getElem?_eq_getElem hi2, h.2 i _ z (List.getElem?_eq_getElem hi2) hz⟩
theorem xyz_at {i : Int} (h0 : 0 ≤ i) (h1 : i < 3) : ∃ c, atI ("xyz" : Str).cps.toList i = some c := by
  have : i = 0 ∨ i = 1 ∨ i = 2 := by omega
  rcases this with rfl | rfl | rfl
  · exact ⟨120, by decide +kernel⟩
  · exact ⟨121, by decide +kernel⟩
  · exact ⟨122, by decide +kernel⟩
theorem ok_scripts {f fC fD : Addr} {fd fdC fdD : FuncData} (F : Fun K "_law_scripts" "_law_scripts" sScripts f fd) (T : Glb mg) (FC : Fun K "_law_cell" "_law_cell" sCell fC fdC) (bC : Binds K fdC ["_law_script", "_law_k"] []) (mC : mg "_law_cell" = some (.ref fC))
    (FD : Fun K "_law_draw" "_law_draw" sDraw fD fdD) (bD : Binds K fdD ["_law_script", "_law_k", "_law_sizes"] []) (mD : mg "_law_draw" = some (.ref fD)) :
    FnOk P w K mg base CX0 3 f fd ["_law_script", "_law_k"] (spScripts K) := by
  have GD : FnOk P w K mg base CX0 2 fD fdD ["_law_script", "_law_k", "_law_sizes"] (spDraw K) := ok_draw FD T FC bC mC
  have sc := scScripts
  refine F.ok scScripts (fun vs H Q E h => ?_) (fun cdv A outer s H vs Q E hr h => ?_)
  · obtain ⟨a, ns, k, rfl, _⟩ := h
    rfl
  · obtain ⟨a, ns, k, rfl, hA, hk, q⟩ := h
    refine ⟨_, (pss_cons (ps_set (i := 2) sc.nd rfl (Or.inl rfl) (pe_call GD hr (by rfl) mD FD.kp bD .nil pass0 (pa_cons (pv 0) (pa_cons (pv 1) (pa_cons (pe_lst (pa_cons pe_int (pa_cons pe_int (pa_cons pe_int (pa_cons pe_int (pa_cons pe_int (pa_cons pe_int (pa_cons pe_int (pa_cons pe_int pa_nil))))))))) pa_nil))))) (pss_cons (ps_set (i := 3) sc.nd rfl (Or.inl rfl) (pe_lst pa_nil)) (pss_cons (ps_for PassesOwn.never rfl (pi_range1 rfl T.range (pa_cons (pe_op op_add pe_int (pe_ix ix_list (pv 2) pe_int (fun _ _ => rfl))) pa_nil)) (pg_name (i := 4) sc.nd rfl (Or.inl rfl)) (pss_cons (ps_set (i := 5) sc.nd rfl (Or.inl rfl) (pe_call GD hr (by rfl) mD FD.kp bD .nil pass0 (pa_cons (pv 0) (pa_cons (pe_op op_add (pe_op op_add (pv 1) pe_int) (pv 4)) (pa_cons (pe_op op_rep (pe_lst (pa_cons pe_int (pa_cons pe_int (pa_cons pe_int pa_nil)))) pe_int) pa_nil))))) (pss_cons (ps_set (i := 6) sc.nd rfl (Or.inl rfl) (pe_lst pa_nil)) (pss_cons (ps_for PassesOwn.never rfl (pi_range1 rfl T.range (pa_cons (pe_ix ix_list (pv 2) (pe_op op_add pe_int (pv 4)) (fun _ _ => rfl)) pa_nil)) (pg_name (i := 7) sc.nd rfl (Or.inl rfl)) (pss_one (ps_if (pt_cmpR op_eq (pe_ix ix_list (pv 5) (pe_op op_mul pe_int (pv 7)) (fun _ _ => rfl)) pe_int (nomark _))
              (pss_one (ps_expr (pe_bm PySem.F.plainAttrs_list PySem.F.slot_list_append PySem.F.type_list_append mt_append (pv 6) (pa_cons (pe_tup (pa_cons pe_str (pa_cons (pe_ix ix_str pe_str (pe_op op_mod (pe_ix ix_list (pv 5) (pe_op op_add (pe_op op_mul pe_int (pv 7)) pe_int) (fun _ _ => rfl)) (pe_op op_add pe_int (pe_ix ix_list (pv 2) pe_int (fun _ _ => rfl)))) (fun _ _ => rfl)) pa_nil))) pa_nil))))
              (pss_one (ps_expr (pe_bm PySem.F.plainAttrs_list PySem.F.slot_list_append PySem.F.type_list_append mt_append (pv 6) (pa_cons (pe_tup (pa_cons pe_str (pa_cons (pe_ix ix_str pe_str (pe_op op_mod (pe_ix ix_list (pv 5) (pe_op op_add (pe_op op_mul pe_int (pv 7)) pe_int) (fun _ _ => rfl)) (pe_op op_add pe_int (pe_ix ix_list (pv 2) pe_int (fun _ _ => rfl)))) (fun _ _ => rfl)) (pa_cons (pe_op op_sub (pe_ix ix_list (pv 5) (pe_op op_add (pe_op op_mul pe_int (pv 7)) pe_int) (fun _ _ => rfl)) pe_int) pa_nil)))) pa_nil))))))) (pss_one (ps_expr (pe_bm PySem.F.plainAttrs_list PySem.F.slot_list_append PySem.F.type_list_append mt_append (pv 3) (pa_cons (pv 6) pa_nil)))))))) (pss_one (ps_ret (pv 3)))))), ?_⟩
    -- the head's draw
    refine ⟨_, rfl, _, rfl, (by show 8 ≤ sizeLine; decide), fun z hz => ?_⟩
    have s1 : Same H (upd H z (.lst [V.int 5, V.int 3, V.int 9, V.int 9, V.int 9, V.int 9, V.int 9, V.int 9])) := (Same.refl _).new hz
    refine ⟨a, z, ns, zsHead, k, rfl, s1.seq hA, SqL.of upd_same, hk, by decide, zsHead_ok.2, fun hs p H1 hd s2 hp1 hp => ?_⟩
    have s3 := s1.trans s2
    obtain ⟨h0, e0, l0, u0⟩ := drawn_at hd (i := 0) (z := 5) rfl
    obtain ⟨h1, e1, l1, u1⟩ := drawn_at hd (i := 1) (z := 3) rfl
    have hp' : SqL K H1 p (hs.map V.int) := SqL.of hp
    -- scripts = []
    refine ⟨Nat.zero_le _, fun L hL => ?_⟩
    have s4 : Same H1 (upd H1 L (.lst [])) := (Same.refl _).new hL
    have hHL : H L = none := s3.free hL
    refine ⟨_, rfl, p, _, _, _, rfl, rfl, s4.seq hp', at_int (by decide) (map_at e0), _, _, rfl, rfl, _, rfl, (by omega), (by omega), ?_⟩
    refine for_range (lo := 0) (n := (1 + h0).toNat) (fun i σ H2 => ∃ (v1 v2 v3 v4 : Option V) (as : List Addr) (ss : List (List (Step Str))), σ = [some (.ref a), some (.int k), some (.ref p), some (.ref L), v1, v2, v3, v4] ∧ Same H1 (del H2 L) ∧ H2 L = some (.lst (as.map V.ref)) ∧ ScrsAt K (del H2 L) as ss ∧ ss.length = i ∧ ∀ s ∈ ss, s.length ≤ 8)
      ⟨none, none, none, none, [], [], rfl, s4.off hL, upd_same, ⟨rfl, fun i b s h => by simp at h⟩, rfl, fun s h => nomatch h⟩ ?_ ?_
    · rintro i σ H2 hi ⟨v1, v2, v3, v4, as, ss, rfl, t1, hL2, hS, hl, h8⟩
      have t1' : Same H1 H2 := t1.trans del_le
      have t0 : Same H H2 := s3.trans t1'
      obtain ⟨h2i, e2, l2, u2⟩ := drawn_at hd (i := 2 + i) (z := 9) (by
        have : i = 0 ∨ i = 1 ∨ i = 2 ∨ i = 3 ∨ i = 4 := by omega
        rcases this with rfl | rfl | rfl | rfl | rfl <;> rfl)
      -- digits
      refine ⟨_, rfl, _, rfl, _, _, rfl, rfl, _, rfl, _, _, rfl, rfl, (by show 3 ≤ sizeLine; decide), fun z hz => ?_⟩
      refine ⟨z, 8, _, rfl, rfl, upd_same, by decide, by decide, by decide, fun z2 hz2 => ?_⟩
      have t2 : Same H2 (upd (upd H2 z (.lst [V.int 2, V.int 3, V.int 19])) z2 (.lst (List.replicate (8 : Int).toNat [V.int 2, V.int 3, V.int 19]).flatten)) := ((Same.refl _).new hz).new hz2
      refine ⟨a, z2, ns, zsDig, _, rfl, (t0.trans t2).seq hA, SqL.of (by rw [upd_same, zsDig_map]; rfl), by omega, by rw [zsDig_ok.1]; decide, zsDig_ok.2, fun ds pd H3 hdd t3 hpd1 hpd => ?_⟩
      -- steps = []
      refine ⟨Nat.zero_le _, fun l hl0 => ?_⟩
      have t23 := t2.trans t3
      have t4 : Same H3 (upd H3 l (.lst [])) := (Same.refl _).new hl0
      have tp : SqL K H3 p (hs.map V.int) := (t1'.trans t23).seq hp'
      have tpd : SqL K H3 pd (ds.map V.int) := SqL.of hpd
      refine ⟨_, rfl, _, rfl, _, _, rfl, rfl, p, _, _, _, rfl, rfl, t4.seq tp, at_int (by omega) (by rw [show (2 + (0 + (i : Int))).toNat = 2 + i by omega]; exact map_at e2), _, rfl, (by omega), (by omega), ?_⟩
      refine for_range (lo := 0) (n := h2i.toNat) (fun j σ H4 => ∃ (v : Option V) (bs : List Addr) (st : List (Step Str)), σ = [some (.ref a), some (.int k), some (.ref p), some (.ref L), some (.int (0 + (i : Int))), some (.ref pd), some (.ref l), v] ∧ Same H3 H4 ∧ H4 l = some (.lst (bs.map V.ref)) ∧ TupsAt K H4 bs (st.map encS) ∧ st.length = j)
        ⟨_, [], [], rfl, t4, upd_same, TupsAt.nil, rfl⟩ ?_ ?_
      · rintro j σ H4 hj ⟨v, bs, st, rfl, t5, hl4, hT, hlj⟩
        have g3 : ∀ (m : Nat), m < 24 → ∃ d, ds[m]? = some d := fun m hm => by
          have : m < ds.length := by rw [hdd.1, zsDig_ok.1]; exact hm
          exact ⟨_, List.getElem?_eq_getElem this⟩
        obtain ⟨d0, f0⟩ := g3 (3 * j) (by omega)
        obtain ⟨d1, f1⟩ := g3 (3 * j + 1) (by omega)
        have q0 : atI (ds.map V.int) (3 * (0 + (j : Int))) = some (.int d0) := at_int (by omega) (by rw [show (3 * (0 + (j : Int))).toNat = 3 * j by omega]; exact map_at f0)
        have q1 : atI (ds.map V.int) (3 * (0 + (j : Int)) + 1) = some (.int d1) := at_int (by omega) (by rw [show (3 * (0 + (j : Int)) + 1).toNat = 3 * j + 1 by omega]; exact map_at f1)
        have qh : atI (hs.map V.int) 1 = some (.int h1) := at_int (by decide) (map_at e1)
        obtain ⟨c, qc⟩ := xyz_at (i := d1 % (1 + h1)) (Int.emod_nonneg _ (by omega)) (by have := Int.emod_lt_of_pos d1 (show 0 < 1 + h1 by omega); omega)
        have tpd4 := t5.seq tpd
        have tp4 := t5.seq tp
        have hlen : (bs.map V.ref).length < sizeLine := by
          rw [List.length_map, hT.1, List.length_map]
          exact small1000 (by omega)
        refine ⟨_, rfl, _, rfl, _, _, rfl, rfl, .inl ⟨by decide, by decide⟩, pd, _, _, _, rfl, rfl, tpd4, q0, rfl, _, rfl, ?_⟩
        refine ite2 (fun _ => ?_) (fun _ => ?_)
        · refine ⟨_, rfl, .inl ⟨rfl, _, SqL.of hl4⟩, ?_⟩
          refine ⟨_, rfl, _, rfl, _, _, rfl, rfl, .inl ⟨by decide, by decide⟩, _, _, rfl, rfl, pd, _, _, _, rfl, rfl, tpd4, q1, _, rfl, p, _, _, _, rfl, rfl, tp4, qh, _, _, rfl, rfl, _, _, rfl, rfl, (by omega), _, _, c, rfl, rfl, (by decide), qc, (by show 2 ≤ sizeLine; decide), fun b hb => ?_⟩
          have nbl : l ≠ b := ne_of_none hl4 hb
          have hl5 : (upd H4 b (.tup [.str "read", .str ⟨#[c]⟩])) l = some (.lst (bs.map V.ref)) := by rw [upd_ne nbl]; exact hl4
          refine ⟨l, _, _, rfl, rfl, hl5, hlen, ?_⟩
          refine ⟨_, bs ++ [b], st ++ [.rd ⟨#[c]⟩], rfl, (t5.new hb).mut hl0, by rw [upd_same, refs_snoc], ?_, by simp [hlj]⟩
          rw [List.map_append]
          exact ((hT.same ((Same.refl _).new hb)).snoc (SqT.of upd_same)).upd (mut_lst hl5)
        · obtain ⟨d2, f2⟩ := g3 (3 * j + 2) (by omega)
          have q2 : atI (ds.map V.int) (3 * (0 + (j : Int)) + 2) = some (.int d2) := at_int (by omega) (by rw [show (3 * (0 + (j : Int)) + 2).toNat = 3 * j + 2 by omega]; exact map_at f2)
          refine ⟨_, rfl, .inl ⟨rfl, _, SqL.of hl4⟩, ?_⟩
          refine ⟨_, rfl, _, rfl, _, _, rfl, rfl, .inl ⟨by decide, by decide⟩, _, _, rfl, rfl, pd, _, _, _, rfl, rfl, tpd4, q1, _, rfl, p, _, _, _, rfl, rfl, tp4, qh, _, _, rfl, rfl, _, _, rfl, rfl, (by omega), _, _, c, rfl, rfl, (by decide), qc, ?_⟩
          refine ⟨_, rfl, _, rfl, _, _, rfl, rfl, .inl ⟨by decide, by decide⟩, _, _, rfl, rfl, pd, _, _, _, rfl, rfl, tpd4, q2, _, _, rfl, rfl, (by show 3 ≤ sizeLine; decide), fun b hb => ?_⟩
          have nbl : l ≠ b := ne_of_none hl4 hb
          have hl5 : (upd H4 b (.tup [.str "write", .str ⟨#[c]⟩, .int (d2 - 9)])) l = some (.lst (bs.map V.ref)) := by rw [upd_ne nbl]; exact hl4
          refine ⟨l, _, _, rfl, rfl, hl5, hlen, ?_⟩
          refine ⟨_, bs ++ [b], st ++ [.wr ⟨#[c]⟩ (d2 - 9)], rfl, (t5.new hb).mut hl0, by rw [upd_same, refs_snoc], ?_, by simp [hlj]⟩
          rw [List.map_append]
          exact ((hT.same ((Same.refl _).new hb)).snoc (SqT.of upd_same)).upd (mut_lst hl5)
      · rintro σ H4 ⟨v, bs, st, rfl, t5, hl4, hT, hlj⟩
        have t24 : Same H2 H4 := t23.trans t5
        have hL4 := t24 _ _ hL2
        have nlL : l ≠ L := fun e => by
          have := t23 _ _ hL2
          rw [← e, hl0] at this
          cases this
        refine ⟨_, rfl, .inl ⟨rfl, _, SqL.of hL4⟩, _, rfl, L, _, _, rfl, rfl, hL4, (by rw [List.length_map, hS.1]; exact small1000 (by omega)), ?_⟩
        refine ⟨_, _, _, _, as ++ [l], ss ++ [st], rfl, ?_, by rw [upd_same, refs_snoc], ?_, by simp [hl], fun s hs => ?_⟩
        · rw [del_upd]
          exact t1.trans t24.del
        · rw [del_upd]
          exact (hS.same t24.del).snoc ⟨bs, SqL.of (by rw [del_ne nlL]; exact hl4), hT.del (mut_lst hL4)⟩
        · rcases List.mem_append.mp hs with r | r
          · exact h8 s r
          · have : s = st := by simpa using r
            rw [this, hlj]
            omega
    · rintro σ H2 ⟨v1, v2, v3, v4, as, ss, rfl, t1, hL2, hS, hl, h8⟩
      refine ⟨_, rfl, ?_⟩
      have hS' := hS.same del_le
      exact q ss L H2 ⟨by omega, h8⟩ (by omega) (s3.trans (t1.trans del_le)) hHL ⟨as, SqL.of hL2, hS'.1, hS'.2⟩
end
end Ok
namespace Ok
open PySem L2
section
variable {P : Program} {w : World} {K : PySem.W.Frag} {mg : Str → Option Value} {base : Heap}
def spWeaving (K : PySem.W.Frag) : Sp := fun vs H Q _ => ∃ (a : Addr) (ns : List Int) (k m : Int), vs = [.ref a, .int k, .int m] ∧ SqL K H a (ns.map V.int) ∧ 0 ≤ k ∧ 0 < m ∧
  ∀ (ws : List Int) (p : Addr) (H' : Hp), ws.length ≤ 30 → Same H H' → H p = none → SqL K H' p (ws.map V.int) → Q (.ref p) H'
theorem scWeaving : FnScope ["_law_script", "_law_k", "_law_many", "_law_head", "_law_digits", "_law_weaving_here", "_law_j"] ["_law_script", "_law_k", "_law_many"] (defScope sWeaving) := ⟨rfl, rfl, rfl, by decide +kernel, rfl, by decide +kernel, by decide +kernel⟩
def zsW : List Int := [31, 97]
def zsWd : List Int := (List.replicate 30 [(9 : Int)]).flatten
theorem zsWd_map : zsWd.map V.int = (List.replicate 30 [V.int 9]).flatten := by decide +kernel
theorem zsWd_ok : zsWd.length = 30 ∧ ∀ z ∈ zsWd, 0 < z ∧ z < 1073741824 := by decide +kernel
theorem zsW_ok : zsW.length = 2 ∧ ∀ z ∈ zsW, 0 < z ∧ z < 1073741824 := by decide +kernel
theorem ints_snoc {ws : List Int} {n : Int} : ws.map V.int ++ [V.int n] = (ws ++ [n]).map V.int := by simp
theorem ok_weaving {f fC fD : Addr} {fd fdC fdD : FuncData} (F : Fun K "_law_weaving" "_law_weaving" sWeaving f fd) (T : Glb mg) (FC : Fun K "_law_cell" "_law_cell" sCell fC fdC) (bC : Binds K fdC ["_law_script", "_law_k"] []) (mC : mg "_law_cell" = some (.ref fC))
    (FD : Fun K "_law_draw" "_law_draw" sDraw fD fdD) (bD : Binds K fdD ["_law_script", "_law_k", "_law_sizes"] []) (mD : mg "_law_draw" = some (.ref fD)) :
    FnOk P w K mg base CX0 3 f fd ["_law_script", "_law_k", "_law_many"] (spWeaving K) := by
  have GD : FnOk P w K mg base CX0 2 fD fdD ["_law_script", "_law_k", "_law_sizes"] (spDraw K) := ok_draw FD T FC bC mC
  have sc := scWeaving
  refine F.ok scWeaving (fun vs H Q E h => ?_) (fun cdv A outer s H vs Q E hr h => ?_)
  · obtain ⟨a, ns, k, m, rfl, _⟩ := h
    rfl
  · obtain ⟨a, ns, k, m, rfl, hA, hk, hm, q⟩ := h
    refine ⟨_, (pss_cons (ps_set (i := 3) sc.nd rfl (Or.inl rfl) (pe_call GD hr (by rfl) mD FD.kp bD .nil pass0 (pa_cons (pv 0) (pa_cons (pv 1) (pa_cons (pe_lst (pa_cons pe_int (pa_cons pe_int pa_nil))) pa_nil))))) (pss_cons (ps_set (i := 4) sc.nd rfl (Or.inl rfl) (pe_call GD hr (by rfl) mD FD.kp bD .nil pass0 (pa_cons (pv 0) (pa_cons (pe_op op_add (pv 1) pe_int) (pa_cons (pe_op op_rep (pe_lst (pa_cons pe_int pa_nil)) pe_int) pa_nil))))) (pss_cons (ps_set (i := 5) sc.nd rfl (Or.inl rfl) (pe_lst pa_nil)) (pss_cons (ps_for PassesOwn.never rfl (pi_range1 rfl T.range (pa_cons (pe_ix ix_list (pv 3) pe_int (fun _ _ => rfl)) pa_nil)) (pg_name (i := 6) sc.nd rfl (Or.inl rfl)) (pss_one (ps_if (pt_cmpR op_eq (pe_op op_mod (pe_ix ix_list (pv 3) pe_int (fun _ _ => rfl)) pe_int) pe_int (nomark _))
          (pss_one (ps_expr (pe_bm PySem.F.plainAttrs_list PySem.F.slot_list_append PySem.F.type_list_append mt_append (pv 5) (pa_cons (pe_op op_sub (pe_op op_mod (pe_ix ix_list (pv 4) (pv 6) (fun _ _ => rfl)) (pe_op op_add (pv 2) pe_int)) pe_int) pa_nil))))
          (pss_one (ps_expr (pe_bm PySem.F.plainAttrs_list PySem.F.slot_list_append PySem.F.type_list_append mt_append (pv 5) (pa_cons (pe_op op_add pe_int (pe_op op_mod (pe_ix ix_list (pv 4) (pv 6) (fun _ _ => rfl)) (pv 2))) pa_nil))))))) (pss_one (ps_ret (pv 5))))))), ?_⟩
    refine ⟨_, rfl, _, rfl, (by show 2 ≤ sizeLine; decide), fun z hz => ?_⟩
    have s1 : Same H (upd H z (.lst [V.int 31, V.int 97])) := (Same.refl _).new hz
    refine ⟨a, z, ns, zsW, k, rfl, s1.seq hA, SqL.of upd_same, hk, by decide, zsW_ok.2, fun hs p H1 hd s2 hp1 hp => ?_⟩
    have s3 := s1.trans s2
    obtain ⟨h0, e0, l0, u0⟩ := drawn_at hd (i := 0) (z := 31) rfl
    obtain ⟨h1, e1, l1, u1⟩ := drawn_at hd (i := 1) (z := 97) rfl
    have hp' : SqL K H1 p (hs.map V.int) := SqL.of hp
    refine ⟨_, rfl, _, rfl, _, _, rfl, rfl, (by show 1 ≤ sizeLine; decide), fun z hz => ?_⟩
    refine ⟨z, 30, _, rfl, rfl, upd_same, by decide, by decide, by decide, fun z2 hz2 => ?_⟩
    have t2 : Same H1 (upd (upd H1 z (.lst [V.int 9])) z2 (.lst (List.replicate (30 : Int).toNat [V.int 9]).flatten)) := ((Same.refl _).new hz).new hz2
    refine ⟨a, z2, ns, zsWd, _, rfl, (s3.trans t2).seq hA, SqL.of (by rw [upd_same, zsWd_map]; rfl), by omega, by rw [zsWd_ok.1]; decide, zsWd_ok.2, fun ds pd H3 hdd t3 hpd1 hpd => ?_⟩
    have t23 := t2.trans t3
    have tpd : SqL K H3 pd (ds.map V.int) := SqL.of hpd
    have tp := t23.seq hp'
    refine ⟨Nat.zero_le _, fun l hl0 => ?_⟩
    have t4 : Same H3 (upd H3 l (.lst [])) := (Same.refl _).new hl0
    refine ⟨_, rfl, p, _, _, _, rfl, rfl, t4.seq tp, at_int (by decide) (map_at e0), _, rfl, (by omega), (by omega), ?_⟩
    refine for_range (lo := 0) (n := h0.toNat) (fun j σ H4 => ∃ (v : Option V) (ws : List Int), σ = [some (.ref a), some (.int k), some (.int m), some (.ref p), some (.ref pd), some (.ref l), v] ∧ Same H3 H4 ∧ H4 l = some (.lst (ws.map V.int)) ∧ ws.length = j)
      ⟨_, [], rfl, t4, upd_same, rfl⟩ ?_ ?_
    · rintro j σ H4 hj ⟨v, ws, rfl, t5, hl4, hlj⟩
      obtain ⟨d0, f0⟩ : ∃ d, ds[j]? = some d := ⟨_, List.getElem?_eq_getElem (by rw [hdd.1, zsWd_ok.1]; omega)⟩
      have q0 : atI (ds.map V.int) (0 + (j : Int)) = some (.int d0) := at_int (by omega) (by rw [show (0 + (j : Int)).toNat = j by omega]; exact map_at f0)
      have tpd4 := t5.seq tpd
      have tp4 := t5.seq tp
      have hlen : (ws.map V.int).length < sizeLine := by
        rw [List.length_map]
        exact small1000 (by omega)
      refine ⟨_, rfl, p, _, _, _, rfl, rfl, tp4, at_int (by decide) (map_at e1), _, _, rfl, rfl, (by show (0 : Int) < 3; decide), rfl, _, rfl, ?_⟩
      refine ite2 (fun _ => ?_) (fun _ => ?_)
      · refine ⟨_, rfl, .inl ⟨rfl, _, SqL.of hl4⟩, _, rfl, _, rfl, pd, _, _, _, rfl, rfl, tpd4, q0, _, rfl, _, _, rfl, rfl, _, _, rfl, rfl, (by omega), _, _, rfl, rfl, l, _, _, rfl, rfl, hl4, hlen, ?_⟩
        exact ⟨_, ws ++ [_], rfl, t5.mut hl0, by rw [upd_same, ints_snoc], by simp [hlj]⟩
      · refine ⟨_, rfl, .inl ⟨rfl, _, SqL.of hl4⟩, _, rfl, _, rfl, pd, _, _, _, rfl, rfl, tpd4, q0, _, rfl, _, _, rfl, rfl, hm, _, _, rfl, rfl, l, _, _, rfl, rfl, hl4, hlen, ?_⟩
        exact ⟨_, ws ++ [_], rfl, t5.mut hl0, by rw [upd_same, ints_snoc], by simp [hlj]⟩
    · rintro σ H4 ⟨v, ws, rfl, t5, hl4, hlj⟩
      have sA : Same H H3 := s3.trans t23
      exact ⟨_, rfl, q ws l H4 (by omega) (sA.trans t5) (sA.free hl0) (SqL.of hl4)⟩
end
end Ok
namespace Ok
open PySem L2
/-! ### dicts by texts -/
def encK (kvs : List (Str × Int)) : List (Key × V) := kvs.map fun p => (Sum.inr p.1, V.int p.2)
theorem valV_enc (x : Str) : ∀ kvs : List (Str × Int), valV (encK kvs) (Sum.inr x : Key) = (get kvs x).map V.int
  | [] => rfl
  | p :: r => by
    show valV ((Sum.inr p.1, V.int p.2) :: encK r) (Sum.inr x : Key) = _
    rw [get_cons]
    by_cases h : p.1 = x
    · rw [if_pos h, valV_pos (by rw [h])]
      rfl
    · rw [if_neg h, valV_neg (fun q => h (Sum.inr.inj q)), valV_enc x r]
theorem putK_enc (kvs : List (Str × Int)) (x : Str) (v : Int) : putK (encK kvs) (Sum.inr x : Key) (V.int v) = encK (put kvs x v) := by
  unfold putK put
  have e : ((encK kvs).any fun kv => decide (kv.1 = (Sum.inr x : Key))) = kvs.any fun kv => decide (kv.1 = x) := by
    unfold encK
    rw [List.any_map]
    congr 1
    funext p
    simp
  rw [e]
  split
  · unfold encK
    rw [List.map_map, List.map_map]
    refine List.map_congr_left fun p _ => ?_
    by_cases h : p.1 = x <;> simp [h]
  · simp [encK]
theorem encK_keys (kvs : List (Str × Int)) : (encK kvs).map (·.1) = (kvs.map (·.1)).map Sum.inr := by simp [encK]
theorem encK_len (kvs : List (Str × Int)) : (encK kvs).length = kvs.length := by simp [encK]
/-- texts in order -/
theorem rising_le : ∀ (l : List Str) (p : Str), PyProof.Rows.risingS p l = true → (p :: l).Pairwise fun a b => a.cps.toList ≤ b.cps.toList
  | [], p, _ => by simp
  | x :: r, p, h => by
    have h' : (!PySem.Spec.ltCps x.cps.toList p.cps.toList && PyProof.Rows.risingS x r) = true := h
    rw [Bool.and_eq_true] at h'
    obtain ⟨h1, h2⟩ := h'
    have h3 : p.cps.toList ≤ x.cps.toList := by
      rw [PyProof.Rows.ltCps_eq] at h1
      have h4 : ¬ x.cps.toList < p.cps.toList := by simpa using h1
      exact h4
    have ih := rising_le r x h2
    refine List.pairwise_cons.mpr ⟨fun a ha => ?_, ih⟩
    rcases List.mem_cons.mp ha with e | e
    · rw [e]; exact h3
    · exact List.le_trans h3 ((List.pairwise_cons.mp ih).1 a e)
theorem sorted_le {l : List Str} (h : PyProof.Rows.sortedS l = true) : l.Pairwise fun a b => a.cps.toList ≤ b.cps.toList := by
  cases l with
  | nil => exact .nil
  | cons x r => exact rising_le r x h
theorem str_antisymm {a b : Str} (h1 : a.cps.toList ≤ b.cps.toList) (h2 : b.cps.toList ≤ a.cps.toList) : a = b := by
  have e : a.cps.toList = b.cps.toList := List.le_antisymm h1 h2
  cases a
  cases b
  congr
  exact Array.toList_inj.mp e
/-- the sorted list is one -/
theorem sorted_one : ∀ {l1 l2 : List Str}, l1.Perm l2 → l1.Pairwise (fun a b => a.cps.toList ≤ b.cps.toList) → l2.Pairwise (fun a b => a.cps.toList ≤ b.cps.toList) → l1 = l2
  | [], l2, p, _, _ => by
    have := p.length_eq
    cases l2 with
    | nil => rfl
    | cons a r => simp at this
  | a :: r, [], p, _, _ => by
    have := p.length_eq
    simp at this
  | a :: r, b :: t, p, h1, h2 => by
    have h1' := List.pairwise_cons.mp h1
    have h2' := List.pairwise_cons.mp h2
    have e : a = b := by
      have m1 : a ∈ b :: t := p.mem_iff.mp (by simp)
      have m2 : b ∈ a :: r := p.mem_iff.mpr (by simp)
      rcases List.mem_cons.mp m1 with q | q
      · exact q
      · rcases List.mem_cons.mp m2 with q2 | q2
        · exact q2.symm
        · exact str_antisymm (h1'.1 b q2) (h2'.1 a q)
    subst e
    rw [sorted_one ((List.perm_cons a).mp p) h1'.2 h2'.2]
/-- what is told of values -/
def toldOf (kvs : List (Str × Int)) (ys : List Str) : List (Str × Int) := ys.filterMap fun x => (get kvs x).bind fun v => if v = 0 then none else some (x, v)
theorem toldOf_snoc (kvs : List (Str × Int)) (ys : List Str) (x : Str) : toldOf kvs (ys ++ [x]) = toldOf kvs ys ++ (((get kvs x).bind fun v => if v = 0 then none else some (x, v)).toList) := by
  unfold toldOf
  rw [List.filterMap_append]
  congr 1
theorem toldOf_len (kvs : List (Str × Int)) (ys : List Str) : (toldOf kvs ys).length ≤ ys.length := List.length_filterMap_le _ _
theorem told_same {kvs kvs' : List (Str × Int)} {ys ys' : List Str} (hg : ∀ x, get kvs x = get kvs' x) (n : (kvs.map (·.1)).Nodup) (n' : (kvs'.map (·.1)).Nodup) (p : ys.Perm (kvs.map (·.1))) (s : PyProof.Rows.sortedS ys = true) (p' : ys'.Perm (kvs'.map (·.1))) (s' : PyProof.Rows.sortedS ys' = true) : toldOf kvs ys = toldOf kvs' ys' := by
  have pk : (kvs.map (·.1)).Perm (kvs'.map (·.1)) := by
    refine (List.perm_ext_iff_of_nodup n n').mpr fun x => ?_
    rw [← get_isSome, ← get_isSome, hg x]
  have e : ys = ys' := sorted_one ((p.trans pk).trans p'.symm) (sorted_le s) (sorted_le s')
  subst e
  unfold toldOf
  congr 1
  funext x
  rw [hg x]
theorem take_snoc {α : Type} {l : List α} {i : Nat} {x : α} (h : l[i]? = some x) : l.take (i + 1) = l.take i ++ [x] := by
  rw [List.take_add_one, h]
  rfl
section
variable {P : Program} {w : World} {K : PySem.W.Frag} {mg : Str → Option Value} {base : Heap}
def spTold (K : PySem.W.Frag) : Sp := fun vs H Q _ => ∃ (d : Addr) (kvs : List (Str × Int)), vs = [.ref d] ∧ H d = some (.dK (encK kvs)) ∧ (kvs.map (·.1)).Nodup ∧ kvs.length < 64 ∧
  ∀ (ys : List Str) (p : Addr) (H' : Hp), ys.Perm (kvs.map (·.1)) → PyProof.Rows.sortedS ys = true → Same H H' → H p = none → RowsAt K H' p ((toldOf kvs ys).map encT) → Q (.ref p) H'
theorem scTold : FnScope ["values", "item"] ["values"] (defScope sTold) := ⟨rfl, rfl, rfl, by decide +kernel, rfl, by decide +kernel, by decide +kernel⟩
theorem ok_told {f : Addr} {fd : FuncData} (F : Fun K "told_values" "told_values" sTold f fd) (T : Glb mg) : FnOk P w K mg base CX0 1 f fd ["values"] (spTold K) := by
  have sc := scTold
  refine F.ok scTold (fun vs H Q E h => ?_) (fun cdv A outer s H vs Q E hr h => ?_)
  · obtain ⟨d, kvs, rfl, _⟩ := h
    rfl
  · obtain ⟨d, kvs, rfl, hd, nk, hl, q⟩ := h
    have hu := hu_of hr
    refine ⟨_, (pss_one (ps_ret (pe_lc (own := [("item", 1)]) (g := gName 1) rfl sc.nd (pi_list (pe_callB (call_sortedD rfl) (by rfl) T.sorted (by decide +kernel) (pa_cons (pv 0) pa_nil)))
      (blkOk_by (own := [("item", 1)]) (N := ["values", "item"]) (sc := defScope sTold) (by decide +kernel))
      (fun _ _ _ _ _ => pg_name (i := 1) sc.nd rfl (Or.inl rfl)) (fun _ _ _ _ _ => pts_one (pt_cmpR op_ne (pe_dget hu (pv 0) (pv 1) (fun _ _ => rfl)) pe_int (nomark _)))
      (fun _ _ _ _ _ => (pe_tup (pa_cons (pv 1) (pa_cons (pe_dget hu (pv 0) (pv 1) (fun _ _ => rfl)) pa_nil))))))), ?_⟩
    refine ⟨_, rfl, d, encK kvs, kvs.map (·.1), rfl, .inl hd, encK_keys kvs, by rw [List.length_map]; exact hl, fun ys p hp hs hp0 => ?_⟩
    have s1 : Same H (upd H p (.lst (ys.map V.str))) := (Same.refl _).new hp0
    refine ⟨p, rfl, ⟨_, SqL.of upd_same⟩, fun D hD => ?_⟩
    have hD0 := s1.free hD
    have hyl : ys.length < 64 := by
      rw [hp.length_eq, List.length_map]
      exact hl
    refine lc_list (K := K) (a := p) (xs := ys.map V.str) (fun i H2 => ∃ as, Same (upd H p (.lst (ys.map V.str))) H2 ∧ H2 D = some (.lst (as.map V.ref)) ∧ TupsAt K H2 as ((toldOf kvs (ys.take i)).map encT))
      ⟨[], (Same.refl _).new hD, upd_same, TupsAt.nil⟩ (fun i H2 _ ⟨_, t, _⟩ => t.seq (SqL.of upd_same)) ?_ ?_
    · rintro i y H2 hi ⟨as, t, hD2, hT⟩
      obtain ⟨x, hx, rfl⟩ := map_get hi
      have hd2 := t _ _ (s1 _ _ hd)
      have hxk : x ∈ kvs.map (·.1) := hp.mem_iff.mp (List.mem_of_getElem? hx)
      obtain ⟨v, hv⟩ := Option.isSome_iff_exists.mp (get_isSome.mpr hxk)
      have g : DGet H2 d (.str x) (some (.int v)) := by
        have := DGet.k (k := Sum.inr x) hd2
        rw [valV_enc, hv] at this
        exact this
      have hlen : as.length ≤ 64 := by
        rw [hT.1, List.length_map]
        have := toldOf_len kvs (ys.take i)
        rw [List.length_take] at this
        omega
      refine ⟨rfl, _, rfl, _, rfl, d, _, rfl, g, rfl, _, rfl, ?_⟩
      rw [take_snoc hx, toldOf_snoc, hv]
      by_cases hz : v = 0
      · subst hz
        refine iteF ?_
        exact ⟨as, t, hD2, by simpa using hT⟩
      · have e : (!decide (V.int v = V.int 0)) = true := by
          rw [decide_eq_false (fun q => hz (V.int.inj q))]
          rfl
        rw [e]
        refine iteT ?_
        refine ⟨_, rfl, _, rfl, _, rfl, d, _, rfl, g, (by show 2 ≤ sizeLine; decide), fun b hb => ?_⟩
        have nDb : D ≠ b := ne_of_none hD2 hb
        have hD3 : (upd H2 b (.tup [.str x, .int v])) D = some (.lst (as.map V.ref)) := by rw [upd_ne nDb]; exact hD2
        refine ⟨_, hD3, by rw [List.length_map]; exact small1000 (by omega), as ++ [b], (t.new hb).mut hD, by rw [upd_same, refs_snoc], ?_⟩
        have h2 : ((some v).bind fun v => if v = 0 then none else some (x, v)).toList = [(x, v)] := by simp [hz]
        rw [h2, List.map_append]
        exact ((hT.same ((Same.refl _).new hb)).snoc (SqT.of upd_same)).upd (mut_lst hD3)
    · rintro H2 ⟨as, t, hD2, hT⟩
      rw [List.length_map, List.take_length] at hT
      exact q ys D H2 hp hs (s1.trans t) hD0 ⟨as, SqL.of hD2, hT⟩
end
end Ok
namespace Ok
open PySem L2
/-! ### comprehensions in short -/
theorem take_len {α : Type} {l : List α} {i : Nat} (h : l.length ≤ i) : l.take i = l := List.take_of_length_le h
theorem fm_snoc {α β : Type} {F : α → Option β} {l : List α} {i : Nat} {y : α} (h : l[i]? = some y) : (l.take (i + 1)).filterMap F = (l.take i).filterMap F ++ (F y).toList := by
  rw [take_snoc h, List.filterMap_append]
  congr 1
theorem fm_len {α β : Type} {F : α → Option β} (l : List α) (i : Nat) : ((l.take i).filterMap F).length ≤ l.length := by
  refine Nat.le_trans (List.length_filterMap_le _ _) ?_
  rw [List.length_take]
  exact Nat.min_le_right _ _
/-- the block's results are values without objects of their own -/
theorem lc_flat {α : Type} {J : It} {g : TG} {tt : TT} {te : TE} {vs : List Nat} {σ : St} {H1 : Hp} {D : Addr} {Qd : Hp → Prop} (items : List α) (F : α → Option V) (hz : items.length ≤ 1000) (hD : H1 D = none)
    (hgo : ∀ i H, i < items.length → Same H1 H → J.go i H) (hst : ∀ H, Same H1 H → J.stop items.length H)
    (turn : ∀ (i : Nat) (y : α) (H : Hp) (x : V) (H' : Hp), items[i]? = some y → Same H1 H → J.yld i H x H' → ∀ (Yes : V → Hp → Prop) (No : Hp → Prop), (∀ v H2, F y = some v → Same H H2 → Yes v H2) → (∀ H2, F y = none → Same H H2 → No H2) →
      g x (wipe σ vs) H' fun σ2 H2 => wipe σ2 vs = wipe σ vs ∧ tt σ2 H2 fun b H3 => if b = true then te σ2 H3 Yes else No H3)
    (done : ∀ H, Same H1 H → H D = some (.lst (items.filterMap F)) → Qd H) :
    ∃ W : Nat → Nat → Hp → Prop, (∃ m, W 0 m (upd H1 D (.lst []))) ∧ ∀ i m H, W i m H →
      (J.stop i H ∧ Qd H) ∨ (J.go i H ∧ ∃ Nx : Hp → Prop, (∀ H', Nx H' → ∃ m', m' < m ∧ W (i + 1) m' H') ∧ ∀ x H', J.yld i H x H' → g x (wipe σ vs) H' fun σ2 H2 => wipe σ2 vs = wipe σ vs ∧ tt σ2 H2 fun b H3 =>
        if b = true then te σ2 H3 fun y H4 => ∃ acc, H4 D = some (.lst acc) ∧ acc.length < sizeLine ∧ Nx (upd H4 D (.lst (acc ++ [y]))) else Nx H3) := by
  refine ⟨fun i m H => m = items.length - i ∧ i ≤ items.length ∧ Same H1 H ∧ H D = some (.lst ((items.take i).filterMap F)), ⟨items.length, by simp, Nat.zero_le _, (Same.refl _).new hD, upd_same⟩, ?_⟩
  rintro i m H ⟨rfl, hi, s, hd⟩
  by_cases hlt : i < items.length
  · have hy : items[i]? = some items[i] := List.getElem?_eq_getElem hlt
    refine .inr ⟨hgo i H hlt s, fun H' => i + 1 ≤ items.length ∧ Same H1 H' ∧ H' D = some (.lst ((items.take (i + 1)).filterMap F)), fun H' ⟨n1, n2, n3⟩ => ⟨_, by omega, rfl, n1, n2, n3⟩, fun x H' hx => ?_⟩
    refine turn i items[i] H x H' hy s hx _ _ (fun v H2 hv s2 => ?_) (fun H2 hv s2 => ?_)
    · refine ⟨_, s2 _ _ hd, Nat.lt_of_le_of_lt (fm_len items i) (small1000 hz), hlt, (s.trans s2).mut hD, ?_⟩
      rw [upd_same, fm_snoc hy, hv]
      rfl
    · refine ⟨hlt, s.trans s2, ?_⟩
      rw [s2 _ _ hd, fm_snoc hy, hv]
      simp
  · have e : i = items.length := by omega
    subst e
    rw [List.take_length] at hd
    exact .inl ⟨hst H s, done H s hd⟩
/-- the block's results are new tuples -/
theorem lc_tups {α : Type} {K : PySem.W.Frag} {J : It} {g : TG} {tt : TT} {te : TE} {vs : List Nat} {σ : St} {H1 : Hp} {D : Addr} {Qd : Hp → Prop} (items : List α) (F : α → Option (List V)) (hz : items.length ≤ 1000) (hD : H1 D = none)
    (hgo : ∀ i H, i < items.length → Same H1 H → J.go i H) (hst : ∀ H, Same H1 H → J.stop items.length H)
    (turn : ∀ (i : Nat) (y : α) (H : Hp) (x : V) (H' : Hp), items[i]? = some y → Same H1 H → J.yld i H x H' → ∀ (Yes : V → Hp → Prop) (No : Hp → Prop), (∀ r b H2, F y = some r → H2 b = some (.tup r) → Same H H2 → Yes (.ref b) H2) → (∀ H2, F y = none → Same H H2 → No H2) →
      g x (wipe σ vs) H' fun σ2 H2 => wipe σ2 vs = wipe σ vs ∧ tt σ2 H2 fun b H3 => if b = true then te σ2 H3 Yes else No H3)
    (done : ∀ H as, Same H1 H → H D = some (.lst (as.map V.ref)) → TupsAt K H as (items.filterMap F) → Qd H) :
    ∃ W : Nat → Nat → Hp → Prop, (∃ m, W 0 m (upd H1 D (.lst []))) ∧ ∀ i m H, W i m H →
      (J.stop i H ∧ Qd H) ∨ (J.go i H ∧ ∃ Nx : Hp → Prop, (∀ H', Nx H' → ∃ m', m' < m ∧ W (i + 1) m' H') ∧ ∀ x H', J.yld i H x H' → g x (wipe σ vs) H' fun σ2 H2 => wipe σ2 vs = wipe σ vs ∧ tt σ2 H2 fun b H3 =>
        if b = true then te σ2 H3 fun y H4 => ∃ acc, H4 D = some (.lst acc) ∧ acc.length < sizeLine ∧ Nx (upd H4 D (.lst (acc ++ [y]))) else Nx H3) := by
  refine ⟨fun i m H => m = items.length - i ∧ i ≤ items.length ∧ Same H1 H ∧ ∃ as, H D = some (.lst (as.map V.ref)) ∧ TupsAt K H as ((items.take i).filterMap F), ⟨items.length, by simp, Nat.zero_le _, (Same.refl _).new hD, [], upd_same, TupsAt.nil⟩, ?_⟩
  rintro i m H ⟨rfl, hi, s, as, hd, hT⟩
  by_cases hlt : i < items.length
  · have hy : items[i]? = some items[i] := List.getElem?_eq_getElem hlt
    refine .inr ⟨hgo i H hlt s, fun H' => i + 1 ≤ items.length ∧ Same H1 H' ∧ ∃ as, H' D = some (.lst (as.map V.ref)) ∧ TupsAt K H' as ((items.take (i + 1)).filterMap F), fun H' ⟨n1, n2, n3⟩ => ⟨_, by omega, rfl, n1, n2, n3⟩, fun x H' hx => ?_⟩
    refine turn i items[i] H x H' hy s hx _ _ (fun r b H2 hv hb s2 => ?_) (fun H2 hv s2 => ?_)
    · have hd2 := s2 _ _ hd
      refine ⟨_, hd2, ?_, hlt, (s.trans s2).mut hD, as ++ [b], by rw [upd_same, refs_snoc], ?_⟩
      · rw [List.length_map, hT.1]
        exact Nat.lt_of_le_of_lt (fm_len items i) (small1000 hz)
      · rw [fm_snoc hy, hv]
        exact ((hT.same s2).snoc (SqT.of hb)).upd (mut_lst hd2)
    · refine ⟨hlt, s.trans s2, as, s2 _ _ hd, ?_⟩
      rw [fm_snoc hy, hv]
      simpa using hT.same s2
  · have e : i = items.length := by omega
    subst e
    rw [List.take_length] at hT
    exact .inl ⟨hst H s, done H as s hd hT⟩
/-- a list is walked -/
theorem itl_go {K : PySem.W.Frag} {a : Addr} {xs : List V} {H1 : Hp} (h : SqL K H1 a xs) {n : Nat} (hn : xs.length = n) : ∀ i H, i < n → Same H1 H → (Itl K a).go i H := fun i H hi s => ⟨xs, xs[i], s.seq h, List.getElem?_eq_getElem (by omega)⟩
theorem itl_stop {K : PySem.W.Frag} {a : Addr} {xs : List V} {H1 : Hp} (h : SqL K H1 a xs) {n : Nat} (hn : xs.length = n) : ∀ H, Same H1 H → (Itl K a).stop n H := fun H s => ⟨xs, s.seq h, by omega⟩
theorem itl_yld {K : PySem.W.Frag} {a : Addr} {xs : List V} {H1 H H' : Hp} {i : Nat} {x : V} (h : SqL K H1 a xs) (s : Same H1 H) (y : (Itl K a).yld i H x H') : H' = H ∧ xs[i]? = some x := ⟨y.1, y.2 xs (s.seq h)⟩
theorem flat_ints (l : List Int) : (l.map V.int).all flatV = true := by
  induction l with
  | nil => rfl
  | cons a r ih => rw [List.map_cons, List.all_cons, ih]; rfl
theorem in_ints (x : Int) (l : List Int) : inV (.int x) (l.map V.int) = decide (x ∈ l) := by
  induction l with
  | nil => rfl
  | cons a r ih =>
    have e : inV (.int x) ((a :: r).map V.int) = ((a == x) || inV (.int x) (r.map V.int)) := rfl
    rw [e, ih]
    by_cases h : a = x
    · subst h; simp
    · have h2 : ¬ x = a := fun q => h q.symm
      simp [h, h2]
theorem fm_some {α β γ : Type} {F : α → Option β} {f : β → γ} (l : List α) : l.filterMap (fun x => (F x).map f) = (l.filterMap F).map f := by
  induction l with
  | nil => rfl
  | cons a r ih =>
    rw [List.filterMap_cons, List.filterMap_cons]
    cases h : F a with
    | none => simpa using ih
    | some b => simp [ih]
section
variable {P : Program} {w : World} {K : PySem.W.Frag} {mg : Str → Option Value} {base : Heap}
/-! ### order_of -/
theorem erase_perm {α : Type} : ∀ {l : List α} {i : Nat} (h : i < l.length), (l[i] :: l.eraseIdx i).Perm l
  | [], i, h => absurd h (by simp)
  | a :: r, 0, h => by simp
  | a :: r, i + 1, h => by
    have h' : i < r.length := by simpa using h
    have ih := erase_perm h'
    have e : (a :: r)[i + 1] = r[i] := rfl
    have e2 : (a :: r).eraseIdx (i + 1) = a :: r.eraseIdx i := rfl
    rw [e, e2]
    exact (List.Perm.swap a r[i] _).trans (ih.cons a)
def heldOf (ps : List (Int × Int)) (left : List Int) : List Int := ps.filterMap fun p => if p.1 ∈ left then some p.2 else none
theorem mem_held {ps : List (Int × Int)} {left : List Int} {y : Int} : y ∈ heldOf ps left ↔ ∃ x ∈ left, (x, y) ∈ ps := by
  unfold heldOf
  rw [List.mem_filterMap]
  constructor
  · rintro ⟨p, hp, e⟩
    by_cases h : p.1 ∈ left
    · rw [if_pos h] at e
      exact ⟨p.1, h, by rw [← Option.some.inj e]; exact hp⟩
    · rw [if_neg h] at e; cases e
  · rintro ⟨x, hx, h⟩
    exact ⟨(x, y), h, by rw [if_pos hx]⟩
def readyOf (ps : List (Int × Int)) (left : List Int) : List Int := left.filterMap fun n => if n ∈ heldOf ps left then none else some n
theorem mem_ready {ps : List (Int × Int)} {left : List Int} {y : Int} : y ∈ readyOf ps left ↔ y ∈ left ∧ ∀ x ∈ left, (x, y) ∉ ps := by
  unfold readyOf
  rw [List.mem_filterMap]
  constructor
  · rintro ⟨p, hp, e⟩
    by_cases h : p ∈ heldOf ps left
    · rw [if_pos h] at e; cases e
    · rw [if_neg h] at e
      cases e
      exact ⟨hp, fun x hx q => h (mem_held.mpr ⟨x, hx, q⟩)⟩
  · rintro ⟨h1, h2⟩
    exact ⟨y, h1, by rw [if_neg]; intro q; obtain ⟨x, hx, q⟩ := mem_held.mp q; exact h2 x hx q⟩
def spOrderOf (K : PySem.W.Frag) : Sp := fun vs H Q _ => ∃ (a b : Addr) (ns : List Int) (ps : List (Int × Int)), vs = [.ref a, .ref b] ∧ SqL K H a (ns.map V.int) ∧ RowsAt K H b (ps.map encP) ∧ ns.Nodup ∧ ns.length < 64 ∧ ps.length ≤ 1000 ∧
  (∀ (S : List Int) (H' : Hp), S ≠ [] → (∀ x ∈ S, x ∈ ns) → (∀ y ∈ S, ∃ x ∈ S, (x, y) ∈ ps) → Same H H' → Q .non H') ∧
  ∀ (order : List Int) (p : Addr) (H' : Hp), order.Perm ns → Topo ps order → Same H H' → H p = none → SqL K H' p (order.map V.int) → Q (.ref p) H'
abbrev nOrder : List Str := ["numbers", "pairs", "left", "order", "held", "ready", "first", "second", "number"]
theorem scOrderOf : FnScope nOrder ["numbers", "pairs"] (defScope sOrderOf) := ⟨rfl, rfl, rfl, by decide +kernel, rfl, by decide +kernel, by decide +kernel⟩
theorem ok_orderOf {f : Addr} {fd : FuncData} (F : Fun K "order_of" "order_of" sOrderOf f fd) (T : Glb mg) : FnOk P w K mg base CX0 1 f fd ["numbers", "pairs"] (spOrderOf K) := by
  have sc := scOrderOf
  refine F.ok scOrderOf (fun vs H Q E h => ?_) (fun cdv A outer s H vs Q E hr h => ?_)
  · obtain ⟨a, b, ns, ps, rfl, _⟩ := h
    rfl
  · obtain ⟨a, b, ns, ps, rfl, hA, hB, hnd, hn64, hp1000, qN, qS⟩ := h
    refine ⟨_, (pss_cons (ps_set (i := 2) sc.nd rfl (Or.inr rfl) (pe_callB cr_sorted (by rfl) T.sorted (by decide +kernel) (pa_cons (pv 0) pa_nil))) (pss_cons (ps_set (i := 3) sc.nd rfl (Or.inl rfl) (pe_lst pa_nil)) (pss_cons (ps_while PassesOwn.never (pt_cmpR op_gt (pe_callB call_len_seq (by rfl) T.len PySem.boot_len (pa_cons (pv 2) pa_nil)) pe_int (nomark _)) (pss_cons (ps_set (i := 4) sc.nd rfl (Or.inr rfl) (pe_lc (own := [("first", 6), ("second", 7)]) (g := gTup K 2 (gCons (gName 6) (gCons (gName 7) gNil))) (tt := tTest (tOp (rIn K false) (tVar 6) (tVar 2))) (te := tVar 7) rfl sc.nd (pi_list (pv 1)) (blkOk_by (own := [("first", 6), ("second", 7)]) (N := nOrder) (sc := defScope sOrderOf) (by decide +kernel))
          (fun _ _ _ _ _ => (pg_tup rfl (pgs_cons (pg_name (i := 6) sc.nd rfl (Or.inl rfl)) (pgs_cons (pg_name (i := 7) sc.nd rfl (Or.inl rfl)) pgs_nil)))) (fun _ _ _ _ _ => pts_one (pt_cmpR op_in_seq (pv 6) (pv 2) rfl)) (fun _ _ _ _ _ => (pv 7)))) (pss_cons (ps_setLc (i := 5) (own := [("number", 8)]) (g := gName 8) (tt := tTest (tOp (rIn K true) (tVar 8) (tVar 4))) (te := tVar 8) rfl sc.nd rfl rfl (sw_true rfl rfl rfl (by decide +kernel)) (pi_list (pv 2)) (blkOk_by (own := [("number", 8)]) (N := nOrder) (sc := defScope sOrderOf) (by decide +kernel))
          (fun _ _ _ _ _ => (pg_name (i := 8) sc.nd rfl (Or.inl rfl))) (fun _ _ _ _ _ => pts_one (pt_cmpR op_notIn_seq (pv 8) (pv 4) rfl)) (fun _ _ _ _ _ => (pv 8))) (pss_cons (ps_if (pt_cmpR op_eq (pe_callB call_len_seq (by rfl) T.len PySem.boot_len (pa_cons (pv 5) pa_nil)) pe_int (nomark _)) (pss_one (ps_ret pe_non)) pss_nil) (pss_cons (ps_expr (pe_bm PySem.F.plainAttrs_list PySem.F.slot_list_append PySem.F.type_list_append mt_append (pv 3) (pa_cons (pe_ix ix_list (pv 5) pe_int (fun _ _ => rfl)) pa_nil))) (pss_one (ps_expr (pe_bm PySem.F.plainAttrs_list PySem.F.slot_list_remove PySem.F.type_list_remove mt_remove (pv 2) (pa_cons (pe_ix ix_list (pv 5) pe_int (fun _ _ => rfl)) pa_nil))))))))) (pss_one (ps_ret (pv 3)))))), ?_⟩
    obtain ⟨as, hBl, hBt⟩ := hB
    have hBn : (as.map V.ref).length = ps.length := by rw [List.length_map, hBt.1, List.length_map]
    refine ⟨_, rfl, a, ns, rfl, hA, hn64, fun ns' l hpm hsort hl => ?_⟩
    have s1 : Same H (upd H l (.lst (ns'.map V.int))) := (Same.refl _).new hl
    refine ⟨Nat.zero_le _, fun o ho => ?_⟩
    have nlo : l ≠ o := fun e => by rw [← e, upd_same] at ho; cases ho
    have ho0 : H o = none := s1.free ho
    refine ⟨fun m σ H2 => ∃ (v4 v5 : Option V) (left order : List Int), m = left.length ∧ σ = [some (.ref a), some (.ref b), some (.ref l), some (.ref o), v4, v5, none, none, none] ∧ Same H H2 ∧ H2 l = some (.lst (left.map V.int)) ∧ H2 o = some (.lst (order.map V.int)) ∧
      (order ++ left).Perm ns ∧ Topo ps order ∧ ∀ x ∈ order, ∀ y ∈ left, (y, x) ∉ ps, ⟨_, none, none, ns', [], rfl, rfl, s1.new ho, by rw [upd_ne nlo, upd_same], upd_same, hpm, .nil, fun x hx => nomatch hx⟩, ?_⟩
    rintro m σ H2 ⟨v4, v5, left, order, rfl, rfl, s2, hl2, ho2, hp, ht, hop⟩
    have nd2 : (order ++ left).Nodup := hp.nodup_iff.mpr hnd
    have hlen : order.length + left.length < 64 := by
      have := hp.length_eq
      rw [List.length_append] at this
      omega
    refine ⟨_, rfl, l, _, rfl, .inl (SqL.of hl2), _, _, rfl, rfl, _, rfl, ?_⟩
    refine ite2 (fun c => ?_) (fun c => ?_)
    · have hne : left ≠ [] := fun e => by
        rw [e] at c
        simp at c
      refine ⟨fun σ' H' => ∃ m', m' < left.length ∧ ∃ (v4 v5 : Option V) (left order : List Int), m' = left.length ∧ σ' = [some (.ref a), some (.ref b), some (.ref l), some (.ref o), v4, v5, none, none, none] ∧ Same H H' ∧ H' l = some (.lst (left.map V.int)) ∧ H' o = some (.lst (order.map V.int)) ∧
        (order ++ left).Perm ns ∧ Topo ps order ∧ ∀ x ∈ order, ∀ y ∈ left, (y, x) ∉ ps, fun _ _ h => h, ?_⟩
      -- held
      refine ⟨_, rfl, b, rfl, ⟨_, s2.seq hBl⟩, fun D hD => lc_flat ps (fun p => (if p.1 ∈ left then some p.2 else none).map V.int) hp1000 hD (itl_go (s2.seq hBl) hBn) (itl_stop (s2.seq hBl) hBn) ?_ ?_⟩
      · intro i y Hh x H' hy sh yl Yes No hYes hNo
        obtain ⟨rfl, hx⟩ := itl_yld (s2.seq hBl) sh yl
        obtain ⟨bb, r, rfl, _, hr', hT⟩ := hBt.at hx
        obtain ⟨y', hy', rfl⟩ := map_get hr'
        rw [hy] at hy'
        cases hy'
        refine ⟨bb, _, rfl, (s2.trans sh).sqt hT, rfl, _, _, rfl, _, _, rfl, rfl, rfl, _, rfl, _, rfl, l, _, rfl, .inl (SqL.of (sh _ _ hl2)), rfl, flat_ints _, _, rfl, ?_⟩
        show if inV (V.int y.1) (left.map V.int) = true then _ else _
        rw [in_ints]
        refine ite2 (fun c => ?_) (fun c => ?_)
        · exact ⟨_, rfl, hYes _ _ (by rw [if_pos (of_decide_eq_true c)]; rfl) (Same.refl _)⟩
        · exact hNo _ (by rw [if_neg (fun q => c (decide_eq_true q))]; rfl) (Same.refl _)
      · intro H3 s3 h3
        have e3 : ps.filterMap (fun p => (if p.1 ∈ left then some p.2 else none).map V.int) = (heldOf ps left).map V.int := fm_some ps
        rw [e3] at h3
        have s23 := s2.trans s3
        have hl3 := s3 _ _ hl2
        -- ready
        refine ⟨_, rfl, l, rfl, ⟨_, SqL.of hl3⟩, fun D2 hD2 => lc_flat left (fun n => (if n ∈ heldOf ps left then none else some n).map V.int) (by omega) hD2 (itl_go (SqL.of hl3) (by simp)) (itl_stop (SqL.of hl3) (by simp)) ?_ ?_⟩
        · intro i y Hh x H' hy sh yl Yes No hYes hNo
          obtain ⟨rfl, hx⟩ := itl_yld (SqL.of hl3) sh yl
          rw [map_at hy] at hx
          cases hx
          refine ⟨rfl, _, rfl, _, rfl, D, _, rfl, .inl (SqL.of (sh _ _ h3)), rfl, flat_ints _, _, rfl, ?_⟩
          show if (!inV (V.int y) ((heldOf ps left).map V.int)) = true then _ else _
          rw [in_ints]
          by_cases hm : y ∈ heldOf ps left
          · rw [decide_eq_true hm]
            exact iteF (hNo _ (by rw [if_pos hm]; rfl) (Same.refl _))
          · rw [decide_eq_false hm]
            exact iteT ⟨_, rfl, hYes _ _ (by rw [if_neg hm]; rfl) (Same.refl _)⟩
        · intro H4 s4 h4
          have e4 : left.filterMap (fun n => (if n ∈ heldOf ps left then none else some n).map V.int) = (readyOf ps left).map V.int := fm_some left
          rw [e4] at h4
          have s24 := s23.trans s4
          have hl4 := s4 _ _ hl3
          have ho4 := s4 _ _ (s3 _ _ ho2)
          refine ⟨_, rfl, D2, _, rfl, .inl (SqL.of h4), rfl, _, rfl, ?_⟩
          cases hready : readyOf ps left with
          | nil =>
            refine iteT ?_
            refine qN left H4 hne (fun x hx => hp.mem_iff.mp (List.mem_append_right _ hx)) (fun y hy => ?_) s24
            by_cases hq : ∃ x ∈ left, (x, y) ∈ ps
            · exact hq
            · have : y ∈ readyOf ps left := mem_ready.mpr ⟨hy, fun x hx q => hq ⟨x, hx, q⟩⟩
              rw [hready] at this
              cases this
          | cons r rest =>
            have hr : r ∈ readyOf ps left := by rw [hready]; simp
            obtain ⟨hrl, hrn⟩ := mem_ready.mp hr
            have cne : decide (V.int (((((r :: rest).map V.int).length : Nat)) : Int) = V.int 0) = false := decide_eq_false (fun q => by
              have := V.int.inj q
              simp only [List.map_cons, List.length_cons] at this
              omega)
            rw [cne]
            refine iteF ?_
            rw [hready] at h4
            have q0 : atI ((r :: rest).map V.int) 0 = some (.int r) := at_int (by decide) rfl
            refine ⟨_, rfl, .inl ⟨rfl, _, SqL.of ho4⟩, _, rfl, D2, _, _, _, rfl, rfl, SqL.of h4, q0, o, _, _, rfl, rfl, ho4, (by rw [List.length_map]; exact small1000 (by omega)), ?_⟩
            have nol : l ≠ o := nlo
            have nD2o : D2 ≠ o := fun e => by
              have := s4 _ _ (s3 _ _ ho2)
              have q2 := s3 _ _ ho2
              rw [← e, hD2] at q2
              cases q2
            have h4' : (upd H4 o (.lst (order.map V.int ++ [V.int r]))) D2 = some (.lst ((r :: rest).map V.int)) := by rw [upd_ne nD2o]; exact h4
            have hl4' : (upd H4 o (.lst (order.map V.int ++ [V.int r]))) l = some (.lst (left.map V.int)) := by rw [upd_ne nlo]; exact hl4
            have hj := List.idxOf_lt_length_of_mem hrl
            have ej : left[left.idxOf r] = r := List.getElem_idxOf hj
            have ndl : left.Nodup := (List.nodup_append.mp nd2).2.1
            refine ⟨_, rfl, .inl ⟨rfl, _, SqL.of hl4'⟩, _, rfl, D2, _, _, _, rfl, rfl, SqL.of h4', q0, l, left, r, left.idxOf r, rfl, rfl, hl4', by rw [List.getElem?_eq_getElem hj, ej], fun m hm e => ?_, ?_⟩
            · obtain ⟨hm1, hm2⟩ := List.getElem?_eq_some_iff.mp e
              have : left[m] = left[left.idxOf r] := by rw [hm2, ej]
              have := (List.getElem_inj ndl).mp this
              omega
            · have pe : (r :: left.eraseIdx (left.idxOf r)).Perm left := by
                have := erase_perm hj
                rw [ej] at this
                exact this
              refine ⟨_, ?_, _, _, left.eraseIdx (left.idxOf r), order ++ [r], rfl, rfl, (s24.mut ho0).mut hl, upd_same, ?_, ?_, ?_, ?_⟩
              · rw [List.length_eraseIdx_of_lt hj]
                omega
              · rw [upd_ne (Ne.symm nlo), upd_same, ints_snoc]
              · have e1 : order ++ [r] ++ left.eraseIdx (left.idxOf r) = order ++ (r :: left.eraseIdx (left.idxOf r)) := by simp
                rw [e1]
                exact (List.Perm.append_left order pe).trans hp
              · refine List.pairwise_append.mpr ⟨ht, by simp, fun x hx y hy => ?_⟩
                have : y = r := by simpa using hy
                rw [this]
                exact hop x hx r hrl
              · intro x hx y hy
                have hyl : y ∈ left := pe.mem_iff.mp (List.mem_cons_of_mem _ hy)
                rcases List.mem_append.mp hx with q | q
                · exact hop x q y hyl
                · have : x = r := by simpa using q
                  rw [this]
                  exact hrn y hyl
    · have hnil : left = [] := by
        cases left with
        | nil => rfl
        | cons x r =>
          exfalso
          apply c
          refine decide_eq_true ?_
          simp only [List.map_cons, List.length_cons]
          omega
      subst hnil
      rw [List.append_nil] at hp
      exact ⟨_, rfl, qS order o H2 hp ht s2 ho0 (SqL.of ho2)⟩
end
end Ok
namespace Ok
open PySem L2
/-! ### pairs of ints as data -/
def prD (p : Int × Int) : PyData := .tuple [.int p.1, .int p.2]
theorem prD_depth (p : Int × Int) : (prD p).depth = 1 := by simp [prD, PyData.depth, PyData.depthAll]
theorem prD_lay (p : Int × Int) : (prD p).canLay0 = true := by simp [prD, PyData.canLay0, PyData.canLayAll0]
theorem prDs_lay : ∀ ps : List (Int × Int), PyData.canLayAll0 (ps.map prD) = true
  | [] => by simp [PyData.canLayAll0]
  | p :: r => by simp [PyData.canLayAll0, prD_lay p, prDs_lay r]
theorem prDs_depth : ∀ ps : List (Int × Int), PyData.depthAll (ps.map prD) ≤ 1
  | [] => by simp [PyData.depthAll]
  | p :: r => by
    have h1 := prDs_depth r
    have h2 := prD_depth p
    simp only [List.map_cons, PyData.depthAll]
    omega
theorem prD_shaped (p : Int × Int) : SeqAt.shaped (prD p) = true := by
  have h := prD_depth p
  show ((prD p).canLay0 && decide ((prD p).depth ≤ 64)) = true
  rw [Bool.and_eq_true]
  exact ⟨prD_lay p, decide_eq_true (by omega)⟩
theorem prDs_shaped (ps : List (Int × Int)) : SeqAt.shaped (.list (ps.map prD)) = true := by
  have h1 := prDs_depth ps
  have h2 : PyData.depth (.list (ps.map prD)) ≤ 64 := by
    simp only [PyData.depth]
    omega
  show (PyData.canLay0 (.list (ps.map prD)) && decide (PyData.depth (.list (ps.map prD)) ≤ 64)) = true
  rw [Bool.and_eq_true]
  exact ⟨by simp only [PyData.canLay0]; exact prDs_lay ps, decide_eq_true h2⟩
theorem prD_eqv (p q : Int × Int) : PyData.eqv (prD p) (prD q) = decide (p = q) := by
  obtain ⟨a, b⟩ := p
  obtain ⟨c, d⟩ := q
  have e : PyData.eqv (prD (a, b)) (prD (c, d)) = ((a == c) && ((b == d) && true)) := by simp only [prD, PyData.eqv, PyData.eqvAll]
  rw [e]
  by_cases h1 : a = c <;> by_cases h2 : b = d <;> simp [h1, h2]
theorem any_prD (ps : List (Int × Int)) (q : Int × Int) : ((ps.map prD).any fun z => PyData.eqv z (prD q)) = decide (q ∈ ps) := by
  rw [List.any_map]
  induction ps with
  | nil => rfl
  | cons p r ih =>
    rw [List.any_cons, ih]
    show (PyData.eqv (prD p) (prD q) || _) = _
    rw [prD_eqv]
    by_cases h : p = q
    · subst h; simp
    · have h2 : ¬ q = p := fun z => h z.symm
      simp [h, h2]
theorem dp_pair {K : PySem.W.Frag} {H : Hp} {b : Addr} {p : Int × Int} (h : SqT K H b (encP p)) : Dp K H (.ref b) (prD p) := .tup h (.cons (.int _) (.cons (.int _) .nil))
theorem dp_all {K : PySem.W.Frag} {H : Hp} : ∀ {as : List Addr} {ps : List (Int × Int)}, TupsAt K H as (ps.map encP) → DpAll K H (as.map V.ref) (ps.map prD)
  | [], [], _ => .nil
  | [], p :: r, h => by have := h.1; simp at this
  | a :: as, [], h => by have := h.1; simp at this
  | a :: as, p :: r, h => .cons (dp_pair (h.2 0 a _ rfl rfl)) (dp_all ⟨by have := h.1; simpa using this, fun i b q h1 h2 => h.2 (i + 1) b q h1 h2⟩)
theorem dp_rows {K : PySem.W.Frag} {H : Hp} {a : Addr} {ps : List (Int × Int)} (h : RowsAt K H a (ps.map encP)) : Dp K H (.ref a) (.list (ps.map prD)) :=
  let ⟨_, h1, h2⟩ := h
  .lst h1 (dp_all h2)
section
variable {P : Program} {w : World} {K : PySem.W.Frag} {mg : Str → Option Value} {base : Heap}
theorem hu65_of {A : Around} {k : Nat} (hr : Room k A) : A.units + 65 < cLine := by have := hr.un; omega
/-! ### closing -/
def spClosing (K : PySem.W.Frag) (n : Nat) : Sp := fun vs H Q _ => ∃ (b l : Addr) (ps : List (Int × Int)) (r0 : Int) (rs : List Int) (size : Nat), vs = [.ref b, .ref l, .int (size : Int)] ∧ RowsAt K H b (ps.map encP) ∧ H l = some (.lst ((r0 :: rs).map V.int)) ∧ ps.length ≤ 1000 ∧ size ≤ 64 ∧
  rs.length + 1 ≤ size ∧ size ≤ rs.length + 1 + n ∧ Chn ps (r0 :: rs) ∧ (r0 :: rs).Nodup ∧ (∀ x ∈ rs, r0 < x) ∧
  (∀ H' : Hp, Same H H' → (∀ ext : List Int, RingF ps r0 (rs ++ ext) → rs.length + ext.length + 1 ≠ size) → Q .non H') ∧
  ∀ (a : Int) (l' : List Int) (p : Addr) (H' : Hp), RingF ps a l' → Same H H' → SqL K H' p ((a :: l').map V.int) → Q (.ref p) H'
theorem scClosing : FnScope ["pairs", "row", "size", "first", "second", "found"] ["pairs", "row", "size"] (defScope sClosing) := ⟨rfl, rfl, rfl, by decide +kernel, rfl, by decide +kernel, by decide +kernel⟩
theorem at_m1 {r0 : Int} {rs : List Int} {z : Int} (h : (r0 :: rs).getLast? = some z) : atI ((r0 :: rs).map V.int) (-1) = some (.int z) := by
  have hne : (r0 :: rs) ≠ [] := by simp
  have e1 : (r0 :: rs).dropLast ++ [z] = r0 :: rs := by
    have h1 := List.dropLast_concat_getLast hne
    have h2 : (r0 :: rs).getLast hne = z := by
      have := List.getLast?_eq_some_getLast hne
      rw [h] at this
      exact (Option.some.inj this).symm
    rw [h2] at h1
    exact h1
  rw [← e1, List.map_append]
  exact atI_last _ _
theorem last_ex (r0 : Int) (rs : List Int) : ∃ z, (r0 :: rs).getLast? = some z := ⟨_, List.getLast?_eq_some_getLast (by simp)⟩
theorem chn_last {ps : List (Int × Int)} {r0 : Int} {rs : List Int} {z y : Int} {ext : List Int} (hz : (r0 :: rs).getLast? = some z) (c : Chn ps (r0 :: (rs ++ y :: ext))) : (z, y) ∈ ps := by
  have hne : (r0 :: rs) ≠ [] := by simp
  have h1 := List.dropLast_concat_getLast hne
  have h2 : (r0 :: rs).getLast hne = z := by
    have := List.getLast?_eq_some_getLast hne
    rw [hz] at this
    exact (Option.some.inj this).symm
  rw [h2] at h1
  have e : r0 :: (rs ++ y :: ext) = (r0 :: rs).dropLast ++ z :: y :: ext := by
    rw [show r0 :: (rs ++ y :: ext) = (r0 :: rs) ++ y :: ext from rfl, ← h1]
    simp
  rw [e] at c
  exact c.pair
theorem ok_closing {f : Addr} {fd : FuncData} (F : Fun K "closing" "closing" sClosing f fd) (T : Glb mg) (bS : Binds K fd ["pairs", "row", "size"] []) (mS : mg "closing" = some (.ref f)) : ∀ n : Nat, FnOk P w K mg base CX0 (n + 1) f fd ["pairs", "row", "size"] (spClosing K n) := by
  have sc := scClosing
  -- a whole row
  have whole : ∀ {ps : List (Int × Int)} {r0 : Int} {rs : List Int} {z : Int}, (r0 :: rs).getLast? = some z → (z, r0) ∉ ps → ∀ ext : List Int, RingF ps r0 (rs ++ ext) → rs.length + ext.length + 1 ≠ rs.length + 1 := fun {ps r0 rs z} hz hn ext hR e => by
    have : ext = [] := List.eq_nil_of_length_eq_zero (by omega)
    subst this
    rw [List.append_nil] at hR
    obtain ⟨z', ez, mz⟩ := hR.cl
    rw [hz] at ez
    cases ez
    exact hn mz
  intro n
  induction n with
  | zero =>
    refine F.ok scClosing (fun vs H Q E h => ?_) (fun cdv A outer s H vs Q E hr h => ?_)
    · obtain ⟨b, l, ps, r0, rs, size, rfl, _⟩ := h
      rfl
    · obtain ⟨b, l, ps, r0, rs, size, rfl, hB, hl, h1000, h64, hle, hge, hch, hnd, hlo, qN, qS⟩ := h
      have hu65 := hu65_of hr
      refine ⟨_, pss_cons (ps_if (pt_cmpR op_eq (pe_callB call_len_seq (by rfl) T.len PySem.boot_len (pa_cons (pv 1) pa_nil)) (pv 2) (nomark _)) (pss_one (ps_ret (pe_ifExp (pt_cmpR (op_inD hu65) (pe_tup (pa_cons (pe_ix ix_list (pv 1) (pe_un un_neg pe_int) (fun _ _ => rfl)) (pa_cons (pe_ix ix_list (pv 1) pe_int (fun _ _ => rfl)) pa_nil))) (pv 0) rfl) (pv 1) pe_non))) pss_nil) pss_never, ?_⟩
      obtain ⟨z, hz⟩ := last_ex r0 rs
      have q1 := at_m1 hz
      have q0 : atI ((r0 :: rs).map V.int) 0 = some (.int r0) := at_int (by decide) rfl
      refine ⟨_, rfl, l, _, rfl, .inl (SqL.of hl), _, rfl, rfl, _, rfl, ?_⟩
      by_cases hs : size = rs.length + 1
      · rw [show decide (V.int (((((r0 :: rs).map V.int).length : Nat)) : Int) = V.int (size : Int)) = true from decide_eq_true (by rw [hs]; simp)]
        refine iteT ?_
        refine ⟨_, rfl, _, rfl, l, _, _, _, rfl, rfl, SqL.of hl, q1, _, rfl, l, _, _, _, rfl, rfl, SqL.of hl, q0, (by show 2 ≤ sizeLine; decide), fun t ht => ?_⟩
        have s1 : Same H (upd H t (.tup [.int z, .int r0])) := (Same.refl _).new ht
        refine ⟨_, rfl, prD (z, r0), _, dp_pair (SqT.of upd_same), dp_rows (hB.same s1), prD_shaped _, prDs_shaped _, _, rfl, ?_⟩
        rw [any_prD]
        by_cases hm : (z, r0) ∈ ps
        · rw [decide_eq_true hm]
          exact iteT ⟨_, rfl, qS r0 rs l _ ⟨hch, hnd, ⟨z, hz, hm⟩, hlo⟩ s1 (SqL.of (s1 _ _ hl))⟩
        · rw [decide_eq_false hm]
          exact iteF (qN _ s1 (by rw [hs]; exact whole hz hm))
      · omega
  | succ n ih =>
    refine F.ok scClosing (fun vs H Q E h => ?_) (fun cdv A outer s H vs Q E hr h => ?_)
    · obtain ⟨b, l, ps, r0, rs, size, rfl, _⟩ := h
      rfl
    · obtain ⟨b, l, ps, r0, rs, size, rfl, hB, hl, h1000, h64, hle, hge, hch, hnd, hlo, qN, qS⟩ := h
      have hu65 := hu65_of hr
      refine ⟨_, (pss_cons (ps_if (pt_cmpR op_eq (pe_callB call_len_seq (by rfl) T.len PySem.boot_len (pa_cons (pv 1) pa_nil)) (pv 2) (nomark _)) (pss_one (ps_ret (pe_ifExp (pt_cmpR (op_inD hu65) (pe_tup (pa_cons (pe_ix ix_list (pv 1) (pe_un un_neg pe_int) (fun _ _ => rfl)) (pa_cons (pe_ix ix_list (pv 1) pe_int (fun _ _ => rfl)) pa_nil))) (pv 0) rfl) (pv 1) pe_non))) pss_nil) (pss_cons (ps_for PassesOwn.never rfl (pi_list (pv 0)) (pg_tup rfl (pgs_cons (pg_name (i := 3) sc.nd rfl (Or.inl rfl)) (pgs_cons (pg_name (i := 4) sc.nd rfl (Or.inl rfl)) pgs_nil))) (pss_one (ps_if (PW.pt (pw_and (pt_cmpR op_eq (pv 3) (pe_ix ix_list (pv 1) (pe_un un_neg pe_int) (fun _ _ => rfl)) (nomark _)) (pw_and (pt_cmpR op_gt (pv 4) (pe_ix ix_list (pv 1) pe_int (fun _ _ => rfl)) (nomark _)) (pw_and1 (pt_cmpR op_notIn_seq (pv 4) (pv 1) rfl)))))
          (pss_cons (ps_set (i := 5) sc.nd rfl (Or.inl rfl) (pe_call ih hr (by rfl) mS F.kp bS .nil pass0 (pa_cons (pv 0) (pa_cons (pe_op op_cat (pv 1) (pe_lst (pa_cons (pv 4) pa_nil))) (pa_cons (pv 2) pa_nil))))) (pss_one (ps_if (pt_cmp (pc_notN (pv 5))) (pss_one (ps_ret (pv 5))) pss_nil))) pss_nil))) (pss_one (ps_ret pe_non)))), ?_⟩
      obtain ⟨z, hz⟩ := last_ex r0 rs
      have q1 := at_m1 hz
      have q0 : atI ((r0 :: rs).map V.int) 0 = some (.int r0) := at_int (by decide) rfl
      refine ⟨_, rfl, l, _, rfl, .inl (SqL.of hl), _, rfl, rfl, _, rfl, ?_⟩
      by_cases hs : size = rs.length + 1
      · rw [show decide (V.int (((((r0 :: rs).map V.int).length : Nat)) : Int) = V.int (size : Int)) = true from decide_eq_true (by rw [hs]; simp)]
        refine iteT ?_
        refine ⟨_, rfl, _, rfl, l, _, _, _, rfl, rfl, SqL.of hl, q1, _, rfl, l, _, _, _, rfl, rfl, SqL.of hl, q0, (by show 2 ≤ sizeLine; decide), fun t ht => ?_⟩
        have s1 : Same H (upd H t (.tup [.int z, .int r0])) := (Same.refl _).new ht
        refine ⟨_, rfl, prD (z, r0), _, dp_pair (SqT.of upd_same), dp_rows (hB.same s1), prD_shaped _, prDs_shaped _, _, rfl, ?_⟩
        rw [any_prD]
        by_cases hm : (z, r0) ∈ ps
        · rw [decide_eq_true hm]
          exact iteT ⟨_, rfl, qS r0 rs l _ ⟨hch, hnd, ⟨z, hz, hm⟩, hlo⟩ s1 (SqL.of (s1 _ _ hl))⟩
        · rw [decide_eq_false hm]
          exact iteF (qN _ s1 (by rw [hs]; exact whole hz hm))
      · rw [show decide (V.int (((((r0 :: rs).map V.int).length : Nat)) : Int) = V.int (size : Int)) = false from decide_eq_false (fun q => hs (by have := V.int.inj q; simp only [List.map_cons, List.length_cons, List.length_map] at this; omega))]
        refine iteF ?_
        obtain ⟨as, hBl, hBt⟩ := id hB
        refine ⟨_, rfl, b, rfl, ⟨_, hBl⟩, for_list (K := K) (a := b) (xs := as.map V.ref) (fun i σ H2 => ∃ (v3 v4 v5 : Option V), σ = [some (.ref b), some (.ref l), some (.int (size : Int)), v3, v4, v5] ∧ Same H H2 ∧ ∀ (j : Nat) (p : Int × Int), j < i → ps[j]? = some p → p.1 = z → r0 < p.2 → p.2 ∉ r0 :: rs → ∀ ext : List Int, RingF ps r0 (rs ++ p.2 :: ext) → rs.length + (ext.length + 1) + 1 ≠ size)
          ⟨none, none, none, rfl, Same.refl _, fun j p h => absurd h (by omega)⟩ (fun i σ H2 _ ⟨_, _, _, _, s2, _⟩ => s2.seq hBl) ?_ ?_⟩
        · rintro i x σ H2 hi ⟨v3, v4, v5, rfl, s2, hno⟩
          obtain ⟨bb, r, rfl, _, hr', hT⟩ := hBt.at hi
          obtain ⟨p, hp, rfl⟩ := map_get hr'
          have hl2 := s2 _ _ hl
          -- the turn that goes on
          have next : ∀ (v5 : Option V) (H3 : Hp), Same H2 H3 → (p.1 = z → r0 < p.2 → p.2 ∉ r0 :: rs → ∀ ext : List Int, RingF ps r0 (rs ++ p.2 :: ext) → rs.length + (ext.length + 1) + 1 ≠ size) →
              ∃ (v3 v4 v5' : Option V), [some (V.ref b), some (.ref l), some (.int (size : Int)), some (.int p.1), some (.int p.2), v5] = [some (.ref b), some (.ref l), some (.int (size : Int)), v3, v4, v5'] ∧ Same H H3 ∧ ∀ (j : Nat) (p : Int × Int), j < i + 1 → ps[j]? = some p → p.1 = z → r0 < p.2 → p.2 ∉ r0 :: rs → ∀ ext : List Int, RingF ps r0 (rs ++ p.2 :: ext) → rs.length + (ext.length + 1) + 1 ≠ size := fun v5 H3 s3 hq => by
            refine ⟨_, _, v5, rfl, s2.trans s3, fun j p' hj hp' => ?_⟩
            by_cases hji : j = i
            · subst hji
              rw [hp] at hp'
              cases hp'
              exact hq
            · exact hno j p' (by omega) hp'
          refine ⟨bb, _, rfl, s2.sqt hT, rfl, _, _, rfl, _, _, rfl, rfl, ?_⟩
          -- first == row[-1]
          refine ⟨_, rfl, _, rfl, _, rfl, l, _, _, _, rfl, rfl, SqL.of hl2, q1, rfl, _, rfl, ?_⟩
          by_cases c1 : p.1 = z
          · rw [show decide (V.int p.1 = V.int z) = true from decide_eq_true (by rw [c1])]
            refine iteT ?_
            refine ⟨_, rfl, _, rfl, l, _, _, _, rfl, rfl, SqL.of hl2, q0, _, _, rfl, rfl, _, rfl, ?_⟩
            by_cases c2 : r0 < p.2
            · rw [decide_eq_true c2]
              refine iteT ?_
              refine ⟨_, rfl, _, rfl, l, _, rfl, .inl (SqL.of hl2), rfl, flat_ints _, _, rfl, ?_⟩
              show if (!inV (V.int p.2) ((r0 :: rs).map V.int)) = true then _ else _
              rw [in_ints]
              by_cases c3 : p.2 ∈ r0 :: rs
              · rw [decide_eq_true c3]
                exact iteF (next _ _ (Same.refl _) fun _ _ q => absurd c3 q)
              · rw [decide_eq_false c3]
                refine iteT ?_
                -- found = closing(pairs, row + [second], size)
                refine ⟨_, rfl, _, rfl, _, rfl, (by show 1 ≤ sizeLine; decide), fun y hy => ?_⟩
                have s3 : Same H2 (upd H2 y (.lst [.int p.2])) := (Same.refl _).new hy
                refine ⟨l, y, _, _, rfl, rfl, s3 _ _ hl2, upd_same, ?_, fun y2 hy2 => ?_⟩
                · simp only [List.length_map, List.length_cons, List.length_nil]
                  exact Nat.le_of_lt (small1000 (by omega))
                · have s4 : Same H2 (upd (upd H2 y (.lst [.int p.2])) y2 (.lst ((r0 :: rs).map V.int ++ [.int p.2]))) := s3.new hy2
                  have eR : ∀ ext : List Int, rs ++ p.2 :: ext = (rs ++ [p.2]) ++ ext := fun ext => by simp
                  refine ⟨_, rfl, b, y2, ps, r0, rs ++ [p.2], size, rfl, hB.same (s2.trans s4), by rw [upd_same]; simp, h1000, h64, by simp; omega, by simp; omega, ?_, ?_, ?_, ?_, ?_⟩
                  · -- a chain
                    rw [show r0 :: (rs ++ [p.2]) = (r0 :: rs) ++ [p.2] by simp]
                    have hne : (r0 :: rs) ≠ [] := by simp
                    have h1 := List.dropLast_concat_getLast hne
                    have h2 : (r0 :: rs).getLast hne = z := by
                      have := List.getLast?_eq_some_getLast hne
                      rw [hz] at this
                      exact (Option.some.inj this).symm
                    rw [h2] at h1
                    rw [← h1]
                    refine Chn.join (by rw [h1]; exact hch) ?_ trivial
                    have := List.mem_of_getElem? hp
                    rw [← c1]
                    exact this
                  · rw [show r0 :: (rs ++ [p.2]) = (r0 :: rs) ++ [p.2] by simp]
                    exact List.nodup_append.mpr ⟨hnd, by simp, fun x hx y hy q => by
                      have : y = p.2 := by simpa using hy
                      rw [this] at q
                      rw [q] at hx
                      exact c3 hx⟩
                  · intro x hx
                    rcases List.mem_append.mp hx with q | q
                    · exact hlo x q
                    · have : x = p.2 := by simpa using q
                      rw [this]; exact c2
                  · -- None
                    intro H5 s5 hnone
                    refine ⟨_, rfl, _, rfl, ?_⟩
                    refine iteF ?_
                    refine next _ _ (s4.trans s5) fun _ _ _ ext hR e => ?_
                    rw [eR ext] at hR
                    exact hnone ext hR (by simp; omega)
                  · intro a' l' p' H5 hR s5 hp'
                    refine ⟨_, rfl, _, rfl, ?_⟩
                    refine iteT ?_
                    exact ⟨_, rfl, qS a' l' p' H5 hR (s2.trans (s4.trans s5)) hp'⟩
            · rw [decide_eq_false c2]
              exact next _ _ (Same.refl _) fun _ q => absurd q c2
          · rw [show decide (V.int p.1 = V.int z) = false from decide_eq_false (fun q => c1 (V.int.inj q))]
            exact next _ _ (Same.refl _) fun q => absurd q c1
        · rintro σ H2 ⟨v3, v4, v5, rfl, s2, hno⟩
          refine qN H2 s2 fun ext hR e => ?_
          cases ext with
          | nil => simp at e; omega
          | cons y ext =>
            have hy : (z, y) ∈ ps := chn_last hz hR.ch
            obtain ⟨j, hj⟩ := List.mem_iff_getElem?.mp hy
            have hjl : j < (as.map V.ref).length := by
              rw [List.length_map, hBt.1, List.length_map]
              exact (List.getElem?_eq_some_iff.mp hj).1
            refine hno j (z, y) hjl hj rfl (hR.lo y (by simp)) ?_ ext hR (by simpa using e)
            have nd := hR.nd
            rw [show r0 :: (rs ++ y :: ext) = (r0 :: rs) ++ y :: ext by simp] at nd
            intro hm
            exact (List.nodup_append.mp nd).2.2 y hm y (by simp) rfl
end
end Ok
namespace Ok
open PySem L2
/-! ### arranged lists of tuples -/
theorem tups_paired {K : PySem.W.Frag} {H : Hp} : ∀ {as : List Addr} {rows : List (List V)}, TupsAt K H as rows → Paired (fun b r => SqT K H b r) as rows
  | [], [], _ => .nil
  | [], _ :: _, h => by have := h.1; simp at this
  | _ :: _, [], h => by have := h.1; simp at this
  | _ :: as, _ :: rows, h => .cons (h.2 0 _ _ rfl rfl) (tups_paired ⟨by have := h.1; simpa using this, fun i b r h1 h2 => h.2 (i + 1) b r h1 h2⟩)
theorem paired_tups {K : PySem.W.Frag} {H : Hp} {as : List Addr} {rows : List (List V)} (h : Paired (fun b r => SqT K H b r) as rows) : TupsAt K H as rows := by
  refine ⟨Paired.length h, ?_⟩
  induction h with
  | nil => intro i b r h1; simp at h1
  | cons h1 _ ih =>
    intro i b r e1 e2
    cases i with
    | zero =>
      simp only [List.getElem?_cons_zero, Option.some.injEq] at e1 e2
      subst e1 e2
      exact h1
    | succ i => exact ih i b r (by simpa using e1) (by simpa using e2)
theorem paired_perm {α β : Type} {R : α → β → Prop} {as' as : List α} (p : as'.Perm as) : ∀ {rows : List β}, Paired R as rows → ∃ rows', rows'.Perm rows ∧ Paired R as' rows' := by
  induction p with
  | nil => intro rows h; exact ⟨rows, .refl _, h⟩
  | cons x _ ih =>
    intro rows h
    cases h with
    | cons h1 h2 =>
      obtain ⟨r', p', q'⟩ := ih h2
      exact ⟨_ :: r', p'.cons _, .cons h1 q'⟩
  | swap x y l =>
    intro rows h
    cases h with
    | cons h1 h2 =>
      cases h2 with
      | cons h3 h4 => exact ⟨_ :: _ :: _, .swap _ _ _, .cons h3 (.cons h1 h4)⟩
  | trans _ _ ih1 ih2 =>
    intro rows h
    obtain ⟨r1, p1, q1⟩ := ih2 h
    obtain ⟨r2, p2, q2⟩ := ih1 q1
    exact ⟨r2, p2.trans p1, q2⟩
def unref : V → Addr
  | .ref a => a
  | _ => 0
theorem unref_map (as : List Addr) : (as.map V.ref).map unref = as := by
  rw [List.map_map]
  exact List.map_id as
theorem refs_perm {ys : List V} {as : List Addr} (h : ys.Perm (as.map V.ref)) : ∃ as' : List Addr, ys = as'.map V.ref ∧ as'.Perm as := by
  refine ⟨ys.map unref, ?_, ?_⟩
  · rw [List.map_map]
    have : ∀ y ∈ ys, (V.ref ∘ unref) y = y := fun y hy => by
      obtain ⟨a, _, rfl⟩ := List.mem_map.mp (h.mem_iff.mp hy)
      rfl
    rw [List.map_congr_left this]
    simp
  · have := h.map unref
    rw [unref_map] at this
    exact this
/-- a list of tuples, arranged anew -/
theorem rows_perm {α : Type} {K : PySem.W.Frag} {H : Hp} {as : List Addr} {enc : α → List V} {items : List α} {ys : List V} (hT : TupsAt K H as (items.map enc)) (h : ys.Perm (as.map V.ref)) : ∃ (as' : List Addr) (items' : List α), ys = as'.map V.ref ∧ items'.Perm items ∧ TupsAt K H as' (items'.map enc) := by
  obtain ⟨as', e, p⟩ := refs_perm h
  have hp : Paired (fun b x => SqT K H b (enc x)) as items := by
    have h1 := tups_paired hT
    clear hT h p e
    induction as generalizing items with
    | nil =>
      cases items with
      | nil => exact .nil
      | cons _ _ => cases h1
    | cons a as ih =>
      cases items with
      | nil => cases h1
      | cons x r =>
        cases h1 with
        | cons h1 h2 => exact .cons h1 (ih h2)
  obtain ⟨items', p', q'⟩ := paired_perm p hp
  refine ⟨as', items', e, p', paired_tups ?_⟩
  clear hT h p e hp p'
  induction as' generalizing items' with
  | nil => cases q'; exact .nil
  | cons a as ih =>
    cases q' with
    | cons h1 h2 => exact .cons h1 (ih _ h2)
section
variable {P : Program} {w : World} {K : PySem.W.Frag} {mg : Str → Option Value} {base : Heap}
/-! ### ring_in -/
/-- pairs of five at most -/
def PrsOk (ps : List (Int × Int)) : Prop := ∀ p ∈ ps, (1 ≤ p.1 ∧ p.1 ≤ 5) ∧ (1 ≤ p.2 ∧ p.2 ≤ 5) ∧ p.1 ≠ p.2
def spRingIn (K : PySem.W.Frag) : Sp := fun vs H Q _ => ∃ (b : Addr) (ps : List (Int × Int)), vs = [.ref b] ∧ RowsAt K H b (ps.map encP) ∧ ps.length < 64 ∧ PrsOk ps ∧
  (∀ H' : Hp, Same H H' → (∀ a l, ¬ RingF ps a l) → Q .non H') ∧
  ∀ (a : Int) (l : List Int) (p : Addr) (H' : Hp), RingF ps a l → Same H H' → SqL K H' p ((a :: l).map V.int) → Q (.ref p) H'
theorem scRingIn : FnScope ["pairs", "ordered", "starts", "first", "_", "size", "start", "found"] ["pairs"] (defScope sRingIn) := ⟨rfl, rfl, rfl, by decide +kernel, rfl, by decide +kernel, by decide +kernel⟩
theorem ok_ringIn {f fC : Addr} {fd fdC : FuncData} (F : Fun K "ring_in" "ring_in" sRingIn f fd) (T : Glb mg) (FC : Fun K "closing" "closing" sClosing fC fdC) (bC : Binds K fdC ["pairs", "row", "size"] []) (mC : mg "closing" = some (.ref fC)) : FnOk P w K mg base CX0 7 f fd ["pairs"] (spRingIn K) := by
  have GC : FnOk P w K mg base CX0 6 fC fdC ["pairs", "row", "size"] (spClosing K 5) := ok_closing FC T bC mC 5
  have sc := scRingIn
  refine F.ok scRingIn (fun vs H Q E h => ?_) (fun cdv A outer s H vs Q E hr h => ?_)
  · obtain ⟨b, ps, rfl, _⟩ := h
    rfl
  · obtain ⟨b, ps0, rfl, ⟨as0, hBl, hBt⟩, h64, hok, qN, qS⟩ := h
    refine ⟨_, (pss_cons (ps_set (i := 1) sc.nd rfl (Or.inl rfl) (pe_callB (cr_sortT (d := 2) (B := 64) (by decide)) (by rfl) T.sorted (by decide +kernel) (pa_cons (pv 0) pa_nil))) (pss_cons (ps_set (i := 2) sc.nd rfl (Or.inl rfl) (pe_lst pa_nil)) (pss_cons (ps_for PassesOwn.never rfl (pi_list (pv 1)) (pg_tup rfl (pgs_cons (pg_name (i := 3) sc.nd rfl (Or.inl rfl)) (pgs_cons (pg_name (i := 4) sc.nd rfl (Or.inl rfl)) pgs_nil))) (pss_one (ps_if (pt_cmpR op_notIn_seq (pv 3) (pv 2) rfl) (pss_one (ps_expr (pe_bm PySem.F.plainAttrs_list PySem.F.slot_list_append PySem.F.type_list_append mt_append (pv 2) (pa_cons (pv 3) pa_nil)))) pss_nil))) (pss_cons (ps_for PassesOwn.never rfl (pi_range2 (by rfl) T.range (pa_cons pe_int (pa_cons (pe_op op_add (pe_callB call_len_seq (by rfl) T.len PySem.boot_len (pa_cons (pv 2) pa_nil)) pe_int) pa_nil))) (pg_name (i := 5) sc.nd rfl (Or.inl rfl)) (pss_one (ps_for PassesOwn.never rfl (pi_list (pv 2)) (pg_name (i := 6) sc.nd rfl (Or.inl rfl)) (pss_cons (ps_set (i := 7) sc.nd rfl (Or.inl rfl) (pe_call GC hr (by rfl) mC FC.kp bC .nil pass0 (pa_cons (pv 1) (pa_cons (pe_lst (pa_cons (pv 6) pa_nil)) (pa_cons (pv 5) pa_nil))))) (pss_one (ps_if (pt_cmp (pc_notN (pv 7))) (pss_one (ps_ret (pv 7))) pss_nil)))))) (pss_one (ps_ret pe_non)))))), ?_⟩
    refine ⟨_, rfl, b, _, rfl, hBl, by rw [List.length_map, hBt.1, List.length_map]; exact h64, fun x hx => ?_, fun ys p hp _ hp0 => ?_⟩
    · obtain ⟨i, hi⟩ := List.mem_iff_getElem?.mp hx
      obtain ⟨bb, r, rfl, _, hr', hT⟩ := hBt.at hi
      obtain ⟨q, hq, rfl⟩ := map_get hr'
      obtain ⟨⟨h1, h2⟩, ⟨h3, h4⟩, _⟩ := hok q (List.mem_of_getElem? hq)
      exact ⟨[q.1, q.2], ⟨bb, rfl, hT⟩, rfl, fun n hn => by
        rcases List.mem_cons.mp hn with e | e
        · rw [e]; omega
        · have : n = q.2 := by simpa using e
          rw [this]; omega⟩
    · obtain ⟨as, ps, rfl, pp, hT⟩ := rows_perm hBt hp
      have s1 : Same H (upd H p (.lst (as.map V.ref))) := (Same.refl _).new hp0
      have hmem : ∀ q, q ∈ ps ↔ q ∈ ps0 := fun q => pp.mem_iff
      have hok' : PrsOk ps := fun q hq => hok q ((hmem q).mp hq)
      have toR : ∀ {a l}, RingF ps a l → RingF ps0 a l := fun r => r.mono fun q hq => (hmem q).mp hq
      have frR : ∀ {a l}, RingF ps0 a l → RingF ps a l := fun r => r.mono fun q hq => (hmem q).mpr hq
      -- starts
      refine ⟨Nat.zero_le _, fun l hl => ?_⟩
      have hl0 := s1.free hl
      generalize hH1 : upd H p (.lst (as.map V.ref)) = H1 at *
      have hp1 : H1 p = some (.lst (as.map V.ref)) := by rw [← hH1, upd_same]
      have hT1 : TupsAt K H1 as (ps.map encP) := hT.same s1
      refine ⟨_, rfl, p, rfl, ⟨_, SqL.of (((Same.refl _).new hl) _ _ hp1)⟩, for_list (K := K) (a := p) (xs := as.map V.ref) (fun i σ H2 => ∃ (v3 v4 : Option V) (st : List Int), σ = [some (.ref b), some (.ref p), some (.ref l), v3, v4, none, none, none] ∧ Same H1 H2 ∧ H2 l = some (.lst (st.map V.int)) ∧ st.Nodup ∧ (∀ x ∈ st, 1 ≤ x ∧ x ≤ 5) ∧ ∀ (j : Nat) (q : Int × Int), j < i → ps[j]? = some q → q.1 ∈ st)
        ⟨none, none, [], rfl, (Same.refl _).new hl, upd_same, List.nodup_nil, (fun x h => nomatch h), fun j q h => absurd h (by omega)⟩ (fun i σ H2 _ ⟨_, _, _, _, s2, _⟩ => s2.seq (SqL.of hp1)) ?_ ?_⟩
      · rintro i x σ H2 hi ⟨v3, v4, st, rfl, s2, hl2, hnd, h15, hall⟩
        obtain ⟨bb, r, rfl, _, hr', hTb⟩ := hT1.at hi
        obtain ⟨q, hq, rfl⟩ := map_get hr'
        have hq5 := hok' q (List.mem_of_getElem? hq)
        have stl : st.length ≤ 5 := len_le st [1, 2, 3, 4, 5] hnd fun x hx => by
          obtain ⟨h1, h2⟩ := h15 x hx
          have : x = 1 ∨ x = 2 ∨ x = 3 ∨ x = 4 ∨ x = 5 := by omega
          rcases this with rfl | rfl | rfl | rfl | rfl <;> simp
        refine ⟨bb, _, rfl, s2.sqt hTb, rfl, _, _, rfl, _, _, rfl, rfl, ?_⟩
        refine ⟨_, rfl, _, rfl, l, _, rfl, .inl (SqL.of hl2), rfl, flat_ints _, _, rfl, ?_⟩
        show if (!inV (V.int q.1) (st.map V.int)) = true then _ else _
        rw [in_ints]
        by_cases hm : q.1 ∈ st
        · rw [decide_eq_true hm]
          refine iteF ⟨_, _, st, rfl, s2, hl2, hnd, h15, fun j q' hj hq' => ?_⟩
          by_cases hji : j = i
          · subst hji
            rw [hq] at hq'
            cases hq'
            exact hm
          · exact hall j q' (by omega) hq'
        · rw [decide_eq_false hm]
          refine iteT ?_
          refine ⟨_, rfl, .inl ⟨rfl, _, SqL.of hl2⟩, _, rfl, l, _, _, rfl, rfl, hl2, by rw [List.length_map]; exact small1000 (by omega), ?_⟩
          refine ⟨_, _, st ++ [q.1], rfl, s2.mut hl, by rw [upd_same, ints_snoc], ?_, fun x hx => ?_, fun j q' hj hq' => ?_⟩
          · exact List.nodup_append.mpr ⟨hnd, by simp, fun a ha b hb e => by
              have : b = q.1 := by simpa using hb
              rw [this] at e
              exact hm (e ▸ ha)⟩
          · rcases List.mem_append.mp hx with e | e
            · exact h15 x e
            · have : x = q.1 := by simpa using e
              rw [this]; exact hq5.1
          · by_cases hji : j = i
            · subst hji
              rw [hq] at hq'
              cases hq'
              simp
            · exact List.mem_append_left _ (hall j q' (by omega) hq')
      · rintro σ H2 ⟨v3, v4, st, rfl, s2, hl2, hnd, h15, hall⟩
        have stl : st.length ≤ 5 := len_le st [1, 2, 3, 4, 5] hnd fun x hx => by
          obtain ⟨h1, h2⟩ := h15 x hx
          have : x = 1 ∨ x = 2 ∨ x = 3 ∨ x = 4 ∨ x = 5 := by omega
          rcases this with rfl | rfl | rfl | rfl | rfl <;> simp
        have hfirst : ∀ x y, (x, y) ∈ ps → x ∈ st := fun x y hxy => by
          obtain ⟨j, hj⟩ := List.mem_iff_getElem?.mp hxy
          refine hall j (x, y) ?_ hj
          rw [List.length_map, hT.1, List.length_map]
          exact (List.getElem?_eq_some_iff.mp hj).1
        refine ⟨_, rfl, l, _, rfl, .inl (SqL.of hl2), _, _, rfl, rfl, 2, _, rfl, ⟨by decide, by decide, by rw [List.length_map]; omega, by rw [List.length_map]; omega⟩, ?_⟩
        refine for_range (lo := 2) (n := ((((st.map V.int).length : Nat) : Int) + 1 - 2).toNat) (fun i σ H3 => ∃ (v5 v6 v7 : Option V), σ = [some (.ref b), some (.ref p), some (.ref l), v3, v4, v5, v6, v7] ∧ Same H2 H3 ∧ ∀ (m : Nat), 2 ≤ m → m < 2 + i → ∀ a ∈ st, ∀ ext, RingF ps a ext → ext.length + 1 ≠ m)
          ⟨none, none, none, rfl, Same.refl _, fun m h1 h2 => absurd h2 (by omega)⟩ ?_ ?_
        · rintro i σ H3 hi ⟨v5, v6, v7, rfl, s3, hno⟩
          rw [List.length_map] at hi
          refine ⟨_, rfl, l, rfl, ⟨_, SqL.of (s3 _ _ hl2)⟩, for_list (K := K) (a := l) (xs := st.map V.int) (fun j σ H4 => ∃ (v6 v7 : Option V), σ = [some (.ref b), some (.ref p), some (.ref l), v3, v4, some (.int (2 + (i : Int))), v6, v7] ∧ Same H2 H4 ∧ ∀ (k : Nat) (a : Int), k < j → st[k]? = some a → ∀ ext, RingF ps a ext → ext.length + 1 ≠ 2 + i)
            ⟨_, _, rfl, s3, fun k a h => absurd h (by omega)⟩ (fun j σ H4 _ ⟨_, _, _, s4, _⟩ => s4.seq (SqL.of hl2)) ?_ ?_⟩
          · rintro j x σ H4 hj ⟨v6, v7, rfl, s4, hno2⟩
            obtain ⟨a, ha, rfl⟩ := map_get hj
            have s24 : Same H1 H4 := s2.trans s4
            refine ⟨_, rfl, _, rfl, (by show 1 ≤ sizeLine; decide), fun y hy => ?_⟩
            have s5 : Same H4 (upd H4 y (.lst [.int a])) := (Same.refl _).new hy
            have next : ∀ (v7 : Option V) (H5 : Hp), Same H4 H5 → (∀ ext, RingF ps a ext → ext.length + 1 ≠ 2 + i) → ∃ (v6 v7' : Option V), [some (V.ref b), some (.ref p), some (.ref l), v3, v4, some (.int (2 + (i : Int))), some (.int a), v7] = [some (V.ref b), some (.ref p), some (.ref l), v3, v4, some (.int (2 + (i : Int))), v6, v7'] ∧ Same H2 H5 ∧ ∀ (k : Nat) (a : Int), k < j + 1 → st[k]? = some a → ∀ ext, RingF ps a ext → ext.length + 1 ≠ 2 + i := fun v7 H5 s6 hq => by
              refine ⟨_, v7, rfl, s4.trans s6, fun k a' hk ha' => ?_⟩
              by_cases hkj : k = j
              · subst hkj
                rw [ha] at ha'
                cases ha'
                exact hq
              · exact hno2 k a' (by omega) ha'
            refine ⟨_, rfl, p, y, ps, a, [], 2 + i, by simp, ⟨as, SqL.of ((s24.trans s5) _ _ hp1), hT1.same (s24.trans s5)⟩, upd_same, by have := pp.length_eq; omega, by omega, (by simp only [List.length_nil]; omega), (by simp only [List.length_nil]; omega), trivial, by simp, (fun x h => nomatch h), fun H5 s6 hnone => ?_, fun a' l' p' H5 hR s6 hp' => ?_⟩
            · refine ⟨_, rfl, _, rfl, ?_⟩
              refine iteF ?_
              exact next _ _ (s5.trans s6) fun ext hR e => hnone ext hR (by simp; omega)
            · refine ⟨_, rfl, _, rfl, ?_⟩
              refine iteT ?_
              exact ⟨_, rfl, qS a' l' p' H5 (toR hR) (s1.trans (s24.trans (s5.trans s6))) hp'⟩
          · rintro σ H4 ⟨v6, v7, rfl, s4, hno2⟩
            refine ⟨_, _, _, rfl, s4, fun m h1 h2 a ha ext hR => ?_⟩
            by_cases hm : m = 2 + i
            · subst hm
              obtain ⟨k, hk⟩ := List.mem_iff_getElem?.mp ha
              exact hno2 k a (by rw [List.length_map]; exact (List.getElem?_eq_some_iff.mp hk).1) hk ext hR
            · exact hno m h1 (by omega) a ha ext hR
        · rintro σ H3 ⟨v5, v6, v7, rfl, s3, hno⟩
          rw [List.length_map] at hno
          refine qN H3 (s1.trans (s2.trans s3)) fun a ext hR0 => ?_
          have hR := frR hR0
          have hfs := hR.ring.firsts
          have ha : a ∈ st := let ⟨y, hy⟩ := hfs a (by simp); hfirst a y hy
          have hlen : (a :: ext).length ≤ st.length := len_le _ _ hR.nd fun x hx => let ⟨y, hy⟩ := hfs x hx; hfirst x y hy
          have h2 : 1 ≤ ext.length := by
            cases ext with
            | nil =>
              obtain ⟨z, ez, mz⟩ := hR.cl
              have : a = z := by simpa using ez
              rw [← this] at mz
              exact absurd rfl (hok' _ mz).2.2
            | cons _ _ => simp
          simp only [List.length_cons] at hlen
          exact hno (ext.length + 1) (by omega) (by omega) a ha ext hR rfl
end
end Ok
namespace Ok
open PySem L2
/-! ### what a def's objects own -/
section
variable {ρ : Type}
structure Own (live : ρ → Prop) (addr : ρ → Addr) (obj : ρ → HO) (H0 H : Hp) : Prop where
  inj : ∀ r s, live r → live s → addr r = addr s → r = s
  has : ∀ r, live r → H (addr r) = some (obj r)
  fresh : ∀ r, live r → H0 (addr r) = none
  same : Same H0 H
variable {live live' : ρ → Prop} {addr addr' : ρ → Addr} {obj obj' : ρ → HO} {H0 H H' : Hp}
theorem Own.grow (O : Own live addr obj H0 H) (s : Same H H') : Own live addr obj H0 H' := ⟨O.inj, fun r h => s _ _ (O.has r h), O.fresh, O.same.trans s⟩
theorem Own.cong (O : Own live addr obj H0 H) (h : ∀ r, live r → obj r = obj' r) : Own live addr obj' H0 H := ⟨O.inj, fun r hr => by rw [← h r hr]; exact O.has r hr, O.fresh, O.same⟩
theorem Own.sub (O : Own live addr obj H0 H) (h : ∀ r, live' r → live r) : Own live' addr obj H0 H := ⟨fun r s hr hs => O.inj r s (h r hr) (h s hs), fun r hr => O.has r (h r hr), fun r hr => O.fresh r (h r hr), O.same⟩
theorem Own.nil (s : Same H0 H) : Own (fun r : ρ => r ∈ ([] : List ρ)) addr obj H0 H := ⟨(fun _ _ h => nomatch h), (fun _ h => nomatch h), (fun _ h => nomatch h), s⟩
variable [DecidableEq ρ]
def setR (f : ρ → HO) (r : ρ) (o : HO) : ρ → HO := fun s => if s = r then o else f s
theorem setR_same (f : ρ → HO) (r : ρ) (o : HO) : setR f r o r = o := by unfold setR; rw [if_pos rfl]
theorem setR_ne (f : ρ → HO) {r s : ρ} (o : HO) (h : s ≠ r) : setR f r o s = f s := by unfold setR; rw [if_neg h]
theorem Own.put (O : Own live addr obj H0 H) {r : ρ} (hr : live r) (o : HO) : Own live addr (setR obj r o) H0 (upd H (addr r) o) := by
  refine ⟨O.inj, fun s hs => ?_, O.fresh, O.same.mut (O.fresh r hr)⟩
  by_cases e : s = r
  · subst e; rw [upd_same, setR_same]
  · rw [setR_ne _ _ e, upd_ne (fun q => e (O.inj s r hs hr q))]
    exact O.has s hs
/-- one more object -/
theorem Own.add (O : Own live addr obj H0 H) {r : ρ} (hn : ¬ live r) (hl : ∀ s, live' s → live s ∨ s = r) (ha : ∀ s, live s → addr' s = addr s) (hr : H (addr' r) = none) (o : HO) : Own live' addr' (setR obj r o) H0 (upd H (addr' r) o) := by
  have ne : ∀ s, live s → s ≠ r := fun s hs e => hn (e ▸ hs)
  have nea : ∀ s, live s → addr' s ≠ addr' r := fun s hs e => by
    have h1 := O.has s hs
    rw [← ha s hs, e, hr] at h1
    cases h1
  refine ⟨fun s u hs hu e => ?_, fun s hs => ?_, fun s hs => ?_, O.same.new hr⟩
  · rcases hl s hs with h1 | h1
    · rcases hl u hu with h2 | h2
      · exact O.inj s u h1 h2 (by rw [← ha s h1, ← ha u h2]; exact e)
      · subst h2; exact absurd e (nea s h1)
    · rcases hl u hu with h2 | h2
      · subst h1; exact absurd e.symm (nea u h2)
      · rw [h1, h2]
  · rcases hl s hs with h1 | h1
    · rw [setR_ne _ _ (ne s h1), upd_ne (nea s h1), ha s h1]
      exact O.has s h1
    · subst h1; rw [upd_same, setR_same]
  · rcases hl s hs with h1 | h1
    · rw [ha s h1]; exact O.fresh s h1
    · subst h1; exact O.same.free hr
theorem Own.put2 (O : Own live addr obj H0 H) {r : ρ} (hr : live r) {a : Addr} (ha : addr r = a) (o : HO) : Own live addr (setR obj r o) H0 (upd H a o) := ha ▸ O.put hr o
theorem Own.add2 (O : Own live addr obj H0 H) (addr' : ρ → Addr) {r : ρ} {a : Addr} (hra : addr' r = a) (hn : ¬ live r) (ha : ∀ s, live s → addr' s = addr s) (hr : H a = none) (o : HO) : Own (fun s => live s ∨ s = r) addr' (setR obj r o) H0 (upd H a o) := by
  subst hra
  exact O.add hn (fun s h => h) ha hr o
theorem Own.base (O : Own live addr obj H0 H) {Hb : Hp} (s : Same Hb H0) : Own live addr obj Hb H := ⟨O.inj, O.has, fun r hr => s.free (O.fresh r hr), s.trans O.same⟩
/-- a thing made beside it joins what stood before -/
theorem Own.beside (O : Own live addr obj H0 H) {a : Addr} {o : HO} (ha : H a = none) : Own live addr obj (upd H0 a o) (upd H a o) := by
  have ne : ∀ r, live r → addr r ≠ a := fun r hr e => by
    have := O.has r hr
    rw [e, ha] at this
    cases this
  refine ⟨O.inj, fun r hr => by rw [upd_ne (ne r hr)]; exact O.has r hr, fun r hr => by rw [upd_ne (ne r hr)]; exact O.fresh r hr, fun b u e => ?_⟩
  by_cases h : b = a
  · subst h; rw [upd_same] at e ⊢; exact e
  · rw [upd_ne h] at e ⊢; exact O.same b u e
/-- .. by a list of what lives -/
theorem Own.more {l : List ρ} (O : Own (fun r => r ∈ l) addr obj H0 H) (r : ρ) (o : HO) (hn : r ∉ l) (hr : H (addr r) = none) : Own (fun s => s ∈ r :: l) addr (setR obj r o) H0 (upd H (addr r) o) :=
  O.add hn (fun s hs => by rcases List.mem_cons.mp hs with e | e; exact .inr e; exact .inl e) (fun _ _ => rfl) hr o
end
/-! ### dicts by ints -/
def encI (kvs : List (Int × Int)) : List (Key × V) := kvs.map fun p => (Sum.inl p.1, V.int p.2)
theorem valV_encI (x : Int) : ∀ kvs : List (Int × Int), valV (encI kvs) (Sum.inl x : Key) = (get kvs x).map V.int
  | [] => rfl
  | p :: r => by
    show valV ((Sum.inl p.1, V.int p.2) :: encI r) (Sum.inl x : Key) = _
    rw [get_cons]
    by_cases h : p.1 = x
    · rw [if_pos h, valV_pos (by rw [h])]
      rfl
    · rw [if_neg h, valV_neg (fun q => h (Sum.inl.inj q)), valV_encI x r]
theorem putK_encI (kvs : List (Int × Int)) (x : Int) (v : Int) : putK (encI kvs) (Sum.inl x : Key) (V.int v) = encI (put kvs x v) := by
  unfold putK put
  have e : ((encI kvs).any fun kv => decide (kv.1 = (Sum.inl x : Key))) = kvs.any fun kv => decide (kv.1 = x) := by
    unfold encI
    rw [List.any_map]
    congr 1
    funext p
    simp
  rw [e]
  split
  · unfold encI
    rw [List.map_map, List.map_map]
    refine List.map_congr_left fun p _ => ?_
    by_cases h : p.1 = x <;> simp [h]
  · simp [encI]
theorem encI_len (kvs : List (Int × Int)) : (encI kvs).length = kvs.length := by simp [encI]
/-- a dict from ints to objects -/
def encR (keys : List Int) (b : Int → Addr) : List (Key × V) := keys.map fun t => (Sum.inl t, V.ref (b t))
theorem valV_encR (b : Int → Addr) (x : Int) : ∀ keys : List Int, valV (encR keys b) (Sum.inl x : Key) = if x ∈ keys then some (V.ref (b x)) else none
  | [] => rfl
  | t :: r => by
    show valV ((Sum.inl t, V.ref (b t)) :: encR r b) (Sum.inl x : Key) = _
    by_cases h : t = x
    · subst h
      rw [valV_pos rfl]
      simp
    · have h2 : ¬ x = t := fun q => h q.symm
      rw [valV_neg (fun q => h (Sum.inl.inj q)), valV_encR b x r]
      simp [h2]
theorem putK_encR {keys : List Int} {b b' : Int → Addr} {t : Int} (h : t ∉ keys) (hb : ∀ u ∈ keys, b' u = b u) : putK (encR keys b) (Sum.inl t : Key) (V.ref (b' t)) = encR (keys ++ [t]) b' := by
  rw [putK_new _ (by rw [valV_encR, if_neg h])]
  unfold encR
  rw [List.map_append]
  congr 1
  exact List.map_congr_left fun u hu => by rw [hb u hu]
theorem encR_len (keys : List Int) (b : Int → Addr) : (encR keys b).length = keys.length := by simp [encR]
end Ok
namespace Ok
open PySem L2
/-! ### Work -/
inductive WR where
  | p | dp | am | su | be | sc | b (t : Int)
  deriving DecidableEq
structure WL where
  p : Addr
  dp : Addr
  am : Addr
  su : Addr
  be : Addr
  sc : Addr
  b : Int → Addr
def WL.addr (L : WL) : WR → Addr
  | .p => L.p
  | .dp => L.dp
  | .am => L.am
  | .su => L.su
  | .be => L.be
  | .sc => L.sc
  | .b t => L.b t
structure WS where
  A : List (Str × Int)
  S : List (Int × Int)
  keys : List Int
  M : Int → List (Key × V)
  evs : List V
def wFs (L : WL) : List (Str × V) := [("amounts", .ref L.am), ("sums", .ref L.su), ("before", .ref L.be), ("schedule", .ref L.sc)]
def wObj (C : Addr) (L : WL) (W : WS) : WR → HO
  | .p => .ins C L.dp (wFs L)
  | .dp => .own L.p
  | .am => .dK (encK W.A)
  | .su => .dK (encI W.S)
  | .be => .dK (encR W.keys L.b)
  | .sc => .lst W.evs
  | .b t => .dK (W.M t)
def wLive (keys : List Int) : WR → Prop
  | .b t => t ∈ keys
  | _ => True
structure WOk (W : WS) (n : Nat) : Prop where
  a : W.A.length ≤ n
  s : W.S.length ≤ n
  k : W.keys.length ≤ n
  e : W.evs.length ≤ n
  m : ∀ t, (W.M t).length ≤ n
  nd : W.keys.Nodup
def WorkAt (C : Addr) (H0 H : Hp) (p : Addr) (A : List (Str × Int)) (S : List (Int × Int)) (n : Nat) : Prop :=
  ∃ (L : WL) (W : WS), L.p = p ∧ W.A = A ∧ W.S = S ∧ WOk W n ∧ Own (wLive W.keys) L.addr (wObj C L W) H0 H
structure TxtW (K : PySem.W.Frag) (mg : Str → Option Value) (C : Addr) : Prop where
  cl : Cls K C
  nA : NoAttr K C "amounts"
  nS : NoAttr K C "sums"
  nB : NoAttr K C "before"
  nE : NoAttr K C "schedule"
  mgC : mg "Work" = some (.ref C)
section
variable {P : Program} {w : World} {K : PySem.W.Frag} {mg : Str → Option Value} {base : Heap}
def spWInit (C : Addr) : Sp := fun vs H Q _ => ∃ (H0 : Hp) (p dx : Addr), vs = [.ref p] ∧ H = upd (upd H0 dx (.own p)) p (.ins C dx []) ∧ H0 p = none ∧ H0 dx = none ∧ dx ≠ p ∧ ∀ H' : Hp, WorkAt C H0 H' p [] [] 0 → Q .non H'
theorem scWInit : FnScope ["self"] ["self"] (defScope sWInit) := ⟨rfl, rfl, rfl, by decide +kernel, rfl, by decide +kernel, by decide +kernel⟩
theorem ok_winit {f C : Addr} {fd : FuncData} (F : Fun K "__init__" "Work.__init__" sWInit f fd) (TW : TxtW K mg C) : FnOk P w K mg base CX0 1 f fd ["self"] (spWInit C) := by
  have sc := scWInit
  refine F.ok scWInit (fun vs H Q E h => ?_) (fun cdv A outer s H vs Q E hr h => ?_)
  · obtain ⟨H0, p, dx, rfl, _⟩ := h
    rfl
  · obtain ⟨H0, p, dx, rfl, rfl, hp, hdx, hne, q⟩ := h
    refine ⟨_, (pss_cons (ps_fld (pv 0) pe_dnewK rfl) (pss_cons (ps_fld (pv 0) pe_dnewK rfl) (pss_cons (ps_fld (pv 0) pe_dnewK rfl) (pss_one (ps_fld (pv 0) (pe_lst pa_nil) rfl))))), ?_⟩
    -- the objects, one by one
    intro am ham
    have n1 : p ≠ am := fun e => by rw [← e, upd_same] at ham; cases ham
    refine ⟨_, rfl, p, C, dx, [], rfl, (by rw [upd_ne n1, upd_same]), TW.cl, TW.nA, (by show 0 < 1000; decide), ?_⟩
    intro su hsu
    have n2 : p ≠ su := fun e => by rw [← e, upd_same] at hsu; cases hsu
    refine ⟨_, rfl, p, C, dx, putF "amounts" (.ref am) [], rfl, (by rw [upd_ne n2, upd_same]), TW.cl, TW.nS, (by show 1 < 1000; decide), ?_⟩
    intro be hbe
    have n3 : p ≠ be := fun e => by rw [← e, upd_same] at hbe; cases hbe
    refine ⟨_, rfl, p, C, dx, putF "sums" (.ref su) (putF "amounts" (.ref am) []), rfl, (by rw [upd_ne n3, upd_same]), TW.cl, TW.nB, (by show 2 < 1000; decide), ?_⟩
    refine ⟨Nat.zero_le _, fun sh hsc => ?_⟩
    have n4 : p ≠ sh := fun e => by rw [← e, upd_same] at hsc; cases hsc
    refine ⟨_, rfl, p, C, dx, putF "before" (.ref be) (putF "sums" (.ref su) (putF "amounts" (.ref am) [])), rfl, (by rw [upd_ne n4, upd_same]), TW.cl, TW.nE, (by show 3 < 1000; decide), ?_⟩
    let L : WL := ⟨p, dx, am, su, be, sh, fun _ => 0⟩
    let W : WS := ⟨[], [], [], fun _ => [], []⟩
    have hp2 : (upd H0 dx (.own p)) p = none := by rw [upd_ne (Ne.symm hne)]; exact hp
    have O0 : Own (fun r : WR => r ∈ ([] : List WR)) L.addr (fun _ => HO.lst []) H0 H0 := Own.nil (Same.refl H0)
    have O1 := O0.more .dp (.own p) (by decide) hdx
    have O2 := O1.more .p (.ins C dx []) (by decide) hp2
    have O3 := O2.more .am (.dK []) (by decide) ham
    have O4 := O3.put (r := .p) (by decide) (.ins C dx (putF "amounts" (.ref am) []))
    have O5 := O4.more .su (.dK []) (by decide) hsu
    have O6 := O5.put (r := .p) (by decide) (.ins C dx (putF "sums" (.ref su) (putF "amounts" (.ref am) [])))
    have O7 := O6.more .be (.dK []) (by decide) hbe
    have O8 := O7.put (r := .p) (by decide) (.ins C dx (putF "before" (.ref be) (putF "sums" (.ref su) (putF "amounts" (.ref am) []))))
    have O9 := O8.more .sc (.lst []) (by decide) hsc
    have O10 := O9.put (r := .p) (by decide) (.ins C dx (putF "schedule" (.ref sh) (putF "before" (.ref be) (putF "sums" (.ref su) (putF "amounts" (.ref am) [])))))
    refine q _ ⟨L, W, rfl, rfl, rfl, ⟨Nat.le_refl _, Nat.le_refl _, Nat.le_refl _, Nat.le_refl _, fun _ => Nat.le_refl _, List.nodup_nil⟩, ?_⟩
    refine (O10.sub (live' := wLive W.keys) fun r hr => ?_).cong fun r hr => ?_
    · cases r with
      | b t => exact absurd hr (by simp [wLive, W])
      | _ => decide
    · cases r with
      | b t => exact absurd hr (by simp [wLive, W])
      | _ => rfl
end
end Ok
namespace Ok
open PySem L2
theorem map_getD (o : Option Int) (d : Int) : (o.map V.int).getD (V.int d) = V.int (o.getD d) := by cases o <;> rfl
theorem dget_s {H : Hp} {a : Addr} {kvs : List (Str × Int)} (x : Str) (h : H a = some (.dK (encK kvs))) : DGet H a (.str x) ((get kvs x).map V.int) := by
  rw [← valV_enc]
  exact DGet.k (k := Sum.inr x) h
theorem dget_i {H : Hp} {a : Addr} {kvs : List (Int × Int)} (x : Int) (h : H a = some (.dK (encI kvs))) : DGet H a (.int x) ((get kvs x).map V.int) := by
  rw [← valV_encI]
  exact DGet.k (k := Sum.inl x) h
theorem dget_r {H : Hp} {a : Addr} {keys : List Int} {b : Int → Addr} (x : Int) (h : H a = some (.dK (encR keys b))) : DGet H a (.int x) (if x ∈ keys then some (.ref (b x)) else none) := by
  rw [← valV_encR]
  exact DGet.k (k := Sum.inl x) h
theorem dput_s {H : Hp} {a : Addr} {kvs : List (Str × Int)} (x : Str) (v : Int) (h : H a = some (.dK (encK kvs))) (hl : kvs.length ≤ 1000) : DPut H a (.str x) (.int v) (upd H a (.dK (encK (put kvs x v)))) := by
  rw [← putK_enc]
  exact DPut.k (k := Sum.inr x) h (by rw [encK_len]; exact small1000 hl)
theorem dput_i {H : Hp} {a : Addr} {kvs : List (Int × Int)} (x : Int) (v : Int) (h : H a = some (.dK (encI kvs))) (hl : kvs.length ≤ 1000) : DPut H a (.int x) (.int v) (upd H a (.dK (encI (put kvs x v)))) := by
  rw [← putK_encI]
  exact DPut.k (k := Sum.inl x) h (by rw [encI_len]; exact small1000 hl)
theorem isD_of {H : Hp} {a : Addr} {kvs : List (Key × V)} (h : H a = some (.dK kvs)) : IsD H a := .inl ⟨_, .inl h⟩
section
variable {P : Program} {w : World} {K : PySem.W.Frag} {mg : Str → Option Value} {base : Heap}
def spWStep (K : PySem.W.Frag) (C : Addr) : Sp := fun vs H Q _ => ∃ (H0 : Hp) (p b : Addr) (t : Int) (st : Step Str) (A : List (Str × Int)) (S : List (Int × Int)) (n : Nat), vs = [.ref p, .int t, .ref b] ∧ WorkAt C H0 H p A S n ∧ n ≤ 900 ∧ SqT K H0 b (encS st) ∧
  ∀ (v : V) (H' : Hp), WorkAt C H0 H' p (stepW t (A, S) st).1 (stepW t (A, S) st).2 (n + 3) → Q v H'
theorem scWStep : FnScope ["self", "t", "step", "item", "value"] ["self", "t", "step"] (defScope sWStep) := ⟨rfl, rfl, rfl, by decide +kernel, rfl, by decide +kernel, by decide +kernel⟩
theorem WOk.mono {W : WS} {n m : Nat} (h : WOk W n) (hm : n ≤ m) : WOk W m := ⟨Nat.le_trans h.a hm, Nat.le_trans h.s hm, Nat.le_trans h.k hm, Nat.le_trans h.e hm, fun t => Nat.le_trans (h.m t) hm, h.nd⟩
/-- self.before.setdefault(t, {}).setdefault(item, self.amounts.get(item, 0)) -/
theorem w_before {C : Addr} (TW : TxtW K mg C) {H0 H : Hp} {p b : Addr} {t : Int} {x : Str} {A : List (Str × Int)} {S : List (Int × Int)} {n : Nat} {v : V} {D : Ends} (hW : WorkAt C H0 H p A S n) (hn : n ≤ 900)
    (q : ∀ H' : Hp, WorkAt C H0 H' p A S (n + 1) → D.nx [some (.ref p), some (.int t), some (.ref b), some (.str x), some v] H') :
    tDrop (tDSetd (tDSetd (tFld K (tVar 0) "before") (tVar 1) tDNewK) (tVar 3) (tDGet2 (tFld K (tVar 0) "amounts") (tVar 3) (tC (.int 0)))) D [some (.ref p), some (.int t), some (.ref b), some (.str x), some v] H := by
  obtain ⟨L, W, rfl, rfl, rfl, ok, O⟩ := hW
  have key : ∀ Q' : VK, (∀ (L' : WL) (W' : WS) (H' : Hp), L'.p = L.p → W'.A = W.A → W'.S = W.S → WOk W' (n + 1) → (∀ u, (W'.M u).length ≤ n) → t ∈ W'.keys → Own (wLive W'.keys) L'.addr (wObj C L' W') H0 H' → Q' (.ref (L'.b t)) H') →
      tDSetd (tFld K (tVar 0) "before") (tVar 1) tDNewK [some (.ref L.p), some (.int t), some (.ref b), some (.str x), some v] H Q' := fun Q' hQ => by
    have hbe := O.has .be trivial
    refine ⟨_, rfl, L.p, C, L.dp, _, _, rfl, O.has .p trivial, TW.cl, TW.nB, rfl, L.be, rfl, isD_of hbe, _, rfl, fun pd hpd => ?_⟩
    have O1 := O.grow ((Same.refl _).new (o := .dK []) hpd)
    refine ⟨_, Sum.inl t, O1.has .be trivial, rfl, by rw [encR_len]; exact small1000 (by have := ok.k; omega), fun v hv => ?_, fun hv => ?_⟩
    · rw [valV_encR] at hv
      by_cases ht : t ∈ W.keys
      · rw [if_pos ht] at hv
        cases hv
        exact hQ L W _ rfl rfl rfl (ok.mono (by omega)) ok.m ht O1
      · rw [if_neg ht] at hv; cases hv
    · rw [valV_encR] at hv
      by_cases ht : t ∈ W.keys
      · rw [if_pos ht] at hv; cases hv
      · let L' : WL := { L with b := fun u => if u = t then pd else L.b u }
        let W' : WS := { W with keys := W.keys ++ [t], M := fun u => if u = t then [] else W.M u }
        have ne : ∀ u ∈ W.keys, u ≠ t := fun u hu e => ht (e ▸ hu)
        have hLb : L'.b t = pd := if_pos rfl
        have ha : ∀ s, wLive W.keys s → L'.addr s = L.addr s := fun s hs => by
          cases s with
          | b u => exact if_neg (ne u hs)
          | _ => rfl
        have hl : ∀ s, wLive W'.keys s → wLive W.keys s ∨ s = .b t := fun s hs => by
          cases s with
          | b u =>
            rcases List.mem_append.mp (show u ∈ W.keys ++ [t] from hs) with e | e
            · exact .inl e
            · right
              have : u = t := by simpa using e
              rw [this]
          | _ => exact .inl trivial
        have O2 : Own (wLive W'.keys) L'.addr (setR (wObj C L W) (.b t) (.dK [])) H0 (upd H pd (.dK [])) := by
          have := O.add (live' := wLive W'.keys) (addr' := L'.addr) (r := .b t) (fun h => ht h) hl ha (by show H (L'.b t) = none; rw [hLb]; exact hpd) (.dK [])
          have e : L'.addr (.b t) = pd := hLb
          rw [e] at this
          exact this
        have O3 := O2.put (r := .be) trivial (.dK (encR W'.keys L'.b))
        have e3 : putK (encR W.keys L.b) (Sum.inl t : Key) (V.ref pd) = encR W'.keys L'.b := by
          have := putK_encR (keys := W.keys) (b := L.b) (b' := L'.b) (t := t) ht fun u hu => if_neg (ne u hu)
          rw [hLb] at this
          exact this
        have hQ' := hQ L' W' (upd (upd H pd (.dK [])) L.be (.dK (encR W'.keys L'.b))) rfl rfl rfl ⟨Nat.le_succ_of_le ok.a, Nat.le_succ_of_le ok.s, by show (W.keys ++ [t]).length ≤ n + 1; rw [List.length_append, List.length_singleton]; exact Nat.succ_le_succ ok.k, Nat.le_succ_of_le ok.e, fun u => ?_, ?_⟩ (fun u => ?_) (by show t ∈ W.keys ++ [t]; simp) ?_
        · rw [hLb] at hQ'
          rw [e3]
          exact hQ'
        · show (if u = t then [] else W.M u).length ≤ n + 1
          split
          · exact Nat.zero_le _
          · exact Nat.le_succ_of_le (ok.m u)
        · show (W.keys ++ [t]).Nodup
          exact List.nodup_append.mpr ⟨ok.nd, by simp, fun a ha b hb e => by
            have : b = t := by simpa using hb
            exact ht (this ▸ e ▸ ha)⟩
        · show (if u = t then [] else W.M u).length ≤ n
          split
          · exact Nat.zero_le _
          · exact ok.m u
        · refine O3.cong fun r hr => ?_
          cases r with
          | b u =>
            by_cases hu : u = t
            · subst hu
              rw [setR_ne _ _ (by intro e; cases e), setR_same]
              show _ = HO.dK (if u = u then [] else W.M u)
              rw [if_pos rfl]
            · rw [setR_ne _ _ (by intro e; cases e), setR_ne _ _ (by intro e; cases e; exact hu rfl)]
              show HO.dK (W.M u) = HO.dK (if u = t then [] else W.M u)
              rw [if_neg hu]
          | _ => rfl
  refine key _ fun L' W' H' e1 e2 e3 ok' okM ht O' => ?_
  have hM := O'.has (.b t) ht
  have hA := O'.has .am trivial
  refine ⟨L'.b t, rfl, isD_of hM, _, rfl, ?_⟩
  refine ⟨_, rfl, L'.p, C, L'.dp, _, _, by rw [e1], O'.has .p trivial, TW.cl, TW.nA, rfl, L'.am, rfl, isD_of hA, _, rfl, _, dget_s x hA, ?_⟩
  rw [map_getD]
  refine ⟨_, Sum.inr x, hM, rfl, small1000 (by have := okM t; omega), fun v hv => ?_, fun hv => ?_⟩
  · exact q _ ⟨L', W', e1, e2, e3, ok', O'⟩
  · refine q _ ⟨L', { W' with M := fun u => if u = t then putK (W'.M t) (Sum.inr x) (V.int ((get W'.A x).getD 0)) else W'.M u }, e1, e2, e3, ⟨ok'.a, ok'.s, ok'.k, ok'.e, fun u => ?_, ok'.nd⟩, (O'.put (r := .b t) ht (.dK (putK (W'.M t) (Sum.inr x) (V.int ((get W'.A x).getD 0))))).cong fun r hr => ?_⟩
    · show (if u = t then _ else W'.M u).length ≤ n + 1
      split
      · exact Nat.le_trans (length_putK _ _ _) (Nat.succ_le_succ (okM t))
      · exact ok'.m u
    · cases r with
      | b u =>
        by_cases hu : u = t
        · subst hu
          rw [setR_same]
          show _ = HO.dK (if u = u then _ else W'.M u)
          rw [if_pos rfl]
        · rw [setR_ne _ _ (by intro e; cases e; exact hu rfl)]
          show HO.dK (W'.M u) = HO.dK (if u = t then _ else W'.M u)
          rw [if_neg hu]
      | _ => rfl
theorem ok_wstep {f C : Addr} {fd : FuncData} (F : Fun K "do_step" "Work.do_step" sWStep f fd) (TW : TxtW K mg C) : FnOk P w K mg base CX0 1 f fd ["self", "t", "step"] (spWStep K C) := by
  have sc := scWStep
  refine F.ok scWStep (fun vs H Q E h => ?_) (fun cdv A outer s H vs Q E hr h => ?_)
  · obtain ⟨H0, p, b, t, st, A, S, n, rfl, _⟩ := h
    rfl
  · obtain ⟨H0, p, b, t, st, A0, S0, n, rfl, hW, hn, hT0, q⟩ := h
    have hu := hu_of hr
    refine ⟨_, pss_cons (ps_set (i := 3) sc.nd rfl (Or.inl rfl) (pe_ix ix_tup (pv 2) pe_int (fun _ _ => rfl))) (Evl.pss_cut (ps_if (pt_cmpR op_eq (pe_ix ix_tup (pv 2) pe_int (fun _ _ => rfl)) pe_str (nomark _))
        (pss_cons (ps_set (i := 4) sc.nd rfl (Or.inl rfl) (pe_dget2 hu (pe_fld (pv 0) rfl) (pv 3) pe_int ⟨rfl, rfl, rfl, rfl⟩)) (pss_one (ps_dput hu (pe_fld (pv 0) rfl) (pv 1) (pe_op op_add (pe_dget2 hu (pe_fld (pv 0) rfl) (pv 1) pe_int ⟨rfl, rfl, rfl, rfl⟩) (pv 4)) rfl)))
        (pss_cons (ps_set (i := 4) sc.nd rfl (Or.inl rfl) (pe_op op_add (pe_dget2 hu (pe_fld (pv 0) rfl) (pv 1) pe_int ⟨rfl, rfl, rfl, rfl⟩) (pe_ix ix_tup (pv 2) pe_int (fun _ _ => rfl)))) (pss_cons (ps_expr (pe_dsetd (pe_dsetd (pe_fld (pv 0) rfl) (pv 1) pe_dnewK ⟨rfl, rfl, rfl, rfl⟩) (pv 3) (pe_dget2 hu (pe_fld (pv 0) rfl) (pv 3) pe_int ⟨rfl, rfl, rfl, rfl⟩) ⟨rfl, rfl, rfl, rfl⟩)) (pss_one (ps_dput hu (pe_fld (pv 0) rfl) (pv 3) (pv 4) rfl)))))
      (pss_cons (ps_expr (pe_bm PySem.F.plainAttrs_list PySem.F.slot_list_append PySem.F.type_list_append mt_append (pe_fld (pv 0) rfl) (pa_cons (pe_tup (pa_cons (pe_ix ix_tup (pv 2) pe_int (fun _ _ => rfl)) (pa_cons (pv 1) (pa_cons (pv 3) pa_nil)))) pa_nil))) (pss_one (ps_ret (pv 4))))), ?_⟩
    have hTH : SqT K H b (encS st) := let ⟨_, _, _, _, _, _, O⟩ := hW; O.same.sqt hT0
    -- the end
    have fin : ∀ (x : Str) (v : V) (H' : Hp) (A1 : List (Str × Int)) (S1 : List (Int × Int)), atI (encS st) 1 = some (.str x) → WorkAt C H0 H' p A1 S1 (n + 2) → (stepW t (A0, S0) st).1 = A1 → (stepW t (A0, S0) st).2 = S1 →
        tSeq (tDrop (tBM K "list" rAppend (tFld K (tVar 0) "schedule") (tCons (tTup (tCons (tOp (rIxT K) (tVar 2) (tC (.int 0))) (tCons (tVar 1) (tCons (tVar 3) tNil)))) tNil))) (tRet (tVar 4)) { nx := fun _ H' => Q .non H', rt := Q } [some (.ref p), some (.int t), some (.ref b), some (.str x), some v] H' := fun x v H' A1 S1 hx hW1 eA eS => by
      obtain ⟨L, W, rfl, rfl, rfl, ok, O⟩ := hW1
      obtain ⟨z, hz⟩ : ∃ z, atI (encS st) 0 = some z := by cases st <;> exact ⟨_, at_int (by decide) rfl⟩
      have hsc := O.has .sc trivial
      refine ⟨_, rfl, L.p, C, L.dp, _, _, rfl, O.has .p trivial, TW.cl, TW.nE, rfl, .inl ⟨rfl, _, SqL.of hsc⟩, ?_⟩
      refine ⟨_, rfl, b, _, _, _, rfl, rfl, O.same.sqt hT0, hz, _, rfl, _, rfl, (by show 3 ≤ sizeLine; decide), fun y hy => ?_⟩
      have O1 := O.grow ((Same.refl _).new (o := .tup [z, .int t, .str x]) hy)
      refine ⟨L.sc, _, _, rfl, rfl, O1.has .sc trivial, small1000 (by have := ok.e; omega), ?_⟩
      refine ⟨_, rfl, q v _ ⟨L, { W with evs := W.evs ++ [.ref y] }, rfl, eA.symm, eS.symm, ⟨Nat.le_succ_of_le ok.a, Nat.le_succ_of_le ok.s, Nat.le_succ_of_le ok.k, by show (W.evs ++ [V.ref y]).length ≤ n + 3; rw [List.length_append, List.length_singleton]; exact Nat.succ_le_succ ok.e, fun u => Nat.le_succ_of_le (ok.m u), ok.nd⟩, (O1.put (r := .sc) trivial (.lst (W.evs ++ [.ref y]))).cong fun r hr => ?_⟩⟩
      cases r <;> rfl
    have hWc := hW
    obtain ⟨L, W, rfl, rfl, rfl, ok, O⟩ := hWc
    have hA := O.has .am trivial
    have hS := O.has .su trivial
    have h0 := O.has .p trivial
    cases st with
    | rd x =>
      have q1 : atI (encS (.rd x)) 1 = some (.str x) := at_int (by decide) rfl
      have q0 : atI (encS (.rd x)) 0 = some (.str "read") := at_int (by decide) rfl
      refine ⟨_, rfl, b, _, _, _, rfl, rfl, hTH, q1, ?_⟩
      refine ⟨fun σ' H' => ∃ v, σ' = [some (.ref L.p), some (.int t), some (.ref b), some (.str x), some v] ∧ WorkAt C H0 H' L.p (stepW t (W.A, W.S) (.rd x)).1 (stepW t (W.A, W.S) (.rd x)).2 (n + 2), ?_, ?_⟩
      · refine ⟨_, rfl, b, _, _, _, rfl, rfl, hTH, q0, rfl, _, rfl, ?_⟩
        refine ite2 (fun _ => ?_) (fun c => absurd (by decide +kernel) c)
        refine ⟨_, rfl, L.p, C, L.dp, _, _, rfl, h0, TW.cl, TW.nA, rfl, L.am, rfl, isD_of hA, _, rfl, _, dget_s x hA, ?_⟩
        rw [map_getD]
        refine ⟨_, rfl, L.p, C, L.dp, _, _, rfl, h0, TW.cl, TW.nS, rfl, L.su, rfl, isD_of hS, _, rfl, _, dget_i t hS, ?_⟩
        rw [map_getD]
        refine ⟨_, rfl, _, _, rfl, rfl, _, rfl, L.p, C, L.dp, _, _, rfl, h0, TW.cl, TW.nS, rfl, _, rfl, L.su, _, rfl, dput_i t _ hS (by have := ok.s; omega), ?_⟩
        refine ⟨_, rfl, L, { W with S := put W.S t ((get W.S t).getD 0 + (get W.A x).getD 0) }, rfl, rfl, rfl, WOk.mono (n := n + 1) ⟨Nat.le_succ_of_le ok.a, Nat.le_trans (put_len _ _ _) (Nat.succ_le_succ ok.s), Nat.le_succ_of_le ok.k, Nat.le_succ_of_le ok.e, fun u => Nat.le_succ_of_le (ok.m u), ok.nd⟩ (Nat.le_succ _), (O.put (r := .su) trivial (.dK _)).cong fun r hr => ?_⟩
        cases r <;> rfl
      · rintro σ' H' ⟨v, rfl, hW1⟩
        exact fin x v H' _ _ q1 hW1 rfl rfl
    | wr x m =>
      have q2 : atI (encS (.wr x m)) 2 = some (.int m) := at_int (by decide) rfl
      have q1 : atI (encS (.wr x m)) 1 = some (.str x) := at_int (by decide) rfl
      have q0 : atI (encS (.wr x m)) 0 = some (.str "write") := at_int (by decide) rfl
      refine ⟨_, rfl, b, _, _, _, rfl, rfl, hTH, q1, ?_⟩
      refine ⟨fun σ' H' => ∃ v, σ' = [some (.ref L.p), some (.int t), some (.ref b), some (.str x), some v] ∧ WorkAt C H0 H' L.p (stepW t (W.A, W.S) (.wr x m)).1 (stepW t (W.A, W.S) (.wr x m)).2 (n + 2), ?_, ?_⟩
      · refine ⟨_, rfl, b, _, _, _, rfl, rfl, hTH, q0, rfl, _, rfl, ?_⟩
        refine ite2 (fun c => absurd c (by decide +kernel)) (fun _ => ?_)
        refine ⟨_, rfl, L.p, C, L.dp, _, _, rfl, h0, TW.cl, TW.nS, rfl, L.su, rfl, isD_of hS, _, rfl, _, dget_i t hS, ?_⟩
        rw [map_getD]
        refine ⟨_, rfl, b, _, _, _, rfl, rfl, hTH, q2, _, _, rfl, rfl, ?_⟩
        refine w_before TW hW hn fun H1 hW1 => ?_
        obtain ⟨L1, W1, e1, e2, e3, ok1, O1⟩ := hW1
        have hA1 := O1.has .am trivial
        refine ⟨_, rfl, _, rfl, L1.p, C, L1.dp, _, _, by rw [e1], O1.has .p trivial, TW.cl, TW.nA, rfl, _, rfl, L1.am, _, rfl, dput_s x _ hA1 (by have := ok1.a; omega), ?_⟩
        refine ⟨_, rfl, L1, { W1 with A := put W1.A x ((get W.S t).getD 0 + m) }, e1, by show put W1.A x _ = put W.A x _; rw [e2], e3, ⟨Nat.le_trans (put_len _ _ _) (Nat.succ_le_succ ok1.a), Nat.le_succ_of_le ok1.s, Nat.le_succ_of_le ok1.k, Nat.le_succ_of_le ok1.e, fun u => Nat.le_succ_of_le (ok1.m u), ok1.nd⟩, (O1.put (r := .am) trivial (.dK _)).cong fun r hr => ?_⟩
        cases r <;> rfl
      · rintro σ' H' ⟨v, rfl, hW1⟩
        exact fin x v H' _ _ q1 hW1 rfl rfl
end
end Ok
namespace Ok
open PySem L2
section
variable {ι : Type} [DecidableEq ι]
theorem stepW_nodup {t : Int} {st : List (ι × Int) × List (Int × Int)} {x : Step ι} (h : (st.1.map (·.1)).Nodup) : ((stepW t st x).1.map (·.1)).Nodup := by
  cases x with
  | rd x => exact h
  | wr x n => exact put_nodup _ _ h
theorem stepW_len {t : Int} {st : List (ι × Int) × List (Int × Int)} {x : Step ι} : (stepW t st x).1.length ≤ st.1.length + 1 := by
  cases x with
  | rd x => exact Nat.le_succ _
  | wr x n => exact put_len _ _ _
theorem foldW_nodup {t : Int} : ∀ (l : List (Step ι)) {st : List (ι × Int) × List (Int × Int)}, (st.1.map (·.1)).Nodup → ((l.foldl (stepW t) st).1.map (·.1)).Nodup
  | [], _, h => h
  | _ :: r, _, h => foldW_nodup r (stepW_nodup h)
theorem foldW_len {t : Int} : ∀ (l : List (Step ι)) {st : List (ι × Int) × List (Int × Int)}, (l.foldl (stepW t) st).1.length ≤ st.1.length + l.length
  | [], _ => Nat.le_refl _
  | x :: r, st => by
    have h1 := foldW_len (t := t) r (st := stepW t st x)
    have h2 := stepW_len (t := t) (st := st) (x := x)
    show (List.foldl (stepW t) (stepW t st x) r).1.length ≤ st.1.length + (r.length + 1)
    omega
theorem script_short {ss : List (List (Step ι))} (h : ∀ s ∈ ss, s.length ≤ 8) (t : Int) : (script ss t).length ≤ 8 := by
  unfold script
  rw [List.getD_eq_getElem?_getD]
  cases e : ss[(t - 1).toNat]? with
  | none => simp
  | some s => exact h s (List.mem_of_getElem? e)
theorem serial_fold {ss : List (List (Step ι))} (h : ∀ s ∈ ss, s.length ≤ 8) : ∀ (order : List Int) (st : List (ι × Int) × List (Int × Int)), (st.1.map (·.1)).Nodup →
    ((order.foldl (fun st t => serialOne ss t st) st).1.map (·.1)).Nodup ∧ (order.foldl (fun st t => serialOne ss t st) st).1.length ≤ st.1.length + 8 * order.length
  | [], _, hn => ⟨hn, Nat.le_refl _⟩
  | t :: r, st, hn => by
    have ih := serial_fold h r (serialOne ss t st) (foldW_nodup _ hn)
    have h1 : (serialOne ss t st).1.length ≤ st.1.length + (script ss t).length := foldW_len _
    have h2 := script_short h t
    refine ⟨ih.1, Nat.le_trans ih.2 ?_⟩
    simp only [List.length_cons]
    omega
end
theorem serial_nodup {ss : List (List (Step Str))} (h : ∀ s ∈ ss, s.length ≤ 8) (order : List Int) : ((serialR ss order).1.map (·.1)).Nodup := (serial_fold h order ([], []) List.nodup_nil).1
theorem serial_len {ss : List (List (Step Str))} (h : ∀ s ∈ ss, s.length ≤ 8) (order : List Int) : (serialR ss order).1.length ≤ 8 * order.length := by
  have := (serial_fold h order ([], []) List.nodup_nil).2
  unfold serialR
  simpa using this
section
variable {P : Program} {w : World} {K : PySem.W.Frag} {mg : Str → Option Value} {base : Heap}
def spSerial (K : PySem.W.Frag) : Sp := fun vs H Q _ => ∃ (a b : Addr) (ss : List (List (Step Str))) (order : List Int), vs = [.ref a, .ref b] ∧ SsAt K H a ss ∧ SsOk ss ∧ SqL K H b (order.map V.int) ∧ order.length ≤ 5 ∧ (∀ t ∈ order, 1 ≤ t ∧ t ≤ (ss.length : Int)) ∧
  ∀ (ys : List Str) (p : Addr) (H' : Hp), ys.Perm ((serialR ss order).1.map (·.1)) → PyProof.Rows.sortedS ys = true → Same H H' → H p = none → RowsAt K H' p ((toldOf (serialR ss order).1 ys).map encT) → Q (.ref p) H'
theorem scSerial : FnScope ["scripts", "order", "work", "t", "step"] ["scripts", "order"] (defScope sSerial) := ⟨rfl, rfl, rfl, by decide +kernel, rfl, by decide +kernel, by decide +kernel⟩
/-- the script of t, in the list of scripts -/
theorem script_at {K : PySem.W.Frag} {H : Hp} {as : List Addr} {ss : List (List (Step Str))} {t : Int} (hl : as.length = ss.length) (h : ∀ (i : Nat) (b : Addr) (s : List (Step Str)), as[i]? = some b → ss[i]? = some s → RowsAt K H b (s.map encS)) (h1 : 1 ≤ t) (h2 : t ≤ (ss.length : Int)) :
    ∃ b, atI (as.map V.ref) (t - 1) = some (.ref b) ∧ RowsAt K H b ((script ss t).map encS) := by
  have hi : (t - 1).toNat < ss.length := by omega
  have hi2 : (t - 1).toNat < as.length := by omega
  have e1 : as[(t - 1).toNat]? = some as[(t - 1).toNat] := List.getElem?_eq_getElem hi2
  have e2 : ss[(t - 1).toNat]? = some ss[(t - 1).toNat] := List.getElem?_eq_getElem hi
  refine ⟨as[(t - 1).toNat], at_int (by omega) (map_at e1), ?_⟩
  have e3 : script ss t = ss[(t - 1).toNat] := by
    unfold script
    rw [List.getD_eq_getElem?_getD, e2]
    rfl
  rw [e3]
  exact h _ _ _ e1 e2
theorem ok_serial {f fT fI fS C : Addr} {fd fdT fdI fdS : FuncData} (F : Fun K "serial_run" "serial_run" sSerial f fd) (T : Glb mg) (TW : TxtW K mg C) (FT : Fun K "told_values" "told_values" sTold fT fdT) (bT : Binds K fdT ["values"] []) (mT : mg "told_values" = some (.ref fT))
    (M : Mk K C fI) (FI : Fun K "__init__" "Work.__init__" sWInit fI fdI) (bI : Binds K fdI ["self"] []) (FS : Fun K "do_step" "Work.do_step" sWStep fS fdS) (bS : Binds K fdS ["self", "t", "step"] []) (mS : Meth K C "do_step" fS) :
    FnOk P w K mg base CX0 3 f fd ["scripts", "order"] (spSerial K) := by
  have GT : FnOk P w K mg base CX0 1 fT fdT ["values"] (spTold K) := ok_told FT T
  have GI : FnOk P w K mg base CX0 1 fI fdI ["self"] (spWInit C) := ok_winit FI TW
  have GS : FnOk P w K mg base CX0 1 fS fdS ["self", "t", "step"] (spWStep K C) := ok_wstep FS TW
  have sc := scSerial
  refine F.ok scSerial (fun vs H Q E h => ?_) (fun cdv A outer s H vs Q E hr h => ?_)
  · obtain ⟨a, b, ss, order, rfl, _⟩ := h
    rfl
  · obtain ⟨a, b, ss, order, rfl, ⟨as, hal, hlen, hrow⟩, hok, hb, ho5, ho, q⟩ := h
    have hr1 : Room 1 _ := hr.mono (by decide)
    refine ⟨_, (pss_cons (ps_set (i := 2) sc.nd rfl (Or.inl rfl) (pe_make0 M GI hr (by rfl) TW.mgC bI .nil pass0)) (pss_cons (ps_for PassesOwn.never rfl (pi_list (pv 1)) (pg_name (i := 3) sc.nd rfl (Or.inl rfl)) (pss_one (ps_for PassesOwn.never rfl (pi_list (pe_ix ix_list (pv 0) (pe_op op_sub (pv 3) pe_int) (fun _ _ => rfl))) (pg_name (i := 4) sc.nd rfl (Or.inl rfl)) (pss_one (ps_expr (pe_meth (pv 2) TW.cl mS GS hr1 bS .nil pass0 (pa_cons (pv 3) (pa_cons (pv 4) pa_nil)))))))) (pss_one (ps_ret (pe_call GT hr1 (by rfl) mT FT.kp bT .nil pass0 (pa_cons (pe_fld (pv 2) rfl) pa_nil)))))), ?_⟩
    intro x dx nx ndx nex
    refine ⟨H, x, dx, rfl, rfl, nx, ndx, nex, fun H1 hW1 => ⟨rfl, ?_⟩⟩
    have sW : ∀ {H2 : Hp} {A S n}, WorkAt C H H2 x A S n → Same H H2 := fun ⟨_, _, _, _, _, _, O⟩ => O.same
    refine ⟨_, rfl, b, rfl, ⟨_, (sW hW1).seq hb⟩, for_list (K := K) (a := b) (xs := order.map V.int) (fun i σ H2 => ∃ (v3 v4 : Option V), σ = [some (.ref a), some (.ref b), some (.ref x), v3, v4] ∧ WorkAt C H H2 x (serialR ss (order.take i)).1 (serialR ss (order.take i)).2 (24 * i) ∧ i ≤ 5)
      ⟨none, none, rfl, hW1, by omega⟩ (fun i σ H2 _ ⟨_, _, _, hW, _⟩ => (sW hW).seq hb) ?_ ?_⟩
    · rintro i y σ H2 hi ⟨v3, v4, rfl, hW, hi5⟩
      obtain ⟨t, ht, rfl⟩ := map_get hi
      obtain ⟨t1, t2⟩ := ho t (List.mem_of_getElem? ht)
      have hil := (List.getElem?_eq_some_iff.mp ht).1
      have s2 := sW hW
      obtain ⟨c, hc, rs, hrl, hrT⟩ := script_at hlen hrow t1 t2
      have hsh := script_short hok.short t
      refine ⟨_, rfl, _, rfl, _, _, rfl, rfl, a, _, _, _, rfl, rfl, s2.seq hal, hc, c, rfl, ⟨_, s2.seq hrl⟩, for_list (K := K) (a := c) (xs := rs.map V.ref) (fun j σ H3 => ∃ (v4 : Option V), σ = [some (.ref a), some (.ref b), some (.ref x), some (.int t), v4] ∧
          WorkAt C H H3 x (((script ss t).take j).foldl (stepW t) (serialR ss (order.take i))).1 (((script ss t).take j).foldl (stepW t) (serialR ss (order.take i))).2 (24 * i + 3 * j))
        ⟨_, rfl, hW⟩ (fun j σ H3 _ ⟨_, _, hW3⟩ => (sW hW3).seq hrl) ?_ ?_⟩
      · rintro j y σ H3 hj ⟨v4, rfl, hW3⟩
        obtain ⟨bb, r, rfl, _, hr', hTb⟩ := hrT.at hj
        obtain ⟨st, hst, rfl⟩ := map_get hr'
        have hjl := (List.getElem?_eq_some_iff.mp hst).1
        obtain ⟨L, W, e1, e2, e3, ok, O⟩ := id hW3
        refine ⟨_, rfl, x, L.dp, wFs L, rfl, by rw [← e1]; exact O.has .p trivial, rfl, _, rfl, _, rfl, ?_⟩
        refine ⟨H, x, bb, t, st, _, _, 24 * i + 3 * j, rfl, hW3, by omega, hTb, fun v H4 hW4 => ?_⟩
        refine ⟨_, rfl, ?_⟩
        rw [take_snoc hst, List.foldl_append]
        exact hW4
      · rintro σ H3 ⟨v4, rfl, hW3⟩
        refine ⟨_, _, rfl, ?_, by omega⟩
        have e : serialR ss (order.take (i + 1)) = ((script ss t).take (rs.map V.ref).length).foldl (stepW t) (serialR ss (order.take i)) := by
          rw [take_snoc ht]
          unfold serialR
          rw [List.foldl_append]
          show serialOne ss t _ = _
          unfold serialOne
          rw [List.length_map, hrT.1, List.length_map, List.take_length]
        rw [e]
        obtain ⟨L, W, e1, e2, e3, ok, O⟩ := hW3
        exact ⟨L, W, e1, e2, e3, ok.mono (by rw [List.length_map, hrT.1, List.length_map]; omega), O⟩
    · rintro σ H2 ⟨v3, v4, rfl, hW, hi5⟩
      rw [List.length_map, List.take_length] at hW
      obtain ⟨L, W, e1, e2, e3, ok, O⟩ := hW
      have hn := serial_nodup hok.short order
      have hl := serial_len hok.short order
      refine ⟨_, rfl, L.p, C, L.dp, wFs L, _, by rw [e1], O.has .p trivial, TW.cl, TW.nA, rfl, L.am, W.A, rfl, O.has .am trivial, by rw [e2]; exact hn, by rw [e2]; omega, fun ys p H3 hp hs s3 hp0 hR => ?_⟩
      rw [e2] at hp hR
      exact q ys p H3 hp hs (O.same.trans s3) (O.same.free hp0) hR
end
end Ok
namespace Ok
open PySem L2
/-! ### SnapshotRun -/
inductive RR where
  | p | dp | am | wr | cm | sn | ov | ev | x (t : Int) | dx (t : Int) | sa (t : Int) | sw (t : Int) | ws (t : Int) | se (t : Int)
  deriving DecidableEq
structure RL where
  p : Addr
  dp : Addr
  sc : Addr
  am : Addr
  wr : Addr
  cm : Addr
  sn : Addr
  ov : Addr
  ev : Addr
  x : Int → Addr
  dx : Int → Addr
  sa : Int → Addr
  sw : Int → Addr
  ws : Int → Addr
  se : Int → Addr
def RL.addr (L : RL) : RR → Addr
  | .p => L.p
  | .dp => L.dp
  | .am => L.am
  | .wr => L.wr
  | .cm => L.cm
  | .sn => L.sn
  | .ov => L.ov
  | .ev => L.ev
  | .x t => L.x t
  | .dx t => L.dx t
  | .sa t => L.sa t
  | .sw t => L.sw t
  | .ws t => L.ws t
  | .se t => L.se t
def rFs (L : RL) : List (Str × V) := [("scripts", .ref L.sc), ("amounts", .ref L.am), ("writers", .ref L.wr), ("commits", .ref L.cm), ("snapshots", .ref L.sn), ("over", .ref L.ov), ("events", .ref L.ev)]
def sFs (sa sw ws se : Addr) (m : Nat) (tot : Int) (pl : Nat) : List (Str × V) := [("amounts", .ref sa), ("writers", .ref sw), ("moment", .int (m : Int)), ("total", .int tot), ("writes", .ref ws), ("seen", .ref se), ("place", .int (pl : Int))]
def rObj (CR CS : Addr) (L : RL) (evs : List Addr) (R : Run Str) : RR → HO
  | .p => .ins CR L.dp (rFs L)
  | .dp => .own L.p
  | .am => .dK (encK R.amounts)
  | .wr => .dK (encK R.writers)
  | .cm => .lst (R.commits.map V.int)
  | .sn => .dK (encR R.keys L.x)
  | .ov => .lst (R.over.map V.int)
  | .ev => .lst (evs.map V.ref)
  | .x t => .ins CS (L.dx t) (sFs (L.sa t) (L.sw t) (L.ws t) (L.se t) (R.snap t).moment (R.snap t).total (R.snap t).place)
  | .dx t => .own (L.x t)
  | .sa t => .dK (encK (R.snap t).amounts)
  | .sw t => .dK (encK (R.snap t).writers)
  | .ws t => .dK (encK (R.snap t).writes)
  | .se t => .lst ((R.snap t).seen.map V.str)
def rLive (keys : List Int) : RR → Prop
  | .x t => t ∈ keys
  | .dx t => t ∈ keys
  | .sa t => t ∈ keys
  | .sw t => t ∈ keys
  | .ws t => t ∈ keys
  | .se t => t ∈ keys
  | _ => True
structure RunL (K : PySem.W.Frag) (CR CS : Addr) (H0 H : Hp) (L : RL) (evs : List Addr) (R : Run Str) : Prop where
  own : Own (rLive R.keys) L.addr (rObj CR CS L evs R) H0 H
  evs : TupsAt K H evs (R.events.map encE)
structure RSz (R : Run Str) : Prop where
  am : R.amounts.length ≤ 60
  wr : R.writers.length ≤ 60
  cm : R.commits.length ≤ 5
  ky : R.keys.length ≤ 5
  ov : R.over.length ≤ 5
  ev : R.events.length ≤ 900
  ws : ∀ t ∈ R.keys, (R.snap t).writes.length ≤ 8
  se : ∀ t ∈ R.keys, (R.snap t).seen.length ≤ 8
structure TxtR (K : PySem.W.Frag) (mg : Str → Option Value) (CR CS : Addr) : Prop where
  cl : Cls K CR
  nSc : NoAttr K CR "scripts"
  nAm : NoAttr K CR "amounts"
  nWr : NoAttr K CR "writers"
  nCm : NoAttr K CR "commits"
  nSn : NoAttr K CR "snapshots"
  nOv : NoAttr K CR "over"
  nEv : NoAttr K CR "events"
  mgR : mg "SnapshotRun" = some (.ref CR)
  cs : Cls K CS
  mAm : NoAttr K CS "amounts"
  mWr : NoAttr K CS "writers"
  mMo : NoAttr K CS "moment"
  mTo : NoAttr K CS "total"
  mWs : NoAttr K CS "writes"
  mSe : NoAttr K CS "seen"
  mPl : NoAttr K CS "place"
  mgS : mg "Snapshot" = some (.ref CS)
section
variable {P : Program} {w : World} {K : PySem.W.Frag} {mg : Str → Option Value} {base : Heap}
def spRInit (K : PySem.W.Frag) (CR CS : Addr) : Sp := fun vs H Q _ => ∃ (H0 : Hp) (p dx a : Addr), vs = [.ref p, .ref a] ∧ H = upd (upd H0 dx (.own p)) p (.ins CR dx []) ∧ H0 p = none ∧ H0 dx = none ∧ dx ≠ p ∧
  ∀ (L : RL) (H' : Hp), L.p = p → L.sc = a → RunL K CR CS H0 H' L [] newRun → Q .non H'
theorem scRInit : FnScope ["self", "scripts"] ["self", "scripts"] (defScope sRInit) := ⟨rfl, rfl, rfl, by decide +kernel, rfl, by decide +kernel, by decide +kernel⟩
theorem ok_rinit {f CR CS : Addr} {fd : FuncData} (F : Fun K "__init__" "SnapshotRun.__init__" sRInit f fd) (TR : TxtR K mg CR CS) : FnOk P w K mg base CX0 1 f fd ["self", "scripts"] (spRInit K CR CS) := by
  have sc := scRInit
  refine F.ok scRInit (fun vs H Q E h => ?_) (fun cdv A outer s H vs Q E hr h => ?_)
  · obtain ⟨H0, p, dx, a, rfl, _⟩ := h
    rfl
  · obtain ⟨H0, p, dx, a, rfl, rfl, hp, hdx, hne, q⟩ := h
    refine ⟨_, (pss_cons (ps_fld (pv 0) (pv 1) rfl) (pss_cons (ps_fld (pv 0) pe_dnewK rfl) (pss_cons (ps_fld (pv 0) pe_dnewK rfl) (pss_cons (ps_fld (pv 0) (pe_lst pa_nil) rfl) (pss_cons (ps_fld (pv 0) pe_dnewK rfl) (pss_cons (ps_fld (pv 0) (pe_lst pa_nil) rfl) (pss_one (ps_fld (pv 0) (pe_lst pa_nil) rfl)))))))), ?_⟩
    refine ⟨_, rfl, _, rfl, p, CR, dx, [], rfl, upd_same, TR.cl, TR.nSc, (by show 0 < 1000; decide), ?_⟩
    intro am ham
    have n1 : p ≠ am := fun e => by rw [← e, upd_same] at ham; cases ham
    refine ⟨_, rfl, p, CR, dx, putF "scripts" (.ref a) [], rfl, (by rw [upd_ne n1, upd_same]), TR.cl, TR.nAm, (by show 1 < 1000; decide), ?_⟩
    intro wr hwr
    have n2 : p ≠ wr := fun e => by rw [← e, upd_same] at hwr; cases hwr
    refine ⟨_, rfl, p, CR, dx, putF "amounts" (.ref am) (putF "scripts" (.ref a) []), rfl, (by rw [upd_ne n2, upd_same]), TR.cl, TR.nWr, (by show 2 < 1000; decide), ?_⟩
    refine ⟨Nat.zero_le _, fun cm hcm => ?_⟩
    have n3 : p ≠ cm := fun e => by rw [← e, upd_same] at hcm; cases hcm
    refine ⟨_, rfl, p, CR, dx, putF "writers" (.ref wr) (putF "amounts" (.ref am) (putF "scripts" (.ref a) [])), rfl, (by rw [upd_ne n3, upd_same]), TR.cl, TR.nCm, (by show 3 < 1000; decide), ?_⟩
    intro sn hsn
    have n4 : p ≠ sn := fun e => by rw [← e, upd_same] at hsn; cases hsn
    refine ⟨_, rfl, p, CR, dx, putF "commits" (.ref cm) (putF "writers" (.ref wr) (putF "amounts" (.ref am) (putF "scripts" (.ref a) []))), rfl, (by rw [upd_ne n4, upd_same]), TR.cl, TR.nSn, (by show 4 < 1000; decide), ?_⟩
    refine ⟨Nat.zero_le _, fun ov hov => ?_⟩
    have n5 : p ≠ ov := fun e => by rw [← e, upd_same] at hov; cases hov
    refine ⟨_, rfl, p, CR, dx, putF "snapshots" (.ref sn) (putF "commits" (.ref cm) (putF "writers" (.ref wr) (putF "amounts" (.ref am) (putF "scripts" (.ref a) [])))), rfl, (by rw [upd_ne n5, upd_same]), TR.cl, TR.nOv, (by show 5 < 1000; decide), ?_⟩
    refine ⟨Nat.zero_le _, fun ev hev => ?_⟩
    have n6 : p ≠ ev := fun e => by rw [← e, upd_same] at hev; cases hev
    refine ⟨_, rfl, p, CR, dx, putF "over" (.ref ov) (putF "snapshots" (.ref sn) (putF "commits" (.ref cm) (putF "writers" (.ref wr) (putF "amounts" (.ref am) (putF "scripts" (.ref a) []))))), rfl, (by rw [upd_ne n6, upd_same]), TR.cl, TR.nEv, (by show 6 < 1000; decide), ?_⟩
    let z : Int → Addr := fun _ => 0
    let L : RL := ⟨p, dx, a, am, wr, cm, sn, ov, ev, z, z, z, z, z, z⟩
    have hp2 : (upd H0 dx (.own p)) p = none := by rw [upd_ne (Ne.symm hne)]; exact hp
    have O0 : Own (fun r : RR => r ∈ ([] : List RR)) L.addr (fun _ => HO.lst []) H0 H0 := Own.nil (Same.refl H0)
    have O1 := O0.more .dp (.own p) (by decide) hdx
    have O2 := (O1.more .p (.ins CR dx []) (by decide) hp2).put (r := .p) (by decide) (.ins CR dx (putF "scripts" (.ref a) []))
    have O3 := (O2.more .am (.dK []) (by decide) ham).put (r := .p) (by decide) (.ins CR dx (putF "amounts" (.ref am) (putF "scripts" (.ref a) [])))
    have O4 := (O3.more .wr (.dK []) (by decide) hwr).put (r := .p) (by decide) (.ins CR dx (putF "writers" (.ref wr) (putF "amounts" (.ref am) (putF "scripts" (.ref a) []))))
    have O5 := (O4.more .cm (.lst []) (by decide) hcm).put (r := .p) (by decide) (.ins CR dx (putF "commits" (.ref cm) (putF "writers" (.ref wr) (putF "amounts" (.ref am) (putF "scripts" (.ref a) [])))))
    have O6 := (O5.more .sn (.dK []) (by decide) hsn).put (r := .p) (by decide) (.ins CR dx (putF "snapshots" (.ref sn) (putF "commits" (.ref cm) (putF "writers" (.ref wr) (putF "amounts" (.ref am) (putF "scripts" (.ref a) []))))))
    have O7 := (O6.more .ov (.lst []) (by decide) hov).put (r := .p) (by decide) (.ins CR dx (putF "over" (.ref ov) (putF "snapshots" (.ref sn) (putF "commits" (.ref cm) (putF "writers" (.ref wr) (putF "amounts" (.ref am) (putF "scripts" (.ref a) [])))))))
    have O8 := (O7.more .ev (.lst []) (by decide) hev).put (r := .p) (by decide) (.ins CR dx (putF "events" (.ref ev) (putF "over" (.ref ov) (putF "snapshots" (.ref sn) (putF "commits" (.ref cm) (putF "writers" (.ref wr) (putF "amounts" (.ref am) (putF "scripts" (.ref a) []))))))))
    refine q L _ rfl rfl ⟨?_, TupsAt.nil⟩
    have nk : ∀ t : Int, ¬ t ∈ (newRun : Run Str).keys := fun t h => nomatch h
    refine (O8.sub (live' := rLive (newRun : Run Str).keys) fun r hr => ?_).cong fun r hr => ?_
    · cases r <;> first | exact absurd hr (nk _) | decide
    · cases r <;> first | exact absurd hr (nk _) | rfl
/-! ### Snapshot.__init__ -/
def nF4 (a b : Addr) (m : Int) : List (Str × V) := putF "total" (.int 0) (putF "moment" (.int m) (putF "writers" (.ref b) (putF "amounts" (.ref a) [])))
def spNInit (CS : Addr) : Sp := fun vs H Q _ => ∃ (x dx a b : Addr) (m : Int), vs = [.ref x, .ref a, .ref b, .int m] ∧ H x = some (.ins CS dx []) ∧
  ∀ (ws se : Addr), (upd H x (.ins CS dx (nF4 a b m))) ws = none → (upd (upd (upd H x (.ins CS dx (nF4 a b m))) ws (.dK [])) x (.ins CS dx (putF "writes" (.ref ws) (nF4 a b m)))) se = none →
    Q .non (upd (upd (upd (upd (upd H x (.ins CS dx (nF4 a b m))) ws (.dK [])) x (.ins CS dx (putF "writes" (.ref ws) (nF4 a b m)))) se (.lst [])) x (.ins CS dx (putF "place" (.int 0) (putF "seen" (.ref se) (putF "writes" (.ref ws) (nF4 a b m))))))
theorem scNInit : FnScope ["self", "values", "writers", "moment"] ["self", "values", "writers", "moment"] (defScope sNInit) := ⟨rfl, rfl, rfl, by decide +kernel, rfl, by decide +kernel, by decide +kernel⟩
theorem ok_ninit {f CR CS : Addr} {fd : FuncData} (F : Fun K "__init__" "Snapshot.__init__" sNInit f fd) (TR : TxtR K mg CR CS) : FnOk P w K mg base CX0 1 f fd ["self", "values", "writers", "moment"] (spNInit CS) := by
  have sc := scNInit
  refine F.ok scNInit (fun vs H Q E h => ?_) (fun cdv A outer s H vs Q E hr h => ?_)
  · obtain ⟨x, dx, a, b, m, rfl, _⟩ := h
    rfl
  · obtain ⟨x, dx, a, b, m, rfl, hx, q⟩ := h
    refine ⟨_, (pss_cons (ps_fld (pv 0) (pv 1) rfl) (pss_cons (ps_fld (pv 0) (pv 2) rfl) (pss_cons (ps_fld (pv 0) (pv 3) rfl) (pss_cons (ps_fld (pv 0) pe_int rfl) (pss_cons (ps_fld (pv 0) pe_dnewK rfl) (pss_cons (ps_fld (pv 0) (pe_lst pa_nil) rfl) (pss_one (ps_fld (pv 0) pe_int rfl)))))))), ?_⟩
    refine ⟨_, rfl, _, rfl, x, CS, dx, [], rfl, hx, TR.cs, TR.mAm, (by show 0 < 1000; decide), ?_⟩
    refine ⟨_, rfl, _, rfl, x, CS, dx, _, rfl, upd_same, TR.cs, TR.mWr, (by show 1 < 1000; decide), ?_⟩
    rw [upd_upd]
    refine ⟨_, rfl, _, rfl, x, CS, dx, _, rfl, upd_same, TR.cs, TR.mMo, (by show 2 < 1000; decide), ?_⟩
    rw [upd_upd]
    refine ⟨_, rfl, x, CS, dx, _, rfl, upd_same, TR.cs, TR.mTo, (by show 3 < 1000; decide), ?_⟩
    rw [upd_upd]
    intro ws hws
    have n1 : x ≠ ws := fun e => by rw [← e, upd_same] at hws; cases hws
    refine ⟨_, rfl, x, CS, dx, nF4 a b m, rfl, (by rw [upd_ne n1, upd_same]; rfl), TR.cs, TR.mWs, (by show 4 < 1000; decide), ?_⟩
    refine ⟨Nat.zero_le _, fun se hse => ?_⟩
    have n2 : x ≠ se := fun e => by rw [← e, upd_same] at hse; cases hse
    refine ⟨_, rfl, x, CS, dx, putF "writes" (.ref ws) (nF4 a b m), rfl, (by rw [upd_ne n2, upd_same]), TR.cs, TR.mSe, (by show 5 < 1000; decide), ?_⟩
    refine ⟨_, rfl, x, CS, dx, _, rfl, upd_same, TR.cs, TR.mPl, (by show 6 < 1000; decide), ?_⟩
    rw [upd_upd]
    exact q ws se hws hse
end
end Ok
namespace Ok
open PySem L2
theorem mut_dK {H : Hp} {l : Addr} {kvs : List (Key × V)} (h : H l = some (.dK kvs)) : Mut (H l) := by rw [h]; trivial
theorem mut_ins {H : Hp} {l C dx : Addr} {fs : List (Str × V)} (h : H l = some (.ins C dx fs)) : Mut (H l) := by rw [h]; trivial
theorem tups_new {K : PySem.W.Frag} {H : Hp} {as : List Addr} {rows : List (List V)} {l : Addr} {o : HO} (h : TupsAt K H as rows) (hl : H l = none) : TupsAt K (upd H l o) as rows := h.same ((Same.refl _).new hl)
section
variable {P : Program} {w : World} {K : PySem.W.Frag} {mg : Str → Option Value} {base : Heap}
def spOwn (K : PySem.W.Frag) (CR CS : Addr) : Sp := fun vs H Q _ => ∃ (H0 : Hp) (L : RL) (evs : List Addr) (R : Run Str) (t : Int), vs = [.ref L.p, .int t] ∧ RunL K CR CS H0 H L evs R ∧ R.keys.length ≤ 100 ∧
  ∀ (L' : RL) (H' : Hp), L'.p = L.p → L'.sc = L.sc → RunL K CR CS H0 H' L' evs (ownR t R) → Q (.ref (L'.x t)) H'
theorem scOwn : FnScope ["self", "t"] ["self", "t"] (defScope sOwn) := ⟨rfl, rfl, rfl, by decide +kernel, rfl, by decide +kernel, by decide +kernel⟩
/-- the layout with a new snapshot -/
def RL.ext (L : RL) (t : Int) (x dx sa sw ws se : Addr) : RL :=
  { L with x := fun u => if u = t then x else L.x u, dx := fun u => if u = t then dx else L.dx u, sa := fun u => if u = t then sa else L.sa u, sw := fun u => if u = t then sw else L.sw u, ws := fun u => if u = t then ws else L.ws u, se := fun u => if u = t then se else L.se u }
theorem RL.ext_old {L : RL} {t : Int} {x dx sa sw ws se : Addr} {keys : List Int} (ht : t ∉ keys) : ∀ s, rLive keys s → (L.ext t x dx sa sw ws se).addr s = L.addr s := fun s hs => by
  have ne : ∀ u ∈ keys, u ≠ t := fun u hu e => ht (e ▸ hu)
  cases s <;> first | rfl | exact if_neg (ne _ hs)
theorem ok_own {f fN CR CS : Addr} {fd fdN : FuncData} (F : Fun K "own" "SnapshotRun.own" sOwn f fd) (T : Glb mg) (TR : TxtR K mg CR CS) (MS : Mk K CS fN) (FN : Fun K "__init__" "Snapshot.__init__" sNInit fN fdN) (bN : Binds K fdN ["self", "values", "writers", "moment"] []) :
    FnOk P w K mg base CX0 3 f fd ["self", "t"] (spOwn K CR CS) := by
  have GN : FnOk P w K mg base CX0 1 fN fdN ["self", "values", "writers", "moment"] (spNInit CS) := ok_ninit FN TR
  have sc := scOwn
  refine F.ok scOwn (fun vs H Q E h => ?_) (fun cdv A outer s H vs Q E hr h => ?_)
  · obtain ⟨H0, L, evs, R, t, rfl, _⟩ := h
    rfl
  · obtain ⟨H0, L, evs, R, t, rfl, ⟨O, hT⟩, hk, q⟩ := h
    have hu := hu_of hr
    refine ⟨_, (pss_cons (ps_if (pt_cmp (pc_dnotin hu (pv 1) (pe_fld (pv 0) rfl))) (pss_one (ps_dput hu (pe_fld (pv 0) rfl) (pv 1) (pe_make MS GN hr (by rfl) TR.mgS bN .nil pass0 (pa_cons (pe_callTy call_dictD (by rfl) T.dict (by decide +kernel) (pa_cons (pe_fld (pv 0) rfl) pa_nil)) (pa_cons (pe_callTy call_dictD (by rfl) T.dict (by decide +kernel) (pa_cons (pe_fld (pv 0) rfl) pa_nil)) (pa_cons (pe_callB call_len_seq (by rfl) T.len PySem.boot_len (pa_cons (pe_fld (pv 0) rfl) pa_nil)) pa_nil)))) rfl)) pss_nil) (pss_one (ps_ret (pe_dget hu (pe_fld (pv 0) rfl) (pv 1) (fun _ _ => rfl))))), ?_⟩
    have h0 := O.has .p trivial
    have hsn := O.has .sn trivial
    refine ⟨_, rfl, _, rfl, L.p, CR, L.dp, _, _, rfl, h0, TR.cl, TR.nSn, rfl, L.sn, _, rfl, dget_r t hsn, _, rfl, ?_⟩
    by_cases ht : t ∈ R.keys
    · rw [if_pos ht]
      refine iteF ?_
      refine ⟨_, rfl, L.p, CR, L.dp, _, _, rfl, h0, TR.cl, TR.nSn, rfl, _, rfl, L.sn, _, rfl, by have := dget_r t hsn; rw [if_pos ht] at this; exact this, ?_⟩
      refine q L H rfl rfl ?_
      rw [ownR_in ht]
      exact ⟨O, hT⟩
    · rw [if_neg ht]
      refine iteT ?_
      -- dict(self.amounts), dict(self.writers), len(self.commits)
      refine ⟨_, rfl, L.p, CR, L.dp, _, _, rfl, h0, TR.cl, TR.nAm, rfl, L.am, _, rfl, .inl (O.has .am trivial), fun sa hsa => ?_⟩
      have P1 := O.grow ((Same.refl _).new (o := .dK (encK R.amounts)) hsa)
      refine ⟨_, rfl, L.p, CR, L.dp, _, _, rfl, P1.has .p trivial, TR.cl, TR.nWr, rfl, L.wr, _, rfl, .inl (P1.has .wr trivial), fun sw hsw => ?_⟩
      have P2 := P1.grow ((Same.refl _).new (o := .dK (encK R.writers)) hsw)
      refine ⟨_, rfl, L.p, CR, L.dp, _, _, rfl, P2.has .p trivial, TR.cl, TR.nCm, rfl, L.cm, _, rfl, .inl (SqL.of (P2.has .cm trivial)), ?_⟩
      intro x dx nx ndx nex
      refine ⟨x, dx, sa, sw, _, rfl, upd_same, fun ws se hws hse => ⟨rfl, ?_⟩⟩
      have nx' : (upd (upd (upd H sa (.dK (encK R.amounts))) sw (.dK (encK R.writers))) dx (.own x)) x = none := by rw [upd_ne (Ne.symm nex)]; exact nx
      -- all of it owned
      have rn : ∀ {r : RR}, (∀ keys, rLive keys r = (t ∈ keys)) → ¬ rLive R.keys r := fun h q => ht (by rw [h] at q; exact q)
      have old := RL.ext_old (L := L) (x := x) (dx := dx) (sa := sa) (sw := sw) (ws := ws) (se := se) ht
      have O1 := O.add2 (L.ext t x dx sa sw ws se).addr (r := .sa t) (if_pos rfl) (rn fun _ => rfl) old hsa (.dK (encK R.amounts))
      have O2 := O1.add2 (L.ext t x dx sa sw ws se).addr (r := .sw t) (if_pos rfl) (by rintro (h | h); exact rn (fun _ => rfl) h; cases h) (fun _ _ => rfl) hsw (.dK (encK R.writers))
      have O3 := O2.add2 (L.ext t x dx sa sw ws se).addr (r := .dx t) (if_pos rfl) (by rintro ((h | h) | h); exact rn (fun _ => rfl) h; cases h; cases h) (fun _ _ => rfl) ndx (.own x)
      have O4 := O3.add2 (L.ext t x dx sa sw ws se).addr (r := .x t) (if_pos rfl) (by rintro (((h | h) | h) | h); exact rn (fun _ => rfl) h; cases h; cases h; cases h) (fun _ _ => rfl) nx' (.ins CS dx [])
      have O5 := O4.put2 (r := .x t) (.inr rfl) (if_pos rfl) (.ins CS dx (nF4 sa sw ((R.commits.map V.int).length : Nat)))
      have O6 := O5.add2 (L.ext t x dx sa sw ws se).addr (r := .ws t) (if_pos rfl) (by rintro ((((h | h) | h) | h) | h); exact rn (fun _ => rfl) h; cases h; cases h; cases h; cases h) (fun _ _ => rfl) hws (.dK [])
      have O7 := O6.put2 (r := .x t) (.inl (.inr rfl)) (if_pos rfl) (.ins CS dx (putF "writes" (.ref ws) (nF4 sa sw ((R.commits.map V.int).length : Nat))))
      have O8 := O7.add2 (L.ext t x dx sa sw ws se).addr (r := .se t) (if_pos rfl) (by rintro (((((h | h) | h) | h) | h) | h); exact rn (fun _ => rfl) h; cases h; cases h; cases h; cases h; cases h) (fun _ _ => rfl) hse (.lst [])
      have O9 := O8.put2 (r := .x t) (.inl (.inl (.inr rfl))) (if_pos rfl) (.ins CS dx (putF "place" (.int 0) (putF "seen" (.ref se) (putF "writes" (.ref ws) (nF4 sa sw ((R.commits.map V.int).length : Nat))))))
      have hp9 := O9.has .p (.inl (.inl (.inl (.inl (.inl (.inl trivial))))))
      have hsn9 := O9.has .sn (.inl (.inl (.inl (.inl (.inl (.inl trivial))))))
      have O10 := O9.put2 (r := .sn) (.inl (.inl (.inl (.inl (.inl (.inl trivial)))))) (a := L.sn) rfl (.dK (encR (R.keys ++ [t]) (L.ext t x dx sa sw ws se).x))
      refine ⟨_, rfl, L.p, CR, L.dp, rFs L, _, rfl, hp9, TR.cl, TR.nSn, rfl, _, rfl, L.sn, _, rfl, DPut.k (k := Sum.inl t) hsn9 (by rw [encR_len]; exact small1000 (by omega)), ?_⟩
      have ek : putK (encR R.keys L.x) (Sum.inl t : Key) (V.ref x) = encR (R.keys ++ [t]) (L.ext t x dx sa sw ws se).x := by
        have := putK_encR (keys := R.keys) (b := L.x) (b' := (L.ext t x dx sa sw ws se).x) (t := t) ht fun u hu => if_neg (fun e : u = t => ht (e ▸ hu))
        rw [show (L.ext t x dx sa sw ws se).x t = x from if_pos rfl] at this
        exact this
      rw [ek]
      have eR : ownR t R = { R with keys := R.keys ++ [t], snap := setSnap R.snap t (newSnap R.amounts R.writers R.commits.length) } := by unfold ownR; rw [if_neg ht]
      have hp10 := O10.has .p (.inl (.inl (.inl (.inl (.inl (.inl trivial))))))
      have hsn10 := O10.has .sn (.inl (.inl (.inl (.inl (.inl (.inl trivial))))))
      have hret : (L.ext t x dx sa sw ws se).x t = x := if_pos rfl
      refine ⟨_, rfl, L.p, CR, L.dp, rFs L, _, rfl, hp10, TR.cl, TR.nSn, rfl, _, rfl, L.sn, _, rfl, by have := dget_r t hsn10; rw [if_pos (by simp)] at this; exact this, ?_⟩
      refine q (L.ext t x dx sa sw ws se) _ rfl rfl ⟨?_, ?_⟩
      · rw [eR]
        refine (O10.sub (live' := rLive (R.keys ++ [t])) fun r hr => ?_).cong fun r hr => ?_
        · have mem : ∀ u : Int, u ∈ R.keys ++ [t] → u ∈ R.keys ∨ u = t := fun u hu => by simpa using hu
          cases r <;> first
            | exact .inl (.inl (.inl (.inl (.inl (.inl trivial)))))
            | (rcases mem _ hr with h | h
               · exact .inl (.inl (.inl (.inl (.inl (.inl h)))))
               · subst h; simp)
        · cases r with
          | x u =>
            by_cases h : u = t
            · subst h
              simp [setR, rObj, RL.ext, setSnap, newSnap, sFs]
              rfl
            · simp [setR, rObj, RL.ext, setSnap, h]
          | dx u => by_cases h : u = t <;> simp [setR, rObj, RL.ext, h]
          | sa u => by_cases h : u = t <;> simp [setR, rObj, RL.ext, setSnap, newSnap, h]
          | sw u => by_cases h : u = t <;> simp [setR, rObj, RL.ext, setSnap, newSnap, h]
          | ws u => by_cases h : u = t <;> simp [setR, rObj, RL.ext, setSnap, newSnap, h, encK]
          | se u => by_cases h : u = t <;> simp [setR, rObj, RL.ext, setSnap, newSnap, h]
          | _ => rfl
      · have eE : (ownR t R).events = R.events := ownR_events
        rw [eE]
        have nxw : x ≠ ws := fun e => by rw [← e, upd_same] at hws; cases hws
        have nxs : x ≠ se := fun e => by rw [← e, upd_same] at hse; cases hse
        have T4 := tups_new (o := .ins CS dx []) (tups_new (o := .own x) (tups_new (o := .dK (encK R.writers)) (tups_new (o := .dK (encK R.amounts)) hT hsa) hsw) ndx) nx'
        have T5 := T4.upd (o := .ins CS dx (nF4 sa sw ((R.commits.map V.int).length : Nat))) (mut_ins upd_same)
        have T6 := tups_new (o := .dK []) T5 hws
        have T7 := T6.upd (l := x) (o := .ins CS dx (putF "writes" (.ref ws) (nF4 sa sw ((R.commits.map V.int).length : Nat)))) (mut_ins ((upd_ne nxw).trans upd_same))
        have T8 := tups_new (o := .lst []) T7 hse
        have T9 := T8.upd (l := x) (o := .ins CS dx (putF "place" (.int 0) (putF "seen" (.ref se) (putF "writes" (.ref ws) (nF4 sa sw ((R.commits.map V.int).length : Nat)))))) (mut_ins ((upd_ne nxs).trans upd_same))
        exact T9.upd (mut_dK hsn9)
end
end Ok
namespace Ok
open PySem L2
theorem setSnap_twice {ι : Type} (f : Int → Snap ι) (t : Int) (a b : Snap ι) : setSnap (setSnap f t a) t b = setSnap f t b := by
  funext u
  unfold setSnap
  by_cases h : u = t <;> simp [h]
theorem setSnap_at {ι : Type} (f : Int → Snap ι) (t : Int) (a : Snap ι) : setSnap f t a t = a := by unfold setSnap; simp
section
variable {K : PySem.W.Frag} {CR CS : Addr} {H0 H : Hp} {L : RL} {evs : List Addr} {R : Run Str} {t : Int}
/-- one snapshot changed: its writes -/
theorem RunL.setWs (A : RunL K CR CS H0 H L evs R) (ht : t ∈ R.keys) (w : List (Str × Int)) : RunL K CR CS H0 (upd H (L.ws t) (.dK (encK w))) L evs { R with snap := setSnap R.snap t { R.snap t with writes := w } } := by
  refine ⟨(A.own.put2 (r := .ws t) ht rfl (.dK (encK w))).cong fun r hr => ?_, A.evs.upd (mut_dK (A.own.has (.ws t) ht))⟩
  cases r with
  | x u => by_cases h : u = t <;> simp [setR, rObj, setSnap, h]
  | sa u => by_cases h : u = t <;> simp [setR, rObj, setSnap, h]
  | sw u => by_cases h : u = t <;> simp [setR, rObj, setSnap, h]
  | ws u => by_cases h : u = t <;> simp [setR, rObj, setSnap, h]
  | se u => by_cases h : u = t <;> simp [setR, rObj, setSnap, h]
  | dx u => simp [setR, rObj]
  | _ => rfl
/-- its total, its place -/
theorem RunL.setX (A : RunL K CR CS H0 H L evs R) (ht : t ∈ R.keys) (tot : Int) (pl : Nat) : RunL K CR CS H0 (upd H (L.x t) (.ins CS (L.dx t) (sFs (L.sa t) (L.sw t) (L.ws t) (L.se t) (R.snap t).moment tot pl))) L evs { R with snap := setSnap R.snap t { R.snap t with total := tot, place := pl } } := by
  refine ⟨(A.own.put2 (r := .x t) ht rfl _).cong fun r hr => ?_, A.evs.upd (mut_ins (A.own.has (.x t) ht))⟩
  cases r with
  | x u => by_cases h : u = t <;> simp [setR, rObj, setSnap, h]
  | sa u => by_cases h : u = t <;> simp [setR, rObj, setSnap, h]
  | sw u => by_cases h : u = t <;> simp [setR, rObj, setSnap, h]
  | ws u => by_cases h : u = t <;> simp [setR, rObj, setSnap, h]
  | se u => by_cases h : u = t <;> simp [setR, rObj, setSnap, h]
  | dx u => simp [setR, rObj]
  | _ => rfl
theorem RunL.setX2 (A : RunL K CR CS H0 H L evs R) (ht : t ∈ R.keys) (tot : Int) (pl : Nat) {m : Nat} (hm : (R.snap t).moment = m) : RunL K CR CS H0 (upd H (L.x t) (.ins CS (L.dx t) (sFs (L.sa t) (L.sw t) (L.ws t) (L.se t) m tot pl))) L evs { R with snap := setSnap R.snap t { R.snap t with total := tot, place := pl } } := by
  subst hm
  exact A.setX ht tot pl
/-- what it has seen -/
theorem RunL.setSe (A : RunL K CR CS H0 H L evs R) (ht : t ∈ R.keys) (l : List Str) : RunL K CR CS H0 (upd H (L.se t) (.lst (l.map V.str))) L evs { R with snap := setSnap R.snap t { R.snap t with seen := l } } := by
  refine ⟨(A.own.put2 (r := .se t) ht rfl _).cong fun r hr => ?_, A.evs.upd (mut_lst (A.own.has (.se t) ht))⟩
  cases r with
  | x u => by_cases h : u = t <;> simp [setR, rObj, setSnap, h]
  | sa u => by_cases h : u = t <;> simp [setR, rObj, setSnap, h]
  | sw u => by_cases h : u = t <;> simp [setR, rObj, setSnap, h]
  | ws u => by_cases h : u = t <;> simp [setR, rObj, setSnap, h]
  | se u => by_cases h : u = t <;> simp [setR, rObj, setSnap, h]
  | dx u => simp [setR, rObj]
  | _ => rfl
/-- an event more: its tuple is new at y -/
theorem RunL.addEv (A : RunL K CR CS H0 H L evs R) (e : Ev Str) {y : Addr} (hy : H y = none) : RunL K CR CS H0 (upd (upd H y (.tup (encE e))) L.ev (.lst ((evs ++ [y]).map V.ref))) L (evs ++ [y]) { R with events := R.events ++ [e] } := by
  have O1 := A.own.grow ((Same.refl _).new (o := .tup (encE e)) hy)
  refine ⟨(O1.put2 (r := .ev) trivial rfl _).cong fun r hr => ?_, ?_⟩
  · cases r <;> rfl
  · rw [show (R.events ++ [e]).map encE = R.events.map encE ++ [encE e] by simp]
    exact ((A.evs.same ((Same.refl _).new hy)).snoc (SqT.of upd_same)).upd (mut_lst (O1.has .ev trivial))
end
section
variable {P : Program} {w : World} {K : PySem.W.Frag} {mg : Str → Option Value} {base : Heap}
def spRStep (K : PySem.W.Frag) (CR CS : Addr) : Sp := fun vs H Q _ => ∃ (H0 : Hp) (L : RL) (evs : List Addr) (R : Run Str) (t : Int) (b : Addr) (st : Step Str), vs = [.ref L.p, .int t, .ref b] ∧ RunL K CR CS H0 H L evs R ∧ t ∈ R.keys ∧ SqT K H0 b (encS st) ∧ RSz R ∧
  ∀ (L' : RL) (evs' : List Addr) (H' : Hp), L'.p = L.p → L'.sc = L.sc → RunL K CR CS H0 H' L' evs' (stepR t st R) → Q .non H'
theorem scStep : FnScope ["self", "t", "step", "mine", "item"] ["self", "t", "step"] (defScope sStep) := ⟨rfl, rfl, rfl, by decide +kernel, rfl, by decide +kernel, by decide +kernel⟩
theorem ok_rstep {f fO fN CR CS : Addr} {fd fdO fdN : FuncData} (F : Fun K "do_step" "SnapshotRun.do_step" sStep f fd) (T : Glb mg) (TR : TxtR K mg CR CS) (MS : Mk K CS fN) (FN : Fun K "__init__" "Snapshot.__init__" sNInit fN fdN) (bN : Binds K fdN ["self", "values", "writers", "moment"] [])
    (FO : Fun K "own" "SnapshotRun.own" sOwn fO fdO) (bO : Binds K fdO ["self", "t"] []) (mO : Meth K CR "own" fO) : FnOk P w K mg base CX0 4 f fd ["self", "t", "step"] (spRStep K CR CS) := by
  have GO : FnOk P w K mg base CX0 3 fO fdO ["self", "t"] (spOwn K CR CS) := ok_own FO T TR MS FN bN
  have sc := scStep
  refine F.ok scStep (fun vs H Q E h => ?_) (fun cdv A outer s H vs Q E hr h => ?_)
  · obtain ⟨H0, L, evs, R, t, b, st, rfl, _⟩ := h
    rfl
  · obtain ⟨H0, L0, evs, R, t, b, st, rfl, hR0, ht, hT0, hz, q⟩ := h
    have hu := hu_of hr
    refine ⟨_, pss_cons (ps_set (i := 3) sc.nd rfl (Or.inl rfl) (pe_meth (pv 0) TR.cl mO GO hr bO .nil pass0 (pa_cons (pv 1) pa_nil))) (pss_cons (ps_set (i := 4) sc.nd rfl (Or.inl rfl) (pe_ix ix_tup (pv 2) pe_int (fun _ _ => rfl)))
      (Evl.pss_cut (ps_if (pt_cmpR op_eq (pe_ix ix_tup (pv 2) pe_int (fun _ _ => rfl)) pe_str (nomark _))
          (pss_one (ps_dput hu (pe_fld (pv 3) rfl) (pv 4) (pe_op op_add (pe_fld (pv 3) rfl) (pe_ix ix_tup (pv 2) pe_int (fun _ _ => rfl))) rfl))
          (pss_one (ps_if (pt_cmp (pc_din hu (pv 4) (pe_fld (pv 3) rfl)))
            (pss_one (ps_fldaug (pv 3) (pe_dget hu (pe_fld (pv 3) rfl) (pv 4) (fun _ _ => rfl)) in_add))
            (pss_cons (ps_fldaug (pv 3) (pe_dget2 hu (pe_fld (pv 3) rfl) (pv 4) pe_int ⟨rfl, rfl, rfl, rfl⟩) in_add) (pss_one (ps_expr (pe_bm PySem.F.plainAttrs_list PySem.F.slot_list_append PySem.F.type_list_append mt_append (pe_fld (pv 3) rfl) (pa_cons (pv 4) pa_nil))))))))
        (pss_cons (ps_fldaug (pv 3) pe_int in_add) (pss_one (ps_expr (pe_bm PySem.F.plainAttrs_list PySem.F.slot_list_append PySem.F.type_list_append mt_append (pe_fld (pv 0) rfl) (pa_cons (pe_tup (pa_cons (pe_ix ix_tup (pv 2) pe_int (fun _ _ => rfl)) (pa_cons (pv 1) (pa_cons (pv 4) pa_nil)))) pa_nil))))))), ?_⟩
    have hp0 := hR0.own.has .p trivial
    refine ⟨_, rfl, L0.p, L0.dp, rFs L0, rfl, hp0, rfl, _, rfl, H0, L0, evs, R, t, rfl, hR0, by have := hz.ky; omega, fun L H1 eLp eLs hR => ?_⟩
    rw [ownR_in ht] at hR
    have hTH : SqT K H1 b (encS st) := hR.own.same.sqt hT0
    obtain ⟨x, q1, z, q0⟩ : ∃ x, atI (encS st) 1 = some (.str x) ∧ ∃ z, atI (encS st) 0 = some (.str z) ∧ encE (evOf t st) = [.str z, .int t, .str x] ∧ (st = .rd x ∧ z = "read" ∨ ∃ n, st = .wr x n ∧ z = "write") := by
      cases st with
      | rd x => exact ⟨x, at_int (by decide) rfl, "read", at_int (by decide) rfl, rfl, .inl ⟨rfl, rfl⟩⟩
      | wr x n => exact ⟨x, at_int (by decide) rfl, "write", at_int (by decide) rfl, rfl, .inr ⟨n, rfl, rfl⟩⟩
    obtain ⟨q0, qe, qst⟩ := q0
    refine ⟨_, rfl, b, _, _, _, rfl, rfl, hTH, q1, ?_⟩
    refine ⟨fun σ' H' => σ' = [some (.ref L0.p), some (.int t), some (.ref b), some (.ref (L.x t)), some (.str x)] ∧ RunL K CR CS H0 H' L evs { R with snap := setSnap R.snap t { stepS (R.snap t) st with place := (R.snap t).place } }, ?_, ?_⟩
    · have hx := hR.own.has (.x t) ht
      have hws := hR.own.has (.ws t) ht
      refine ⟨_, rfl, b, _, _, _, rfl, rfl, hTH, q0, rfl, _, rfl, ?_⟩
      rcases qst with ⟨rfl, rfl⟩ | ⟨n, rfl, rfl⟩
      · refine ite2 (fun c => absurd c (by decide +kernel)) (fun _ => ?_)
        refine ⟨_, rfl, _, rfl, L.x t, CS, L.dx t, _, _, rfl, hx, TR.cs, TR.mWs, rfl, L.ws t, _, rfl, dget_s x hws, _, rfl, ?_⟩
        cases hg : get (R.snap t).writes x with
        | some v =>
          refine iteT ?_
          refine ⟨_, rfl, L.x t, CS, L.dx t, _, _, rfl, hx, TR.cs, TR.mTo, rfl, _, rfl, L.x t, CS, L.dx t, _, _, rfl, hx, TR.cs, TR.mWs, rfl, _, rfl, L.ws t, _, rfl, by have := dget_s x hws; rw [hg] at this; exact this, _, _, rfl, rfl, L.dx t, _, hx, (by show 7 < 1000; decide), ?_⟩
          refine ⟨rfl, ?_⟩
          have e : { stepS (R.snap t) (.rd x) with place := (R.snap t).place } = { R.snap t with total := (R.snap t).total + v, place := (R.snap t).place } := by
            simp only [stepS, hg]
          rw [e]
          exact hR.setX ht _ _
        | none =>
          refine iteF ?_
          have hsa := hR.own.has (.sa t) ht
          refine ⟨_, rfl, L.x t, CS, L.dx t, _, _, rfl, hx, TR.cs, TR.mTo, rfl, _, rfl, L.x t, CS, L.dx t, _, _, rfl, hx, TR.cs, TR.mAm, rfl, L.sa t, rfl, isD_of hsa, _, rfl, _, dget_s x hsa, ?_⟩
          rw [map_getD]
          refine ⟨_, _, rfl, rfl, L.dx t, _, hx, (by show 7 < 1000; decide), ?_⟩
          have hR1 := hR.setX ht ((R.snap t).total + (get (R.snap t).amounts x).getD 0) (R.snap t).place
          have hx1 := hR1.own.has (.x t) ht
          have hse1 := hR1.own.has (.se t) ht
          have hse2 : (upd H1 (L.x t) (.ins CS (L.dx t) (sFs (L.sa t) (L.sw t) (L.ws t) (L.se t) (R.snap t).moment ((R.snap t).total + (get (R.snap t).amounts x).getD 0) (R.snap t).place))) (L.se t) = some (.lst ((R.snap t).seen.map V.str)) := by
            have h := hR1.own.has (.se t) ht
            have e : (rObj CR CS L evs { R with snap := setSnap R.snap t { R.snap t with total := (R.snap t).total + (get (R.snap t).amounts x).getD 0, place := (R.snap t).place } } (.se t)) = .lst ((R.snap t).seen.map V.str) := by simp [rObj, setSnap]
            rw [e] at h
            exact h
          refine ⟨_, rfl, L.x t, CS, L.dx t, _, _, rfl, hx1, TR.cs, TR.mSe, rfl, .inl ⟨rfl, _, SqL.of hse2⟩, _, rfl, L.se t, _, _, rfl, rfl, hse2, ?_, ?_⟩
          · rw [List.length_map]
            exact small1000 (by have := hz.se t ht; omega)
          · refine ⟨rfl, ?_⟩
            have hR2 := hR1.setSe ht ((R.snap t).seen ++ [x])
            have e2 : (R.snap t).seen.map V.str ++ [V.str x] = ((R.snap t).seen ++ [x]).map V.str := by simp
            rw [e2]
            have e := congrArg (fun sn => ({ R with snap := sn } : Run Str)) (show setSnap R.snap t { stepS (R.snap t) (.rd x) with place := (R.snap t).place } = setSnap (setSnap R.snap t { R.snap t with total := (R.snap t).total + (get (R.snap t).amounts x).getD 0, place := (R.snap t).place }) t { (setSnap R.snap t { R.snap t with total := (R.snap t).total + (get (R.snap t).amounts x).getD 0, place := (R.snap t).place }) t with seen := (R.snap t).seen ++ [x] } from by
              funext u
              by_cases h : u = t <;> simp [setSnap, h, stepS, hg])
            have e' : ({ R with snap := setSnap R.snap t { stepS (R.snap t) (.rd x) with place := (R.snap t).place } } : Run Str) = _ := e
            rw [e']
            exact hR2
      · refine ite2 (fun _ => ?_) (fun c => absurd (by decide +kernel) c)
        have q2 : atI (encS (.wr x n)) 2 = some (.int n) := at_int (by decide) rfl
        refine ⟨_, rfl, L.x t, CS, L.dx t, _, _, rfl, hx, TR.cs, TR.mTo, rfl, _, rfl, b, _, _, _, rfl, rfl, hTH, q2, _, _, rfl, rfl, _, rfl, L.x t, CS, L.dx t, _, _, rfl, hx, TR.cs, TR.mWs, rfl, _, rfl, L.ws t, _, rfl, dput_s x _ hws (by have := hz.ws t ht; omega), ?_⟩
        exact ⟨rfl, hR.setWs ht _⟩
    · rintro σ' H2 ⟨rfl, hR2⟩
      have hx : H2 (L.x t) = some (.ins CS (L.dx t) (sFs (L.sa t) (L.sw t) (L.ws t) (L.se t) (R.snap t).moment (stepS (R.snap t) st).total (R.snap t).place)) := by
        have h := hR2.own.has (.x t) ht
        have e : (rObj CR CS L evs { R with snap := setSnap R.snap t { stepS (R.snap t) st with place := (R.snap t).place } } (.x t)) = .ins CS (L.dx t) (sFs (L.sa t) (L.sw t) (L.ws t) (L.se t) (R.snap t).moment (stepS (R.snap t) st).total (R.snap t).place) := by
          simp only [rObj, setSnap, if_pos]
          rw [(stepS_base (R.snap t) st).2.2]
        rw [e] at h
        exact h
      refine ⟨_, rfl, L.x t, CS, L.dx t, _, _, rfl, hx, TR.cs, TR.mPl, rfl, _, _, rfl, rfl, L.dx t, _, hx, (by show 7 < 1000; decide), ?_⟩
      have e3 : ({ R with snap := setSnap R.snap t (stepS (R.snap t) st) } : Run Str) = _ := congrArg (fun sn => ({ R with snap := sn } : Run Str)) (show setSnap R.snap t (stepS (R.snap t) st) = setSnap (setSnap R.snap t { stepS (R.snap t) st with place := (R.snap t).place }) t { (setSnap R.snap t { stepS (R.snap t) st with place := (R.snap t).place }) t with total := (stepS (R.snap t) st).total, place := (R.snap t).place + 1 } from by
        have hp := stepS_place (R.snap t) st
        funext u
        by_cases h : u = t
        · subst h
          simp only [setSnap, if_pos]
          rw [← hp]
        · simp [setSnap, h])
      have eM : ((setSnap R.snap t { stepS (R.snap t) st with place := (R.snap t).place }) t).moment = (R.snap t).moment := by
        rw [setSnap_at]
        exact (stepS_base (R.snap t) st).2.2
      have hR4 : RunL K CR CS H0 (upd H2 (L.x t) (.ins CS (L.dx t) (putF "place" (.int (((R.snap t).place : Int) + 1)) (sFs (L.sa t) (L.sw t) (L.ws t) (L.se t) (R.snap t).moment (stepS (R.snap t) st).total (R.snap t).place)))) L evs { R with snap := setSnap R.snap t (stepS (R.snap t) st) } := by
        rw [e3]
        exact hR2.setX2 ht (stepS (R.snap t) st).total ((R.snap t).place + 1) eM
      have hev := hR4.own.has .ev trivial
      have hp4 := hR4.own.has .p trivial
      refine ⟨_, rfl, L.p, CR, L.dp, rFs L, _, by rw [eLp], hp4, TR.cl, TR.nEv, rfl, .inl ⟨rfl, _, SqL.of hev⟩, ?_⟩
      refine ⟨_, rfl, b, _, _, _, rfl, rfl, hR4.own.same.sqt hT0, q0, _, rfl, _, rfl, (by show 3 ≤ sizeLine; decide), fun y hy => ?_⟩
      have hR5 := hR4.addEv (evOf t st) hy
      have hev5 := ((Same.refl _).new (o := .tup (encE (evOf t st))) hy) _ _ hev
      rw [← qe]
      refine ⟨L.ev, _, _, rfl, rfl, hev5, ?_, ?_⟩
      · rw [List.length_map, hR4.evs.1, List.length_map]
        exact small1000 (by have := hz.ev; show R.events.length ≤ 1000; omega)
      · rw [refs_snoc]
        exact q L _ _ eLp eLs hR5
end
end Ok
namespace Ok
open PySem L2
theorem for_keys {d : Addr} {o : Obj} {kvs : List (Key × V)} {g : TG} {tb : TS} {D : Ends} {σ : St} {H : Hp} (Pv : Nat → St → Hp → Prop) (h0 : Pv 0 σ H) (hl : ∀ i σ H, i ≤ kvs.length → Pv i σ H → H d = some (.frz o (.dK kvs)))
    (hs : ∀ i k v σ H, kvs[i]? = some (k, v) → Pv i σ H → g (kV k) σ H fun σ2 H2 => tb { D with nx := Pv (i + 1), ct := Pv (i + 1), bk := D.nx } σ2 H2) (hd : ∀ σ H, Pv kvs.length σ H → D.nx σ H) :
    ∃ W : Nat → Nat → St → Hp → Prop, (∃ m, W 0 m σ H) ∧ ∀ i m σ H, W i m σ H →
      ((Itk d o kvs).stop i H ∧ D.nx σ H) ∨ ((Itk d o kvs).go i H ∧ ∃ N : St → Hp → Prop, (∀ σ' H', N σ' H' → ∃ m', m' < m ∧ W (i + 1) m' σ' H') ∧ ∀ x H', (Itk d o kvs).yld i H x H' → g x σ H' fun σ2 H2 => tb { D with nx := N, ct := N, bk := D.nx } σ2 H2) := by
  refine ⟨fun i m σ H => m = kvs.length - i ∧ i ≤ kvs.length ∧ Pv i σ H, ⟨kvs.length, by simp, Nat.zero_le _, h0⟩, ?_⟩
  rintro i m σ H ⟨rfl, hi, p⟩
  have q := hl i σ H hi p
  by_cases hlt : i < kvs.length
  · refine .inr ⟨⟨q, hlt⟩, Pv (i + 1), fun σ' H' p' => ⟨kvs.length - (i + 1), by omega, rfl, hlt, p'⟩, fun x H' y => ?_⟩
    obtain ⟨e, k, v, hk, ex⟩ := y
    subst e ex
    exact hs i k v σ _ hk p
  · have e : i = kvs.length := by omega
    subst e
    exact .inl ⟨⟨q, Nat.le_refl _⟩, hd σ H p⟩
theorem for_items {d : Addr} {o : Obj} {kvs : List (Key × V)} {g : TG} {tb : TS} {D : Ends} {σ : St} {H : Hp} (Pv : Nat → St → Hp → Prop) (h0 : Pv 0 σ H) (hl : ∀ i σ H, i ≤ kvs.length → Pv i σ H → H d = some (.frz o (.dK kvs)))
    (hs : ∀ i k v T σ H, kvs[i]? = some (k, v) → H T = none → Pv i σ H → g (.ref T) σ (upd H T (.tup [kV k, v])) fun σ2 H2 => tb { D with nx := Pv (i + 1), ct := Pv (i + 1), bk := D.nx } σ2 H2) (hd : ∀ σ H, Pv kvs.length σ H → D.nx σ H) :
    ∃ W : Nat → Nat → St → Hp → Prop, (∃ m, W 0 m σ H) ∧ ∀ i m σ H, W i m σ H →
      ((Iti d o kvs).stop i H ∧ D.nx σ H) ∨ ((Iti d o kvs).go i H ∧ ∃ N : St → Hp → Prop, (∀ σ' H', N σ' H' → ∃ m', m' < m ∧ W (i + 1) m' σ' H') ∧ ∀ x H', (Iti d o kvs).yld i H x H' → g x σ H' fun σ2 H2 => tb { D with nx := N, ct := N, bk := D.nx } σ2 H2) := by
  refine ⟨fun i m σ H => m = kvs.length - i ∧ i ≤ kvs.length ∧ Pv i σ H, ⟨kvs.length, by simp, Nat.zero_le _, h0⟩, ?_⟩
  rintro i m σ H ⟨rfl, hi, p⟩
  have q := hl i σ H hi p
  by_cases hlt : i < kvs.length
  · refine .inr ⟨⟨q, hlt⟩, Pv (i + 1), fun σ' H' p' => ⟨kvs.length - (i + 1), by omega, rfl, hlt, p'⟩, fun x H' y => ?_⟩
    obtain ⟨T, k, v, hk, ex, hT, e⟩ := y
    subst e ex
    exact hs i k v T σ _ hk hT p
  · have e : i = kvs.length := by omega
    subst e
    exact .inl ⟨⟨q, Nat.le_refl _⟩, hd σ H p⟩
theorem cut_from {α : Type} (f : α → V) (l : List α) (m : Nat) : cutV (l.map f) (some (m : Int)) none = (l.drop m).map f := by
  unfold cutV
  rw [HT.sIx_nat, HT.sIx_none, List.length_map]
  by_cases h : m ≤ l.length
  · rw [Nat.min_eq_left h, ← List.map_drop, List.take_of_length_le (by simp)]
  · rw [Nat.min_eq_right (by omega), Nat.sub_self, List.take_zero, List.drop_of_length_le (by omega)]
    rfl
theorem cut_to {α : Type} (f : α → V) (l : List α) (m : Nat) : cutV (l.map f) none (some (m : Int)) = (l.take m).map f := by
  unfold cutV
  rw [HT.sIx_nat, HT.sIx_none, List.length_map, List.drop_zero, Nat.sub_zero, ← List.map_take]
  by_cases h : m ≤ l.length
  · rw [Nat.min_eq_left h]
  · rw [Nat.min_eq_right (by omega), List.take_of_length_le (Nat.le_refl _), List.take_of_length_le (by omega)]
theorem encK_at {kvs : List (Str × Int)} {i : Nat} {k : Key} {v : V} (h : (encK kvs)[i]? = some (k, v)) : ∃ x n, kvs[i]? = some (x, n) ∧ k = Sum.inr x ∧ v = .int n := by
  obtain ⟨p, hp, e⟩ := map_get h
  cases e
  exact ⟨p.1, p.2, hp, rfl, rfl⟩
theorem RunL.grow {K : PySem.W.Frag} {CR CS : Addr} {H0 H H' : Hp} {L : RL} {evs : List Addr} {R : Run Str} (A : RunL K CR CS H0 H L evs R) (s : Same H H') : RunL K CR CS H0 H' L evs R := ⟨A.own.grow s, A.evs.same s⟩
section
variable {P : Program} {w : World} {K : PySem.W.Frag} {mg : Str → Option Value} {base : Heap}
def hits (R : Run Str) (t u : Int) : Bool := (R.snap u).writes.any fun p => (get (R.snap t).writes p.1).isSome
def spLate (K : PySem.W.Frag) (CR CS : Addr) : Sp := fun vs H Q _ => ∃ (H0 : Hp) (L : RL) (evs : List Addr) (R : Run Str) (t : Int), vs = [.ref L.p, .ref (L.x t)] ∧ RunL K CR CS H0 H L evs R ∧ t ∈ R.keys ∧ (∀ u ∈ R.commits, u ∈ R.keys) ∧ t ∉ R.commits ∧
  ∀ H' : Hp, RunL K CR CS H0 H' L evs R → Q (.bl (late R t)) H'
theorem scLate : FnScope ["self", "mine", "t", "item"] ["self", "mine"] (defScope sLate) := ⟨rfl, rfl, rfl, by decide +kernel, rfl, by decide +kernel, by decide +kernel⟩
theorem ok_late {f CR CS : Addr} {fd : FuncData} (F : Fun K "is_late" "SnapshotRun.is_late" sLate f fd) (TR : TxtR K mg CR CS) : FnOk P w K mg base CX0 1 f fd ["self", "mine"] (spLate K CR CS) := by
  have sc := scLate
  refine F.ok scLate (fun vs H Q E h => ?_) (fun cdv A outer s H vs Q E hr h => ?_)
  · obtain ⟨H0, L, evs, R, t, rfl, _⟩ := h
    rfl
  · obtain ⟨H0, L, evs, R, t, rfl, hR, ht, hCK, htC, q⟩ := h
    have hu := hu_of hr
    refine ⟨_, (pss_cons (ps_for PassesOwn.never rfl (pi_list (pe_slice sl_list (pe_fld (pv 0) rfl) (po_some (pe_fld (pv 1) rfl)) po_none)) (pg_name (i := 2) sc.nd rfl (Or.inl rfl)) (pss_one (ps_lock (ps_for PassesOwn.never rfl (pi_keys (pe_fld (pe_dget hu (pe_fld (pv 0) rfl) (pv 2) (fun _ _ => rfl)) rfl)) (pg_name (i := 3) sc.nd rfl (Or.inl rfl)) (pss_one (ps_if (pt_cmp (pc_din hu (pv 3) (pe_fld (pv 1) rfl))) (pss_one (ps_ret pe_bl)) pss_nil)))))) (pss_one (ps_ret pe_bl))), ?_⟩
    have O := hR.own
    refine ⟨_, rfl, L.p, CR, L.dp, _, _, rfl, O.has .p trivial, TR.cl, TR.nCm, rfl, _, rfl, L.x t, CS, L.dx t, _, _, rfl, O.has (.x t) ht, TR.cs, TR.mMo, rfl, _, rfl, L.cm, _, rfl, SqL.of (O.has .cm trivial), fun c hc => ?_⟩
    rw [cut_from]
    have s1 : Same H (upd H c (.lst ((R.commits.drop (R.snap t).moment).map V.int))) := (Same.refl _).new hc
    refine ⟨c, rfl, ⟨_, SqL.of upd_same⟩, for_list (K := K) (a := c) (xs := (R.commits.drop (R.snap t).moment).map V.int) (fun i σ H2 => ∃ (v2 v3 : Option V), σ = [some (.ref L.p), some (.ref (L.x t)), v2, v3] ∧ Same (upd H c (.lst ((R.commits.drop (R.snap t).moment).map V.int))) H2 ∧ ∀ (j : Nat) (u : Int), j < i → (R.commits.drop (R.snap t).moment)[j]? = some u → hits R t u = false)
      ⟨none, none, rfl, Same.refl _, fun j u h => absurd h (by omega)⟩ (fun i σ H2 _ ⟨_, _, _, s2, _⟩ => s2.seq (SqL.of upd_same)) ?_ ?_⟩
    · rintro i y σ H2 hi ⟨v2, v3, rfl, s2, hno⟩
      obtain ⟨u, hu', rfl⟩ := map_get hi
      have huC : u ∈ R.commits := List.mem_of_mem_drop (List.mem_of_getElem? hu')
      have huK := hCK u huC
      have hut : u ≠ t := fun e => htC (e ▸ huC)
      have hR2 := hR.grow (s1.trans s2)
      have hws : H2 (L.ws u) = some (.dK (encK (R.snap u).writes)) := hR2.own.has (.ws u) huK
      refine ⟨L.ws u, _, hws, trivial, fun od => ?_⟩
      have OL := hR2.own.put2 (r := .ws u) huK rfl (.frz od (.dK (encK (R.snap u).writes)))
      have hback : upd (upd H2 (L.ws u) (.frz od (.dK (encK (R.snap u).writes)))) (L.ws u) (.dK (encK (R.snap u).writes)) = H2 := by rw [upd_upd, upd_self hws]
      have hme : (upd H2 (L.ws u) (.frz od (.dK (encK (R.snap u).writes)))) (L.ws u) = some (.frz od (.dK (encK (R.snap u).writes))) := upd_same
      have hmine : (upd H2 (L.ws u) (.frz od (.dK (encK (R.snap u).writes)))) (L.ws t) = some (.dK (encK (R.snap t).writes)) := by
        have h := OL.has (.ws t) ht
        rw [setR_ne _ _ (by intro e; cases e; exact hut rfl)] at h
        exact h
      refine ⟨_, rfl, L.p, CR, L.dp, rFs L, _, rfl, OL.has .p trivial, TR.cl, TR.nSn, rfl, _, rfl, L.sn, _, rfl, by have := dget_r u (OL.has .sn trivial); rw [if_pos huK] at this; exact this, L.x u, CS, L.dx u, _, _, rfl, OL.has (.x u) huK, TR.cs, TR.mWs, rfl, ?_⟩
      refine ⟨L.ws u, od, rfl, .inl ⟨encK (R.snap u).writes, hme, for_keys (fun j σ H3 => ∃ v3 : Option V, σ = [some (.ref L.p), some (.ref (L.x t)), some (.int u), v3] ∧ H3 = upd H2 (L.ws u) (.frz od (.dK (encK (R.snap u).writes))) ∧ ∀ (k : Nat) (p : Str × Int), k < j → (R.snap u).writes[k]? = some p → (get (R.snap t).writes p.1).isSome = false)
        ⟨_, rfl, rfl, fun k p h => absurd h (by omega)⟩ (fun j σ H3 _ ⟨_, _, e, _⟩ => by rw [e]; exact hme) ?_ ?_⟩⟩
      · rintro j k v σ H3 hk ⟨v3, rfl, rfl, hno2⟩
        obtain ⟨x, n, hx, rfl, rfl⟩ := encK_at hk
        refine ⟨_, rfl, _, rfl, L.x t, CS, L.dx t, _, _, rfl, OL.has (.x t) ht, TR.cs, TR.mWs, rfl, L.ws t, _, rfl, dget_s x hmine, _, rfl, ?_⟩
        cases hg : get (R.snap t).writes x with
        | some z =>
          refine iteT ⟨hme, ?_⟩
          show Q (.bl true) (upd (upd H2 (L.ws u) (.frz od (.dK (encK (R.snap u).writes)))) (L.ws u) (.dK (encK (R.snap u).writes)))
          rw [hback]
          have hl : late R t = true := by
            unfold late
            refine List.any_eq_true.mpr ⟨u, List.mem_of_getElem? hu', List.any_eq_true.mpr ⟨(x, n), List.mem_of_getElem? hx, ?_⟩⟩
            show (get (R.snap t).writes x).isSome = true
            rw [hg]
            rfl
          have := q H2 hR2
          rw [hl] at this
          exact this
        | none =>
          refine iteF ?_
          refine ⟨_, rfl, rfl, fun k p hk' hp => ?_⟩
          by_cases hkj : k = j
          · subst hkj
            rw [hx] at hp
            cases hp
            show (get (R.snap t).writes x).isSome = false
            rw [hg]
            rfl
          · exact hno2 k p (by omega) hp
      · rintro σ H3 ⟨v3, rfl, rfl, hno2⟩
        refine ⟨hme, _, _, rfl, (by rw [hback]; exact s2), fun j u' hj hu2 => ?_⟩
        by_cases hji : j = i
        · subst hji
          rw [hu'] at hu2
          cases hu2
          unfold hits
          refine List.any_eq_false.mpr fun p hp => ?_
          obtain ⟨k, hk⟩ := List.mem_iff_getElem?.mp hp
          have := hno2 k p (by rw [encK_len]; exact (List.getElem?_eq_some_iff.mp hk).1) hk
          rw [this]
          simp
        · exact hno j u' (by omega) hu2
    · rintro σ H2 ⟨v2, v3, rfl, s2, hno⟩
      have hl : late R t = false := by
        unfold late
        refine List.any_eq_false.mpr fun u hu' => ?_
        obtain ⟨k, hk⟩ := List.mem_iff_getElem?.mp hu'
        have := hno k u (by rw [List.length_map]; exact (List.getElem?_eq_some_iff.mp hk).1) hk
        unfold hits at this
        rw [this]
        simp
      have := q H2 (hR.grow (s1.trans s2))
      rw [hl] at this
      exact this
end
end Ok
namespace Ok
open PySem L2
theorem sqt_frz {K : PySem.W.Frag} {H : Hp} {l b : Addr} {od : Obj} {kvs : List (Key × V)} {o : HO} {r : List V} (hl : H l = some (.frz od (.dK kvs))) (h : SqT K H b r) : SqT K (upd H l o) b r := by
  rcases h with (h | ⟨ob, h⟩) | h
  · refine .inl (.inl ?_)
    rw [upd_ne]
    · exact h
    · rintro rfl
      rw [h] at hl
      cases hl
  · refine .inl (.inr ⟨ob, ?_⟩)
    rw [upd_ne]
    · exact h
    · rintro rfl
      rw [h] at hl
      cases hl
  · exact .inr h
theorem putAll_snoc {κ β : Type} [DecidableEq κ] (kvs W : List (κ × β)) (x : κ) (v : β) : putAll kvs (W ++ [(x, v)]) = put (putAll kvs W) x v := by
  unfold putAll
  rw [List.foldl_append]
  rfl
section
variable {K : PySem.W.Frag} {CR CS : Addr} {H0 H : Hp} {L : RL} {evs : List Addr} {R : Run Str} {t : Int}
theorem RunL.setOv (A : RunL K CR CS H0 H L evs R) (l : List Int) : RunL K CR CS H0 (upd H L.ov (.lst (l.map V.int))) L evs { R with over := l } :=
  ⟨(A.own.put2 (r := .ov) trivial rfl _).cong fun r hr => by cases r <;> rfl, A.evs.upd (mut_lst (A.own.has .ov trivial))⟩
theorem RunL.setCm (A : RunL K CR CS H0 H L evs R) (l : List Int) : RunL K CR CS H0 (upd H L.cm (.lst (l.map V.int))) L evs { R with commits := l } :=
  ⟨(A.own.put2 (r := .cm) trivial rfl _).cong fun r hr => by cases r <;> rfl, A.evs.upd (mut_lst (A.own.has .cm trivial))⟩
end
section
variable {P : Program} {w : World} {K : PySem.W.Frag} {mg : Str → Option Value} {base : Heap}
/-- part of a commit -/
def partR (t : Int) (R : Run Str) (i : Nat) : Run Str := { R with over := R.over ++ [t], amounts := putAll R.amounts ((R.snap t).writes.take i), writers := putAll R.writers (((R.snap t).writes.take i).map fun p => (p.1, t)) }
def spEnd (K : PySem.W.Frag) (CR CS : Addr) : Sp := fun vs H Q _ => ∃ (H0 : Hp) (L : RL) (evs : List Addr) (R : Run Str) (t : Int), vs = [.ref L.p, .int t] ∧ RunL K CR CS H0 H L evs R ∧ t ∈ R.keys ∧ (∀ u ∈ R.commits, u ∈ R.keys) ∧ t ∉ R.commits ∧ RSz R ∧
  ∀ (L' : RL) (evs' : List Addr) (H' : Hp), L'.p = L.p → L'.sc = L.sc → RunL K CR CS H0 H' L' evs' (endR t R) → Q .non H'
theorem scEnd : FnScope ["self", "t", "mine", "item", "value"] ["self", "t"] (defScope sEnd) := ⟨rfl, rfl, rfl, by decide +kernel, rfl, by decide +kernel, by decide +kernel⟩
theorem ok_end {f fO fL fN CR CS : Addr} {fd fdO fdL fdN : FuncData} (F : Fun K "end" "SnapshotRun.end" sEnd f fd) (T : Glb mg) (TR : TxtR K mg CR CS) (MS : Mk K CS fN) (FN : Fun K "__init__" "Snapshot.__init__" sNInit fN fdN) (bN : Binds K fdN ["self", "values", "writers", "moment"] [])
    (FO : Fun K "own" "SnapshotRun.own" sOwn fO fdO) (bO : Binds K fdO ["self", "t"] []) (mO : Meth K CR "own" fO) (FL : Fun K "is_late" "SnapshotRun.is_late" sLate fL fdL) (bL : Binds K fdL ["self", "mine"] []) (mL : Meth K CR "is_late" fL) :
    FnOk P w K mg base CX0 4 f fd ["self", "t"] (spEnd K CR CS) := by
  have GO : FnOk P w K mg base CX0 3 fO fdO ["self", "t"] (spOwn K CR CS) := ok_own FO T TR MS FN bN
  have GL : FnOk P w K mg base CX0 1 fL fdL ["self", "mine"] (spLate K CR CS) := ok_late FL TR
  have sc := scEnd
  refine F.ok scEnd (fun vs H Q E h => ?_) (fun cdv A outer s H vs Q E hr h => ?_)
  · obtain ⟨H0, L, evs, R, t, rfl, _⟩ := h
    rfl
  · obtain ⟨H0, L0, evs, R, t, rfl, hR0, ht, hCK, htC, hz, q⟩ := h
    have hu := hu_of hr
    have hr1 : Room 1 _ := hr.mono (by decide)
    refine ⟨_, (pss_cons (ps_set (i := 2) sc.nd rfl (Or.inl rfl) (pe_meth (pv 0) TR.cl mO GO hr bO .nil pass0 (pa_cons (pv 1) pa_nil))) (pss_cons (ps_expr (pe_bm PySem.F.plainAttrs_list PySem.F.slot_list_append PySem.F.type_list_append mt_append (pe_fld (pv 0) rfl) (pa_cons (pv 1) pa_nil))) (pss_cons (ps_if (pt_val (pe_meth (pv 0) TR.cl mL GL hr1 bL .nil pass0 (pa_cons (pv 2) pa_nil))) (pss_cons (ps_expr (pe_bm PySem.F.plainAttrs_list PySem.F.slot_list_append PySem.F.type_list_append mt_append (pe_fld (pv 0) rfl) (pa_cons (pe_tup (pa_cons pe_str (pa_cons (pv 1) pa_nil))) pa_nil))) (pss_one ps_retN)) pss_nil) (pss_cons (ps_lock (ps_for PassesOwn.never rfl (pi_items (pe_fld (pv 2) rfl)) (pg_tup rfl (pgs_cons (pg_name (i := 3) sc.nd rfl (Or.inl rfl)) (pgs_cons (pg_name (i := 4) sc.nd rfl (Or.inl rfl)) pgs_nil))) (pss_cons (ps_dput hu (pe_fld (pv 0) rfl) (pv 3) (pv 4) rfl) (pss_one (ps_dput hu (pe_fld (pv 0) rfl) (pv 3) (pv 1) rfl))))) (pss_cons (ps_expr (pe_bm PySem.F.plainAttrs_list PySem.F.slot_list_append PySem.F.type_list_append mt_append (pe_fld (pv 0) rfl) (pa_cons (pv 1) pa_nil))) (pss_one (ps_expr (pe_bm PySem.F.plainAttrs_list PySem.F.slot_list_append PySem.F.type_list_append mt_append (pe_fld (pv 0) rfl) (pa_cons (pe_tup (pa_cons pe_str (pa_cons (pv 1) pa_nil))) pa_nil))))))))), ?_⟩
    have hp0 := hR0.own.has .p trivial
    refine ⟨_, rfl, L0.p, L0.dp, rFs L0, rfl, hp0, rfl, _, rfl, H0, L0, evs, R, t, rfl, hR0, by have := hz.ky; omega, fun L H1 eLp eLs hR => ?_⟩
    rw [ownR_in ht] at hR
    -- over.append(t)
    have hov := hR.own.has .ov trivial
    refine ⟨_, rfl, L.p, CR, L.dp, rFs L, _, by rw [eLp], hR.own.has .p trivial, TR.cl, TR.nOv, rfl, .inl ⟨rfl, _, SqL.of hov⟩, _, rfl, L.ov, _, _, rfl, rfl, hov, by rw [List.length_map]; exact small1000 (by have := hz.ov; omega), ?_⟩
    rw [ints_snoc]
    have hR1 := hR.setOv (R.over ++ [t])
    generalize upd H1 L.ov (.lst ((R.over ++ [t]).map V.int)) = H2 at hR1
    -- is it late
    refine ⟨_, rfl, L.p, L.dp, rFs L, by rw [eLp], hR1.own.has .p trivial, rfl, _, rfl, H0, L, evs, _, t, (by rw [eLp] <;> rfl), hR1, ht, hCK, htC, fun H3 hR3 => ?_⟩
    have elate : late { R with over := R.over ++ [t] } t = late R t := rfl
    refine ⟨_, rfl, ?_⟩
    rw [elate]
    cases hl : late R t with
    | true =>
      refine iteT ?_
      have hev := hR3.own.has .ev trivial
      refine ⟨_, rfl, L.p, CR, L.dp, rFs L, _, by rw [eLp], hR3.own.has .p trivial, TR.cl, TR.nEv, rfl, .inl ⟨rfl, _, SqL.of hev⟩, _, rfl, (by show 2 ≤ sizeLine; decide), fun y hy => ?_⟩
      have hev5 := ((Same.refl _).new (o := .tup (encE (.abort t))) hy) _ _ hev
      refine ⟨L.ev, _, _, rfl, rfl, hev5, ?_, ?_⟩
      · rw [List.length_map, hR3.evs.1, List.length_map]
        exact small1000 (by have := hz.ev; show R.events.length ≤ 1000; omega)
      · rw [refs_snoc]
        refine q L (evs ++ [y]) _ eLp eLs ?_
        have e : endR t R = abortR t R := by unfold endR; rw [hl]; rfl
        rw [e]
        exact hR3.addEv (.abort t) hy
    | false =>
      refine iteF ?_
      have hws : H3 (L.ws t) = some (.dK (encK (R.snap t).writes)) := hR3.own.has (.ws t) ht
      refine ⟨L.ws t, _, hws, trivial, fun od => ?_⟩
      have OL := hR3.own.put2 (r := .ws t) ht rfl (.frz od (.dK (encK (R.snap t).writes)))
      have TL : TupsAt K (upd H3 (L.ws t) (.frz od (.dK (encK (R.snap t).writes)))) evs (R.events.map encE) := hR3.evs.upd (mut_dK hws)
      have hme : (upd H3 (L.ws t) (.frz od (.dK (encK (R.snap t).writes)))) (L.ws t) = some (.frz od (.dK (encK (R.snap t).writes))) := upd_same
      refine ⟨_, rfl, L.x t, CS, L.dx t, _, _, rfl, OL.has (.x t) ht, TR.cs, TR.mWs, rfl, ?_⟩
      refine ⟨L.ws t, od, encK (R.snap t).writes, rfl, hme, for_items (fun i σ H4 => ∃ v3 v4 : Option V, σ = [some (.ref L0.p), some (.int t), some (.ref (L.x t)), v3, v4] ∧ Own (rLive R.keys) L.addr (setR (rObj CR CS L evs (partR t R i)) (.ws t) (.frz od (.dK (encK (R.snap t).writes)))) H0 H4 ∧ TupsAt K H4 evs (R.events.map encE))
        ⟨_, _, rfl, OL, TL⟩ (fun i σ H4 _ ⟨_, _, _, O4, _⟩ => by have := O4.has (.ws t) ht; rw [setR_same] at this; exact this) ?_ ?_⟩
      · rintro i k v T4 σ H4 hk hT4 ⟨v3, v4, rfl, O4, TE⟩
        obtain ⟨x, n, hx, rfl, rfl⟩ := encK_at hk
        have O5 := O4.grow ((Same.refl _).new (o := .tup [kV (Sum.inr x), .int n]) hT4)
        have TE5 := tups_new (o := .tup [kV (Sum.inr x), .int n]) TE hT4
        have hil : i < (R.snap t).writes.length := (List.getElem?_eq_some_iff.mp hx).1
        have hw8 := hz.ws t ht
        have hA : (upd H4 T4 (.tup [kV (Sum.inr x), .int n])) L.am = some (.dK (encK (putAll R.amounts ((R.snap t).writes.take i)))) := O5.has .am trivial
        have O6 := O5.put2 (r := .am) trivial (a := L.am) rfl (.dK (encK (put (putAll R.amounts ((R.snap t).writes.take i)) x n)))
        have TE6 := TE5.upd (l := L.am) (o := .dK (encK (put (putAll R.amounts ((R.snap t).writes.take i)) x n))) (mut_dK hA)
        have hlA := putAll_len ((R.snap t).writes.take i) R.amounts
        have hlW := putAll_len (((R.snap t).writes.take i).map fun p => (p.1, t)) R.writers
        rw [List.length_take] at hlA
        rw [List.length_map, List.length_take] at hlW
        have hB : (upd (upd H4 T4 (.tup [kV (Sum.inr x), .int n])) L.am (.dK (encK (put (putAll R.amounts ((R.snap t).writes.take i)) x n)))) L.wr = some (.dK (encK (putAll R.writers (((R.snap t).writes.take i).map fun p => (p.1, t))))) := O6.has .wr trivial
        have O7 := O6.put2 (r := .wr) trivial (a := L.wr) rfl (.dK (encK (put (putAll R.writers (((R.snap t).writes.take i).map fun p => (p.1, t))) x t)))
        have TE7 := TE6.upd (l := L.wr) (o := .dK (encK (put (putAll R.writers (((R.snap t).writes.take i).map fun p => (p.1, t))) x t))) (mut_dK hB)
        refine ⟨T4, _, rfl, SqT.of upd_same, rfl, _, _, rfl, _, _, rfl, rfl, ?_⟩
        refine ⟨_, rfl, _, rfl, L.p, CR, L.dp, rFs L, _, by rw [eLp], O5.has .p trivial, TR.cl, TR.nAm, rfl, _, rfl, L.am, _, rfl, dput_s x n hA (by have := hz.am; omega), ?_⟩
        refine ⟨_, rfl, _, rfl, L.p, CR, L.dp, rFs L, _, by rw [eLp], O6.has .p trivial, TR.cl, TR.nWr, rfl, _, rfl, L.wr, _, rfl, dput_s x t hB (by have := hz.wr; omega), ?_⟩
        refine ⟨_, _, rfl, O7.cong fun r hr => ?_, TE7⟩
        have eA : putAll R.amounts ((R.snap t).writes.take (i + 1)) = put (putAll R.amounts ((R.snap t).writes.take i)) x n := by rw [take_snoc hx, putAll_snoc]
        have eW : putAll R.writers (((R.snap t).writes.take (i + 1)).map fun p => (p.1, t)) = put (putAll R.writers (((R.snap t).writes.take i).map fun p => (p.1, t))) x t := by rw [take_snoc hx, List.map_append]; exact putAll_snoc _ _ _ _
        cases r with
        | am =>
          show HO.dK _ = HO.dK (encK (putAll R.amounts ((R.snap t).writes.take (i + 1))))
          rw [eA]
        | wr =>
          show HO.dK _ = HO.dK (encK (putAll R.writers (((R.snap t).writes.take (i + 1)).map fun p => (p.1, t))))
          rw [eW]
        | ws u =>
          by_cases h : u = t
          · subst h
            rw [setR_ne _ _ (by intro e; cases e), setR_ne _ _ (by intro e; cases e), setR_same, setR_same]
          · rw [setR_ne _ _ (by intro e; cases e), setR_ne _ _ (by intro e; cases e), setR_ne _ _ (by intro e; cases e; exact h rfl), setR_ne _ _ (by intro e; cases e; exact h rfl)]
            rfl
        | _ => rfl
      · rintro σ H4 ⟨v3, v4, rfl, O4, TE⟩
        have hme4 : H4 (L.ws t) = some (.frz od (.dK (encK (R.snap t).writes))) := by
          have := O4.has (.ws t) ht
          rw [setR_same] at this
          exact this
        refine ⟨hme4, ?_⟩
        have eT : (R.snap t).writes.take (encK (R.snap t).writes).length = (R.snap t).writes := by rw [encK_len, List.take_length]
        have eP : partR t R (encK (R.snap t).writes).length = { R with over := R.over ++ [t], amounts := putAll R.amounts (R.snap t).writes, writers := putAll R.writers ((R.snap t).writes.map fun p => (p.1, t)) } := by
          unfold partR
          rw [eT]
        rw [eP] at O4
        have O5 := O4.put2 (r := .ws t) ht (a := L.ws t) rfl (.dK (encK (R.snap t).writes))
        have TE5 : TupsAt K (upd H4 (L.ws t) (.dK (encK (R.snap t).writes))) evs (R.events.map encE) := by
          refine ⟨TE.1, fun i b r h1 h2 => ?_⟩
          exact sqt_frz hme4 (TE.2 i b r h1 h2)
        have hR5 : RunL K CR CS H0 (upd H4 (L.ws t) (.dK (encK (R.snap t).writes))) L evs { R with over := R.over ++ [t], amounts := putAll R.amounts (R.snap t).writes, writers := putAll R.writers ((R.snap t).writes.map fun p => (p.1, t)) } := by
          refine ⟨O5.cong fun r hr => ?_, TE5⟩
          cases r with
          | ws u =>
            by_cases h : u = t
            · subst h
              rw [setR_same]
              rfl
            · rw [setR_ne _ _ (by intro e; cases e; exact h rfl), setR_ne _ _ (by intro e; cases e; exact h rfl)]
          | _ => rfl
        generalize upd H4 (L.ws t) (.dK (encK (R.snap t).writes)) = H5 at hR5
        have hcm := hR5.own.has .cm trivial
        refine ⟨_, rfl, L.p, CR, L.dp, rFs L, _, by rw [eLp], hR5.own.has .p trivial, TR.cl, TR.nCm, rfl, .inl ⟨rfl, _, SqL.of hcm⟩, _, rfl, L.cm, _, _, rfl, rfl, hcm, by rw [List.length_map]; exact small1000 (by have := hz.cm; show R.commits.length ≤ 1000; omega), ?_⟩
        rw [ints_snoc]
        have hR6 := hR5.setCm (R.commits ++ [t])
        generalize upd H5 L.cm (.lst ((R.commits ++ [t]).map V.int)) = H6 at hR6
        have hev := hR6.own.has .ev trivial
        refine ⟨_, rfl, L.p, CR, L.dp, rFs L, _, by rw [eLp], hR6.own.has .p trivial, TR.cl, TR.nEv, rfl, .inl ⟨rfl, _, SqL.of hev⟩, _, rfl, (by show 2 ≤ sizeLine; decide), fun y hy => ?_⟩
        have hev5 := ((Same.refl _).new (o := .tup (encE (.commit t))) hy) _ _ hev
        refine ⟨L.ev, _, _, rfl, rfl, hev5, ?_, ?_⟩
        · rw [List.length_map, hR6.evs.1, List.length_map]
          exact small1000 (by have := hz.ev; show R.events.length ≤ 1000; omega)
        · rw [refs_snoc]
          refine q L (evs ++ [y]) _ eLp eLs ?_
          have e : endR t R = commitR t R := by unfold endR; rw [hl]; rfl
          rw [e]
          exact hR6.addEv (.commit t) hy
end
end Ok
namespace Ok
open PySem L2
section
variable {ι : Type} [DecidableEq ι]
theorem foldS_len : ∀ (l : List (Step ι)) (s : Snap ι), (l.foldl stepS s).writes.length ≤ s.writes.length + l.length ∧ (l.foldl stepS s).seen.length ≤ s.seen.length + l.length
  | [], _ => ⟨Nat.le_refl _, Nat.le_refl _⟩
  | x :: r, s => by
    have h1 := foldS_len r (stepS s x)
    have h2 := stepS_len s x
    simp only [List.foldl_cons, List.length_cons]
    omega
theorem flat_len {α β : Type} (f : α → List β) (k : Nat) : ∀ l : List α, (∀ x ∈ l, (f x).length ≤ k) → (l.flatMap f).length ≤ k * l.length
  | [], _ => by simp
  | x :: r, h => by
    have h1 := h x (by simp)
    have h2 := flat_len f k r fun y hy => h y (by simp [hy])
    rw [List.flatMap_cons, List.length_append, List.length_cons, Nat.mul_succ]
    omega
variable {ss : List (List (Step ι))} {R : Run ι}
theorem RInv.ws8 (I : RInv ss R) (h8 : ∀ s ∈ ss, s.length ≤ 8) {t : Int} (ht : t ∈ R.keys) : (R.snap t).writes.length ≤ 8 ∧ (R.snap t).seen.length ≤ 8 := by
  have h1 := I.ex t ht
  have h2 := foldS_len ((script ss t).take (R.snap t).place) (newSnap (R.snap t).amounts (R.snap t).writers (R.snap t).moment)
  rw [← h1] at h2
  have h3 := script_short h8 t
  rw [List.length_take] at h2
  have h4 : (newSnap (R.snap t).amounts (R.snap t).writers (R.snap t).moment).writes.length = 0 := rfl
  have h5 : (newSnap (R.snap t).amounts (R.snap t).writers (R.snap t).moment).seen.length = 0 := rfl
  omega
theorem RInv.five (I : RInv ss R) (h5 : ss.length ≤ 5) : R.keys.length ≤ 5 ∧ R.over.length ≤ 5 ∧ R.commits.length ≤ 5 := by
  have h1 : R.keys.length ≤ [1, 2, 3, 4, (5 : Int)].length := len_le R.keys [1, 2, 3, 4, 5] I.ndK fun x hx => by
    obtain ⟨a, b⟩ := I.KN x hx
    have : x = 1 ∨ x = 2 ∨ x = 3 ∨ x = 4 ∨ x = 5 := by omega
    rcases this with rfl | rfl | rfl | rfl | rfl <;> simp
  have h2 := len_le R.over R.keys I.ndO I.OK
  have h3 := len_le R.commits R.over I.ndC I.CO
  simp only [List.length_cons, List.length_nil] at h1
  omega
theorem RInv.am40 (I : RInv ss R) (h5 : ss.length ≤ 5) (h8 : ∀ s ∈ ss, s.length ≤ 8) : R.amounts.length ≤ 40 ∧ R.writers.length ≤ 40 := by
  have hc := (I.five h5).2.2
  have hf : (R.commits.flatMap fun u => (R.snap u).writes.map (·.1)).length ≤ 8 * R.commits.length := flat_len _ 8 _ fun u hu => by
    rw [List.length_map]
    exact (I.ws8 h8 (I.OK u (I.CO u hu))).1
  have ha := len_le (R.amounts.map (·.1)) (R.commits.flatMap fun u => (R.snap u).writes.map (·.1)) I.na fun x hx => by
    have h1 := get_isSome.mpr hx
    rw [I.am x] at h1
    rcases last_split (fun u => (R.snap u).writes) x R.commits with ⟨_, h2, _⟩ | ⟨l1, u, l2, v, e, g, _⟩
    · rw [h2] at h1; cases h1
    · exact List.mem_flatMap.mpr ⟨u, by rw [e]; simp, get_isSome.mp (by rw [g]; rfl)⟩
  have hw := len_le (R.writers.map (·.1)) (R.commits.flatMap fun u => (R.snap u).writes.map (·.1)) I.nr fun x hx => by
    have h1 := get_isSome.mpr hx
    rw [I.wr x] at h1
    rcases last_split (fun u => (R.snap u).writes) x R.commits with ⟨_, _, h2⟩ | ⟨l1, u, l2, v, e, g, _⟩
    · rw [h2] at h1; cases h1
    · exact List.mem_flatMap.mpr ⟨u, by rw [e]; simp, get_isSome.mp (by rw [g]; rfl)⟩
  rw [List.length_map] at ha hw
  omega
theorem turnR_ev {t : Int} : (turnR ss t R).events.length ≤ R.events.length + 1 := by
  unfold turnR
  split
  · exact Nat.le_succ _
  · unfold actR
    have h1 : (ownR t R).events = R.events := ownR_events
    split
    · unfold endR
      split
      · show ((ownR t R).events ++ [_]).length ≤ _
        rw [h1, List.length_append, List.length_singleton]
        exact Nat.le_refl _
      · show ((ownR t R).events ++ [_]).length ≤ _
        rw [h1, List.length_append, List.length_singleton]
        exact Nat.le_refl _
    · show ((ownR t R).events ++ [_]).length ≤ _
      rw [h1, List.length_append, List.length_singleton]
      exact Nat.le_refl _
end
theorem rsz_of {ss : List (List (Step Str))} {R : Run Str} (I : RInv ss R) (h : SsOk ss) (he : R.events.length ≤ 900) : RSz R := by
  have h1 := I.five h.few
  have h2 := I.am40 h.few h.short
  exact ⟨by omega, by omega, h1.2.2, h1.1, h1.2.1, he, fun t ht => (I.ws8 h.short ht).1, fun t ht => (I.ws8 h.short ht).2⟩
section
variable {P : Program} {w : World} {K : PySem.W.Frag} {mg : Str → Option Value} {base : Heap}
/-- the defs of the class, as they stand -/
structure Meths (K : PySem.W.Frag) (mg : Str → Option Value) (CR CS : Addr) where
  (fI fN fO fS fL fE fT : Addr)
  (dI dN dO dS dL dE dT : FuncData)
  FI : Fun K "__init__" "SnapshotRun.__init__" sRInit fI dI
  bI : Binds K dI ["self", "scripts"] []
  MR : Mk K CR fI
  MS : Mk K CS fN
  FN : Fun K "__init__" "Snapshot.__init__" sNInit fN dN
  bN : Binds K dN ["self", "values", "writers", "moment"] []
  FO : Fun K "own" "SnapshotRun.own" sOwn fO dO
  bO : Binds K dO ["self", "t"] []
  mO : Meth K CR "own" fO
  FS : Fun K "do_step" "SnapshotRun.do_step" sStep fS dS
  bS : Binds K dS ["self", "t", "step"] []
  mS : Meth K CR "do_step" fS
  FL : Fun K "is_late" "SnapshotRun.is_late" sLate fL dL
  bL : Binds K dL ["self", "mine"] []
  mL : Meth K CR "is_late" fL
  FE : Fun K "end" "SnapshotRun.end" sEnd fE dE
  bE : Binds K dE ["self", "t"] []
  mE : Meth K CR "end" fE
  FT : Fun K "turn" "SnapshotRun.turn" sTurn fT dT
  bT : Binds K dT ["self", "t"] []
  mT : Meth K CR "turn" fT
def spTurn (K : PySem.W.Frag) (CR CS : Addr) : Sp := fun vs H Q _ => ∃ (H0 : Hp) (L : RL) (evs : List Addr) (R : Run Str) (t : Int) (ss : List (List (Step Str))), vs = [.ref L.p, .int t] ∧ RunL K CR CS H0 H L evs R ∧ RInv ss R ∧ SsOk ss ∧ SsAt K H0 L.sc ss ∧ (1 ≤ t ∧ t ≤ (ss.length : Int)) ∧ R.events.length ≤ 900 ∧
  ∀ (L' : RL) (evs' : List Addr) (H' : Hp), L'.p = L.p → L'.sc = L.sc → RunL K CR CS H0 H' L' evs' (turnR ss t R) → Q .non H'
theorem scTurn : FnScope ["self", "t", "script", "place"] ["self", "t"] (defScope sTurn) := ⟨rfl, rfl, rfl, by decide +kernel, rfl, by decide +kernel, by decide +kernel⟩
theorem ok_turn {CR CS : Addr} (T : Glb mg) (TR : TxtR K mg CR CS) (M : Meths K mg CR CS) : FnOk P w K mg base CX0 5 M.fT M.dT ["self", "t"] (spTurn K CR CS) := by
  have GO : FnOk P w K mg base CX0 3 M.fO M.dO ["self", "t"] (spOwn K CR CS) := ok_own M.FO T TR M.MS M.FN M.bN
  have GS : FnOk P w K mg base CX0 4 M.fS M.dS ["self", "t", "step"] (spRStep K CR CS) := ok_rstep M.FS T TR M.MS M.FN M.bN M.FO M.bO M.mO
  have GE : FnOk P w K mg base CX0 4 M.fE M.dE ["self", "t"] (spEnd K CR CS) := ok_end M.FE T TR M.MS M.FN M.bN M.FO M.bO M.mO M.FL M.bL M.mL
  have sc := scTurn
  refine M.FT.ok scTurn (fun vs H Q E h => ?_) (fun cdv A outer s H vs Q E hr h => ?_)
  · obtain ⟨H0, L, evs, R, t, ss, rfl, _⟩ := h
    rfl
  · obtain ⟨H0, L, evs, R, t, ss, rfl, hR, I, hok, ⟨as, hal, hlen, hrow⟩, htn, hev, q⟩ := h
    have hr3 : Room 3 _ := hr.mono (by decide)
    refine ⟨_, (pss_cons (ps_if (pt_cmpR op_in_seq (pv 1) (pe_fld (pv 0) rfl) rfl) (pss_one ps_retN) pss_nil) (pss_cons (ps_set (i := 2) sc.nd rfl (Or.inl rfl) (pe_ix ix_list (pe_fld (pv 0) rfl) (pe_op op_sub (pv 1) pe_int) (fun _ _ => rfl))) (pss_cons (ps_set (i := 3) sc.nd rfl (Or.inl rfl) (pe_fld (pe_meth (pv 0) TR.cl M.mO GO hr3 M.bO .nil pass0 (pa_cons (pv 1) pa_nil)) rfl)) (pss_one (ps_if (pt_cmpR op_eq (pv 3) (pe_callB call_len_seq (by rfl) T.len PySem.boot_len (pa_cons (pv 2) pa_nil)) (nomark _)) (pss_one (ps_expr (pe_meth (pv 0) TR.cl M.mE GE hr M.bE .nil pass0 (pa_cons (pv 1) pa_nil)))) (pss_one (ps_expr (pe_meth (pv 0) TR.cl M.mS GS hr M.bS .nil pass0 (pa_cons (pv 1) (pa_cons (pe_ix ix_list (pv 2) (pv 3) (fun _ _ => rfl)) pa_nil)))))))))), ?_⟩
    have hp := hR.own.has .p trivial
    have hov := hR.own.has .ov trivial
    refine ⟨_, rfl, _, rfl, L.p, CR, L.dp, rFs L, _, rfl, hp, TR.cl, TR.nOv, rfl, L.ov, _, rfl, .inl (SqL.of hov), rfl, flat_ints _, _, rfl, ?_⟩
    show if inV (V.int t) (R.over.map V.int) = true then _ else _
    rw [in_ints]
    by_cases ho : t ∈ R.over
    · rw [decide_eq_true ho]
      refine iteT ?_
      refine q L evs H rfl rfl ?_
      have e : turnR ss t R = R := by unfold turnR; rw [if_pos ho]
      rw [e]
      exact hR
    · rw [decide_eq_false ho]
      refine iteF ?_
      obtain ⟨c, hc, hcR⟩ := script_at hlen hrow htn.1 htn.2
      obtain ⟨rs, hrl, hrT⟩ := hcR
      have s0 := hR.own.same
      refine ⟨_, rfl, L.p, CR, L.dp, rFs L, _, rfl, hp, TR.cl, TR.nSc, rfl, _, rfl, _, _, rfl, rfl, L.sc, _, _, _, rfl, rfl, s0.seq hal, hc, ?_⟩
      have hk5 := (I.five hok.few).1
      refine ⟨_, rfl, L.p, L.dp, rFs L, rfl, hp, rfl, _, rfl, H0, L, evs, R, t, rfl, hR, by omega, fun L1 H1 eLp eLs hR1 => ?_⟩
      have I1 := I.own htn
      have ht1 : t ∈ (ownR t R).keys := ownR_keys
      have ho1 : t ∉ (ownR t R).over := by rw [ownR_over]; exact ho
      have hz1 := rsz_of I1 hok (by rw [ownR_events]; exact hev)
      have hx := hR1.own.has (.x t) ht1
      have hturn : turnR ss t R = actR ss t (ownR t R) := by unfold turnR; rw [if_neg ho]
      have s1 := hR1.own.same
      refine ⟨L1.x t, CS, L1.dx t, _, _, rfl, hx, TR.cs, TR.mPl, rfl, ?_⟩
      refine ⟨_, rfl, _, rfl, c, _, rfl, .inl (s1.seq hrl), rfl, _, rfl, ?_⟩
      have hlr : (rs.map V.ref).length = (script ss t).length := by rw [List.length_map, hrT.1, List.length_map]
      rw [hlr]
      by_cases he : ((ownR t R).snap t).place = (script ss t).length
      · rw [show decide (V.int ((((ownR t R).snap t).place : Nat) : Int) = V.int (((script ss t).length : Nat) : Int)) = true from decide_eq_true (by rw [he])]
        refine iteT ?_
        refine ⟨_, rfl, L1.p, L1.dp, rFs L1, by rw [eLp], hR1.own.has .p trivial, rfl, _, rfl, H0, L1, evs, _, t, (by rw [eLp] <;> rfl), hR1, ht1, fun u hu => I1.OK u (I1.CO u hu), fun h => ho1 (I1.CO t h), hz1, fun L2' evs2 H2 e1 e2 hR2 => ?_⟩
        refine q L2' evs2 H2 (e1.trans eLp) (e2.trans eLs) ?_
        rw [hturn]
        unfold actR
        rw [List.getElem?_eq_none (by omega)]
        exact hR2
      · rw [show decide (V.int ((((ownR t R).snap t).place : Nat) : Int) = V.int (((script ss t).length : Nat) : Int)) = false from decide_eq_false (fun e => he (by have := V.int.inj e; omega))]
        refine iteF ?_
        have hlt : ((ownR t R).snap t).place < (script ss t).length := by
          have := I1.pl t ht1
          omega
        have hst : (script ss t)[((ownR t R).snap t).place]? = some (script ss t)[((ownR t R).snap t).place] := List.getElem?_eq_getElem hlt
        have hrs : rs[((ownR t R).snap t).place]? = some (rs[((ownR t R).snap t).place]'(by rw [hrT.1, List.length_map]; exact hlt)) := List.getElem?_eq_getElem _
        have hbT := hrT.2 _ _ _ hrs (map_at hst)
        refine ⟨_, rfl, L1.p, L1.dp, rFs L1, by rw [eLp], hR1.own.has .p trivial, rfl, _, rfl, _, rfl, _, rfl, c, _, _, _, rfl, rfl, s1.seq hrl, atI_nat (map_at hrs), ?_⟩
        refine ⟨H0, L1, evs, _, t, _, _, (by rw [eLp] <;> rfl), hR1, ht1, hbT, hz1, fun L2' evs2 H2 e1 e2 hR2 => ?_⟩
        refine q L2' evs2 H2 (e1.trans eLp) (e2.trans eLs) ?_
        rw [hturn]
        unfold actR
        rw [hst]
        exact hR2
end
end Ok
namespace Ok
open PySem L2
section
variable {ι : Type} [DecidableEq ι]
def numbersOf (n : Nat) : List Int := (List.range n).map fun (i : Nat) => (1 : Int) + (i : Int)
theorem mem_numbers {n : Nat} {t : Int} : t ∈ numbersOf n ↔ 1 ≤ t ∧ t ≤ (n : Int) := by
  unfold numbersOf
  rw [List.mem_map]
  constructor
  · rintro ⟨i, hi, rfl⟩
    have := List.mem_range.mp hi
    omega
  · rintro ⟨h1, h2⟩
    exact ⟨(t - 1).toNat, List.mem_range.mpr (by omega), by omega⟩
theorem numbers_nodup (n : Nat) : (numbersOf n).Nodup := by
  unfold numbersOf
  exact List.Pairwise.map _ (fun a b h => by omega) (List.nodup_range (n := n))
theorem numbers_len (n : Nat) : (numbersOf n).length = n := by simp [numbersOf]
def weaveR (ss : List (List (Step ι))) (ws : List Int) (R : Run ι) : Run ι := ws.foldl (fun R t => if t ∈ numbersOf ss.length then turnR ss t R else R) R
def roundR (ss : List (List (Step ι))) (R : Run ι) : Run ι := (numbersOf ss.length).foldl (fun R t => turnR ss t R) R
def loopR (ss : List (List (Step ι))) : Nat → Run ι → Run ι
  | 0, R => R
  | m + 1, R => if R.over.length < ss.length then loopR ss m (roundR ss R) else R
def finR (ss : List (List (Step ι))) (ws : List Int) : Run ι := loopR ss 10 (weaveR ss ws newRun)
variable {ss : List (List (Step ι))} {R : Run ι}
theorem weave_inv : ∀ (ws : List Int) {R : Run ι}, RInv ss R → RInv ss (weaveR ss ws R)
  | [], _, I => I
  | t :: r, R, I => by
    show RInv ss (weaveR ss r (if t ∈ numbersOf ss.length then turnR ss t R else R))
    refine weave_inv r ?_
    split
    · rename_i h
      exact I.turn (mem_numbers.mp h)
    · exact I
theorem fold_inv : ∀ (l : List Int), (∀ t ∈ l, 1 ≤ t ∧ t ≤ (ss.length : Int)) → ∀ {R : Run ι}, RInv ss R → RInv ss (l.foldl (fun R t => turnR ss t R) R)
  | [], _, _, I => I
  | t :: r, h, _, I => fold_inv r (fun u hu => h u (by simp [hu])) (I.turn (h t (by simp)))
theorem round_inv (I : RInv ss R) : RInv ss (roundR ss R) := fold_inv _ (fun _ ht => mem_numbers.mp ht) I
theorem loop_inv : ∀ (m : Nat) {R : Run ι}, RInv ss R → RInv ss (loopR ss m R)
  | 0, _, I => I
  | m + 1, R, I => by
    unfold loopR
    split
    · exact loop_inv m (round_inv I)
    · exact I
theorem fin_inv (ws : List Int) : RInv ss (finR ss ws) := loop_inv 10 (weave_inv ws (rinv_new ss))
/-! ### each round brings each on -/
def plR (R : Run ι) (t : Int) : Nat := if t ∈ R.keys then (R.snap t).place else 0
theorem own_pl (t u : Int) : plR (ownR t R) u = plR R u := by
  unfold ownR
  split
  · rfl
  · rename_i h
    unfold plR
    by_cases e : u = t
    · subst e
      simp [h, setSnap, newSnap]
    · simp [setSnap, e]
theorem turn_over {t u : Int} (h : u ∈ R.over) : u ∈ (turnR ss t R).over := by
  unfold turnR
  split
  · exact h
  · unfold actR
    have h' : u ∈ (ownR t R).over := by rw [ownR_over]; exact h
    split
    · unfold endR
      split
      · exact List.mem_append_left _ h'
      · exact List.mem_append_left _ h'
    · exact h'
theorem turn_pl_ne {t u : Int} (hne : u ≠ t) : plR (turnR ss t R) u = plR R u := by
  unfold turnR
  split
  · rfl
  · unfold actR
    split
    · unfold endR
      split
      · exact own_pl t u
      · exact own_pl t u
    · show (if u ∈ (ownR t R).keys then (setSnap (ownR t R).snap t _ u).place else 0) = _
      rw [setSnap_ne _ _ hne]
      exact own_pl t u
theorem turn_pl_self {t : Int} : t ∈ (turnR ss t R).over ∨ plR (turnR ss t R) t = plR R t + 1 := by
  unfold turnR
  split
  · rename_i h
    exact .inl h
  · unfold actR
    split
    · left
      unfold endR
      split
      · show t ∈ (ownR t R).over ++ [t]
        simp
      · show t ∈ (ownR t R).over ++ [t]
        simp
    · right
      show (if t ∈ (ownR t R).keys then (setSnap (ownR t R).snap t _ t).place else 0) = _
      rw [if_pos ownR_keys, setSnap_same, stepS_place]
      have := own_pl (R := R) t t
      unfold plR at this
      rw [if_pos ownR_keys] at this
      rw [this]
      rfl
def Prog (n k : Nat) (R : Run ι) : Prop := ∀ t ∈ numbersOf n, t ∈ R.over ∨ k ≤ plR R t
theorem fold_prog (k : Nat) : ∀ (l : List Int), l.Nodup → ∀ (R : Run ι), (∀ t ∈ l, t ∈ R.over ∨ k ≤ plR R t) → ∀ t ∈ l, t ∈ (l.foldl (fun R t => turnR ss t R) R).over ∨ k + 1 ≤ plR (l.foldl (fun R t => turnR ss t R) R) t
  | [], _, _, _ => fun t h => nomatch h
  | a :: r, hn, R, h => by
    have hn' := List.nodup_cons.mp hn
    have keep : ∀ (l : List Int) (R : Run ι) (u : Int) (j : Nat), u ∉ l → (u ∈ R.over ∨ j ≤ plR R u) → (u ∈ (l.foldl (fun R t => turnR ss t R) R).over ∨ j ≤ plR (l.foldl (fun R t => turnR ss t R) R) u) := by
      intro l
      induction l with
      | nil => intro R u j _ h; exact h
      | cons b s ih =>
        intro R u j hu h
        refine ih (turnR ss b R) u j (fun q => hu (by simp [q])) ?_
        rcases h with h | h
        · exact .inl (turn_over h)
        · right
          rw [turn_pl_ne (fun q => hu (by simp [q]))]
          exact h
    intro t ht
    rcases List.mem_cons.mp ht with e | e
    · subst e
      refine keep r (turnR ss t R) t (k + 1) hn'.1 ?_
      rcases turn_pl_self (ss := ss) (R := R) (t := t) with q | q
      · exact .inl q
      · rcases h t (by simp) with q2 | q2
        · exact .inl (turn_over q2)
        · right; omega
    · refine fold_prog k r hn'.2 (turnR ss a R) (fun u hu => ?_) t e
      have hua : u ≠ a := fun q => hn'.1 (q ▸ hu)
      rcases h u (by simp [hu]) with q | q
      · exact .inl (turn_over q)
      · right
        rw [turn_pl_ne hua]
        exact q
theorem round_prog {k : Nat} (h : Prog ss.length k R) : Prog ss.length (k + 1) (roundR ss R) := fold_prog k _ (numbers_nodup _) R h
theorem prog_end {k : Nat} (I : RInv ss R) (h8 : ∀ s ∈ ss, s.length ≤ 8) (h : Prog ss.length k R) (hk : 9 ≤ k) : ¬ R.over.length < ss.length := by
  have h1 := len_le (numbersOf ss.length) R.over (numbers_nodup _) fun t ht => by
    rcases h t ht with q | q
    · exact q
    · exfalso
      unfold plR at q
      split at q
      · rename_i hk2
        have h2 := I.pl t hk2
        have h3 := script_short h8 t
        omega
      · omega
  rw [numbers_len] at h1
  omega
theorem fold_ev : ∀ (l : List Int) (R : Run ι), (l.foldl (fun R t => turnR ss t R) R).events.length ≤ R.events.length + l.length
  | [], _ => Nat.le_refl _
  | t :: r, R => by
    have h1 := fold_ev r (turnR ss t R)
    have h2 := turnR_ev (ss := ss) (R := R) (t := t)
    simp only [List.foldl_cons, List.length_cons]
    omega
end
section
variable {P : Program} {w : World} {K : PySem.W.Frag} {mg : Str → Option Value} {base : Heap}
def spFin (K : PySem.W.Frag) (CR CS : Addr) : Sp := fun vs H Q _ => ∃ (a b : Addr) (ss : List (List (Step Str))) (ws : List Int), vs = [.ref a, .ref b] ∧ SsAt K H a ss ∧ SsOk ss ∧ SqL K H b (ws.map V.int) ∧ ws.length ≤ 30 ∧
  ∀ (L : RL) (evs : List Addr) (H' : Hp), RunL K CR CS H H' L evs (finR ss ws) → (finR ss ws).events.length ≤ 100 → Q (.ref L.p) H'
theorem scFin : FnScope ["scripts", "weaving", "run", "numbers", "t"] ["scripts", "weaving"] (defScope sFin) := ⟨rfl, rfl, rfl, by decide +kernel, rfl, by decide +kernel, by decide +kernel⟩
theorem rg_numbers (n : Nat) : rgV 1 ((n : Int) + 1) = (numbersOf n).map V.int := by
  unfold rgV numbersOf
  rw [show ((n : Int) + 1 - 1).toNat = n by omega, List.map_map]
  rfl
theorem ok_fin {f CR CS : Addr} {fd : FuncData} (F : Fun K "finished_run" "finished_run" sFin f fd) (T : Glb mg) (TR : TxtR K mg CR CS) (M : Meths K mg CR CS) : FnOk P w K mg base CX0 6 f fd ["scripts", "weaving"] (spFin K CR CS) := by
  have GI : FnOk P w K mg base CX0 1 M.fI M.dI ["self", "scripts"] (spRInit K CR CS) := ok_rinit M.FI TR
  have GT : FnOk P w K mg base CX0 5 M.fT M.dT ["self", "t"] (spTurn K CR CS) := ok_turn T TR M
  have sc := scFin
  refine F.ok scFin (fun vs H Q E h => ?_) (fun cdv A outer s H vs Q E hr h => ?_)
  · obtain ⟨a, b, ss, ws, rfl, _⟩ := h
    rfl
  · obtain ⟨a, b, ss, ws, rfl, hS, hok, hb, hw30, q⟩ := h
    have hr2 : Room 2 _ := hr.mono (by decide)
    refine ⟨_, (pss_cons (ps_set (i := 2) sc.nd rfl (Or.inl rfl) (pe_make M.MR GI hr2 (by rfl) TR.mgR M.bI .nil pass0 (pa_cons (pv 0) pa_nil))) (pss_cons (ps_set (i := 3) sc.nd rfl (Or.inl rfl) (pe_listRg rfl (by rfl) T.list (prg_2 (by rfl) T.range pe_int (pe_op op_add (pe_callB call_len_seq (by rfl) T.len PySem.boot_len (pa_cons (pv 0) pa_nil)) pe_int)))) (pss_cons (ps_for PassesOwn.never rfl (pi_list (pv 1)) (pg_name (i := 4) sc.nd rfl (Or.inl rfl)) (pss_one (ps_if (pt_cmpR op_in_seq (pv 4) (pv 3) rfl) (pss_one (ps_expr (pe_meth (pv 2) TR.cl M.mT GT hr M.bT .nil pass0 (pa_cons (pv 4) pa_nil)))) pss_nil))) (pss_cons (ps_while PassesOwn.never (pt_cmpR op_lt (pe_callB call_len_seq (by rfl) T.len PySem.boot_len (pa_cons (pe_fld (pv 2) rfl) pa_nil)) (pe_callB call_len_seq (by rfl) T.len PySem.boot_len (pa_cons (pv 0) pa_nil)) (nomark _)) (pss_one (ps_for PassesOwn.never rfl (pi_list (pv 3)) (pg_name (i := 4) sc.nd rfl (Or.inl rfl)) (pss_one (ps_expr (pe_meth (pv 2) TR.cl M.mT GT hr M.bT .nil pass0 (pa_cons (pv 4) pa_nil))))))) (pss_one (ps_ret (pv 2))))))), ?_⟩
    obtain ⟨as, hal, hlen, hrow⟩ := id hS
    refine ⟨_, rfl, ?_⟩
    intro x dx nx ndx nex
    refine ⟨H, x, dx, a, rfl, rfl, nx, ndx, nex, fun L H1 eLp eLs hR => ⟨rfl, ?_⟩⟩
    have s1 := hR.own.same
    refine ⟨_, rfl, a, _, rfl, .inl (s1.seq hal), _, _, rfl, rfl, _, _, rfl, rfl, ?_, fun nu hnu => ?_⟩
    · rw [List.length_map, hlen]
      have := hok.few
      exact RgOk.of_le (by decide) (by omega) (by decide) (by omega)
    have enu : rgV 1 ((((as.map V.ref).length : Nat) : Int) + 1) = (numbersOf ss.length).map V.int := by rw [List.length_map, hlen, rg_numbers]
    rw [enu]
    have hnu0 := s1.free hnu
    -- numbers stand from here on; the run's home is the heap with them
    have O2 := hR.own.beside (o := .lst ((numbersOf ss.length).map V.int)) hnu
    have sB : Same H (upd H nu (.lst ((numbersOf ss.length).map V.int))) := (Same.refl _).new hnu0
    have hR2 : RunL K CR CS (upd H nu (.lst ((numbersOf ss.length).map V.int))) (upd H1 nu (.lst ((numbersOf ss.length).map V.int))) L [] newRun := ⟨O2, TupsAt.nil⟩
    have hSB := hS.same sB
    generalize hHB : upd H nu (.lst ((numbersOf ss.length).map V.int)) = HB at *
    have hnuB : SqL K HB nu ((numbersOf ss.length).map V.int) := SqL.of (by rw [← hHB]; exact upd_same)
    generalize upd H1 nu (.lst ((numbersOf ss.length).map V.int)) = H2 at *
    -- the weaving
    refine ⟨_, rfl, b, rfl, ⟨_, (sB.trans hR2.own.same).seq hb⟩, for_list (K := K) (a := b) (xs := ws.map V.int) (fun i σ H3 => ∃ (v4 : Option V) (L : RL) (evs : List Addr), σ = [some (.ref a), some (.ref b), some (.ref x), some (.ref nu), v4] ∧ L.p = x ∧ L.sc = a ∧ RunL K CR CS HB H3 L evs (weaveR ss (ws.take i) newRun) ∧ (weaveR ss (ws.take i) newRun).events.length ≤ i)
      ⟨none, L, [], rfl, eLp, eLs, hR2, Nat.le_refl _⟩ (fun i σ H3 _ ⟨_, _, _, _, _, _, hR3, _⟩ => (sB.trans hR3.own.same).seq hb) ?_ ?_⟩
    · rintro i y σ H3 hi ⟨v4, L3, evs, rfl, e1, e2, hR3, hev⟩
      obtain ⟨t, ht, rfl⟩ := map_get hi
      have hil := (List.getElem?_eq_some_iff.mp ht).1
      have eW : weaveR ss (ws.take (i + 1)) newRun = if t ∈ numbersOf ss.length then turnR ss t (weaveR ss (ws.take i) newRun) else weaveR ss (ws.take i) newRun := by
        rw [take_snoc ht]
        unfold weaveR
        rw [List.foldl_append]
        rfl
      refine ⟨_, rfl, _, rfl, nu, _, rfl, .inl (hR3.own.same.seq hnuB), rfl, flat_ints _, _, rfl, ?_⟩
      show if inV (V.int t) ((numbersOf ss.length).map V.int) = true then _ else _
      rw [in_ints]
      by_cases hm : t ∈ numbersOf ss.length
      · rw [decide_eq_true hm]
        rw [if_pos hm] at eW
        refine iteT ?_
        refine ⟨_, rfl, L3.p, L3.dp, rFs L3, by rw [e1], hR3.own.has .p trivial, rfl, _, rfl, HB, L3, evs, _, t, ss, (by rw [e1] <;> rfl), hR3, weave_inv _ (rinv_new ss), hok, by rw [e2]; exact hSB, mem_numbers.mp hm, by omega, fun L4 evs4 H4 e3 e4 hR4 => ?_⟩
        have htv := turnR_ev (ss := ss) (R := weaveR ss (ws.take i) newRun) (t := t)
        refine ⟨_, L4, evs4, rfl, e3.trans e1, e4.trans e2, by rw [eW]; exact hR4, by rw [eW]; omega⟩
      · rw [decide_eq_false hm]
        rw [if_neg hm] at eW
        refine iteF ?_
        exact ⟨_, L3, evs, rfl, e1, e2, by rw [eW]; exact hR3, by rw [eW]; omega⟩
    · rintro σ H3 ⟨v4, L3, evs, rfl, e1, e2, hR3, hev⟩
      rw [List.length_map, List.take_length] at hR3 hev
      -- round and round
      refine ⟨fun m σ H4 => ∃ (v4 : Option V) (L : RL) (evs : List Addr) (R : Run Str) (k : Nat), m + k = 10 ∧ σ = [some (.ref a), some (.ref b), some (.ref x), some (.ref nu), v4] ∧ L.p = x ∧ L.sc = a ∧ RunL K CR CS HB H4 L evs R ∧ RInv ss R ∧ Prog ss.length k R ∧ loopR ss m R = finR ss ws ∧ R.events.length ≤ 30 + 5 * k,
        ⟨10, v4, L3, evs, weaveR ss ws newRun, 0, rfl, rfl, e1, e2, hR3, weave_inv _ (rinv_new ss), fun t _ => .inr (Nat.zero_le _), rfl, by omega⟩, ?_⟩
      rintro m σ H4 ⟨v4, L4, evs4, R, k, hmk, rfl, e3, e4, hR4, I, hpr, hloop, hev4⟩
      have hov := hR4.own.has .ov trivial
      refine ⟨_, rfl, L4.p, CR, L4.dp, rFs L4, _, by rw [e3], hR4.own.has .p trivial, TR.cl, TR.nOv, rfl, L4.ov, _, rfl, .inl (SqL.of hov), _, rfl, a, _, rfl, .inl ((sB.trans hR4.own.same).seq hal), _, _, rfl, rfl, _, rfl, ?_⟩
      rw [List.length_map, List.length_map, hlen]
      by_cases hc : R.over.length < ss.length
      · rw [decide_eq_true (show ((R.over.length : Nat) : Int) < ((ss.length : Nat) : Int) by omega)]
        refine iteT ?_
        have hk9 : ¬ 9 ≤ k := fun h => prog_end I hok.short hpr h hc
        obtain ⟨m', rfl⟩ : ∃ m', m = m' + 1 := ⟨m - 1, by omega⟩
        have hloop' : loopR ss m' (roundR ss R) = finR ss ws := by
          rw [← hloop]
          show _ = if R.over.length < ss.length then loopR ss m' (roundR ss R) else R
          rw [if_pos hc]
        refine ⟨fun σ' H' => ∃ (v4 : Option V) (L : RL) (evs : List Addr), σ' = [some (.ref a), some (.ref b), some (.ref x), some (.ref nu), v4] ∧ L.p = x ∧ L.sc = a ∧ RunL K CR CS HB H' L evs (roundR ss R), fun σ' H' ⟨v4, L5, evs5, e5, e6, e7, hR5⟩ => ⟨m', Nat.lt_succ_self _, v4, L5, evs5, roundR ss R, k + 1, by omega, e5, e6, e7, hR5, round_inv I, round_prog hpr, hloop', ?_⟩, ?_⟩
        · have h1 := fold_ev (ss := ss) (numbersOf ss.length) R
          rw [numbers_len] at h1
          have := hok.few
          show (List.foldl (fun R t => turnR ss t R) R (numbersOf ss.length)).events.length ≤ _
          omega
        · refine ⟨_, rfl, nu, rfl, ⟨_, hR4.own.same.seq hnuB⟩, for_list (K := K) (a := nu) (xs := (numbersOf ss.length).map V.int) (fun i σ H5 => ∃ (v4 : Option V) (L : RL) (evs : List Addr), σ = [some (.ref a), some (.ref b), some (.ref x), some (.ref nu), v4] ∧ L.p = x ∧ L.sc = a ∧ RunL K CR CS HB H5 L evs (((numbersOf ss.length).take i).foldl (fun R t => turnR ss t R) R))
            ⟨_, L4, evs4, rfl, e3, e4, hR4⟩ (fun i σ H5 _ ⟨_, _, _, _, _, _, hR5⟩ => hR5.own.same.seq hnuB) ?_ ?_⟩
          · rintro i y σ H5 hi ⟨v5, L5, evs5, rfl, e5, e6, hR5⟩
            obtain ⟨t, ht, rfl⟩ := map_get hi
            have hil := (List.getElem?_eq_some_iff.mp ht).1
            rw [numbers_len] at hil
            have hm := List.mem_of_getElem? ht
            have hI5 : RInv ss (((numbersOf ss.length).take i).foldl (fun R t => turnR ss t R) R) := fold_inv _ (fun u hu => mem_numbers.mp (List.mem_of_mem_take hu)) I
            have hv5 := fold_ev (ss := ss) ((numbersOf ss.length).take i) R
            rw [List.length_take] at hv5
            have := hok.few
            refine ⟨_, rfl, L5.p, L5.dp, rFs L5, by rw [e5], hR5.own.has .p trivial, rfl, _, rfl, HB, L5, evs5, _, t, ss, (by rw [e5] <;> rfl), hR5, hI5, hok, by rw [e6]; exact hSB, mem_numbers.mp hm, by omega, fun L6 evs6 H6 e7 e8 hR6 => ?_⟩
            refine ⟨_, L6, evs6, rfl, e7.trans e5, e8.trans e6, ?_⟩
            rw [take_snoc ht, List.foldl_append]
            exact hR6
          · rintro σ H5 ⟨v5, L5, evs5, rfl, e5, e6, hR5⟩
            rw [List.length_map, List.take_length] at hR5
            exact ⟨v5, L5, evs5, rfl, e5, e6, hR5⟩
      · rw [decide_eq_false (show ¬ ((R.over.length : Nat) : Int) < ((ss.length : Nat) : Int) by omega)]
        refine iteF ?_
        have hfin : R = finR ss ws := by
          rw [← hloop]
          cases m with
          | zero => rfl
          | succ m' =>
            show R = if R.over.length < ss.length then loopR ss m' (roundR ss R) else R
            rw [if_neg hc]
        refine ⟨_, rfl, ?_⟩
        have hq := q L4 evs4 H4 ⟨by rw [← hfin]; exact hR4.own.base sB, by rw [← hfin]; exact hR4.evs⟩ (by rw [← hfin]; omega)
        rw [e3] at hq
        exact hq
end
end Ok
namespace Ok
open PySem L2 PySem.Spec PyProof.Rows
/-! ### sorted, of a list of rows (int, int, text) -/
def enD (b : Addr × (Int × Int × Kd)) : PyData := .tuple [.int b.2.1, .int b.2.2.1, .str (kdS b.2.2.2)]
theorem enD_depth (b : Addr × (Int × Int × Kd)) : (enD b).depth = 1 := by simp [enD, PyData.depth, PyData.depthAll]
theorem enD_alike (b c : Addr × (Int × Int × Kd)) : PySem.W.alike (enD b) (enD c) = true := by simp [enD, PySem.W.alike, PySem.W.alikeAll]
def rSortD (K : PySem.W.Frag) : List V → Hp → VK → Prop := fun vs H Q => ∃ (a : Addr) (as : List Addr) (ds : List (Int × Int × Kd)), vs = [V.ref a] ∧ SqL K H a (as.map V.ref) ∧ TupsAt K H as (ds.map encD) ∧ as.length ≤ 1000 ∧
  ∀ (ys : List V) (p : Addr), ys.Perm (as.map V.ref) → H p = none → Q (.ref p) (upd H p (.lst ys))
theorem vals_refs : ∀ {as : List Addr} {us : List Value}, Vals (as.map V.ref) us → us = as.map Value.ref
  | [], _, .nil => rfl
  | a :: as, _, .cons r t => by
    cases r
    rw [vals_refs t] <;> rfl
theorem cr_sortD {X : Cx} (hu : X.A.units + 65 < cLine) : CallR X (.builtin "sorted") (rSortD X.K) := by
  intro pins s σ H vs us Q I r h
  obtain ⟨a, as, ds, rfl, hs, ht, hle, q⟩ := h
  obtain ⟨its, rv, hl, hz⟩ := I.list hs
  rw [Vals.ref1 r]
  have ei : its = as.map Value.ref := vals_refs rv
  have hlen : as.length = ds.length := by have := ht.1; simpa using this
  have z1 : (as.zip ds).map Prod.fst = as := List.map_fst_zip (by omega)
  have rd : ∀ b ∈ as.zip ds, ∃ rs, Reads s.heap (.ref b.1) (enD b) rs := fun b hb => by
    obtain ⟨i, hi⟩ := List.getElem?_of_mem hb
    have hi' := List.getElem?_zip_eq_some.mp hi
    have hq := ht.2 i b.1 (encD b.2) hi'.1 (by rw [List.getElem?_map, hi'.2] <;> rfl)
    have dp : Dp X.K H (.ref b.1) (enD b) := .tup hq (.cons (.int _) (.cons (.int _) (.cons (.str _) .nil)))
    exact Dp.reads I _ _ _ dp rfl
  have e1 : PySem.W.EachIs (fun (v : Value) (b : Addr × (Int × Int × Kd)) => v = .ref b.1) its (as.zip ds) := by
    rw [ei]
    have : PySem.W.EachIs (fun (v : Value) (b : Addr × (Int × Int × Kd)) => v = .ref b.1) ((as.zip ds).map fun b => Value.ref b.1) (as.zip ds) := by
      induction as.zip ds with
      | nil => exact .nil
      | cons b r ih => exact .cons rfl ih
    have e : ((as.zip ds).map fun b => Value.ref b.1) = as.map Value.ref := by
      rw [show (fun (b : Addr × (Int × Int × Kd)) => Value.ref b.1) = Value.ref ∘ Prod.fst from rfl, ← List.map_map, z1]
    rw [← e]
    exact this
  have e2 : PySem.W.EachIs (fun (v : Value) (b : Addr × (Int × Int × Kd)) => ∃ rs, Reads s.heap v (enD b) rs) its (as.zip ds) := by
    have aux : ∀ (bs : List (Addr × (Int × Int × Kd))) (vs : List Value), (∀ b ∈ bs, ∃ rs, Reads s.heap (.ref b.1) (enD b) rs) → PySem.W.EachIs (fun (v : Value) (b : Addr × (Int × Int × Kd)) => v = .ref b.1) vs bs → PySem.W.EachIs (fun (v : Value) (b : Addr × (Int × Int × Kd)) => ∃ rs, Reads s.heap v (enD b) rs) vs bs := by
      intro bs vs hb e
      induction e with
      | nil => exact .nil
      | cons h t ih => exact .cons (by rw [h]; exact hb _ List.mem_cons_self) (ih fun b hm => hb b (List.mem_cons_of_mem _ hm))
    exact aux _ _ rd e1
  refine PySem.W.sorted_data (R := fun (v : Value) (b : Addr × (Int × Int × Kd)) => v = .ref b.1) (enc := enD) (bs := as.zip ds) hl.isList e1 e2 (PySem.W.AllAlike.of fun b c => enD_alike b c) (PySem.W.Sortable.tuples fun b => ⟨_, _, rfl⟩) ?_ (fun b _ => ?_) fun out h1 h2 => ?_
  · rw [List.length_zip, sizeLine_eq]
    omega
  · rw [enD_depth]
    omega
  · have eo : out = ((as.zip ds).mergeSort (PySem.W.dataLe false enD)).map fun b => Value.ref b.1 := by
      generalize (as.zip ds).mergeSort (PySem.W.dataLe false enD) = bs at h2
      clear h1
      induction h2 with
      | nil => rfl
      | cons h t ih => rw [h, ih] <;> rfl
    have pm : ((as.zip ds).mergeSort (PySem.W.dataLe false enD)).Perm (as.zip ds) := List.mergeSort_perm _ _
    generalize (as.zip ds).mergeSort (PySem.W.dataLe false enD) = bs at eo pm
    have p2 : (bs.map fun b => V.ref b.1).Perm (as.map V.ref) := by
      have := pm.map (fun b => V.ref b.1)
      have e : ((as.zip ds).map fun b => V.ref b.1) = as.map V.ref := by
        rw [show (fun (b : Addr × (Int × Int × Kd)) => V.ref b.1) = V.ref ∘ Prod.fst from rfl, ← List.map_map, z1]
      rw [e] at this
      exact this
    have hv : Vals (bs.map fun b => V.ref b.1) (bs.map fun b => Value.ref b.1) := by
      clear p2 pm eo
      induction bs with
      | nil => exact .nil
      | cons b r ih => exact .cons rfl ih
    obtain ⟨ep, he'⟩ := PyProof.Rows.sortedAll_at s.heap its out.toArray
    have hsz : (bs.map fun b => V.ref b.1).length ≤ sizeLine := by
      rw [p2.length_eq, List.length_map, sizeLine_eq]
      omega
    refine ⟨.ref _, upd H (s.heap.objs.size + 1) (.lst (bs.map fun b => V.ref b.1)), I.laid (t' := s.toks) (fun _ _ => PyProof.Rows.sortedAll_old) (Nat.le_succ _) ⟨hsz, _, ep, ?_, he'⟩, rfl, q _ _ p2 (I.hok.fresh (Nat.le_succ _))⟩
    simpa [eo] using hv
/-! ### a set of int tuples, one more told -/
theorem tell_pair {P : Program} {w : World} {A : Around} {E Q : Value → Shared → Prop} {s : Shared} {a x : Addr} {k : List Int} {L : List (Addr × List Int)} (rm : A.units + 65 < cLine) (few : L.length + 1 < 64) (isx : L2.IsT P w s.heap k x)
    {es : Array (Int × Value)} {ep : Nat} {t : SetTable} (at_ : SetTR P w s.heap a L es ep t)
    (fin : ∀ (G : Heap) (tk : Nat) (L' : List (Addr × List Int)), Heap.SameBut a s.heap G → SetT0 P w G a L' → (∃ o, G.get? a = some o) → (k ∈ L.map (·.2) → L' = L) → (k ∉ L.map (·.2) → L'.Perm ((x, k) :: L)) → Q .none { s with heap := G, toks := tk }) :
    wpAny (model P w) A (call (.builtin "set.add") [.ref a, .ref x]) Q E s := by
  have isSet : s.TypeIs (.ref a) "set" := at_.ob.elim fun o h => ⟨o, h.1, h.2.1.1⟩
  have body (B : Around) (rB : B.units < cLine) : wpAny (model P w) B (setAdd a (.ref x)) (fun _ s' => Q .none s') E s := by
    unfold setAdd
    exact wpAny_holding (wpAny_bind (wpAny_pyHash_tuple rB isx
      (add_at (s := { s with toks := s.toks + (k.length + 1) }) (at_.keep (fun _ e => e) at_.tup) isx rB few fun _ G L' _ _ _ sb r c1 c2 => fin G _ L' sb r.t0 (r.ob.elim fun o h => ⟨o, h.1⟩) c1 c2)))
  refine wpAny_call_entry F.slot_set_add isSet F.entry_set_add ?_ (F.args_set_add_2 _ _)
  delta Builtin.«set.add» Builtin.Frozenset.oneOther Builtin.Frozenset.addrOf
  have rA : A.in1.units < cLine := by
    show A.units + 1 < cLine
    omega
  simp only [List.isEmpty_nil, bind_assoc]
  exact wpAny_bind (wpAny_pure (wpAny_bind (wpAny_pure (wpAny_bind (thn (body _ rA) fun _ s' q => wpAny_pure ⟨_, rfl, q⟩)))))
/-- the same over tracked heaps -/
theorem tell_ok {X : Cx} {pins : List (Addr × Obj)} {τ : L2.St} {G : Hp} {s : Shared} {E Q : Value → Shared → Prop} {D x : Addr} {k : List Int} {L : List (Addr × List Int)} (rm : X.A.units + 65 < cLine) (I : Inv X pins τ G s) (isx : SqT X.K G x (k.map V.int))
    (isD : G D = some (SetTO X.prog X.w D L)) (all : ∀ p ∈ L, SqT X.K G p.1 (p.2.map V.int)) (few : L.length + 1 < 64)
    (fin : ∀ s' L', (k ∈ L.map (·.2) → L' = L) → (k ∉ L.map (·.2) → L'.Perm ((x, k) :: L)) → Inv X pins τ (upd G D (SetTO X.prog X.w D L')) s' → Q .none s') : wpAny (model X.prog X.w) X.A (call (.builtin "set.add") [.ref D, .ref x]) Q E s := by
  obtain ⟨_, _, _, tr⟩ := SetT0.full (show SetT0 X.prog X.w s.heap D L from (I.hok D _ isD).1) fun p m => I.isT (all p m)
  exact tell_pair rm few (I.isT isx) tr fun h' tk L' sb new ex c1 c2 => fin _ L' c1 c2 (I.write (x := D) (e := D) (t' := tk) (by rw [isD]; trivial) (Or.inl rfl) (fun b u ne hb => (sb.2 b ne).trans hb) ex (setTO_new new))
/-- a block between two of its turns: k of them done -/
def Between (Y : Cx) (fp : List Addr) (tn : Nat → Heap → Prop) (W : Nat → Nat → Hp → Prop) (τ : L2.St) (n : Nat) (s : Shared) : Prop := ∃ (k : Nat) (G : Hp), W k n G ∧ (∀ b ∈ fp, G b = none) ∧ tn k s.heap ∧ Inv Y [] τ G s
/-- the iterator's own objects, in the block -/
theorem own_fp {X : Cx} {s0 s : Shared} {G0 G : Hp} {sc : Scope} {ce : Env} {fp : List Addr} {τ : L2.St} (I : Inv (X.blk s0 G0 sc ce fp) [] τ G s) (free : ∀ b ∈ fp, G b = none) (b : Addr) (m : b ∈ fp) : FpOk (X.blk s0 G0 sc ce fp) [] G b := by
  have ⟨ne, cells⟩ := I.ok.exf b m
  refine ⟨free b m, ne, I.ok.exfs b m, Or.inl m, cells, fun p mem => ?_⟩
  have mem' : p ∈ ([] : List (Addr × Obj)) := mem
  exact nomatch mem'
/-- a turn's end is such a place again -/
theorem between_next {Y : Cx} {tg : Expr} {J : It} {it : Addr} {fp : List Addr} {tn : Nat → Heap → Prop} (T : Turn Y.prog Y.w Y.K tg J fp it tn) {k n : Nat} {h0 : Heap} (was : tn (k + 1) h0) {W : Nat → Nat → Hp → Prop} {Nx : Hp → Prop} (less : ∀ G, Nx G → ∃ m, m < n ∧ W (k + 1) m G)
    {τ υ : L2.St} {vs : List Nat} (eq : wipe υ vs = wipe τ vs) {G : Hp} {s : Shared} (I : Inv Y ([] ++ pinsAt fp h0) υ G s) (nx : Nx G) : ∃ m, m < n ∧ Between Y fp tn W (wipe τ vs) m s := by
  obtain ⟨m, lt, w⟩ := less G nx
  have stays (b : Addr) (mb : b ∈ fp) (o : Obj) (e : h0.get? b = some o) : s.heap.get? b = some o ∧ G b = none :=
    have z := I.pin (b, o) (List.mem_append.mpr (Or.inr (List.mem_append.mpr (Or.inr (mem_pinsAt mb e)))))
    And.intro z.1 z.2.1
  have len : (wipe τ vs).length = υ.length := (congrArg List.length eq).symm.trans (wipe_length υ vs)
  refine ⟨m, lt, k + 1, G, w, fun b mb => ?_, T.keep _ h0 _ was fun b mb o e => (stays b mb o e).1, Inv.weak (Inv.unpinned (pins := []) I) len fun j v e => ?_⟩
  · have ⟨o, e, _⟩ := T.obj _ _ was b mb
    exact (stays b mb o e).2
  · exact (wipe_some (eq ▸ e)).1
/-- {elt for target in iter if ..}, elt a tuple of ints: D is the new set -/
def tSt (K : PySem.W.Frag) (P : Program) (w : World) (wi : TI) (g : TG) (tt : TT) (te : TE) (vs : List Nat) : TE := fun σ H Q => wi σ H fun J H1 => ∀ D, H1 D = none → ∃ W : Nat → Nat → Hp → Prop, (∃ m, W 0 m (upd H1 D (SetTO P w D []))) ∧ ∀ i m H, W i m H →
  (J.stop i H ∧ Q (.ref D) H) ∨ (J.go i H ∧ ∃ Nx : Hp → Prop, (∀ H', Nx H' → ∃ m', m' < m ∧ W (i + 1) m' H') ∧ ∀ x H', J.yld i H x H' → g x (wipe σ vs) H' fun σ2 H2 => wipe σ2 vs = wipe σ vs ∧ tt σ2 H2 fun b H3 =>
    if b = true then te σ2 H3 fun y H4 => ∃ (c : Addr) (k : List Int) (L : List (Addr × List Int)), y = .ref c ∧ SqT K H4 c (k.map V.int) ∧ H4 D = some (SetTO P w D L) ∧ (∀ p ∈ L, SqT K H4 p.1 (p.2.map V.int)) ∧ L.length + 1 < 64 ∧
      ∀ L', (k ∈ L.map (·.2) → L' = L) → (k ∉ L.map (·.2) → L'.Perm ((c, k) :: L)) → Nx (upd H4 D (SetTO P w D L')) else Nx H3)
/-- its loop -/
theorem st_loop {X : Cx} (rm : X.A.units + 65 < cLine) (hc : X.calm = true) {s0 s : Shared} {G0 : Hp} {sc : Scope} {ce : Env} {fp : List Addr} {it D : Addr} {tn : Nat → Heap → Prop} {J : It} {elt tg iter : Expr} {ifs : List Expr} {pos : Pos} (T : Turn X.prog X.w X.K tg J fp it tn)
    {g : TG} {tt : TT} {te : TE} (pg : PG (X.blk s0 G0 sc ce fp) tg g) (pt : PTs (X.blk s0 G0 sc ce fp) ifs tt) (pe : PE (X.blk s0 G0 sc ce fp) elt te) {τ : L2.St} {vs : List Nat} {W : Nat → Nat → Hp → Prop} {Fin : Hp → Prop} {R : Result → Shared → Prop}
    (turn : ∀ i m H, W i m H → (J.stop i H ∧ Fin H) ∨ (J.go i H ∧ ∃ Nx : Hp → Prop, (∀ H', Nx H' → ∃ m', m' < m ∧ W (i + 1) m' H') ∧ ∀ x H', J.yld i H x H' → g x (wipe τ vs) H' fun σ2 H2 => wipe σ2 vs = wipe τ vs ∧ tt σ2 H2 fun b H3 =>
      if b = true then te σ2 H3 fun y H4 => ∃ (c : Addr) (k : List Int) (L : List (Addr × List Int)), y = .ref c ∧ SqT X.K H4 c (k.map V.int) ∧ H4 D = some (SetTO X.prog X.w D L) ∧ (∀ p ∈ L, SqT X.K H4 p.1 (p.2.map V.int)) ∧ L.length + 1 < 64 ∧
        ∀ L', (k ∈ L.map (·.2) → L' = L) → (k ∉ L.map (·.2) → L'.Perm ((c, k) :: L)) → Nx (upd H4 D (SetTO X.prog X.w D L')) else Nx H3))
    (out : ∀ G s', Inv (X.blk s0 G0 sc ce fp) [] (wipe τ vs) G s' → Fin G → R (.ok .next) s') {n : Nat} (here : Between (X.blk s0 G0 sc ce fp) fp tn W (wipe τ vs) n s) :
    codeAny (model X.prog X.w) X.A (.compLoop (.SetComp elt [⟨tg, iter, ifs, 0⟩] sc pos) 0 (.ref it) (.ref D) ce) R s := by
  refine PpSet.compLoopS_any (Between (X.blk s0 G0 sc ce fp) fp tn W (wipe τ vs)) (fun n sA bw => ?_) n here
  obtain ⟨k, G, w, free, was, IA⟩ := bw
  have fps := own_fp IA free
  cases turn k n G w with
  | inl h =>
      refine thnF (T.done (X.blk s0 G0 sc ce fp) rfl rfl rfl hc k [] sA _ G (fun _ _ => False) IA fps was h.1) fun r sB e => ?_
      obtain ⟨e1, IB⟩ := e
      subst e1
      exact out G sB IB h.2
  | inr h =>
    obtain ⟨go, Nx, less, step⟩ := h
    refine thnF (T.item (X.blk s0 G0 sc ce fp) rfl rfl rfl hc k [] sA _ G (fun _ _ => False) IA fps was go) fun r sB hB => ?_
    obtain ⟨u, e, hB⟩ := hB
    subst e
    refine thnF hB fun _ sC hC => ?_
    obtain ⟨x, G1, IC, rel, yl, was1, free1⟩ := hC
    have next {υ : L2.St} {G' : Hp} {s' : Shared} (eq : wipe υ vs = wipe τ vs) (I' : Inv (X.blk s0 G0 sc ce fp) ([] ++ pinsAt fp sC.heap) υ G' s') (nx : Nx G') := between_next (Y := X.blk s0 G0 sc ce fp) T was1 less eq I' nx
    refine thnF (pg.run _ sC _ G1 x u _ (IC.pinned (own_fp IC free1) (T.obj _ _ was1)) rel (step x G1 yl)) fun _ sD hD => ?_
    obtain ⟨υ, G2, ID, eq, hD⟩ := hD
    refine thnF (pt.run _ sD υ G2 _ ID hD) fun b sE hE => ?_
    obtain ⟨G3, IE, hE⟩ := hE
    by_cases hb : b = true
    · rw [if_pos hb] at hE
      rw [if_pos hb]
      refine thnF (pe.run _ sE υ G3 _ IE hE) fun z sF hF => ?_
      obtain ⟨y, G4, IF, relY, c, key, L, ey, isc, isD, all, few, nx⟩ := hF
      rw [ey] at relY
      have ez : z = Value.ref c := relY
      rw [ez]
      exact tell_ok (X := X.blk s0 G0 sc ce fp) rm IF isc isD all few fun sG L' c1 c2 IG => next eq IG (nx L' c1 c2)
    · rw [if_neg hb] at hE
      rw [if_neg hb]
      exact next eq IE hE
/-- its block, from the heap with the new set on -/
theorem st_block {X : Cx} (rm : X.A.units + 65 < cLine) (hc : X.calm = true) (nd : X.N.Nodup) {pins : List (Addr × Obj)} {τ : L2.St} {G : Hp} {s : Shared} {Q : VK} {elt tg iter : Expr} {ifs : List Expr} {sc : Scope} {own : List (PySem.Str × Nat)} {pos : Pos} {g : TG} {tt : TT} {te : TE} (ok : BlkOk X.N X.env.scope sc own)
    (hg : ∀ (C : Addr) (cl : List (PySem.Str × Addr)) (fp : List Addr), PG (X.blk s G sc (compEnvC sc cl C X.env) fp) tg g) (ht : ∀ (C : Addr) (cl : List (PySem.Str × Addr)) (fp : List Addr), PTs (X.blk s G sc (compEnvC sc cl C X.env) fp) ifs tt) (he : ∀ (C : Addr) (cl : List (PySem.Str × Addr)) (fp : List Addr), PE (X.blk s G sc (compEnvC sc cl C X.env) fp) elt te)
    (I : Inv X pins τ G s) {it D : Addr} {fp : List Addr} {tn : Nat → Heap → Prop} {J : It} (T : Turn X.prog X.w X.K tg J fp it tn) (was : tn 0 s.heap) (fps : ∀ b ∈ fp, FpOk X pins G b ∧ b < s.heap.objs.size) {W : Nat → Nat → Hp → Prop} {n : Nat} (w0 : W 0 n G)
    (turn : ∀ i m H, W i m H → (J.stop i H ∧ Q (.ref D) H) ∨ (J.go i H ∧ ∃ Nx : Hp → Prop, (∀ H', Nx H' → ∃ m', m' < m ∧ W (i + 1) m' H') ∧ ∀ x H', J.yld i H x H' → g x (wipe τ (own.map (·.2))) H' fun σ2 H2 => wipe σ2 (own.map (·.2)) = wipe τ (own.map (·.2)) ∧ tt σ2 H2 fun b H3 =>
      if b = true then te σ2 H3 fun y H4 => ∃ (c : Addr) (k : List Int) (L : List (Addr × List Int)), y = .ref c ∧ SqT X.K H4 c (k.map V.int) ∧ H4 D = some (SetTO X.prog X.w D L) ∧ (∀ p ∈ L, SqT X.K H4 p.1 (p.2.map V.int)) ∧ L.length + 1 < 64 ∧
        ∀ L', (k ∈ L.map (·.2) → L' = L) → (k ∉ L.map (·.2) → L'.Perm ((c, k) :: L)) → Nx (upd H4 D (SetTO X.prog X.w D L')) else Nx H3)) :
    codeAny (model X.prog X.w) X.A (.compStart (.SetComp elt [⟨tg, iter, ifs, 0⟩] sc pos) 0 (.ref it) (.ref D) (compEnvC sc (cellsFrom (s.heap.objs.size + 1) sc.names (cloFrom X.env.cells sc.names [])) s.heap.objs.size X.env))
      (compPost (model X.prog X.w) X.A X.xe none (EP X pins τ Q) (.ref D) s.heap.objs.size) { s with heap := pushCells (s.heap.push { cls := .type "dict", data := .dict #[] }) sc.names } := by
  have begun := block_start I ok nd fps
  have pg := hg s.heap.objs.size (cellsFrom (s.heap.objs.size + 1) sc.names (cloFrom X.env.cells sc.names [])) fp
  have pt := ht s.heap.objs.size (cellsFrom (s.heap.objs.size + 1) sc.names (cloFrom X.env.cells sc.names [])) fp
  have pe := he s.heap.objs.size (cellsFrom (s.heap.objs.size + 1) sc.names (cloFrom X.env.cells sc.names [])) fp
  have was1 : tn 0 (pushCells (s.heap.push { cls := .type "dict", data := .dict #[] }) sc.names) := T.keep _ _ _ was fun b _ o e => pushCells_keeps _ _ _ _ (Heap.get?_push_of_some _ e)
  generalize ec : compEnvC sc (cellsFrom (s.heap.objs.size + 1) sc.names (cloFrom X.env.cells sc.names [])) s.heap.objs.size X.env = ce at *
  have lc : ce.locals = s.heap.objs.size := by
    rw [← ec]
    rfl
  have here : Between (X.blk s G sc ce fp) fp tn W (wipe τ (own.map (·.2))) n { s with heap := pushCells (s.heap.push { cls := .type "dict", data := .dict #[] }) sc.names } := ⟨0, G, w0, fun b m => (fps b m).1.1, was1, begun⟩
  have run := st_loop (elt := elt) (iter := iter) (pos := pos) (R := compPost (model X.prog X.w) X.A X.xe none (EP X pins τ Q) (.ref D) s.heap.objs.size) rm hc T pg pt pe turn (fun G' s' I' fin => ?_) here
  · exact PpSet.codeAny_compStart_set run (T.self X.A 0 _ _ _ was1 run)
  · -- back where it began
    obtain ⟨m, ns, _⟩ := I'.loc
    have fr : G' ce.locals = none := I'.free
    have ns' : s'.heap.Ns ce.locals m := ns
    rw [lc] at fr ns'
    have back : Inv X pins τ G' s' := I.call' (ch := fp) I'.os I'.base I'.hok I'.bare fun b mb =>
      have f := (fps b mb).1
      ⟨f.2.2.2.1, f.2.1, f.2.2.2.2.1, f.2.2.2.2.2⟩
    have f : FpOk X pins G' s.heap.objs.size := I.fpOk (Nat.le_refl _) fr
    exact ⟨m, ns', fun h'' sb => ⟨.ref D, G', back.turned (t' := s'.toks) (fun b o ne e => (sb.2 b ne).trans e) f.1 f.2.1 f.2.2.2.1 f.2.2.2.2.1 f.2.2.2.2.2, rfl, fin⟩⟩
/-- as a value -/
theorem pe_st {X : Cx} (rm : X.A.units + 65 < cLine) {elt tg iter : Expr} {ifs : List Expr} {sc : Scope} {own : List (PySem.Str × Nat)} {pos : Pos} {wi : TI} {g : TG} {tt : TT} {te : TE} (hc : X.calm = true) (hN : X.N.Nodup) (hi : PI X tg iter wi) (ok : BlkOk X.N X.env.scope sc own)
    (hg : ∀ (s : Shared) (H : Hp) (C : Addr) (cl : List (PySem.Str × Addr)) (fp : List Addr), PG (X.blk s H sc (compEnvC sc cl C X.env) fp) tg g) (ht : ∀ (s : Shared) (H : Hp) (C : Addr) (cl : List (PySem.Str × Addr)) (fp : List Addr), PTs (X.blk s H sc (compEnvC sc cl C X.env) fp) ifs tt)
    (he : ∀ (s : Shared) (H : Hp) (C : Addr) (cl : List (PySem.Str × Addr)) (fp : List Addr), PE (X.blk s H sc (compEnvC sc cl C X.env) fp) elt te) (hs : ∀ x, foldedSetIterable iter X.env x = pure x := by intro _; rfl) :
    PE X (.SetComp elt [⟨tg, iter, ifs, 0⟩] sc pos) (tSt X.K X.prog X.w wi g tt te (own.map (·.2))) := by
  constructor
  intro pins s τ H Q I rd
  rw [PpSet.eval_SetComp]
  have known : ∀ y ∈ sc.names, y.2 = .free → ∃ c, X.env.cells.lookup y.1 = some c := fun y m e => I.ok.has _ (ok.free y m e)
  refine wpAny_comprehension_free rfl hs (closure_ok known) ok.kind (fun y m e => (ok.uniq y m).trans (congrArg some e)) (thn (hi.run pins s τ H _ I rd) fun v sA hA => thn hA fun w sB hB => ?_)
  obtain ⟨it, fp, tn, J, H1, ew, IB, T, was, fpB, rest⟩ := hB
  rw [ew]
  refine PpSet.newSet_ok (newEnv_comp ?_)
  have small : ∀ b ∈ fp, b < sB.heap.objs.size := fun b m => (T.obj _ _ was b m).elim fun o e => Heap.lt_size e.1
  obtain ⟨W, ⟨n, w0⟩, turn⟩ := rest sB.heap.objs.size (IB.hok.fresh (Nat.le_refl _))
  -- the set is laid
  have IC : Inv X pins τ (upd H1 sB.heap.objs.size (SetTO X.prog X.w sB.heap.objs.size [])) { sB with heap := sB.heap.push { cls := .type "set", dict := none, data := .set #[] 0 (.fresh 0 0 (!X.w.params.followText "set-order")) } } :=
    IB.laid (t' := sB.toks) (fun b u e => Heap.get?_push_of_some _ e) (Nat.le_refl _) (setTO_new (setTR_fresh (P := X.prog) (Heap.get?_push_size _ rfl)).t0)
  have wasC : tn 0 (sB.heap.push { cls := .type "set", dict := none, data := .set #[] 0 (.fresh 0 0 (!X.w.params.followText "set-order")) }) := T.keep _ _ _ was fun b _ o e => Heap.get?_push_of_some _ e
  have fpC : ∀ b ∈ fp, FpOk X pins (upd H1 sB.heap.objs.size (SetTO X.prog X.w sB.heap.objs.size [])) b ∧ b < (sB.heap.push { cls := .type "set", dict := none, data := .set #[] 0 (.fresh 0 0 (!X.w.params.followText "set-order")) }).objs.size := fun b m => by
    have lt := small b m
    exact ⟨⟨(upd_ne (Nat.ne_of_lt lt)).trans (fpB b m).1, (fpB b m).2⟩, by rw [Heap.size_push]; exact Nat.lt_succ_of_lt lt⟩
  exact st_block (s := { sB with heap := sB.heap.push { cls := .type "set", dict := none, data := .set #[] 0 (.fresh 0 0 (!X.w.params.followText "set-order")) } }) rm hc hN ok (hg _ _) (ht _ _) (he _ _) IC T wasC fpC w0 turn
end Ok
namespace Ok
open PySem L2
section
variable {P : Program} {w : World} {K : PySem.W.Frag} {mg : Str → Option Value} {base : Heap}
def spSnapRun (K : PySem.W.Frag) : Sp := fun vs H Q _ => ∃ (a b : Addr) (ss : List (List (Step Str))) (ws : List Int), vs = [.ref a, .ref b] ∧ SsAt K H a ss ∧ SsOk ss ∧ SqL K H b (ws.map V.int) ∧ ws.length ≤ 30 ∧
  ∀ (p ev td : Addr) (ys : List Str) (H' : Hp), Same H H' → SqT K H' p [.ref ev, .ref td] → RowsAt K H' ev ((finR ss ws).events.map encE) → (finR ss ws).events.length ≤ 100 → RowsAt K H' td ((toldOf (finR ss ws).amounts ys).map encT) →
    ys.Perm ((finR ss ws).amounts.map (·.1)) → PyProof.Rows.sortedS ys = true → Q (.ref p) H'
theorem scSnapRun : FnScope ["scripts", "weaving", "run"] ["scripts", "weaving"] (defScope sSnapRun) := ⟨rfl, rfl, rfl, by decide +kernel, rfl, by decide +kernel, by decide +kernel⟩
theorem ok_snapRun {f fT fF CR CS : Addr} {fd fdT fdF : FuncData} (F : Fun K "snapshot_run" "snapshot_run" sSnapRun f fd) (T : Glb mg) (TR : TxtR K mg CR CS) (M : Meths K mg CR CS)
    (FT : Fun K "told_values" "told_values" sTold fT fdT) (bT : Binds K fdT ["values"] []) (mT : mg "told_values" = some (.ref fT))
    (FF : Fun K "finished_run" "finished_run" sFin fF fdF) (bF : Binds K fdF ["scripts", "weaving"] []) (mF : mg "finished_run" = some (.ref fF)) :
    FnOk P w K mg base CX0 7 f fd ["scripts", "weaving"] (spSnapRun K) := by
  have GT : FnOk P w K mg base CX0 1 fT fdT ["values"] (spTold K) := ok_told FT T
  have GF : FnOk P w K mg base CX0 6 fF fdF ["scripts", "weaving"] (spFin K CR CS) := ok_fin FF T TR M
  have sc := scSnapRun
  refine F.ok scSnapRun (fun vs H Q E h => ?_) (fun cdv A outer s H vs Q E hr h => ?_)
  · obtain ⟨a, b, ss, ws, rfl, _⟩ := h
    rfl
  · obtain ⟨a, b, ss, ws, rfl, hS, hok, hb, hw30, q⟩ := h
    have hr2 : Room 1 _ := hr.mono (by decide)
    refine ⟨_, (pss_cons (ps_set (i := 2) sc.nd rfl (Or.inl rfl) (pe_call GF hr (by rfl) mF FF.kp bF .nil pass0 (pa_cons (pv 0) (pa_cons (pv 1) pa_nil)))) (pss_one (ps_ret (pe_tup (pa_cons (pe_fld (pv 2) rfl) (pa_cons (pe_call GT hr2 (by rfl) mT FT.kp bT .nil pass0 (pa_cons (pe_fld (pv 2) rfl) pa_nil)) pa_nil)))))), ?_⟩
    refine ⟨_, rfl, _, rfl, a, b, ss, ws, rfl, hS, hok, hb, hw30, fun L evs H1 hR hev => ?_⟩
    have I := fin_inv (ss := ss) ws
    have O := hR.own
    refine ⟨_, rfl, L.p, CR, L.dp, rFs L, _, rfl, O.has .p trivial, TR.cl, TR.nEv, rfl, _, rfl, L.p, CR, L.dp, rFs L, _, rfl, O.has .p trivial, TR.cl, TR.nAm, rfl, ?_⟩
    refine ⟨L.am, _, rfl, O.has .am trivial, I.na, by have := (I.am40 hok.few hok.short).1; omega, fun ys td H2 hp hs s2 hn hrow => ?_⟩
    refine ⟨by show 2 ≤ sizeLine; rw [sizeLine_eq]; omega, fun p hp0 => ?_⟩
    have s3 : Same H2 (upd H2 p (.tup [.ref L.ev, .ref td])) := (Same.refl _).new hp0
    exact q p L.ev td ys _ ((O.same.trans s2).trans s3) (SqT.of upd_same) ⟨evs, (s2.trans s3).seq (SqL.of (O.has .ev trivial)), hR.evs.same (s2.trans s3)⟩ hev (hrow.same s3) hp hs
end
end Ok
namespace Ok
open PySem L2
theorem same_unlock {H H' : Hp} {d : Addr} {u z : HO} (h : H d = some u) (s : Same (upd H d z) H') : Same H (upd H' d u) := fun b o e => by
  by_cases hb : b = d
  · subst hb
    rw [upd_same, ← e, h]
  · rw [upd_ne hb]
    exact s b o (by rw [upd_ne hb]; exact e)
theorem itk_go {d : Addr} {o : Obj} {kvs : List (Key × V)} {H1 : Hp} (h : H1 d = some (.frz o (.dK kvs))) {n : Nat} (hn : kvs.length = n) : ∀ i H, i < n → Same H1 H → (Itk d o kvs).go i H := fun i H hi s => ⟨s _ _ h, by omega⟩
theorem itk_stop {d : Addr} {o : Obj} {kvs : List (Key × V)} {H1 : Hp} (h : H1 d = some (.frz o (.dK kvs))) {n : Nat} (hn : kvs.length = n) : ∀ H, Same H1 H → (Itk d o kvs).stop n H := fun H s => ⟨s _ _ h, by omega⟩
theorem idx_at {l : List Int} {t : Int} (h : t ∈ l) : l[l.idxOf t]? = some t := by
  have hl := List.idxOf_lt_length_iff.mpr h
  rw [List.getElem?_eq_getElem hl, List.getElem_idxOf]
theorem idx_before {t : Int} : ∀ {l : List Int} {m : Nat} {x : Int}, m < l.idxOf t → l[m]? = some x → x ≠ t
  | [], m, x, h, e => by simp at e
  | a :: r, 0, x, h, e => by
    simp at e
    subst e
    intro q
    subst q
    rw [List.idxOf_cons_self] at h
    exact absurd h (Nat.lt_irrefl 0)
  | a :: r, m + 1, x, h, e => by
    by_cases q : a = t
    · subst q
      rw [List.idxOf_cons_self] at h
      exact absurd h (Nat.not_lt_zero _)
    · have e2 : (a :: r).idxOf t = r.idxOf t + 1 := by
        have q2 : (a == t) = false := by simpa using q
        rw [List.idxOf_cons, q2]
        rfl
      rw [e2] at h
      exact idx_before (l := r) (m := m) (Nat.lt_of_succ_lt_succ h) e
theorem idx_self (t : Int) : eqV (.int t) (.int t) = true := by
  show (t == t) = true
  simp
theorem idx_no {l : List Int} {t : Int} : ∀ (m : Nat) (z : V), m < l.idxOf t → (l.map V.int)[m]? = some z → eqV z (.int t) = false := fun m z hm hz => by
  obtain ⟨x, hx, rfl⟩ := map_get hz
  have := idx_before hm hx
  show (x == t) = false
  simpa using this
theorem any_bls {α : Type} (l : List α) (f : α → Bool) : (l.filterMap fun y => some (V.bl (f y))) = (l.map f).map V.bl := by
  induction l with
  | nil => rfl
  | cons a r ih => rw [List.filterMap_cons, ih]; rfl
section
variable {P : Program} {w : World} {K : PySem.W.Frag} {mg : Str → Option Value} {base : Heap}
def spKinds (K : PySem.W.Frag) (CR CS : Addr) : Sp := fun vs H Q _ => ∃ (H0 : Hp) (L : RL) (evs : List Addr) (R : Run Str) (t u : Int), vs = [.ref L.p, .int t, .int u] ∧ RunL K CR CS H0 H L evs R ∧ t ≠ u ∧ t ∈ R.commits ∧ u ∈ R.commits ∧ (∀ x ∈ R.commits, x ∈ R.keys) ∧ RSz R ∧
  ∀ (p : Addr) (H' : Hp), Same H H' → SqL K H' p ((kinds R t u).map (fun k => V.str (kdS k))) → Q (.ref p) H'
abbrev nKinds : List Str := ["run", "t", "u", "first", "second", "kinds", "item"]
theorem scKinds : FnScope nKinds ["run", "t", "u"] (defScope sKinds) := ⟨rfl, rfl, rfl, by decide +kernel, rfl, by decide +kernel, by decide +kernel⟩
theorem ok_kinds {f CR CS : Addr} {fd : FuncData} (F : Fun K "kinds_between" "kinds_between" sKinds f fd) (T : Glb mg) (TR : TxtR K mg CR CS) : FnOk P w K mg base CX0 1 f fd ["run", "t", "u"] (spKinds K CR CS) := by
  have sc := scKinds
  refine F.ok scKinds (fun vs H Q E h => ?_) (fun cdv A outer s H vs Q E hr h => ?_)
  · obtain ⟨H0, L, evs, R, t, u, rfl, _⟩ := h
    rfl
  · obtain ⟨H0, L, evs, R, t, u, rfl, hR, hne, htC, huC, hCK, hz, q⟩ := h
    have hu := hu_of hr
    have htK := hCK t htC
    have huK := hCK u huC
    refine ⟨_, pss_cons (ps_set (i := 3) sc.nd rfl (Or.inl rfl) (pe_dget hu (pe_fld (pv 0) rfl) (pv 1) (fun _ _ => rfl))) (pss_cons (ps_set (i := 4) sc.nd rfl (Or.inr rfl) (pe_dget hu (pe_fld (pv 0) rfl) (pv 2) (fun _ _ => rfl))) (pss_cons (ps_set (i := 5) sc.nd rfl (Or.inl rfl) (pe_lst pa_nil))
      (Evl.pss_cut (ps_if (PW.pt (pw_and (pt_val (pe_callB (cr_any rfl) (by rfl) T.any (by decide +kernel) (pa_cons (pe_lock (pe_lc (own := [("item", 6)]) (g := gName 6) (tt := tYes) (te := tDIn (tVar 6) (tFld K (tVar 4) "writes")) rfl sc.nd (pi_keys (pe_fld (pv 3) rfl)) (blkOk_by (own := [("item", 6)]) (N := nKinds) (sc := defScope sKinds) (by decide +kernel))
          (fun _ _ _ _ _ => (pg_name (i := 6) sc.nd rfl (Or.inl rfl))) (fun _ _ _ _ _ => pts_nil) (fun _ _ _ _ _ => pe_cmp (pc_din hu (pv 6) (pe_fld (pv 4) rfl))))) pa_nil))) (pw_and1 (pt_cmpR op_lt (pe_bm PySem.F.plainAttrs_list PySem.F.slot_list_index PySem.F.type_list_index mt_index (pe_fld (pv 0) rfl) (pa_cons (pv 1) pa_nil)) (pe_bm PySem.F.plainAttrs_list PySem.F.slot_list_index PySem.F.type_list_index mt_index (pe_fld (pv 0) rfl) (pa_cons (pv 2) pa_nil)) (nomark _))))) (pss_one (ps_expr (pe_bm PySem.F.plainAttrs_list PySem.F.slot_list_append PySem.F.type_list_append mt_append (pv 5) (pa_cons pe_str pa_nil)))) pss_nil)
      (Evl.pss_cut (ps_if (pt_val (pe_callB (cr_any rfl) (by rfl) T.any (by decide +kernel) (pa_cons (pe_lc (own := [("item", 6)]) (g := gName 6) (tt := tYes) (te := tOp rEq (tDGet1 (tFld K (tVar 4) "writers") (tVar 6)) (tVar 1)) rfl sc.nd (pi_list (pe_fld (pv 4) rfl)) (blkOk_by (own := [("item", 6)]) (N := nKinds) (sc := defScope sKinds) (by decide +kernel))
          (fun _ _ _ _ _ => (pg_name (i := 6) sc.nd rfl (Or.inl rfl))) (fun _ _ _ _ _ => pts_nil) (fun _ _ _ _ _ => pe_cmpR op_eq (pe_dget1 hu (pe_fld (pv 4) rfl) (pv 6) ⟨rfl, rfl, rfl, rfl⟩) (pv 1) (nomark _))) pa_nil))) (pss_one (ps_expr (pe_bm PySem.F.plainAttrs_list PySem.F.slot_list_append PySem.F.type_list_append mt_append (pv 5) (pa_cons pe_str pa_nil)))) pss_nil)
      (Evl.pss_cut (ps_if (PW.pt (pw_and (pt_cmpR op_ge (pe_bm PySem.F.plainAttrs_list PySem.F.slot_list_index PySem.F.type_list_index mt_index (pe_fld (pv 0) rfl) (pa_cons (pv 2) pa_nil)) (pe_fld (pv 3) rfl) (nomark _)) (pw_and1 (pt_val (pe_callB (cr_any rfl) (by rfl) T.any (by decide +kernel) (pa_cons (pe_lc (own := [("item", 6)]) (g := gName 6) (tt := tYes) (te := tDIn (tVar 6) (tFld K (tVar 4) "writes")) rfl sc.nd (pi_list (pe_fld (pv 3) rfl)) (blkOk_by (own := [("item", 6)]) (N := nKinds) (sc := defScope sKinds) (by decide +kernel))
          (fun _ _ _ _ _ => (pg_name (i := 6) sc.nd rfl (Or.inl rfl))) (fun _ _ _ _ _ => pts_nil) (fun _ _ _ _ _ => pe_cmp (pc_din hu (pv 6) (pe_fld (pv 4) rfl)))) pa_nil)))))) (pss_one (ps_expr (pe_bm PySem.F.plainAttrs_list PySem.F.slot_list_append PySem.F.type_list_append mt_append (pv 5) (pa_cons pe_str pa_nil)))) pss_nil)
      (pss_one (ps_ret (pv 5)))))))), ?_⟩
    have O := hR.own
    refine ⟨_, rfl, L.p, CR, L.dp, rFs L, _, rfl, O.has .p trivial, TR.cl, TR.nSn, rfl, _, rfl, L.sn, _, rfl, by have := dget_r t (O.has .sn trivial); rw [if_pos htK] at this; exact this, ?_⟩
    refine ⟨_, rfl, L.p, CR, L.dp, rFs L, _, rfl, O.has .p trivial, TR.cl, TR.nSn, rfl, _, rfl, L.sn, _, rfl, by have := dget_r u (O.has .sn trivial); rw [if_pos huK] at this; exact this, ?_⟩
    refine ⟨Nat.zero_le _, fun p hp => ?_⟩
    have s0 : Same H (upd H p (.lst [])) := (Same.refl _).new hp
    let σ0 : St := [some (.ref L.p), some (.int t), some (.int u), some (.ref (L.x t)), some (.ref (L.x u)), some (.ref p), none]
    let Md : List Kd → St → Hp → Prop := fun ks σ H' => σ = σ0 ∧ Same H H' ∧ H' p = some (.lst (ks.map fun k => V.str (kdS k)))
    have grows : ∀ {H' : Hp}, Same H H' → RunL K CR CS H0 H' L evs R := fun s => hR.grow s
    have add : ∀ {ks : List Kd} {k : Kd} {H' : Hp}, Same H H' → Md (ks ++ [k]) σ0 (upd H' p (.lst (ks.map (fun k => V.str (kdS k)) ++ [V.str (kdS k)]))) := fun s => ⟨rfl, s.mut hp, by rw [upd_same, List.map_append] <;> rfl⟩
    -- write
    refine ⟨Md (if hasW R t u then [.write] else []), ?_, ?_⟩
    · have s1 := s0
      have hp1 : (upd H p (.lst [])) p = some (.lst []) := upd_same
      generalize upd H p (.lst []) = H1 at s1 hp1 ⊢
      have R1 := grows s1
      have hws : H1 (L.ws t) = some (.dK (encK (R.snap t).writes)) := R1.own.has (.ws t) htK
      refine ⟨L.ws t, _, hws, trivial, fun od => ?_⟩
      have OL := R1.own.put2 (r := .ws t) htK rfl (.frz od (.dK (encK (R.snap t).writes)))
      have hme : (upd H1 (L.ws t) (.frz od (.dK (encK (R.snap t).writes)))) (L.ws t) = some (.frz od (.dK (encK (R.snap t).writes))) := upd_same
      have hmine : (upd H1 (L.ws t) (.frz od (.dK (encK (R.snap t).writes)))) (L.ws u) = some (.dK (encK (R.snap u).writes)) := by
        have h := OL.has (.ws u) huK
        rw [setR_ne _ _ (by intro e; cases e; exact hne rfl)] at h
        exact h
      refine ⟨_, rfl, L.x t, CS, L.dx t, _, _, rfl, OL.has (.x t) htK, TR.cs, TR.mWs, rfl, L.ws t, od, rfl, .inl ⟨_, hme, fun D hD => ?_⟩⟩
      refine lc_flat (R.snap t).writes (fun y => some (.bl (get (R.snap u).writes y.1).isSome)) (by have := hz.ws t htK; omega) hD (itk_go hme (encK_len _)) (itk_stop hme (encK_len _)) ?_ ?_
      · rintro i y H2 x H3 hy s2 hyl Yes No hyes hno
        obtain ⟨rfl, k, v, hk, rfl⟩ := hyl
        obtain ⟨x', n', hx', rfl, rfl⟩ := encK_at hk
        rw [hy] at hx'
        cases hx'
        refine ⟨rfl, _, rfl, _, rfl, L.x u, CS, L.dx u, _, _, rfl, s2 _ _ (OL.has (.x u) huK), TR.cs, TR.mWs, rfl, L.ws u, _, rfl, dget_s _ (s2 _ _ hmine), ?_⟩
        rw [Option.isSome_map]
        exact hyes _ _ rfl (Same.refl _)
      · intro H2 s2 hD2
        rw [any_bls] at hD2
        have s3 : Same H1 (upd H2 (L.ws t) (.dK (encK (R.snap t).writes))) := same_unlock hws s2
        have hDne : D ≠ L.ws t := fun e => by rw [e, hme] at hD; cases hD
        refine ⟨s2 _ _ hme, ?_⟩
        have hD3 : (upd H2 (L.ws t) (.dK (encK (R.snap t).writes))) D = some (.lst (((R.snap t).writes.map fun y => (get (R.snap u).writes y.1).isSome).map V.bl)) := by rw [upd_ne hDne]; exact hD2
        generalize upd H2 (L.ws t) (.dK (encK (R.snap t).writes)) = H3 at s3 hD3
        refine ⟨D, _, rfl, SqL.of hD3, _, rfl, ?_⟩
        have R3 := R1.grow s3
        have ea : (((R.snap t).writes.map fun y => (get (R.snap u).writes y.1).isSome).any id) = (R.snap t).writes.any fun p => (get (R.snap u).writes p.1).isSome := by rw [List.any_map] <;> rfl
        rw [ea]
        have eW : hasW R t u = ((R.snap t).writes.any (fun p => (get (R.snap u).writes p.1).isSome) && decide (R.commits.idxOf t < R.commits.idxOf u)) := rfl
        cases hc : (R.snap t).writes.any fun p => (get (R.snap u).writes p.1).isSome with
        | false =>
          rw [hc] at eW
          rw [eW]
          exact ⟨rfl, s1.trans s3, s3 _ _ hp1⟩
        | true =>
          rw [hc] at eW
          have hcm := R3.own.has .cm trivial
          refine ⟨_, rfl, L.p, CR, L.dp, rFs L, _, rfl, R3.own.has .p trivial, TR.cl, TR.nCm, rfl, .inl ⟨rfl, _, SqL.of hcm⟩, _, rfl, ?_⟩
          refine ⟨L.cm, _, .int t, _, .int t, rfl, rfl, SqL.of hcm, rfl, flat_ints _, map_at (idx_at htC), idx_self _, idx_no, ?_⟩
          refine ⟨_, rfl, L.p, CR, L.dp, rFs L, _, rfl, R3.own.has .p trivial, TR.cl, TR.nCm, rfl, .inl ⟨rfl, _, SqL.of hcm⟩, _, rfl, ?_⟩
          refine ⟨L.cm, _, .int u, _, .int u, rfl, rfl, SqL.of hcm, rfl, flat_ints _, map_at (idx_at huC), idx_self _, idx_no, ?_⟩
          refine ⟨_, _, rfl, rfl, _, rfl, ?_⟩
          by_cases hlt : R.commits.idxOf t < R.commits.idxOf u
          · rw [decide_eq_true (show ((R.commits.idxOf t : Nat) : Int) < ((R.commits.idxOf u : Nat) : Int) by omega)]
            rw [decide_eq_true hlt] at eW
            rw [eW]
            refine iteT ?_
            refine ⟨_, rfl, .inl ⟨rfl, _, SqL.of (s3 _ _ hp1)⟩, p, _, _, rfl, rfl, s3 _ _ hp1, small1000 (by show 0 ≤ 1000; omega), ?_⟩
            exact add (ks := []) (k := .write) (s1.trans s3)
          · rw [decide_eq_false (show ¬ ((R.commits.idxOf t : Nat) : Int) < ((R.commits.idxOf u : Nat) : Int) by omega)]
            rw [decide_eq_false hlt] at eW
            rw [eW]
            exact iteF ⟨rfl, s1.trans s3, s3 _ _ hp1⟩
    rintro _ H1 ⟨rfl, s1, hp1⟩
    generalize hk1 : (if hasW R t u then [Kd.write] else []) = k1 at hp1
    have lk1 : k1.length ≤ 1 := by
      rw [← hk1]
      split <;> simp
    -- read
    refine ⟨Md (k1 ++ if hasR R t u then [.read] else []), ?_, ?_⟩
    · have R1 := grows s1
      have hse : H1 (L.se u) = some (.lst ((R.snap u).seen.map V.str)) := R1.own.has (.se u) huK
      have hsw : H1 (L.sw u) = some (.dK (encK (R.snap u).writers)) := R1.own.has (.sw u) huK
      refine ⟨_, rfl, L.x u, CS, L.dx u, _, _, rfl, R1.own.has (.x u) huK, TR.cs, TR.mSe, rfl, L.se u, rfl, ⟨_, SqL.of hse⟩, fun D hD => ?_⟩
      refine lc_flat (R.snap u).seen (fun y => some (.bl (decide (get (R.snap u).writers y = some t)))) (by have := hz.se u huK; omega) hD (itl_go (SqL.of hse) (by simp)) (itl_stop (SqL.of hse) (by simp)) ?_ ?_
      · rintro i y H2 x H3 hy s2 hyl Yes No hyes hno
        obtain ⟨rfl, hx⟩ := itl_yld (SqL.of hse) s2 hyl
        rw [map_at hy] at hx
        cases hx
        refine ⟨rfl, _, rfl, L.x u, CS, L.dx u, _, _, rfl, s2 _ _ (R1.own.has (.x u) huK), TR.cs, TR.mWr, rfl, L.sw u, rfl, isD_of (s2 _ _ hsw), _, rfl, _, dget_s _ (s2 _ _ hsw), _, rfl, ?_⟩
        cases hg : get (R.snap u).writers y with
        | none => exact ⟨rfl, hyes _ _ (by rw [hg] <;> rfl) (Same.refl _)⟩
        | some z =>
          refine ⟨rfl, hyes _ _ ?_ (Same.refl _)⟩
          rw [hg]
          show some (V.bl (decide (some z = some t))) = some (V.bl (decide (V.int z = V.int t)))
          by_cases hzt : z = t
          · subst hzt; simp
          · rw [decide_eq_false (fun e => hzt (by injection e)), decide_eq_false (fun e => hzt (by injection e))]
      · intro H2 s2 hD2
        rw [any_bls] at hD2
        refine ⟨D, _, rfl, SqL.of hD2, _, rfl, ?_⟩
        have ea : (((R.snap u).seen.map fun y => decide (get (R.snap u).writers y = some t)).any id) = hasR R t u := by rw [List.any_map] <;> rfl
        rw [ea]
        cases hc : hasR R t u with
        | false => exact ⟨rfl, s1.trans s2, by have := s2 _ _ hp1; simpa using this⟩
        | true =>
          refine iteT ?_
          refine ⟨_, rfl, .inl ⟨rfl, _, SqL.of (s2 _ _ hp1)⟩, p, _, _, rfl, rfl, s2 _ _ hp1, small1000 (by rw [List.length_map]; omega), ?_⟩
          exact add (k := .read) (s1.trans s2)
    rintro _ H2 ⟨rfl, s2, hp2⟩
    generalize hk2 : (k1 ++ if hasR R t u then [Kd.read] else []) = k2 at hp2
    have lk2 : k2.length ≤ 2 := by
      rw [← hk2]
      split <;> simp <;> omega
    -- miss
    refine ⟨Md (k2 ++ if hasM R t u then [.miss] else []), ?_, ?_⟩
    · have R1 := grows s2
      have hcm := R1.own.has .cm trivial
      have hse : H2 (L.se t) = some (.lst ((R.snap t).seen.map V.str)) := R1.own.has (.se t) htK
      have hws : H2 (L.ws u) = some (.dK (encK (R.snap u).writes)) := R1.own.has (.ws u) huK
      refine ⟨_, rfl, L.p, CR, L.dp, rFs L, _, rfl, R1.own.has .p trivial, TR.cl, TR.nCm, rfl, .inl ⟨rfl, _, SqL.of hcm⟩, _, rfl, ?_⟩
      refine ⟨L.cm, _, .int u, _, .int u, rfl, rfl, SqL.of hcm, rfl, flat_ints _, map_at (idx_at huC), idx_self _, idx_no, ?_⟩
      refine ⟨_, rfl, L.x t, CS, L.dx t, _, _, rfl, R1.own.has (.x t) htK, TR.cs, TR.mMo, rfl, _, _, rfl, rfl, _, rfl, ?_⟩
      have eM : hasM R t u = (decide ((R.snap t).moment ≤ R.commits.idxOf u) && (R.snap t).seen.any fun x => (get (R.snap u).writes x).isSome) := rfl
      by_cases hle : (R.snap t).moment ≤ R.commits.idxOf u
      · rw [decide_eq_true (show ((R.commits.idxOf u : Nat) : Int) ≥ (((R.snap t).moment : Nat) : Int) by omega)]
        rw [decide_eq_true hle] at eM
        refine iteT ?_
        refine ⟨_, rfl, L.x t, CS, L.dx t, _, _, rfl, R1.own.has (.x t) htK, TR.cs, TR.mSe, rfl, L.se t, rfl, ⟨_, SqL.of hse⟩, fun D hD => ?_⟩
        refine lc_flat (R.snap t).seen (fun y => some (.bl (get (R.snap u).writes y).isSome)) (by have := hz.se t htK; omega) hD (itl_go (SqL.of hse) (by simp)) (itl_stop (SqL.of hse) (by simp)) ?_ ?_
        · rintro i y H3 x H4 hy s3 hyl Yes No hyes hno
          obtain ⟨rfl, hx⟩ := itl_yld (SqL.of hse) s3 hyl
          rw [map_at hy] at hx
          cases hx
          refine ⟨rfl, _, rfl, _, rfl, L.x u, CS, L.dx u, _, _, rfl, s3 _ _ (R1.own.has (.x u) huK), TR.cs, TR.mWs, rfl, L.ws u, _, rfl, dget_s _ (s3 _ _ hws), ?_⟩
          rw [Option.isSome_map]
          exact hyes _ _ rfl (Same.refl _)
        · intro H3 s3 hD2
          rw [any_bls] at hD2
          refine ⟨D, _, rfl, SqL.of hD2, _, rfl, ?_⟩
          have ea : (((R.snap t).seen.map fun y => (get (R.snap u).writes y).isSome).any id) = hasM R t u := by rw [eM, List.any_map] <;> rfl
          rw [ea]
          cases hc : hasM R t u with
          | false => exact ⟨rfl, s2.trans s3, by have := s3 _ _ hp2; simpa using this⟩
          | true =>
            refine iteT ?_
            refine ⟨_, rfl, .inl ⟨rfl, _, SqL.of (s3 _ _ hp2)⟩, p, _, _, rfl, rfl, s3 _ _ hp2, small1000 (by rw [List.length_map]; omega), ?_⟩
            exact add (k := .miss) (s2.trans s3)
      · rw [decide_eq_false (show ¬ ((R.commits.idxOf u : Nat) : Int) ≥ (((R.snap t).moment : Nat) : Int) by omega)]
        rw [decide_eq_false hle] at eM
        rw [eM]
        exact iteF ⟨rfl, s2, by simpa using hp2⟩
    rintro _ H3 ⟨rfl, s3, hp3⟩
    refine ⟨_, rfl, ?_⟩
    refine q p H3 s3 (SqL.of ?_)
    rw [hp3, ← hk2, ← hk1]
    rfl
end
end Ok
namespace Ok
open PySem L2
section
variable {ι : Type} [DecidableEq ι]
theorem flatm_len {α β : Type} (f : α → List β) (n : Nat) (h : ∀ x, (f x).length ≤ n) : ∀ l : List α, (l.flatMap f).length ≤ n * l.length
  | [] => by simp
  | a :: r => by
    have h1 := h a
    have h2 := flatm_len f n h r
    rw [List.flatMap_cons, List.length_append, List.length_cons, Nat.mul_add]
    omega
theorem kinds_len (R : Run ι) (t u : Int) : (kinds R t u).length ≤ 3 := by
  unfold kinds
  split <;> split <;> split <;> simp
theorem depsAt_len (R : Run ι) (t u : Int) : (depsAt R t u).length ≤ 3 := by
  unfold depsAt
  split
  · simp
  · rw [List.length_map]
    exact kinds_len R t u
theorem take_flat {α β : Type} {f : α → List β} {l : List α} {i : Nat} {x : α} (h : l[i]? = some x) : (l.take (i + 1)).flatMap f = (l.take i).flatMap f ++ f x := by
  rw [take_snoc h, List.flatMap_append]
  simp
theorem take_flatm_len {α β : Type} (f : α → List β) (n : Nat) (h : ∀ x, (f x).length ≤ n) (l : List α) (i : Nat) : ((l.take i).flatMap f).length ≤ n * l.length := by
  refine Nat.le_trans (flatm_len f n h _) (Nat.mul_le_mul_left n ?_)
  rw [List.length_take]
  exact Nat.min_le_right _ _
theorem deps_len {R : Run ι} (h : R.commits.length ≤ 5) : (deps R).length ≤ 75 := by
  have h1 := flatm_len (fun t => R.commits.flatMap fun u => depsAt R t u) 15 (fun t => by
    have := flatm_len (fun u => depsAt R t u) 3 (depsAt_len R t) R.commits
    omega) R.commits
  unfold deps
  omega
end
theorem TupsAt.join {K : PySem.W.Frag} {H : Hp} {as bs : List Addr} {xs ys : List (List V)} (h1 : TupsAt K H as xs) (h2 : TupsAt K H bs ys) : TupsAt K H (as ++ bs) (xs ++ ys) := by
  refine ⟨by rw [List.length_append, List.length_append, h1.1, h2.1], fun i b r e1 e2 => ?_⟩
  by_cases hi : i < as.length
  · rw [List.getElem?_append_left hi] at e1
    rw [List.getElem?_append_left (by rw [← h1.1]; exact hi)] at e2
    exact h1.2 i b r e1 e2
  · rw [List.getElem?_append_right (by omega)] at e1
    rw [List.getElem?_append_right (by rw [← h1.1]; omega), ← h1.1] at e2
    exact h2.2 _ b r e1 e2
section
variable {P : Program} {w : World} {K : PySem.W.Frag} {mg : Str → Option Value} {base : Heap}
def spDeps (K : PySem.W.Frag) : Sp := fun vs H Q _ => ∃ (a b : Addr) (ss : List (List (Step Str))) (ws : List Int), vs = [.ref a, .ref b] ∧ SsAt K H a ss ∧ SsOk ss ∧ SqL K H b (ws.map V.int) ∧ ws.length ≤ 30 ∧
  ∀ (p : Addr) (ds : List (Int × Int × Kd)) (H' : Hp), ds.Perm (deps (finR ss ws)) → ds.length ≤ 75 → Same H H' → RowsAt K H' p (ds.map encD) → Q (.ref p) H'
abbrev nDeps : List Str := ["scripts", "weaving", "run", "found", "t", "u", "kind"]
theorem scDeps : FnScope nDeps ["scripts", "weaving"] (defScope sDeps) := ⟨rfl, rfl, rfl, by decide +kernel, rfl, by decide +kernel, by decide +kernel⟩
theorem ok_deps {f fK fF CR CS : Addr} {fd fdK fdF : FuncData} (F : Fun K "dependencies" "dependencies" sDeps f fd) (T : Glb mg) (TR : TxtR K mg CR CS) (M : Meths K mg CR CS)
    (FK : Fun K "kinds_between" "kinds_between" sKinds fK fdK) (bK : Binds K fdK ["run", "t", "u"] []) (mK : mg "kinds_between" = some (.ref fK))
    (FF : Fun K "finished_run" "finished_run" sFin fF fdF) (bF : Binds K fdF ["scripts", "weaving"] []) (mF : mg "finished_run" = some (.ref fF)) :
    FnOk P w K mg base CX0 7 f fd ["scripts", "weaving"] (spDeps K) := by
  have GK : FnOk P w K mg base CX0 1 fK fdK ["run", "t", "u"] (spKinds K CR CS) := ok_kinds FK T TR
  have GF : FnOk P w K mg base CX0 6 fF fdF ["scripts", "weaving"] (spFin K CR CS) := ok_fin FF T TR M
  have sc := scDeps
  refine F.ok scDeps (fun vs H Q E h => ?_) (fun cdv A outer s H vs Q E hr h => ?_)
  · obtain ⟨a, b, ss, ws, rfl, _⟩ := h
    rfl
  · obtain ⟨a, b, ss, ws, rfl, hS, hok, hb, hw30, q⟩ := h
    have hr1 : Room 1 _ := hr.mono (by decide)
    have hu65 := hu65_of hr
    refine ⟨_, (pss_cons (ps_set (i := 2) sc.nd rfl (Or.inl rfl) (pe_call GF hr (by rfl) mF FF.kp bF .nil pass0 (pa_cons (pv 0) (pa_cons (pv 1) pa_nil)))) (pss_cons (ps_set (i := 3) sc.nd rfl (Or.inl rfl) (pe_lst pa_nil)) (pss_cons (ps_for PassesOwn.never rfl (pi_list (pe_fld (pv 2) rfl)) (pg_name (i := 4) sc.nd rfl (Or.inr rfl)) (pss_one (ps_for PassesOwn.never rfl (pi_list (pe_fld (pv 2) rfl)) (pg_name (i := 5) sc.nd rfl (Or.inr rfl)) (pss_one (ps_if (pt_cmpR op_ne (pv 4) (pv 5) (nomark _)) (pss_one (ps_expr (pe_bm PySem.F.plainAttrs_list PySem.F.slot_list_extend PySem.F.type_list_extend mt_extend (pv 3) (pa_cons (pe_lc (own := [("kind", 6)]) (g := gName 6) (tt := tYes) rfl sc.nd (pi_list (pe_call GK hr1 (by rfl) mK FK.kp bK .nil pass0 (pa_cons (pv 2) (pa_cons (pv 4) (pa_cons (pv 5) pa_nil))))) (blkOk_by (own := [("kind", 6)]) (N := nDeps) (sc := defScope sDeps) (by decide +kernel))
          (fun _ _ _ _ _ => (pg_name (i := 6) sc.nd rfl (Or.inl rfl))) (fun _ _ _ _ _ => pts_nil) (fun _ _ _ _ _ => (pe_tup (pa_cons (pv 4) (pa_cons (pv 5) (pa_cons (pv 6) pa_nil)))))) pa_nil)))) pss_nil))))) (pss_one (ps_ret (pe_callB (cr_sortD hu65) (by rfl) T.sorted (by decide +kernel) (pa_cons (pv 3) pa_nil))))))), ?_⟩
    refine ⟨_, rfl, _, rfl, a, b, ss, ws, rfl, hS, hok, hb, hw30, fun L evs H1 hR hev => ?_⟩
    have I := fin_inv (ss := ss) ws
    generalize finR ss ws = R at *
    have hz := rsz_of I hok (by omega)
    have hCK : ∀ x ∈ R.commits, x ∈ R.keys := fun x hx => I.OK x (I.CO x hx)
    have c5 := hz.cm
    refine ⟨Nat.zero_le _, fun fo hfo => ?_⟩
    have hcm1 : H1 L.cm = some (.lst (R.commits.map V.int)) := hR.own.has .cm trivial
    let Row : Int → List (Int × Int × Kd) := fun t => R.commits.flatMap fun u => depsAt R t u
    have hRow : ∀ t, (Row t).length ≤ 15 := fun t => by
      have := flatm_len (fun u => depsAt R t u) 3 (depsAt_len R t) R.commits
      show (R.commits.flatMap fun u => depsAt R t u).length ≤ 15
      omega
    refine ⟨_, rfl, L.p, CR, L.dp, rFs L, _, rfl, ((Same.refl _).new hfo) _ _ (hR.own.has .p trivial), TR.cl, TR.nCm, rfl, L.cm, rfl, ⟨_, SqL.of (((Same.refl _).new hfo) _ _ hcm1)⟩, for_list (K := K) (a := L.cm) (xs := R.commits.map V.int) (fun i σ H2 => ∃ (v4 v5 : Option V) (as : List Addr), σ = [some (.ref a), some (.ref b), some (.ref L.p), some (.ref fo), v4, v5, none] ∧ Same H1 H2 ∧ H2 fo = some (.lst (as.map V.ref)) ∧ TupsAt K H2 as (((R.commits.take i).flatMap Row).map encD))
      ⟨none, none, [], rfl, (Same.refl _).new hfo, upd_same, TupsAt.nil⟩ (fun i σ H2 _ ⟨_, _, _, _, s2, _⟩ => s2.seq (SqL.of hcm1)) ?_ ?_⟩
    · rintro i y σ H2 hi ⟨v4, v5, as, rfl, s2, hf2, hT2⟩
      obtain ⟨t, ht, rfl⟩ := map_get hi
      have htC : t ∈ R.commits := List.mem_of_getElem? ht
      have lo := take_flatm_len Row 15 hRow R.commits i
      refine ⟨_, rfl, L.p, CR, L.dp, rFs L, _, rfl, s2 _ _ (hR.own.has .p trivial), TR.cl, TR.nCm, rfl, L.cm, rfl, ⟨_, s2.seq (SqL.of hcm1)⟩, for_list (K := K) (a := L.cm) (xs := R.commits.map V.int) (fun j σ H3 => ∃ (v5 : Option V) (as : List Addr), σ = [some (.ref a), some (.ref b), some (.ref L.p), some (.ref fo), some (.int t), v5, none] ∧ Same H1 H3 ∧ H3 fo = some (.lst (as.map V.ref)) ∧ TupsAt K H3 as (((R.commits.take i).flatMap Row ++ (R.commits.take j).flatMap fun u => depsAt R t u).map encD))
        ⟨v5, as, rfl, s2, hf2, by simpa using hT2⟩ (fun i σ H3 _ ⟨_, _, _, s3, _⟩ => s3.seq (SqL.of hcm1)) ?_ ?_⟩
      · rintro j y σ H3 hj ⟨v5', as3, rfl, s3, hf3, hT3⟩
        obtain ⟨u, hu', rfl⟩ := map_get hj
        have huC : u ∈ R.commits := List.mem_of_getElem? hu'
        have eN := take_flat (f := fun u => depsAt R t u) hu'
        refine ⟨_, rfl, _, rfl, rfl, _, rfl, ?_⟩
        by_cases hne : t = u
        · rw [decide_eq_true (show V.int t = V.int u by rw [hne])]
          refine iteF ?_
          refine ⟨_, as3, rfl, s3, hf3, ?_⟩
          have e0 : depsAt R t u = [] := by unfold depsAt; rw [if_pos hne]
          rw [eN, e0, List.append_nil]
          exact hT3
        · rw [decide_eq_false (show ¬ V.int t = V.int u from fun e => hne (by injection e))]
          refine iteT ?_
          refine ⟨_, rfl, .inl ⟨rfl, _, SqL.of hf3⟩, ?_⟩
          refine ⟨_, rfl, _, rfl, _, rfl, H, L, evs, R, t, u, rfl, hR.grow s3, hne, htC, huC, hCK, hz, fun kp H4 s4 hk => ?_⟩
          refine ⟨kp, rfl, ⟨_, hk⟩, fun D hD => ?_⟩
          refine lc_tups (K := K) (kinds R t u) (fun k => some (encD (t, u, k))) (by have := kinds_len R t u; omega) hD (itl_go hk (by simp)) (itl_stop hk (by simp)) ?_ ?_
          · rintro m y H5 x H6 hy s5 hyl Yes No hyes hno
            obtain ⟨rfl, hx⟩ := itl_yld hk s5 hyl
            rw [map_at hy] at hx
            cases hx
            refine ⟨rfl, _, rfl, _, rfl, _, rfl, (by show 3 ≤ sizeLine; rw [sizeLine_eq]; omega), fun bb hbb => ?_⟩
            exact hyes _ bb _ rfl upd_same ((Same.refl _).new hbb)
          · intro H5 bs s5 hD5 hT5
            have s35 := s4.trans s5
            have hf5 := s35 _ _ hf3
            have eD : (kinds R t u).filterMap (fun k => some (encD (t, u, k))) = (depsAt R t u).map encD := by
              unfold depsAt
              rw [if_neg hne, List.map_map]
              clear hT5 eN
              induction kinds R t u with
              | nil => rfl
              | cons k r ih => rw [List.filterMap_cons, ih]; rfl
            rw [eD] at hT5
            have la : as3.length ≤ 90 := by
              have := hT3.1
              rw [List.length_map, List.length_append] at this
              have l2 := take_flatm_len (fun u => depsAt R t u) 3 (depsAt_len R t) R.commits j
              omega
            have lb : bs.length ≤ 3 := by
              have := hT5.1
              rw [List.length_map] at this
              have := depsAt_len R t u
              omega
            refine ⟨fo, D, as3.map V.ref, bs.map V.ref, rfl, rfl, hf5, hD5, by rw [List.length_map, List.length_map, sizeLine_eq]; omega, ?_⟩
            refine ⟨_, as3 ++ bs, rfl, (s3.trans s35).mut hfo, by rw [upd_same, List.map_append], ?_⟩
            rw [eN, ← List.append_assoc, List.map_append]
            exact ((hT3.same s35).join hT5).upd (mut_lst hf5)
      · rintro σ H3 ⟨v5', as3, rfl, s3, hf3, hT3⟩
        rw [List.length_map, List.take_length] at hT3
        exact ⟨_, _, as3, rfl, s3, hf3, by rw [take_flat ht]; exact hT3⟩
    · rintro σ H2 ⟨v4, v5, as, rfl, s2, hf2, hT2⟩
      rw [List.length_map, List.take_length] at hT2
      have hT2' : TupsAt K H2 as ((deps R).map encD) := hT2
      have ld := deps_len (R := R) c5
      refine ⟨_, rfl, fo, as, deps R, rfl, SqL.of hf2, hT2', by rw [hT2'.1, List.length_map]; omega, fun ys p hp hp0 => ?_⟩
      obtain ⟨as', ds, rfl, pp, hT'⟩ := rows_perm (items := deps R) (enc := encD) hT2' hp
      have s3 : Same H2 (upd H2 p (.lst (as'.map V.ref))) := (Same.refl _).new hp0
      exact q p ds _ pp (by rw [pp.length_eq]; exact ld) ((hR.own.same.trans s2).trans s3) ⟨as', SqL.of upd_same, hT'.same s3⟩
end
end Ok
namespace Ok
open PySem L2
theorem five_pairs {k : List Int} {x y : Int} (e : k = [x, y]) (hx : 1 ≤ x ∧ x ≤ 5) (hy : 1 ≤ y ∧ y ≤ 5) : k ∈ (([1, 2, 3, 4, 5] : List Int).flatMap fun a => ([1, 2, 3, 4, 5] : List Int).map fun b => [a, b]) := by
  have f : ∀ z : Int, 1 ≤ z ∧ z ≤ 5 → z ∈ ([1, 2, 3, 4, 5] : List Int) := fun z h => by
    have : z = 1 ∨ z = 2 ∨ z = 3 ∨ z = 4 ∨ z = 5 := by omega
    rcases this with rfl | rfl | rfl | rfl | rfl <;> simp
  exact List.mem_flatMap.mpr ⟨x, f x hx, List.mem_map.mpr ⟨y, f y hy, e.symm⟩⟩
theorem prs_ok {ss : List (List (Step Str))} {R : Run Str} (I : RInv ss R) (h : SsOk ss) : PrsOk (prs R) := fun p hp => by
  obtain ⟨h1, h2, h3⟩ := prs_in (t := p.1) (u := p.2) hp
  have a1 := I.KN _ (I.OK _ (I.CO _ h1))
  have a2 := I.KN _ (I.OK _ (I.CO _ h2))
  have := h.few
  exact ⟨by omega, by omega, h3⟩
section
variable {P : Program} {w : World} {K : PySem.W.Frag} {mg : Str → Option Value} {base : Heap}
def spSkew (K : PySem.W.Frag) : Sp := fun vs H Q _ => ∃ (a b : Addr) (ss : List (List (Step Str))) (ws : List Int), vs = [.ref a, .ref b] ∧ SsAt K H a ss ∧ SsOk ss ∧ SqL K H b (ws.map V.int) ∧ ws.length ≤ 30 ∧
  (∀ H' : Hp, Same H H' → (∀ a l, ¬ RingF (prs (finR ss ws)) a l) → Q .non H') ∧
  ∀ (a : Int) (l : List Int) (p : Addr) (H' : Hp), RingF (prs (finR ss ws)) a l → Same H H' → SqL K H' p ((a :: l).map V.int) → Q (.ref p) H'
abbrev nSkew : List Str := ["scripts", "weaving", "t", "u", "kind"]
theorem scSkew : FnScope nSkew ["scripts", "weaving"] (defScope sSkew) := ⟨rfl, rfl, rfl, by decide +kernel, rfl, by decide +kernel, by decide +kernel⟩
theorem ok_skew {f fR fD : Addr} {fd fdR fdD : FuncData} (F : Fun K "skew" "skew" sSkew f fd) (T : Glb mg)
    (GR : FnOk P w K mg base CX0 7 fR fdR ["pairs"] (spRingIn K)) (kR : PySem.W.keepIn K (.ref fR) = true) (bR : Binds K fdR ["pairs"] []) (mR : mg "ring_in" = some (.ref fR))
    (GD : FnOk P w K mg base CX0 7 fD fdD ["scripts", "weaving"] (spDeps K)) (kD : PySem.W.keepIn K (.ref fD) = true) (bD : Binds K fdD ["scripts", "weaving"] []) (mD : mg "dependencies" = some (.ref fD)) :
    FnOk P w K mg base CX0 8 f fd ["scripts", "weaving"] (spSkew K) := by
  have sc := scSkew
  refine F.ok scSkew (fun vs H Q E h => ?_) (fun cdv A outer s H vs Q E hr h => ?_)
  · obtain ⟨a, b, ss, ws, rfl, _⟩ := h
    rfl
  · obtain ⟨a, b, ss, ws, rfl, hS, hok, hb, hw30, qN, qS⟩ := h
    have hu65 := hu65_of hr
    refine ⟨_, (pss_one (ps_ret (pe_call GR hr (by rfl) mR kR bR .nil pass0 (pa_cons (pe_callB (cr_sortedT rfl) (by rfl) T.sorted (by decide +kernel) (pa_cons
      (pe_st hu65 (own := [("t", 2), ("u", 3), ("kind", 4)]) (g := gTup K 3 (gCons (gName 2) (gCons (gName 3) (gCons (gName 4) gNil)))) (tt := tYes) (te := tTup (tCons (tVar 2) (tCons (tVar 3) tNil))) rfl sc.nd (pi_list (pe_call GD hr (by rfl) mD kD bD .nil pass0 (pa_cons (pv 0) (pa_cons (pv 1) pa_nil)))) (blkOk_by (own := [("t", 2), ("u", 3), ("kind", 4)]) (N := nSkew) (sc := defScope sSkew) (by decide +kernel))
        (fun _ _ _ _ _ => (pg_tup rfl (pgs_cons (pg_name (i := 2) sc.nd rfl (Or.inl rfl)) (pgs_cons (pg_name (i := 3) sc.nd rfl (Or.inl rfl)) (pgs_cons (pg_name (i := 4) sc.nd rfl (Or.inl rfl)) pgs_nil))))) (fun _ _ _ _ _ => pts_nil) (fun _ _ _ _ _ => (pe_tup (pa_cons (pv 2) (pa_cons (pv 3) pa_nil))))) pa_nil)) pa_nil)))), ?_⟩
    have I := fin_inv (ss := ss) ws
    have PO := prs_ok I hok
    refine ⟨_, rfl, _, rfl, a, b, ss, ws, rfl, hS, hok, hb, hw30, fun pd ds H1 hperm hds75 s1 ⟨das, hdl, hdt⟩ => ?_⟩
    generalize finR ss ws = R at *
    have hdlen : das.length = ds.length := by have := hdt.1; simpa using this
    have hdm : ∀ d ∈ ds, (d.1, d.2.1) ∈ prs R := fun d hd => List.mem_map.mpr ⟨d, hperm.mem_iff.mp hd, rfl⟩
    -- the set
    refine ⟨pd, rfl, ⟨_, hdl⟩, fun D hD => ?_⟩
    refine ⟨fun i m H2 => m = ds.length - i ∧ i ≤ ds.length ∧ Same H1 H2 ∧ ∃ Ls : List (Addr × List Int), H2 D = some (SetTO P w D Ls) ∧ (∀ p ∈ Ls, SqT K H2 p.1 (p.2.map V.int)) ∧ (∀ k, k ∈ Ls.map (·.2) ↔ ∃ d ∈ ds.take i, k = [d.1, d.2.1]) ∧ (Ls.map (·.2)).Nodup,
      ⟨ds.length, by simp, Nat.zero_le _, (Same.refl _).new hD, [], upd_same, (fun p h => nomatch h), fun k => by simp, List.nodup_nil⟩, ?_⟩
    rintro i m H2 ⟨rfl, hi, s2, Ls, hset, hLT, hLm, hLn⟩
    by_cases hlt : i < ds.length
    · have hy : ds[i]? = some ds[i] := List.getElem?_eq_getElem hlt
      refine .inr ⟨itl_go hdl (by rw [List.length_map]; exact hdlen) i H2 hlt s2, fun H' => i + 1 ≤ ds.length ∧ Same H1 H' ∧ ∃ Ls : List (Addr × List Int), H' D = some (SetTO P w D Ls) ∧ (∀ p ∈ Ls, SqT K H' p.1 (p.2.map V.int)) ∧ (∀ k, k ∈ Ls.map (·.2) ↔ ∃ d ∈ ds.take (i + 1), k = [d.1, d.2.1]) ∧ (Ls.map (·.2)).Nodup, fun H' ⟨n1, n2, n3⟩ => ⟨_, by omega, rfl, n1, n2, n3⟩, fun x H' hyl => ?_⟩
      obtain ⟨rfl, hx⟩ := itl_yld hdl s2 hyl
      generalize ds[i] = d at hy
      obtain ⟨bb, r, rfl, _, hr', hTb⟩ := hdt.at hx
      rw [map_at hy] at hr'
      cases hr'
      refine ⟨bb, _, rfl, s2.sqt hTb, rfl, _, _, rfl, _, _, rfl, _, _, rfl, rfl, rfl, ?_⟩
      refine ⟨_, rfl, _, rfl, (by show 2 ≤ sizeLine; rw [sizeLine_eq]; omega), fun c hc => ?_⟩
      have sc1 : Same H' (upd H' c (.tup [.int d.1, .int d.2.1])) := (Same.refl _).new hc
      have hL25 : Ls.length ≤ 25 := by
        have h1 := len_le (Ls.map (·.2)) (([1, 2, 3, 4, 5] : List Int).flatMap fun a => ([1, 2, 3, 4, 5] : List Int).map fun b => [a, b]) hLn fun k hk => by
          obtain ⟨e, he, rfl⟩ := (hLm k).mp hk
          have h2 := PO _ (hdm e (List.mem_of_mem_take he))
          exact five_pairs rfl h2.1 h2.2.1
        rw [List.length_map] at h1
        exact h1
      refine ⟨c, [d.1, d.2.1], Ls, rfl, SqT.of upd_same, sc1 _ _ hset, fun p hp => sc1.sqt (hLT p hp), by omega, fun L' c1 c2 => ?_⟩
      have mu : Mut ((upd H' c (.tup [.int d.1, .int d.2.1])) D) := by rw [sc1 _ _ hset]; trivial
      refine ⟨hlt, (s2.trans sc1).mut hD, L', upd_same, ?_, ?_, ?_⟩
      · intro p hp
        by_cases hm : [d.1, d.2.1] ∈ Ls.map (·.2)
        · rw [c1 hm] at hp
          exact sqt_upd mu (sc1.sqt (hLT p hp))
        · rcases List.mem_cons.mp ((c2 hm).mem_iff.mp hp) with e | e
          · subst e
            exact sqt_upd mu (SqT.of upd_same)
          · exact sqt_upd mu (sc1.sqt (hLT p e))
      · intro k
        have e1 : (∃ e ∈ ds.take (i + 1), k = [e.1, e.2.1]) ↔ (∃ e ∈ ds.take i, k = [e.1, e.2.1]) ∨ k = [d.1, d.2.1] := by
          rw [take_snoc hy]
          constructor
          · rintro ⟨e, he, rfl⟩
            rcases List.mem_append.mp he with h | h
            · exact .inl ⟨e, h, rfl⟩
            · rw [List.mem_singleton.mp h]; exact .inr rfl
          · rintro (⟨e, he, rfl⟩ | rfl)
            · exact ⟨e, List.mem_append_left _ he, rfl⟩
            · exact ⟨d, by simp, rfl⟩
        rw [e1, ← hLm k]
        by_cases hm : [d.1, d.2.1] ∈ Ls.map (·.2)
        · rw [c1 hm]
          constructor
          · exact .inl
          · rintro (h | rfl)
            · exact h
            · exact hm
        · rw [((c2 hm).map (·.2)).mem_iff, List.map_cons, List.mem_cons]
          exact Or.comm
      · by_cases hm : [d.1, d.2.1] ∈ Ls.map (·.2)
        · rw [c1 hm]; exact hLn
        · rw [((c2 hm).map (·.2)).nodup_iff, List.map_cons, List.nodup_cons]
          exact ⟨hm, hLn⟩
    · have e : i = ds.length := by omega
      subst e
      rw [List.take_length] at hLm
      refine .inl ⟨itl_stop hdl (by rw [List.length_map]; exact hdlen) H2 s2, ?_⟩
      have two : ∀ p ∈ Ls, ∃ x y : Int, p.2 = [x, y] ∧ (x, y) ∈ prs R := fun p hp => by
        obtain ⟨e, he, h⟩ := (hLm p.2).mp (List.mem_map.mpr ⟨p, hp, rfl⟩)
        exact ⟨_, _, h, hdm e he⟩
      refine ⟨D, Ls, 2, 64, rfl, hset, hLT, by decide, fun p hp => ?_, fun L' p hp hnd h64 _ hp0 => ?_⟩
      · obtain ⟨x, y, h, hxy⟩ := two p hp
        have h2 := PO _ hxy
        rw [h]
        refine ⟨rfl, fun n hn => ?_⟩
        rcases List.mem_cons.mp hn with e | e
        · rw [e]; have := h2.1; simp only at this; omega
        · have : n = y := by simpa using e
          rw [this]; have := h2.2.1; simp only at this; omega
      · have s3 : Same H2 (upd H2 p (.lst (L'.map fun q => V.ref q.1))) := (Same.refl _).new hp0
        have two' : ∀ q ∈ L', ∃ x y : Int, q.2 = [x, y] ∧ (x, y) ∈ prs R := fun q hq => two q (hp.mem_iff.mp hq)
        let pr : Addr × List Int → Int × Int := fun q => (q.2.getD 0 0, q.2.getD 1 0)
        have hpr : ∀ q ∈ L', pr q ∈ prs R ∧ q.2 = [(pr q).1, (pr q).2] := fun q hq => by
          obtain ⟨x, y, h, hxy⟩ := two' q hq
          have e1 : pr q = (x, y) := by
            show (q.2.getD 0 0, q.2.getD 1 0) = (x, y)
            rw [h] <;> rfl
          rw [e1]
          exact ⟨hxy, h⟩
        have hrows : RowsAt K (upd H2 p (.lst (L'.map fun q => V.ref q.1))) p ((L'.map pr).map encP) := by
          refine ⟨L'.map (·.1), SqL.of (by rw [upd_same, List.map_map] <;> rfl), by simp, fun j b r h1 h2 => ?_⟩
          obtain ⟨q, hq, rfl⟩ := map_get h1
          rw [map_at (map_at hq)] at h2
          cases h2
          have hqm := List.mem_of_getElem? hq
          have ht := hLT q (hp.mem_iff.mp hqm)
          rw [(hpr q hqm).2] at ht
          exact s3.sqt ht
        have hmem : ∀ x, x ∈ L'.map pr ↔ x ∈ prs R := fun x => by
          constructor
          · intro h
            obtain ⟨q, hq, rfl⟩ := List.mem_map.mp h
            exact (hpr q hq).1
          · intro h
            obtain ⟨e, he, rfl⟩ := List.mem_map.mp h
            obtain ⟨q, hq, h2⟩ := List.mem_map.mp ((hLm [e.1, e.2.1]).mpr ⟨e, hperm.mem_iff.mpr he, rfl⟩)
            refine List.mem_map.mpr ⟨q, hp.mem_iff.mpr hq, ?_⟩
            show (q.2.getD 0 0, q.2.getD 1 0) = _
            rw [h2] <;> rfl
        refine ⟨p, L'.map pr, rfl, hrows, by rw [List.length_map]; exact h64, fun x hx => PO x ((hmem x).mp hx), fun H3 s4 hno => ?_, fun a0 l0 p0 H3 hrg s4 hsq => ?_⟩
        · exact qN H3 ((s1.trans (s2.trans s3)).trans s4) fun a l hr => hno a l (hr.mono fun x hx => (hmem x).mpr hx)
        · exact qS a0 l0 p0 H3 (hrg.mono fun x hx => (hmem x).mp hx) ((s1.trans (s2.trans s3)).trans s4) hsq
end
end Ok
namespace Ok
open PySem L2
theorem chn_of {ps : List (Int × Int)} : ∀ {l : List Int}, (∀ (i : Nat) (x y : Int), l[i]? = some x → l[i + 1]? = some y → (x, y) ∈ ps) → Chn ps l
  | [], _ => trivial
  | [_], _ => trivial
  | a :: b :: r, h => ⟨h 0 a b rfl rfl, chn_of (l := b :: r) fun i x y h1 h2 => h (i + 1) x y h1 h2⟩
theorem chn_at {ps : List (Int × Int)} : ∀ {l : List Int} {i : Nat} {x y : Int}, Chn ps l → l[i]? = some x → l[i + 1]? = some y → (x, y) ∈ ps
  | [], i, x, y, _, h, _ => by simp at h
  | [a], i, x, y, _, _, h => by simp at h
  | a :: b :: r, 0, x, y, c, h1, h2 => by
    simp at h1 h2
    rw [← h1, ← h2]
    exact c.1
  | a :: b :: r, i + 1, x, y, c, h1, h2 => chn_at (l := b :: r) (i := i) c.2 h1 h2
def prevOf (rg : List Int) (i : Nat) : Option Int := if i = 0 then rg.getLast? else rg[i - 1]?
theorem ring_prev {ps : List (Int × Int)} {a : Int} {l : List Int} (r : Ring ps a l) {i : Nat} {x : Int} (h : (a :: l)[i]? = some x) : ∃ y, prevOf (a :: l) i = some y ∧ (y, x) ∈ ps := by
  unfold prevOf
  cases i with
  | zero =>
    obtain ⟨z, hz, hm⟩ := r.cl
    have e : a = x := by simpa using h
    subst e
    exact ⟨z, by rw [if_pos rfl]; exact hz, hm⟩
  | succ j =>
    have hl := (List.getElem?_eq_some_iff.mp h).1
    have hy : (a :: l)[j]? = some (a :: l)[j] := List.getElem?_eq_getElem (by omega)
    refine ⟨(a :: l)[j], by rw [if_neg (Nat.succ_ne_zero j)]; exact hy, chn_at r.ch hy h⟩
theorem ring_of_prev {ps : List (Int × Int)} {a : Int} {l : List Int} (nd : (a :: l).Nodup) (h : ∀ (i : Nat) (x : Int), (a :: l)[i]? = some x → ∃ y, prevOf (a :: l) i = some y ∧ (y, x) ∈ ps) : Ring ps a l := by
  refine ⟨chn_of fun i x y h1 h2 => ?_, nd, ?_⟩
  · obtain ⟨z, hz, hm⟩ := h (i + 1) y h2
    unfold prevOf at hz
    rw [if_neg (Nat.succ_ne_zero i), Nat.add_sub_cancel, h1] at hz
    cases hz
    exact hm
  · obtain ⟨z, hz, hm⟩ := h 0 a rfl
    unfold prevOf at hz
    rw [if_pos rfl] at hz
    exact ⟨z, hz, hm⟩
theorem at_prev {a : Int} {l : List Int} {i : Nat} {y : Int} (h : prevOf (a :: l) i = some y) : atI ((a :: l).map V.int) ((i : Int) - 1) = some (.int y) := by
  unfold prevOf at h
  cases i with
  | zero =>
    rw [if_pos rfl] at h
    exact at_m1 h
  | succ j =>
    rw [if_neg (Nat.succ_ne_zero j), Nat.add_sub_cancel] at h
    have e : (((j + 1 : Nat) : Int) - 1) = (j : Int) := by omega
    rw [e]
    exact atI_nat (map_at h)
section
variable {ι : Type} [DecidableEq ι] {ss : List (List (Step ι))} {R : Run ι}
/-- a ring has a missed one -/
theorem some_miss (I : RInv ss R) {a : Int} {l : List Int} (r : Ring (prs R) a l) (h : ∀ (i : Nat) (x y : Int), (a :: l)[i]? = some x → prevOf (a :: l) i = some y → (y, x, Kd.miss) ∉ deps R) : False := by
  classical
  have r2 : Ring ((prs R).filter fun p => decide ((p.1, p.2, Kd.miss) ∉ deps R)) a l := ring_of_prev r.nd fun i x hx => by
    obtain ⟨y, hy, hm⟩ := ring_prev r hx
    exact ⟨y, hy, List.mem_filter.mpr ⟨hm, decide_eq_true (h i x y hx hy)⟩⟩
  refine r2.no_rise (fun t => R.commits.idxOf t) fun x y hxy => ?_
  obtain ⟨h1, h2⟩ := List.mem_filter.mp hxy
  obtain ⟨k, hk⟩ := mem_prs.mp h1
  refine dep_lt I hk fun e => ?_
  subst e
  exact of_decide_eq_true h2 hk
end
theorem not_before {l : List Int} (nd : l.Nodup) {i : Nat} {y : Int} (h : l[i]? = some y) : y ∉ l.take i := by
  intro hm
  obtain ⟨j, hj⟩ := List.mem_iff_getElem?.mp hm
  have hjl := (List.getElem?_eq_some_iff.mp hj).1
  rw [List.length_take] at hjl
  rw [List.getElem?_take_of_lt (by omega)] at hj
  have h2 := (List.getElem?_eq_some_iff.mp hj)
  have := (List.getElem?_inj h2.1 nd).mp (hj.trans h.symm)
  omega
theorem sorted_ints : ∀ {l1 l2 : List Int}, l1.Perm l2 → l1.Pairwise (· ≤ ·) → l2.Pairwise (· ≤ ·) → l1 = l2 := fun p h1 h2 => by
  exact p.eq_of_pairwise (fun a b _ _ h h' => Int.le_antisymm h h') h1 h2
def isC : Ev Str → Option Int
  | .commit t => some t
  | _ => none
theorem evs_isC {ss : List (List (Step Str))} {R : Run Str} (I : RInv ss R) : R.events.filterMap isC = R.commits := by
  rw [← I.evs]
  congr 1
  funext e
  cases e <;> rfl
/-! ### the values told, as data -/
def enT (p : Str × Int) : PyData := .tuple [.str p.1, .int p.2]
theorem enT_depth (p : Str × Int) : (enT p).depth = 1 := by simp [enT, PyData.depth, PyData.depthAll]
theorem enT_plain (p : Str × Int) : (enT p).plain = true := by simp [enT, PyData.plain, PyData.plainAll]
theorem enTs_plain : ∀ ps : List (Str × Int), PyData.plainAll (ps.map enT) = true
  | [] => by simp [PyData.plainAll]
  | p :: r => by simp [PyData.plainAll, enT_plain p, enTs_plain r]
theorem enTs_depth : ∀ ps : List (Str × Int), PyData.depthAll (ps.map enT) ≤ 1
  | [] => by simp [PyData.depthAll]
  | p :: r => by
    have h1 := enTs_depth r
    have h2 := enT_depth p
    simp only [List.map_cons, PyData.depthAll]
    omega
theorem told_plain (ps : List (Str × Int)) : (PyData.list (ps.map enT)).plain = true := by simp only [PyData.plain]; exact enTs_plain ps
theorem told_depth (ps : List (Str × Int)) : (PyData.list (ps.map enT)).depth ≤ 60 := by
  have h1 := enTs_depth ps
  simp only [PyData.depth]
  omega
def rNeW (K : PySem.W.Frag) : R2 := fun x y H Q => ∃ d e, Dp K H x d ∧ Dp K H y e ∧ d.plain = true ∧ e.plain = true ∧ d.depth ≤ 60 ∧ Q (.bl (!PyData.eqv d e)) H
theorem op_neW {X : Cx} (hu : X.A.units + 65 < cLine) : OpR X (compareOp .NotEq) (rNeW X.K) := by
  intro pins s σ H x y v u Q I rx ry h
  obtain ⟨d, e, hd, he, sd, se, hdp, q⟩ := h
  obtain ⟨as, r1⟩ := Dp.reads I d x v hd rx
  obtain ⟨bs, r2⟩ := Dp.reads I e y u he ry
  exact SeqAt.ne_plain r1 r2 sd se (by have := Nat.min_le_left d.depth e.depth; omega) ⟨.bl _, H, I, rfl, q⟩
theorem dp_tolds {K : PySem.W.Frag} {H : Hp} : ∀ {as : List Addr} {ps : List (Str × Int)}, TupsAt K H as (ps.map encT) → DpAll K H (as.map V.ref) (ps.map enT)
  | [], [], _ => .nil
  | [], p :: r, h => by have := h.1; simp at this
  | a :: as, [], h => by have := h.1; simp at this
  | a :: as, p :: r, h => .cons (.tup (h.2 0 a _ rfl rfl) (.cons (.str _) (.cons (.int _) .nil))) (dp_tolds ⟨by have := h.1; simpa using this, fun i b q h1 h2 => h.2 (i + 1) b q h1 h2⟩)
theorem dp_told {K : PySem.W.Frag} {H : Hp} {a : Addr} {ps : List (Str × Int)} (h : RowsAt K H a (ps.map encT)) : Dp K H (.ref a) (.list (ps.map enT)) :=
  let ⟨_, h1, h2⟩ := h
  .lst h1 (dp_tolds h2)
theorem told_eqv (ps : List (Str × Int)) : PyData.eqv (.list (ps.map enT)) (.list (ps.map enT)) = true := SeqAt.eqv_refl_plain _ (told_plain ps)
/-! ### lists of ints, as data -/
theorem ints_plain : ∀ l : List Int, PyData.plainAll (l.map .int) = true
  | [] => by simp [PyData.plainAll]
  | p :: r => by simp [PyData.plainAll, PyData.plain, ints_plain r]
theorem ints_plain0 (l : List Int) : (PyData.list (l.map .int)).plain = true := by simp only [PyData.plain]; exact ints_plain l
theorem ints_depth : ∀ l : List Int, PyData.depthAll (l.map .int) ≤ 0
  | [] => by simp [PyData.depthAll]
  | p :: r => by
    have h1 := ints_depth r
    simp only [List.map_cons, PyData.depthAll, PyData.depth]
    omega
theorem ints_depth0 (l : List Int) : (PyData.list (l.map .int)).depth ≤ 60 := by
  have h1 := ints_depth l
  simp only [PyData.depth]
  omega
theorem dp_ints {K : PySem.W.Frag} {H : Hp} : ∀ l : List Int, DpAll K H (l.map V.int) (l.map .int)
  | [] => .nil
  | a :: r => .cons (.int a) (dp_ints r)
theorem ints_eqv (l : List Int) : PyData.eqv (.list (l.map .int)) (.list (l.map .int)) = true := SeqAt.eqv_refl_plain _ (ints_plain0 l)
theorem flat_kds (l : List Kd) : (l.map fun k => V.str (kdS k)).all flatV = true := by
  induction l with
  | nil => rfl
  | cons a r ih => rw [List.map_cons, List.all_cons, ih]; rfl
theorem in_kds {l : List Kd} (h : inV (.str "miss") (l.map fun k => V.str (kdS k)) = false) : Kd.miss ∉ l := fun hm => by
  have : inV (.str "miss") (l.map fun k => V.str (kdS k)) = true := List.any_eq_true.mpr ⟨.str (kdS .miss), List.mem_map.mpr ⟨_, hm, rfl⟩, by decide +kernel⟩
  rw [h] at this
  cases this
end Ok
namespace Ok
open PySem L2
section
variable {P : Program} {w : World} {K : PySem.W.Frag} {mg : Str → Option Value} {base : Heap}
def spLaw (K : PySem.W.Frag) : Sp := fun vs H Q _ => ∃ (a : Addr) (ns : List Int), vs = [.ref a] ∧ SqL K H a (ns.map V.int) ∧ ns.length ≤ 63 ∧ ∀ H' : Hp, Q (.bl true) H'
abbrev nLaw : List Str := ["_law_script", "_law_w", "_law_scripts_here", "_law_weaving_here", "_law_events", "_law_values_here", "_law_kinds", "_law_ring", "_law_commits", "_law_order", "_law_missed", "_law_k", "_law_told", "_law_op", "_law_t", "_law_u", "_law_kind"]
theorem scLaw : FnScope nLaw ["_law_script"] (defScope sLaw) := ⟨rfl, rfl, rfl, by decide +kernel, rfl, by decide +kernel, by decide +kernel⟩
structure Calls (P : Program) (w : World) (K : PySem.W.Frag) (mg : Str → Option Value) (base : Heap) where
  (fS fW fP fD fK fO fR : Addr)
  (dS dW dP dD dK dO dR : FuncData)
  GS : FnOk P w K mg base CX0 3 fS dS ["_law_script", "_law_k"] (spScripts K)
  kS : PySem.W.keepIn K (.ref fS) = true
  bS : Binds K dS ["_law_script", "_law_k"] []
  mS : mg "_law_scripts" = some (.ref fS)
  GW : FnOk P w K mg base CX0 3 fW dW ["_law_script", "_law_k", "_law_many"] (spWeaving K)
  kW : PySem.W.keepIn K (.ref fW) = true
  bW : Binds K dW ["_law_script", "_law_k", "_law_many"] []
  mW : mg "_law_weaving" = some (.ref fW)
  GP : FnOk P w K mg base CX0 7 fP dP ["scripts", "weaving"] (spSnapRun K)
  kP : PySem.W.keepIn K (.ref fP) = true
  bP : Binds K dP ["scripts", "weaving"] []
  mP : mg "snapshot_run" = some (.ref fP)
  GD : FnOk P w K mg base CX0 7 fD dD ["scripts", "weaving"] (spDeps K)
  kD : PySem.W.keepIn K (.ref fD) = true
  bD : Binds K dD ["scripts", "weaving"] []
  mD : mg "dependencies" = some (.ref fD)
  GK : FnOk P w K mg base CX0 8 fK dK ["scripts", "weaving"] (spSkew K)
  kK : PySem.W.keepIn K (.ref fK) = true
  bK : Binds K dK ["scripts", "weaving"] []
  mK : mg "skew" = some (.ref fK)
  GO : FnOk P w K mg base CX0 1 fO dO ["numbers", "pairs"] (spOrderOf K)
  kO : PySem.W.keepIn K (.ref fO) = true
  bO : Binds K dO ["numbers", "pairs"] []
  mO : mg "order_of" = some (.ref fO)
  GR : FnOk P w K mg base CX0 3 fR dR ["scripts", "order"] (spSerial K)
  kR : PySem.W.keepIn K (.ref fR) = true
  bR : Binds K dR ["scripts", "order"] []
  mR : mg "serial_run" = some (.ref fR)
theorem ok_law {f : Addr} {fd : FuncData} (F : Fun K "law" "law" sLaw f fd) (T : Glb mg) (C : Calls P w K mg base) : FnOk P w K mg base CX0 9 f fd ["_law_script"] (spLaw K) := by
  have sc := scLaw
  refine F.ok scLaw (fun vs H Q E h => ?_) (fun cdv A outer s H vs Q E hr h => ?_)
  · obtain ⟨a, ns, rfl, _⟩ := h
    rfl
  · obtain ⟨a, ns, rfl, hA, h63, q⟩ := h
    have hu65 := hu65_of hr
    have hu64 := Nat.lt_of_succ_lt hu65
    have hr1 : Room 1 _ := hr.mono (by decide)
    have hr3 : Room 3 _ := hr.mono (by decide)
    have hr7 : Room 7 _ := hr.mono (by decide)
    refine ⟨_, (pss_cons (ps_for PassesOwn.never rfl (pi_range1 rfl T.range (pa_cons (pe_callB (call_min2 rfl) (by rfl) T.min (by decide +kernel) (pa_cons pe_int (pa_cons (pe_op op_add pe_int (pe_op op_fdiv (pe_callB call_len_seq (by rfl) T.len PySem.boot_len (pa_cons (pv 0) pa_nil)) pe_int)) pa_nil))) pa_nil)) (pg_name (i := 1) sc.nd rfl (Or.inl rfl)) (pss_cons (ps_set (i := 2) sc.nd rfl (Or.inl rfl) (pe_call C.GS hr3 (by rfl) C.mS C.kS C.bS .nil pass0 (pa_cons (pv 0) (pa_cons (pe_op op_mul pe_int (pv 1)) pa_nil)))) (pss_cons (ps_set (i := 3) sc.nd rfl (Or.inl rfl) (pe_call C.GW hr3 (by rfl) C.mW C.kW C.bW .nil pass0 (pa_cons (pv 0) (pa_cons (pe_op op_add (pe_op op_mul pe_int (pv 1)) pe_int) (pa_cons (pe_callB call_len_seq (by rfl) T.len PySem.boot_len (pa_cons (pv 2) pa_nil)) pa_nil))))) (pss_cons (ps_asg (pe_call C.GP hr7 (by rfl) C.mP C.kP C.bP .nil pass0 (pa_cons (pv 2) (pa_cons (pv 3) pa_nil))) (pg_tup rfl (pgs_cons (pg_name (i := 4) sc.nd rfl (Or.inl rfl)) (pgs_cons (pg_name (i := 5) sc.nd rfl (Or.inl rfl)) pgs_nil)))) (pss_cons (ps_set (i := 6) sc.nd rfl (Or.inl rfl) (pe_call C.GD hr7 (by rfl) C.mD C.kD C.bD .nil pass0 (pa_cons (pv 2) (pa_cons (pv 3) pa_nil)))) (Evl.pss_cut (ps_set (i := 7) sc.nd rfl (Or.inr rfl) (pe_call C.GK hr (by rfl) C.mK C.kK C.bK .nil pass0 (pa_cons (pv 2) (pa_cons (pv 3) pa_nil)))) (pss_cons (ps_set (i := 8) sc.nd rfl (Or.inl rfl) (pe_callB cr_sorted (by rfl) T.sorted (by decide +kernel) (pa_cons (pe_lc (own := [("_law_op", 13)]) (g := gName 13) (tt := tTest (tOp rEq (tOp (rIxT K) (tVar 13) (tC (.int 0))) (tC (.str "commit")))) (te := tOp (rIxT K) (tVar 13) (tC (.int 1))) rfl sc.nd (pi_list (pv 4)) (blkOk_by (own := [("_law_op", 13)]) (N := nLaw) (sc := defScope sLaw) (by decide +kernel))
            (fun _ _ _ _ _ => (pg_name (i := 13) sc.nd rfl (Or.inl rfl))) (fun _ _ _ _ _ => pts_one (pt_cmpR op_eq (pe_ix ix_tup (pv 13) pe_int (fun _ _ => rfl)) pe_str (nomark _))) (fun _ _ _ _ _ => (pe_ix ix_tup (pv 13) pe_int (fun _ _ => rfl)))) pa_nil))) (Evl.pss_cut (ps_set (i := 9) sc.nd rfl (Or.inl rfl) (pe_call C.GO hr1 (by rfl) C.mO C.kO C.bO .nil pass0 (pa_cons (pv 8) (pa_cons (pe_lc (own := [("_law_t", 14), ("_law_u", 15), ("_law_kind", 16)]) (g := gTup K 3 (gCons (gName 14) (gCons (gName 15) (gCons (gName 16) gNil)))) (tt := tYes) (te := tTup (tCons (tVar 14) (tCons (tVar 15) tNil))) rfl sc.nd (pi_list (pv 6)) (blkOk_by (own := [("_law_t", 14), ("_law_u", 15), ("_law_kind", 16)]) (N := nLaw) (sc := defScope sLaw) (by decide +kernel))
            (fun _ _ _ _ _ => (pg_tup rfl (pgs_cons (pg_name (i := 14) sc.nd rfl (Or.inl rfl)) (pgs_cons (pg_name (i := 15) sc.nd rfl (Or.inl rfl)) (pgs_cons (pg_name (i := 16) sc.nd rfl (Or.inl rfl)) pgs_nil))))) (fun _ _ _ _ _ => pts_nil) (fun _ _ _ _ _ => (pe_tup (pa_cons (pv 14) (pa_cons (pv 15) pa_nil))))) pa_nil)))) (Evl.pss_cut (ps_if (pt_cmpR op_ne (pe_cmp (pc_isN (pv 9))) (pe_cmp (pc_notN (pv 7))) (nomark _)) (pss_one (ps_ret pe_bl)) pss_nil) (Evl.pss_cut (ps_if (PW.pt (pw_and (pt_cmp (pc_notN (pv 9))) (pw_and1 (pt_cmpR (op_neW hu65) (pe_call C.GR hr3 (by rfl) C.mR C.kR C.bR .nil pass0 (pa_cons (pv 2) (pa_cons (pv 9) pa_nil))) (pv 5) (nomark _))))) (pss_one (ps_ret pe_bl)) pss_nil) (pss_one (ps_if (pt_cmp (pc_notN (pv 7))) (pss_cons (ps_set (i := 10) sc.nd rfl (Or.inl rfl) pe_bl) (pss_cons (ps_for PassesOwn.never rfl (pi_range1 rfl T.range (pa_cons (pe_callB call_len_seq (by rfl) T.len PySem.boot_len (pa_cons (pv 7) pa_nil)) pa_nil)) (pg_name (i := 11) sc.nd rfl (Or.inr rfl)) (pss_cons (ps_setLc (i := 12) (own := [("_law_t", 14), ("_law_u", 15), ("_law_kind", 16)]) (g := gTup K 3 (gCons (gName 14) (gCons (gName 15) (gCons (gName 16) gNil)))) (tt := tAnd (tTest (tOp rEq (tVar 14) (tOp (rIxL K) (tVar 7) (tOp (rI0 fun i j => .int (i - j)) (tVar 11) (tC (.int 1)))))) (tTest (tOp rEq (tVar 15) (tOp (rIxL K) (tVar 7) (tVar 11))))) (te := tVar 16) rfl sc.nd rfl rfl (sw_true rfl rfl rfl (by decide +kernel)) (pi_list (pv 6)) (blkOk_by (own := [("_law_t", 14), ("_law_u", 15), ("_law_kind", 16)]) (N := nLaw) (sc := defScope sLaw) (by decide +kernel))
              (fun _ _ _ _ _ => (pg_tup rfl (pgs_cons (pg_name (i := 14) sc.nd rfl (Or.inl rfl)) (pgs_cons (pg_name (i := 15) sc.nd rfl (Or.inl rfl)) (pgs_cons (pg_name (i := 16) sc.nd rfl (Or.inl rfl)) pgs_nil))))) (fun _ _ _ _ _ => pts_one (PW.pt (pw_and (pt_cmpR op_eq (pv 14) (pe_ix ix_list (pv 7) (pe_op op_sub (pv 11) pe_int) (fun _ _ => rfl)) (nomark _)) (pw_and1 (pt_cmpR op_eq (pv 15) (pe_ix ix_list (pv 7) (pv 11) (fun _ _ => rfl)) (nomark _)))))) (fun _ _ _ _ _ => (pv 16))) (pss_cons (ps_if (pt_cmpR op_eq (pe_callB call_len_seq (by rfl) T.len PySem.boot_len (pa_cons (pv 12) pa_nil)) pe_int (nomark _)) (pss_one (ps_ret pe_bl)) pss_nil) (pss_one (ps_set (i := 10) sc.nd rfl (Or.inl rfl) (pe_or (pv 10) (pe_one (pe_cmpR op_in_seq pe_str (pv 12) rfl)))))))) (pss_one (ps_if (PW.pt (pw_or (pt_not (pt_val (pv 10))) (pw_or1 (pt_cmpR (op_neW hu65) (pe_callB cr_sorted (by rfl) T.sorted (by decide +kernel) (pa_cons (pv 7) pa_nil))
            (pe_callB cr_sorted (by rfl) T.sorted (by decide +kernel) (pa_cons (pe_lc (own := [("_law_k", 11), ("_law_t", 14)]) (g := gTup K 2 (gCons (gName 11) (gCons (gName 14) gNil))) (tt := tTest (tOp (rIn K true) (tVar 14) (tSl (rSlL K) (tVar 7) tNoPart (tPart (tVar 11))))) (te := tVar 14) rfl sc.nd (pi_enum (by rfl) T.enumerate (pa_cons (pv 7) pa_nil)) (blkOk_by (own := [("_law_k", 11), ("_law_t", 14)]) (N := nLaw) (sc := defScope sLaw) (by decide +kernel))
              (fun _ _ _ _ _ => (pg_tup rfl (pgs_cons (pg_name (i := 11) sc.nd rfl (Or.inl rfl)) (pgs_cons (pg_name (i := 14) sc.nd rfl (Or.inl rfl)) pgs_nil)))) (fun _ _ _ _ _ => pts_one (pt_cmpR op_notIn_seq (pv 14) (pe_slice sl_list (pv 7) po_none (po_some (pv 11))) rfl)) (fun _ _ _ _ _ => (pv 14))) pa_nil)) (nomark _))))) (pss_one (ps_ret pe_bl)) pss_nil)))) pss_nil)))))))))))) (pss_one (ps_ret pe_bl))), ?_⟩
    refine ⟨_, rfl, a, _, rfl, .inl hA, _, _, rfl, rfl, ⟨by decide, by decide⟩, _, _, rfl, rfl, _, _, rfl, ?_⟩
    rw [List.length_map]
    have hj : ∀ z : Int, 0 ≤ z → z ≤ 63 → -(2 ^ 62) ≤ (if 1 + z / 8 < 6 then 1 + z / 8 else (6 : Int)) ∧ (if 1 + z / 8 < 6 then 1 + z / 8 else (6 : Int)) < 2 ^ 62 := fun z h0 h1 => by
      split <;> omega
    have hj2 := hj (ns.length : Nat) (by omega) (by omega)
    refine ⟨_, rfl, hj2.1, hj2.2, ?_⟩
    generalize (if 1 + ((ns.length : Nat) : Int) / 8 < 6 then 1 + ((ns.length : Nat) : Int) / 8 else (6 : Int)) = jj at *
    refine for_range (lo := 0) (n := jj.toNat) (fun i σ H1 => ∃ v1 v2 v3 v4 v5 v6 v7 v8 v9 v10 v11 v12 : Option V, σ = [some (.ref a), v1, v2, v3, v4, v5, v6, v7, v8, v9, v10, v11, v12, none, none, none, none] ∧ Same H H1)
      ⟨_, _, _, _, _, _, _, _, _, _, _, _, rfl, Same.refl _⟩ ?_ (fun σ H1 _ => q H1)
    rintro i σ H1 hi ⟨v1, v2, v3, v4, v5, v6, v7, v8, v9, v10, v11, v12, rfl, s1⟩
    have hk0 : (0 : Int) ≤ 8 * (0 + (i : Nat)) := by omega
    generalize (0 + ((i : Nat) : Int)) = wn at hk0 ⊢
    refine ⟨_, rfl, _, rfl, _, _, rfl, rfl, .inl (by decide), a, ns, _, rfl, s1.seq hA, hk0, fun ss sh H2 hok hss1 s2 _ hS => ?_⟩
    have s02 := s1.trans s2
    obtain ⟨sas, hsal, hslen, _⟩ := id hS
    refine ⟨_, rfl, _, rfl, _, _, rfl, rfl, .inl (by decide), _, _, rfl, rfl, _, rfl, sh, _, rfl, .inl hsal, a, ns, _, _, rfl, s02.seq hA, by omega, by rw [List.length_map, hslen]; omega, fun ws wv H3 hw30 s3 _ hW => ?_⟩
    have hS3 := hS.same s3
    refine ⟨_, rfl, _, rfl, sh, wv, ss, ws, rfl, hS3, hok, hW, hw30, fun p ev td ys H4 s4 hp hev hevl htd hyp hys => ?_⟩
    refine ⟨p, _, rfl, hp, rfl, _, _, rfl, _, _, rfl, rfl, ?_⟩
    have hS4 := hS3.same s4
    refine ⟨_, rfl, _, rfl, sh, wv, ss, ws, rfl, hS4, hok, s4.seq hW, hw30, fun kd ds H5 hdp hdl s5 hkd => ?_⟩
    have s05 := ((s02.trans s3).trans s4).trans s5
    have I := fin_inv (ss := ss) ws
    have hS5 := hS4.same s5
    have hW5 := s5.seq (s4.seq hW)
    have c5 := (I.five hok.few).2.2
    -- the ring
    refine ⟨fun σ H6 => ∃ rv : V, σ = [some (.ref a), some (.int wn), some (.ref sh), some (.ref wv), some (.ref ev), some (.ref td), some (.ref kd), some rv, v8, v9, v10, v11, v12, none, none, none, none] ∧ Same H5 H6 ∧
      ((rv = .non ∧ ∀ a l, ¬ RingF (prs (finR ss ws)) a l) ∨ ∃ a l p, rv = .ref p ∧ RingF (prs (finR ss ws)) a l ∧ SqL K H6 p ((a :: l).map V.int)), ?_, ?_⟩
    · refine ⟨_, rfl, _, rfl, sh, wv, ss, ws, rfl, hS5, hok, hW5, hw30, fun H6 s6 hno => ?_, fun b l p6 H6 hr6 s6 hp6 => ?_⟩
      · exact ⟨_, rfl, s6, .inl ⟨rfl, hno⟩⟩
      · exact ⟨_, rfl, s6, .inr ⟨b, l, p6, rfl, hr6, hp6⟩⟩
    have ham := I.am40 hok.few hok.short
    have hser := fun (order : List Int) (hp : order.Perm (finR ss ws).commits) (ht : Topo (prs (finR ss ws)) order) => serial_same I hp ht
    have hevs := evs_isC I
    generalize finR ss ws = R at *
    rintro _ H6 ⟨rv, rfl, s6, hring⟩
    obtain ⟨eas, heal, heat⟩ := id (hev.same (s5.trans s6))
    have heln : (eas.map V.ref).length = R.events.length := by have := heat.1; simpa using this
    -- the commits
    refine ⟨_, rfl, ev, rfl, ⟨_, heal⟩, fun D hD => lc_flat R.events (fun e => (isC e).map V.int) (by omega) hD (itl_go heal heln) (itl_stop heal heln) ?_ ?_⟩
    · rintro j y H7 x H8 hy s7 hyl Yes No hyes hno
      obtain ⟨rfl, hx⟩ := itl_yld heal s7 hyl
      obtain ⟨bb, r, rfl, _, hr', hTb⟩ := heat.at hx
      rw [map_at hy] at hr'
      cases hr'
      have hT7 := s7.sqt hTb
      cases y with
      | rd t x => exact ⟨rfl, _, rfl, bb, _, _, _, rfl, rfl, hT7, rfl, rfl, _, rfl, hno _ rfl (Same.refl _)⟩
      | wr t x => exact ⟨rfl, _, rfl, bb, _, _, _, rfl, rfl, hT7, rfl, rfl, _, rfl, hno _ rfl (Same.refl _)⟩
      | abort t => exact ⟨rfl, _, rfl, bb, _, _, _, rfl, rfl, hT7, rfl, rfl, _, rfl, hno _ rfl (Same.refl _)⟩
      | commit t => exact ⟨rfl, _, rfl, bb, _, _, _, rfl, rfl, hT7, rfl, rfl, _, rfl, _, rfl, bb, _, _, _, rfl, rfl, hT7, rfl, hyes _ _ rfl (Same.refl _)⟩
    intro H7 s7 hD7
    have eC : R.events.filterMap (fun e => (isC e).map V.int) = R.commits.map V.int := by rw [fm_some, hevs]
    rw [eC] at hD7
    refine ⟨D, R.commits, rfl, SqL.of hD7, by omega, fun cs pc hcp _ hpc => ?_⟩
    have s8 : Same H7 (upd H7 pc (.lst (cs.map V.int))) := (Same.refl _).new hpc
    have hcs : SqL K (upd H7 pc (.lst (cs.map V.int))) pc (cs.map V.int) := SqL.of upd_same
    generalize upd H7 pc (.lst (cs.map V.int)) = H8 at s8 hcs ⊢
    have s68 := s7.trans s8
    have s58 := s6.trans s68
    obtain ⟨kas, hkal, hkat⟩ := id (hkd.same s58)
    have hkln : (kas.map V.ref).length = ds.length := by have := hkat.1; simpa using this
    have ndC := I.ndC
    have csn : cs.Nodup := hcp.nodup_iff.mpr ndC
    have csl : cs.length ≤ 5 := by rw [hcp.length_eq]; exact c5
    have hself : ∀ x, (x, x) ∉ prs R := fun x h => (prs_in h).2.2 rfl
    have hps : ∀ x, x ∈ (ds.map fun d => (d.1, d.2.1)) ↔ x ∈ prs R := fun x => (hdp.map fun d => (d.1, d.2.1)).mem_iff
    -- the order
    refine ⟨fun σ H9 => ∃ rv ov : V, σ = [some (.ref a), some (.int wn), some (.ref sh), some (.ref wv), some (.ref ev), some (.ref td), some (.ref kd), some rv, some (.ref pc), some ov, v10, v11, v12, none, none, none, none] ∧ Same H5 H9 ∧
      ((rv = .non ∧ ∃ (order : List Int) (po : Addr), ov = .ref po ∧ order.Perm R.commits ∧ Topo (prs R) order ∧ SqL K H9 po (order.map V.int)) ∨ (ov = .non ∧ ∃ b l p, rv = .ref p ∧ RingF (prs R) b l ∧ SqL K H9 p ((b :: l).map V.int))), ?_, ?_⟩
    · refine ⟨_, rfl, _, rfl, kd, rfl, ⟨_, hkal⟩, fun D2 hD2 => lc_tups (K := K) ds (fun d => some (encP (d.1, d.2.1))) (by omega) hD2 (itl_go hkal hkln) (itl_stop hkal hkln) ?_ ?_⟩
      · rintro j y H9 x H10 hy s9 hyl Yes No hyes hno
        obtain ⟨rfl, hx⟩ := itl_yld hkal s9 hyl
        obtain ⟨bb, r, rfl, _, hr', hTb⟩ := hkat.at hx
        rw [map_at hy] at hr'
        cases hr'
        refine ⟨bb, _, rfl, s9.sqt hTb, rfl, _, _, rfl, _, _, rfl, _, _, rfl, rfl, rfl, ?_⟩
        refine ⟨_, rfl, _, rfl, (by show 2 ≤ sizeLine; rw [sizeLine_eq]; omega), fun bb2 hbb => ?_⟩
        exact hyes _ bb2 _ rfl upd_same ((Same.refl _).new hbb)
      · intro H9 pas s9 hD9 hT9
        have eP : ds.filterMap (fun d => some (encP (d.1, d.2.1))) = (ds.map fun d => (d.1, d.2.1)).map encP := by
          rw [List.map_map]
          clear hT9 hps hdl hkln hkat hdp hkd
          induction ds with
          | nil => rfl
          | cons d r ih => rw [List.filterMap_cons, ih]; rfl
        rw [eP] at hT9
        refine ⟨pc, D2, cs, _, rfl, s9.seq hcs, ⟨pas, SqL.of hD9, hT9⟩, csn, by omega, by rw [List.length_map]; omega, fun S H10 hS0 hSin hSp s10 => ?_, fun order po H10 hop hot s10 _ hpo => ?_⟩
        · have s510 := (s58.trans s9).trans s10
          obtain ⟨b, l, hrg, _⟩ := ring_of_stuck hself hS0 fun y hy => by
            obtain ⟨x, hx, hm⟩ := hSp y hy
            exact ⟨x, hx, (hps _).mp hm⟩
          obtain ⟨b', l', hrf, _⟩ := hrg.turned
          rcases hring with ⟨_, hno⟩ | ⟨b2, l2, p2, rfl, hr2, hp2⟩
          · exact absurd hrf (hno b' l')
          · exact ⟨_, _, rfl, s510, .inr ⟨rfl, b2, l2, p2, rfl, hr2, ((s68.trans s9).trans s10).seq hp2⟩⟩
        · have s510 := (s58.trans s9).trans s10
          have hop2 : order.Perm R.commits := hop.trans hcp
          have hot2 : Topo (prs R) order := List.Pairwise.imp (fun {x y} h hm => h ((hps _).mpr hm)) hot
          rcases hring with ⟨rfl, hno⟩ | ⟨b2, l2, p2, rfl, hr2, hp2⟩
          · exact ⟨_, _, rfl, s510, .inl ⟨rfl, order, po, rfl, hop2, hot2, hpo⟩⟩
          · exact (hot2.no_ring (fun x y h => ⟨hop2.mem_iff.mpr (prs_in h).1, hop2.mem_iff.mpr (prs_in h).2.1, (prs_in h).2.2⟩) hr2.ring).elim
    clear hring hkal hkat hkln hcs
    -- (order is None) != (ring is not None)
    refine fun σ9 H9 hmid => ⟨fun σ H' => σ = σ9 ∧ H' = H9, ?_, ?_⟩
    · have eB : ∀ x : Bool, (!decide (V.bl x = V.bl x)) = false := fun x => by simp
      obtain ⟨rv, ov, rfl, s59, hcase⟩ := hmid
      rcases hcase with ⟨rfl, order, po, rfl, _⟩ | ⟨rfl, b, l, p9, rfl, _⟩
      · refine ⟨_, rfl, _, rfl, rfl, _, rfl, ?_⟩
        show if (!decide (V.bl false = V.bl false)) = true then _ else _
        rw [eB]
        exact iteF ⟨rfl, rfl⟩
      · refine ⟨_, rfl, _, rfl, rfl, _, rfl, ?_⟩
        show if (!decide (V.bl true = V.bl true)) = true then _ else _
        rw [eB]
        exact iteF ⟨rfl, rfl⟩
    rintro _ H9 ⟨rfl, rfl⟩
    obtain ⟨rv, ov, rfl, s59, hcase⟩ := hmid
    -- the values
    refine ⟨fun σ H10 => σ = [some (.ref a), some (.int wn), some (.ref sh), some (.ref wv), some (.ref ev), some (.ref td), some (.ref kd), some rv, some (.ref pc), some ov, v10, v11, v12, none, none, none, none] ∧ Same H9 H10, ?_, ?_⟩
    · rcases hcase with ⟨rfl, order, po, rfl, hop, hot, hpo⟩ | ⟨rfl, b, l, p9, rfl, _⟩
      · refine ⟨_, rfl, _, rfl, ?_⟩
        refine iteT ?_
        refine ⟨_, rfl, _, rfl, sh, po, ss, order, rfl, hS5.same s59, hok, hpo, by rw [hop.length_eq]; exact c5, fun t ht => I.KN t (I.OK t (I.CO t (hop.mem_iff.mp ht))), fun ys2 p2 H10 hyp2 hys2 s10 _ hr2 => ?_⟩
        have eT : toldOf (serialR ss order).1 ys2 = toldOf R.amounts ys := told_same (hser order hop hot) (serial_nodup hok.short order) I.na hyp2 hys2 hyp hys
        rw [eT] at hr2
        refine ⟨_, rfl, _, _, dp_told hr2, dp_told (htd.same ((s5.trans s59).trans s10)), told_plain _, told_plain _, told_depth _, _, rfl, ?_⟩
        rw [told_eqv]
        exact iteF ⟨rfl, s10⟩
      · refine ⟨_, rfl, _, rfl, ?_⟩
        exact iteF (iteF ⟨rfl, Same.refl _⟩)
    rintro _ H10 ⟨rfl, s10⟩
    have s510 := s59.trans s10
    have s010 := s05.trans s510
    refine ⟨_, rfl, _, rfl, ?_⟩
    rcases hcase with ⟨rfl, order, po, rfl, hop, hot, hpo⟩ | ⟨rfl, b, l, pr, rfl, hrf, hpr9⟩
    · exact iteF ⟨_, _, _, _, _, _, _, _, _, _, _, _, rfl, s010⟩
    · refine iteT ?_
      have hpr := s10.seq hpr9
      have hrl : (b :: l).length ≤ 5 := by
        have h1 := len_le (b :: l) R.commits hrf.nd fun x hx => by
          obtain ⟨y, hy⟩ := hrf.ring.firsts x hx
          exact (prs_in hy).1
        omega
      obtain ⟨kas, hkal, hkat⟩ := id (hkd.same s510)
      have hkln : (kas.map V.ref).length = ds.length := by have := hkat.1; simpa using this
      have hms : ∀ x y, (y, x, Kd.miss) ∈ deps R → (y, x, Kd.miss) ∈ ds := fun x y h => hdp.mem_iff.mpr h
      refine ⟨_, rfl, pr, _, rfl, .inl hpr, _, rfl, (by rw [List.length_map]; omega), (by rw [List.length_map]; omega), ?_⟩
      refine for_range (lo := 0) (n := ((((b :: l).map V.int).length : Nat) : Int).toNat) (fun i σ H11 => ∃ (ms : Bool) (v11 v12 : Option V), σ = [some (.ref a), some (.int wn), some (.ref sh), some (.ref wv), some (.ref ev), some (.ref td), some (.ref kd), some (.ref pr), some (.ref pc), some .non, some (.bl ms), v11, v12, none, none, none, none] ∧ Same H10 H11 ∧
          (ms = false → ∀ (j : Nat) (x y : Int), j < i → (b :: l)[j]? = some x → prevOf (b :: l) j = some y → (y, x, Kd.miss) ∉ deps R))
        ⟨false, _, _, rfl, Same.refl _, fun _ j x y h => absurd h (by omega)⟩ ?_ ?_
      · rintro i σ H11 hi ⟨ms, v11', v12', rfl, s11, hno⟩
        have hi' : i < (b :: l).length := by rw [List.length_map] at hi; omega
        have hx : (b :: l)[i]? = some (b :: l)[i] := List.getElem?_eq_getElem hi'
        generalize (b :: l)[i] = x at hx
        obtain ⟨y, hy, hyx⟩ := ring_prev hrf.ring hx
        have hkal1 := s11.seq hkal
        let F : Int × Int × Kd → Option Kd := fun d => if d.1 = y ∧ d.2.1 = x then some d.2.2 else none
        have hF : ∀ k, k ∈ ds.filterMap F ↔ (y, x, k) ∈ ds := fun k => by
          rw [List.mem_filterMap]
          constructor
          · rintro ⟨d, hd, e⟩
            by_cases h : d.1 = y ∧ d.2.1 = x
            · have e' : (if d.1 = y ∧ d.2.1 = x then some d.2.2 else none) = some k := e
              rw [if_pos h] at e'
              have e2 : d = (y, x, k) := by
                obtain ⟨d1, d2, d3⟩ := d
                simp only at h e'
                rw [h.1, h.2, Option.some.inj e']
              rw [← e2]
              exact hd
            · have e' : (if d.1 = y ∧ d.2.1 = x then some d.2.2 else none) = some k := e
              rw [if_neg h] at e'
              cases e'
          · intro h
            exact ⟨_, h, if_pos ⟨rfl, rfl⟩⟩
        refine ⟨_, rfl, kd, rfl, ⟨_, hkal1⟩, fun D2 hD2 => lc_flat ds (fun d => (F d).map fun k => V.str (kdS k)) (by omega) hD2 (itl_go hkal1 hkln) (itl_stop hkal1 hkln) ?_ ?_⟩
        · rintro j d H12 z H13 hd s12 hyl Yes No hyes hno2
          obtain ⟨rfl, hz⟩ := itl_yld hkal1 s12 hyl
          obtain ⟨bb, r, rfl, _, hr', hTb⟩ := hkat.at hz
          rw [map_at hd] at hr'
          cases hr'
          have s1112 := s11.trans s12
          have hpr12 := s1112.seq hpr
          refine ⟨bb, _, rfl, s1112.sqt hTb, rfl, _, _, rfl, _, _, rfl, _, _, rfl, rfl, rfl, ?_⟩
          refine ⟨_, rfl, _, rfl, _, rfl, _, _, rfl, rfl, pr, _, _, _, rfl, rfl, hpr12, (by rw [Int.zero_add]; exact at_prev hy), rfl, _, rfl, ?_⟩
          by_cases h1 : d.1 = y
          · rw [decide_eq_true (show V.int d.1 = V.int y by rw [h1])]
            refine iteT ?_
            refine ⟨_, rfl, _, rfl, _, rfl, pr, _, _, _, rfl, rfl, hpr12, (by rw [Int.zero_add]; exact atI_nat (map_at hx)), rfl, _, rfl, ?_⟩
            by_cases h2 : d.2.1 = x
            · rw [decide_eq_true (show V.int d.2.1 = V.int x by rw [h2])]
              refine iteT ⟨_, rfl, hyes _ _ ?_ (Same.refl _)⟩
              show Option.map _ (if d.1 = y ∧ d.2.1 = x then some d.2.2 else none) = _
              rw [if_pos ⟨h1, h2⟩] <;> rfl
            · rw [decide_eq_false (show ¬ V.int d.2.1 = V.int x from fun e => h2 (by injection e))]
              refine iteF (hno2 _ ?_ (Same.refl _))
              show Option.map _ (if d.1 = y ∧ d.2.1 = x then some d.2.2 else none) = _
              rw [if_neg (fun e => h2 e.2)] <;> rfl
          · rw [decide_eq_false (show ¬ V.int d.1 = V.int y from fun e => h1 (by injection e))]
            refine iteF (iteF (hno2 _ ?_ (Same.refl _)))
            show Option.map _ (if d.1 = y ∧ d.2.1 = x then some d.2.2 else none) = _
            rw [if_neg (fun e => h1 e.1)] <;> rfl
        · intro H12 s12 hD12
          have eF : ds.filterMap (fun d => (F d).map fun k => V.str (kdS k)) = (ds.filterMap F).map fun k => V.str (kdS k) := fm_some ds
          rw [eF] at hD12
          obtain ⟨kk, hkk⟩ := mem_prs.mp hyx
          have hne : 0 < (ds.filterMap F).length := List.length_pos_of_mem ((hF kk).mpr (hdp.mem_iff.mpr hkk))
          refine ⟨_, rfl, D2, _, rfl, .inl (SqL.of hD12), rfl, _, rfl, ?_⟩
          rw [decide_eq_false (show ¬ V.int (((ds.filterMap F).map fun k => V.str (kdS k)).length : Nat) = V.int 0 from fun e => by
            injection e with e
            rw [List.length_map] at e
            omega)]
          refine iteF ?_
          refine ⟨_, rfl, ms, rfl, ?_⟩
          cases ms with
          | true => exact iteT ⟨true, _, _, rfl, s11.trans s12, fun h => nomatch h⟩
          | false =>
            refine iteF ?_
            refine ⟨_, rfl, D2, _, rfl, .inl (SqL.of hD12), rfl, flat_kds _, ?_⟩
            refine ⟨_, _, _, rfl, s11.trans s12, fun hin j x' y' hj hx' hy' => ?_⟩
            by_cases hji : j = i
            · subst hji
              rw [hx] at hx'
              rw [hy] at hy'
              cases hx'
              cases hy'
              exact fun hm => in_kds hin ((hF _).mpr (hms _ _ hm))
            · exact hno rfl j x' y' (by omega) hx' hy'
      · rintro σ H11 ⟨ms, v11', v12', rfl, s11, hno⟩
        refine ⟨_, rfl, ms, rfl, ?_⟩
        cases ms with
        | false =>
          exfalso
          refine some_miss I hrf.ring fun i x y hx hy => hno rfl i x y ?_ hx hy
          have := (List.getElem?_eq_some_iff.mp hx).1
          rw [List.length_map]
          omega
        | true =>
          refine iteF ?_
          have hpr11 := s11.seq hpr
          refine ⟨_, rfl, pr, b :: l, rfl, hpr11, by omega, fun c1 p1 hc1 hs1 hp1 => ?_⟩
          have s12 : Same H11 (upd H11 p1 (.lst (c1.map V.int))) := (Same.refl _).new hp1
          have hc1s : SqL K (upd H11 p1 (.lst (c1.map V.int))) p1 (c1.map V.int) := SqL.of upd_same
          generalize upd H11 p1 (.lst (c1.map V.int)) = H12 at s12 hc1s ⊢
          have hpr12 := s12.seq hpr11
          refine ⟨_, rfl, pr, _, rfl, hpr12, fun D3 hD3 => lc_flat (b :: l) (fun y => some (V.int y)) (by omega) hD3 (fun i H13 hi s => ⟨_, _, s.seq hpr12, map_at (List.getElem?_eq_getElem hi)⟩) (fun H13 s => ⟨_, s.seq hpr12, by rw [List.length_map]; exact Nat.le_refl _⟩) ?_ ?_⟩
          · rintro i y H13 z H14 hy s13 hyl Yes No hyes hno2
            obtain ⟨Tt, x, rfl, hTt, rfl, hxs⟩ := hyl
            have hx := hxs _ (s13.seq hpr12)
            rw [map_at hy] at hx
            cases hx
            have s14 : Same H13 (upd H13 Tt (.tup [.int (i : Nat), .int y])) := (Same.refl _).new hTt
            refine ⟨Tt, _, rfl, SqT.of upd_same, rfl, _, _, rfl, _, _, rfl, rfl, rfl, ?_⟩
            refine ⟨_, rfl, _, rfl, _, rfl, _, rfl, pr, _, rfl, (s13.trans s14).seq hpr12, fun c hc => ?_⟩
            rw [cut_to]
            refine ⟨c, _, rfl, .inl (SqL.of upd_same), rfl, flat_ints _, _, rfl, ?_⟩
            show if (!inV (V.int y) (((b :: l).take i).map V.int)) = true then _ else _
            rw [in_ints, decide_eq_false (not_before hrf.nd hy)]
            refine iteT ⟨_, rfl, hyes _ _ rfl (s14.new hc)⟩
          · intro H13 s13 hD13
            have eI : (b :: l).filterMap (fun y => some (V.int y)) = (b :: l).map V.int := by
              rw [← List.filterMap_eq_map] <;> rfl
            rw [eI] at hD13
            refine ⟨D3, b :: l, rfl, SqL.of hD13, by omega, fun c2 p2 hc2 hs2 hp2 => ?_⟩
            have e12 : c2 = c1 := sorted_ints (hc2.trans hc1.symm) hs2 hs1
            subst e12
            have s14 : Same H13 (upd H13 p2 (.lst (c2.map V.int))) := (Same.refl _).new hp2
            refine ⟨_, _, .lst ((s13.trans s14).seq hc1s) (dp_ints c2), .lst (SqL.of upd_same) (dp_ints c2), ints_plain0 c2, ints_plain0 c2, ints_depth0 c2, _, rfl, ?_⟩
            rw [ints_eqv]
            exact iteF ⟨_, _, _, _, _, _, _, _, _, _, _, _, rfl, s010.trans (s11.trans (s12.trans (s13.trans s14)))⟩
end
end Ok
namespace Ok
open PySem L2
/-! ### what the top has written -/
theorem all_mk {l : PySem.W.OpenLaw} {w : World} {K : PySem.W.Frag} {h : Heap} {mg : Str → Option Value} {fa CW CS CR : Addr} (X : K.In h) (G : h.Ns mainGlobals mg) (hfa : mg "law" = some (.ref fa))
    {f_cell : Addr} {od_cell an_cell : Option Addr} {sl_cell : Array (Option Value)} {oc_cell kV_cell dc_cell pm_cell cd_cell ct_cell : Value}
    {f_draw : Addr} {od_draw an_draw : Option Addr} {sl_draw : Array (Option Value)} {oc_draw kV_draw dc_draw pm_draw cd_draw ct_draw : Value}
    {f_scripts : Addr} {od_scripts an_scripts : Option Addr} {sl_scripts : Array (Option Value)} {oc_scripts kV_scripts dc_scripts pm_scripts cd_scripts ct_scripts : Value}
    {f_weaving : Addr} {od_weaving an_weaving : Option Addr} {sl_weaving : Array (Option Value)} {oc_weaving kV_weaving dc_weaving pm_weaving cd_weaving ct_weaving : Value}
    {f_told : Addr} {od_told an_told : Option Addr} {sl_told : Array (Option Value)} {oc_told kV_told dc_told pm_told cd_told ct_told : Value}
    {f_order : Addr} {od_order an_order : Option Addr} {sl_order : Array (Option Value)} {oc_order kV_order dc_order pm_order cd_order ct_order : Value}
    {f_closing : Addr} {od_closing an_closing : Option Addr} {sl_closing : Array (Option Value)} {oc_closing kV_closing dc_closing pm_closing cd_closing ct_closing : Value}
    {f_ring : Addr} {od_ring an_ring : Option Addr} {sl_ring : Array (Option Value)} {oc_ring kV_ring dc_ring pm_ring cd_ring ct_ring : Value}
    {f_winit : Addr} {od_winit an_winit : Option Addr} {sl_winit : Array (Option Value)} {oc_winit kV_winit dc_winit pm_winit cd_winit ct_winit : Value}
    {f_wstep : Addr} {od_wstep an_wstep : Option Addr} {sl_wstep : Array (Option Value)} {oc_wstep kV_wstep dc_wstep pm_wstep cd_wstep ct_wstep : Value}
    {f_serial : Addr} {od_serial an_serial : Option Addr} {sl_serial : Array (Option Value)} {oc_serial kV_serial dc_serial pm_serial cd_serial ct_serial : Value}
    {f_ninit : Addr} {od_ninit an_ninit : Option Addr} {sl_ninit : Array (Option Value)} {oc_ninit kV_ninit dc_ninit pm_ninit cd_ninit ct_ninit : Value}
    {f_rinit : Addr} {od_rinit an_rinit : Option Addr} {sl_rinit : Array (Option Value)} {oc_rinit kV_rinit dc_rinit pm_rinit cd_rinit ct_rinit : Value}
    {f_own : Addr} {od_own an_own : Option Addr} {sl_own : Array (Option Value)} {oc_own kV_own dc_own pm_own cd_own ct_own : Value}
    {f_rstep : Addr} {od_rstep an_rstep : Option Addr} {sl_rstep : Array (Option Value)} {oc_rstep kV_rstep dc_rstep pm_rstep cd_rstep ct_rstep : Value}
    {f_late : Addr} {od_late an_late : Option Addr} {sl_late : Array (Option Value)} {oc_late kV_late dc_late pm_late cd_late ct_late : Value}
    {f_end : Addr} {od_end an_end : Option Addr} {sl_end : Array (Option Value)} {oc_end kV_end dc_end pm_end cd_end ct_end : Value}
    {f_turn : Addr} {od_turn an_turn : Option Addr} {sl_turn : Array (Option Value)} {oc_turn kV_turn dc_turn pm_turn cd_turn ct_turn : Value}
    {f_fin : Addr} {od_fin an_fin : Option Addr} {sl_fin : Array (Option Value)} {oc_fin kV_fin dc_fin pm_fin cd_fin ct_fin : Value}
    {f_snap : Addr} {od_snap an_snap : Option Addr} {sl_snap : Array (Option Value)} {oc_snap kV_snap dc_snap pm_snap cd_snap ct_snap : Value}
    {f_kinds : Addr} {od_kinds an_kinds : Option Addr} {sl_kinds : Array (Option Value)} {oc_kinds kV_kinds dc_kinds pm_kinds cd_kinds ct_kinds : Value}
    {f_deps : Addr} {od_deps an_deps : Option Addr} {sl_deps : Array (Option Value)} {oc_deps kV_deps dc_deps pm_deps cd_deps ct_deps : Value}
    {f_skew : Addr} {od_skew an_skew : Option Addr} {sl_skew : Array (Option Value)} {oc_skew kV_skew dc_skew pm_skew cd_skew ct_skew : Value}
    {f_law : Addr} {od_law an_law : Option Addr} {sl_law : Array (Option Value)} {oc_law kV_law dc_law pm_law cd_law ct_law : Value}
    (a_CW : PySem.W.nsIn K mainGlobals "Work" = some (some (.ref CW)))
    (a_CS : PySem.W.nsIn K mainGlobals "Snapshot" = some (some (.ref CS)))
    (a_CR : PySem.W.nsIn K mainGlobals "SnapshotRun" = some (some (.ref CR)))
    (a_cell : PySem.W.nsIn K mainGlobals "_law_cell" = some (some (.ref f_cell)))
    (l_cell : K.lookup f_cell = some ⟨oc_cell, od_cell, .func (PySem.W.fnOf "_law_cell" "_law_cell" (defArgs sCell) (defBody sCell) (defScope sCell) .none kV_cell dc_cell pm_cell an_cell cd_cell ct_cell), sl_cell⟩)
    (c_cell : PySem.W.codeIn K cd_cell "_law_cell" = true)
    (k_cell : PySem.W.keepIn K (.ref f_cell) = true)
    (a_draw : PySem.W.nsIn K mainGlobals "_law_draw" = some (some (.ref f_draw)))
    (l_draw : K.lookup f_draw = some ⟨oc_draw, od_draw, .func (PySem.W.fnOf "_law_draw" "_law_draw" (defArgs sDraw) (defBody sDraw) (defScope sDraw) .none kV_draw dc_draw pm_draw an_draw cd_draw ct_draw), sl_draw⟩)
    (c_draw : PySem.W.codeIn K cd_draw "_law_draw" = true)
    (k_draw : PySem.W.keepIn K (.ref f_draw) = true)
    (a_scripts : PySem.W.nsIn K mainGlobals "_law_scripts" = some (some (.ref f_scripts)))
    (l_scripts : K.lookup f_scripts = some ⟨oc_scripts, od_scripts, .func (PySem.W.fnOf "_law_scripts" "_law_scripts" (defArgs sScripts) (defBody sScripts) (defScope sScripts) .none kV_scripts dc_scripts pm_scripts an_scripts cd_scripts ct_scripts), sl_scripts⟩)
    (c_scripts : PySem.W.codeIn K cd_scripts "_law_scripts" = true)
    (k_scripts : PySem.W.keepIn K (.ref f_scripts) = true)
    (a_weaving : PySem.W.nsIn K mainGlobals "_law_weaving" = some (some (.ref f_weaving)))
    (l_weaving : K.lookup f_weaving = some ⟨oc_weaving, od_weaving, .func (PySem.W.fnOf "_law_weaving" "_law_weaving" (defArgs sWeaving) (defBody sWeaving) (defScope sWeaving) .none kV_weaving dc_weaving pm_weaving an_weaving cd_weaving ct_weaving), sl_weaving⟩)
    (c_weaving : PySem.W.codeIn K cd_weaving "_law_weaving" = true)
    (k_weaving : PySem.W.keepIn K (.ref f_weaving) = true)
    (a_told : PySem.W.nsIn K mainGlobals "told_values" = some (some (.ref f_told)))
    (l_told : K.lookup f_told = some ⟨oc_told, od_told, .func (PySem.W.fnOf "told_values" "told_values" (defArgs sTold) (defBody sTold) (defScope sTold) .none kV_told dc_told pm_told an_told cd_told ct_told), sl_told⟩)
    (c_told : PySem.W.codeIn K cd_told "told_values" = true)
    (k_told : PySem.W.keepIn K (.ref f_told) = true)
    (a_order : PySem.W.nsIn K mainGlobals "order_of" = some (some (.ref f_order)))
    (l_order : K.lookup f_order = some ⟨oc_order, od_order, .func (PySem.W.fnOf "order_of" "order_of" (defArgs sOrderOf) (defBody sOrderOf) (defScope sOrderOf) .none kV_order dc_order pm_order an_order cd_order ct_order), sl_order⟩)
    (c_order : PySem.W.codeIn K cd_order "order_of" = true)
    (k_order : PySem.W.keepIn K (.ref f_order) = true)
    (a_closing : PySem.W.nsIn K mainGlobals "closing" = some (some (.ref f_closing)))
    (l_closing : K.lookup f_closing = some ⟨oc_closing, od_closing, .func (PySem.W.fnOf "closing" "closing" (defArgs sClosing) (defBody sClosing) (defScope sClosing) .none kV_closing dc_closing pm_closing an_closing cd_closing ct_closing), sl_closing⟩)
    (c_closing : PySem.W.codeIn K cd_closing "closing" = true)
    (k_closing : PySem.W.keepIn K (.ref f_closing) = true)
    (a_ring : PySem.W.nsIn K mainGlobals "ring_in" = some (some (.ref f_ring)))
    (l_ring : K.lookup f_ring = some ⟨oc_ring, od_ring, .func (PySem.W.fnOf "ring_in" "ring_in" (defArgs sRingIn) (defBody sRingIn) (defScope sRingIn) .none kV_ring dc_ring pm_ring an_ring cd_ring ct_ring), sl_ring⟩)
    (c_ring : PySem.W.codeIn K cd_ring "ring_in" = true)
    (k_ring : PySem.W.keepIn K (.ref f_ring) = true)
    (a_winit : PySem.W.findIn K (.ref CW) "__init__" = some (some (.ref f_winit)))
    (i_winit : PySem.W.isFn K (.ref f_winit) = true)
    (l_winit : K.lookup f_winit = some ⟨oc_winit, od_winit, .func (PySem.W.fnOf "__init__" "Work.__init__" (defArgs sWInit) (defBody sWInit) (defScope sWInit) .none kV_winit dc_winit pm_winit an_winit cd_winit ct_winit), sl_winit⟩)
    (c_winit : PySem.W.codeIn K cd_winit "Work.__init__" = true)
    (k_winit : PySem.W.keepIn K (.ref f_winit) = true)
    (a_wstep : PySem.W.findIn K (.ref CW) "do_step" = some (some (.ref f_wstep)))
    (i_wstep : PySem.W.isFn K (.ref f_wstep) = true)
    (l_wstep : K.lookup f_wstep = some ⟨oc_wstep, od_wstep, .func (PySem.W.fnOf "do_step" "Work.do_step" (defArgs sWStep) (defBody sWStep) (defScope sWStep) .none kV_wstep dc_wstep pm_wstep an_wstep cd_wstep ct_wstep), sl_wstep⟩)
    (c_wstep : PySem.W.codeIn K cd_wstep "Work.do_step" = true)
    (k_wstep : PySem.W.keepIn K (.ref f_wstep) = true)
    (a_serial : PySem.W.nsIn K mainGlobals "serial_run" = some (some (.ref f_serial)))
    (l_serial : K.lookup f_serial = some ⟨oc_serial, od_serial, .func (PySem.W.fnOf "serial_run" "serial_run" (defArgs sSerial) (defBody sSerial) (defScope sSerial) .none kV_serial dc_serial pm_serial an_serial cd_serial ct_serial), sl_serial⟩)
    (c_serial : PySem.W.codeIn K cd_serial "serial_run" = true)
    (k_serial : PySem.W.keepIn K (.ref f_serial) = true)
    (a_ninit : PySem.W.findIn K (.ref CS) "__init__" = some (some (.ref f_ninit)))
    (i_ninit : PySem.W.isFn K (.ref f_ninit) = true)
    (l_ninit : K.lookup f_ninit = some ⟨oc_ninit, od_ninit, .func (PySem.W.fnOf "__init__" "Snapshot.__init__" (defArgs sNInit) (defBody sNInit) (defScope sNInit) .none kV_ninit dc_ninit pm_ninit an_ninit cd_ninit ct_ninit), sl_ninit⟩)
    (c_ninit : PySem.W.codeIn K cd_ninit "Snapshot.__init__" = true)
    (k_ninit : PySem.W.keepIn K (.ref f_ninit) = true)
    (a_rinit : PySem.W.findIn K (.ref CR) "__init__" = some (some (.ref f_rinit)))
    (i_rinit : PySem.W.isFn K (.ref f_rinit) = true)
    (l_rinit : K.lookup f_rinit = some ⟨oc_rinit, od_rinit, .func (PySem.W.fnOf "__init__" "SnapshotRun.__init__" (defArgs sRInit) (defBody sRInit) (defScope sRInit) .none kV_rinit dc_rinit pm_rinit an_rinit cd_rinit ct_rinit), sl_rinit⟩)
    (c_rinit : PySem.W.codeIn K cd_rinit "SnapshotRun.__init__" = true)
    (k_rinit : PySem.W.keepIn K (.ref f_rinit) = true)
    (a_own : PySem.W.findIn K (.ref CR) "own" = some (some (.ref f_own)))
    (i_own : PySem.W.isFn K (.ref f_own) = true)
    (l_own : K.lookup f_own = some ⟨oc_own, od_own, .func (PySem.W.fnOf "own" "SnapshotRun.own" (defArgs sOwn) (defBody sOwn) (defScope sOwn) .none kV_own dc_own pm_own an_own cd_own ct_own), sl_own⟩)
    (c_own : PySem.W.codeIn K cd_own "SnapshotRun.own" = true)
    (k_own : PySem.W.keepIn K (.ref f_own) = true)
    (a_rstep : PySem.W.findIn K (.ref CR) "do_step" = some (some (.ref f_rstep)))
    (i_rstep : PySem.W.isFn K (.ref f_rstep) = true)
    (l_rstep : K.lookup f_rstep = some ⟨oc_rstep, od_rstep, .func (PySem.W.fnOf "do_step" "SnapshotRun.do_step" (defArgs sStep) (defBody sStep) (defScope sStep) .none kV_rstep dc_rstep pm_rstep an_rstep cd_rstep ct_rstep), sl_rstep⟩)
    (c_rstep : PySem.W.codeIn K cd_rstep "SnapshotRun.do_step" = true)
    (k_rstep : PySem.W.keepIn K (.ref f_rstep) = true)
    (a_late : PySem.W.findIn K (.ref CR) "is_late" = some (some (.ref f_late)))
    (i_late : PySem.W.isFn K (.ref f_late) = true)
    (l_late : K.lookup f_late = some ⟨oc_late, od_late, .func (PySem.W.fnOf "is_late" "SnapshotRun.is_late" (defArgs sLate) (defBody sLate) (defScope sLate) .none kV_late dc_late pm_late an_late cd_late ct_late), sl_late⟩)
    (c_late : PySem.W.codeIn K cd_late "SnapshotRun.is_late" = true)
    (k_late : PySem.W.keepIn K (.ref f_late) = true)
    (a_end : PySem.W.findIn K (.ref CR) "end" = some (some (.ref f_end)))
    (i_end : PySem.W.isFn K (.ref f_end) = true)
    (l_end : K.lookup f_end = some ⟨oc_end, od_end, .func (PySem.W.fnOf "end" "SnapshotRun.end" (defArgs sEnd) (defBody sEnd) (defScope sEnd) .none kV_end dc_end pm_end an_end cd_end ct_end), sl_end⟩)
    (c_end : PySem.W.codeIn K cd_end "SnapshotRun.end" = true)
    (k_end : PySem.W.keepIn K (.ref f_end) = true)
    (a_turn : PySem.W.findIn K (.ref CR) "turn" = some (some (.ref f_turn)))
    (i_turn : PySem.W.isFn K (.ref f_turn) = true)
    (l_turn : K.lookup f_turn = some ⟨oc_turn, od_turn, .func (PySem.W.fnOf "turn" "SnapshotRun.turn" (defArgs sTurn) (defBody sTurn) (defScope sTurn) .none kV_turn dc_turn pm_turn an_turn cd_turn ct_turn), sl_turn⟩)
    (c_turn : PySem.W.codeIn K cd_turn "SnapshotRun.turn" = true)
    (k_turn : PySem.W.keepIn K (.ref f_turn) = true)
    (a_fin : PySem.W.nsIn K mainGlobals "finished_run" = some (some (.ref f_fin)))
    (l_fin : K.lookup f_fin = some ⟨oc_fin, od_fin, .func (PySem.W.fnOf "finished_run" "finished_run" (defArgs sFin) (defBody sFin) (defScope sFin) .none kV_fin dc_fin pm_fin an_fin cd_fin ct_fin), sl_fin⟩)
    (c_fin : PySem.W.codeIn K cd_fin "finished_run" = true)
    (k_fin : PySem.W.keepIn K (.ref f_fin) = true)
    (a_snap : PySem.W.nsIn K mainGlobals "snapshot_run" = some (some (.ref f_snap)))
    (l_snap : K.lookup f_snap = some ⟨oc_snap, od_snap, .func (PySem.W.fnOf "snapshot_run" "snapshot_run" (defArgs sSnapRun) (defBody sSnapRun) (defScope sSnapRun) .none kV_snap dc_snap pm_snap an_snap cd_snap ct_snap), sl_snap⟩)
    (c_snap : PySem.W.codeIn K cd_snap "snapshot_run" = true)
    (k_snap : PySem.W.keepIn K (.ref f_snap) = true)
    (a_kinds : PySem.W.nsIn K mainGlobals "kinds_between" = some (some (.ref f_kinds)))
    (l_kinds : K.lookup f_kinds = some ⟨oc_kinds, od_kinds, .func (PySem.W.fnOf "kinds_between" "kinds_between" (defArgs sKinds) (defBody sKinds) (defScope sKinds) .none kV_kinds dc_kinds pm_kinds an_kinds cd_kinds ct_kinds), sl_kinds⟩)
    (c_kinds : PySem.W.codeIn K cd_kinds "kinds_between" = true)
    (k_kinds : PySem.W.keepIn K (.ref f_kinds) = true)
    (a_deps : PySem.W.nsIn K mainGlobals "dependencies" = some (some (.ref f_deps)))
    (l_deps : K.lookup f_deps = some ⟨oc_deps, od_deps, .func (PySem.W.fnOf "dependencies" "dependencies" (defArgs sDeps) (defBody sDeps) (defScope sDeps) .none kV_deps dc_deps pm_deps an_deps cd_deps ct_deps), sl_deps⟩)
    (c_deps : PySem.W.codeIn K cd_deps "dependencies" = true)
    (k_deps : PySem.W.keepIn K (.ref f_deps) = true)
    (a_skew : PySem.W.nsIn K mainGlobals "skew" = some (some (.ref f_skew)))
    (l_skew : K.lookup f_skew = some ⟨oc_skew, od_skew, .func (PySem.W.fnOf "skew" "skew" (defArgs sSkew) (defBody sSkew) (defScope sSkew) .none kV_skew dc_skew pm_skew an_skew cd_skew ct_skew), sl_skew⟩)
    (c_skew : PySem.W.codeIn K cd_skew "skew" = true)
    (k_skew : PySem.W.keepIn K (.ref f_skew) = true)
    (a_law : PySem.W.nsIn K mainGlobals "law" = some (some (.ref f_law)))
    (l_law : K.lookup f_law = some ⟨oc_law, od_law, .func (PySem.W.fnOf "law" "law" (defArgs sLaw) (defBody sLaw) (defScope sLaw) .none kV_law dc_law pm_law an_law cd_law ct_law), sl_law⟩)
    (c_law : PySem.W.codeIn K cd_law "law" = true)
    (k_law : PySem.W.keepIn K (.ref f_law) = true)
    (pg_CW : PySem.W.plainGet K CW Str.empty = true)
    (hd_CW : PySem.W.hasDictIn K CW = true)
    (po_CW : PySem.W.plainOver K CW = true)
    (sa_CW : PySem.W.findIn K (.ref CW) "__setattr__" = some (some (.builtin "object.__setattr__")))
    (mk_CW : PySem.W.makesIn K CW = true)
    (kc_CW : PySem.W.keepIn K (.ref CW) = true)
    (n_CW_amounts : PySem.W.findIn K (.ref CW) "amounts" = some none)
    (n_CW_sums : PySem.W.findIn K (.ref CW) "sums" = some none)
    (n_CW_before : PySem.W.findIn K (.ref CW) "before" = some none)
    (n_CW_schedule : PySem.W.findIn K (.ref CW) "schedule" = some none)
    (pg_CS : PySem.W.plainGet K CS Str.empty = true)
    (hd_CS : PySem.W.hasDictIn K CS = true)
    (po_CS : PySem.W.plainOver K CS = true)
    (sa_CS : PySem.W.findIn K (.ref CS) "__setattr__" = some (some (.builtin "object.__setattr__")))
    (mk_CS : PySem.W.makesIn K CS = true)
    (kc_CS : PySem.W.keepIn K (.ref CS) = true)
    (n_CS_amounts : PySem.W.findIn K (.ref CS) "amounts" = some none)
    (n_CS_writers : PySem.W.findIn K (.ref CS) "writers" = some none)
    (n_CS_moment : PySem.W.findIn K (.ref CS) "moment" = some none)
    (n_CS_total : PySem.W.findIn K (.ref CS) "total" = some none)
    (n_CS_writes : PySem.W.findIn K (.ref CS) "writes" = some none)
    (n_CS_seen : PySem.W.findIn K (.ref CS) "seen" = some none)
    (n_CS_place : PySem.W.findIn K (.ref CS) "place" = some none)
    (pg_CR : PySem.W.plainGet K CR Str.empty = true)
    (hd_CR : PySem.W.hasDictIn K CR = true)
    (po_CR : PySem.W.plainOver K CR = true)
    (sa_CR : PySem.W.findIn K (.ref CR) "__setattr__" = some (some (.builtin "object.__setattr__")))
    (mk_CR : PySem.W.makesIn K CR = true)
    (kc_CR : PySem.W.keepIn K (.ref CR) = true)
    (n_CR_scripts : PySem.W.findIn K (.ref CR) "scripts" = some none)
    (n_CR_amounts : PySem.W.findIn K (.ref CR) "amounts" = some none)
    (n_CR_writers : PySem.W.findIn K (.ref CR) "writers" = some none)
    (n_CR_commits : PySem.W.findIn K (.ref CR) "commits" = some none)
    (n_CR_snapshots : PySem.W.findIn K (.ref CR) "snapshots" = some none)
    (n_CR_over : PySem.W.findIn K (.ref CR) "over" = some none)
    (n_CR_events : PySem.W.findIn K (.ref CR) "events" = some none)
    (z_len : PySem.W.nsIn K mainGlobals "len" = some none)
    (z_range : PySem.W.nsIn K mainGlobals "range" = some none)
    (z_sorted : PySem.W.nsIn K mainGlobals "sorted" = some none)
    (z_min : PySem.W.nsIn K mainGlobals "min" = some none)
    (z_dict : PySem.W.nsIn K mainGlobals "dict" = some none)
    (z_any : PySem.W.nsIn K mainGlobals "any" = some none)
    (z_list : PySem.W.nsIn K mainGlobals "list" = some none)
    (z_enumerate : PySem.W.nsIn K mainGlobals "enumerate" = some none)
    : ∃ fd : FuncData, (∀ (s : Shared) (v : Value), BindsTo s fd ⟨[v], []⟩ [("_law_script", v)]) ∧ ∀ base : Heap, K.In base → base.Ns mainGlobals mg → FnOk l.prog w K mg base CX0 9 fa fd ["_law_script"] (spLaw K) := by
  have e := hfa.symm.trans (PySem.W.mg_of X G a_law)
  cases e
  have T : Glb mg := ⟨PySem.W.mg_none_of X G z_len, PySem.W.mg_none_of X G z_range, PySem.W.mg_none_of X G z_sorted, PySem.W.mg_none_of X G z_min, PySem.W.mg_none_of X G z_dict, PySem.W.mg_none_of X G z_any, PySem.W.mg_none_of X G z_list, PySem.W.mg_none_of X G z_enumerate⟩
  have TW : TxtW K mg CW := ⟨⟨pg_CW, hd_CW, po_CW, sa_CW⟩, n_CW_amounts, n_CW_sums, n_CW_before, n_CW_schedule, PySem.W.mg_of X G a_CW⟩
  have TR : TxtR K mg CR CS := ⟨⟨pg_CR, hd_CR, po_CR, sa_CR⟩, n_CR_scripts, n_CR_amounts, n_CR_writers, n_CR_commits, n_CR_snapshots, n_CR_over, n_CR_events, PySem.W.mg_of X G a_CR, ⟨pg_CS, hd_CS, po_CS, sa_CS⟩, n_CS_amounts, n_CS_writers, n_CS_moment, n_CS_total, n_CS_writes, n_CS_seen, n_CS_place, PySem.W.mg_of X G a_CS⟩
  have F_cell := fun_mk (st := sCell) l_cell c_cell k_cell
  have b_cell := F_cell.binds (ps := ["_law_script", "_law_k"]) fun _ _ _ _ _ _ us hl => match us, hl with | [_, _], _ => rfl
  have m_cell := PySem.W.mg_of X G a_cell
  have F_draw := fun_mk (st := sDraw) l_draw c_draw k_draw
  have b_draw := F_draw.binds (ps := ["_law_script", "_law_k", "_law_sizes"]) fun _ _ _ _ _ _ us hl => match us, hl with | [_, _, _], _ => rfl
  have m_draw := PySem.W.mg_of X G a_draw
  have F_scripts := fun_mk (st := sScripts) l_scripts c_scripts k_scripts
  have b_scripts := F_scripts.binds (ps := ["_law_script", "_law_k"]) fun _ _ _ _ _ _ us hl => match us, hl with | [_, _], _ => rfl
  have m_scripts := PySem.W.mg_of X G a_scripts
  have F_weaving := fun_mk (st := sWeaving) l_weaving c_weaving k_weaving
  have b_weaving := F_weaving.binds (ps := ["_law_script", "_law_k", "_law_many"]) fun _ _ _ _ _ _ us hl => match us, hl with | [_, _, _], _ => rfl
  have m_weaving := PySem.W.mg_of X G a_weaving
  have F_told := fun_mk (st := sTold) l_told c_told k_told
  have b_told := F_told.binds (ps := ["values"]) fun _ _ _ _ _ _ us hl => match us, hl with | [_], _ => rfl
  have m_told := PySem.W.mg_of X G a_told
  have F_order := fun_mk (st := sOrderOf) l_order c_order k_order
  have b_order := F_order.binds (ps := ["numbers", "pairs"]) fun _ _ _ _ _ _ us hl => match us, hl with | [_, _], _ => rfl
  have m_order := PySem.W.mg_of X G a_order
  have F_closing := fun_mk (st := sClosing) l_closing c_closing k_closing
  have b_closing := F_closing.binds (ps := ["pairs", "row", "size"]) fun _ _ _ _ _ _ us hl => match us, hl with | [_, _, _], _ => rfl
  have m_closing := PySem.W.mg_of X G a_closing
  have F_ring := fun_mk (st := sRingIn) l_ring c_ring k_ring
  have b_ring := F_ring.binds (ps := ["pairs"]) fun _ _ _ _ _ _ us hl => match us, hl with | [_], _ => rfl
  have m_ring := PySem.W.mg_of X G a_ring
  have F_winit := fun_mk (st := sWInit) l_winit c_winit k_winit
  have b_winit := F_winit.binds (ps := ["self"]) fun _ _ _ _ _ _ us hl => match us, hl with | [_], _ => rfl
  have F_wstep := fun_mk (st := sWStep) l_wstep c_wstep k_wstep
  have b_wstep := F_wstep.binds (ps := ["self", "t", "step"]) fun _ _ _ _ _ _ us hl => match us, hl with | [_, _, _], _ => rfl
  have F_serial := fun_mk (st := sSerial) l_serial c_serial k_serial
  have b_serial := F_serial.binds (ps := ["scripts", "order"]) fun _ _ _ _ _ _ us hl => match us, hl with | [_, _], _ => rfl
  have m_serial := PySem.W.mg_of X G a_serial
  have F_ninit := fun_mk (st := sNInit) l_ninit c_ninit k_ninit
  have b_ninit := F_ninit.binds (ps := ["self", "values", "writers", "moment"]) fun _ _ _ _ _ _ us hl => match us, hl with | [_, _, _, _], _ => rfl
  have F_rinit := fun_mk (st := sRInit) l_rinit c_rinit k_rinit
  have b_rinit := F_rinit.binds (ps := ["self", "scripts"]) fun _ _ _ _ _ _ us hl => match us, hl with | [_, _], _ => rfl
  have F_own := fun_mk (st := sOwn) l_own c_own k_own
  have b_own := F_own.binds (ps := ["self", "t"]) fun _ _ _ _ _ _ us hl => match us, hl with | [_, _], _ => rfl
  have F_rstep := fun_mk (st := sStep) l_rstep c_rstep k_rstep
  have b_rstep := F_rstep.binds (ps := ["self", "t", "step"]) fun _ _ _ _ _ _ us hl => match us, hl with | [_, _, _], _ => rfl
  have F_late := fun_mk (st := sLate) l_late c_late k_late
  have b_late := F_late.binds (ps := ["self", "mine"]) fun _ _ _ _ _ _ us hl => match us, hl with | [_, _], _ => rfl
  have F_end := fun_mk (st := sEnd) l_end c_end k_end
  have b_end := F_end.binds (ps := ["self", "t"]) fun _ _ _ _ _ _ us hl => match us, hl with | [_, _], _ => rfl
  have F_turn := fun_mk (st := sTurn) l_turn c_turn k_turn
  have b_turn := F_turn.binds (ps := ["self", "t"]) fun _ _ _ _ _ _ us hl => match us, hl with | [_, _], _ => rfl
  have F_fin := fun_mk (st := sFin) l_fin c_fin k_fin
  have b_fin := F_fin.binds (ps := ["scripts", "weaving"]) fun _ _ _ _ _ _ us hl => match us, hl with | [_, _], _ => rfl
  have m_fin := PySem.W.mg_of X G a_fin
  have F_snap := fun_mk (st := sSnapRun) l_snap c_snap k_snap
  have b_snap := F_snap.binds (ps := ["scripts", "weaving"]) fun _ _ _ _ _ _ us hl => match us, hl with | [_, _], _ => rfl
  have m_snap := PySem.W.mg_of X G a_snap
  have F_kinds := fun_mk (st := sKinds) l_kinds c_kinds k_kinds
  have b_kinds := F_kinds.binds (ps := ["run", "t", "u"]) fun _ _ _ _ _ _ us hl => match us, hl with | [_, _, _], _ => rfl
  have m_kinds := PySem.W.mg_of X G a_kinds
  have F_deps := fun_mk (st := sDeps) l_deps c_deps k_deps
  have b_deps := F_deps.binds (ps := ["scripts", "weaving"]) fun _ _ _ _ _ _ us hl => match us, hl with | [_, _], _ => rfl
  have m_deps := PySem.W.mg_of X G a_deps
  have F_skew := fun_mk (st := sSkew) l_skew c_skew k_skew
  have b_skew := F_skew.binds (ps := ["scripts", "weaving"]) fun _ _ _ _ _ _ us hl => match us, hl with | [_, _], _ => rfl
  have m_skew := PySem.W.mg_of X G a_skew
  have F_law := fun_mk (st := sLaw) l_law c_law k_law
  have M : Meths K mg CR CS := { fI := f_rinit, fN := f_ninit, fO := f_own, fS := f_rstep, fL := f_late, fE := f_end, fT := f_turn, dI := _, dN := _, dO := _, dS := _, dL := _, dE := _, dT := _, FI := F_rinit, bI := b_rinit, MR := ⟨mk_CR, a_rinit, i_rinit, kc_CR⟩, MS := ⟨mk_CS, a_ninit, i_ninit, kc_CS⟩, FN := F_ninit, bN := b_ninit, FO := F_own, bO := b_own, mO := ⟨a_own, i_own, k_own⟩, FS := F_rstep, bS := b_rstep, mS := ⟨a_rstep, i_rstep, k_rstep⟩, FL := F_late, bL := b_late, mL := ⟨a_late, i_late, k_late⟩, FE := F_end, bE := b_end, mE := ⟨a_end, i_end, k_end⟩, FT := F_turn, bT := b_turn, mT := ⟨a_turn, i_turn, k_turn⟩ }
  refine ⟨PySem.W.fnOf "law" "law" (defArgs sLaw) (defBody sLaw) (defScope sLaw) .none kV_law dc_law pm_law an_law cd_law ct_law, fun s v => .of_eq rfl, fun base _ _ => ?_⟩
  have G_ring : FnOk l.prog w K mg base CX0 7 f_ring _ ["pairs"] (spRingIn K) := ok_ringIn F_ring T F_closing b_closing m_closing
  have G_deps : FnOk l.prog w K mg base CX0 7 f_deps _ ["scripts", "weaving"] (spDeps K) := ok_deps F_deps T TR M F_kinds b_kinds m_kinds F_fin b_fin m_fin
  have C : Calls l.prog w K mg base := { fS := f_scripts, fW := f_weaving, fP := f_snap, fD := f_deps, fK := f_skew, fO := f_order, fR := f_serial, dS := _, dW := _, dP := _, dD := _, dK := _, dO := _, dR := _, GS := ok_scripts F_scripts T F_cell b_cell m_cell F_draw b_draw m_draw, kS := k_scripts, bS := b_scripts, mS := m_scripts, GW := ok_weaving F_weaving T F_cell b_cell m_cell F_draw b_draw m_draw, kW := k_weaving, bW := b_weaving, mW := m_weaving, GP := ok_snapRun F_snap T TR M F_told b_told m_told F_fin b_fin m_fin, kP := k_snap, bP := b_snap, mP := m_snap, GD := G_deps, kD := k_deps, bD := b_deps, mD := m_deps, GK := ok_skew F_skew T G_ring k_ring b_ring m_ring G_deps k_deps b_deps m_deps, kK := k_skew, bK := b_skew, mK := m_skew, GO := ok_orderOf F_order T, kO := k_order, bO := b_order, mO := m_order, GR := ok_serial F_serial T TW F_told b_told m_told ⟨mk_CW, a_winit, i_winit, kc_CW⟩ F_winit b_winit F_wstep b_wstep ⟨a_wstep, i_wstep, k_wstep⟩, kR := k_serial, bR := b_serial, mR := m_serial }
  exact ok_law F_law T C
theorem walk {l : PySem.W.OpenLaw} {q : Program} {loose : List Str} {XP : (Str → Option Value) → Heap → Prop} {YP : World → Heap → Prop} {d : DefRec} {K : Params → PySem.W.Frag} (hn : l.most = some 63) (hdf : d.params.defaults = [])
    (hY : ∀ (w : World) (h : Heap), YP w h → (K w.params).In h)
    (F : ∀ (w : World) (mg : Str → Option Value) (fa : Addr) (h : Heap), (K w.params).In h → h.Ns mainGlobals mg → mg d.name = some (.ref fa) →
      ∃ fd : FuncData, (∀ (s : Shared) (u : Value), BindsTo s fd ⟨[u], []⟩ [("_law_script", u)]) ∧ ∀ base : Heap, (K w.params).In base → base.Ns mainGlobals mg → FnOk l.prog w (K w.params) mg base CX0 9 fa fd ["_law_script"] (spLaw (K w.params))) :
    PySem.W.WalkO q loose XP YP l.row.toRowW d [] (fun f vs => PySem.call f vs) :=
  L2.walk_of (n := 63) (k := 9) (x := "_law_script") (CX := fun _ => CX0) (sp := fun w => spLaw (K w.params)) hn (by decide) hdf ⟨rfl, by decide, by decide⟩ hY F (fun _ _ a ns hl _ hS => ⟨a, ns, rfl, hS, hl, fun _ => rfl⟩) fun _ _ _ _ _ z => z
end Ok

open PySem PySem.W PyProof.Rows in
set_option maxRecDepth 100000 in
set_option maxHeartbeats 0 in
theorem PySem.Challenge.cw_ordershown_k58_whole_without_skew_some_o_holds : PySem.Challenge.rw_ordershown_k58_whole_without_skew_some_o.Holds := by
  w_on; o_law; k_head; (case hw => w_witness2)
  k_fill
  refine Ok.walk (l := PySem.Challenge.rw_ordershown_k58_whole_without_skew_some_o) rfl rfl (fun w h Y => PySem.W.kIn_of Y) ?F
  case F =>
    intro w mg fa h KX G hmg
    refine' Ok.all_mk KX G hmg ?a_CW ?a_CS ?a_CR ?a_cell ?l_cell ?c_cell ?k_cell ?a_draw ?l_draw ?c_draw ?k_draw ?a_scripts ?l_scripts ?c_scripts ?k_scripts ?a_weaving ?l_weaving ?c_weaving ?k_weaving ?a_told ?l_told ?c_told ?k_told ?a_order ?l_order ?c_order ?k_order ?a_closing ?l_closing ?c_closing ?k_closing ?a_ring ?l_ring ?c_ring ?k_ring ?a_winit ?i_winit ?l_winit ?c_winit ?k_winit ?a_wstep ?i_wstep ?l_wstep ?c_wstep ?k_wstep ?a_serial ?l_serial ?c_serial ?k_serial ?a_ninit ?i_ninit ?l_ninit ?c_ninit ?k_ninit ?a_rinit ?i_rinit ?l_rinit ?c_rinit ?k_rinit ?a_own ?i_own ?l_own ?c_own ?k_own ?a_rstep ?i_rstep ?l_rstep ?c_rstep ?k_rstep ?a_late ?i_late ?l_late ?c_late ?k_late ?a_end ?i_end ?l_end ?c_end ?k_end ?a_turn ?i_turn ?l_turn ?c_turn ?k_turn ?a_fin ?l_fin ?c_fin ?k_fin ?a_snap ?l_snap ?c_snap ?k_snap ?a_kinds ?l_kinds ?c_kinds ?k_kinds ?a_deps ?l_deps ?c_deps ?k_deps ?a_skew ?l_skew ?c_skew ?k_skew ?a_law ?l_law ?c_law ?k_law ?pg_CW ?hd_CW ?po_CW ?sa_CW ?mk_CW ?kc_CW ?n_CW_amounts ?n_CW_sums ?n_CW_before ?n_CW_schedule ?pg_CS ?hd_CS ?po_CS ?sa_CS ?mk_CS ?kc_CS ?n_CS_amounts ?n_CS_writers ?n_CS_moment ?n_CS_total ?n_CS_writes ?n_CS_seen ?n_CS_place ?pg_CR ?hd_CR ?po_CR ?sa_CR ?mk_CR ?kc_CR ?n_CR_scripts ?n_CR_amounts ?n_CR_writers ?n_CR_commits ?n_CR_snapshots ?n_CR_over ?n_CR_events ?z_len ?z_range ?z_sorted ?z_min ?z_dict ?z_any ?z_list ?z_enumerate
    (case a_CW => k_is)
    (case a_CS => k_is)
    (case a_CR => k_is)
    (case a_cell => k_is)
    (case l_cell => k_is)
    (case c_cell => k_is)
    (case k_cell => k_is)
    (case a_draw => k_is)
    (case l_draw => k_is)
    (case c_draw => k_is)
    (case k_draw => k_is)
    (case a_scripts => k_is)
    (case l_scripts => k_is)
    (case c_scripts => k_is)
    (case k_scripts => k_is)
    (case a_weaving => k_is)
    (case l_weaving => k_is)
    (case c_weaving => k_is)
    (case k_weaving => k_is)
    (case a_told => k_is)
    (case l_told => k_is)
    (case c_told => k_is)
    (case k_told => k_is)
    (case a_order => k_is)
    (case l_order => k_is)
    (case c_order => k_is)
    (case k_order => k_is)
    (case a_closing => k_is)
    (case l_closing => k_is)
    (case c_closing => k_is)
    (case k_closing => k_is)
    (case a_ring => k_is)
    (case l_ring => k_is)
    (case c_ring => k_is)
    (case k_ring => k_is)
    (case a_winit => k_is)
    (case i_winit => k_is)
    (case l_winit => k_is)
    (case c_winit => k_is)
    (case k_winit => k_is)
    (case a_wstep => k_is)
    (case i_wstep => k_is)
    (case l_wstep => k_is)
    (case c_wstep => k_is)
    (case k_wstep => k_is)
    (case a_serial => k_is)
    (case l_serial => k_is)
    (case c_serial => k_is)
    (case k_serial => k_is)
    (case a_ninit => k_is)
    (case i_ninit => k_is)
    (case l_ninit => k_is)
    (case c_ninit => k_is)
    (case k_ninit => k_is)
    (case a_rinit => k_is)
    (case i_rinit => k_is)
    (case l_rinit => k_is)
    (case c_rinit => k_is)
    (case k_rinit => k_is)
    (case a_own => k_is)
    (case i_own => k_is)
    (case l_own => k_is)
    (case c_own => k_is)
    (case k_own => k_is)
    (case a_rstep => k_is)
    (case i_rstep => k_is)
    (case l_rstep => k_is)
    (case c_rstep => k_is)
    (case k_rstep => k_is)
    (case a_late => k_is)
    (case i_late => k_is)
    (case l_late => k_is)
    (case c_late => k_is)
    (case k_late => k_is)
    (case a_end => k_is)
    (case i_end => k_is)
    (case l_end => k_is)
    (case c_end => k_is)
    (case k_end => k_is)
    (case a_turn => k_is)
    (case i_turn => k_is)
    (case l_turn => k_is)
    (case c_turn => k_is)
    (case k_turn => k_is)
    (case a_fin => k_is)
    (case l_fin => k_is)
    (case c_fin => k_is)
    (case k_fin => k_is)
    (case a_snap => k_is)
    (case l_snap => k_is)
    (case c_snap => k_is)
    (case k_snap => k_is)
    (case a_kinds => k_is)
    (case l_kinds => k_is)
    (case c_kinds => k_is)
    (case k_kinds => k_is)
    (case a_deps => k_is)
    (case l_deps => k_is)
    (case c_deps => k_is)
    (case k_deps => k_is)
    (case a_skew => k_is)
    (case l_skew => k_is)
    (case c_skew => k_is)
    (case k_skew => k_is)
    (case a_law => k_is)
    (case l_law => k_is)
    (case c_law => k_is)
    (case k_law => k_is)
    (case pg_CW => k_is)
    (case hd_CW => k_is)
    (case po_CW => k_is)
    (case sa_CW => k_is)
    (case mk_CW => k_is)
    (case kc_CW => k_is)
    (case n_CW_amounts => k_is)
    (case n_CW_sums => k_is)
    (case n_CW_before => k_is)
    (case n_CW_schedule => k_is)
    (case pg_CS => k_is)
    (case hd_CS => k_is)
    (case po_CS => k_is)
    (case sa_CS => k_is)
    (case mk_CS => k_is)
    (case kc_CS => k_is)
    (case n_CS_amounts => k_is)
    (case n_CS_writers => k_is)
    (case n_CS_moment => k_is)
    (case n_CS_total => k_is)
    (case n_CS_writes => k_is)
    (case n_CS_seen => k_is)
    (case n_CS_place => k_is)
    (case pg_CR => k_is)
    (case hd_CR => k_is)
    (case po_CR => k_is)
    (case sa_CR => k_is)
    (case mk_CR => k_is)
    (case kc_CR => k_is)
    (case n_CR_scripts => k_is)
    (case n_CR_amounts => k_is)
    (case n_CR_writers => k_is)
    (case n_CR_commits => k_is)
    (case n_CR_snapshots => k_is)
    (case n_CR_over => k_is)
    (case n_CR_events => k_is)
    (case z_len => k_is)
    (case z_range => k_is)
    (case z_sorted => k_is)
    (case z_min => k_is)
    (case z_dict => k_is)
    (case z_any => k_is)
    (case z_list => k_is)
    (case z_enumerate => k_is)
#print axioms PySem.Challenge.cw_ordershown_k58_whole_without_skew_some_o_holds
