/-
  DERIVED. Good lenses: rows of bare surfaces.
-/
import Derived.Test.YthommhfppeonpaaGreatDoorJDrH
namespace Go.Proofs.YthommhfppeonpaaGreatDoor
open Go.RowKit

/-- a surface without coating -/
def BareR : Rep Surf := fun _ _ s cs => cs = cells22 s none 0 0 ∧ s.glass.size ≤ 9223372036854775807
theorem bareOk : RepOk 22 BareR where
  len := by rintro S w x cs ⟨rfl, _⟩; rfl
  kept := by rintro S T w w' x cs h _ _; exact h
  one := by rintro S w x cs ⟨rfl, _⟩ v hv; unfold cells22 at hv; simp only [List.mem_cons, List.not_mem_nil, or_false] at hv; rcases hv with rfl | rfl | rfl | rfl | rfl | rfl | rfl | rfl | rfl | rfl | rfl | rfl | rfl | rfl | rfl | rfl | rfl | rfl | rfl | rfl | rfl | rfl <;> rfl

theorem OwnR.bare {T : TypeId} {base : Nat} {w : World} {v : Value} {l : List Surf} (h : OwnR BareR 22 T base w v l) : OwnR SurfR 22 T base w v (l.map fun s => ⟨s, []⟩) := by
  obtain ⟨css, h1, h2, h3, h4⟩ := h
  refine ⟨css, by simpa using h1, h2, by simpa using h3, fun i x cs hx hc => ?_⟩
  rw [List.getElem?_map] at hx
  obtain ⟨s, hs, rfl⟩ := Option.map_eq_some_iff.1 hx
  obtain ⟨rfl, hg⟩ := h4 i s cs hs hc
  exact ⟨none, 0, 0, rfl, IRp.nil _ _ _ _ _, by omega, fun _ => rfl, hg⟩

/-- a row just made -/
theorem own_lit {w : World} {g base : Nat} (l : List Surf) (h : w.heap[g]? = some (.cells (l.map (cells22 · none 0 0)).flatten.toArray 92 (0, 0))) (hb : base ≤ g) (hl : l.length ≤ 1000) (hgl : ∀ s ∈ l, s.glass.size ≤ 9223372036854775807) :
    OwnR BareR 22 92 base w (.slice (some ⟨g, 0, none⟩) l.length l.length) l := by
  have hc : ∀ c ∈ l.map (cells22 · none 0 0), c.length = 22 := by
    intro c hc
    obtain ⟨s, _, rfl⟩ := List.mem_map.1 hc
    rfl
  have hf := length_flatten _ hc
  rw [List.length_map] at hf
  refine ⟨l.map (cells22 · none 0 0), by simp, hc, ⟨hf, .inr ⟨g, l.length, _, rfl, hb, h, Nat.le_refl _, by unfold maxLen; omega, by simpa using hf, ?_⟩⟩, fun i x cs hx hd => ?_⟩
  · rw [List.take_of_length_le]
    rw [List.toList_toArray, hf]; exact Nat.le_refl _
  · rw [List.getElem?_map, hx] at hd
    cases hd
    exact ⟨rfl, hgl x (List.mem_of_getElem? hx)⟩

/-- some bare surfaces appended -/
theorem wpList_append_bare {ops : Array Oper} {rest : List Oper} {o : Oper} {a : Act} {Q : Exit → Act → World → Prop} {w : World} (hgd : o.guard = none) (s x : Operand)
    (ho : o.op = .call { callee := .builtin .append, args := #[s, x], argTypes := #[45, 45] }) (base : Nat) (v : Value) (l l' : List Surf) {g m : Nat} (hm : l'.length = m) (h0 : 0 < m)
    (hs : a.eval s = v) (hrow : OwnR BareR 22 92 base w v l) (hx : a.eval x = .slice (some ⟨g, 0, none⟩) m m) (hg : w.heap[g]? = some (.cells (l'.map (cells22 · none 0 0)).flatten.toArray 92 (0, 0))) (hgl : ∀ s ∈ l', s.glass.size ≤ 9223372036854775807) (hlen : l.length + m ≤ 1000) (hbase : base ≤ w.heap.size)
    (h : ∀ g cap w', OwnR BareR 22 92 base w' (.slice (some ⟨g, 0, none⟩) (l.length + m) cap) (l ++ l') → (∀ B w0, B ≤ base → Below B w0 w → Below B w0 w') → wpList Tryz.prog ops Q rest (a.put o.dst (.slice (some ⟨g, 0, none⟩) (l.length + m) cap)) w') :
    wpList Tryz.prog ops Q (o :: rest) a w := by
  obtain ⟨css, h1, h2, h3, h4⟩ := id hrow
  obtain ⟨i, hi1, hi2, hi3, hi4⟩ := info_of Tryz.infoSurf3
  have hc : ∀ c ∈ l'.map (cells22 · none 0 0), c.length = 22 := by
    intro c hc
    obtain ⟨s, _, rfl⟩ := List.mem_map.1 hc
    rfl
  have hf := length_flatten _ hc
  rw [List.length_map, hm] at hf
  have hone : ∀ u ∈ (l'.map (cells22 · none 0 0)).flatten, u.oneCell' = true := by
    intro u hu
    obtain ⟨c, hc, hu⟩ := List.mem_flatten.1 hu
    obtain ⟨s, hs, rfl⟩ := List.mem_map.1 hc
    exact bareOk.one (S := fun _ => True) (w := w) (x := s) ⟨rfl, hgl s hs⟩ u hu
  refine wpList_plain hgd fun K hK => ?_
  refine wp_append_lies _ s x 45 ho base 92 i _ 22 200 Tryz.underlying45 hi1 hi2 hi3 hi4 rfl (by omega) v l.length css.flatten hs h3
    ⟨g, 0, none⟩ m m (l'.map (cells22 · none 0 0)).flatten hx hf (World.news_of_block (cs := (l'.map (cells22 · none 0 0)).flatten.toArray) (t := 92) (fr := (0, 0)) hg) hone
    (by omega) (by unfold maxLen; omega) (by omega) hbase _ rfl ?_
  intro g' cap' w' hown hgrow hat hlt
  refine hK _ _ (h g' cap' w' ?_ ?_)
  · subst hm
    refine OwnR.grown (l' := l') (ds := l'.map (cells22 · none 0 0)) bareOk ⟨h1, h2, h4⟩ ⟨by simp, hc, fun i x ds hx hd => ?_⟩ (by simpa using hown) hgrow hat
    rw [List.getElem?_map, hx] at hd
    cases hd
    exact ⟨rfl, hgl x (List.mem_of_getElem? hx)⟩
  · intro B w0 hB hb
    refine hb.grown hgrow (by omega) (fun k hk => ?_)
    have := h3.lt k hk
    omega

def goodS (c t sm : Int) (g : Nat) : Surf := { surf0 with kind := 1, curv := c, thick := t, glass := glassN g, semi := sm }
theorem good_ok {c t sm : Int} {g : Nat} (hc : -1000000000 ≤ c ∧ c ≤ 1000000000) (ht : -1000000000 ≤ t ∧ t ≤ 1000000000) (hs : 0 ≤ sm ∧ sm ≤ 1000000000) (hs0 : 0 < sm) (hg : g < 5) : okC ⟨goodS c t sm g, []⟩ = true := by
  unfold okC; simp only [List.length_nil, Nat.zero_div]; show okS (goodS c t sm g) [] 0 = true
  refine ok_of rfl (by simp) rfl ?_ ?_
  · constructor <;> first | exact glass_ok _ hg | (simp only [goodS, surf0]; omega)
  · simp [kindB, plainX, straightB, goodS, surf0]

theorem tdiv_in {z k B : Int} (h : -B ≤ z ∧ z ≤ B) : -B ≤ z.tdiv k ∧ z.tdiv k ≤ B := by
  have := Int.natAbs_tdiv_le_natAbs z k
  omega

end Go.Proofs.YthommhfppeonpaaGreatDoor
