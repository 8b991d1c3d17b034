/-
  DERIVED. What the listed variables give, second part: the tables told. (printed by wip/mkSqTi.py)
-/
import Derived.Test.YtgohdcccfkjooaaGreatDoorHSqTg
namespace Go.Proofs.YtgohdcccfkjooaaGreatDoor
open Go.ChangeShapes Go.WideShapes Go.ChangeAt Go.RowKit Go.WideElems Go.Maps

set_option maxRecDepth 100000 in
/-- a struct param, told -/
theorem param_told {w : World} {cs : List Value} {n : Nat} {d : DataW (List UInt8)} {q : List MemPlace} {nm : List UInt8} {z : Int} {b : UInt8} {r : List UInt8} {f0 : FuncId} (hone : ((List.range Tryz.prog.funcs.size).filter fun f => (Tryz.prog.funcs[f]?).any (·.name.toUTF8.data.toList == b :: r)) = [f0])
    (h : DataW.trod (funcToken Tryz.prog) Tryz.prog w 0 (fun _ => true) true n 116 cs = some (d, q)) (hd : d = .agg [.lit (.string nm), .lit (.int .i64 z), .held (b :: r)]) : cs = [.string (bs nm), .int .i64 z, .func (.func f0) #[] #[]] := by
  obtain ⟨xs, m, _, hx, hl, hn, hf⟩ := DataW.trod_struct Tryz.underlying116 h
  have hl3 : cs.length = 3 := hl.trans (by kernel_rfl)
  rw [Prod.mk.injEq] at hx
  match cs, hl3 with
  | [c0, c1, c2], _ =>
    have hm : xs.map (·.1) = [.lit (.string nm), .lit (.int .i64 z), .held (b :: r)] := by
      have := hx.1.symm.trans hd
      injection this
    match xs, hm with
    | [x0, x1, x2], hm =>
      simp only [List.map_cons, List.map_nil, List.cons.injEq, and_true] at hm
      obtain ⟨e0, e1, e2⟩ := hm
      have h0 := hf 0 _ rfl
      have h1 := hf 1 _ rfl
      have h2 := hf 2 _ rfl
      have c1' : Tryz.prog.cellsOf 9 = 1 := by kernel_rfl
      have c2' : Tryz.prog.cellsOf 3 = 1 := by kernel_rfl
      have c3' : Tryz.prog.cellsOf 114 = 1 := by kernel_rfl
      simp only [List.getElem?_cons_zero, List.getElem?_cons_succ] at h0 h1 h2
      obtain rfl := str_told (q := x0.2) Tryz.underlying9 (h0.trans (by rw [← e0]))
      obtain rfl := int_told (q := x1.2) Tryz.underlying3 (h1.trans (by rw [← e1]))
      obtain rfl := func_of_trod (f0 := f0) (q := x2.2) Tryz.underlying114 hone (h2.trans (by rw [← e2]))
      rfl

theorem gPar : Tryz.prog.globalNamed "monocle/sequence.params" = some 0 := by kernel_rfl
theorem tPar : (Tryz.prog.globals[0]?).map (·.type) = some 117 := by kernel_rfl
def parData : List (DataW (List UInt8)) := [.agg [.lit (.string [99, 117, 114, 118]), .lit (.int .i64 9), .held [109, 111, 110, 111, 99, 108, 101, 47, 115, 101, 113, 117, 101, 110, 99, 101, 46, 112, 97, 114, 97, 109, 115, 36, 49]], .agg [.lit (.string [99, 111, 110, 105, 99]), .lit (.int .i64 6), .held [109, 111, 110, 111, 99, 108, 101, 47, 115, 101, 113, 117, 101, 110, 99, 101, 46, 112, 97, 114, 97, 109, 115, 36, 50]], .agg [.lit (.string [99, 117, 114, 118, 120]), .lit (.int .i64 9), .held [109, 111, 110, 111, 99, 108, 101, 47, 115, 101, 113, 117, 101, 110, 99, 101, 46, 112, 97, 114, 97, 109, 115, 36, 51]], .agg [.lit (.string [99, 111, 110, 105, 99, 120]), .lit (.int .i64 6), .held [109, 111, 110, 111, 99, 108, 101, 47, 115, 101, 113, 117, 101, 110, 99, 101, 46, 112, 97, 114, 97, 109, 115, 36, 52]], .agg [.lit (.string [97, 115, 112, 104, 52]), .lit (.int .i64 6), .held [109, 111, 110, 111, 99, 108, 101, 47, 115, 101, 113, 117, 101, 110, 99, 101, 46, 112, 97, 114, 97, 109, 115, 36, 53]], .agg [.lit (.string [97, 115, 112, 104, 54]), .lit (.int .i64 6), .held [109, 111, 110, 111, 99, 108, 101, 47, 115, 101, 113, 117, 101, 110, 99, 101, 46, 112, 97, 114, 97, 109, 115, 36, 54]], .agg [.lit (.string [97, 115, 112, 104, 56]), .lit (.int .i64 6), .held [109, 111, 110, 111, 99, 108, 101, 47, 115, 101, 113, 117, 101, 110, 99, 101, 46, 112, 97, 114, 97, 109, 115, 36, 55]], .agg [.lit (.string [97, 115, 112, 104, 49, 48]), .lit (.int .i64 6), .held [109, 111, 110, 111, 99, 108, 101, 47, 115, 101, 113, 117, 101, 110, 99, 101, 46, 112, 97, 114, 97, 109, 115, 36, 56]], .agg [.lit (.string [116, 104, 105, 99, 107]), .lit (.int .i64 6), .held [109, 111, 110, 111, 99, 108, 101, 47, 115, 101, 113, 117, 101, 110, 99, 101, 46, 112, 97, 114, 97, 109, 115, 36, 57]], .agg [.lit (.string [115, 101, 109, 105]), .lit (.int .i64 6), .held [109, 111, 110, 111, 99, 108, 101, 47, 115, 101, 113, 117, 101, 110, 99, 101, 46, 112, 97, 114, 97, 109, 115, 36, 49, 48]], .agg [.lit (.string [100, 120]), .lit (.int .i64 6), .held [109, 111, 110, 111, 99, 108, 101, 47, 115, 101, 113, 117, 101, 110, 99, 101, 46, 112, 97, 114, 97, 109, 115, 36, 49, 49]], .agg [.lit (.string [100, 121]), .lit (.int .i64 6), .held [109, 111, 110, 111, 99, 108, 101, 47, 115, 101, 113, 117, 101, 110, 99, 101, 46, 112, 97, 114, 97, 109, 115, 36, 49, 50]], .agg [.lit (.string [97, 120]), .lit (.int .i64 6), .held [109, 111, 110, 111, 99, 108, 101, 47, 115, 101, 113, 117, 101, 110, 99, 101, 46, 112, 97, 114, 97, 109, 115, 36, 49, 51]], .agg [.lit (.string [97, 121]), .lit (.int .i64 6), .held [109, 111, 110, 111, 99, 108, 101, 47, 115, 101, 113, 117, 101, 110, 99, 101, 46, 112, 97, 114, 97, 109, 115, 36, 49, 52]], .agg [.lit (.string [97, 122]), .lit (.int .i64 6), .held [109, 111, 110, 111, 99, 108, 101, 47, 115, 101, 113, 117, 101, 110, 99, 101, 46, 112, 97, 114, 97, 109, 115, 36, 49, 53]], .agg [.lit (.string [112, 104, 97, 115, 101, 50]), .lit (.int .i64 3), .held [109, 111, 110, 111, 99, 108, 101, 47, 115, 101, 113, 117, 101, 110, 99, 101, 46, 112, 97, 114, 97, 109, 115, 36, 49, 54]], .agg [.lit (.string [112, 104, 97, 115, 101, 52]), .lit (.int .i64 3), .held [109, 111, 110, 111, 99, 108, 101, 47, 115, 101, 113, 117, 101, 110, 99, 101, 46, 112, 97, 114, 97, 109, 115, 36, 49, 55]]]
abbrev parD : DataW Unit := match Rows.laid_monocle_sequence_params (H := Unit) with | .iface _ d => d | d => d
theorem par_out : parD.funcsOut = .agg parData := by kernel_rfl
set_option maxRecDepth 100000 in
theorem par_told {w : World} (h : funcsAt Tryz.prog w "monocle/sequence.params" parD) : ∀ i, i < 17 → w.rangeAt 0 (i * 3) [.string (bs (pNames.getD i [])), .int .i64 (digP (i + 1) : Int), .func (.func (fnP i)) #[] #[]] := by
  obtain ⟨g, t, cs, fuel, p, hg, ht, hv, hd⟩ := h
  obtain rfl := Option.some.inj (gPar.symm.trans hg)
  obtain rfl := Option.some.inj (tPar.symm.trans ht)
  obtain ⟨xs, m, _, hx, hl, hn, hf⟩ := DataW.trod_array Tryz.underlying117 hd
  rw [Prod.mk.injEq] at hx
  have hm : xs.map (·.1) = parData := by
    have hz : DataW.agg parData = .agg (xs.map (·.1)) := par_out.symm.trans hx.1
    injection hz with hz
    exact hz.symm
  have c3 : Tryz.prog.cellsOf 116 = 3 := by kernel_rfl
  have hl51 : cs.toList.length = 51 := hl.trans (by kernel_rfl)
  have each : ∀ i, i < 17 → ∃ d q, DataW.trod (funcToken Tryz.prog) Tryz.prog w 0 (fun _ => true) true m 116 ((cs.toList.drop (i * 3)).take 3) = some (d, q) ∧ parData[i]? = some d := by
    intro i hi
    have h1 := hf i hi
    rw [c3] at h1
    have hxl : i < xs.length := by omega
    rw [List.getElem?_eq_getElem hxl] at h1
    exact ⟨xs[i].1, xs[i].2, h1, by rw [← hm, List.getElem?_map, List.getElem?_eq_getElem hxl]; rfl⟩
  have fin : ∀ i, i < 17 → ∀ a b c : Value, (cs.toList.drop (i * 3)).take 3 = [a, b, c] → w.rangeAt 0 (i * 3) [a, b, c] := by
    intro i hi a b c e j x hj
    have hj3 : j < 3 := (List.getElem?_eq_some_iff.1 hj).1
    have hc := World.var?_cell hg hv (i * 3 + j)
    rw [hc, ← hj, ← e, List.getElem?_take, if_pos hj3, List.getElem?_drop]
    simp
  intro i hi
  match i, hi with

  | 0, hi =>
    obtain ⟨d, q, h1, h2⟩ := each 0 hi
    exact fin 0 hi _ _ _ (param_told one_p1 h1 (Option.some.inj h2).symm)
  | 1, hi =>
    obtain ⟨d, q, h1, h2⟩ := each 1 hi
    exact fin 1 hi _ _ _ (param_told one_p2 h1 (Option.some.inj h2).symm)
  | 2, hi =>
    obtain ⟨d, q, h1, h2⟩ := each 2 hi
    exact fin 2 hi _ _ _ (param_told one_p3 h1 (Option.some.inj h2).symm)
  | 3, hi =>
    obtain ⟨d, q, h1, h2⟩ := each 3 hi
    exact fin 3 hi _ _ _ (param_told one_p4 h1 (Option.some.inj h2).symm)
  | 4, hi =>
    obtain ⟨d, q, h1, h2⟩ := each 4 hi
    exact fin 4 hi _ _ _ (param_told one_p5 h1 (Option.some.inj h2).symm)
  | 5, hi =>
    obtain ⟨d, q, h1, h2⟩ := each 5 hi
    exact fin 5 hi _ _ _ (param_told one_p6 h1 (Option.some.inj h2).symm)
  | 6, hi =>
    obtain ⟨d, q, h1, h2⟩ := each 6 hi
    exact fin 6 hi _ _ _ (param_told one_p7 h1 (Option.some.inj h2).symm)
  | 7, hi =>
    obtain ⟨d, q, h1, h2⟩ := each 7 hi
    exact fin 7 hi _ _ _ (param_told one_p8 h1 (Option.some.inj h2).symm)
  | 8, hi =>
    obtain ⟨d, q, h1, h2⟩ := each 8 hi
    exact fin 8 hi _ _ _ (param_told one_p9 h1 (Option.some.inj h2).symm)
  | 9, hi =>
    obtain ⟨d, q, h1, h2⟩ := each 9 hi
    exact fin 9 hi _ _ _ (param_told one_p10 h1 (Option.some.inj h2).symm)
  | 10, hi =>
    obtain ⟨d, q, h1, h2⟩ := each 10 hi
    exact fin 10 hi _ _ _ (param_told one_p11 h1 (Option.some.inj h2).symm)
  | 11, hi =>
    obtain ⟨d, q, h1, h2⟩ := each 11 hi
    exact fin 11 hi _ _ _ (param_told one_p12 h1 (Option.some.inj h2).symm)
  | 12, hi =>
    obtain ⟨d, q, h1, h2⟩ := each 12 hi
    exact fin 12 hi _ _ _ (param_told one_p13 h1 (Option.some.inj h2).symm)
  | 13, hi =>
    obtain ⟨d, q, h1, h2⟩ := each 13 hi
    exact fin 13 hi _ _ _ (param_told one_p14 h1 (Option.some.inj h2).symm)
  | 14, hi =>
    obtain ⟨d, q, h1, h2⟩ := each 14 hi
    exact fin 14 hi _ _ _ (param_told one_p15 h1 (Option.some.inj h2).symm)
  | 15, hi =>
    obtain ⟨d, q, h1, h2⟩ := each 15 hi
    exact fin 15 hi _ _ _ (param_told one_p16 h1 (Option.some.inj h2).symm)
  | 16, hi =>
    obtain ⟨d, q, h1, h2⟩ := each 16 hi
    exact fin 16 hi _ _ _ (param_told one_p17 h1 (Option.some.inj h2).symm)
  | i + 17, hi => omega
theorem gKin : Tryz.prog.globalNamed "monocle/sequence.kinds" = some 2 := by kernel_rfl
theorem tKin : (Tryz.prog.globals[2]?).map (·.type) = some 52 := by kernel_rfl
theorem gOrd : Tryz.prog.globalNamed "monocle/sequence.order" = some 1 := by kernel_rfl
theorem tOrd : (Tryz.prog.globals[1]?).map (·.type) = some 52 := by kernel_rfl
theorem strs_told : ∀ {ss : List ByteArray} {l : List (List UInt8)}, strs (H := Unit) ss = l.map (fun s => DataW.lit (.string s)) → ss = l.map bs
  | [], [], _ => rfl
  | [], _ :: _, h => by cases h
  | _ :: _, [], h => by cases h
  | s :: ss, x :: l, h => by
    unfold strs at h
    simp only [List.map_cons, List.cons.injEq, DataW.lit.injEq, Lit.string.injEq] at h
    obtain ⟨h1, h2⟩ := h
    rw [List.map_cons, strs_told (ss := ss) (l := l) h2, ← h1]
theorem names_told {w : World} {nm : String} {g : Nat} {l : List (List UInt8)} {rest : List (String × DataW Unit)} (hg : Tryz.prog.globalNamed nm = some g) (ht : (Tryz.prog.globals[g]?).map (·.type) = some 52) (_hl : l ≠ [])
    (h : laidMet Tryz.prog ((nm, .slice (l.map fun s => .lit (.string s)) []) :: rest) w) : ∃ a n c, w.cell? ⟨g, 0, none⟩ = some (.slice a n c) ∧ Wds w a n c l w.heap.size := by
  obtain ⟨ps, ⟨g0, t0, cs0, f0, p0, q0, hg0, ht0, hv0, hd0, _, _⟩, _, _⟩ := h
  obtain rfl := Option.some.inj (hg.symm.trans hg0)
  obtain rfl := Option.some.inj (ht.symm.trans ht0)
  rcases open_strings Tryz.underlying52 Tryz.underlying9 (by kernel_rfl) hd0 with ⟨_, hx⟩ | ⟨a, len, cap, ss, hcs, _, hlc, _, hsl, hx, hcell, _⟩
  · cases hx
  · simp only [Prod.mk.injEq, DataW.slice.injEq] at hx
    have h1 := strs_told hx.1.1.symm
    have h2 : ss.drop len = [] := by
      have := hx.1.2
      unfold strs at this
      exact List.map_eq_nil_iff.1 this.symm
    have hss : ss = l.map bs := by rw [← h1]; have := List.take_append_drop len ss; rw [h2, List.append_nil] at this; exact this.symm
    have hlen : l.length = len := by
      have e1 : ss.length = l.length := by rw [hss, List.length_map]
      have ha : ss.length ≤ len := by rw [List.drop_eq_nil_iff] at h2; exact h2
      have hb' : len ≤ ss.length := by rw [hsl]; split <;> omega
      omega
    have hc0 : w.cell? ⟨g, 0, none⟩ = some (.slice (some a) len cap) := by
      have := World.var?_cell hg hv0 0
      rw [Array.eq_one_of_toList hcs] at this
      simpa using this
    refine ⟨some a, len, cap, hc0, hlen, hlc, fun hpos => ?_⟩
    have h00 := hcell 0 (by rw [hss, List.length_map]; omega)
    have ha0 : a.add 0 = a := by simp [Addr.add]
    rw [ha0] at h00
    obtain ⟨ea, hlt⟩ := cell_spotP h00
    refine ⟨a.block, a.off, by rw [← ea], hlt, fun j x hx => ?_⟩
    have hj := (List.getElem?_eq_some_iff.1 hx).1
    have := hcell j (by rw [hss, List.length_map]; exact hj)
    rw [ea, Addr.add_lit] at this
    rw [this, hss, List.getD_eq_getElem?_getD, List.getElem?_map, hx]
    rfl

/-! ### maps -/
def othData : List (Lit × DataW (List UInt8)) := [(.string [104, 111, 108, 101], .agg [.lit (.string [104, 111, 108, 101]), .lit (.int .i64 6), .held [109, 111, 110, 111, 99, 108, 101, 47, 115, 101, 113, 117, 101, 110, 99, 101, 46, 111, 116, 104, 101, 114, 115, 36, 49]]), (.string [111, 114, 100, 101, 114], .agg [.lit (.string [111, 114, 100, 101, 114]), .lit (.int .i64 0), .held [109, 111, 110, 111, 99, 108, 101, 47, 115, 101, 113, 117, 101, 110, 99, 101, 46, 111, 116, 104, 101, 114, 115, 36, 50]])]
def rdrData : List (Lit × DataW (List UInt8)) := [(.string [99, 111, 110, 102, 105, 103], .held [40, 42, 109, 111, 110, 111, 99, 108, 101, 47, 115, 101, 113, 117, 101, 110, 99, 101, 46, 114, 101, 97, 100, 101, 114, 41, 46, 99, 111, 110, 102, 105, 103]), (.string [101, 110, 100], .held [40, 42, 109, 111, 110, 111, 99, 108, 101, 47, 115, 101, 113, 117, 101, 110, 99, 101, 46, 114, 101, 97, 100, 101, 114, 41, 46, 101, 110, 100]), (.string [102, 105, 101, 108, 100], .held [40, 42, 109, 111, 110, 111, 99, 108, 101, 47, 115, 101, 113, 117, 101, 110, 99, 101, 46, 114, 101, 97, 100, 101, 114, 41, 46, 102, 105, 101, 108, 100]), (.string [108, 101, 110, 115], .held [40, 42, 109, 111, 110, 111, 99, 108, 101, 47, 115, 101, 113, 117, 101, 110, 99, 101, 46, 114, 101, 97, 100, 101, 114, 41, 46, 110, 97, 109, 101]), (.string [111, 98, 106, 101, 99, 116], .held [40, 42, 109, 111, 110, 111, 99, 108, 101, 47, 115, 101, 113, 117, 101, 110, 99, 101, 46, 114, 101, 97, 100, 101, 114, 41, 46, 111, 98, 106, 101, 99, 116]), (.string [112, 114, 105, 109, 97, 114, 121], .held [40, 42, 109, 111, 110, 111, 99, 108, 101, 47, 115, 101, 113, 117, 101, 110, 99, 101, 46, 114, 101, 97, 100, 101, 114, 41, 46, 112, 114, 105, 109, 97, 114, 121]), (.string [112, 117, 112, 105, 108], .held [40, 42, 109, 111, 110, 111, 99, 108, 101, 47, 115, 101, 113, 117, 101, 110, 99, 101, 46, 114, 101, 97, 100, 101, 114, 41, 46, 112, 117, 112, 105, 108]), (.string [115, 116, 111, 112], .held [40, 42, 109, 111, 110, 111, 99, 108, 101, 47, 115, 101, 113, 117, 101, 110, 99, 101, 46, 114, 101, 97, 100, 101, 114, 41, 46, 115, 116, 111, 112]), (.string [115, 117, 114, 102, 97, 99, 101], .held [40, 42, 109, 111, 110, 111, 99, 108, 101, 47, 115, 101, 113, 117, 101, 110, 99, 101, 46, 114, 101, 97, 100, 101, 114, 41, 46, 115, 117, 114, 102, 97, 99, 101]), (.string [119, 97, 118, 101], .held [40, 42, 109, 111, 110, 111, 99, 108, 101, 47, 115, 101, 113, 117, 101, 110, 99, 101, 46, 114, 101, 97, 100, 101, 114, 41, 46, 119, 97, 118, 101])]
abbrev othD : DataW Unit := match Rows.laid_monocle_sequence_others (H := Unit) with | .iface _ d => d | d => d
abbrev rdrD : DataW Unit := match Rows.laid_monocle_sequence_readers (H := Unit) with | .iface _ d => d | d => d
theorem oth_out : othD.funcsOut = .map othData := by kernel_rfl
theorem rdr_out : rdrD.funcsOut = .map rdrData := by kernel_rfl
theorem atKey_no {H : Type} {l : List (Lit × DataW H)} {k : Lit} (h : ∀ p ∈ l, p.1.sameKey k = false) (z : DataW H) : (DataW.map l).atKey k z = z := by
  unfold DataW.atKey
  simp only
  rw [List.find?_eq_none.2 (fun p hp => by rw [h p hp]; simp)]
def keyB : Value → List UInt8
  | .string s => listB s
  | _ => []
theorem map_told {w : World} {nm : String} {g : Nat} {t e : TypeId} {D : List (Lit × DataW (List UInt8))} {z : Value} {look : List UInt8 → Option Value} (hg : Tryz.prog.globalNamed nm = some g) (ht : (Tryz.prog.globals[g]?).map (·.type) = some t) (hu : Tryz.prog.underlying t = some (.map 9 e))
    (hz : (zeroValue e).run Tryz.prog w = .ok z w) {d : DataW Unit} (hd : d.funcsOut = .map D) (h : funcsAt Tryz.prog w nm d)
    (hno : ∀ s, (∀ zd, (DataW.map D).atKey (.string s) zd = zd) → look s = none) (hbig : ∀ s, maxLen < s.length → look s = none)
    (hyes : ∀ s n v y, elemAt (funcToken Tryz.prog) Tryz.prog w 0 (fun _ => true) true n e v = some y → (∀ zd, (DataW.map D).atKey (.string s) zd = y.1) → look s = some v) : MapG w.heap.size g w look := by
  obtain ⟨g0, t0, cs, fuel, p, hg0, ht0, hv, hd0⟩ := h
  obtain rfl := Option.some.inj (hg.symm.trans hg0)
  obtain rfl := Option.some.inj (ht.symm.trans ht0)
  rcases WideElems.open_map hu hd0 with ⟨_, hx⟩ | ⟨b, es, clock, m, _, hcs, hb, _, F, hx⟩
  · rw [hd] at hx; cases hx
  simp only [Prod.mk.injEq] at hx
  have hD := hx.1
  rw [hd] at hD
  have hks : Tryz.prog.underlying 9 = some .string := Tryz.underlying9
  have hc : w.cell? ⟨g, 0, none⟩ = some (.map (some b)) := by
    have := World.var?_cell hg hv 0
    rw [Array.eq_one_of_toList hcs] at this
    simpa using this
  have hkeys : ∀ x ∈ es.toList, x.key = .string (bs (keyB x.key)) ∧ (keyB x.key).length ≤ maxLen := by
    intro x hx
    obtain ⟨l, hl⟩ := F.keys x hx
    rw [keyOf_string hks] at hl
    cases hk : x.key <;> rw [hk] at hl <;> simp [mapKey, hks] at hl
    rename_i s
    refine ⟨by show Value.string s = .string (bs (listB s)); rw [bs_listB], ?_⟩
    have e1 : s.size = (listB s).length := by unfold listB; rw [Array.length_toList]; rfl
    show (listB s).length ≤ maxLen
    omega
  have hM : MapV w b (es.toList.map fun x => (keyB x.key, x.val)) := by
    refine ⟨es, clock, hb, ?_⟩
    rw [List.map_map]
    exact List.map_congr_left fun x hx => by rw [(hkeys x hx).1]; rfl
  refine ⟨b, _, hc, lt_of_block hb, hM, fun s => ?_⟩
  by_cases hs : s.length ≤ maxLen
  · have hkey : keyOf Tryz.prog 9 (.string (bs s)) = some (.string s) := WideMaps.keyOf_string_mk hks (s := bs s) hs
    have hr := run_lookup_V hu hks hz hM s true
    rcases fit_look (w := w) true (string_keyed hks) hu hz hb F hkey with ⟨h1, _, hat⟩ | ⟨e0, y, _, _, h1, hR, hat, _⟩
    · have hq := okv_inj (hr.symm.trans h1)
      simp only [if_true, Value.tuple.injEq] at hq
      rw [hno s (fun zd => by rw [hD]; exact hat zd)]
      cases hl : lookV (es.toList.map fun x => (keyB x.key, x.val)) s with
      | none => rfl
      | some v => rw [hl] at hq; simp at hq
    · have hq := okv_inj (hr.symm.trans h1)
      simp only [if_true, Value.tuple.injEq] at hq
      rw [hyes s m e0.val y hR (fun zd => by rw [hD]; exact hat zd)]
      cases hl : lookV (es.toList.map fun x => (keyB x.key, x.val)) s with
      | none => rw [hl] at hq; simp at hq
      | some v => rw [hl] at hq; simp at hq; rw [hq]
  · rw [hbig s (by omega)]
    cases hl : lookV (es.toList.map fun x => (keyB x.key, x.val)) s with
    | none => rfl
    | some v =>
      unfold lookV at hl
      obtain ⟨e1, he1, _⟩ := Option.map_eq_some_iff.1 hl
      have hm := List.mem_of_find?_eq_some he1
      have hp := List.find?_some he1
      obtain ⟨x, hx, rfl⟩ := List.mem_map.1 hm
      have e2 : keyB x.key = s := by simpa using hp
      have e3 := (hkeys x hx).2
      rw [e2] at e3
      exact absurd e3 hs
theorem same_str (a b : List UInt8) : (Lit.string a).sameKey (.string b) = decide (a = b) := by
  by_cases h : a = b
  · subst h; simp [Lit.sameKey]
  · simp [Lit.sameKey, h]
theorem two_zd {x : DataW (List UInt8)} (h : ∀ zd : DataW (List UInt8), zd = x) : False := by
  have h1 := h .nil
  have h2 := h (.lit (.bool true))
  rw [← h2] at h1
  cases h1
theorem gOth : Tryz.prog.globalNamed "monocle/sequence.others" = some 3 := by kernel_rfl
theorem tOth : (Tryz.prog.globals[3]?).map (·.type) = some 176 := by kernel_rfl
theorem gRdr : Tryz.prog.globalNamed "monocle/sequence.readers" = some 4 := by kernel_rfl
theorem tRdr : (Tryz.prog.globals[4]?).map (·.type) = some 189 := by kernel_rfl
theorem param_val {w : World} {n : Nat} {v : Value} {y : DataW (List UInt8) × List MemPlace} {nm : List UInt8} {z : Int} {b : UInt8} {r : List UInt8} {f0 : FuncId} (hone : ((List.range Tryz.prog.funcs.size).filter fun f => (Tryz.prog.funcs[f]?).any (·.name.toUTF8.data.toList == b :: r)) = [f0])
    (h : elemAt (funcToken Tryz.prog) Tryz.prog w 0 (fun _ => true) true n 116 v = some y) (hd : y.1 = .agg [.lit (.string nm), .lit (.int .i64 z), .held (b :: r)]) : v = .agg #[.string (bs nm), .int .i64 z, .func (.func f0) #[] #[]] := by
  unfold elemAt at h
  split at h
  · rename_i hform
    have hc := param_told hone (d := y.1) (q := y.2) h hd
    cases v <;> simp_all [Value.formed, Value.cells, Tryz.underlying116]
    rename_i cs
    rw [← hc]
  · cases h
theorem rdr_val {w : World} {n : Nat} {v : Value} {y : DataW (List UInt8) × List MemPlace} {b : UInt8} {r : List UInt8} {f0 : FuncId} (hone : ((List.range Tryz.prog.funcs.size).filter fun f => (Tryz.prog.funcs[f]?).any (·.name.toUTF8.data.toList == b :: r)) = [f0])
    (h : elemAt (funcToken Tryz.prog) Tryz.prog w 0 (fun _ => true) true n 188 v = some y) (hd : y.1 = .held (b :: r)) : v = .func (.func f0) #[] #[] := by
  unfold elemAt at h
  split at h
  · rename_i hform
    have hv : v.cells.toList = [v] := by
      cases v <;> simp_all [Value.formed, Value.cells, Tryz.underlying188]
    rw [hv] at h
    exact func_of_trod (q := y.2) Tryz.underlying188 hone (h.trans (by rw [← hd]))
  · cases h
theorem oth_told {w : World} (h : funcsAt Tryz.prog w "monocle/sequence.others" othD) : MapG w.heap.size 3 w othS := by
  refine map_told (e := 116) (D := othData) gOth tOth Tryz.underlying176 (z := .agg #[.string ⟨#[]⟩, .int .i64 0, .nilFunc]) (by kernel_rfl) oth_out h (fun s hs => ?_) (fun s hs => ?_) (fun s n v y hR hat => ?_)
  · unfold othS
    rw [if_neg (fun e => by subst e; exact two_zd (x := _) fun zd => (hs zd).symm), if_neg (fun e => by subst e; exact two_zd (x := _) fun zd => (hs zd).symm)]
  · unfold othS
    rw [if_neg (fun e => by subst e; revert hs; decide), if_neg (fun e => by subst e; revert hs; decide)]
  · unfold othS
    by_cases h1 : s = wHole
    · subst h1
      rw [if_pos rfl, param_val one_o1 hR (hat .nil).symm]; rfl
    · by_cases h2 : s = wOrder
      · subst h2
        rw [if_neg h1, if_pos rfl, param_val one_o2 hR (hat .nil).symm]; rfl
      · refine (two_zd (x := y.1) fun zd => ?_).elim
        · rw [← hat zd]
          refine (atKey_no (fun p hp => ?_) zd).symm
          unfold othData at hp
          simp only [List.mem_cons, List.not_mem_nil, or_false] at hp
          rcases hp with rfl | rfl
          · rw [same_str]; exact decide_eq_false fun e => h1 e.symm
          · rw [same_str]; exact decide_eq_false fun e => h2 e.symm
theorem rdrS_at {s : List UInt8} {k : Nat} (h : oNames.findIdx? (· == s) = some k) : rdrS s = some (.func (.func (fnR k)) #[] #[]) := by unfold rdrS; rw [h]; rfl
theorem rdrS_no {s : List UInt8} (h : ∀ x ∈ oNames, x ≠ s) : rdrS s = none := by
  unfold rdrS
  rw [findIdx_no (fun y hy => beq_eq_false_iff_ne.2 (h y hy))]; rfl
theorem oNames_ways {s : List UInt8} (h : ¬ ∀ x ∈ oNames, x ≠ s) : s = [108, 101, 110, 115] ∨ s = [111, 98, 106, 101, 99, 116] ∨ s = [112, 117, 112, 105, 108] ∨ s = [115, 116, 111, 112] ∨ s = [112, 114, 105, 109, 97, 114, 121] ∨ s = [102, 105, 101, 108, 100] ∨ s = [119, 97, 118, 101] ∨ s = [115, 117, 114, 102, 97, 99, 101] ∨ s = [99, 111, 110, 102, 105, 103] ∨ s = [101, 110, 100] := by
  unfold oNames at h
  simp only [List.mem_cons, List.not_mem_nil, or_false, ne_eq, forall_eq_or_imp, forall_eq] at h
  refine Classical.byContradiction fun hc => h ?_
  simp only [not_or] at hc
  refine ⟨fun e => hc.1 e.symm, fun e => hc.2.1 e.symm, fun e => hc.2.2.1 e.symm, fun e => hc.2.2.2.1 e.symm, fun e => hc.2.2.2.2.1 e.symm, fun e => hc.2.2.2.2.2.1 e.symm, fun e => hc.2.2.2.2.2.2.1 e.symm, fun e => hc.2.2.2.2.2.2.2.1 e.symm, fun e => hc.2.2.2.2.2.2.2.2.1 e.symm, fun e => hc.2.2.2.2.2.2.2.2.2 e.symm⟩
theorem rdr_told {w : World} (h : funcsAt Tryz.prog w "monocle/sequence.readers" rdrD) : MapG w.heap.size 4 w rdrS := by
  refine map_told (e := 188) (D := rdrData) gRdr tRdr Tryz.underlying189 (z := .nilFunc) (by kernel_rfl) rdr_out h (fun s hs => ?_) (fun s hs => ?_) (fun s n v y hR hat => ?_)
  · refine rdrS_no fun x hx e => ?_
    subst e
    unfold oNames at hx
    simp only [List.mem_cons, List.not_mem_nil, or_false] at hx
    rcases hx with rfl | rfl | rfl | rfl | rfl | rfl | rfl | rfl | rfl | rfl <;> exact two_zd (x := _) fun zd => (hs zd).symm
  · refine rdrS_no fun x hx e => ?_
    subst e
    unfold oNames at hx
    simp only [List.mem_cons, List.not_mem_nil, or_false] at hx
    rcases hx with rfl | rfl | rfl | rfl | rfl | rfl | rfl | rfl | rfl | rfl <;> (revert hs; decide)
  · by_cases hn : ∀ x ∈ oNames, x ≠ s
    · refine (two_zd (x := y.1) fun zd => ?_).elim
      · rw [← hat zd]
        refine (atKey_no (fun p hp => ?_) zd).symm
        unfold rdrData at hp
        simp only [List.mem_cons, List.not_mem_nil, or_false] at hp
        rcases hp with rfl | rfl | rfl | rfl | rfl | rfl | rfl | rfl | rfl | rfl
        all_goals (rw [same_str]; exact decide_eq_false (hn _ (by decide)))
    · rcases oNames_ways hn with rfl | rfl | rfl | rfl | rfl | rfl | rfl | rfl | rfl | rfl
      · rw [rdrS_at (k := 0) (by decide +kernel), rdr_val one_r0 hR (hat .nil).symm]; rfl
      · rw [rdrS_at (k := 1) (by decide +kernel), rdr_val one_r1 hR (hat .nil).symm]; rfl
      · rw [rdrS_at (k := 2) (by decide +kernel), rdr_val one_r2 hR (hat .nil).symm]; rfl
      · rw [rdrS_at (k := 3) (by decide +kernel), rdr_val one_r3 hR (hat .nil).symm]; rfl
      · rw [rdrS_at (k := 4) (by decide +kernel), rdr_val one_r4 hR (hat .nil).symm]; rfl
      · rw [rdrS_at (k := 5) (by decide +kernel), rdr_val one_r5 hR (hat .nil).symm]; rfl
      · rw [rdrS_at (k := 6) (by decide +kernel), rdr_val one_r6 hR (hat .nil).symm]; rfl
      · rw [rdrS_at (k := 7) (by decide +kernel), rdr_val one_r7 hR (hat .nil).symm]; rfl
      · rw [rdrS_at (k := 8) (by decide +kernel), rdr_val one_r8 hR (hat .nil).symm]; rfl
      · rw [rdrS_at (k := 9) (by decide +kernel), rdr_val one_r9 hR (hat .nil).symm]; rfl
theorem tw_of {w : World} (hs : 14 ≤ w.heap.size) (h : laidMetH Tryz.prog laid13 w) : TW w.heap.size w := by
  have hp := laid_plain h
  have e1 : ("monocle/sequence.params", DataW.iface "func table" parD) ∈ laid13 := by
    rw [show DataW.iface "func table" parD = Rows.laid_monocle_sequence_params by kernel_rfl]; simp
  have e2 : ("monocle/sequence.others", DataW.iface "func table" othD) ∈ laid13 := by
    rw [show DataW.iface "func table" othD = Rows.laid_monocle_sequence_others by kernel_rfl]; simp
  have e3 : ("monocle/sequence.readers", DataW.iface "func table" rdrD) ∈ laid13 := by
    rw [show DataW.iface "func table" rdrD = Rows.laid_monocle_sequence_readers by kernel_rfl]; simp
  have ht := hp.tail.tail.tail.tail.tail.tail.tail
  exact ⟨hs, par_told (h.funcs e1), names_told gOrd tOrd (l := oNames) (by decide) ht.tail, oth_told (h.funcs e2), rdr_told (h.funcs e3), names_told gKin tKin (l := kNames) (by decide) ht⟩
theorem kw_of {w : World} (hs : w.ShapedOpen Tryz.prog) (h : laidMetH Tryz.prog laid13 w) : KW w :=
  ⟨gw_of hs (laid_plain h), places_of_met (laid_plain h).tail.tail.tail.tail.tail.tail, tw_of (last_block hs) h⟩
end Go.Proofs.YtgohdcccfkjooaaGreatDoor
