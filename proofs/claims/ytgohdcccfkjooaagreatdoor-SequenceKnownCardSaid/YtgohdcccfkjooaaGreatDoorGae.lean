/-
  DERIVED. Several texts in one: Gw, DcA, DcB, DcC, DcD, SqB.
-/
import Derived.Test.YtgohdcccfkjooaaGreatDoorHRdG
import Derived.Test.YtgohdcccfkjooaaGreatDoorGab
import Derived.Lib.AppendIntMem
import Derived.Laws.RangeAny
import Derived.WalkMore
import Derived.Lib.Replace
import Derived.Lib.AtoiErrMem
import Derived.Test.YtgohdcccfkjooaaGreatDoorGad
import Derived.Lib.Join
namespace Go.Proofs.YtgohdcccfkjooaaGreatDoor
open Go.RowKit Go.Shelf

/-- the package variables that the library's functions look at -/
structure GW (w : World) : Prop where
  m : ∃ m, w.cell? ⟨5, 0, none⟩ = some (.int .i64 m)
  tab : Lib.TabIs Tryz.prog w "internal/strconv.uint64pow10" .u64 Lib.pow10Tab
  rng : ∃ tp p, w.var? Tryz.prog "strconv.ErrRange" = some #[.iface tp p]
  sz : 14 ≤ w.heap.size

theorem Tryz.gnTab : ((Tryz.prog.globalNamed "internal/strconv.uint64pow10").any fun g => decide (g < 14)) = true := by kernel_rfl
theorem Tryz.gnRng : ((Tryz.prog.globalNamed "strconv.ErrRange").any fun g => decide (g < 14)) = true := by kernel_rfl
theorem var_kept {w w' : World} (nm : String) (hg : ((Tryz.prog.globalNamed nm).any fun g => decide (g < 14)) = true) (h : ∀ b, b < 14 → w'.heap[b]? = w.heap[b]?) : w'.var? Tryz.prog nm = w.var? Tryz.prog nm := by
  unfold World.var?
  cases hn : Tryz.prog.globalNamed nm with
  | none => rfl
  | some g =>
    rw [hn] at hg
    simp only [Option.any_some, decide_eq_true_eq] at hg
    simp only [Option.bind_some, h g hg]
theorem GW.kept {w w' : World} (h : GW w) (hb : ∀ b, b < 14 → w'.heap[b]? = w.heap[b]?) (hs : 14 ≤ w'.heap.size) : GW w' := by
  obtain ⟨⟨m, hm⟩, ht, ⟨tp, p, hr⟩, _⟩ := h
  refine ⟨⟨m, ?_⟩, ?_, ⟨tp, p, ?_⟩, hs⟩
  · rw [← hm]; simp only [World.cell?, hb 5 (by omega)]
  · unfold Lib.TabIs at ht ⊢; rw [var_kept _ Tryz.gnTab hb]; exact ht
  · rw [var_kept _ Tryz.gnRng hb]; exact hr
theorem GW.below {w w' : World} (h : GW w) (hb : Below w.heap.size w w') : GW w' := h.kept (fun b hlt => hb.block b (Nat.lt_of_lt_of_le hlt h.sz)) (Nat.le_trans h.sz hb.size)
theorem GW.alloc {w : World} (h : GW w) (o : Obj) : GW (w.alloc o) := h.below ((Below.refl _ _).alloc (Nat.le_refl _) _)
theorem GW.of {B : Nat} {w w' : World} (h : GW w) (hb : Below B w w') (hB : 14 ≤ B) : GW w' := h.kept (fun b hlt => hb.block b (by omega)) (Nat.le_trans h.sz hb.size)

theorem size_of_bs (l : List UInt8) : (bs l).size = l.length := rfl

theorem trimPrefix_any (l p : List UInt8) (w : World) : Calls Tryz.prog 169 #[.string (bs l), .string (bs p)] w fun e w' => e = .returned (.string (bs (Lib.trimPrefix l p))) ∧ w = w' :=
  (Tryz.strings_TrimPrefix (bs l) (bs p) w).mono fun _ _ ⟨h1, h2⟩ => ⟨h1, h2.symm⟩
theorem trimRight_any (l : List UInt8) (c : UInt8) (w : World) (hc : c.toNat < 128) (hl : l.length ≤ 1000000) : Calls Tryz.prog 171 #[.string (bs l), .string ⟨#[c]⟩] w fun e w' => e = .returned (.string (bs (Lib.trimRightB l c))) ∧ w = w' :=
  (Tryz.strings_TrimRight_one (bs l) c hc w (by rw [size_of_bs]; omega)).mono fun _ _ ⟨h1, h2⟩ => ⟨h1, h2.symm⟩
theorem repeat_any (l : List UInt8) (c : Nat) (w : World) (hc : c ≤ 1000000) (hl : l.length ≤ 1000000) : Calls Tryz.prog 25 #[.string (bs l), .int .i64 (c : Int)] w (RetB w (.string (bs (Lib.repeatL l c)))) :=
  (Tryz.strings_Repeat (bs l) c w (by omega) (by rw [size_of_bs]; exact Nat.le_trans (Nat.mul_le_mul hl hc) (by omega)))
theorem itoa_any (n : Int) (w : World) (h0 : -9223372036854775808 ≤ n) (h1 : n ≤ 9223372036854775807) (hg : GW w) : Calls Tryz.prog 128 #[.int .i64 n] w (RetB w (.string (bs (Lib.itoa n)))) := by
  refine (Tryz.strconv_Itoa n h0 h1 w hg.tab).mono ?_
  rintro e w' ⟨rfl, k, os, rfl⟩
  exact ⟨rfl, Lib.below_grow _ _ (Nat.le_refl _) k os⟩
end Go.Proofs.YtgohdcccfkjooaaGreatDoor

namespace Go.Proofs.YtgohdcccfkjooaaGreatDoor
open Go.RowKit

theorem itoa_eq (n : Int) : Lib.itoa n = intT n := by
  unfold Lib.itoa intT
  by_cases h : n < 0
  · rw [if_pos h, if_pos h]; rfl
  · rw [if_neg h, if_neg h, show n.toNat = n.natAbs by omega]; rfl
theorem trimRightB_eq (l : List UInt8) : Lib.trimRightB l 48 = trimR l := rfl
theorem repeatL_eq (c : Nat) : Lib.repeatL [48] c = List.replicate c 48 := by
  induction c with
  | zero => rfl
  | succ c ih => rw [Lib.repeatL, ih]; rfl
theorem bs_extract (l : List UInt8) (a b : Nat) : (bs l).extract a b = bs ((l.drop a).take (b - a)) := by
  apply ByteArray.ext
  apply Array.ext'
  simp [ByteArray.data_extract, List.take_drop]

def partsT (z : List UInt8) (k : Nat) : List UInt8 := z.take k ++ (if trimR (z.drop k) = [] then [] else 46 :: trimR (z.drop k))

set_option maxHeartbeats 400000 in
theorem decParts_any (z : List UInt8) (k g : Nat) (w : World) (hg : w.cell? ⟨g, 0, none⟩ = some (.string (bs z))) (hk : k ≤ z.length) (hz : z.length ≤ 1000000) :
    Calls Tryz.prog 170 #[.int .i64 (k : Int), .pointer (some ⟨g, 0, none⟩)] w fun e w' => e = .returned (.string (bs (partsT z k))) ∧ w = w' := by
  have hsz : (bs z).size = z.length := rfl
  go_enter Tryz.func170, Tryz.ntmps170
  have e1 : (bs z).extract k z.length = bs (z.drop k) := by rw [bs_extract, List.take_of_length_le (by simp)]
  have e2 : (bs z).extract 0 k = bs (z.take k) := by rw [bs_extract, List.drop_zero, Nat.sub_zero]
  go_wp2_with fail
  refine (trimRight_any (z.drop k) 48 _ (by decide) (by simp; omega)).mono ?_
  rintro e w1 ⟨rfl, rfl⟩
  rw [trimRightB_eq]
  have hp : partsT z k = z.take k ++ (if trimR (z.drop k) = [] then [] else 46 :: trimR (z.drop k)) := rfl
  have hTl : (trimR (z.drop k)).length ≤ 1000000 := by
    unfold trimR
    rw [List.length_reverse]
    refine Nat.le_trans (List.dropWhile_sublist _).length_le ?_
    simp; omega
  generalize trimR (z.drop k) = T at *
  cases T with
  | nil =>
    rw [if_pos rfl, List.append_nil] at hp
    have Hp := Lib.hid hp; clear hp
    go_wp2_with fail
    go_ret
    refine ⟨?_, rfl⟩
    rw [Hp.out]; rfl
  | cons b T =>
    rw [if_neg (List.cons_ne_nil _ _)] at hp
    have Hp := Lib.hid hp; clear hp
    have hT2 : T.length ≤ 1000000 := by simp at hTl; omega
    go_wp2_with fail
    go_ret
    refine ⟨?_, rfl⟩
    show Ending.returned (.string (bs (z.take k) ++ bs [46] ++ bs (b :: T))) = _
    rw [bs_append, bs_append, Hp.out, List.append_assoc]; rfl

/-- the text behind the sign: z zeros ahead so that there are more than d digits -/
def padZ (s : List UInt8) (d : Nat) : List UInt8 := List.replicate (d + 1 - s.length) 48 ++ s
theorem writtenU_parts (s : List UInt8) (d : Nat) : writtenU s d = partsT (padZ s d) ((padZ s d).length - d) := rfl

theorem trimR_len (l : List UInt8) : (trimR l).length ≤ l.length := by
  unfold trimR
  rw [List.length_reverse]
  exact Nat.le_trans (List.dropWhile_sublist _).length_le (by simp)
theorem partsT_len (z : List UInt8) (k : Nat) : (partsT z k).length ≤ 2 * z.length + 1 := by
  unfold partsT
  rw [List.length_append, List.length_take]
  have h1 := trimR_len (z.drop k)
  rw [List.length_drop] at h1
  split
  · simp; omega
  · rw [List.length_cons]; omega
theorem trimPrefix_int (z : Int) : Lib.trimPrefix (intT z) [45] = Lib.decDigits z.natAbs := by
  unfold Lib.trimPrefix intT
  by_cases h : z < 0
  · rw [if_pos h]; rfl
  · rw [if_neg h, List.nil_append]
    cases hd : Lib.decDigits z.natAbs with
    | nil => rfl
    | cons b l =>
      have hb : isD b = true := all_decDigits z.natAbs b (by rw [hd]; exact List.mem_cons_self)
      have hne := not45 hb
      have : Lib.hasPrefix (b :: l) [45] = false := by
        show ((45 : UInt8) == b && _) = false
        rw [Bool.and_eq_false_iff]
        exact Or.inl (beq_eq_false_iff_ne.2 (fun e => hne e.symm))
      rw [this]; rfl

set_option maxHeartbeats 800000 in
theorem decWritten_any (z : Int) (d : Nat) (w : World) (hd : d ≤ 18) (hz : (Lib.decDigits z.natAbs).length ≤ 100) :
    Calls Tryz.prog 127 #[.string (bs (intT z)), .int .i64 (d : Int)] w (RetB w (.string (bs (numT z d)))) := by
  have htp := trimPrefix_int z
  have hM0 : (if z < 0 then [45] else ([] : List UInt8)).length ≤ 1 := by split <;> simp
  have hpre : numT z d = (if z < 0 then [45] else []) ++ writtenU (Lib.decDigits z.natAbs) d := by rw [writtenU_eq]; rfl
  have hin : intT z = (if z < 0 then [45] else []) ++ Lib.decDigits z.natAbs := rfl
  generalize Lib.decDigits z.natAbs = D at *
  generalize (if z < 0 then [45] else ([] : List UInt8)) = M at *
  have hM : M.length ≤ 1 := hM0
  have hl : ((intT z).length : Int) - (D.length : Int) = (M.length : Int) := by rw [hin, List.length_append]; omega
  have e2 : (bs (intT z)).extract 0 M.length = bs M := by rw [bs_extract, hin, List.drop_zero, Nat.sub_zero, List.take_left']; rfl
  have hl2 : (intT z).length ≤ 101 := by rw [hin, List.length_append]; omega
  have Htp := Lib.hid htp; have Hpre := Lib.hid hpre; have Hin := Lib.hid hin; clear htp hpre hin
  go_enter Tryz.func127, Tryz.ntmps127
  go_wp2_with fail
  refine (trimPrefix_any _ [45] _).mono ?_
  rintro e w1 ⟨rfl, rfl⟩
  rw [Htp.out]
  go_wp2_with fail
  have c0 : (w.alloc (.cells #[.string (bs D)] 9)).cell? ⟨w.heap.size, 0, none⟩ = some (.string (bs D)) := World.cell?_alloc_at _ _ _ _ rfl
  have hlt0 : w.heap.size < (w.alloc (.cells #[.string (bs D)] 9)).heap.size := by simp
  have hw0 : Below w.heap.size w (w.alloc (.cells #[.string (bs D)] 9)) := (Below.refl _ _).alloc (Nat.le_refl _) _
  have hobj := heap_alloc_new w (.cells #[.string (bs D)] 9)
  generalize (w.alloc (.cells #[.string (bs D)] 9)) = w0 at *
  have Hw0 := Lib.hid hw0; have Hobj := Lib.hid hobj; clear hw0 hobj
  refine wp_region_eager 9 [(0, true), (1, true), (2, true), (3, true), (4, true), (5, true), (7, true), (6, false), (8, true)] (by kernel_rfl) (by kernel_rfl) ?_
  iterate 7
    refine wpOrd_yield (v := ?_) rfl (fun _ _ _ h => h) (by rfl) ?_ ?_
    rotate_left
    · intro x hx
      have z1 := (hx.cell (p := ⟨w.heap.size, 0, none⟩) hlt0).trans c0
      go_simp
      with_reducible rfl
    try simp only [Act.put, List.setIfInBounds_toArray, List.set_cons_zero, List.set_cons_succ]
  refine wpOrd_step rfl rfl (fun KK hKK => ?_)
  go_simp
  have em : max (IntKind.i64.wrap (IntKind.i64.wrap ((d : Int) + 1) - (D.length : Int))) 0 = ((d + 1 - D.length : Nat) : Int) := by
    rw [IntWalk.i64_in ((d : Int) + 1) (by omega), IntWalk.i64_in _ (by omega)]; omega
  rw [em]
  refine (repeat_any [48] (d + 1 - D.length) _ (by omega) (by simp)).mono ?_
  rintro e w2 ⟨rfl, hb2⟩
  rw [repeatL_eq]
  refine hKK _ _ hb2 ?_
  clear hKK KK
  try simp only [Act.put, List.setIfInBounds_toArray, List.set_cons_zero, List.set_cons_succ]
  have hb2' := below_undrew (k := 1) hb2
  have hcat : bs (List.replicate (d + 1 - D.length) 48) ++ bs D = bs (padZ D d) := bs_append _ _
  have hql : (List.replicate (d + 1 - D.length) (48 : UInt8)).length ≤ 19 := by rw [List.length_replicate]; omega
  have hpz : (padZ D d).length ≤ 119 := by unfold padZ; rw [List.length_append]; omega
  have hpz2 : d ≤ (padZ D d).length := by unfold padZ; rw [List.length_append, List.length_replicate]; omega
  have hwp := writtenU_parts D d
  have Hwp := Lib.hid hwp; clear hwp
  generalize List.replicate (d + 1 - D.length) (48 : UInt8) = R at *
  generalize padZ D d = Z at *
  have Hb2 := Lib.hid hb2'; clear hb2 hb2' em
  have hnb : ¬ 9223372036854775807 < R.length + D.length := by omega
  refine wpOrd_yield (v := ?_) rfl (fun _ _ _ h => h) (by rfl) ?_ ?_
  rotate_left
  · intro x hx
    go_simp
    with_reducible rfl
  try simp only [Act.put, List.setIfInBounds_toArray, List.set_cons_zero, List.set_cons_succ]
  refine wpOrd_nil rfl ?_
  have hobj2 := (Hb2.out.block w.heap.size hlt0).trans Hobj.out
  have f1 := obj_free hobj2 0
  have k0 := obj_cell hobj2 0
  have k0' : w2.cell? ⟨w.heap.size, 0, none⟩ = some (.string (bs D)) := k0.trans rfl
  have hobj3 := obj_setCell hobj2 0 (.string (bs Z))
  have k1 : (w2.setCell ⟨w.heap.size, 0, none⟩ (.string (bs Z))).cell? ⟨w.heap.size, 0, none⟩ = some (.string (bs Z)) := (obj_cell hobj3 0).trans rfl
  have Hk1 := Lib.hid k1
  have Hw3 := Lib.hid ((Hw0.out.trans (Hb2.out.mono Hw0.out.size)).setCell (p := ⟨w.heap.size, 0, none⟩) (Nat.le_refl _) (.string (bs Z)))
  have hmf : ∀ (fn : Fn) (first cap : Array Value) (w : World), (Instr.makeFunc fn first cap).run Tryz.prog w = .ok (.func fn first cap) w := fun _ _ _ _ => rfl
  have hzd : ((Z.length : Int) - (d : Int)) = ((Z.length - d : Nat) : Int) := by omega
  clear k1 k0 c0 hobj2 hobj3 Hobj Hw0 Hb2
  go_wp2_with fail
  refine (decParts_any Z (Z.length - d) w.heap.size _ Hk1.out (by omega) (by omega)).mono ?_
  rintro e w4 ⟨rfl, rfl⟩
  rw [← Hwp.out]
  have hul : (writtenU D d).length ≤ 300 := by
    rw [Hwp.out]
    have h1 := partsT_len Z (Z.length - d)
    omega
  generalize writtenU D d = U at *
  have hcat2 : bs M ++ bs U = bs (numT z d) := by rw [bs_append, Hpre.out]
  clear f1 k0'
  go_wp2_with fail
  go_ret
  exact ⟨rfl, Hw3.out⟩
theorem digits_int {z : Int} (h1 : -9223372036854775808 ≤ z) (h2 : z ≤ 9223372036854775807) : (Lib.decDigits z.natAbs).length ≤ 100 :=
  Nat.le_trans (digits_size (length_digs_int z h1 h2) (by omega)) (by omega)

set_option maxHeartbeats 400000 in
theorem decText_any (z : Int) (d : Nat) (w : World) (h1 : -9223372036854775808 ≤ z) (h2 : z ≤ 9223372036854775807) (hd : d ≤ 18) (hg : GW w) :
    Calls Tryz.prog 80 #[.int .i64 z, .int .i64 (d : Int)] w (RetB w (.tuple #[.string (bs (numT z d)), .int .i64 0])) := by
  have hd1 : ¬ (d : Int) < 0 := by omega
  have hd2 : ¬ 18 < (d : Int) := by omega
  have hi := itoa_any z w h1 h2 hg
  rw [itoa_eq] at hi
  have Hi := Lib.hid hi; clear hi
  go_enter Tryz.func80, Tryz.ntmps80
  go_wp2_with fail
  refine Hi.out.mono ?_
  rintro e w1 ⟨rfl, hb1⟩
  have Hb1 := Lib.hid hb1; clear hb1
  have hdg := digits_int h1 h2
  go_wp2_with fail
  refine (decWritten_any z d _ hd hdg).mono ?_
  rintro e w2 ⟨rfl, hb2⟩
  have Hb2 := Lib.hid (Hb1.out.trans (hb2.mono Hb1.out.size)); clear hb2
  go_wp2_with fail
  go_ret2
  exact ⟨rfl, Hb2.out⟩
end Go.Proofs.YtgohdcccfkjooaaGreatDoor

namespace Go.Proofs.YtgohdcccfkjooaaGreatDoor

/-- the scan: from place i, the point (if found), the last character -/
def scanT : Nat → Option Nat → Int → List UInt8 → Option Nat × Int
  | _, pt, last, [] => (pt, last)
  | i, pt, _last, c :: r =>
    if c = 46 ∧ pt = none ∧ 0 < i then scanT (i + 1) (some i) 46 r
    else if isD c then scanT (i + 1) pt (c.toNat : Int) r else (pt, 32)
def lastI (d : Int) (w : List UInt8) : Int := match w.getLast? with
  | none => d
  | some b => (b.toNat : Int)
theorem scan_digits : ∀ (w r : List UInt8) (i : Nat) (pt : Option Nat) (last : Int), w.all isD = true → scanT i pt last (w ++ r) = scanT (i + w.length) pt (lastI last w) r
  | [], r, i, pt, last, _ => rfl
  | c :: w, r, i, pt, last, h => by
    rw [List.all_cons, Bool.and_eq_true] at h
    have hne : c ≠ 46 := by have := not46 h.1; exact beq_eq_false_iff_ne.1 this
    rw [List.cons_append, scanT, if_neg (fun e => hne e.1), if_pos h.1, scan_digits w r (i + 1) pt _ h.2, List.length_cons]
    rw [show i + 1 + w.length = i + (w.length + 1) by omega]
    congr 1
    unfold lastI
    cases w with
    | nil => rfl
    | cons b w => rw [List.getLast?_cons_cons]; cases hh : (b :: w).getLast? with
      | none => simp at hh
      | some x => rfl
theorem scan_stop {i : Nat} {pt : Option Nat} {last : Int} {c : UInt8} {r : List UInt8} (h1 : ¬ (c = 46 ∧ pt = none ∧ 0 < i)) (h2 : isD c = false) : scanT i pt last (c :: r) = (pt, 32) := by
  rw [scanT, if_neg h1, h2]; rfl
def digI (x : Int) : Bool := decide (48 ≤ x ∧ x ≤ 57)
theorem digI_of {b : UInt8} (h : isD b = true) : digI (b.toNat : Int) = true := by
  have := of_decide_eq_true h
  exact decide_eq_true (by omega)
/-- the verdict over what the scan found -/
def verdT (t : List UInt8) (q : Option Nat × Int) : Option Nat :=
  let whole : List UInt8 := match q.1 with
    | none => t
    | some p => t.take p
  if digI q.2 = false ∨ (q.1 ≠ none ∧ q.2 = 48) then none
  else if 1 < whole.length ∧ whole.head? = some 48 then none
  else some (match q.1 with
    | none => 0
    | some p => t.length - p - 1)
theorem lastI_digit {w : List UInt8} (hw : w.all isD = true) (hne : w ≠ []) (d : Int) : digI (lastI d w) = true := by
  unfold lastI
  cases h : w.getLast? with
  | none => exact absurd (List.getLast?_eq_none_iff.1 h) hne
  | some b => exact digI_of (List.all_eq_true.1 hw b (List.mem_of_getLast? h))
theorem lastI_zero {w : List UInt8} (hne : w ≠ []) (d : Int) : lastI d w = 48 ↔ w.getLast? = some 48 := by
  unfold lastI
  cases h : w.getLast? with
  | none => exact absurd (List.getLast?_eq_none_iff.1 h) hne
  | some b =>
    simp only [Option.some.injEq]
    constructor
    · intro e; exact UInt8.toNat_inj.1 (by show b.toNat = 48; omega)
    · intro e; rw [e]; rfl
/-- the scan's verdict is the form -/
theorem verd_form (t : List UInt8) : verdT t (scanT 0 none 32 t) = formT t := by
  have hsplit : t = t.takeWhile isD ++ t.dropWhile isD := (List.takeWhile_append_dropWhile).symm
  have hw : (t.takeWhile isD).all isD = true := List.all_takeWhile
  unfold formT
  simp only []
  generalize hW : t.takeWhile isD = w at *
  generalize hR : t.dropWhile isD = r at *
  have hr : ∀ b m, r = b :: m → isD b = false := by
    intro b m e
    have := List.head?_dropWhile_not isD t
    rw [hR, e] at this
    simpa using this
  have hs : scanT 0 none 32 t = scanT w.length none (lastI 32 w) r := by
    have := scan_digits w r 0 none 32 hw
    rw [← hsplit, Nat.zero_add] at this; exact this
  rw [hs]
  cases r with
  | nil =>
    rw [List.append_nil] at hsplit
    subst hsplit
    rw [scanT]
    unfold verdT
    simp only []
    by_cases hw0 : t = []
    · subst hw0; rfl
    · have h1 : ¬ (digI (lastI 32 t) = false ∨ ((none : Option Nat) ≠ none ∧ lastI 32 t = 48)) := by
        rw [lastI_digit hw hw0]; simp
      rw [if_neg h1]
      by_cases hz : 1 < t.length ∧ t.head? = some 48
      · rw [if_pos hz, if_pos (Or.inr hz)]
      · rw [if_neg hz, if_neg (fun e => e.elim hw0 hz)]
  | cons b f =>
    have hb := hr b f rfl
    by_cases hdot : b = 46 ∧ 0 < w.length
    · obtain ⟨rfl, hwl⟩ := hdot
      have hw0 : w ≠ [] := fun e => by rw [e] at hwl; simp at hwl
      rw [scanT, if_pos ⟨rfl, rfl, hwl⟩]
      have htake : t.take w.length = w := by rw [hsplit]; simp
      have htl : t.length - w.length - 1 = f.length := by rw [hsplit, List.length_append, List.length_cons]; omega
      by_cases hf : f.all isD = true
      · have h2 := scan_digits f [] (w.length + 1) (some w.length) 46 hf
        rw [List.append_nil] at h2
        rw [h2, scanT]
        unfold verdT
        simp only [htake, htl]
        by_cases hf0 : f = []
        · subst hf0
          have : digI (lastI 46 []) = false := rfl
          rw [if_pos (Or.inl this)]
          by_cases hz : w = [] ∨ (1 < w.length ∧ w.head? = some 48)
          · rw [if_pos hz]
          · rw [if_neg hz, if_neg (fun e => e.2.1 rfl)]
        · rw [lastI_digit hf hf0]
          by_cases hl : f.getLast? = some 48
          · have : lastI 46 f = 48 := (lastI_zero hf0 46).2 hl
            rw [if_pos (Or.inr ⟨by simp, this⟩)]
            by_cases hz : w = [] ∨ (1 < w.length ∧ w.head? = some 48)
            · rw [if_pos hz]
            · rw [if_neg hz, if_neg (fun e => e.2.2.2 hl)]
          · have : ¬ lastI 46 f = 48 := fun e => hl ((lastI_zero hf0 46).1 e)
            rw [if_neg (by simp [this])]
            by_cases hz : 1 < w.length ∧ w.head? = some 48
            · rw [if_pos hz, if_pos (Or.inr hz)]
            · rw [if_neg hz, if_neg (fun e => e.elim hw0 hz), if_pos ⟨trivial, hf0, hf, hl⟩]
      · have hsc : ∃ pt, scanT (w.length + 1) (some w.length) 46 f = (pt, 32) := by
          have hf' : f = f.takeWhile isD ++ f.dropWhile isD := (List.takeWhile_append_dropWhile).symm
          cases hd : f.dropWhile isD with
          | nil =>
            rw [hd, List.append_nil] at hf'
            exact absurd (by rw [hf']; exact List.all_takeWhile) hf
          | cons c g =>
            have hc : isD c = false := by
              have := List.head?_dropWhile_not isD f
              rw [hd] at this; simpa using this
            rw [hf', hd, scan_digits _ _ _ _ _ List.all_takeWhile, scan_stop (by simp) hc]
            exact ⟨_, rfl⟩
        obtain ⟨pt, hpt⟩ := hsc
        rw [hpt]
        unfold verdT
        have : digI 32 = false := rfl
        simp only [this, true_or, if_true]
        by_cases hz : w = [] ∨ (1 < w.length ∧ w.head? = some 48)
        · rw [if_pos hz]
        · rw [if_neg hz, if_neg (fun e => hf e.2.2.1)]
    · rw [scan_stop (fun e => hdot ⟨e.1, e.2.2⟩) hb]
      unfold verdT
      have : digI 32 = false := rfl
      simp only [this, true_or, if_true]
      by_cases hz : w = [] ∨ (1 < w.length ∧ w.head? = some 48)
      · rw [if_pos hz]
      · rw [if_neg hz, if_neg]
        rintro ⟨rfl, _⟩
        refine hdot ⟨rfl, List.length_pos_iff.2 (fun e => hz (Or.inl e))⟩
end Go.Proofs.YtgohdcccfkjooaaGreatDoor

namespace Go.Proofs.YtgohdcccfkjooaaGreatDoor
open Go.RowKit

def ptI : Option Nat → Int
  | none => -1
  | some p => (p : Int)
/-- behind the scan -/
def FormCut (T : List UInt8) (w : World) (pv lv : Value) (wx : World) : Prop :=
  ∃ pt last, scanT 0 none 32 T = (pt, last) ∧ pv = .int .i64 (ptI pt) ∧ lv = .int .i32 last ∧ (∀ p, pt = some p → p < T.length) ∧ 0 ≤ last ∧ last ≤ 255 ∧ Below w.heap.size w wx
/-- ahead of each round -/
def FormRel (T : List UInt8) (w : World) (pv lv : Value) (wr : World) : Prop :=
  ∃ (k : Nat) (pt : Option Nat) (last : Int), k ≤ T.length ∧ wr = w.iter (bs T) k ∧ pv = .int .i64 (ptI pt) ∧ lv = .int .i32 last ∧ scanT k pt last (T.drop k) = scanT 0 none 32 T ∧ (∀ p, pt = some p → p < k) ∧ 0 ≤ last ∧ last ≤ 255
def formP (l : List UInt8) : Int := match decForm l with
  | none => 0
  | some p => (p : Int)
def formB (l : List UInt8) : Bool := (decForm l).isSome
def RetForm (w : World) (l : List UInt8) (e : Ending) (w' : World) : Prop := e = .returned (.tuple #[.int .i64 (formP l), .bool (formB l)]) ∧ Below w.heap.size w w'
theorem unsign_ne {b : UInt8} {l : List UInt8} (hb : b ≠ 45) : unsign (b :: l) = (false, b :: l) := by
  unfold unsign
  split
  · rename_i h; cases h; exact absurd rfl hb
  · rfl
theorem trimPrefix_unsign (l : List UInt8) : Lib.trimPrefix l [45] = (unsign l).2 := by
  cases l with
  | nil => rfl
  | cons b l =>
    by_cases hb : b = 45
    · subst hb; rfl
    · have : Lib.hasPrefix (b :: l) [45] = false := by
        show ((45 : UInt8) == b && _) = false
        rw [Bool.and_eq_false_iff]
        exact Or.inl (beq_eq_false_iff_ne.2 (fun e => hb e.symm))
      unfold Lib.trimPrefix
      rw [this, unsign_ne hb]; rfl

theorem digI_no {x : Int} (h : x < 48 ∨ 57 < x) : digI x = false := decide_eq_false (by omega)
def wholeW (T : List UInt8) : Option Nat → List UInt8
  | none => T
  | some p => T.take p
def placesW (T : List UInt8) : Option Nat → Nat
  | none => 0
  | some p => T.length - p - 1
theorem verd_W (T : List UInt8) (pt : Option Nat) (last : Int) : verdT T (pt, last) = if digI last = false ∨ (pt ≠ none ∧ last = 48) then none else if 1 < (wholeW T pt).length ∧ (wholeW T pt).head? = some 48 then none else some (placesW T pt) := by
  cases pt <;> rfl
set_option maxRecDepth 100000 in
set_option maxHeartbeats 1600000 in
theorem decForm_any (l : List UInt8) (w : World) (hl : l.length ≤ 1000000) : Calls Tryz.prog 225 #[.string (bs l)] w (RetForm w l) := by
  have htl : (unsign l).2.length ≤ 1000000 := by unfold unsign; split <;> simp at hl ⊢ <;> omega
  have htp := trimPrefix_unsign l
  generalize hT : (unsign l).2 = T at *
  have HT := Lib.hid hT; have Htp := Lib.hid htp; clear hT htp
  have hsz : (bs T).size = T.length := rfl
  go_enter Tryz.func225, Tryz.ntmps225
  go_wp2_with fail
  go_step3
  go_wp2_with fail
  refine (trimPrefix_any l [45] _).mono ?_
  rintro e w1 ⟨rfl, rfl⟩
  rw [Htp.out]
  go_wp2_with fail
  go_step3
  go_upto_block 0 with fail
  go_cut [5, 6] (fun pv lv wx => FormCut T w pv lv wx)
  case first =>
    go_wp2_with fail
    go_loopw [5, 6] (fun pv lv wr => FormRel T w pv lv wr) (fun _ _ wr => T.length - wr.iterPos w.heap.size)
    case atStart => exact ⟨0, none, 32, Nat.zero_le _, rfl, rfl, rfl, rfl, (fun _ h => by cases h), by omega, by omega⟩
    case round =>
      obtain ⟨k, pt, last, hk, rfl, rfl, rfl, hsc, hpt, hl0, hl1⟩ := hrel
      have hext : Below w.heap.size w (w.iter (bs T) k) := (Below.refl _ _).alloc (Nat.le_refl _) _
      by_cases hlt : k < T.length
      · have hlt' : k < (bs T).size := hlt
        have hget : (bs T)[k] = T[k] := rfl
        have hdrop : T.drop k = T[k] :: T.drop (k + 1) := by rw [List.drop_eq_getElem_cons hlt]
        by_cases hasc : T[k].toNat < 128
        · have hnx := fun ty => run_next_ascii (P := Tryz.prog) w (bs T) k ty hlt' hasc
          simp only [hget] at hnx
          rw [hdrop, scanT] at hsc
          have Hsc := Lib.hid hsc; have Hpt := Lib.hid hpt; clear hsc hpt hget hdrop
          have hc0 : (0 : Int) ≤ (T[k].toNat : Int) := by omega
          have hc1 : (T[k].toNat : Int) < 128 := by omega
          by_cases hdot : T[k] = 46 ∧ pt = none ∧ 0 < k
          · have h1 := Hsc.out
            rw [if_pos hdot] at h1
            obtain ⟨hd, rfl, hk0⟩ := hdot
            have hi : ((T[k].toNat : Int) == 46) = true := by rw [hd]; rfl
            have e46 : (T[k].toNat : Int) = 46 := by rw [hd]; rfl
            rw [show ptI none = -1 from rfl]
            have H1 := Lib.hid h1; have E46 := Lib.hid e46; clear h1 hd e46
            go_wp2_with fail
            go_roundw
            case rel => exact ⟨k + 1, some k, 46, by omega, rfl, rfl, by rw [E46.out], H1.out, fun p hp => by cases hp; omega, by omega, by omega⟩
            case measure => simp [World.iterPos_iter]; omega
          · by_cases hdg : isD T[k] = true
            · have h1 := Hsc.out
              rw [if_neg hdot, if_pos hdg] at h1
              have hdg2 := of_decide_eq_true hdg
              have hi : ((T[k].toNat : Int) == 46) = false := by simp; omega
              have h48 : ¬ (T[k].toNat : Int) < 48 := by omega
              have h57 : ¬ 57 < (T[k].toNat : Int) := by omega
              have H1 := Lib.hid h1; clear h1 hdg hdg2 hdot
              go_wp2_with fail
              go_roundw
              case rel => exact ⟨k + 1, pt, _, by omega, rfl, rfl, rfl, H1.out, fun p hp => by have := Hpt.out p hp; omega, by omega, by omega⟩
              case measure => simp [World.iterPos_iter]; omega
            · have h1 := Hsc.out
              rw [if_neg hdot, if_neg hdg] at h1
              have hnd : ¬ (48 ≤ T[k].toNat ∧ T[k].toNat ≤ 57) := fun h => hdg (decide_eq_true h)
              have hcut : FormCut T w (.int .i64 (ptI pt)) (.int .i32 32) (w.iter (bs T) (k + 1)) := ⟨pt, 32, h1.symm, rfl, rfl, fun p hp => by have := Hpt.out p hp; omega, by omega, by omega, (Below.refl _ _).alloc (Nat.le_refl _) _⟩
              have Hcut := Lib.hid hcut; clear h1 hcut hdg
              by_cases h46 : T[k].toNat = 46
              · have e46 : T[k] = 46 := UInt8.toNat_inj.1 (by rw [h46]; rfl)
                have hi : ((T[k].toNat : Int) == 46) = true := by simp; omega
                have h48 : (T[k].toNat : Int) < 48 := by omega
                have Hdot := Lib.hid hdot; have E46 := Lib.hid e46; clear hdot e46 h46 hnd
                cases pt with
                | some p =>
                  rw [show ptI (some p) = (p : Int) from rfl] at Hcut
                  rw [show ptI (some p) = (p : Int) from rfl]
                  have hp0 : ¬ (p : Int) < 0 := by omega
                  go_wp2_with fail
                  go_meet
                  exact Hcut.out
                | none =>
                  have hk0 : k = 0 := by
                    rcases Nat.eq_zero_or_pos k with h | h
                    · exact h
                    · exact absurd ⟨E46.out, rfl, h⟩ Hdot.out
                  rw [show ptI none = -1 from rfl] at Hcut
                  rw [show ptI none = -1 from rfl]
                  have hk1 : ¬ (0 : Int) < (k : Int) := by omega
                  clear hk0
                  go_wp2_with fail
                  go_meet
                  exact Hcut.out
              · have hi : ((T[k].toNat : Int) == 46) = false := by simp; omega
                clear hdot
                by_cases h48 : (T[k].toNat : Int) < 48
                · clear hnd
                  go_wp2_with fail
                  go_meet
                  exact Hcut.out
                · have h57 : 57 < (T[k].toNat : Int) := by omega
                  clear hnd
                  go_wp2_with fail
                  go_meet
                  exact Hcut.out
        · have hnx := fun ty => run_next_any (P := Tryz.prog) w (bs T) k ty hlt'
          have hhi := decode_high (bs T) k hlt' (by rw [hget]; omega)
          have hle := decode_le (bs T) k
          rw [hdrop, scanT, if_neg (fun e => hasc (by rw [e.1]; decide)), if_neg (fun e => by have := of_decide_eq_true e; omega)] at hsc
          generalize Utf8.decode (bs T) k = q at *
          obtain ⟨r, n⟩ := q
          have hr1 : (128 : Int) ≤ (r : Int) := by have := hhi.1; simp at this; omega
          have hcut : FormCut T w (.int .i64 (ptI pt)) (.int .i32 32) (w.iter (bs T) (k + n)) := ⟨pt, 32, hsc.symm, rfl, rfl, fun p hp => by have := hpt p hp; omega, by omega, by omega, (Below.refl _ _).alloc (Nat.le_refl _) _⟩
          have Hcut := Lib.hid hcut
          have hi : ((r : Int) == 46) = false := by simp; omega
          have h48 : ¬ (r : Int) < 48 := by omega
          have h57 : 57 < (r : Int) := by omega
          clear hsc hcut hpt hget hdrop hhi hle
          go_wp2_with fail
          go_meet
          exact Hcut.out
      · have hnx := fun ty => run_next_end (P := Tryz.prog) w (bs T) k ty hlt
        rw [List.drop_eq_nil_of_le (by omega), scanT] at hsc
        have hcut : FormCut T w (.int .i64 (ptI pt)) (.int .i32 last) (w.iter (bs T) k) := ⟨pt, last, hsc.symm, rfl, rfl, fun p hp => by have := hpt p hp; omega, hl0, hl1, (Below.refl _ _).alloc (Nat.le_refl _) _⟩
        have Hcut := Lib.hid hcut
        clear hsc hcut hpt
        go_wp2_with fail
        go_meet
        exact Hcut.out
  case rest =>
    obtain ⟨pt, last, hsc, rfl, rfl, hpt, hl0, hl1, hbx⟩ := hcut
    have hv := verd_form T
    rw [hsc] at hv
    have hdf : decForm l = if l = [45, 48] then none else formT T := by rw [← HT.out]; rfl
    rw [← hv] at hdf
    have Hdf := Lib.hid hdf; have Hbx := Lib.hid hbx
    clear hv hsc hdf hbx
    have hW : ∃ W P, W = wholeW T pt ∧ P = placesW T pt := ⟨_, _, rfl, rfl⟩
    obtain ⟨W, P, hW, hP⟩ := hW
    have HW := Lib.hid hW; have HP := Lib.hid hP
    have hWl : W.length ≤ 1000000 := by
      rw [hW]; cases pt with
      | none => exact htl
      | some p => simp [wholeW]; omega
    clear hW hP
    go_upto_if 40 with fail
    go_cut [2, 9] (fun v2 v9 wx => v2 = .int .i64 (P : Int) ∧ v9 = .string (bs W) ∧ wx = wc)
    case first =>
      cases pt with
      | none =>
        rw [show ptI none = -1 from rfl]
        go_wp2_with fail
        go_meet
        exact ⟨by rw [HP.out]; rfl, by rw [HW.out]; rfl, rfl⟩
      | some p =>
        have hp := hpt p rfl
        rw [show ptI (some p) = (p : Int) from rfl]
        have e2 : (bs T).extract 0 p = bs (T.take p) := by rw [bs_extract, List.drop_zero, Nat.sub_zero]
        have e3 : (T.length : Int) - (p : Int) - 1 = ((T.length - p - 1 : Nat) : Int) := by omega
        have e4 : 0 ≤ (T.length : Int) - (p : Int) := by omega
        clear hpt
        go_wp2_with fail
        go_meet
        exact ⟨by rw [HP.out]; rfl, by rw [HW.out]; rfl, rfl⟩
    case rest =>
      obtain ⟨rfl, rfl, rfl⟩ := hcut
      have hvd : verdT T (pt, last) = if digI last = false ∨ (pt ≠ none ∧ last = 48) then none else if 1 < W.length ∧ W.head? = some 48 then none else some P := by
        rw [HW.out, HP.out]; exact verd_W T pt last
      have hno : decForm l = none → RetForm w l (.returned (.tuple #[.int .i64 0, .bool false])) wc := fun h => ⟨by unfold formP formB; rw [h]; rfl, Hbx.out⟩
      have Hno := Lib.hid hno
      have Hvd := Lib.hid hvd
      clear hno hvd HW HP hpt
      by_cases hlo : last < 48
      · have hn : decForm l = none := by
          have h1 := Hdf.out
          rw [Hvd.out, if_pos (Or.inl (digI_no (by omega)))] at h1
          rw [h1]; split <;> rfl
        have Hn := Lib.hid hn; clear hn
        go_wp2_with fail
        try rw [Exit.noGoto_ret]
        go_ret2
        exact Hno.out Hn.out
      · by_cases hhi : 57 < last
        · have hn : decForm l = none := by
            have h1 := Hdf.out
            rw [Hvd.out, if_pos (Or.inl (digI_no (by omega)))] at h1
            rw [h1]; split <;> rfl
          have Hn := Lib.hid hn; clear hn
          go_wp2_with fail
          try rw [Exit.noGoto_ret]
          go_ret2
          exact Hno.out Hn.out
        · have hdi : digI last = true := decide_eq_true (by omega)
          have Hdi := Lib.hid hdi; clear hdi
          by_cases hz : pt ≠ none ∧ last = 48
          · have hn : decForm l = none := by
              have h1 := Hdf.out
              rw [Hvd.out, if_pos (Or.inr hz)] at h1
              rw [h1]; split <;> rfl
            obtain ⟨hp, rfl⟩ := hz
            have hp0 : 0 ≤ ptI pt := by
              cases pt with
              | none => exact absurd rfl hp
              | some p => exact Int.natCast_nonneg p
            have Hn := Lib.hid hn; clear hn hp
            go_wp2_with fail
            try rw [Exit.noGoto_ret]
            go_ret2
            exact Hno.out Hn.out
          · have hvd2 : verdT T (pt, last) = if 1 < W.length ∧ W.head? = some 48 then none else some P := by
              rw [Hvd.out, if_neg]
              rintro (h | h)
              · rw [Hdi.out] at h; cases h
              · exact hz h
            have Hvd2 := Lib.hid hvd2; clear hvd2
            have hways : (ptI pt < 0) ∨ (0 ≤ ptI pt ∧ (last == 48) = false) := by
              cases pt with
              | none => exact Or.inl (by show (-1 : Int) < 0; omega)
              | some p => exact Or.inr ⟨Int.natCast_nonneg p, by rw [beq_eq_false_iff_ne]; exact fun e => hz ⟨by simp, e⟩⟩
            clear hz
            have hyes : W.length ≤ 1 ∨ (∃ h : 0 < W.length, W[0].toNat ≠ 48) → l ≠ [45, 48] → RetForm w l (.returned (.tuple #[.int .i64 (P : Int), .bool true])) wc := fun hw hne => by
              have hneg : ¬ (1 < W.length ∧ W.head? = some 48) := by
                rintro ⟨h2, h3⟩
                rcases hw with h | ⟨h0, h⟩
                · omega
                · rw [List.head?_eq_getElem?, List.getElem?_eq_getElem h0] at h3
                  exact h (by rw [Option.some.inj h3]; rfl)
              have h1 := Hdf.out
              rw [if_neg hne, Hvd2.out, if_neg hneg] at h1
              refine ⟨?_, Hbx.out⟩
              unfold formP formB; rw [h1]; rfl
            have hl45 : l = [45, 48] → decForm l = none := fun h => by
              have h1 := Hdf.out
              rw [if_pos h] at h1; exact h1
            have Hyes := Lib.hid hyes; have Hl45 := Lib.hid hl45; clear hyes hl45
            by_cases hW1 : 1 < W.length
            · have hix : (bs W)[0]'(by show 0 < W.length; omega) = W[0] := rfl
              have hwb : 0 < W.length := by omega
              by_cases hW0 : W[0].toNat = 48
              · have hn : decForm l = none := by
                  have hpos : 1 < W.length ∧ W.head? = some 48 := ⟨hW1, by rw [List.head?_eq_getElem?, List.getElem?_eq_getElem hwb]; exact congrArg some (UInt8.toNat_inj.1 hW0)⟩
                  have h1 := Hdf.out
                  rw [Hvd2.out, if_pos hpos] at h1
                  rw [h1]; split <;> rfl
                have Hn := Lib.hid hn; clear hn
                have hW1' : 1 < (W.length : Int) := by omega
                have hW0' : ((W[0].toNat : Int) == 48) = true := by simp; omega
                rcases hways with hw | ⟨hw, hw2⟩
                all_goals
                  clear hW0
                  go_wp2_with fail
                  try rw [Exit.noGoto_ret]
                  go_ret2
                  exact Hno.out Hn.out
              · have Hy := Lib.hid (Hyes.out (Or.inr ⟨hwb, hW0⟩))
                have hW1' : 1 < (W.length : Int) := by omega
                have hW0' : ((W[0].toNat : Int) == 48) = false := by simp; omega
                by_cases hl4 : l = [45, 48]
                · have Hn := Lib.hid (Hl45.out hl4)
                  subst hl4
                  rcases hways with hw | ⟨hw, hw2⟩
                  all_goals
                    clear hW0
                    go_wp2_with fail
                    try rw [Exit.noGoto_ret]
                    go_ret2
                    exact Hno.out Hn.out
                · have Hl4 := Lib.hid hl4
                  have hcmp : (l == [45, 48]) = false := by rw [beq_eq_false_iff_ne]; exact hl4
                  rcases hways with hw | ⟨hw, hw2⟩
                  all_goals
                    clear hW0
                    go_wp2_with fail
                    try rw [Exit.noGoto_ret]
                    go_ret2
                    exact Hy.out Hl4.out
            · have Hy := Lib.hid (Hyes.out (Or.inl (by omega)))
              have hW1' : ¬ 1 < (W.length : Int) := by omega
              by_cases hl4 : l = [45, 48]
              · have Hn := Lib.hid (Hl45.out hl4)
                subst hl4
                rcases hways with hw | ⟨hw, hw2⟩
                all_goals
                  go_wp2_with fail
                  try rw [Exit.noGoto_ret]
                  go_ret2
                  exact Hno.out Hn.out
              · have Hl4 := Lib.hid hl4
                have hcmp : (l == [45, 48]) = false := by rw [beq_eq_false_iff_ne]; exact hl4
                rcases hways with hw | ⟨hw, hw2⟩
                all_goals
                  go_wp2_with fail
                  try rw [Exit.noGoto_ret]
                  go_ret2
                  exact Hy.out Hl4.out
end Go.Proofs.YtgohdcccfkjooaaGreatDoor

namespace Go.Proofs.YtgohdcccfkjooaaGreatDoor
open Go.RowKit

theorem index_none : ∀ (A : List UInt8), (∀ b ∈ A, b ≠ 46) → Lib.index A [46] = -1
  | [], _ => rfl
  | b :: A, h => by
    have ih := index_none A (fun c hc => h c (List.mem_cons_of_mem _ hc))
    have hb := h b List.mem_cons_self
    have hp : ([46] : List UInt8).isPrefixOf (b :: A) = false := by
      show ((46 : UInt8) == b && _) = false
      rw [Bool.and_eq_false_iff]
      exact Or.inl (beq_eq_false_iff_ne.2 (fun e => hb e.symm))
    rw [Lib.index, hp, ih]; rfl
theorem index_dot : ∀ (A f : List UInt8), (∀ b ∈ A, b ≠ 46) → Lib.index (A ++ 46 :: f) [46] = A.length
  | [], f, _ => rfl
  | b :: A, f, h => by
    have ih := index_dot A f (fun c hc => h c (List.mem_cons_of_mem _ hc))
    have hb := h b List.mem_cons_self
    have hp : ([46] : List UInt8).isPrefixOf (b :: (A ++ 46 :: f)) = false := by
      show ((46 : UInt8) == b && _) = false
      rw [Bool.and_eq_false_iff]
      exact Or.inl (beq_eq_false_iff_ne.2 (fun e => hb e.symm))
    have hm : ((A.length : Int) == -1) = false := by rw [beq_eq_false_iff_ne]; omega
    rw [List.cons_append, Lib.index, hp, ih, hm, List.length_cons]
    simp
theorem replace_none {A : List UInt8} (h : ∀ b ∈ A, b ≠ 46) : Lib.replace A [46] [] 1 = A := by
  have hi := index_none A h
  unfold Lib.replace
  rw [if_neg (by decide)]
  cases Lib.replaceNum A [46] 1 with
  | zero => rfl
  | succ k => rw [Lib.replaceK, hi]; rfl
theorem replace_dot {A f : List UInt8} (h : ∀ b ∈ A, b ≠ 46) : Lib.replace (A ++ 46 :: f) [46] [] 1 = A ++ f := by
  have hi := index_dot A f h
  unfold Lib.replace
  rw [if_neg (by decide)]
  have hc := Lib.count_hit (s := A ++ 46 :: f) (sub := [46]) (by simp) hi
  have hn : Lib.replaceNum (A ++ 46 :: f) [46] 1 = 1 := by
    unfold Lib.replaceNum
    rw [if_neg (by omega)]; rfl
  rw [hn, Lib.replaceK_hit _ _ _ _ _ hi, Lib.replaceK]
  simp
/-- the digits of a text that has a form -/
theorem replace_parts {s : List UInt8} {p : Nat} (q : Parts s p) : Lib.replace s [46] [] 1 = (if q.neg then [45] else []) ++ (q.w ++ q.f) := by
  have hA : ∀ b ∈ (if q.neg then [45] else ([] : List UInt8)) ++ q.w, b ≠ 46 := by
    intro b hb
    rcases List.mem_append.1 hb with hb | hb
    · split at hb
      · rw [List.mem_singleton.1 hb]; decide
      · cases hb
    · have := not46 (List.all_eq_true.1 q.hw b hb)
      exact beq_eq_false_iff_ne.1 this
  by_cases hf : q.f = []
  · have e : s = (if q.neg then [45] else ([] : List UInt8)) ++ q.w := by
      have := q.eq; rw [if_pos hf, List.append_nil] at this; exact this
    rw [hf, List.append_nil, ← e]
    rw [← e] at hA
    exact replace_none hA
  · have e : s = ((if q.neg then [45] else ([] : List UInt8)) ++ q.w) ++ 46 :: q.f := by
      have := q.eq; rw [if_neg hf, ← List.append_assoc] at this; exact this
    have h2 := replace_dot (f := q.f) hA
    rw [← e] at h2
    rw [h2, List.append_assoc]
theorem parts_len {s : List UInt8} {p : Nat} (q : Parts s p) : ((if q.neg then [45] else ([] : List UInt8)) ++ (q.w ++ q.f)).length ≤ s.length := by
  have h1 : (if q.f = [] then ([] : List UInt8) else 46 :: q.f).length = 0 ∧ q.f.length = 0 ∨ (if q.f = [] then ([] : List UInt8) else 46 :: q.f).length = q.f.length + 1 := by
    split
    · rename_i h; exact Or.inl ⟨rfl, by rw [h]; rfl⟩
    · exact Or.inr rfl
  have h2 : s.length = (if q.neg then [45] else ([] : List UInt8)).length + (q.w.length + (if q.f = [] then ([] : List UInt8) else 46 :: q.f).length) := (congrArg List.length q.eq).trans (by rw [List.length_append, List.length_append])
  rw [List.length_append, List.length_append]
  omega

set_option maxRecDepth 100000 in
set_option maxHeartbeats 800000 in
theorem decParse_any (l : List UInt8) (d : Nat) (w : World) (hl : l.length ≤ 100000) (hd : d ≤ 18) (hg : GW w) :
    Calls Tryz.prog 183 #[.string (bs l), .int .i64 (d : Int)] w (RetPar w l d) := by
  have hd1 : ¬ (d : Int) < 0 := by omega
  have hd2 : ¬ 18 < (d : Int) := by omega
  have Hg := Lib.hid hg; clear hg
  go_enter Tryz.func183, Tryz.ntmps183
  go_wp2_with fail
  refine (decForm_any l _ (by omega)).mono ?_
  rintro e w1 ⟨rfl, hb1⟩
  have Hb1 := Lib.hid hb1; clear hb1
  have hpN : parN l d = (match decForm l with | none => 0 | some p => if p ≤ d ∧ fits (numV l * 10 ^ (d - p)) = true then numV l * 10 ^ (d - p) else 0) := rfl
  have hpE : parE l d = (match decForm l with | none => 5 | some p => if p ≤ d then (if fits (numV l * 10 ^ (d - p)) = true then 0 else 6) else 5) := rfl
  unfold formP formB
  cases hdf : decForm l with
  | none =>
    rw [hdf] at hpN hpE
    have HN := Lib.hid hpN; have HE := Lib.hid hpE; clear hpN hpE hdf
    simp only [Option.isSome_none]
    go_wp2_with fail
    go_ret2
    refine ⟨?_, Hb1.out⟩
    rw [HN.out, HE.out]; rfl
  | some p =>
    rw [hdf] at hpN hpE
    obtain ⟨q⟩ := form_parts hdf
    have HN := Lib.hid hpN; have HE := Lib.hid hpE; clear hpN hpE hdf
    simp only [Option.isSome_some]
    by_cases hpd : d < p
    · have hpd' : (d : Int) < (p : Int) := by omega
      have Hpd := Lib.hid hpd; clear hpd
      go_wp2_with fail
      go_ret2
      refine ⟨?_, Hb1.out⟩
      have h1 := HN.out; have h2 := HE.out
      have h3 := Hpd.out
      rw [if_neg (by omega)] at h1 h2
      rw [h1, h2]; rfl
    · have hpd' : ¬ (d : Int) < (p : Int) := by omega
      have hrep := replace_parts q
      have hrl := parts_len q
      have hat := atoi_parts q (d - p)
      have hgw1 := Hg.out.below Hb1.out
      generalize hA : (if q.neg then [45] else ([] : List UInt8)) ++ (q.w ++ q.f) = A at *
      have hA2 : (if q.neg then [45] else ([] : List UInt8)) ++ (q.w ++ q.f ++ List.replicate (d - p) 48) = A ++ List.replicate (d - p) 48 := by rw [← hA]; simp
      rw [hA2] at hat
      obtain ⟨m, hm⟩ := hgw1.m
      have hcall := Tryz.strings_Replace (bs l) (bs [46]) (bs []) 1 m w1 (by rw [size_of_bs]; omega) hm (by rw [size_of_bs]; decide) (by rw [size_of_bs, size_of_bs]; simp; omega)
      rw [bs_data, bs_data, bs_data, hrep] at hcall
      have Hcall := Lib.hid hcall; have Hat := Lib.hid hat; have Hgw1 := Lib.hid hgw1
      clear hcall hat hgw1 hm hrep hA hA2 q
      go_wp2_with fail
      refine Hcall.out.mono ?_
      rintro e w2 ⟨rfl, hb2⟩
      have Hb2 := Lib.hid hb2; clear hb2
      go_wp2_with fail
      have edp : ((d : Int) - (p : Int)) = ((d - p : Nat) : Int) := by omega
      rw [edp]
      refine (repeat_any [48] (d - p) _ (by omega) (by simp)).mono ?_
      rintro e w3 ⟨rfl, hb3⟩
      rw [repeatL_eq]
      have hb23 : Below w1.heap.size w1 w3 := Hb2.out.trans (hb3.mono Hb2.out.size)
      have hgw3 := Hgw1.out.below hb23
      have hw3 := Hb1.out.trans (hb23.mono Hb1.out.size)
      have hcat : ({ data := A.toArray } : ByteArray) ++ bs (List.replicate (d - p) 48) = bs (A ++ List.replicate (d - p) 48) := bs_append _ _
      have hRl : (List.replicate (d - p) (48 : UInt8)).length ≤ 18 := by rw [List.length_replicate]; omega
      have hAR : (A ++ List.replicate (d - p) (48 : UInt8)).length ≤ 100018 := by rw [List.length_append, List.length_replicate]; omega
      generalize hX : numV l * 10 ^ (d - p) = X at *
      have HX := Lib.hid hX; have Hgw3 := Lib.hid hgw3; have Hw3 := Lib.hid hw3; clear hX hb3 hb23 hgw3 hw3 edp
      have hNE : parN l d = (if fits X then X else 0) ∧ parE l d = (if fits X then 0 else 6) := by
        have h1 := HN.out; have h2 := HE.out
        have h3 : p ≤ d := by omega
        rw [if_pos h3] at h2
        refine ⟨?_, h2⟩
        rw [h1]
        by_cases h4 : fits X = true
        · rw [if_pos ⟨h3, h4⟩, if_pos h4]
        · rw [if_neg (fun e => h4 e.2), if_neg h4]
      have HNE := Lib.hid hNE; clear hNE HN HE
      generalize A ++ List.replicate (d - p) (48 : UInt8) = AR at *
      generalize List.replicate (d - p) (48 : UInt8) = R at *
      go_wp2_with fail
      by_cases hfit : fits X = true
      · have hat : Lib.atoiAll (bs AR).data.toList = .ok X := by
          have h1 := Hat.out
          have h2 := of_decide_eq_true hfit
          rw [if_neg (by omega)] at h1
          exact h1
        have Hfit := Lib.hid hfit
        refine (Tryz.strconv_Atoi_ok (bs AR) (by rw [size_of_bs]; omega) X hat w3).mono ?_
        rintro e w4 ⟨rfl, hw4⟩
        have hb4 : Below w3.heap.size w3 w4 := by
          rcases hw4 with rfl | ⟨t, rfl⟩
          · exact Below.refl _ _
          · exact Lib.bytesWorld_below _ _ _
        have Hb4 := Lib.hid (Hw3.out.trans (hb4.mono Hw3.out.size)); clear hb4 hw4 hat hfit
        go_wp2_with fail
        go_ret2
        refine ⟨?_, Hb4.out⟩
        rw [HNE.out.1, HNE.out.2, Hfit.out]; rfl
      · have hfit' : fits X = false := by simpa using hfit
        have hat : Lib.atoiAll (bs AR).data.toList = .range := by
          have h1 := Hat.out
          have h2 : ¬ (-9223372036854775808 ≤ X ∧ X ≤ 9223372036854775807) := of_decide_eq_false hfit'
          rw [if_pos (by omega)] at h1
          exact h1
        have Hfit := Lib.hid hfit'
        obtain ⟨tp, pv, hrng⟩ := Hgw3.out.rng
        refine (Tryz.strconv_Atoi_range_var (bs AR) (by rw [size_of_bs]; omega) hat tp pv w3 hrng).mono ?_
        rintro e w4 ⟨N, rfl, -, -, hb4⟩
        have Hb4 := Lib.hid (Hw3.out.trans (hb4.mono Hw3.out.size)); clear hb4 hat hfit hfit' hrng
        go_wp2_with fail
        go_ret2
        refine ⟨?_, Hb4.out⟩
        rw [HNE.out.1, HNE.out.2, Hfit.out]; rfl
end Go.Proofs.YtgohdcccfkjooaaGreatDoor

namespace Go.Proofs.YtgohdcccfkjooaaGreatDoor
open Go.RowKit

/-! ### rows of strings -/
def strCs (l : List (List UInt8)) : List Value := l.map fun s => .string (bs s)
theorem strCs_append (a b : List (List UInt8)) : strCs (a ++ b) = strCs a ++ strCs b := List.map_append
theorem strCs_len (l : List (List UInt8)) : (strCs l).length = l.length := List.length_map _
theorem Tryz.infoStr : (Tryz.prog.info? 9).map (fun i => (i.zero, i.size, i.bytes)) = some (some (.string { data := #[] }), 1, 16) := by kernel_rfl
theorem owns_str_at {w : World} {base : Nat} {a : Option Addr} {n c : Nat} {l : List (List UInt8)} (h : w.ownsRow base 9 1 (.slice a n c) n (strCs l)) (hl : 0 < l.length) :
    ∃ g, a = some ⟨g, 0, none⟩ ∧ base ≤ g ∧ g < w.heap.size ∧ n = l.length ∧ n ≤ c ∧ ∀ (j : Nat) x, (l.map bs)[j]? = some x → w.cell? ⟨g, 0 + j, none⟩ = some (.string x) := by
  have hn := h.1
  rw [strCs_len] at hn
  rcases (owns_cells h).2 with ⟨e, h0⟩ | ⟨g, cap, e, hg, hcap, hcells⟩
  · omega
  · cases e
    refine ⟨g, rfl, hg, hcells.lt, by omega, hcap, fun j x hj => ?_⟩
    rw [List.getElem?_map] at hj
    cases hlj : l[j]? with
    | none => rw [hlj] at hj; cases hj
    | some s =>
      rw [hlj] at hj
      cases hj
      have hjl := (List.getElem?_eq_some_iff.1 hlj).1
      rw [Nat.zero_add, hcells.cell (j := j) (by rw [strCs_len]; exact hjl)]
      simp only [strCs, List.getElem_map]
      rw [(List.getElem?_eq_some_iff.1 hlj).2]
/-- words in memory, in blocks below B -/
def Wds (w : World) (a : Option Addr) (n c : Nat) (ws : List (List UInt8)) (B : Nat) : Prop :=
  ws.length = n ∧ n ≤ c ∧ (0 < n → ∃ g off, a = some ⟨g, off, none⟩ ∧ g < B ∧ ∀ i x, ws[i]? = some x → w.cell? ⟨g, off + i, none⟩ = some (.string (bs x)))
theorem Wds.kept {w w' : World} {a : Option Addr} {n c B B' : Nat} {ws : List (List UInt8)} (h : Wds w a n c ws B) (hk : ∀ k, k < B → w'.heap[k]? = w.heap[k]?) (hB : B ≤ B') : Wds w' a n c ws B' := by
  refine ⟨h.1, h.2.1, fun h0 => ?_⟩
  obtain ⟨g, off, e, hg, hc⟩ := h.2.2 h0
  refine ⟨g, off, e, by omega, fun i x hx => ?_⟩
  rw [← hc i x hx]
  simp only [World.cell?, hk g hg]
theorem wordsS_ne : ∀ (l u : List UInt8), ∀ s ∈ wordsS u l, s ≠ []
  | [], u, s, h => by
    rw [wordsS] at h
    split at h
    · cases h
    · rw [List.mem_singleton] at h; subst h; assumption
  | b :: l, u, s, h => by
    rw [wordsS] at h
    split at h
    · split at h
      · exact wordsS_ne l _ s h
      · rcases List.mem_cons.1 h with rfl | h
        · assumption
        · exact wordsS_ne l _ s h
    · exact wordsS_ne l _ s h
theorem wordsS_len : ∀ (l u : List UInt8), ∀ s ∈ wordsS u l, s.length ≤ u.length + l.length
  | [], u, s, h => by
    rw [wordsS] at h
    split at h
    · cases h
    · rw [List.mem_singleton] at h; subst h; simp
  | b :: l, u, s, h => by
    rw [wordsS] at h
    rw [List.length_cons]
    split at h
    · split at h
      · have := wordsS_len l _ s h; simp at this; omega
      · rcases List.mem_cons.1 h with rfl | h
        · omega
        · have := wordsS_len l _ s h; simp at this; omega
    · have := wordsS_len l _ s h; simp at this; omega
theorem wordsS_many : ∀ (l u : List UInt8), (wordsS u l).length ≤ l.length + 1
  | [], u => by
    rw [wordsS]
    split <;> simp
  | b :: l, u => by
    rw [wordsS, List.length_cons]
    split
    · split
      · have := wordsS_many l []; omega
      · have := wordsS_many l []; rw [List.length_cons]; omega
    · have := wordsS_many l (u ++ [b]); omega
theorem lines_len : ∀ (l u : List UInt8), ∀ s ∈ linesOf u l, s.length ≤ u.length + l.length
  | [], u, s, h => by
    rw [linesOf, List.mem_singleton] at h; subst h; simp
  | b :: l, u, s, h => by
    rw [linesOf] at h
    rw [List.length_cons]
    split at h
    · rcases List.mem_cons.1 h with rfl | h
      · omega
      · have := lines_len l _ s h; simp at this; omega
    · have := lines_len l _ s h; simp at this; omega
theorem lines_many : ∀ (l u : List UInt8), (linesOf u l).length ≤ l.length + 1
  | [], u => by simp [linesOf]
  | b :: l, u => by
    rw [linesOf, List.length_cons]
    split
    · have := lines_many l []; rw [List.length_cons]; omega
    · have := lines_many l (u ++ [b]); omega

theorem splitL_any (l : List UInt8) (w : World) (hg : GW w) (hl : l.length ≤ 1000000) : Calls Tryz.prog 27 #[.string (bs l), .string (bs [10])] w fun e w' =>
    e = .returned (.slice (some ⟨w.heap.size, 0, none⟩) (linesOf [] l).length (linesOf [] l).length) ∧ w' = w.alloc (.cells (strCs (linesOf [] l)).toArray 9) := by
  obtain ⟨m, hm⟩ := hg.m
  refine (Tryz.strings_Split (bs l) (bs [10]) m w (by rw [size_of_bs]; omega) hm (by decide)).mono ?_
  rintro e w' ⟨rfl, rfl⟩
  have h1 := splitB_lines l
  have h2 := count_lines l.length l (Nat.le_refl _)
  rw [h1, show Lib.countB (bs l) (bs [10]) = Lib.count l [10] from rfl, ← h2, List.map_map]
  exact ⟨rfl, rfl⟩
theorem isBlank_any (x : Nat) (w : World) (hx : x ≤ 1114111) : Calls Tryz.prog 89 #[.int .i32 (x : Int)] w fun e w' => e = .returned (.bool (spS x)) ∧ w = w' := by
  by_cases h1 : x = 32
  · subst h1
    go_enter Tryz.func89, Tryz.ntmps89
    go_wp2_with fail
    go_ret
    exact ⟨rfl, rfl⟩
  · have h1' : ((x : Int) == 32) = false := by rw [beq_eq_false_iff_ne]; omega
    have hs : spS x = false := by unfold spS; rw [beq_eq_false_iff_ne]; exact h1
    have Hs := Lib.hid hs; clear hs h1
    go_enter Tryz.func89, Tryz.ntmps89
    go_wp2_with fail
    go_ret
    exact ⟨by rw [Hs.out]; rfl, rfl⟩
theorem fields_any (l : List UInt8) (w : World) (hl : l.length ≤ 1000000) : Calls Tryz.prog 88 #[.string (bs l), .func (.func 89) #[] #[]] w fun e w' =>
    ∃ A, e = .returned (.slice (some ⟨A, 0, none⟩) (wordsS [] l).length (wordsS [] l).length) ∧ Wds w' (some ⟨A, 0, none⟩) (wordsS [] l).length (wordsS [] l).length (wordsS [] l) w'.heap.size ∧ Below w.heap.size w w' := by
  refine (Tryz.strings_FieldsFunc_grows 89 #[] (fun args w => by kernel_rfl) spS (bs l) w (by rw [size_of_bs]; omega) ?_).mono ?_
  · intro W x hx _
    exact (isBlank_any x W hx).mono fun e w' h => ⟨h.1, h.2 ▸ Below.refl _ _⟩
  · rintro e w' ⟨A, rfl, hA, hown, hb⟩
    rw [fieldsS_words, List.length_map, List.map_map] at *
    refine ⟨A, rfl, ⟨rfl, Nat.le_refl _, fun h0 => ?_⟩, hb⟩
    obtain ⟨g, hg1, -, hg2, -, -, hg3⟩ := owns_str_at (l := wordsS [] l) hown h0
    cases hg1
    refine ⟨A, 0, rfl, hg2, fun i x hx => ?_⟩
    have := hg3 i (bs x) (by rw [List.getElem?_map, hx]; rfl)
    exact this

/-- words with blanks between them -/
def joinS : List (List UInt8) → List UInt8
  | [] => []
  | [x] => x
  | x :: y :: l => x ++ 32 :: joinS (y :: l)
theorem joinS_eq : ∀ (l : List (List UInt8)), Lib.join l [32] = joinS l
  | [] => rfl
  | [x] => by rw [Lib.join_one]; rfl
  | x :: y :: l => by
    have h := joinS_eq (y :: l)
    rw [Lib.join_cons] at h
    rw [Lib.join_cons, joinS, ← h]
    simp [Lib.joinTail]
end Go.Proofs.YtgohdcccfkjooaaGreatDoor
