/- WholeDelays: part 2. -/
import Derived.Test.YtcjphpenelnohaaGreatDoorWd1
import Derived.Sort.OwnSorted
import Derived.Lib.OwnBridge
import Derived.Lib.AppendZeros
import Derived.Maps.RangeRun
set_option linter.all false
set_option linter.unusedVariables false
set_option linter.unusedSimpArgs false
set_option linter.unusedSectionVars false
set_option linter.unnecessarySimpa false
set_option linter.deprecated false
/- Gd: by tools/gen.py -/
set_option linter.unusedVariables false
namespace Go.Proofs.YtcjphpenelnohaaGreatDoor
open Go.RowKit

/-- (value.Value).Size -/
def S82 (F : J → Option Int) : Prop := ∀ {H0 : Hp} {w0 : World} {a0_0 : J} {xa0_0 : Value}  (_ : Imm H0 w0) (_ : VR H0 xa0_0 a0_0) {r : Int} (_ : F a0_0 = some r), Ct Tryz.prog 82 [.agg (List.toArray [xa0_0])] [] H0 w0 fun v H' w' => v = .int .i64 r
def m82_l0 (f82 : J → Option Int) (t1 : List J) : Nat → Int → Int → Option Int
  | 0, _, _ => none
  | k + 1, v3_1, v9_1 => (bif (decide (v9_1 < (t1.length : Int))) then (bif (decide (0 ≤ v9_1 ∧ v9_1 < (t1.length : Int))) then ((f82 (t1.getD (v9_1).toNat J.null)).bind fun t5 => (m82_l0 f82 t1 k (IntKind.wrap .i64 (v3_1 + t5)) (IntKind.wrap .i64 (v9_1 + (1 : Int))))) else none) else (some (v3_1)))
def m82o (f82 : J → Option Int) (a0_0 : J) : Option Int :=
  ((m130 a0_0).bind fun t1 => (m82_l0 f82 t1 FUEL (1 : Int) (0 : Int)))
set_option maxHeartbeats 20000000 in
set_option maxRecDepth 100000 in
theorem c82o {f82 : J → Option Int} (h82 : S82 f82) : S82 (m82o f82) := by
  unfold S82
  intro H0 w0 a0_0 xa0_0  hI ha0_0 r hm
  have hL := L.start hI
  refine ct_of Tryz.func82 rfl Tryz.ntmps82 rfl (Nat.le_of_ble_eq_true rfl) ?_
  unfold m82o at hm
  refine sr ?_
  refine wl rfl (o_box 0 (c := [_]) hL rfl rfl fun b0 w hL => ?_)
  refine sv (r_assign rfl) <| wt <| sr <| sv (r_assign rfl) <| wt <| wp_seq <| sr <| sv (r_loadk (hL.own 0 _ rfl) ag_33 rfl (vs := [_]) rfl rfl) ?_
  obtain ⟨t1, ht1, hm⟩ := bnd hm
  refine wl rfl (o_call0 hL fn_130 rfl (c130 hL.imm ha0_0 ht1) fun v H w hlet1 hL hR => ?_)
  replace ha0_0 := VR.mono hlet1 ha0_0
  obtain ⟨at1r0_0, ct1r0_0, rfl, ht1r0_0⟩ := hR
  refine sv (r_lenS rfl Tryz.underlying23 rfl) <| sv (r_move rfl) <| wt <| wp_block <| wp_loop_fuel (k := FUEL) (fun k a w => ∃ (v3_1 : Int) (v9_1 : Int) (l : List (Nat × Value)) (H : Hp), a = fr 19 ([(2, .int .i64 0), (3, .int .i64 v3_1), (7, .slice at1r0_0 (List.length t1) ct1r0_0), (8, .int .i64 (t1.length : Int)), (9, .int .i64 v9_1)] ++ l) [] ∧ L [] H0 w0 [(0, .cel b0 (xa0_0 :: []) 33)] H w ∧ VR H xa0_0 a0_0 ∧ Sl cJ H at1r0_0 ct1r0_0 t1 ∧ (m82_l0 f82 t1 k v3_1 v9_1) = some r) ⟨_, _, _, _, fr_pre _ rfl, hL.pick _ rfl, ha0_0, ht1r0_0, hm⟩ ?_
  rintro k0 a w ⟨v3_1, v9_1, l, H, rfl, hL, ha0_0, ht1r0_0, hm⟩
  cases k0 with
  | zero => rw [m82_l0.eq_1] at hm; cases hm
  | succ k0 =>
    rw [m82_l0.eq_2] at hm
    refine sr <| sv (r_lss rfl rfl) <| wt <| wp_seq ?_
    refine c_if hm rfl (fun hg2 hm => ?_) (fun hg2 hm => ?_)
    · refine wp_skip <| then_n <| wp_seq <| wp_block <| sr ?_
      obtain ⟨hg4, hm⟩ := grd hm
      obtain ⟨be3, oe3, _, hae3, hce3, ⟨xe30, rfl, he30⟩⟩ := Sl.at ht1r0_0 J.null hg4
      refine sv (r_indexAddr el_23 hg4 hae3 rfl rfl) <| sv (r_loadHk hL.imm ag_33 rfl (vs := [_]) hce3 rfl) ?_
      refine wl rfl (o_alloc 1 (c := [_]) hL ze_33 rfl fun b1 w hL => ?_)
      refine wl rfl (o_storek (i := 1) (vs := [_]) hL ag_33 rfl rfl rfl rfl (Nat.le_of_ble_eq_true rfl) (List.forall_mem_cons.2 ⟨(VR.one he30), List.forall_mem_nil _⟩) (c' := _ :: []) rfl fun w hL => ?_)
      refine wt <| rg <| sv (r_move rfl) <| sv (r_loadk (hL.own 1 _ rfl) ag_33 rfl (vs := [_]) rfl rfl) ?_
      obtain ⟨t5, ht5, hm⟩ := bnd hm
      refine wl rfl (o_call0 hL fn_82 rfl (h82 hL.imm he30 ht5) fun v H w hlet5 hL hR => ?_)
      replace ha0_0 := VR.mono hlet5 ha0_0
      replace ht1r0_0 := Sl.mono hlet5 ht1r0_0
      obtain rfl := hR
      refine sv (r_add rfl rfl) <| sv (r_assign rfl) <| wn <| blk_n <| then_n <| rg <| sv (r_add rfl rfl) <| sv (r_move rfl) <| wt ?_
      exact ⟨k0, Nat.lt_succ_self k0, _, _, _, _, fr_pre _ rfl, hL.pick _ rfl, ha0_0, ht1r0_0, hm⟩
    · refine wp_exit <| then_e <| then_e <| blk_e <| then_n <| sr <| sv (r_move rfl) <| sv (r_assign rfl) <| wt <| wp_ret ?_
      obtain rfl := ends hm
      exact rt rfl (.tmp rfl .nil) ⟨_, _, rfl, hL.ext, rfl⟩
def m82n : Nat → J → Option Int
  | 0 => fun _ => none
  | n + 1 => m82o (m82n n)
theorem c82n (n : Nat) : S82 (m82n n) := by
  induction n with
  | zero =>
    unfold S82
    intro H0 w0 a0_0 xa0_0  hI ha0_0 r hm
    rw [m82n.eq_1] at hm
    cases hm
  | succ n ih => exact c82o ih
def m82 : J → Option Int := m82n FUEL
theorem c82 : S82 m82 := c82n FUEL

/-- (value.Value).Deep -/
def S83 (F : J → Option Int) : Prop := ∀ {H0 : Hp} {w0 : World} {a0_0 : J} {xa0_0 : Value}  (_ : Imm H0 w0) (_ : VR H0 xa0_0 a0_0) {r : Int} (_ : F a0_0 = some r), Ct Tryz.prog 83 [.agg (List.toArray [xa0_0])] [] H0 w0 fun v H' w' => v = .int .i64 r
def m83_l0 (t1 : List J) : Nat → Option Int
  | 0 => none
  | k + 1 => (bif (decide ((0 : Int) < (t1.length : Int))) then none else (some ((IntKind.wrap .i64 ((0 : Int) + (1 : Int))))))
def m83o (f83 : J → Option Int) (a0_0 : J) : Option Int :=
  ((m130 a0_0).bind fun t1 => (m83_l0 t1 FUEL ))
set_option maxHeartbeats 20000000 in
set_option maxRecDepth 100000 in
theorem c83o {f83 : J → Option Int} (h83 : S83 f83) : S83 (m83o f83) := by
  unfold S83
  intro H0 w0 a0_0 xa0_0  hI ha0_0 r hm
  have hL := L.start hI
  refine ct_of Tryz.func83 rfl Tryz.ntmps83 rfl (Nat.le_of_ble_eq_true rfl) ?_
  unfold m83o at hm
  refine sr ?_
  refine wl rfl (o_box 0 (c := [_]) hL rfl rfl fun b0 w hL => ?_)
  refine sv (r_assign rfl) <| wt <| sr <| sv (r_assign rfl) <| wt <| wp_seq <| sr <| sv (r_loadk (hL.own 0 _ rfl) ag_33 rfl (vs := [_]) rfl rfl) ?_
  obtain ⟨t1, ht1, hm⟩ := bnd hm
  refine wl rfl (o_call0 hL fn_130 rfl (c130 hL.imm ha0_0 ht1) fun v H w hlet1 hL hR => ?_)
  replace ha0_0 := VR.mono hlet1 ha0_0
  obtain ⟨at1r0_0, ct1r0_0, rfl, ht1r0_0⟩ := hR
  refine sv (r_lenS rfl Tryz.underlying23 rfl) <| sv (r_move rfl) <| wt <| wp_block <| wp_loop_fuel (k := FUEL) (fun k a w => ∃  (l : List (Nat × Value)) (H : Hp), a = fr 20 ([(2, .int .i64 0), (3, .int .i64 0), (7, .slice at1r0_0 (List.length t1) ct1r0_0), (8, .int .i64 (t1.length : Int)), (9, .int .i64 0)] ++ l) [] ∧ L [] H0 w0 [(0, .cel b0 (xa0_0 :: []) 33)] H w ∧ VR H xa0_0 a0_0 ∧ Sl cJ H at1r0_0 ct1r0_0 t1 ∧ (m83_l0 t1 k ) = some r) ⟨_, _, fr_pre _ rfl, hL.pick _ rfl, ha0_0, ht1r0_0, hm⟩ ?_
  rintro k0 a w ⟨l, H, rfl, hL, ha0_0, ht1r0_0, hm⟩
  cases k0 with
  | zero => rw [m83_l0.eq_1] at hm; cases hm
  | succ k0 =>
    rw [m83_l0.eq_2] at hm
    refine sr <| sv (r_lss rfl rfl) <| wt <| wp_seq ?_
    refine c_if hm rfl (fun hg2 hm => ?_) (fun hg2 hm => ?_)
    · cases hm
    · refine wp_exit <| then_e <| then_e <| blk_e <| then_n <| sr <| sv (r_move rfl) <| sv (r_add rfl rfl) <| sv (r_assign rfl) <| wt <| wp_ret ?_
      obtain rfl := ends hm
      exact rt rfl (.tmp rfl .nil) ⟨_, _, rfl, hL.ext, rfl⟩
def m83n : Nat → J → Option Int
  | 0 => fun _ => none
  | n + 1 => m83o (m83n n)
theorem c83n (n : Nat) : S83 (m83n n) := by
  induction n with
  | zero =>
    unfold S83
    intro H0 w0 a0_0 xa0_0  hI ha0_0 r hm
    rw [m83n.eq_1] at hm
    cases hm
  | succ n ih => exact c83o ih
def m83 : J → Option Int := m83n FUEL
theorem c83 : S83 m83 := c83n FUEL

/-- value.Point -/
def m247 (a0 : Int) (a1 : Int) : Option (J × Int) :=
  ((m323 a0).bind fun t1 => (bif (!t1) then none else ((m323 a1).bind fun t3 => (bif (!t3) then none else (bif (decide (-9007199254740992 ≤ a0 ∧ a0 ≤ 9007199254740992)) then (bif (decide (-9007199254740992 ≤ a1 ∧ a1 ≤ 9007199254740992)) then (some ((J.point a0 a1), (0 : Int))) else none) else none)))))
set_option maxHeartbeats 20000000 in
set_option maxRecDepth 100000 in
theorem c247 : ∀ {H0 : Hp} {w0 : World} {a0 : Int} {a1 : Int}  (_ : Imm H0 w0) {r : (J × Int)} (_ : m247 a0 a1 = some r), Ct Tryz.prog 247 [.int .i64 a0, .int .i64 a1] [] H0 w0 fun v H' w' => ∃ (xr0_0 : Value), v = .tuple (List.toArray [.agg (List.toArray [xr0_0]), .int .i64 r.2]) ∧ VR H' xr0_0 r.1 := by
  intro H0 w0 a0 a1  hI r hm
  have hL := L.start hI
  refine ct_of Tryz.func247 rfl Tryz.ntmps247 rfl (Nat.le_of_ble_eq_true rfl) ?_
  unfold m247 at hm
  refine sr ?_
  refine wl rfl (o_alloc 0 (c := [_]) hL ze_33 rfl fun b0 w hL => ?_)
  refine sv (r_assign rfl) <| wt <| wp_seq <| sr <| sv (r_move rfl) ?_
  obtain ⟨t1, ht1, hm⟩ := bnd hm
  refine wl rfl (o_call0 hL fn_323 rfl (c323 hL.imm ht1) fun v H w hlet1 hL hR => ?_)
  obtain rfl := hR
  refine sv (r_not rfl) <| sv (r_move rfl) ?_
  refine m_if hm (fun hg2 hm => ?_) (fun hg2 hm => ?_)
  · cases hm
  · refine wlT rfl rfl rfl rfl hg2 (o_val (r_move rfl) ?_)
    obtain ⟨t3, ht3, hm⟩ := bnd hm
    refine wlT rfl rfl rfl rfl hg2 (o_call0 hL fn_323 rfl (c323 hL.imm ht3) fun v H w hlet3 hL hR => ?_)
    obtain rfl := hR
    refine wlT rfl rfl rfl rfl hg2 (o_val (r_not rfl) ?_)
    refine sv (r_pickF hg2 rfl rfl) <| wt ?_
    refine c_if hm rfl (fun hg4 hm => ?_) (fun hg4 hm => ?_)
    · cases hm
    · refine wp_skip <| then_n <| sr <| sv (r_move rfl) <| sv (r_convF Tryz.underlying3 Tryz.underlying307 rfl) <| sv (r_move rfl) <| sv (r_convF Tryz.underlying3 Tryz.underlying307 rfl) <| sv (r_complex rfl rfl) ?_
      obtain ⟨hg5, hm⟩ := grd hm
      obtain ⟨hg6, hm⟩ := grd hm
      refine sv (r_mkI mkI_170 rfl) <| sv (r_build ze_33 st_33 rfl (.cons rfl .nil) (cs := [_]) rfl) ?_
      refine wl rfl (o_storek (i := 0) (vs := [_]) hL ag_33 rfl rfl rfl rfl (Nat.le_of_ble_eq_true rfl) (List.forall_mem_cons.2 ⟨rfl, List.forall_mem_nil _⟩) (c' := _ :: []) rfl fun w hL => ?_)
      refine sv (r_assign rfl) <| wt <| wp_ret ?_
      obtain rfl := ends hm
      exact rt rfl (.agg (hL.own 0 _ rfl) ag_33 rfl (us := [_]) rfl rfl (.tmp rfl .nil)) ⟨_, _, rfl, hL.ext, ⟨_, rfl, (VR.point (of_decide_eq_true hg5) (of_decide_eq_true hg6))⟩⟩

/-- (*text.reader).point -/
def m256 (s0 : Bs) (s1 : Int) (s2 : Int) (s3 : Int) : Option (J × Int × Int) :=
  ((m327 s0 s1 s2 (40 : Int)).bind fun t1 => ((m260 s0 t1 s2 s3).bind fun t2 => ((m327 s0 t2.2.1 t2.2.2 (44 : Int)).bind fun t3 => ((m164 s0 t3 t2.2.2).bind fun t4 => (bif (!t4) then ((m260 s0 t3 t2.2.2 s3).bind fun t6 => ((m327 s0 t6.2.1 t6.2.2 (41 : Int)).bind fun t7 => ((m247 t2.1 t6.1).bind fun t8 => ((m164 s0 t7 t6.2.2).bind fun t9 => (bif (!t9) then (bif (t8.2 != (0 : Int)) then none else (some (t8.1, t7, t6.2.2))) else none))))) else none)))))
set_option maxHeartbeats 20000000 in
set_option maxRecDepth 100000 in
theorem c256 : ∀ {H0 : Hp} {w0 : World} {s0 : Bs} {s1 : Int} {s2 : Int} {s3 : Int} {b0 : Nat} {tl0 : List Value} {T0 : TypeId} (_ : Imm H0 w0) (_ : GT H0) (_ : Rs.holds w0 (.cel b0 ((.string (mk s0)) :: (.int .i64 s1) :: (.int .i64 s2) :: (.int .i64 s3) :: tl0) T0)) (_ : ∀ b' ∈ Rs.foot (.cel b0 ((.string (mk s0)) :: (.int .i64 s1) :: (.int .i64 s2) :: (.int .i64 s3) :: tl0) T0), H0 b' = none) {r : (J × Int × Int)} (_ : m256 s0 s1 s2 s3 = some r), Ct Tryz.prog 256 [.pointer (some ⟨b0, 0, none⟩)] (Rs.foot (.cel b0 ((.string (mk s0)) :: (.int .i64 s1) :: (.int .i64 s2) :: (.int .i64 s3) :: tl0) T0)) H0 w0 fun v H' w' => ∃ x : Value, (v = .agg (List.toArray [x]) ∧ VR H' (x) r.1) ∧ Rs.holds w' (.cel b0 ((.string (mk s0)) :: (.int .i64 r.2.1) :: (.int .i64 r.2.2) :: (.int .i64 s3) :: tl0) T0) ∧ ∀ b' ∈ Rs.foot (.cel b0 ((.string (mk s0)) :: (.int .i64 r.2.1) :: (.int .i64 r.2.2) :: (.int .i64 s3) :: tl0) T0), H' b' = none ∧ (b' ∈ Rs.foot (.cel b0 ((.string (mk s0)) :: (.int .i64 s1) :: (.int .i64 s2) :: (.int .i64 s3) :: tl0) T0) ∨ w0.heap.size ≤ b') := by
  intro H0 w0 s0 s1 s2 s3 b0 tl0 T0  hI hG hb hn r hm
  have hL := L.one hI hb hn
  refine ct_of Tryz.func256 rfl Tryz.ntmps256 rfl (Nat.le_of_ble_eq_true rfl) ?_
  unfold m256 at hm
  refine sr ?_
  refine wl rfl (o_alloc 1 (c := [_]) hL ze_33 rfl fun b1 w hL => ?_)
  refine wt <| sr <| sv (r_move rfl) <| sv (r_nilCheck rfl) <| sv (r_fieldAddr fl_276_0 rfl) <| sv (r_fieldAddr fl_274_1 rfl) <| sv (r_load1 (hL.own 0 _ rfl) sc_3 rfl rfl) <| sv (r_assign rfl) <| wt <| sr <| sv (r_move rfl) <| sv (r_nilCheck rfl) <| sv (r_fieldAddr fl_276_0 rfl) ?_
  obtain ⟨t1, ht1, hm⟩ := bnd hm
  refine wl rfl (o_call1 0 hL fn_327 rfl rfl (c327 hL.imm (hL.own 0 _ rfl) (fun b' hb' => (hL.non 0 _ rfl b' hb').1) ht1) fun v H w hlet1 hL hR => ?_)
  replace hG := GT.mono hlet1 hG
  obtain rfl := hR
  refine wt <| sr <| sv (r_move rfl) ?_
  obtain ⟨t2, ht2, hm⟩ := bnd hm
  refine wl rfl (o_call1 0 hL fn_260 rfl rfl (c260 hL.imm hG (hL.own 0 _ rfl) (fun b' hb' => (hL.non 0 _ rfl b' hb').1) ht2) fun v H w hlet2 hL hR => ?_)
  replace hG := GT.mono hlet2 hG
  obtain rfl := hR
  refine sv (r_assign rfl) <| wt <| sr <| sv (r_move rfl) <| sv (r_nilCheck rfl) <| sv (r_fieldAddr fl_276_0 rfl) ?_
  obtain ⟨t3, ht3, hm⟩ := bnd hm
  refine wl rfl (o_call1 0 hL fn_327 rfl rfl (c327 hL.imm (hL.own 0 _ rfl) (fun b' hb' => (hL.non 0 _ rfl b' hb').1) ht3) fun v H w hlet3 hL hR => ?_)
  replace hG := GT.mono hlet3 hG
  obtain rfl := hR
  refine wt <| sr <| sv (r_assign rfl) <| wt <| wp_seq <| sr <| sv (r_move rfl) <| sv (r_nilCheck rfl) <| sv (r_fieldAddr fl_276_0 rfl) ?_
  obtain ⟨t4, ht4, hm⟩ := bnd hm
  refine wl rfl (o_call0 hL fn_164 rfl (c164 hL.imm (hL.own 0 _ rfl) (fun b' hb' => (hL.non 0 _ rfl b' hb').1) ht4) fun v H w hlet4 hL hR => ?_)
  replace hG := GT.mono hlet4 hG
  obtain rfl := hR
  refine sv (r_not rfl) <| wt ?_
  refine c_if hm rfl (fun hg5 hm => ?_) (fun hg5 hm => ?_)
  · refine rg <| sv (r_move rfl) ?_
    obtain ⟨t6, ht6, hm⟩ := bnd hm
    refine wl rfl (o_call1 0 hL fn_260 rfl rfl (c260 hL.imm hG (hL.own 0 _ rfl) (fun b' hb' => (hL.non 0 _ rfl b' hb').1) ht6) fun v H w hlet6 hL hR => ?_)
    obtain rfl := hR
    refine sv (r_assign rfl) <| wt <| sr <| sv (r_move rfl) <| sv (r_nilCheck rfl) <| sv (r_fieldAddr fl_276_0 rfl) ?_
    obtain ⟨t7, ht7, hm⟩ := bnd hm
    refine wl rfl (o_call1 0 hL fn_327 rfl rfl (c327 hL.imm (hL.own 0 _ rfl) (fun b' hb' => (hL.non 0 _ rfl b' hb').1) ht7) fun v H w hlet7 hL hR => ?_)
    obtain rfl := hR
    refine wt <| sr <| sv (r_move rfl) <| sv (r_move rfl) ?_
    obtain ⟨t8, ht8, hm⟩ := bnd hm
    refine wl rfl (o_call0 hL fn_247 rfl (c247 hL.imm ht8) fun v H w hlet8 hL hR => ?_)
    obtain ⟨xt8r0_0, rfl, ht8r0_0⟩ := hR
    refine sv (r_move rfl) <| sv (r_extract rfl rfl) <| sv (r_extract rfl rfl) ?_
    refine wl rfl (o_alloc 2 (c := [_]) hL ze_33 rfl fun b2 w hL => ?_)
    refine wl rfl (o_storek (i := 2) (vs := [_]) hL ag_33 rfl rfl rfl rfl (Nat.le_of_ble_eq_true rfl) (List.forall_mem_cons.2 ⟨(VR.one ht8r0_0), List.forall_mem_nil _⟩) (c' := _ :: []) rfl fun w hL => ?_)
    refine sv (r_assign rfl) <| wt <| wp_seq <| sr <| sv (r_move rfl) <| sv (r_nilCheck rfl) <| sv (r_fieldAddr fl_276_0 rfl) ?_
    obtain ⟨t9, ht9, hm⟩ := bnd hm
    refine wl rfl (o_call0 hL fn_164 rfl (c164 hL.imm (hL.own 0 _ rfl) (fun b' hb' => (hL.non 0 _ rfl b' hb').1) ht9) fun v H w hlet9 hL hR => ?_)
    replace ht8r0_0 := VR.mono hlet9 ht8r0_0
    obtain rfl := hR
    refine sv (r_not rfl) <| sv (r_move rfl) ?_
    refine m_if hm (fun hg10 hm => ?_) (fun hg10 hm => ?_)
    · refine wlT rfl rfl rfl rfl hg10 (o_val (r_move rfl) ?_)
      refine wlT rfl rfl rfl rfl hg10 (o_val (r_nei rfl rfl) ?_)
      refine sv (r_pickT hg10 rfl rfl) <| wt ?_
      refine c_if hm rfl (fun hg11 hm => ?_) (fun hg11 hm => ?_)
      · cases hm
      · refine wp_skip <| then_n <| sr <| sv (r_loadk (hL.own 2 _ rfl) ag_33 rfl (vs := [_]) rfl rfl) ?_
        refine wl rfl (o_storek (i := 1) (vs := [_]) hL ag_33 rfl rfl rfl rfl (Nat.le_of_ble_eq_true rfl) (List.forall_mem_cons.2 ⟨(VR.one ht8r0_0), List.forall_mem_nil _⟩) (c' := _ :: []) rfl fun w hL => ?_)
        refine wt <| wp_ret ?_
        obtain rfl := ends hm
        refine rt rfl (.agg (hL.own 1 _ rfl) ag_33 rfl (us := [_]) rfl rfl .nil) ⟨_, _, rfl, hL.ext, ?_⟩
        exact ⟨xt8r0_0, ⟨rfl, ht8r0_0⟩, hL.give (i := 0) rfl⟩
    · cases hm
  · cases hm

/-- (*text.reader).text -/
def m257_l0 (s0 : Bs) (s2 : Int) : Nat → Int → Bs → Option (Bs × Int)
  | 0, _, _ => none
  | k + 1, u0_1_1, u2R_1 => ((m164 s0 u0_1_1 s2).bind fun t2 => (bif (!t2) then ((m328 s0 u0_1_1 s2 (34 : Int)).bind fun t4 => (bif (!t4.1) then ((m254 s0 t4.2 s2).bind fun t6 => (bif (decide ((s0.length : Int) ≤ t4.2)) then none else (bif (decide (t6 < (32 : Int))) then none else (bif (decide ((126 : Int) < t6)) then none else ((m328 s0 t4.2 s2 (92 : Int)).bind fun t10 => (bif t10.1 then none else ((m206 u2R_1 t6).bind fun t12 => (m257_l0 s0 s2 k (IntKind.wrap .i64 (t10.2 + (1 : Int))) t12.2)))))))) else ((m123 u2R_1).bind fun t13 => (some (t13, t4.2))))) else none))
def m257 (s0 : Bs) (s1 : Int) (s2 : Int) (s3 : Int) : Option (Bs × Int) :=
  ((m327 s0 s1 s2 (34 : Int)).bind fun t1 => (m257_l0 s0 s2 FUEL t1 ([] : Bs)))
set_option maxHeartbeats 20000000 in
set_option maxRecDepth 100000 in
theorem c257 : ∀ {H0 : Hp} {w0 : World} {s0 : Bs} {s1 : Int} {s2 : Int} {s3 : Int} {b0 : Nat} {tl0 : List Value} {T0 : TypeId} (_ : Imm H0 w0) (_ : Rs.holds w0 (.cel b0 ((.string (mk s0)) :: (.int .i64 s1) :: (.int .i64 s2) :: (.int .i64 s3) :: tl0) T0)) (_ : ∀ b' ∈ Rs.foot (.cel b0 ((.string (mk s0)) :: (.int .i64 s1) :: (.int .i64 s2) :: (.int .i64 s3) :: tl0) T0), H0 b' = none) {r : (Bs × Int)} (_ : m257 s0 s1 s2 s3 = some r), Ct Tryz.prog 257 [.pointer (some ⟨b0, 0, none⟩)] (Rs.foot (.cel b0 ((.string (mk s0)) :: (.int .i64 s1) :: (.int .i64 s2) :: (.int .i64 s3) :: tl0) T0)) H0 w0 fun v H' w' => (v = .string (mk r.1)) ∧ Rs.holds w' (.cel b0 ((.string (mk s0)) :: (.int .i64 r.2) :: (.int .i64 s2) :: (.int .i64 s3) :: tl0) T0) ∧ ∀ b' ∈ Rs.foot (.cel b0 ((.string (mk s0)) :: (.int .i64 r.2) :: (.int .i64 s2) :: (.int .i64 s3) :: tl0) T0), H' b' = none ∧ (b' ∈ Rs.foot (.cel b0 ((.string (mk s0)) :: (.int .i64 s1) :: (.int .i64 s2) :: (.int .i64 s3) :: tl0) T0) ∨ w0.heap.size ≤ b') := by
  intro H0 w0 s0 s1 s2 s3 b0 tl0 T0  hI hb hn r hm
  have hL := L.one hI hb hn
  refine ct_of Tryz.func257 rfl Tryz.ntmps257 rfl (Nat.le_of_ble_eq_true rfl) ?_
  unfold m257 at hm
  refine sr <| sv (r_assign rfl) <| wt <| sr ?_
  refine wl rfl (o_alloc 1 (c := [_, _]) hL ze_201 rfl fun b1 w hL => ?_)
  refine wt <| sr <| sv (r_move rfl) <| sv (r_nilCheck rfl) <| sv (r_fieldAddr fl_276_0 rfl) ?_
  obtain ⟨t1, ht1, hm⟩ := bnd hm
  refine wl rfl (o_call1 0 hL fn_327 rfl rfl (c327 hL.imm (hL.own 0 _ rfl) (fun b' hb' => (hL.non 0 _ rfl b' hb').1) ht1) fun v H w hlet1 hL hR => ?_)
  obtain rfl := hR
  refine wt <| wp_seq <| wp_block ?_
  have hL := hL.addNil 2 5 1
  refine wp_loop_fuel (k := FUEL) (fun k a w => ∃ (u0_1_1 : Int) (u2R_1 : Bs) (pu1_0_1 : Value) (au2R_1 : Option Addr) (cu2R_1 : Nat) (zu2R_1 : List Value) (l : List (Nat × Value)) (H : Hp), a = fr 75 ([(0, .pointer (some ⟨b0, 0, none⟩)), (2, .string (mk ([] : Bs))), (3, .pointer (some ⟨b1, 0, none⟩))] ++ l) [] ∧ L (Rs.foot (.cel b0 ((.string (mk s0)) :: (.int .i64 s1) :: (.int .i64 s2) :: (.int .i64 s3) :: tl0) T0)) H0 w0 [(0, .cel b0 ((.string (mk s0)) :: (.int .i64 u0_1_1) :: (.int .i64 s2) :: (.int .i64 s3) :: tl0) T0), (1, .cel b1 (pu1_0_1 :: (.slice au2R_1 (List.length u2R_1) cu2R_1) :: []) 201), (2, .row (.slice au2R_1 (List.length u2R_1) cu2R_1) 5 1 (List.length u2R_1) zu2R_1)] H w ∧ BP b1 pu1_0_1 ∧ LC cB8 H zu2R_1 u2R_1 ∧ (m257_l0 s0 s2 k u0_1_1 u2R_1) = some r) ⟨_, _, _, _, _, _, _, _, fr_pre _ rfl, hL.pick _ rfl, (Or.inl rfl), LC.nil, hm⟩ ?_
  rintro k0 a w ⟨u0_1_1, u2R_1, pu1_0_1, au2R_1, cu2R_1, zu2R_1, l, H, rfl, hL, hu1_0_1, hu2R_1, hm⟩
  cases k0 with
  | zero => rw [m257_l0.eq_1] at hm; cases hm
  | succ k0 =>
    rw [m257_l0.eq_2] at hm
    refine wp_seq <| sr <| sv (r_move rfl) <| sv (r_nilCheck rfl) <| sv (r_fieldAddr fl_276_0 rfl) ?_
    obtain ⟨t2, ht2, hm⟩ := bnd hm
    refine wl rfl (o_call0 hL fn_164 rfl (c164 hL.imm (hL.own 0 _ rfl) (fun b' hb' => (hL.non 0 _ rfl b' hb').1) ht2) fun v H w hlet2 hL hR => ?_)
    replace hu2R_1 := LC.mono hlet2 hu2R_1
    obtain rfl := hR
    refine sv (r_not rfl) <| sv (r_move rfl) ?_
    refine m_if hm (fun hg3 hm => ?_) (fun hg3 hm => ?_)
    · refine wlT rfl rfl rfl rfl hg3 (o_val (r_move rfl) ?_)
      refine wlT rfl rfl rfl rfl hg3 (o_val (r_nilCheck rfl) ?_)
      refine wlT rfl rfl rfl rfl hg3 (o_val (r_fieldAddr fl_276_0 rfl) ?_)
      obtain ⟨t4, ht4, hm⟩ := bnd hm
      refine wlT rfl rfl rfl rfl hg3 (o_call1 0 hL fn_328 rfl rfl (c328 hL.imm (hL.own 0 _ rfl) (fun b' hb' => (hL.non 0 _ rfl b' hb').1) ht4) fun v H w hlet4 hL hR => ?_)
      replace hu2R_1 := LC.mono hlet4 hu2R_1
      obtain rfl := hR
      refine wlT rfl rfl rfl rfl hg3 (o_val (r_not rfl) ?_)
      refine sv (r_pickT hg3 rfl rfl) <| wt ?_
      refine c_if hm rfl (fun hg5 hm => ?_) (fun hg5 hm => ?_)
      · refine wp_skip <| then_n <| wp_block <| sr <| sv (r_move rfl) <| sv (r_nilCheck rfl) <| sv (r_fieldAddr fl_276_0 rfl) ?_
        obtain ⟨t6, ht6, hm⟩ := bnd hm
        refine wl rfl (o_call0 hL fn_254 rfl (c254 hL.imm (hL.own 0 _ rfl) (fun b' hb' => (hL.non 0 _ rfl b' hb').1) ht6) fun v H w hlet6 hL hR => ?_)
        replace hu2R_1 := LC.mono hlet6 hu2R_1
        obtain rfl := hR
        refine sv (r_assign rfl) <| wt <| wp_block <| wp_seq <| rd hL [0] [_] [(0, true), (1, true), (2, true), (3, true), (4, true), (5, true), (6, true), (7, true), (8, true), (9, true), (10, true), (11, true), (12, true), (13, true), (14, true), (15, true), (16, true), (17, true), (18, true), (19, true), (20, true)] mixed rfl (by kernel_rfl) fun w hL => dv rfl (fun w hS => r_move rfl) <| dv rfl (fun w hS => r_nilCheck rfl) <| dv rfl (fun w hS => r_fieldAddr fl_276_0 rfl) <| dv rfl (fun w hS => r_fieldAddr fl_274_1 rfl) <| dv rfl (fun w hS => r_load1 hS.2.1 sc_3 rfl rfl) <| dv rfl (fun w hS => r_move rfl) <| dv rfl (fun w hS => r_nilCheck rfl) <| dv rfl (fun w hS => r_fieldAddr fl_276_0 rfl) <| dv rfl (fun w hS => r_fieldAddr fl_274_0 rfl) <| dv rfl (fun w hS => r_load1 hS.2.1 sc_9 rfl rfl) <| dv rfl (fun w hS => r_lens rfl Tryz.underlying9 rfl) <| dv rfl (fun w hS => r_geq rfl rfl) <| dv rfl (fun w hS => r_move rfl) ?_
        refine m_if hm (fun hg7 hm => ?_) (fun hg7 hm => ?_)
        · cases hm
        · refine dvT rfl rfl rfl rfl hg7 (fun w hS => r_move rfl) <| dvT rfl rfl rfl rfl hg7 (fun w hS => r_lss rfl rfl) <| dv rfl (fun w hS => r_pickF hg7 rfl rfl) <| dv rfl (fun w hS => r_move rfl) ?_
          refine m_if hm (fun hg8 hm => ?_) (fun hg8 hm => ?_)
          · cases hm
          · refine dvT rfl rfl rfl rfl hg8 (fun w hS => r_move rfl) <| dvT rfl rfl rfl rfl hg8 (fun w hS => r_gtr rfl rfl) <| dv rfl (fun w hS => r_pickF hg8 rfl rfl) <| dv rfl (fun w hS => r_assign rfl) <| dn <| then_n ?_
            refine c_if hm rfl (fun hg9 hm => ?_) (fun hg9 hm => ?_)
            · cases hm
            · refine sr <| sv (r_move rfl) <| sv (r_nilCheck rfl) <| sv (r_fieldAddr fl_276_0 rfl) ?_
              obtain ⟨t10, ht10, hm⟩ := bnd hm
              refine wl rfl (o_call1 0 hL fn_328 rfl rfl (c328 hL.imm (hL.own 0 _ rfl) (fun b' hb' => (hL.non 0 _ rfl b' hb').1) ht10) fun v H w hlet10 hL hR => ?_)
              replace hu2R_1 := LC.mono hlet10 hu2R_1
              obtain rfl := hR
              refine sv (r_assign rfl) <| wt ?_
              refine c_if hm rfl (fun hg11 hm => ?_) (fun hg11 hm => ?_)
              · cases hm
              · refine sr <| sv (r_move rfl) ?_
                obtain ⟨t12, ht12, hm⟩ := bnd hm
                have hL := hL.merge 1 2 rfl rfl rfl
                refine wl rfl (o_callE 1 hL fn_206 rfl rfl (c206 hL.imm (hL.own 1 _ rfl) (fun b' hb' => (hL.non 1 _ rfl b' hb').1) hu1_0_1 hu2R_1 ht12) fun x v H w hlet12 hL hR => ?_)
                obtain ⟨pt12r0_0, at12m0_1, ct12m0_1, zt12m0_1, pt12m0_0⟩ := x
                try dsimp only at hL hR
                replace hu2R_1 := LC.mono hlet12 hu2R_1
                obtain ⟨hv_, ht12r0_0, ht12m0_1, ht12m0_0⟩ := hR
                subst v
                have hL := hL.split 1 2 rfl rfl (.inr rfl)
                have hL := hL.pick [(0, .cel b0 ((.string (mk s0)) :: (.int .i64 t10.2) :: (.int .i64 s2) :: (.int .i64 s3) :: tl0) T0), (1, .cel b1 (pt12m0_0 :: (.slice at12m0_1 (List.length t12.2) ct12m0_1) :: []) 201), (2, .row (.slice at12m0_1 (List.length t12.2) ct12m0_1) 5 1 (List.length t12.2) zt12m0_1)] rfl
                refine wt <| rg <| sv (r_move rfl) <| sv (r_nilCheck rfl) <| sv (r_fieldAddr fl_276_0 rfl) <| sv (r_fieldAddr fl_274_1 rfl) <| sv (r_load1 (hL.own 0 _ rfl) sc_3 rfl rfl) <| sv (r_add rfl rfl) <| sv (r_nilCheck rfl) <| sv (r_fieldAddr fl_276_0 rfl) <| sv (r_fieldAddr fl_274_1 rfl) ?_
                refine wl rfl (o_store1 (i := 0) hL sc_3 rfl rfl rfl rfl rfl (c' := _ :: _ :: _ :: _ :: _) rfl fun w hL => ?_)
                refine wn <| blk_n <| blk_n <| then_n ?_
                exact ⟨k0, Nat.lt_succ_self k0, _, _, _, _, _, _, _, _, fr_pre _ rfl, hL.pick _ rfl, ht12m0_0, ht12m0_1, hm⟩
      · refine wp_exit <| then_e <| then_e <| blk_e <| then_n <| sr ?_
        obtain ⟨t13, ht13, hm⟩ := bnd hm
        have hL := hL.merge 1 2 rfl rfl rfl
        refine wl rfl (o_call1 1 (r1 := .gone) hL fn_123 rfl rfl (c123 hL.imm (hL.own 1 _ rfl) (fun b' hb' => (hL.non 1 _ rfl b' hb').1) hu1_0_1 hu2R_1 ht13) fun v H w hlet13 hL hR => ?_)
        obtain rfl := hR
        refine sv (r_assign rfl) <| wt <| wp_ret ?_
        obtain rfl := ends hm
        refine rt rfl (.tmp rfl .nil) ⟨_, _, rfl, hL.ext, ?_⟩
        exact ⟨rfl, hL.give (i := 0) rfl⟩
    · cases hm

/-- (*text.reader).value$1 -/
def m253 (s0 : Bs) (s1 : Int) (s2 : Int) (s3 : Int) : Option Int :=
  (some ((IntKind.wrap .i64 (s3 - (1 : Int)))))
set_option maxHeartbeats 20000000 in
set_option maxRecDepth 100000 in
theorem c253 : ∀ {H0 : Hp} {w0 : World} {s0 : Bs} {s1 : Int} {s2 : Int} {s3 : Int} {b0 : Nat} {tl0 : List Value} {T0 : TypeId} {b1 : Nat} {tl1 : List Value} {T1 : TypeId} (_ : Imm H0 w0) (_ : Rs.holds w0 (.two (.cel b0 ((.string (mk s0)) :: (.int .i64 s1) :: (.int .i64 s2) :: (.int .i64 s3) :: tl0) T0) (.cel b1 ((.pointer (some ⟨b0, 0, none⟩)) :: tl1) T1))) (_ : ∀ b' ∈ Rs.foot (.two (.cel b0 ((.string (mk s0)) :: (.int .i64 s1) :: (.int .i64 s2) :: (.int .i64 s3) :: tl0) T0) (.cel b1 ((.pointer (some ⟨b0, 0, none⟩)) :: tl1) T1)), H0 b' = none) {r : Int} (_ : m253 s0 s1 s2 s3 = some r), CtD Tryz.prog 253 [.pointer (some ⟨b1, 0, none⟩)] (Rs.foot (.two (.cel b0 ((.string (mk s0)) :: (.int .i64 s1) :: (.int .i64 s2) :: (.int .i64 s3) :: tl0) T0) (.cel b1 ((.pointer (some ⟨b0, 0, none⟩)) :: tl1) T1))) H0 w0 fun v H' w' => (v = .tuple (List.toArray [])) ∧ Rs.holds w' (.two (.cel b0 ((.string (mk s0)) :: (.int .i64 s1) :: (.int .i64 s2) :: (.int .i64 r) :: tl0) T0) (.cel b1 ((.pointer (some ⟨b0, 0, none⟩)) :: tl1) T1)) ∧ ∀ b' ∈ Rs.foot (.two (.cel b0 ((.string (mk s0)) :: (.int .i64 s1) :: (.int .i64 s2) :: (.int .i64 r) :: tl0) T0) (.cel b1 ((.pointer (some ⟨b0, 0, none⟩)) :: tl1) T1)), H' b' = none ∧ (b' ∈ Rs.foot (.two (.cel b0 ((.string (mk s0)) :: (.int .i64 s1) :: (.int .i64 s2) :: (.int .i64 s3) :: tl0) T0) (.cel b1 ((.pointer (some ⟨b0, 0, none⟩)) :: tl1) T1)) ∨ w0.heap.size ≤ b') := by
  intro H0 w0 s0 s1 s2 s3 b0 tl0 T0 b1 tl1 T1  hI hb hn r hm
  have hL := L.one hI hb hn
  have hL := hL.split 0 1 rfl rfl (.inl rfl)
  refine ctd_of Tryz.func253 rfl Tryz.ntmps253 rfl (Nat.le_of_ble_eq_true rfl) ?_
  unfold m253 at hm
  refine rg <| sv (r_load1 (hL.own 1 _ rfl) sc_272 rfl rfl) <| sv (r_nilCheck rfl) <| sv (r_fieldAddr fl_276_1 rfl) <| sv (r_load1 (hL.own 0 _ rfl) sc_3 rfl rfl) <| sv (r_sub rfl rfl) <| sv (r_nilCheck rfl) <| sv (r_fieldAddr fl_276_1 rfl) ?_
  refine wl rfl (o_store1 (i := 0) hL sc_3 rfl rfl rfl rfl rfl (c' := _ :: _ :: _ :: _ :: _) rfl fun w hL => ?_)
  refine wn ?_
  obtain rfl := ends hm
  refine rtN rfl .nil ⟨_, _, rfl, hL.ext, ?_⟩
  have hL := hL.merge 0 1 rfl rfl rfl
  exact ⟨rfl, hL.give (i := 0) rfl⟩

/-- (*text.reader).list -/
def S163 (F : Bs → Int → Int → Int → Option (J × Int × Int × Int)) : Prop := ∀ {H0 : Hp} {w0 : World} {s0 : Bs} {s1 : Int} {s2 : Int} {s3 : Int} {b0 : Nat} {tl0 : List Value} {T0 : TypeId} (_ : Imm H0 w0) (_ : GT H0) (_ : Rs.holds w0 (.cel b0 ((.string (mk s0)) :: (.int .i64 s1) :: (.int .i64 s2) :: (.int .i64 s3) :: tl0) T0)) (_ : ∀ b' ∈ Rs.foot (.cel b0 ((.string (mk s0)) :: (.int .i64 s1) :: (.int .i64 s2) :: (.int .i64 s3) :: tl0) T0), H0 b' = none) {r : (J × Int × Int × Int)} (_ : F s0 s1 s2 s3 = some r), Ct Tryz.prog 163 [.pointer (some ⟨b0, 0, none⟩)] (Rs.foot (.cel b0 ((.string (mk s0)) :: (.int .i64 s1) :: (.int .i64 s2) :: (.int .i64 s3) :: tl0) T0)) H0 w0 fun v H' w' => ∃ x : Value, (v = .agg (List.toArray [x]) ∧ VR H' (x) r.1) ∧ Rs.holds w' (.cel b0 ((.string (mk s0)) :: (.int .i64 r.2.1) :: (.int .i64 r.2.2.1) :: (.int .i64 r.2.2.2) :: tl0) T0) ∧ ∀ b' ∈ Rs.foot (.cel b0 ((.string (mk s0)) :: (.int .i64 r.2.1) :: (.int .i64 r.2.2.1) :: (.int .i64 r.2.2.2) :: tl0) T0), H' b' = none ∧ (b' ∈ Rs.foot (.cel b0 ((.string (mk s0)) :: (.int .i64 s1) :: (.int .i64 s2) :: (.int .i64 s3) :: tl0) T0) ∨ w0.heap.size ≤ b')
def m258_l0 (f163 : Bs → Int → Int → Int → Option (J × Int × Int × Int)) (s0 : Bs) : Nat → Int → Int → Int → List J → Option (J × Int × Int × Int)
  | 0, _, _, _, _ => none
  | k + 1, u0_1_1, u0_2_1, u0_3_1, u2R_1 => ((m164 s0 u0_1_1 u0_2_1).bind fun t4 => (bif (!t4) then ((f163 s0 u0_1_1 u0_2_1 u0_3_1).bind fun t6 => (bif (decide (u2R_1.length + ([t6.1] : List J).length ≤ LIM)) then ((m164 s0 t6.2.1 t6.2.2.1).bind fun t10 => (bif t10 then none else ((m328 s0 t6.2.1 t6.2.2.1 (93 : Int)).bind fun t12 => (bif t12.1 then ((m87 (u2R_1 ++ ([t6.1] : List J))).bind fun t15 => (some (t15, t12.2, t6.2.2.1, t6.2.2.2))) else ((m327 s0 t12.2 t6.2.2.1 (44 : Int)).bind fun t16 => (m258_l0 f163 s0 k t16 t6.2.2.1 t6.2.2.2 (u2R_1 ++ ([t6.1] : List J)))))))) else none)) else none))
def m258 (f163 : Bs → Int → Int → Int → Option (J × Int × Int × Int)) (s0 : Bs) (s1 : Int) (s2 : Int) (s3 : Int) : Option (J × Int × Int × Int) :=
  ((m327 s0 s1 s2 (91 : Int)).bind fun t1 => ((m328 s0 t1 s2 (93 : Int)).bind fun t2 => (bif t2.1 then none else (m258_l0 f163 s0 FUEL t2.2 s2 s3 ([] : List J)))))
set_option maxHeartbeats 20000000 in
set_option maxRecDepth 100000 in
theorem c258 {f163 : Bs → Int → Int → Int → Option (J × Int × Int × Int)} (h163 : S163 f163) : ∀ {H0 : Hp} {w0 : World} {s0 : Bs} {s1 : Int} {s2 : Int} {s3 : Int} {b0 : Nat} {tl0 : List Value} {T0 : TypeId} (_ : Imm H0 w0) (_ : GT H0) (_ : Rs.holds w0 (.cel b0 ((.string (mk s0)) :: (.int .i64 s1) :: (.int .i64 s2) :: (.int .i64 s3) :: tl0) T0)) (_ : ∀ b' ∈ Rs.foot (.cel b0 ((.string (mk s0)) :: (.int .i64 s1) :: (.int .i64 s2) :: (.int .i64 s3) :: tl0) T0), H0 b' = none) {r : (J × Int × Int × Int)} (_ : m258 f163 s0 s1 s2 s3 = some r), Ct Tryz.prog 258 [.pointer (some ⟨b0, 0, none⟩)] (Rs.foot (.cel b0 ((.string (mk s0)) :: (.int .i64 s1) :: (.int .i64 s2) :: (.int .i64 s3) :: tl0) T0)) H0 w0 fun v H' w' => ∃ x : Value, (v = .agg (List.toArray [x]) ∧ VR H' (x) r.1) ∧ Rs.holds w' (.cel b0 ((.string (mk s0)) :: (.int .i64 r.2.1) :: (.int .i64 r.2.2.1) :: (.int .i64 r.2.2.2) :: tl0) T0) ∧ ∀ b' ∈ Rs.foot (.cel b0 ((.string (mk s0)) :: (.int .i64 r.2.1) :: (.int .i64 r.2.2.1) :: (.int .i64 r.2.2.2) :: tl0) T0), H' b' = none ∧ (b' ∈ Rs.foot (.cel b0 ((.string (mk s0)) :: (.int .i64 s1) :: (.int .i64 s2) :: (.int .i64 s3) :: tl0) T0) ∨ w0.heap.size ≤ b') := by
  intro H0 w0 s0 s1 s2 s3 b0 tl0 T0  hI hG hb hn r hm
  have hL := L.one hI hb hn
  refine ct_of Tryz.func258 rfl Tryz.ntmps258 rfl (Nat.le_of_ble_eq_true rfl) ?_
  unfold m258 at hm
  refine sr ?_
  refine wl rfl (o_alloc 1 (c := [_]) hL ze_33 rfl fun b1 w hL => ?_)
  refine wt <| sr <| sv (r_assign rfl) <| wt <| sr <| sv (r_move rfl) <| sv (r_nilCheck rfl) <| sv (r_fieldAddr fl_276_0 rfl) ?_
  obtain ⟨t1, ht1, hm⟩ := bnd hm
  refine wl rfl (o_call1 0 hL fn_327 rfl rfl (c327 hL.imm (hL.own 0 _ rfl) (fun b' hb' => (hL.non 0 _ rfl b' hb').1) ht1) fun v H w hlet1 hL hR => ?_)
  replace hG := GT.mono hlet1 hG
  obtain rfl := hR
  refine wt <| wp_seq <| sr <| sv (r_move rfl) <| sv (r_nilCheck rfl) <| sv (r_fieldAddr fl_276_0 rfl) ?_
  obtain ⟨t2, ht2, hm⟩ := bnd hm
  refine wl rfl (o_call1 0 hL fn_328 rfl rfl (c328 hL.imm (hL.own 0 _ rfl) (fun b' hb' => (hL.non 0 _ rfl b' hb').1) ht2) fun v H w hlet2 hL hR => ?_)
  replace hG := GT.mono hlet2 hG
  obtain rfl := hR
  refine wt ?_
  refine c_if hm rfl (fun hg3 hm => ?_) (fun hg3 hm => ?_)
  · cases hm
  · refine wp_skip <| then_n <| wp_seq <| wp_block ?_
    have hL := hL.addNil 2 33 1
    refine wp_loop_fuel (k := FUEL) (fun k a w => ∃ (u0_1_1 : Int) (u0_2_1 : Int) (u0_3_1 : Int) (u2R_1 : List J) (au2R_1 : Option Addr) (cu2R_1 : Nat) (zu2R_1 : List Value) (l : List (Nat × Value)) (H : Hp), a = fr 39 ([(0, .pointer (some ⟨b0, 0, none⟩)), (2, .pointer (some ⟨b1, 0, none⟩)), (3, .slice au2R_1 (List.length u2R_1) cu2R_1)] ++ l) [] ∧ L (Rs.foot (.cel b0 ((.string (mk s0)) :: (.int .i64 s1) :: (.int .i64 s2) :: (.int .i64 s3) :: tl0) T0)) H0 w0 [(0, .cel b0 ((.string (mk s0)) :: (.int .i64 u0_1_1) :: (.int .i64 u0_2_1) :: (.int .i64 u0_3_1) :: tl0) T0), (1, .cel b1 (.nilIface :: []) 33), (2, .row (.slice au2R_1 (List.length u2R_1) cu2R_1) 33 1 (List.length u2R_1) zu2R_1)] H w ∧ GT H ∧ LC cJ H zu2R_1 u2R_1 ∧ (m258_l0 f163 s0 k u0_1_1 u0_2_1 u0_3_1 u2R_1) = some r) ⟨_, _, _, _, _, _, _, _, _, fr_pre _ rfl, hL.pick _ rfl, hG, LC.nil, hm⟩ ?_
    rintro k0 a w ⟨u0_1_1, u0_2_1, u0_3_1, u2R_1, au2R_1, cu2R_1, zu2R_1, l, H, rfl, hL, hG, hu2R_1, hm⟩
    cases k0 with
    | zero => rw [m258_l0.eq_1] at hm; cases hm
    | succ k0 =>
      rw [m258_l0.eq_2] at hm
      refine wp_seq <| sr <| sv (r_move rfl) <| sv (r_nilCheck rfl) <| sv (r_fieldAddr fl_276_0 rfl) ?_
      obtain ⟨t4, ht4, hm⟩ := bnd hm
      refine wl rfl (o_call0 hL fn_164 rfl (c164 hL.imm (hL.own 0 _ rfl) (fun b' hb' => (hL.non 0 _ rfl b' hb').1) ht4) fun v H w hlet4 hL hR => ?_)
      replace hG := GT.mono hlet4 hG
      replace hu2R_1 := LC.mono hlet4 hu2R_1
      obtain rfl := hR
      refine sv (r_not rfl) <| wt ?_
      refine c_if hm rfl (fun hg5 hm => ?_) (fun hg5 hm => ?_)
      · refine wp_skip <| then_n <| wp_block <| sr <| sv (r_move rfl) <| sv (r_move rfl) ?_
        obtain ⟨t6, ht6, hm⟩ := bnd hm
        refine wl rfl (o_callE 0 hL fn_163 rfl rfl (h163 hL.imm hG (hL.own 0 _ rfl) (fun b' hb' => (hL.non 0 _ rfl b' hb').1) ht6) fun xt6r0_0 v H w hlet6 hL hR => ?_)
        try dsimp only at hL hR
        replace hG := GT.mono hlet6 hG
        replace hu2R_1 := LC.mono hlet6 hu2R_1
        obtain ⟨rfl, ht6r0_0⟩ := hR
        have hww7 : LC cJ hL.hp [xt6r0_0] ([t6.1] : List J) := (LC.cons (K := cJ) (cs := [xt6r0_0]) ⟨_, rfl, ht6r0_0⟩ LC.nil)
        refine wl rfl (o_buildSlice (C := cJ) 3 hL el_23 ze_33 rfl (.cons rfl .nil) rfl rfl rfl rfl hww7 fun gw7 w hL => ?_)
        obtain ⟨hg8, hm⟩ := grd hm
        refine wl rfl (o_append (C := cJ) 2 3 hL el_23 rfl rfl rfl rfl hww7 rfl hg8 fun gw9 cw9 w hL => ?_)
        have hww9 := LC.append hu2R_1 hww7
        refine sv (r_assign rfl) <| wt <| wp_seq <| sr <| sv (r_move rfl) <| sv (r_nilCheck rfl) <| sv (r_fieldAddr fl_276_0 rfl) ?_
        obtain ⟨t10, ht10, hm⟩ := bnd hm
        refine wl rfl (o_call0 hL fn_164 rfl (c164 hL.imm (hL.own 0 _ rfl) (fun b' hb' => (hL.non 0 _ rfl b' hb').1) ht10) fun v H w hlet10 hL hR => ?_)
        replace hG := GT.mono hlet10 hG
        replace hww9 := LC.mono hlet10 hww9
        obtain rfl := hR
        refine sv (r_move rfl) ?_
        refine m_if hm (fun hg11 hm => ?_) (fun hg11 hm => ?_)
        · cases hm
        · refine wlT rfl rfl rfl rfl hg11 (o_val (r_move rfl) ?_)
          refine wlT rfl rfl rfl rfl hg11 (o_val (r_nilCheck rfl) ?_)
          refine wlT rfl rfl rfl rfl hg11 (o_val (r_fieldAddr fl_276_0 rfl) ?_)
          obtain ⟨t12, ht12, hm⟩ := bnd hm
          refine wlT rfl rfl rfl rfl hg11 (o_call1 0 hL fn_328 rfl rfl (c328 hL.imm (hL.own 0 _ rfl) (fun b' hb' => (hL.non 0 _ rfl b' hb').1) ht12) fun v H w hlet12 hL hR => ?_)
          replace hG := GT.mono hlet12 hG
          replace hww9 := LC.mono hlet12 hww9
          obtain rfl := hR
          refine sv (r_pickF hg11 rfl rfl) <| wt ?_
          refine c_if hm rfl (fun hg13 hm => ?_) (fun hg13 hm => ?_)
          · refine wp_exit <| then_e <| blk_o rfl <| then_e <| blk_e <| then_n <| sr <| sv (r_move rfl) ?_
            obtain ⟨H, hlez14, hL, hsz14⟩ := hL.settle (i := 2) (K := cJ) rfl hww9
            replace hG := GT.mono hlez14 hG
            replace hww9 := LC.mono hlez14 hww9
            obtain ⟨t15, ht15, hm⟩ := bnd hm
            refine wl rfl (o_call0 hL fn_87 rfl (c87 hL.imm hsz14 ht15) fun v H w hlet15 hL hR => ?_)
            replace hG := GT.mono hlet15 hG
            replace hww9 := LC.mono hlet15 hww9
            obtain ⟨xt15r0_0, rfl, ht15r0_0⟩ := hR
            refine wl rfl (o_storek (i := 1) (vs := [_]) hL ag_33 rfl rfl rfl rfl (Nat.le_of_ble_eq_true rfl) (List.forall_mem_cons.2 ⟨(VR.one ht15r0_0), List.forall_mem_nil _⟩) (c' := _ :: []) rfl fun w hL => ?_)
            refine wt <| wp_ret ?_
            obtain rfl := ends hm
            refine rt rfl (.agg (hL.own 1 _ rfl) ag_33 rfl (us := [_]) rfl rfl .nil) ⟨_, _, rfl, hL.ext, ?_⟩
            exact ⟨xt15r0_0, ⟨rfl, ht15r0_0⟩, hL.give (i := 0) rfl⟩
          · refine wp_skip <| then_n <| rg <| sv (r_move rfl) <| sv (r_nilCheck rfl) <| sv (r_fieldAddr fl_276_0 rfl) ?_
            obtain ⟨t16, ht16, hm⟩ := bnd hm
            refine wl rfl (o_call1 0 hL fn_327 rfl rfl (c327 hL.imm (hL.own 0 _ rfl) (fun b' hb' => (hL.non 0 _ rfl b' hb').1) ht16) fun v H w hlet16 hL hR => ?_)
            replace hG := GT.mono hlet16 hG
            replace hww9 := LC.mono hlet16 hww9
            obtain rfl := hR
            refine wn <| blk_n <| then_n ?_
            exact ⟨k0, Nat.lt_succ_self k0, _, _, _, _, _, _, _, _, _, fr_pre _ rfl, hL.pick _ rfl, hG, hww9, hm⟩
      · cases hm

/-- (*text.reader).table -/
def m259_j0 (u0_1_1 : Int) (u0_2_1 : Int) (u0_3_1 : Int) (u3R_1 : List Bs) (u5R_1 : List J) : Option (J × Int × Int × Int) := ((m126 u3R_1 u5R_1).bind fun t6 => (some (t6.1, u0_1_1, u0_2_1, u0_3_1)))
def m259_l1 (f163 : Bs → Int → Int → Int → Option (J × Int × Int × Int)) (s0 : Bs) (s2 : Int) (s3 : Int) (t2 : (Bool × Int)) : Nat → Option (J × Int × Int × Int)
  | 0 => none
  | k + 1 => ((m164 s0 t2.2 s2).bind fun t7 => (bif (!t7) then ((m257 s0 t2.2 s2 s3).bind fun t9 => ((m164 s0 t9.2 s2).bind fun t10 => (bif (!t10) then (bif (decide ((0 : Int) ≤ (IntKind.wrap .i64 ((0 : Int) - (1 : Int))))) then none else ((m327 s0 t9.2 s2 (58 : Int)).bind fun t13 => ((m164 s0 t13 s2).bind fun t14 => (bif t14 then none else (bif (decide (([] : List Bs).length + ([t9.1] : List Bs).length ≤ LIM)) then ((f163 s0 t13 s2 s3).bind fun t19 => (bif (decide (([] : List J).length + ([t19.1] : List J).length ≤ LIM)) then ((m164 s0 t19.2.1 t19.2.2.1).bind fun t23 => (bif t23 then none else ((m328 s0 t19.2.1 t19.2.2.1 (125 : Int)).bind fun t25 => (bif t25.1 then (m259_j0 t25.2 t19.2.2.1 t19.2.2.2 (([] : List Bs) ++ ([t9.1] : List Bs)) (([] : List J) ++ ([t19.1] : List J))) else none)))) else none)) else none))))) else none))) else none))
def m259 (f163 : Bs → Int → Int → Int → Option (J × Int × Int × Int)) (s0 : Bs) (s1 : Int) (s2 : Int) (s3 : Int) : Option (J × Int × Int × Int) :=
  ((m327 s0 s1 s2 (123 : Int)).bind fun t1 => ((m328 s0 t1 s2 (125 : Int)).bind fun t2 => (bif t2.1 then none else (m259_l1 f163 s0 s2 s3 t2 FUEL ))))
set_option maxHeartbeats 20000000 in
set_option maxRecDepth 100000 in
theorem c259 {f163 : Bs → Int → Int → Int → Option (J × Int × Int × Int)} (h163 : S163 f163) : ∀ {H0 : Hp} {w0 : World} {s0 : Bs} {s1 : Int} {s2 : Int} {s3 : Int} {b0 : Nat} {tl0 : List Value} {T0 : TypeId} (_ : Imm H0 w0) (_ : GT H0) (_ : Rs.holds w0 (.cel b0 ((.string (mk s0)) :: (.int .i64 s1) :: (.int .i64 s2) :: (.int .i64 s3) :: tl0) T0)) (_ : ∀ b' ∈ Rs.foot (.cel b0 ((.string (mk s0)) :: (.int .i64 s1) :: (.int .i64 s2) :: (.int .i64 s3) :: tl0) T0), H0 b' = none) {r : (J × Int × Int × Int)} (_ : m259 f163 s0 s1 s2 s3 = some r), Ct Tryz.prog 259 [.pointer (some ⟨b0, 0, none⟩)] (Rs.foot (.cel b0 ((.string (mk s0)) :: (.int .i64 s1) :: (.int .i64 s2) :: (.int .i64 s3) :: tl0) T0)) H0 w0 fun v H' w' => ∃ x : Value, (v = .agg (List.toArray [x]) ∧ VR H' (x) r.1) ∧ Rs.holds w' (.cel b0 ((.string (mk s0)) :: (.int .i64 r.2.1) :: (.int .i64 r.2.2.1) :: (.int .i64 r.2.2.2) :: tl0) T0) ∧ ∀ b' ∈ Rs.foot (.cel b0 ((.string (mk s0)) :: (.int .i64 r.2.1) :: (.int .i64 r.2.2.1) :: (.int .i64 r.2.2.2) :: tl0) T0), H' b' = none ∧ (b' ∈ Rs.foot (.cel b0 ((.string (mk s0)) :: (.int .i64 s1) :: (.int .i64 s2) :: (.int .i64 s3) :: tl0) T0) ∨ w0.heap.size ≤ b') := by
  intro H0 w0 s0 s1 s2 s3 b0 tl0 T0  hI hG hb hn r hm
  have hL := L.one hI hb hn
  refine ct_of Tryz.func259 rfl Tryz.ntmps259 rfl (Nat.le_of_ble_eq_true rfl) ?_
  unfold m259 at hm
  refine sr ?_
  refine wl rfl (o_alloc 1 (c := [_]) hL ze_33 rfl fun b1 w hL => ?_)
  refine wt <| sr <| sv (r_assign rfl) <| wt <| sr <| sv (r_assign rfl) <| wt <| sr <| sv (r_move rfl) <| sv (r_nilCheck rfl) <| sv (r_fieldAddr fl_276_0 rfl) ?_
  obtain ⟨t1, ht1, hm⟩ := bnd hm
  refine wl rfl (o_call1 0 hL fn_327 rfl rfl (c327 hL.imm (hL.own 0 _ rfl) (fun b' hb' => (hL.non 0 _ rfl b' hb').1) ht1) fun v H w hlet1 hL hR => ?_)
  replace hG := GT.mono hlet1 hG
  obtain rfl := hR
  refine wt <| wp_seq <| sr <| sv (r_move rfl) <| sv (r_nilCheck rfl) <| sv (r_fieldAddr fl_276_0 rfl) ?_
  obtain ⟨t2, ht2, hm⟩ := bnd hm
  refine wl rfl (o_call1 0 hL fn_328 rfl rfl (c328 hL.imm (hL.own 0 _ rfl) (fun b' hb' => (hL.non 0 _ rfl b' hb').1) ht2) fun v H w hlet2 hL hR => ?_)
  replace hG := GT.mono hlet2 hG
  obtain rfl := hR
  refine wt ?_
  refine c_if hm rfl (fun hg3 hm => ?_) (fun hg3 hm => ?_)
  · cases hm
  · refine wp_skip <| then_n ?_
    refine w_join (fun a w => ∃ (u0_1_1 : Int) (u0_2_1 : Int) (u0_3_1 : Int) (u3R_1 : List Bs) (u5R_1 : List J) (au3R_1 : Option Addr) (cu3R_1 : Nat) (zu3R_1 : List Value) (au5R_1 : Option Addr) (cu5R_1 : Nat) (zu5R_1 : List Value) (l : List (Nat × Value)) (H : Hp), a = fr 108 ([(2, .pointer (some ⟨b1, 0, none⟩)), (3, .slice au3R_1 (List.length u3R_1) cu3R_1), (4, .slice au5R_1 (List.length u5R_1) cu5R_1)] ++ l) [] ∧ L (Rs.foot (.cel b0 ((.string (mk s0)) :: (.int .i64 s1) :: (.int .i64 s2) :: (.int .i64 s3) :: tl0) T0)) H0 w0 [(0, .cel b0 ((.string (mk s0)) :: (.int .i64 u0_1_1) :: (.int .i64 u0_2_1) :: (.int .i64 u0_3_1) :: tl0) T0), (1, .cel b1 (.nilIface :: []) 33), (3, .row (.slice au3R_1 (List.length u3R_1) cu3R_1) 9 1 (List.length u3R_1) zu3R_1), (5, .row (.slice au5R_1 (List.length u5R_1) cu5R_1) 33 1 (List.length u5R_1) zu5R_1)] H w ∧ GT H ∧ LC cStr H zu3R_1 u3R_1 ∧ LC cJ H zu5R_1 u5R_1 ∧ (m259_j0 u0_1_1 u0_2_1 u0_3_1 u3R_1 u5R_1) = some r) (fun a w hj => ?_) ?_
    · obtain ⟨u0_1_1, u0_2_1, u0_3_1, u3R_1, u5R_1, au3R_1, cu3R_1, zu3R_1, au5R_1, cu5R_1, zu5R_1, l, H, rfl, hL, hG, hu3R_1, hu5R_1, hm⟩ := hj
      unfold m259_j0 at hm
      refine sr <| sv (r_move rfl) <| sv (r_move rfl) ?_
      obtain ⟨H, hlez4, hL, hsz4⟩ := hL.settle (i := 3) (K := cStr) rfl hu3R_1
      replace hG := GT.mono hlez4 hG
      replace hu5R_1 := LC.mono hlez4 hu5R_1
      obtain ⟨H, hlez5, hL, hsz5⟩ := hL.settle (i := 5) (K := cJ) rfl hu5R_1
      replace hG := GT.mono hlez5 hG
      replace hsz4 := Sl.mono hlez5 hsz4
      obtain ⟨t6, ht6, hm⟩ := bnd hm
      refine wl rfl (o_call0 hL fn_126 rfl (c126 hL.imm hsz4 hsz5 ht6) fun v H w hlet6 hL hR => ?_)
      replace hG := GT.mono hlet6 hG
      obtain ⟨xt6r0_0, rfl, ht6r0_0⟩ := hR
      refine sv (r_move rfl) <| sv (r_extract rfl rfl) <| sv (r_extract rfl rfl) ?_
      refine wl rfl (o_alloc 2 (c := [_]) hL ze_33 rfl fun b2 w hL => ?_)
      refine wl rfl (o_storek (i := 2) (vs := [_]) hL ag_33 rfl rfl rfl rfl (Nat.le_of_ble_eq_true rfl) (List.forall_mem_cons.2 ⟨(VR.one ht6r0_0), List.forall_mem_nil _⟩) (c' := _ :: []) rfl fun w hL => ?_)
      refine sv (r_assign rfl) <| wt <| sr <| sv (r_loadk (hL.own 2 _ rfl) ag_33 rfl (vs := [_]) rfl rfl) ?_
      refine wl rfl (o_storek (i := 1) (vs := [_]) hL ag_33 rfl rfl rfl rfl (Nat.le_of_ble_eq_true rfl) (List.forall_mem_cons.2 ⟨(VR.one ht6r0_0), List.forall_mem_nil _⟩) (c' := _ :: []) rfl fun w hL => ?_)
      refine wt <| wp_ret ?_
      obtain rfl := ends hm
      refine rt rfl (.agg (hL.own 1 _ rfl) ag_33 rfl (us := [_]) rfl rfl .nil) ⟨_, _, rfl, hL.ext, ?_⟩
      exact ⟨xt6r0_0, ⟨rfl, ht6r0_0⟩, hL.give (i := 0) rfl⟩
    · refine wp_block <| wp_loop_fuel (k := FUEL) (fun k a w => ∃  (l : List (Nat × Value)) (H : Hp), a = fr 108 ([(0, .pointer (some ⟨b0, 0, none⟩)), (2, .pointer (some ⟨b1, 0, none⟩)), (3, .slice none 0 0), (4, .slice none 0 0)] ++ l) [] ∧ L (Rs.foot (.cel b0 ((.string (mk s0)) :: (.int .i64 s1) :: (.int .i64 s2) :: (.int .i64 s3) :: tl0) T0)) H0 w0 [(0, .cel b0 ((.string (mk s0)) :: (.int .i64 t2.2) :: (.int .i64 s2) :: (.int .i64 s3) :: tl0) T0), (1, .cel b1 (.nilIface :: []) 33)] H w ∧ GT H ∧ (m259_l1 f163 s0 s2 s3 t2 k ) = some r) ⟨_, _, fr_pre _ rfl, hL.pick _ rfl, hG, hm⟩ ?_
      rintro k1 a w ⟨l, H, rfl, hL, hG, hm⟩
      cases k1 with
      | zero => rw [m259_l1.eq_1] at hm; cases hm
      | succ k1 =>
        rw [m259_l1.eq_2] at hm
        refine wp_seq <| sr <| sv (r_move rfl) <| sv (r_nilCheck rfl) <| sv (r_fieldAddr fl_276_0 rfl) ?_
        obtain ⟨t7, ht7, hm⟩ := bnd hm
        refine wl rfl (o_call0 hL fn_164 rfl (c164 hL.imm (hL.own 0 _ rfl) (fun b' hb' => (hL.non 0 _ rfl b' hb').1) ht7) fun v H w hlet7 hL hR => ?_)
        replace hG := GT.mono hlet7 hG
        obtain rfl := hR
        refine sv (r_not rfl) <| wt ?_
        refine c_if hm rfl (fun hg8 hm => ?_) (fun hg8 hm => ?_)
        · refine wp_skip <| then_n <| wp_block <| sr <| sv (r_move rfl) <| sv (r_nilCheck rfl) <| sv (r_fieldAddr fl_276_0 rfl) <| sv (r_fieldAddr fl_274_1 rfl) <| sv (r_load1 (hL.own 0 _ rfl) sc_3 rfl rfl) <| sv (r_assign rfl) <| wt <| sr <| sv (r_move rfl) ?_
          obtain ⟨t9, ht9, hm⟩ := bnd hm
          refine wl rfl (o_call1 0 hL fn_257 rfl rfl (c257 hL.imm (hL.own 0 _ rfl) (fun b' hb' => (hL.non 0 _ rfl b' hb').1) ht9) fun v H w hlet9 hL hR => ?_)
          replace hG := GT.mono hlet9 hG
          obtain rfl := hR
          refine sv (r_assign rfl) <| wt <| wp_seq <| sr <| sv (r_move rfl) <| sv (r_lenS rfl Tryz.underlying30 rfl) <| sv (r_sub rfl rfl) <| sv (r_assign rfl) <| wt <| sr <| sv (r_move rfl) <| sv (r_nilCheck rfl) <| sv (r_fieldAddr fl_276_0 rfl) ?_
          obtain ⟨t10, ht10, hm⟩ := bnd hm
          refine wl rfl (o_call0 hL fn_164 rfl (c164 hL.imm (hL.own 0 _ rfl) (fun b' hb' => (hL.non 0 _ rfl b' hb').1) ht10) fun v H w hlet10 hL hR => ?_)
          replace hG := GT.mono hlet10 hG
          obtain rfl := hR
          refine sv (r_not rfl) <| sv (r_move rfl) ?_
          refine m_if hm (fun hg11 hm => ?_) (fun hg11 hm => ?_)
          · refine wlT rfl rfl rfl rfl hg11 (o_val (r_move rfl) ?_)
            refine wlT rfl rfl rfl rfl hg11 (o_val (r_geq rfl rfl) ?_)
            refine sv (r_pickT hg11 rfl rfl) <| sv (r_move rfl) ?_
            refine m_if hm (fun hg12 hm => ?_) (fun hg12 hm => ?_)
            · cases hm
            · refine wlF rfl rfl rfl rfl hg12 rfl <| wlF rfl rfl rfl rfl hg12 rfl <| wlF rfl rfl rfl rfl hg12 rfl <| wlF rfl rfl rfl rfl hg12 rfl <| wlF rfl rfl rfl rfl hg12 rfl <| wlF rfl rfl rfl rfl hg12 rfl <| sv (r_pickF hg12 rfl rfl) <| wt <| c_F rfl rfl <| wp_skip <| then_n <| sr <| sv (r_move rfl) <| sv (r_nilCheck rfl) <| sv (r_fieldAddr fl_276_0 rfl) ?_
              obtain ⟨t13, ht13, hm⟩ := bnd hm
              refine wl rfl (o_call1 0 hL fn_327 rfl rfl (c327 hL.imm (hL.own 0 _ rfl) (fun b' hb' => (hL.non 0 _ rfl b' hb').1) ht13) fun v H w hlet13 hL hR => ?_)
              replace hG := GT.mono hlet13 hG
              obtain rfl := hR
              refine wt <| wp_seq <| sr <| sv (r_move rfl) <| sv (r_nilCheck rfl) <| sv (r_fieldAddr fl_276_0 rfl) ?_
              obtain ⟨t14, ht14, hm⟩ := bnd hm
              refine wl rfl (o_call0 hL fn_164 rfl (c164 hL.imm (hL.own 0 _ rfl) (fun b' hb' => (hL.non 0 _ rfl b' hb').1) ht14) fun v H w hlet14 hL hR => ?_)
              replace hG := GT.mono hlet14 hG
              obtain rfl := hR
              refine wt ?_
              refine c_if hm rfl (fun hg15 hm => ?_) (fun hg15 hm => ?_)
              · cases hm
              · refine wp_skip <| then_n <| sr <| sv (r_move rfl) <| sv (r_move rfl) ?_
                have hww16 : LC cStr hL.hp [.string (mk t9.1)] ([t9.1] : List Bs) := (LC.cons (K := cStr) (cs := [.string (mk t9.1)]) rfl LC.nil)
                refine wl rfl (o_buildSlice (C := cStr) 2 hL el_30 ze_9 rfl (.cons rfl .nil) rfl rfl rfl rfl hww16 fun gw16 w hL => ?_)
                have hL := hL.addNil 3 9 1
                obtain ⟨hg17, hm⟩ := grd hm
                refine wl rfl (o_append (C := cStr) 3 2 hL el_30 rfl rfl rfl rfl hww16 rfl hg17 fun gw18 cw18 w hL => ?_)
                have hww18 := LC.append LC.nil hww16
                refine sv (r_move rfl) <| sv (r_move rfl) ?_
                obtain ⟨t19, ht19, hm⟩ := bnd hm
                refine wl rfl (o_callE 0 hL fn_163 rfl rfl (h163 hL.imm hG (hL.own 0 _ rfl) (fun b' hb' => (hL.non 0 _ rfl b' hb').1) ht19) fun xt19r0_0 v H w hlet19 hL hR => ?_)
                try dsimp only at hL hR
                replace hG := GT.mono hlet19 hG
                replace hww18 := LC.mono hlet19 hww18
                obtain ⟨rfl, ht19r0_0⟩ := hR
                have hww20 : LC cJ hL.hp [xt19r0_0] ([t19.1] : List J) := (LC.cons (K := cJ) (cs := [xt19r0_0]) ⟨_, rfl, ht19r0_0⟩ LC.nil)
                refine wl rfl (o_buildSlice (C := cJ) 4 hL el_23 ze_33 rfl (.cons rfl .nil) rfl rfl rfl rfl hww20 fun gw20 w hL => ?_)
                have hL := hL.addNil 5 33 1
                obtain ⟨hg21, hm⟩ := grd hm
                refine wl rfl (o_append (C := cJ) 5 4 hL el_23 rfl rfl rfl rfl hww20 rfl hg21 fun gw22 cw22 w hL => ?_)
                have hww22 := LC.append LC.nil hww20
                refine sv (r_assign rfl) <| sv (r_assign rfl) <| wt <| wp_seq <| sr <| sv (r_move rfl) <| sv (r_nilCheck rfl) <| sv (r_fieldAddr fl_276_0 rfl) ?_
                obtain ⟨t23, ht23, hm⟩ := bnd hm
                refine wl rfl (o_call0 hL fn_164 rfl (c164 hL.imm (hL.own 0 _ rfl) (fun b' hb' => (hL.non 0 _ rfl b' hb').1) ht23) fun v H w hlet23 hL hR => ?_)
                replace hG := GT.mono hlet23 hG
                replace hww18 := LC.mono hlet23 hww18
                replace hww22 := LC.mono hlet23 hww22
                obtain rfl := hR
                refine sv (r_move rfl) ?_
                refine m_if hm (fun hg24 hm => ?_) (fun hg24 hm => ?_)
                · cases hm
                · refine wlT rfl rfl rfl rfl hg24 (o_val (r_move rfl) ?_)
                  refine wlT rfl rfl rfl rfl hg24 (o_val (r_nilCheck rfl) ?_)
                  refine wlT rfl rfl rfl rfl hg24 (o_val (r_fieldAddr fl_276_0 rfl) ?_)
                  obtain ⟨t25, ht25, hm⟩ := bnd hm
                  refine wlT rfl rfl rfl rfl hg24 (o_call1 0 hL fn_328 rfl rfl (c328 hL.imm (hL.own 0 _ rfl) (fun b' hb' => (hL.non 0 _ rfl b' hb').1) ht25) fun v H w hlet25 hL hR => ?_)
                  replace hG := GT.mono hlet25 hG
                  replace hww18 := LC.mono hlet25 hww18
                  replace hww22 := LC.mono hlet25 hww22
                  obtain rfl := hR
                  refine sv (r_pickF hg24 rfl rfl) <| wt ?_
                  refine c_if hm rfl (fun hg26 hm => ?_) (fun hg26 hm => ?_)
                  · refine wp_exit <| then_e <| blk_o rfl <| then_e <| blk_e <| then_n ?_
                    exact ⟨_, _, _, _, _, _, _, _, _, _, _, _, _, fr_pre _ rfl, hL.pick _ rfl, hG, hww18, hww22, hm⟩
                  · cases hm
          · cases hm
        · cases hm

/-- (*text.reader).value -/
def m163o (f163 : Bs → Int → Int → Int → Option (J × Int × Int × Int)) (s0 : Bs) (s1 : Int) (s2 : Int) (s3 : Int) : Option (J × Int × Int × Int) :=
  (bif (s3 == (8 : Int)) then none else ((m254 s0 s1 s2).bind fun t2 => (bif (t2 == (110 : Int)) then none else (bif (t2 == (116 : Int)) then none else (bif (t2 == (102 : Int)) then none else (bif (t2 == (63 : Int)) then ((m255 s0 s1 s2 [63]).bind fun t7 => (m125.bind fun t8 => ((m253 s0 t7 s2 (IntKind.wrap .i64 (s3 + (1 : Int)))).bind fun t9 => (some (t8, t7, s2, t9))))) else (bif (t2 == (40 : Int)) then ((m256 s0 s1 s2 (IntKind.wrap .i64 (s3 + (1 : Int)))).bind fun t11 => ((m253 s0 t11.2.1 t11.2.2 (IntKind.wrap .i64 (s3 + (1 : Int)))).bind fun t12 => (some (t11.1, t11.2.1, t11.2.2, t12)))) else (bif (t2 == (34 : Int)) then ((m257 s0 s1 s2 (IntKind.wrap .i64 (s3 + (1 : Int)))).bind fun t14 => ((m249 t14.1).bind fun t15 => ((m253 s0 t14.2 s2 (IntKind.wrap .i64 (s3 + (1 : Int)))).bind fun t16 => (some (t15, t14.2, s2, t16))))) else (bif (t2 == (91 : Int)) then ((m258 f163 s0 s1 s2 (IntKind.wrap .i64 (s3 + (1 : Int)))).bind fun t18 => ((m253 s0 t18.2.1 t18.2.2.1 t18.2.2.2).bind fun t19 => (some (t18.1, t18.2.1, t18.2.2.1, t19)))) else (bif (t2 == (123 : Int)) then ((m259 f163 s0 s1 s2 (IntKind.wrap .i64 (s3 + (1 : Int)))).bind fun t21 => ((m253 s0 t21.2.1 t21.2.2.1 t21.2.2.2).bind fun t22 => (some (t21.1, t21.2.1, t21.2.2.1, t22)))) else ((m260 s0 s1 s2 (IntKind.wrap .i64 (s3 + (1 : Int)))).bind fun t23 => ((m245 t23.1).bind fun t24 => ((m253 s0 t23.2.1 t23.2.2 (IntKind.wrap .i64 (s3 + (1 : Int)))).bind fun t25 => (some (t24, t23.2.1, t23.2.2, t25)))))))))))))))
set_option maxHeartbeats 20000000 in
set_option maxRecDepth 100000 in
theorem c163o {f163 : Bs → Int → Int → Int → Option (J × Int × Int × Int)} (h163 : S163 f163) : S163 (m163o f163) := by
  unfold S163
  intro H0 w0 s0 s1 s2 s3 b0 tl0 T0  hI hG hb hn r hm
  have hL := L.one hI hb hn
  refine ct_ofD Tryz.func163 rfl Tryz.ntmps163 rfl (Nat.le_of_ble_eq_true rfl) ?_
  unfold m163o at hm
  refine sr ?_
  refine wl rfl (o_box 1 (c := [_]) hL rfl rfl fun b1 w hL => ?_)
  refine wl rfl (o_alloc 2 (c := [_]) hL ze_33 rfl fun b2 w hL => ?_)
  refine wt <| wp_seq <| sr <| sv (r_load1 (hL.own 1 _ rfl) sc_272 rfl rfl) <| sv (r_nilCheck rfl) <| sv (r_fieldAddr fl_276_1 rfl) <| sv (r_load1 (hL.own 0 _ rfl) sc_3 rfl rfl) <| sv (r_eqi rfl rfl) <| wt ?_
  refine c_if hm rfl (fun hg1 hm => ?_) (fun hg1 hm => ?_)
  · cases hm
  · refine wp_skip <| then_n <| sr <| sv (r_load1 (hL.own 1 _ rfl) sc_272 rfl rfl) <| sv (r_nilCheck rfl) <| sv (r_fieldAddr fl_276_1 rfl) <| sv (r_load1 (hL.own 0 _ rfl) sc_3 rfl rfl) <| sv (r_add rfl rfl) <| sv (r_nilCheck rfl) <| sv (r_fieldAddr fl_276_1 rfl) ?_
    refine wl rfl (o_store1 (i := 0) hL sc_3 rfl rfl rfl rfl rfl (c' := _ :: _ :: _ :: _ :: _) rfl fun w hL => ?_)
    refine wt <| sr <| sv (r_makeFunc rfl) ?_
    refine wl rfl (o_defer rfl rfl ?_)
    refine wt <| wp_seq <| sr <| sv (r_load1 (hL.own 1 _ rfl) sc_272 rfl rfl) <| sv (r_nilCheck rfl) <| sv (r_fieldAddr fl_276_0 rfl) ?_
    obtain ⟨t2, ht2, hm⟩ := bnd hm
    refine wl rfl (o_call0 hL fn_254 rfl (c254 hL.imm (hL.own 0 _ rfl) (fun b' hb' => (hL.non 0 _ rfl b' hb').1) ht2) fun v H w hlet2 hL hR => ?_)
    replace hG := GT.mono hlet2 hG
    obtain rfl := hR
    refine sv (r_assign rfl) <| wt <| wp_block <| sr <| sv (r_move rfl) <| sv (r_eqi rfl rfl) <| sv (r_assign rfl) <| wt ?_
    refine c_if hm rfl (fun hg3 hm => ?_) (fun hg3 hm => ?_)
    · cases hm
    · refine sr <| sv (r_move rfl) <| sv (r_eqi rfl rfl) <| sv (r_assign rfl) <| wt ?_
      refine c_if hm rfl (fun hg4 hm => ?_) (fun hg4 hm => ?_)
      · cases hm
      · refine sr <| sv (r_move rfl) <| sv (r_eqi rfl rfl) <| sv (r_assign rfl) <| wt ?_
        refine c_if hm rfl (fun hg5 hm => ?_) (fun hg5 hm => ?_)
        · cases hm
        · refine sr <| sv (r_move rfl) <| sv (r_eqi rfl rfl) <| sv (r_assign rfl) <| wt ?_
          refine c_if hm rfl (fun hg6 hm => ?_) (fun hg6 hm => ?_)
          · refine sr <| sv (r_load1 (hL.own 1 _ rfl) sc_272 rfl rfl) <| sv (r_nilCheck rfl) <| sv (r_fieldAddr fl_276_0 rfl) ?_
            obtain ⟨t7, ht7, hm⟩ := bnd hm
            refine wl rfl (o_call1 0 hL fn_255 rfl rfl (c255 hL.imm (hL.own 0 _ rfl) (fun b' hb' => (hL.non 0 _ rfl b' hb').1) ht7) fun v H w hlet7 hL hR => ?_)
            replace hG := GT.mono hlet7 hG
            obtain rfl := hR
            refine wt <| sr ?_
            obtain ⟨t8, ht8, hm⟩ := bnd hm
            refine wl rfl (o_call0 hL fn_125 rfl (c125 hL.imm ht8) fun v H w hlet8 hL hR => ?_)
            replace hG := GT.mono hlet8 hG
            obtain ⟨xt8r0_0, rfl, ht8r0_0⟩ := hR
            refine wl rfl (o_storek (i := 2) (vs := [_]) hL ag_33 rfl rfl rfl rfl (Nat.le_of_ble_eq_true rfl) (List.forall_mem_cons.2 ⟨(VR.one ht8r0_0), List.forall_mem_nil _⟩) (c' := _ :: []) rfl fun w hL => ?_)
            refine wt <| wp_ret <| blk_r <| then_r ?_
            obtain ⟨t9, ht9, hm⟩ := bnd hm
            have hL := hL.merge 0 1 rfl rfl rfl
            refine d_call1 0 hL fn_253 rfl (c253 hL.imm (hL.own 0 _ rfl) (fun b' hb' => (hL.non 0 _ rfl b' hb').1) ht9) fun v H w hlet9 hL hR => ?_
            replace hG := GT.mono hlet9 hG
            replace ht8r0_0 := VR.mono hlet9 ht8r0_0
            obtain rfl := hR
            have hL := hL.split 0 1 rfl rfl (.inr rfl)
            have hL := hL.pick [(0, .cel b0 ((.string (mk s0)) :: (.int .i64 t7) :: (.int .i64 s2) :: (.int .i64 t9) :: tl0) T0), (1, .cel b1 ((.pointer (some ⟨b0, 0, none⟩)) :: []) 272), (2, .cel b2 (xt8r0_0 :: []) 33)] rfl
            obtain rfl := ends hm
            refine rtL rfl (.agg (hL.own 2 _ rfl) ag_33 rfl (us := [_]) rfl rfl .nil) ⟨_, _, rfl, hL.ext, ?_⟩
            exact ⟨xt8r0_0, ⟨rfl, ht8r0_0⟩, hL.give (i := 0) rfl⟩
          · refine sr <| sv (r_move rfl) <| sv (r_eqi rfl rfl) <| sv (r_assign rfl) <| wt ?_
            refine c_if hm rfl (fun hg10 hm => ?_) (fun hg10 hm => ?_)
            · refine sr <| sv (r_load1 (hL.own 1 _ rfl) sc_272 rfl rfl) ?_
              obtain ⟨t11, ht11, hm⟩ := bnd hm
              refine wl rfl (o_callE 0 hL fn_256 rfl rfl (c256 hL.imm hG (hL.own 0 _ rfl) (fun b' hb' => (hL.non 0 _ rfl b' hb').1) ht11) fun xt11r0_0 v H w hlet11 hL hR => ?_)
              try dsimp only at hL hR
              replace hG := GT.mono hlet11 hG
              obtain ⟨rfl, ht11r0_0⟩ := hR
              refine wl rfl (o_storek (i := 2) (vs := [_]) hL ag_33 rfl rfl rfl rfl (Nat.le_of_ble_eq_true rfl) (List.forall_mem_cons.2 ⟨(VR.one ht11r0_0), List.forall_mem_nil _⟩) (c' := _ :: []) rfl fun w hL => ?_)
              refine wt <| wp_ret <| blk_r <| then_r ?_
              obtain ⟨t12, ht12, hm⟩ := bnd hm
              have hL := hL.merge 0 1 rfl rfl rfl
              refine d_call1 0 hL fn_253 rfl (c253 hL.imm (hL.own 0 _ rfl) (fun b' hb' => (hL.non 0 _ rfl b' hb').1) ht12) fun v H w hlet12 hL hR => ?_
              replace hG := GT.mono hlet12 hG
              replace ht11r0_0 := VR.mono hlet12 ht11r0_0
              obtain rfl := hR
              have hL := hL.split 0 1 rfl rfl (.inr rfl)
              have hL := hL.pick [(0, .cel b0 ((.string (mk s0)) :: (.int .i64 t11.2.1) :: (.int .i64 t11.2.2) :: (.int .i64 t12) :: tl0) T0), (1, .cel b1 ((.pointer (some ⟨b0, 0, none⟩)) :: []) 272), (2, .cel b2 (xt11r0_0 :: []) 33)] rfl
              obtain rfl := ends hm
              refine rtL rfl (.agg (hL.own 2 _ rfl) ag_33 rfl (us := [_]) rfl rfl .nil) ⟨_, _, rfl, hL.ext, ?_⟩
              exact ⟨xt11r0_0, ⟨rfl, ht11r0_0⟩, hL.give (i := 0) rfl⟩
            · refine sr <| sv (r_move rfl) <| sv (r_eqi rfl rfl) <| sv (r_assign rfl) <| wt ?_
              refine c_if hm rfl (fun hg13 hm => ?_) (fun hg13 hm => ?_)
              · refine sr <| sv (r_load1 (hL.own 1 _ rfl) sc_272 rfl rfl) ?_
                obtain ⟨t14, ht14, hm⟩ := bnd hm
                refine wl rfl (o_call1 0 hL fn_257 rfl rfl (c257 hL.imm (hL.own 0 _ rfl) (fun b' hb' => (hL.non 0 _ rfl b' hb').1) ht14) fun v H w hlet14 hL hR => ?_)
                replace hG := GT.mono hlet14 hG
                obtain rfl := hR
                obtain ⟨t15, ht15, hm⟩ := bnd hm
                refine wl rfl (o_call0 hL fn_249 rfl (c249 hL.imm ht15) fun v H w hlet15 hL hR => ?_)
                replace hG := GT.mono hlet15 hG
                obtain ⟨xt15r0_0, rfl, ht15r0_0⟩ := hR
                refine wl rfl (o_storek (i := 2) (vs := [_]) hL ag_33 rfl rfl rfl rfl (Nat.le_of_ble_eq_true rfl) (List.forall_mem_cons.2 ⟨(VR.one ht15r0_0), List.forall_mem_nil _⟩) (c' := _ :: []) rfl fun w hL => ?_)
                refine wt <| wp_ret <| blk_r <| then_r ?_
                obtain ⟨t16, ht16, hm⟩ := bnd hm
                have hL := hL.merge 0 1 rfl rfl rfl
                refine d_call1 0 hL fn_253 rfl (c253 hL.imm (hL.own 0 _ rfl) (fun b' hb' => (hL.non 0 _ rfl b' hb').1) ht16) fun v H w hlet16 hL hR => ?_
                replace hG := GT.mono hlet16 hG
                replace ht15r0_0 := VR.mono hlet16 ht15r0_0
                obtain rfl := hR
                have hL := hL.split 0 1 rfl rfl (.inr rfl)
                have hL := hL.pick [(0, .cel b0 ((.string (mk s0)) :: (.int .i64 t14.2) :: (.int .i64 s2) :: (.int .i64 t16) :: tl0) T0), (1, .cel b1 ((.pointer (some ⟨b0, 0, none⟩)) :: []) 272), (2, .cel b2 (xt15r0_0 :: []) 33)] rfl
                obtain rfl := ends hm
                refine rtL rfl (.agg (hL.own 2 _ rfl) ag_33 rfl (us := [_]) rfl rfl .nil) ⟨_, _, rfl, hL.ext, ?_⟩
                exact ⟨xt15r0_0, ⟨rfl, ht15r0_0⟩, hL.give (i := 0) rfl⟩
              · refine sr <| sv (r_move rfl) <| sv (r_eqi rfl rfl) <| sv (r_assign rfl) <| wt ?_
                refine c_if hm rfl (fun hg17 hm => ?_) (fun hg17 hm => ?_)
                · refine sr <| sv (r_load1 (hL.own 1 _ rfl) sc_272 rfl rfl) ?_
                  obtain ⟨t18, ht18, hm⟩ := bnd hm
                  refine wl rfl (o_callE 0 hL fn_258 rfl rfl (c258 h163 hL.imm hG (hL.own 0 _ rfl) (fun b' hb' => (hL.non 0 _ rfl b' hb').1) ht18) fun xt18r0_0 v H w hlet18 hL hR => ?_)
                  try dsimp only at hL hR
                  replace hG := GT.mono hlet18 hG
                  obtain ⟨rfl, ht18r0_0⟩ := hR
                  refine wl rfl (o_storek (i := 2) (vs := [_]) hL ag_33 rfl rfl rfl rfl (Nat.le_of_ble_eq_true rfl) (List.forall_mem_cons.2 ⟨(VR.one ht18r0_0), List.forall_mem_nil _⟩) (c' := _ :: []) rfl fun w hL => ?_)
                  refine wt <| wp_ret <| blk_r <| then_r ?_
                  obtain ⟨t19, ht19, hm⟩ := bnd hm
                  have hL := hL.merge 0 1 rfl rfl rfl
                  refine d_call1 0 hL fn_253 rfl (c253 hL.imm (hL.own 0 _ rfl) (fun b' hb' => (hL.non 0 _ rfl b' hb').1) ht19) fun v H w hlet19 hL hR => ?_
                  replace hG := GT.mono hlet19 hG
                  replace ht18r0_0 := VR.mono hlet19 ht18r0_0
                  obtain rfl := hR
                  have hL := hL.split 0 1 rfl rfl (.inr rfl)
                  have hL := hL.pick [(0, .cel b0 ((.string (mk s0)) :: (.int .i64 t18.2.1) :: (.int .i64 t18.2.2.1) :: (.int .i64 t19) :: tl0) T0), (1, .cel b1 ((.pointer (some ⟨b0, 0, none⟩)) :: []) 272), (2, .cel b2 (xt18r0_0 :: []) 33)] rfl
                  obtain rfl := ends hm
                  refine rtL rfl (.agg (hL.own 2 _ rfl) ag_33 rfl (us := [_]) rfl rfl .nil) ⟨_, _, rfl, hL.ext, ?_⟩
                  exact ⟨xt18r0_0, ⟨rfl, ht18r0_0⟩, hL.give (i := 0) rfl⟩
                · refine sr <| sv (r_move rfl) <| sv (r_eqi rfl rfl) <| sv (r_assign rfl) <| wt ?_
                  refine c_if hm rfl (fun hg20 hm => ?_) (fun hg20 hm => ?_)
                  · refine sr <| sv (r_load1 (hL.own 1 _ rfl) sc_272 rfl rfl) ?_
                    obtain ⟨t21, ht21, hm⟩ := bnd hm
                    refine wl rfl (o_callE 0 hL fn_259 rfl rfl (c259 h163 hL.imm hG (hL.own 0 _ rfl) (fun b' hb' => (hL.non 0 _ rfl b' hb').1) ht21) fun xt21r0_0 v H w hlet21 hL hR => ?_)
                    try dsimp only at hL hR
                    replace hG := GT.mono hlet21 hG
                    obtain ⟨rfl, ht21r0_0⟩ := hR
                    refine wl rfl (o_storek (i := 2) (vs := [_]) hL ag_33 rfl rfl rfl rfl (Nat.le_of_ble_eq_true rfl) (List.forall_mem_cons.2 ⟨(VR.one ht21r0_0), List.forall_mem_nil _⟩) (c' := _ :: []) rfl fun w hL => ?_)
                    refine wt <| wp_ret <| blk_r <| then_r ?_
                    obtain ⟨t22, ht22, hm⟩ := bnd hm
                    have hL := hL.merge 0 1 rfl rfl rfl
                    refine d_call1 0 hL fn_253 rfl (c253 hL.imm (hL.own 0 _ rfl) (fun b' hb' => (hL.non 0 _ rfl b' hb').1) ht22) fun v H w hlet22 hL hR => ?_
                    replace hG := GT.mono hlet22 hG
                    replace ht21r0_0 := VR.mono hlet22 ht21r0_0
                    obtain rfl := hR
                    have hL := hL.split 0 1 rfl rfl (.inr rfl)
                    have hL := hL.pick [(0, .cel b0 ((.string (mk s0)) :: (.int .i64 t21.2.1) :: (.int .i64 t21.2.2.1) :: (.int .i64 t22) :: tl0) T0), (1, .cel b1 ((.pointer (some ⟨b0, 0, none⟩)) :: []) 272), (2, .cel b2 (xt21r0_0 :: []) 33)] rfl
                    obtain rfl := ends hm
                    refine rtL rfl (.agg (hL.own 2 _ rfl) ag_33 rfl (us := [_]) rfl rfl .nil) ⟨_, _, rfl, hL.ext, ?_⟩
                    exact ⟨xt21r0_0, ⟨rfl, ht21r0_0⟩, hL.give (i := 0) rfl⟩
                  · refine sr <| sv (r_load1 (hL.own 1 _ rfl) sc_272 rfl rfl) ?_
                    obtain ⟨t23, ht23, hm⟩ := bnd hm
                    refine wl rfl (o_call1 0 hL fn_260 rfl rfl (c260 hL.imm hG (hL.own 0 _ rfl) (fun b' hb' => (hL.non 0 _ rfl b' hb').1) ht23) fun v H w hlet23 hL hR => ?_)
                    replace hG := GT.mono hlet23 hG
                    obtain rfl := hR
                    obtain ⟨t24, ht24, hm⟩ := bnd hm
                    refine wl rfl (o_call0 hL fn_245 rfl (c245 hL.imm ht24) fun v H w hlet24 hL hR => ?_)
                    replace hG := GT.mono hlet24 hG
                    obtain ⟨xt24r0_0, rfl, ht24r0_0⟩ := hR
                    refine wl rfl (o_storek (i := 2) (vs := [_]) hL ag_33 rfl rfl rfl rfl (Nat.le_of_ble_eq_true rfl) (List.forall_mem_cons.2 ⟨(VR.one ht24r0_0), List.forall_mem_nil _⟩) (c' := _ :: []) rfl fun w hL => ?_)
                    refine wt <| wp_ret <| blk_r <| then_r ?_
                    obtain ⟨t25, ht25, hm⟩ := bnd hm
                    have hL := hL.merge 0 1 rfl rfl rfl
                    refine d_call1 0 hL fn_253 rfl (c253 hL.imm (hL.own 0 _ rfl) (fun b' hb' => (hL.non 0 _ rfl b' hb').1) ht25) fun v H w hlet25 hL hR => ?_
                    replace hG := GT.mono hlet25 hG
                    replace ht24r0_0 := VR.mono hlet25 ht24r0_0
                    obtain rfl := hR
                    have hL := hL.split 0 1 rfl rfl (.inr rfl)
                    have hL := hL.pick [(0, .cel b0 ((.string (mk s0)) :: (.int .i64 t23.2.1) :: (.int .i64 t23.2.2) :: (.int .i64 t25) :: tl0) T0), (1, .cel b1 ((.pointer (some ⟨b0, 0, none⟩)) :: []) 272), (2, .cel b2 (xt24r0_0 :: []) 33)] rfl
                    obtain rfl := ends hm
                    refine rtL rfl (.agg (hL.own 2 _ rfl) ag_33 rfl (us := [_]) rfl rfl .nil) ⟨_, _, rfl, hL.ext, ?_⟩
                    exact ⟨xt24r0_0, ⟨rfl, ht24r0_0⟩, hL.give (i := 0) rfl⟩
def m163n : Nat → Bs → Int → Int → Int → Option (J × Int × Int × Int)
  | 0 => fun _ _ _ _ => none
  | n + 1 => m163o (m163n n)
theorem c163n (n : Nat) : S163 (m163n n) := by
  induction n with
  | zero =>
    unfold S163
    intro H0 w0 s0 s1 s2 s3 b0 tl0 T0  hI hG hb hn r hm
    rw [m163n.eq_1] at hm
    cases hm
  | succ n ih => exact c163o ih
def m163 : Bs → Int → Int → Int → Option (J × Int × Int × Int) := m163n FUEL
theorem c163 : S163 m163 := c163n FUEL

/-- text.Read -/
def m84_j0 (a0 : Bs) (t2 : (J × Int × Int × Int)) (v31_1 : Bool) : Option (J × Int × Int) := (bif v31_1 then none else ((m164 a0 t2.2.1 t2.2.2.1).bind fun t4 => (bif t4 then (m64.bind fun t6 => (some (t6, t2.2.1, t2.2.2.1))) else (some (t2.1, (a0.length : Int), (0 : Int))))))
def m84 (a0 : Bs) : Option (J × Int × Int) :=
  (bif (decide ((1048576 : Int) < (a0.length : Int))) then none else ((m163 a0 (0 : Int) (0 : Int) (0 : Int)).bind fun t2 => ((m164 a0 t2.2.1 t2.2.2.1).bind fun t7 => (bif (!t7) then (m84_j0 a0 t2 (decide (t2.2.1 < (a0.length : Int)))) else (m84_j0 a0 t2 false)))))
set_option maxHeartbeats 20000000 in
set_option maxRecDepth 100000 in
theorem c84 : ∀ {H0 : Hp} {w0 : World} {a0 : Bs}  (_ : Imm H0 w0) (_ : GT H0) {r : (J × Int × Int)} (_ : m84 a0 = some r), Ct Tryz.prog 84 [.string (mk a0)] [] H0 w0 fun v H' w' => ∃ (xr0_0 : Value), v = .tuple (List.toArray [.agg (List.toArray [xr0_0]), .int .i64 r.2.1, .int .i64 r.2.2]) ∧ VR H' xr0_0 r.1 := by
  intro H0 w0 a0  hI hG r hm
  have hL := L.start hI
  refine ct_of Tryz.func84 rfl Tryz.ntmps84 rfl (Nat.le_of_ble_eq_true rfl) ?_
  unfold m84 at hm
  refine sr ?_
  refine wl rfl (o_alloc 0 (c := [_]) hL ze_33 rfl fun b0 w hL => ?_)
  refine sv (r_assign rfl) <| sv (r_assign rfl) <| wt <| wp_seq <| sr <| sv (r_move rfl) <| sv (r_lens rfl Tryz.underlying9 rfl) <| sv (r_gtr rfl rfl) <| wt ?_
  refine c_if hm rfl (fun hg1 hm => ?_) (fun hg1 hm => ?_)
  · cases hm
  · refine wp_skip <| then_n <| sr <| sv (r_move rfl) <| sv (r_build ze_274 st_274 rfl (.cons rfl .nil) (cs := [_, _, _]) rfl) <| sv (r_build ze_276 st_276 rfl (.cons rfl .nil) (cs := [_, _, _, _]) rfl) ?_
    refine wl rfl (o_box 1 (c := [_, _, _, _]) hL rfl rfl fun b1 w hL => ?_)
    refine sv (r_assign rfl) <| wt <| sr <| sv (r_move rfl) ?_
    obtain ⟨t2, ht2, hm⟩ := bnd hm
    refine wl rfl (o_callE 1 hL fn_163 rfl rfl (c163 hL.imm hG (hL.own 1 _ rfl) (fun b' hb' => (hL.non 1 _ rfl b' hb').1) ht2) fun xt2r0_0 v H w hlet2 hL hR => ?_)
    try dsimp only at hL hR
    replace hG := GT.mono hlet2 hG
    obtain ⟨rfl, ht2r0_0⟩ := hR
    refine wl rfl (o_alloc 2 (c := [_]) hL ze_33 rfl fun b2 w hL => ?_)
    refine wl rfl (o_storek (i := 2) (vs := [_]) hL ag_33 rfl rfl rfl rfl (Nat.le_of_ble_eq_true rfl) (List.forall_mem_cons.2 ⟨(VR.one ht2r0_0), List.forall_mem_nil _⟩) (c' := _ :: []) rfl fun w hL => ?_)
    refine wt <| wp_seq ?_
    refine w_join (fun a w => ∃ (v31_1 : Bool) (l : List (Nat × Value)) (H : Hp), a = fr 59 ([(0, .string (mk a0)), (2, .pointer (some ⟨b0, 0, none⟩)), (3, .int .i64 0), (4, .int .i64 0), (5, .pointer (some ⟨b1, 0, none⟩)), (6, .pointer (some ⟨b2, 0, none⟩)), (31, .bool v31_1)] ++ l) [] ∧ L [] H0 w0 [(0, .cel b0 (.nilIface :: []) 33), (1, .cel b1 ((.string (mk a0)) :: (.int .i64 t2.2.1) :: (.int .i64 t2.2.2.1) :: (.int .i64 t2.2.2.2) :: []) 276), (2, .cel b2 (xt2r0_0 :: []) 33)] H w ∧ GT H ∧ VR H xt2r0_0 t2.1 ∧ (m84_j0 a0 t2 v31_1) = some r) (fun a w hj => ?_) ?_
    · obtain ⟨v31_1, l, H, rfl, hL, hG, ht2r0_0, hm⟩ := hj
      unfold m84_j0 at hm
      refine c_if hm rfl (fun hg3 hm => ?_) (fun hg3 hm => ?_)
      · cases hm
      · refine wp_skip <| then_n <| wp_seq <| sr <| sv (r_move rfl) <| sv (r_nilCheck rfl) <| sv (r_fieldAddr fl_276_0 rfl) ?_
        obtain ⟨t4, ht4, hm⟩ := bnd hm
        refine wl rfl (o_call0 hL fn_164 rfl (c164 hL.imm (hL.own 1 _ rfl) (fun b' hb' => (hL.non 1 _ rfl b' hb').1) ht4) fun v H w hlet4 hL hR => ?_)
        replace hG := GT.mono hlet4 hG
        replace ht2r0_0 := VR.mono hlet4 ht2r0_0
        obtain rfl := hR
        refine wt ?_
        refine c_if hm rfl (fun hg5 hm => ?_) (fun hg5 hm => ?_)
        · refine wp_seq <| rd hL [1] [_] [(1, true), (2, true), (3, true), (4, true), (5, true), (6, true), (7, true), (8, true), (9, true), (10, true), (0, false), (11, false), (12, true), (13, true)] mixed rfl (by kernel_rfl) fun w hL => dv rfl (fun w hS => r_move rfl) <| dv rfl (fun w hS => r_nilCheck rfl) <| dv rfl (fun w hS => r_fieldAddr fl_276_0 rfl) <| dv rfl (fun w hS => r_fieldAddr fl_274_1 rfl) <| dv rfl (fun w hS => r_load1 hS.2.1 sc_3 rfl rfl) <| dv rfl (fun w hS => r_move rfl) <| dv rfl (fun w hS => r_nilCheck rfl) <| dv rfl (fun w hS => r_fieldAddr fl_276_0 rfl) <| dv rfl (fun w hS => r_fieldAddr fl_274_2 rfl) <| dv rfl (fun w hS => r_load1 hS.2.1 sc_27 rfl rfl) ?_
          obtain ⟨t6, ht6, hm⟩ := bnd hm
          refine dh rfl rfl (o_call0 hL fn_64 rfl (c64 hL.imm ht6) fun v H w hlet6 hL hR => ⟨Sd.of hL ((Hle.refl _).trans hlet6) [1] rfl, ?_⟩)
          replace hG := GT.mono hlet6 hG
          replace ht2r0_0 := VR.mono hlet6 ht2r0_0
          obtain ⟨xt6r0_0, rfl, ht6r0_0⟩ := hR
          refine dh rfl rfl (o_storek (i := 0) (vs := [_]) hL ag_33 rfl rfl rfl rfl (Nat.le_of_ble_eq_true rfl) (List.forall_mem_cons.2 ⟨(VR.one ht6r0_0), List.forall_mem_nil _⟩) (c' := _ :: []) rfl fun w hL => ⟨Sd.of hL ((Hle.refl _).trans hlet6) [1] rfl, ?_⟩)
          refine dv rfl (fun w hS => r_assign rfl) <| dv rfl (fun w hS => r_assign rfl) <| dn <| then_n <| wp_ret <| then_r ?_
          obtain rfl := ends hm
          exact rt rfl (.agg (hL.own 0 _ rfl) ag_33 rfl (us := [_]) rfl rfl (.tmp rfl (.tmp rfl .nil))) ⟨_, _, rfl, hL.ext, ⟨_, rfl, ht6r0_0⟩⟩
        · refine wp_skip <| then_n <| sr <| sv (r_loadk (hL.own 2 _ rfl) ag_33 rfl (vs := [_]) rfl rfl) <| sv (r_move rfl) <| sv (r_lens rfl Tryz.underlying9 rfl) ?_
          refine wl rfl (o_storek (i := 0) (vs := [_]) hL ag_33 rfl rfl rfl rfl (Nat.le_of_ble_eq_true rfl) (List.forall_mem_cons.2 ⟨(VR.one ht2r0_0), List.forall_mem_nil _⟩) (c' := _ :: []) rfl fun w hL => ?_)
          refine sv (r_assign rfl) <| sv (r_assign rfl) <| wt <| wp_ret ?_
          obtain rfl := ends hm
          exact rt rfl (.agg (hL.own 0 _ rfl) ag_33 rfl (us := [_]) rfl rfl (.tmp rfl (.tmp rfl .nil))) ⟨_, _, rfl, hL.ext, ⟨_, rfl, ht2r0_0⟩⟩
    · refine rg <| sv (r_move rfl) <| sv (r_nilCheck rfl) <| sv (r_fieldAddr fl_276_0 rfl) ?_
      obtain ⟨t7, ht7, hm⟩ := bnd hm
      refine wl rfl (o_call0 hL fn_164 rfl (c164 hL.imm (hL.own 1 _ rfl) (fun b' hb' => (hL.non 1 _ rfl b' hb').1) ht7) fun v H w hlet7 hL hR => ?_)
      replace hG := GT.mono hlet7 hG
      replace ht2r0_0 := VR.mono hlet7 ht2r0_0
      obtain rfl := hR
      refine sv (r_not rfl) <| sv (r_move rfl) ?_
      refine m_if hm (fun hg8 hm => ?_) (fun hg8 hm => ?_)
      · refine wlT rfl rfl rfl rfl hg8 (o_val (r_move rfl) ?_)
        refine wlT rfl rfl rfl rfl hg8 (o_val (r_nilCheck rfl) ?_)
        refine wlT rfl rfl rfl rfl hg8 (o_val (r_fieldAddr fl_276_0 rfl) ?_)
        refine wlT rfl rfl rfl rfl hg8 (o_val (r_fieldAddr fl_274_1 rfl) ?_)
        refine wlT rfl rfl rfl rfl hg8 (o_val (r_load1 (hL.own 1 _ rfl) sc_3 rfl rfl) ?_)
        refine wlT rfl rfl rfl rfl hg8 (o_val (r_move rfl) ?_)
        refine wlT rfl rfl rfl rfl hg8 (o_val (r_lens rfl Tryz.underlying9 rfl) ?_)
        refine wlT rfl rfl rfl rfl hg8 (o_val (r_lss rfl rfl) ?_)
        refine sv (r_pickT hg8 rfl rfl) <| wt ?_
        exact ⟨_, _, _, fr_pre _ rfl, hL.pick _ rfl, hG, ht2r0_0, hm⟩
      · refine wlF rfl rfl rfl rfl hg8 rfl <| wlF rfl rfl rfl rfl hg8 rfl <| wlF rfl rfl rfl rfl hg8 rfl <| wlF rfl rfl rfl rfl hg8 rfl <| wlF rfl rfl rfl rfl hg8 rfl <| wlF rfl rfl rfl rfl hg8 rfl <| wlF rfl rfl rfl rfl hg8 rfl <| wlF rfl rfl rfl rfl hg8 rfl <| sv (r_pickF hg8 rfl rfl) <| wt ?_
        exact ⟨_, _, _, fr_pre _ rfl, hL.pick _ rfl, hG, ht2r0_0, hm⟩

end Go.Proofs.YtcjphpenelnohaaGreatDoor
/- Ge: by tools/gen.py -/
set_option linter.unusedVariables false
namespace Go.Proofs.YtcjphpenelnohaaGreatDoor
open Go.RowKit

/-- (*kind.reader).read$1 -/
def m216 (s0 : Bs) (s1 : Int) (s2 : Int) (s3 : Int) : Option Int :=
  (some ((IntKind.wrap .i64 (s3 - (1 : Int)))))
set_option maxHeartbeats 20000000 in
set_option maxRecDepth 100000 in
theorem c216 : ∀ {H0 : Hp} {w0 : World} {s0 : Bs} {s1 : Int} {s2 : Int} {s3 : Int} {b0 : Nat} {tl0 : List Value} {T0 : TypeId} {b1 : Nat} {tl1 : List Value} {T1 : TypeId} (_ : Imm H0 w0) (_ : Rs.holds w0 (.two (.cel b0 ((.string (mk s0)) :: (.int .i64 s1) :: (.int .i64 s2) :: (.int .i64 s3) :: tl0) T0) (.cel b1 ((.pointer (some ⟨b0, 0, none⟩)) :: tl1) T1))) (_ : ∀ b' ∈ Rs.foot (.two (.cel b0 ((.string (mk s0)) :: (.int .i64 s1) :: (.int .i64 s2) :: (.int .i64 s3) :: tl0) T0) (.cel b1 ((.pointer (some ⟨b0, 0, none⟩)) :: tl1) T1)), H0 b' = none) {r : Int} (_ : m216 s0 s1 s2 s3 = some r), CtD Tryz.prog 216 [.pointer (some ⟨b1, 0, none⟩)] (Rs.foot (.two (.cel b0 ((.string (mk s0)) :: (.int .i64 s1) :: (.int .i64 s2) :: (.int .i64 s3) :: tl0) T0) (.cel b1 ((.pointer (some ⟨b0, 0, none⟩)) :: tl1) T1))) H0 w0 fun v H' w' => (v = .tuple (List.toArray [])) ∧ Rs.holds w' (.two (.cel b0 ((.string (mk s0)) :: (.int .i64 s1) :: (.int .i64 s2) :: (.int .i64 r) :: tl0) T0) (.cel b1 ((.pointer (some ⟨b0, 0, none⟩)) :: tl1) T1)) ∧ ∀ b' ∈ Rs.foot (.two (.cel b0 ((.string (mk s0)) :: (.int .i64 s1) :: (.int .i64 s2) :: (.int .i64 r) :: tl0) T0) (.cel b1 ((.pointer (some ⟨b0, 0, none⟩)) :: tl1) T1)), H' b' = none ∧ (b' ∈ Rs.foot (.two (.cel b0 ((.string (mk s0)) :: (.int .i64 s1) :: (.int .i64 s2) :: (.int .i64 s3) :: tl0) T0) (.cel b1 ((.pointer (some ⟨b0, 0, none⟩)) :: tl1) T1)) ∨ w0.heap.size ≤ b') := by
  intro H0 w0 s0 s1 s2 s3 b0 tl0 T0 b1 tl1 T1  hI hb hn r hm
  have hL := L.one hI hb hn
  have hL := hL.split 0 1 rfl rfl (.inl rfl)
  refine ctd_of Tryz.func216 rfl Tryz.ntmps216 rfl (Nat.le_of_ble_eq_true rfl) ?_
  unfold m216 at hm
  refine rg <| sv (r_load1 (hL.own 1 _ rfl) sc_247 rfl rfl) <| sv (r_nilCheck rfl) <| sv (r_fieldAddr fl_251_1 rfl) <| sv (r_load1 (hL.own 0 _ rfl) sc_3 rfl rfl) <| sv (r_sub rfl rfl) <| sv (r_nilCheck rfl) <| sv (r_fieldAddr fl_251_1 rfl) ?_
  refine wl rfl (o_store1 (i := 0) hL sc_3 rfl rfl rfl rfl rfl (c' := _ :: _ :: _ :: _ :: _) rfl fun w hL => ?_)
  refine wn ?_
  obtain rfl := ends hm
  refine rtN rfl .nil ⟨_, _, rfl, hL.ext, ?_⟩
  have hL := hL.merge 0 1 rfl rfl rfl
  exact ⟨rfl, hL.give (i := 0) rfl⟩

/-- kind.words -/
def m220  : Option (Bs × Bs × Bs × Bs × Bs) :=
  (some ([97, 110, 121], [98, 111, 111, 108], [105, 110, 116], [112, 111, 105, 110, 116], [116, 101, 120, 116]))
set_option maxHeartbeats 20000000 in
set_option maxRecDepth 100000 in
theorem c220 : ∀ {H0 : Hp} {w0 : World}   (_ : Imm H0 w0) {r : (Bs × Bs × Bs × Bs × Bs)} (_ : m220  = some r), Ct Tryz.prog 220 [] [] H0 w0 fun v H' w' => v = .agg (List.toArray [.string (mk r.1), .string (mk r.2.1), .string (mk r.2.2.1), .string (mk r.2.2.2.1), .string (mk r.2.2.2.2)]) := by
  intro H0 w0  hI r hm
  have hL := L.start hI
  refine ct_of Tryz.func220 rfl Tryz.ntmps220 rfl (Nat.le_of_ble_eq_true rfl) ?_
  unfold m220 at hm
  refine sr ?_
  refine wl rfl (o_alloc 0 (c := [_, _, _, _, _]) hL ze_317 rfl fun b0 w hL => ?_)
  refine wt <| sr <| sv (r_buildA ze_317 ay_317 rfl (.cons rfl (.cons rfl (.cons rfl (.cons rfl (.cons rfl .nil))))) (cs := [_, _, _, _, _]) rfl) ?_
  refine wl rfl (o_storek (i := 0) (vs := [_, _, _, _, _]) hL ag_317 rfl rfl rfl rfl (Nat.le_of_ble_eq_true rfl) (List.forall_mem_cons.2 ⟨rfl, (List.forall_mem_cons.2 ⟨rfl, (List.forall_mem_cons.2 ⟨rfl, (List.forall_mem_cons.2 ⟨rfl, (List.forall_mem_cons.2 ⟨rfl, List.forall_mem_nil _⟩)⟩)⟩)⟩)⟩) (c' := _ :: _ :: _ :: _ :: _ :: []) rfl fun w hL => ?_)
  refine wt <| wp_ret ?_
  obtain rfl := ends hm
  exact rt rfl (.agg (hL.own 0 _ rfl) ag_317 rfl (us := [_, _, _, _, _]) rfl rfl .nil) ⟨_, _, rfl, hL.ext, rfl⟩

/-- (*kind.reader).word -/
def m221_l1 (nx0 : Int → Int → Option (Int × Int)) (s0 : Bs) (s1 : Int) (a1 : List Bs) (v5_1 : Int) (v11_1 : Int) : Nat → Option (Int × Int)
  | 0 => none
  | k + 1 => (bif (decide ((0 : Int) < ((a1.getD (v11_1).toNat ([] : Bs)).length : Int))) then (bif (decide ((IntKind.wrap .i64 (s1 + (0 : Int))) < (s0.length : Int))) then (bif (decide (0 ≤ (IntKind.wrap .i64 (s1 + (0 : Int))) ∧ (IntKind.wrap .i64 (s1 + (0 : Int))) < (s0.length : Int))) then (bif (decide (0 ≤ (0 : Int) ∧ (0 : Int) < ((a1.getD (v11_1).toNat ([] : Bs)).length : Int))) then (bif ((bat s0 (IntKind.wrap .i64 (s1 + (0 : Int)))) == (bat (a1.getD (v11_1).toNat ([] : Bs)) 0)) then none else (nx0 (mx v5_1 (0 : Int)) (IntKind.wrap .i64 (v11_1 + (1 : Int))))) else none) else none) else none) else none)
def m221_l0 (s0 : Bs) (s1 : Int) (a1 : List Bs) : Nat → Int → Int → Option (Int × Int)
  | 0, _, _ => none
  | k + 1, v5_1, v11_1 => (bif (decide (v11_1 < (a1.length : Int))) then (bif (decide (0 ≤ v11_1 ∧ v11_1 < (a1.length : Int))) then (bif (decide (0 ≤ s1 ∧ s1 ≤ (s0.length : Int) ∧ (s0.length : Int) ≤ (s0.length : Int))) then ((m299 ((s0.take ((s0.length : Int)).toNat).drop (s1).toNat) (a1.getD (v11_1).toNat ([] : Bs))).bind fun t5 => (bif t5 then (some (v11_1, (IntKind.wrap .i64 (s1 + ((a1.getD (v11_1).toNat ([] : Bs)).length : Int))))) else (m221_l1 (m221_l0 s0 s1 a1 k) s0 s1 a1 v5_1 v11_1 FUEL ))) else none) else none) else none)
def m221 (s0 : Bs) (s1 : Int) (s2 : Int) (s3 : Int) (a1 : List Bs) : Option (Int × Int) :=
  (m221_l0 s0 s1 a1 FUEL (0 : Int) (0 : Int))
set_option maxHeartbeats 20000000 in
set_option maxRecDepth 100000 in
theorem c221 : ∀ {H0 : Hp} {w0 : World} {s0 : Bs} {s1 : Int} {s2 : Int} {s3 : Int} {a1 : List Bs} {aa1 : Option Addr} {ca1 : Nat} {b0 : Nat} {tl0 : List Value} {T0 : TypeId} (_ : Imm H0 w0) (_ : Rs.holds w0 (.cel b0 ((.string (mk s0)) :: (.int .i64 s1) :: (.int .i64 s2) :: (.int .i64 s3) :: tl0) T0)) (_ : ∀ b' ∈ Rs.foot (.cel b0 ((.string (mk s0)) :: (.int .i64 s1) :: (.int .i64 s2) :: (.int .i64 s3) :: tl0) T0), H0 b' = none) (_ : Sl cStr H0 aa1 ca1 a1) {r : (Int × Int)} (_ : m221 s0 s1 s2 s3 a1 = some r), Ct Tryz.prog 221 [.pointer (some ⟨b0, 0, none⟩), .slice aa1 (List.length a1) ca1] (Rs.foot (.cel b0 ((.string (mk s0)) :: (.int .i64 s1) :: (.int .i64 s2) :: (.int .i64 s3) :: tl0) T0)) H0 w0 fun v H' w' => (v = .int .i64 r.1) ∧ Rs.holds w' (.cel b0 ((.string (mk s0)) :: (.int .i64 r.2) :: (.int .i64 s2) :: (.int .i64 s3) :: tl0) T0) ∧ ∀ b' ∈ Rs.foot (.cel b0 ((.string (mk s0)) :: (.int .i64 r.2) :: (.int .i64 s2) :: (.int .i64 s3) :: tl0) T0), H' b' = none ∧ (b' ∈ Rs.foot (.cel b0 ((.string (mk s0)) :: (.int .i64 s1) :: (.int .i64 s2) :: (.int .i64 s3) :: tl0) T0) ∨ w0.heap.size ≤ b') := by
  intro H0 w0 s0 s1 s2 s3 a1 aa1 ca1 b0 tl0 T0  hI hb hn ha1 r hm
  have hL := L.one hI hb hn
  refine ct_of Tryz.func221 rfl Tryz.ntmps221 rfl (Nat.le_of_ble_eq_true rfl) ?_
  unfold m221 at hm
  refine sr <| sv (r_assign rfl) <| wt <| sr <| sv (r_assign rfl) <| wt <| wp_seq <| sr <| sv (r_move rfl) <| sv (r_lenS rfl Tryz.underlying30 rfl) <| sv (r_move rfl) <| wt <| wp_block <| wp_loop_fuel (k := FUEL) (fun k a w => ∃ (v5_1 : Int) (v11_1 : Int) (l : List (Nat × Value)) (H : Hp), a = fr 97 ([(0, .pointer (some ⟨b0, 0, none⟩)), (4, .int .i64 0), (5, .int .i64 v5_1), (9, .slice aa1 (List.length a1) ca1), (10, .int .i64 (a1.length : Int)), (11, .int .i64 v11_1)] ++ l) [] ∧ L (Rs.foot (.cel b0 ((.string (mk s0)) :: (.int .i64 s1) :: (.int .i64 s2) :: (.int .i64 s3) :: tl0) T0)) H0 w0 [(0, .cel b0 ((.string (mk s0)) :: (.int .i64 s1) :: (.int .i64 s2) :: (.int .i64 s3) :: tl0) T0)] H w ∧ Sl cStr H aa1 ca1 a1 ∧ (m221_l0 s0 s1 a1 k v5_1 v11_1) = some r) ⟨_, _, _, _, fr_pre _ rfl, hL.pick _ rfl, ha1, hm⟩ ?_
  rintro k0 a w ⟨v5_1, v11_1, l, H, rfl, hL, ha1, hm⟩
  cases k0 with
  | zero => rw [m221_l0.eq_1] at hm; cases hm
  | succ k0 =>
    rw [m221_l0.eq_2] at hm
    refine sr <| sv (r_lss rfl rfl) <| wt <| wp_seq ?_
    refine c_if hm rfl (fun hg1 hm => ?_) (fun hg1 hm => ?_)
    · refine wp_skip <| then_n <| wp_seq <| wp_block <| sr <| sv (r_move rfl) ?_
      obtain ⟨hg3, hm⟩ := grd hm
      obtain ⟨be2, oe2, _, hae2, hce2, rfl⟩ := Sl.at ha1 ([] : Bs) hg3
      refine sv (r_indexAddr el_30 hg3 hae2 rfl rfl) <| sv (r_loadH1 hL.imm sc_9 rfl hce2) <| sv (r_assign rfl) <| sv (r_assign rfl) <| wt <| wp_seq <| wp_seq <| rd hL [0] [_] [(0, true), (1, true), (2, true), (3, true), (4, true), (5, true), (6, true), (7, true), (8, true), (9, true), (10, true), (11, true), (12, false)] mixed rfl (by kernel_rfl) fun w hL => dv rfl (fun w hS => r_move rfl) <| dv rfl (fun w hS => r_nilCheck rfl) <| dv rfl (fun w hS => r_fieldAddr fl_251_0 rfl) <| dv rfl (fun w hS => r_fieldAddr fl_249_0 rfl) <| dv rfl (fun w hS => r_load1 hS.2.1 sc_9 rfl rfl) <| dv rfl (fun w hS => r_move rfl) <| dv rfl (fun w hS => r_nilCheck rfl) <| dv rfl (fun w hS => r_fieldAddr fl_251_0 rfl) <| dv rfl (fun w hS => r_fieldAddr fl_249_1 rfl) <| dv rfl (fun w hS => r_load1 hS.2.1 sc_3 rfl rfl) ?_
      obtain ⟨hg4, hm⟩ := grd hm
      refine dv rfl (fun w hS => r_slices Tryz.underlying9 hg4 rfl (.inl ⟨_, _, rfl, rfl⟩) (.inr ⟨rfl, rfl⟩)) <| dv rfl (fun w hS => r_move rfl) ?_
      obtain ⟨t5, ht5, hm⟩ := bnd hm
      refine dh rfl rfl (o_call0 hL fn_299 rfl (c299 hL.imm ht5) fun v H w hlet5 hL hR => ⟨Sd.of hL ((Hle.refl _).trans hlet5) [0] rfl, ?_⟩)
      replace ha1 := Sl.mono hlet5 ha1
      replace hce2 := HC.mono hlet5 hce2
      obtain rfl := hR
      refine dn <| then_n ?_
      refine c_if hm rfl (fun hg6 hm => ?_) (fun hg6 hm => ?_)
      · refine sr <| sv (r_move rfl) <| sv (r_nilCheck rfl) <| sv (r_fieldAddr fl_251_0 rfl) <| sv (r_fieldAddr fl_249_1 rfl) <| sv (r_load1 (hL.own 0 _ rfl) sc_3 rfl rfl) <| sv (r_move rfl) <| sv (r_lens rfl Tryz.underlying9 rfl) <| sv (r_add rfl rfl) <| sv (r_nilCheck rfl) <| sv (r_fieldAddr fl_251_0 rfl) <| sv (r_fieldAddr fl_249_1 rfl) ?_
        refine wl rfl (o_store1 (i := 0) hL sc_3 rfl rfl rfl rfl rfl (c' := _ :: _ :: _ :: _ :: _) rfl fun w hL => ?_)
        refine wt <| sr <| sv (r_move rfl) <| sv (r_assign rfl) <| wt <| wp_ret <| then_r <| blk_r <| then_r <| then_r <| blk_r <| then_r ?_
        obtain rfl := ends hm
        refine rt rfl (.tmp rfl .nil) ⟨_, _, rfl, hL.ext, ?_⟩
        exact ⟨rfl, hL.give (i := 0) rfl⟩
      · refine wp_skip <| then_n <| sr <| sv (r_assign rfl) <| wt <| wp_seq <| wp_block <| wp_loop_fuel (k := FUEL) (fun k a w => ∃  (l : List (Nat × Value)) (H : Hp), a = fr 97 ([(0, .pointer (some ⟨b0, 0, none⟩)), (4, .int .i64 0), (5, .int .i64 v5_1), (6, .int .i64 v11_1), (7, .string (mk (a1.getD (v11_1).toNat ([] : Bs)))), (8, .int .i64 0), (9, .slice aa1 (List.length a1) ca1), (10, .int .i64 (a1.length : Int)), (11, .int .i64 v11_1), (12, .bool (decide (v11_1 < (a1.length : Int)))), (13, .int .i64 v11_1), (14, .pointer (some ⟨be2, oe2, none⟩)), (15, .string (mk (a1.getD (v11_1).toNat ([] : Bs)))), (16, .pointer (some ⟨b0, 0, none⟩)), (17, .pointer (some ⟨b0, 0, none⟩)), (18, .pointer (some ⟨b0, 0, none⟩)), (19, .pointer (some ⟨b0, 0, none⟩)), (20, .string (mk s0)), (21, .pointer (some ⟨b0, 0, none⟩)), (22, .pointer (some ⟨b0, 0, none⟩)), (23, .pointer (some ⟨b0, 0, none⟩)), (24, .pointer (some ⟨b0, 1, none⟩)), (25, .int .i64 s1), (26, .string (mk ((s0.take ((s0.length : Int)).toNat).drop (s1).toNat))), (27, .string (mk (a1.getD (v11_1).toNat ([] : Bs)))), (28, .bool t5)] ++ l) [] ∧ L (Rs.foot (.cel b0 ((.string (mk s0)) :: (.int .i64 s1) :: (.int .i64 s2) :: (.int .i64 s3) :: tl0) T0)) H0 w0 [(0, .cel b0 ((.string (mk s0)) :: (.int .i64 s1) :: (.int .i64 s2) :: (.int .i64 s3) :: tl0) T0)] H w ∧ Sl cStr H aa1 ca1 a1 ∧ HC H be2 oe2 [.string (mk (a1.getD (v11_1).toNat ([] : Bs)))] ∧ (m221_l1 (m221_l0 s0 s1 a1 k0) s0 s1 a1 v5_1 v11_1 k ) = some r) ⟨_, _, fr_pre _ rfl, hL.pick _ rfl, ha1, hce2, hm⟩ ?_
        rintro k1 a w ⟨l, H, rfl, hL, ha1, hce2, hm⟩
        cases k1 with
        | zero => rw [m221_l1.eq_1] at hm; cases hm
        | succ k1 =>
          rw [m221_l1.eq_2] at hm
          refine wp_seq <| wp_seq <| rd hL [0] [_] [(0, true), (1, true), (2, true), (3, true), (4, true), (5, true), (6, true), (7, true), (8, true), (9, true), (10, true), (11, true), (12, true), (13, true), (14, true), (15, true), (16, true), (17, true), (18, true), (19, true), (20, true), (21, true), (22, true), (23, true), (24, true), (25, true), (26, true), (27, true), (28, true), (29, true), (30, true), (31, true), (32, true), (33, true), (34, true), (35, true), (36, true), (37, true), (38, true)] mixed rfl (by kernel_rfl) fun w hL => dv rfl (fun w hS => r_move rfl) <| dv rfl (fun w hS => r_move rfl) <| dv rfl (fun w hS => r_lens rfl Tryz.underlying9 rfl) <| dv rfl (fun w hS => r_lss rfl rfl) <| dv rfl (fun w hS => r_move rfl) ?_
          refine m_if hm (fun hg7 hm => ?_) (fun hg7 hm => ?_)
          · refine dvT rfl rfl rfl rfl hg7 (fun w hS => r_move rfl) <| dvT rfl rfl rfl rfl hg7 (fun w hS => r_nilCheck rfl) <| dvT rfl rfl rfl rfl hg7 (fun w hS => r_fieldAddr fl_251_0 rfl) <| dvT rfl rfl rfl rfl hg7 (fun w hS => r_fieldAddr fl_249_1 rfl) <| dvT rfl rfl rfl rfl hg7 (fun w hS => r_load1 hS.2.1 sc_3 rfl rfl) <| dvT rfl rfl rfl rfl hg7 (fun w hS => r_move rfl) <| dvT rfl rfl rfl rfl hg7 (fun w hS => r_add rfl rfl) <| dvT rfl rfl rfl rfl hg7 (fun w hS => r_move rfl) <| dvT rfl rfl rfl rfl hg7 (fun w hS => r_nilCheck rfl) <| dvT rfl rfl rfl rfl hg7 (fun w hS => r_fieldAddr fl_251_0 rfl) <| dvT rfl rfl rfl rfl hg7 (fun w hS => r_fieldAddr fl_249_0 rfl) <| dvT rfl rfl rfl rfl hg7 (fun w hS => r_load1 hS.2.1 sc_9 rfl rfl) <| dvT rfl rfl rfl rfl hg7 (fun w hS => r_lens rfl Tryz.underlying9 rfl) <| dvT rfl rfl rfl rfl hg7 (fun w hS => r_lss rfl rfl) <| dv rfl (fun w hS => r_pickT hg7 rfl rfl) <| dv rfl (fun w hS => r_move rfl) ?_
            refine m_if hm (fun hg8 hm => ?_) (fun hg8 hm => ?_)
            · refine dvT rfl rfl rfl rfl hg8 (fun w hS => r_move rfl) <| dvT rfl rfl rfl rfl hg8 (fun w hS => r_nilCheck rfl) <| dvT rfl rfl rfl rfl hg8 (fun w hS => r_fieldAddr fl_251_0 rfl) <| dvT rfl rfl rfl rfl hg8 (fun w hS => r_fieldAddr fl_249_0 rfl) <| dvT rfl rfl rfl rfl hg8 (fun w hS => r_load1 hS.2.1 sc_9 rfl rfl) <| dvT rfl rfl rfl rfl hg8 (fun w hS => r_move rfl) <| dvT rfl rfl rfl rfl hg8 (fun w hS => r_nilCheck rfl) <| dvT rfl rfl rfl rfl hg8 (fun w hS => r_fieldAddr fl_251_0 rfl) <| dvT rfl rfl rfl rfl hg8 (fun w hS => r_fieldAddr fl_249_1 rfl) <| dvT rfl rfl rfl rfl hg8 (fun w hS => r_load1 hS.2.1 sc_3 rfl rfl) <| dvT rfl rfl rfl rfl hg8 (fun w hS => r_move rfl) <| dvT rfl rfl rfl rfl hg8 (fun w hS => r_add rfl rfl) ?_
              obtain ⟨hg9, hm⟩ := grd hm
              refine dvT rfl rfl rfl rfl hg8 (fun w hS => r_index Tryz.underlying9 hg9 rfl rfl) <| dvT rfl rfl rfl rfl hg8 (fun w hS => r_move rfl) <| dvT rfl rfl rfl rfl hg8 (fun w hS => r_move rfl) ?_
              obtain ⟨hg10, hm⟩ := grd hm
              refine dvT rfl rfl rfl rfl hg8 (fun w hS => r_index Tryz.underlying9 hg10 rfl rfl) <| dvT rfl rfl rfl rfl hg8 (fun w hS => r_eqi rfl rfl) <| dv rfl (fun w hS => r_pickT hg8 rfl rfl) <| dn <| then_n ?_
              refine c_if hm rfl (fun hg11 hm => ?_) (fun hg11 hm => ?_)
              · cases hm
              · refine wp_exit <| then_e <| then_e <| blk_e <| then_n <| rg <| sv (r_move rfl) <| sv (r_move rfl) <| sv (r_max rfl rfl) <| sv (r_assign rfl) <| wn <| blk_n <| then_n <| rg <| sv (r_add rfl rfl) <| sv (r_move rfl) <| wt ?_
                exact ⟨k0, Nat.lt_succ_self k0, _, _, _, _, fr_pre _ rfl, hL.pick _ rfl, ha1, hm⟩
            · cases hm
          · cases hm
    · cases hm

/-- (*kind.reader).single -/
def S153 (F : Bs → Int → Int → Int → Option (Ty × Int × Int × Int)) : Prop := ∀ {H0 : Hp} {w0 : World} {s0 : Bs} {s1 : Int} {s2 : Int} {s3 : Int} {b0 : Nat} {tl0 : List Value} {T0 : TypeId} (_ : Imm H0 w0) (_ : Rs.holds w0 (.cel b0 ((.string (mk s0)) :: (.int .i64 s1) :: (.int .i64 s2) :: (.int .i64 s3) :: tl0) T0)) (_ : ∀ b' ∈ Rs.foot (.cel b0 ((.string (mk s0)) :: (.int .i64 s1) :: (.int .i64 s2) :: (.int .i64 s3) :: tl0) T0), H0 b' = none) {r : (Ty × Int × Int × Int)} (_ : F s0 s1 s2 s3 = some r), Ct Tryz.prog 153 [.pointer (some ⟨b0, 0, none⟩)] (Rs.foot (.cel b0 ((.string (mk s0)) :: (.int .i64 s1) :: (.int .i64 s2) :: (.int .i64 s3) :: tl0) T0)) H0 w0 fun v H' w' => ∃ x : Value, (v = x ∧ TyR H' (x) r.1) ∧ Rs.holds w' (.cel b0 ((.string (mk s0)) :: (.int .i64 r.2.1) :: (.int .i64 r.2.2.1) :: (.int .i64 r.2.2.2) :: tl0) T0) ∧ ∀ b' ∈ Rs.foot (.cel b0 ((.string (mk s0)) :: (.int .i64 r.2.1) :: (.int .i64 r.2.2.1) :: (.int .i64 r.2.2.2) :: tl0) T0), H' b' = none ∧ (b' ∈ Rs.foot (.cel b0 ((.string (mk s0)) :: (.int .i64 s1) :: (.int .i64 s2) :: (.int .i64 s3) :: tl0) T0) ∨ w0.heap.size ≤ b')
def m222 (f153 : Bs → Int → Int → Int → Option (Ty × Int × Int × Int)) (s0 : Bs) (s1 : Int) (s2 : Int) (s3 : Int) (a1 : Int) : Option (Ty × Int × Int × Int) :=
  ((m297 s0 s1 s2 (40 : Int)).bind fun t1 => ((f153 s0 t1 s2 s3).bind fun t2 => ((m297 s0 t2.2.1 t2.2.2.1 (41 : Int)).bind fun t3 => (some ((Ty.mk a1 ([t2.1] : List Ty) ([] : List Bs) ([] : List Bool)), t3, t2.2.2.1, t2.2.2.2)))))
set_option maxHeartbeats 20000000 in
set_option maxRecDepth 100000 in
theorem c222 {f153 : Bs → Int → Int → Int → Option (Ty × Int × Int × Int)} (h153 : S153 f153) : ∀ {H0 : Hp} {w0 : World} {s0 : Bs} {s1 : Int} {s2 : Int} {s3 : Int} {a1 : Int} {b0 : Nat} {tl0 : List Value} {T0 : TypeId} (_ : Imm H0 w0) (_ : Rs.holds w0 (.cel b0 ((.string (mk s0)) :: (.int .i64 s1) :: (.int .i64 s2) :: (.int .i64 s3) :: tl0) T0)) (_ : ∀ b' ∈ Rs.foot (.cel b0 ((.string (mk s0)) :: (.int .i64 s1) :: (.int .i64 s2) :: (.int .i64 s3) :: tl0) T0), H0 b' = none) {r : (Ty × Int × Int × Int)} (_ : m222 f153 s0 s1 s2 s3 a1 = some r), Ct Tryz.prog 222 [.pointer (some ⟨b0, 0, none⟩), .int .i64 a1] (Rs.foot (.cel b0 ((.string (mk s0)) :: (.int .i64 s1) :: (.int .i64 s2) :: (.int .i64 s3) :: tl0) T0)) H0 w0 fun v H' w' => ∃ x : Value, (v = x ∧ TyR H' (x) r.1) ∧ Rs.holds w' (.cel b0 ((.string (mk s0)) :: (.int .i64 r.2.1) :: (.int .i64 r.2.2.1) :: (.int .i64 r.2.2.2) :: tl0) T0) ∧ ∀ b' ∈ Rs.foot (.cel b0 ((.string (mk s0)) :: (.int .i64 r.2.1) :: (.int .i64 r.2.2.1) :: (.int .i64 r.2.2.2) :: tl0) T0), H' b' = none ∧ (b' ∈ Rs.foot (.cel b0 ((.string (mk s0)) :: (.int .i64 s1) :: (.int .i64 s2) :: (.int .i64 s3) :: tl0) T0) ∨ w0.heap.size ≤ b') := by
  intro H0 w0 s0 s1 s2 s3 a1 b0 tl0 T0  hI hb hn r hm
  have hL := L.one hI hb hn
  refine ct_of Tryz.func222 rfl Tryz.ntmps222 rfl (Nat.le_of_ble_eq_true rfl) ?_
  unfold m222 at hm
  refine sr <| sv (r_assign rfl) <| wt <| sr <| sv (r_move rfl) <| sv (r_nilCheck rfl) <| sv (r_fieldAddr fl_251_0 rfl) ?_
  obtain ⟨t1, ht1, hm⟩ := bnd hm
  refine wl rfl (o_call1 0 hL fn_297 rfl rfl (c297 hL.imm (hL.own 0 _ rfl) (fun b' hb' => (hL.non 0 _ rfl b' hb').1) ht1) fun v H w hlet1 hL hR => ?_)
  obtain rfl := hR
  refine wt <| sr <| sv (r_move rfl) ?_
  obtain ⟨t2, ht2, hm⟩ := bnd hm
  refine wl rfl (o_callE 0 hL fn_153 rfl rfl (h153 hL.imm (hL.own 0 _ rfl) (fun b' hb' => (hL.non 0 _ rfl b' hb').1) ht2) fun pt2r0_0 v H w hlet2 hL hR => ?_)
  try dsimp only at hL hR
  obtain ⟨hv_, ht2r0_0⟩ := hR
  subst v
  refine sv (r_assign rfl) <| wt <| sr <| sv (r_move rfl) <| sv (r_nilCheck rfl) <| sv (r_fieldAddr fl_251_0 rfl) ?_
  obtain ⟨t3, ht3, hm⟩ := bnd hm
  refine wl rfl (o_call1 0 hL fn_297 rfl rfl (c297 hL.imm (hL.own 0 _ rfl) (fun b' hb' => (hL.non 0 _ rfl b' hb').1) ht3) fun v H w hlet3 hL hR => ?_)
  replace ht2r0_0 := TyR.mono hlet3 ht2r0_0
  obtain rfl := hR
  refine wt <| sr <| sv (r_move rfl) <| sv (r_move rfl) ?_
  have hww4 : LC cTy hL.hp [pt2r0_0] ([t2.1] : List Ty) := (LC.cons (K := cTy) (cs := [pt2r0_0]) ⟨_, rfl, ht2r0_0⟩ LC.nil)
  refine wl rfl (o_buildSlice (C := cTy) 1 hL el_320 ze_39 rfl (.cons (cells_one (TyR.one ht2r0_0)) .nil) rfl rfl rfl rfl hww4 fun gw4 w hL => ?_)
  refine sv (r_build ze_322 st_322 rfl (.cons rfl (.cons rfl .nil)) (cs := [_, _, _, _]) rfl) ?_
  refine wl rfl (o_box 2 (c := [_, _, _, _]) hL rfl rfl fun b2 w hL => ?_)
  refine sv (r_assign rfl) <| wt <| wp_ret ?_
  obtain ⟨H, hlez5, hL, hsz5⟩ := hL.settle (i := 1) (K := cTy) rfl hww4
  obtain ⟨H, hlez6, hL, hbz6⟩ := hL.settleC 2 rfl
  replace hsz5 := Sl.mono hlez6 hsz5
  have htz6 := TyR.of hbz6 hsz5 Sl.nil Sl.nil
  obtain rfl := ends hm
  refine rt rfl (.tmp rfl .nil) ⟨_, _, rfl, hL.ext, ?_⟩
  exact ⟨(.pointer (some ⟨b2, 0, none⟩)), ⟨rfl, htz6⟩, hL.give (i := 0) rfl⟩

/-- (*kind.reader).read -/
def m153o (f153 : Bs → Int → Int → Int → Option (Ty × Int × Int × Int)) (s0 : Bs) (s1 : Int) (s2 : Int) (s3 : Int) : Option (Ty × Int × Int × Int) :=
  ((m154 s0 s1 s2).bind fun t1 => (bif t1 then none else (bif (s3 == (8 : Int)) then none else ((m217 s0 s1 s2 (91 : Int)).bind fun t4 => (bif t4.1 then none else ((m217 s0 t4.2 s2 (123 : Int)).bind fun t6 => (bif t6.1 then none else (m220.bind fun t8 => (bif (decide (([t8.1, t8.2.1, t8.2.2.1, t8.2.2.2.1, t8.2.2.2.2] : List Bs).length + ([[108, 105, 115, 116], [109, 97, 112]] : List Bs).length ≤ LIM)) then ((m221 s0 t6.2 s2 (IntKind.wrap .i64 (s3 + (1 : Int))) (([t8.1, t8.2.1, t8.2.2.1, t8.2.2.2.1, t8.2.2.2.2] : List Bs) ++ ([[108, 105, 115, 116], [109, 97, 112]] : List Bs))).bind fun t14 => (bif (decide (t14.1 < (5 : Int))) then ((m216 s0 t14.2 s2 (IntKind.wrap .i64 (s3 + (1 : Int)))).bind fun t16 => (some ((Ty.mk t14.1 ([] : List Ty) ([] : List Bs) ([] : List Bool)), t14.2, s2, t16))) else ((m222 f153 s0 t14.2 s2 (IntKind.wrap .i64 (s3 + (1 : Int))) t14.1).bind fun t18 => ((m216 s0 t18.2.1 t18.2.2.1 t18.2.2.2).bind fun t19 => (some (t18.1, t18.2.1, t18.2.2.1, t19)))))) else none)))))))))
set_option maxHeartbeats 20000000 in
set_option maxRecDepth 100000 in
theorem c153o {f153 : Bs → Int → Int → Int → Option (Ty × Int × Int × Int)} (h153 : S153 f153) : S153 (m153o f153) := by
  unfold S153
  intro H0 w0 s0 s1 s2 s3 b0 tl0 T0  hI hb hn r hm
  have hL := L.one hI hb hn
  refine ct_ofD Tryz.func153 rfl Tryz.ntmps153 rfl (Nat.le_of_ble_eq_true rfl) ?_
  unfold m153o at hm
  refine sr ?_
  refine wl rfl (o_box 1 (c := [_]) hL rfl rfl fun b1 w hL => ?_)
  refine sv (r_assign rfl) <| wt <| wp_seq <| sr <| sv (r_load1 (hL.own 1 _ rfl) sc_247 rfl rfl) <| sv (r_nilCheck rfl) <| sv (r_fieldAddr fl_251_0 rfl) ?_
  obtain ⟨t1, ht1, hm⟩ := bnd hm
  refine wl rfl (o_call0 hL fn_154 rfl (c154 hL.imm (hL.own 0 _ rfl) (fun b' hb' => (hL.non 0 _ rfl b' hb').1) ht1) fun v H w hlet1 hL hR => ?_)
  obtain rfl := hR
  refine wt ?_
  refine c_if hm rfl (fun hg2 hm => ?_) (fun hg2 hm => ?_)
  · cases hm
  · refine wp_skip <| then_n <| wp_seq <| sr <| sv (r_load1 (hL.own 1 _ rfl) sc_247 rfl rfl) <| sv (r_nilCheck rfl) <| sv (r_fieldAddr fl_251_1 rfl) <| sv (r_load1 (hL.own 0 _ rfl) sc_3 rfl rfl) <| sv (r_eqi rfl rfl) <| wt ?_
    refine c_if hm rfl (fun hg3 hm => ?_) (fun hg3 hm => ?_)
    · cases hm
    · refine wp_skip <| then_n <| sr <| sv (r_load1 (hL.own 1 _ rfl) sc_247 rfl rfl) <| sv (r_nilCheck rfl) <| sv (r_fieldAddr fl_251_1 rfl) <| sv (r_load1 (hL.own 0 _ rfl) sc_3 rfl rfl) <| sv (r_add rfl rfl) <| sv (r_nilCheck rfl) <| sv (r_fieldAddr fl_251_1 rfl) ?_
      refine wl rfl (o_store1 (i := 0) hL sc_3 rfl rfl rfl rfl rfl (c' := _ :: _ :: _ :: _ :: _) rfl fun w hL => ?_)
      refine wt <| sr <| sv (r_makeFunc rfl) ?_
      refine wl rfl (o_defer rfl rfl ?_)
      refine wt <| wp_seq <| wp_block <| sr <| sv (r_load1 (hL.own 1 _ rfl) sc_247 rfl rfl) <| sv (r_nilCheck rfl) <| sv (r_fieldAddr fl_251_0 rfl) ?_
      obtain ⟨t4, ht4, hm⟩ := bnd hm
      refine wl rfl (o_call1 0 hL fn_217 rfl rfl (c217 hL.imm (hL.own 0 _ rfl) (fun b' hb' => (hL.non 0 _ rfl b' hb').1) ht4) fun v H w hlet4 hL hR => ?_)
      obtain rfl := hR
      refine sv (r_assign rfl) <| wt ?_
      refine c_if hm rfl (fun hg5 hm => ?_) (fun hg5 hm => ?_)
      · cases hm
      · refine sr <| sv (r_load1 (hL.own 1 _ rfl) sc_247 rfl rfl) <| sv (r_nilCheck rfl) <| sv (r_fieldAddr fl_251_0 rfl) ?_
        obtain ⟨t6, ht6, hm⟩ := bnd hm
        refine wl rfl (o_call1 0 hL fn_217 rfl rfl (c217 hL.imm (hL.own 0 _ rfl) (fun b' hb' => (hL.non 0 _ rfl b' hb').1) ht6) fun v H w hlet6 hL hR => ?_)
        obtain rfl := hR
        refine sv (r_assign rfl) <| wt ?_
        refine c_if hm rfl (fun hg7 hm => ?_) (fun hg7 hm => ?_)
        · cases hm
        · refine wp_skip <| blk_n <| then_n <| sr ?_
          obtain ⟨t8, ht8, hm⟩ := bnd hm
          refine wl rfl (o_call0 hL fn_220 rfl (c220 hL.imm ht8) fun v H w hlet8 hL hR => ?_)
          obtain rfl := hR
          refine wl rfl (o_alloc 2 (c := [_, _, _, _, _]) hL ze_317 rfl fun b2 w hL => ?_)
          refine wl rfl (o_storek (i := 2) (vs := [_, _, _, _, _]) hL ag_317 rfl rfl rfl rfl (Nat.le_of_ble_eq_true rfl) (List.forall_mem_cons.2 ⟨rfl, (List.forall_mem_cons.2 ⟨rfl, (List.forall_mem_cons.2 ⟨rfl, (List.forall_mem_cons.2 ⟨rfl, (List.forall_mem_cons.2 ⟨rfl, List.forall_mem_nil _⟩)⟩)⟩)⟩)⟩) (c' := _ :: _ :: _ :: _ :: _ :: []) rfl fun w hL => ?_)
          refine wt <| wp_seq <| rd hL [1] [_] [(0, true), (1, true), (2, false), (3, false), (4, false), (5, true)] mixed rfl (by kernel_rfl) fun w hL => dv rfl (fun w hS => r_load1 hS.2.1 sc_247 rfl rfl) <| dv rfl (fun w hS => r_sliceArr Tryz.underlying317 sc_9.inf rfl) ?_
          have hww9 : LC cStr hL.hp [.string (mk [108, 105, 115, 116]), .string (mk [109, 97, 112])] ([[108, 105, 115, 116], [109, 97, 112]] : List Bs) := (LC.cons (K := cStr) (cs := [.string (mk [108, 105, 115, 116])]) rfl (LC.cons (K := cStr) (cs := [.string (mk [109, 97, 112])]) rfl LC.nil))
          refine dh rfl rfl (o_buildSlice (C := cStr) 3 hL el_30 ze_9 rfl (.cons rfl (.cons rfl .nil)) rfl rfl rfl rfl hww9 fun gw9 w hL => ⟨Sd.of hL (Hle.refl _) [1] rfl, ?_⟩)
          obtain ⟨H, hlez10, hL, hbz10⟩ := hL.settleC 2 rfl
          replace hww9 := LC.mono hlez10 hww9
          have hsz10 : Sl cStr H (some ⟨b2, 0, none⟩) 5 ([t8.1, t8.2.1, t8.2.2.1, t8.2.2.2.1, t8.2.2.2.2] : List Bs) := Sl.ofHC hbz10 (LC.cons (K := cStr) (cs := [.string (mk t8.1)]) rfl (LC.cons (K := cStr) (cs := [.string (mk t8.2.1)]) rfl (LC.cons (K := cStr) (cs := [.string (mk t8.2.2.1)]) rfl (LC.cons (K := cStr) (cs := [.string (mk t8.2.2.2.1)]) rfl (LC.cons (K := cStr) (cs := [.string (mk t8.2.2.2.2)]) rfl LC.nil))))) (Nat.le_refl _)
          obtain ⟨hg11, hm⟩ := grd hm
          refine dh rfl rfl (o_append3 (C := cStr) 4 3 rfl hL el_30 rfl rfl hsz10 (.inl rfl) rfl hww9 rfl hg11 fun gw12 cw12 zw12 w hzw12 hL => ⟨Sd.of hL ((Hle.refl _).trans hlez10) [1] rfl, ?_⟩)
          have hww12 := LC.append hzw12 hww9
          obtain ⟨H, hlez13, hL, hsz13⟩ := hL.settle (i := 4) (K := cStr) rfl hww12
          obtain ⟨t14, ht14, hm⟩ := bnd hm
          refine dh rfl rfl (o_call1 0 hL fn_221 rfl rfl (c221 hL.imm (hL.own 0 _ rfl) (fun b' hb' => (hL.non 0 _ rfl b' hb').1) hsz13 ht14) fun v H w hlet14 hL hR => ⟨Sd.of hL ((((Hle.refl _).trans hlez10).trans hlez13).trans hlet14) [1] rfl, ?_⟩)
          obtain rfl := hR
          refine dv rfl (fun w hS => r_assign rfl) <| dn <| then_n <| wp_seq <| sr <| sv (r_move rfl) <| sv (r_lss rfl rfl) <| wt ?_
          refine c_if hm rfl (fun hg15 hm => ?_) (fun hg15 hm => ?_)
          · refine sr <| sv (r_move rfl) <| sv (r_build ze_322 st_322 rfl (.cons rfl .nil) (cs := [_, _, _, _]) rfl) ?_
            refine wl rfl (o_box 5 (c := [_, _, _, _]) hL rfl rfl fun b5 w hL => ?_)
            refine sv (r_assign rfl) <| wt <| wp_ret <| then_r ?_
            obtain ⟨t16, ht16, hm⟩ := bnd hm
            have hL := hL.merge 0 1 rfl rfl rfl
            refine d_call1 0 hL fn_216 rfl (c216 hL.imm (hL.own 0 _ rfl) (fun b' hb' => (hL.non 0 _ rfl b' hb').1) ht16) fun v H w hlet16 hL hR => ?_
            obtain rfl := hR
            have hL := hL.split 0 1 rfl rfl (.inr rfl)
            have hL := hL.pick [(0, .cel b0 ((.string (mk s0)) :: (.int .i64 t14.2) :: (.int .i64 s2) :: (.int .i64 t16) :: tl0) T0), (1, .cel b1 ((.pointer (some ⟨b0, 0, none⟩)) :: []) 247), (2, .gone), (3, .row (.slice (some ⟨gw9, 0, none⟩) (List.length ([[108, 105, 115, 116], [109, 97, 112]] : List Bs)) 2) 9 1 (List.length ([[108, 105, 115, 116], [109, 97, 112]] : List Bs)) [.string (mk [108, 105, 115, 116]), .string (mk [109, 97, 112])]), (4, .gone), (5, .cel b5 ((.int .i64 t14.1) :: (.slice none 0 0) :: (.slice none 0 0) :: (.slice none 0 0) :: []) 322)] rfl
            obtain ⟨H, hlez17, hL, hbz17⟩ := hL.settleC 5 rfl
            have htz17 := TyR.of hbz17 Sl.nil Sl.nil Sl.nil
            obtain rfl := ends hm
            refine rtL rfl (.tmp rfl .nil) ⟨_, _, rfl, hL.ext, ?_⟩
            exact ⟨(.pointer (some ⟨b5, 0, none⟩)), ⟨rfl, htz17⟩, hL.give (i := 0) rfl⟩
          · refine wp_skip <| then_n <| sr <| sv (r_load1 (hL.own 1 _ rfl) sc_247 rfl rfl) <| sv (r_move rfl) ?_
            obtain ⟨t18, ht18, hm⟩ := bnd hm
            refine wl rfl (o_callE 0 hL fn_222 rfl rfl (c222 h153 hL.imm (hL.own 0 _ rfl) (fun b' hb' => (hL.non 0 _ rfl b' hb').1) ht18) fun pt18r0_0 v H w hlet18 hL hR => ?_)
            try dsimp only at hL hR
            obtain ⟨hv_, ht18r0_0⟩ := hR
            subst v
            refine sv (r_assign rfl) <| wt <| wp_ret ?_
            obtain ⟨t19, ht19, hm⟩ := bnd hm
            have hL := hL.merge 0 1 rfl rfl rfl
            refine d_call1 0 hL fn_216 rfl (c216 hL.imm (hL.own 0 _ rfl) (fun b' hb' => (hL.non 0 _ rfl b' hb').1) ht19) fun v H w hlet19 hL hR => ?_
            replace ht18r0_0 := TyR.mono hlet19 ht18r0_0
            obtain rfl := hR
            have hL := hL.split 0 1 rfl rfl (.inr rfl)
            have hL := hL.pick [(0, .cel b0 ((.string (mk s0)) :: (.int .i64 t18.2.1) :: (.int .i64 t18.2.2.1) :: (.int .i64 t19) :: tl0) T0), (1, .cel b1 ((.pointer (some ⟨b0, 0, none⟩)) :: []) 247), (2, .gone), (3, .row (.slice (some ⟨gw9, 0, none⟩) (List.length ([[108, 105, 115, 116], [109, 97, 112]] : List Bs)) 2) 9 1 (List.length ([[108, 105, 115, 116], [109, 97, 112]] : List Bs)) [.string (mk [108, 105, 115, 116]), .string (mk [109, 97, 112])]), (4, .gone)] rfl
            obtain rfl := ends hm
            refine rtL rfl (.tmp rfl .nil) ⟨_, _, rfl, hL.ext, ?_⟩
            exact ⟨pt18r0_0, ⟨rfl, ht18r0_0⟩, hL.give (i := 0) rfl⟩
def m153n : Nat → Bs → Int → Int → Int → Option (Ty × Int × Int × Int)
  | 0 => fun _ _ _ _ => none
  | n + 1 => m153o (m153n n)
theorem c153n (n : Nat) : S153 (m153n n) := by
  induction n with
  | zero =>
    unfold S153
    intro H0 w0 s0 s1 s2 s3 b0 tl0 T0  hI hb hn r hm
    rw [m153n.eq_1] at hm
    cases hm
  | succ n ih => exact c153o ih
def m153 : Bs → Int → Int → Int → Option (Ty × Int × Int × Int) := m153n FUEL
theorem c153 : S153 m153 := c153n FUEL

/-- kind.Parse -/
def m75 (a0 : Bs) : Option (Ty × Int × Int) :=
  (bif (decide ((4096 : Int) < (a0.length : Int))) then none else ((m153 a0 (0 : Int) (0 : Int) (0 : Int)).bind fun t2 => ((m154 a0 t2.2.1 t2.2.2.1).bind fun t3 => (bif (!t3) then (bif (decide (t2.2.1 < (a0.length : Int))) then none else ((m154 a0 t2.2.1 t2.2.2.1).bind fun t6 => (bif t6 then none else (some (t2.1, (0 : Int), (0 : Int)))))) else none))))
set_option maxHeartbeats 20000000 in
set_option maxRecDepth 100000 in
theorem c75 : ∀ {H0 : Hp} {w0 : World} {a0 : Bs}  (_ : Imm H0 w0) {r : (Ty × Int × Int)} (_ : m75 a0 = some r), Ct Tryz.prog 75 [.string (mk a0)] [] H0 w0 fun v H' w' => ∃ (pr0_0 : Value), v = .tuple (List.toArray [pr0_0, .int .i64 r.2.1, .int .i64 r.2.2]) ∧ TyR H' pr0_0 r.1 := by
  intro H0 w0 a0  hI r hm
  have hL := L.start hI
  refine ct_of Tryz.func75 rfl Tryz.ntmps75 rfl (Nat.le_of_ble_eq_true rfl) ?_
  unfold m75 at hm
  refine sr <| sv (r_assign rfl) <| sv (r_assign rfl) <| sv (r_assign rfl) <| wt <| wp_seq <| sr <| sv (r_move rfl) <| sv (r_lens rfl Tryz.underlying9 rfl) <| sv (r_gtr rfl rfl) <| wt ?_
  refine c_if hm rfl (fun hg1 hm => ?_) (fun hg1 hm => ?_)
  · cases hm
  · refine wp_skip <| then_n <| sr <| sv (r_move rfl) <| sv (r_build ze_249 st_249 rfl (.cons rfl .nil) (cs := [_, _, _]) rfl) <| sv (r_build ze_251 st_251 rfl (.cons rfl .nil) (cs := [_, _, _, _]) rfl) ?_
    refine wl rfl (o_box 0 (c := [_, _, _, _]) hL rfl rfl fun b0 w hL => ?_)
    refine sv (r_assign rfl) <| wt <| sr <| sv (r_move rfl) ?_
    obtain ⟨t2, ht2, hm⟩ := bnd hm
    refine wl rfl (o_callE 0 hL fn_153 rfl rfl (c153 hL.imm (hL.own 0 _ rfl) (fun b' hb' => (hL.non 0 _ rfl b' hb').1) ht2) fun pt2r0_0 v H w hlet2 hL hR => ?_)
    try dsimp only at hL hR
    obtain ⟨hv_, ht2r0_0⟩ := hR
    subst v
    refine sv (r_assign rfl) <| wt <| wp_seq <| sr <| sv (r_move rfl) <| sv (r_nilCheck rfl) <| sv (r_fieldAddr fl_251_0 rfl) ?_
    obtain ⟨t3, ht3, hm⟩ := bnd hm
    refine wl rfl (o_call0 hL fn_154 rfl (c154 hL.imm (hL.own 0 _ rfl) (fun b' hb' => (hL.non 0 _ rfl b' hb').1) ht3) fun v H w hlet3 hL hR => ?_)
    replace ht2r0_0 := TyR.mono hlet3 ht2r0_0
    obtain rfl := hR
    refine sv (r_not rfl) <| sv (r_move rfl) ?_
    refine m_if hm (fun hg4 hm => ?_) (fun hg4 hm => ?_)
    · refine wlT rfl rfl rfl rfl hg4 (o_val (r_move rfl) ?_)
      refine wlT rfl rfl rfl rfl hg4 (o_val (r_nilCheck rfl) ?_)
      refine wlT rfl rfl rfl rfl hg4 (o_val (r_fieldAddr fl_251_0 rfl) ?_)
      refine wlT rfl rfl rfl rfl hg4 (o_val (r_fieldAddr fl_249_1 rfl) ?_)
      refine wlT rfl rfl rfl rfl hg4 (o_val (r_load1 (hL.own 0 _ rfl) sc_3 rfl rfl) ?_)
      refine wlT rfl rfl rfl rfl hg4 (o_val (r_move rfl) ?_)
      refine wlT rfl rfl rfl rfl hg4 (o_val (r_lens rfl Tryz.underlying9 rfl) ?_)
      refine wlT rfl rfl rfl rfl hg4 (o_val (r_lss rfl rfl) ?_)
      refine sv (r_pickT hg4 rfl rfl) <| wt ?_
      refine c_if hm rfl (fun hg5 hm => ?_) (fun hg5 hm => ?_)
      · cases hm
      · refine wp_skip <| then_n <| wp_seq <| sr <| sv (r_move rfl) <| sv (r_nilCheck rfl) <| sv (r_fieldAddr fl_251_0 rfl) ?_
        obtain ⟨t6, ht6, hm⟩ := bnd hm
        refine wl rfl (o_call0 hL fn_154 rfl (c154 hL.imm (hL.own 0 _ rfl) (fun b' hb' => (hL.non 0 _ rfl b' hb').1) ht6) fun v H w hlet6 hL hR => ?_)
        replace ht2r0_0 := TyR.mono hlet6 ht2r0_0
        obtain rfl := hR
        refine wt ?_
        refine c_if hm rfl (fun hg7 hm => ?_) (fun hg7 hm => ?_)
        · cases hm
        · refine wp_skip <| then_n <| sr <| sv (r_move rfl) <| sv (r_assign rfl) <| sv (r_assign rfl) <| sv (r_assign rfl) <| wt <| wp_ret ?_
          obtain rfl := ends hm
          exact rt rfl (.tmp rfl (.tmp rfl (.tmp rfl .nil))) ⟨_, _, rfl, hL.ext, ⟨_, rfl, ht2r0_0⟩⟩
    · cases hm

end Go.Proofs.YtcjphpenelnohaaGreatDoor
/- Gf: by tools/gen.py -/
set_option linter.unusedVariables false
namespace Go.Proofs.YtcjphpenelnohaaGreatDoor
open Go.RowKit

/-- kind.all -/
def S223 (F : Ty → Option Bs) : Prop := ∀ {H0 : Hp} {w0 : World} {a0 : Ty} {pa0 : Value}  (_ : Imm H0 w0) (_ : TyR H0 pa0 a0) {r : Bs} (_ : F a0 = some r), Ct Tryz.prog 223 [pa0] [] H0 w0 fun v H' w' => v = .string (mk r)
def m300_l0 (f223 : Ty → Option Bs) (a0 : List Ty) : Nat → Int → List Bs → Option (List Bs)
  | 0, _, _ => none
  | k + 1, v8_1, u0R_1 => (bif (decide (v8_1 < (a0.length : Int))) then (bif (decide (0 ≤ v8_1 ∧ v8_1 < (a0.length : Int))) then ((f223 (a0.getD (v8_1).toNat Ty.no)).bind fun t4 => (bif (decide (u0R_1.length + ([t4] : List Bs).length ≤ LIM)) then (m300_l0 f223 a0 k (IntKind.wrap .i64 (v8_1 + (1 : Int))) (u0R_1 ++ ([t4] : List Bs))) else none)) else none) else (some (u0R_1)))
def m300 (f223 : Ty → Option Bs) (a0 : List Ty) : Option (List Bs) :=
  (m300_l0 f223 a0 FUEL (0 : Int) ([] : List Bs))
set_option maxHeartbeats 20000000 in
set_option maxRecDepth 100000 in
theorem c300 {f223 : Ty → Option Bs} (h223 : S223 f223) : ∀ {H0 : Hp} {w0 : World} {a0 : List Ty} {aa0 : Option Addr} {ca0 : Nat}  (_ : Imm H0 w0) (_ : Sl cTy H0 aa0 ca0 a0) {r : List Bs} (_ : m300 f223 a0 = some r), Ct Tryz.prog 300 [.slice aa0 (List.length a0) ca0] [] H0 w0 fun v H' w' => ∃ x : (Option Addr) × Nat × (List Value), (v = .slice (x.1) (List.length r) (x.2.1) ∧ LC cStr H' (x.2.2) r) ∧ Rs.holds w' (.row (.slice (x.1) (List.length r) (x.2.1)) 9 1 (List.length r) (x.2.2)) ∧ ∀ b' ∈ Rs.foot (.row (.slice (x.1) (List.length r) (x.2.1)) 9 1 (List.length r) (x.2.2)), H' b' = none ∧ (b' ∈ Rs.foot .gone ∨ w0.heap.size ≤ b') := by
  intro H0 w0 a0 aa0 ca0  hI ha0 r hm
  have hL := L.start hI
  refine ct_of Tryz.func300 rfl Tryz.ntmps300 rfl (Nat.le_of_ble_eq_true rfl) ?_
  unfold m300 at hm
  refine sr <| sv (r_assign rfl) <| wt <| sr <| sv (r_assign rfl) <| wt <| wp_seq <| sr <| sv (r_move rfl) <| sv (r_lenS rfl Tryz.underlying320 rfl) <| sv (r_move rfl) <| wt <| wp_block ?_
  have hL := hL.addNil 0 9 1
  refine wp_loop_fuel (k := FUEL) (fun k a w => ∃ (v8_1 : Int) (u0R_1 : List Bs) (au0R_1 : Option Addr) (cu0R_1 : Nat) (zu0R_1 : List Value) (l : List (Nat × Value)) (H : Hp), a = fr 19 ([(2, .slice none 0 0), (3, .slice au0R_1 (List.length u0R_1) cu0R_1), (6, .slice aa0 (List.length a0) ca0), (7, .int .i64 (a0.length : Int)), (8, .int .i64 v8_1)] ++ l) [] ∧ L [] H0 w0 [(0, .row (.slice au0R_1 (List.length u0R_1) cu0R_1) 9 1 (List.length u0R_1) zu0R_1)] H w ∧ Sl cTy H aa0 ca0 a0 ∧ LC cStr H zu0R_1 u0R_1 ∧ (m300_l0 f223 a0 k v8_1 u0R_1) = some r) ⟨_, _, _, _, _, _, _, fr_pre _ rfl, hL.pick _ rfl, ha0, LC.nil, hm⟩ ?_
  rintro k0 a w ⟨v8_1, u0R_1, au0R_1, cu0R_1, zu0R_1, l, H, rfl, hL, ha0, hu0R_1, hm⟩
  cases k0 with
  | zero => rw [m300_l0.eq_1] at hm; cases hm
  | succ k0 =>
    rw [m300_l0.eq_2] at hm
    refine sr <| sv (r_lss rfl rfl) <| wt <| wp_seq ?_
    refine c_if hm rfl (fun hg1 hm => ?_) (fun hg1 hm => ?_)
    · refine wp_skip <| then_n <| wp_seq <| wp_block <| sr ?_
      obtain ⟨hg3, hm⟩ := grd hm
      obtain ⟨be2, oe2, _, hae2, hce2, ⟨pe20, rfl, he20⟩⟩ := Sl.at ha0 Ty.no hg3
      refine sv (r_indexAddr el_320 hg3 hae2 rfl rfl) <| sv (r_loadH1 hL.imm sc_39 rfl hce2) <| sv (r_assign rfl) <| wt <| rg <| sv (r_move rfl) <| sv (r_move rfl) ?_
      obtain ⟨t4, ht4, hm⟩ := bnd hm
      refine wl rfl (o_call0 hL fn_223 rfl (h223 hL.imm he20 ht4) fun v H w hlet4 hL hR => ?_)
      replace ha0 := Sl.mono hlet4 ha0
      replace hu0R_1 := LC.mono hlet4 hu0R_1
      obtain rfl := hR
      have hww5 : LC cStr hL.hp [.string (mk t4)] ([t4] : List Bs) := (LC.cons (K := cStr) (cs := [.string (mk t4)]) rfl LC.nil)
      refine wl rfl (o_buildSlice (C := cStr) 1 hL el_30 ze_9 rfl (.cons rfl .nil) rfl rfl rfl rfl hww5 fun gw5 w hL => ?_)
      obtain ⟨hg6, hm⟩ := grd hm
      refine wl rfl (o_append (C := cStr) 0 1 hL el_30 rfl rfl rfl rfl hww5 rfl hg6 fun gw7 cw7 w hL => ?_)
      have hww7 := LC.append hu0R_1 hww5
      refine sv (r_assign rfl) <| wn <| blk_n <| then_n <| rg <| sv (r_add rfl rfl) <| sv (r_move rfl) <| wt ?_
      exact ⟨k0, Nat.lt_succ_self k0, _, _, _, _, _, _, _, fr_pre _ rfl, hL.pick _ rfl, ha0, hww7, hm⟩
    · refine wp_exit <| then_e <| then_e <| blk_e <| then_n <| sr <| sv (r_move rfl) <| sv (r_assign rfl) <| wt <| wp_ret ?_
      obtain rfl := ends hm
      refine rt rfl (.tmp rfl .nil) ⟨_, _, rfl, hL.ext, ?_⟩
      exact ⟨⟨au0R_1, cu0R_1, zu0R_1⟩, ⟨rfl, hu0R_1⟩, hL.give (i := 0) rfl⟩

/-- (*kind.Type).Print -/
def m223o (f223 : Ty → Option Bs) (a0 : Ty) : Option Bs :=
  (bif a0.isNo then none else ((m300 f223 a0.lst).bind fun t3 => (bif (a0.form == (5 : Int)) then (bif (decide (0 ≤ (0 : Int) ∧ (0 : Int) < (t3.length : Int))) then (bif (decide ([108, 105, 115, 116, 40].length + (t3.getD ((0 : Int)).toNat ([] : Bs)).length ≤ LIM)) then (bif (decide (([108, 105, 115, 116, 40] ++ (t3.getD ((0 : Int)).toNat ([] : Bs))).length + [41].length ≤ LIM)) then (some ((([108, 105, 115, 116, 40] ++ (t3.getD ((0 : Int)).toNat ([] : Bs))) ++ [41]))) else none) else none) else none) else (bif (a0.form == (6 : Int)) then none else (bif (a0.form == (7 : Int)) then none else (bif (a0.form == (8 : Int)) then none else (m220.bind fun t15 => (bif (decide (0 ≤ a0.form ∧ a0.form < ((5 : Nat) : Int))) then (some ((List.getD ([t15.1, t15.2.1, t15.2.2.1, t15.2.2.2.1, t15.2.2.2.2] : List Bs) (a0.form).toNat []))) else none))))))))
set_option maxHeartbeats 20000000 in
set_option maxRecDepth 100000 in
theorem c223o {f223 : Ty → Option Bs} (h223 : S223 f223) : S223 (m223o f223) := by
  unfold S223
  intro H0 w0 a0 pa0  hI ha0 r hm
  have hL := L.start hI
  refine ct_of Tryz.func223 rfl Tryz.ntmps223 rfl (Nat.le_of_ble_eq_true rfl) ?_
  unfold m223o at hm
  refine sr <| sv (r_assign rfl) <| wt <| wp_seq <| sr <| sv (r_move rfl) <| sv (r_eqPN Tryz.underlying39 (TyR.pn ha0) rfl rfl) <| wt ?_
  refine c_if hm rfl (fun hg1 hm => ?_) (fun hg1 hm => ?_)
  · cases hm
  · refine wp_skip <| then_n <| sr <| sv (r_move rfl) ?_
    obtain ⟨bp2, aap2, cap2, abp2, cbp2, acp2, ccp2, hvp2, hcp2, hsap2, hsbp2, hscp2⟩ := TyR.get ha0 (congrArg (!·) hg1)
    refine sv (r_nilCheck (ev_eq rfl hvp2)) <| sv (r_fieldAddr fl_322_1 rfl) <| sv (r_loadH1 hL.imm sc_320 rfl (HC.sub hcp2 1 1 (us := [_]) rfl)) ?_
    obtain ⟨t3, ht3, hm⟩ := bnd hm
    have hL := hL.room 0
    refine wl rfl (o_callE 0 hL fn_300 rfl rfl (c300 h223 hL.imm hsap2 ht3) fun x v H w hlet3 hL hR => ?_)
    obtain ⟨at3r0_0, ct3r0_0, zt3r0_0⟩ := x
    try dsimp only at hL hR
    replace ha0 := TyR.mono hlet3 ha0
    obtain ⟨rfl, ht3r0_0⟩ := hR
    refine sv (r_assign rfl) <| wt <| wp_seq <| sr <| sv (r_move rfl) ?_
    obtain ⟨bp4, aap4, cap4, abp4, cbp4, acp4, ccp4, hvp4, hcp4, hsap4, hsbp4, hscp4⟩ := TyR.get ha0 (congrArg (!·) hg1)
    refine sv (r_nilCheck (ev_eq rfl hvp4)) <| sv (r_fieldAddr fl_322_0 rfl) <| sv (r_loadH1 hL.imm sc_3 rfl (HC.sub hcp4 0 1 (us := [_]) rfl)) <| wt <| wp_block <| sr <| sv (r_eqi rfl rfl) <| sv (r_assign rfl) <| wt ?_
    refine c_if hm rfl (fun hg5 hm => ?_) (fun hg5 hm => ?_)
    · refine sr <| sv (r_move rfl) ?_
      obtain ⟨hg6, hm⟩ := grd hm
      obtain ⟨ge7, hge7, hae7⟩ := row_at (hL.own 0 _ rfl) hg6
      refine sv (r_indexAddr el_30 hg6 hae7 rfl rfl) ?_
      obtain ⟨_, rfl, hce8⟩ := LC.at ht3r0_0 ([] : Bs) hg6
      refine sv (r_loadR1 (hL.own 0 _ rfl) hge7 sc_9 rfl hce8) ?_
      obtain ⟨hg9, hm⟩ := grd hm
      refine sv (r_cat (of_decide_eq_true hg9) rfl rfl) ?_
      obtain ⟨hg10, hm⟩ := grd hm
      refine sv (r_cat (of_decide_eq_true hg10) rfl rfl) <| sv (r_assign rfl) <| wt <| wp_ret <| blk_r <| then_r ?_
      obtain rfl := ends hm
      exact rt rfl (.tmp rfl .nil) ⟨_, _, rfl, hL.ext, rfl⟩
    · refine sr <| sv (r_eqi rfl rfl) <| sv (r_assign rfl) <| wt ?_
      refine c_if hm rfl (fun hg11 hm => ?_) (fun hg11 hm => ?_)
      · cases hm
      · refine sr <| sv (r_eqi rfl rfl) <| sv (r_assign rfl) <| wt ?_
        refine c_if hm rfl (fun hg12 hm => ?_) (fun hg12 hm => ?_)
        · cases hm
        · refine sr <| sv (r_eqi rfl rfl) <| sv (r_assign rfl) <| wt ?_
          refine c_if hm rfl (fun hg13 hm => ?_) (fun hg13 hm => ?_)
          · cases hm
          · refine wp_skip <| blk_n <| then_n <| wp_seq <| rd hL [] [] [(1, true), (2, true), (3, true), (4, true), (0, false), (5, true), (6, true)] mixed rfl (by kernel_rfl) fun w hL => dv rfl (fun w hS => r_move rfl) ?_
            obtain ⟨bp14, aap14, cap14, abp14, cbp14, acp14, ccp14, hvp14, hcp14, hsap14, hsbp14, hscp14⟩ := TyR.get ha0 (congrArg (!·) hg1)
            refine dv rfl (fun w hS => r_nilCheck (ev_eq rfl hvp14)) <| dv rfl (fun w hS => r_fieldAddr fl_322_0 rfl) <| dv rfl (fun w hS => r_loadH1 hS.1 sc_3 rfl (HC.sub hcp14 0 1 (us := [_]) rfl)) ?_
            obtain ⟨t15, ht15, hm⟩ := bnd hm
            refine dh rfl rfl (o_call0 hL fn_220 rfl (c220 hL.imm ht15) fun v H w hlet15 hL hR => ⟨Sd.of hL ((Hle.refl _).trans hlet15) [] rfl, ?_⟩)
            replace ha0 := TyR.mono hlet15 ha0
            obtain rfl := hR
            obtain ⟨hg16, hm⟩ := grd hm
            refine dv rfl (fun w hS => r_indexAs [t15.1, t15.2.1, t15.2.2.1, t15.2.2.2.1, t15.2.2.2.2] Tryz.underlying317 sc_9 rfl hg16 rfl rfl) <| dv rfl (fun w hS => r_assign rfl) <| dn <| then_n <| wp_ret ?_
            obtain rfl := ends hm
            exact rt rfl (.tmp rfl .nil) ⟨_, _, rfl, hL.ext, rfl⟩
def m223n : Nat → Ty → Option Bs
  | 0 => fun _ => none
  | n + 1 => m223o (m223n n)
theorem c223n (n : Nat) : S223 (m223n n) := by
  induction n with
  | zero =>
    unfold S223
    intro H0 w0 a0 pa0  hI ha0 r hm
    rw [m223n.eq_1] at hm
    cases hm
  | succ n ih => exact c223o ih
def m223 : Ty → Option Bs := m223n FUEL
theorem c223 : S223 m223 := c223n FUEL

/-- (schema.Attr).marks -/
def m269_l0 (a0_2 : Bool) (a0_3 : Bool) (a0_4 : Bool) (a0_5 : Bool) : Nat → Bs → Int → Option Bs
  | 0, _, _ => none
  | k + 1, v3_1, v15_1 => (bif (decide (v15_1 < (4 : Int))) then (bif (decide (0 ≤ v15_1 ∧ v15_1 < ((4 : Nat) : Int))) then (bif (List.getD ([a0_2, a0_3, a0_4, a0_5] : List Bool) (v15_1).toNat false) then (bif (decide (v3_1.length + (List.getD ([[32, 109, 117, 115, 116], [32, 111, 119, 110], [32, 104, 105, 100, 101], [32, 110, 101, 119]] : List Bs) (v15_1).toNat []).length ≤ LIM)) then (m269_l0 a0_2 a0_3 a0_4 a0_5 k (v3_1 ++ (List.getD ([[32, 109, 117, 115, 116], [32, 111, 119, 110], [32, 104, 105, 100, 101], [32, 110, 101, 119]] : List Bs) (v15_1).toNat [])) (IntKind.wrap .i64 (v15_1 + (1 : Int)))) else none) else (m269_l0 a0_2 a0_3 a0_4 a0_5 k v3_1 (IntKind.wrap .i64 (v15_1 + (1 : Int))))) else none) else (some (v3_1)))
def m269 (a0_0 : Bs) (a0_1 : Ty) (a0_2 : Bool) (a0_3 : Bool) (a0_4 : Bool) (a0_5 : Bool) : Option Bs :=
  (m269_l0 a0_2 a0_3 a0_4 a0_5 FUEL ([] : Bs) (0 : Int))
set_option maxHeartbeats 20000000 in
set_option maxRecDepth 100000 in
theorem c269 : ∀ {H0 : Hp} {w0 : World} {a0_0 : Bs} {a0_1 : Ty} {a0_2 : Bool} {a0_3 : Bool} {a0_4 : Bool} {a0_5 : Bool} {pa0_1 : Value}  (_ : Imm H0 w0) (_ : TyR H0 pa0_1 a0_1) {r : Bs} (_ : m269 a0_0 a0_1 a0_2 a0_3 a0_4 a0_5 = some r), Ct Tryz.prog 269 [.agg (List.toArray [.string (mk a0_0), pa0_1, .bool a0_2, .bool a0_3, .bool a0_4, .bool a0_5])] [] H0 w0 fun v H' w' => v = .string (mk r) := by
  intro H0 w0 a0_0 a0_1 a0_2 a0_3 a0_4 a0_5 pa0_1  hI ha0_1 r hm
  have hL := L.start hI
  refine ct_of Tryz.func269 rfl Tryz.ntmps269 rfl (Nat.le_of_ble_eq_true rfl) ?_
  unfold m269 at hm
  refine sr ?_
  refine wl rfl (o_box 0 (c := [_, _, _, _, _, _]) hL rfl rfl fun b0 w hL => ?_)
  refine sv (r_assign rfl) <| wt <| sr <| sv (r_assign rfl) <| wt <| wp_seq <| sr <| sv (r_fieldAddr fl_41_2 rfl) <| sv (r_load1 (hL.own 0 _ rfl) sc_4 rfl rfl) <| sv (r_fieldAddr fl_41_3 rfl) <| sv (r_load1 (hL.own 0 _ rfl) sc_4 rfl rfl) <| sv (r_fieldAddr fl_41_4 rfl) <| sv (r_load1 (hL.own 0 _ rfl) sc_4 rfl rfl) <| sv (r_fieldAddr fl_41_5 rfl) <| sv (r_load1 (hL.own 0 _ rfl) sc_4 rfl rfl) <| sv (r_buildA ze_418 ay_418 rfl (.cons rfl (.cons rfl (.cons rfl (.cons rfl .nil)))) (cs := [_, _, _, _]) rfl) <| sv (r_move rfl) <| wt <| wp_block <| wp_loop_fuel (k := FUEL) (fun k a w => ∃ (v3_1 : Bs) (v15_1 : Int) (l : List (Nat × Value)) (H : Hp), a = fr 27 ([(2, .string (mk ([] : Bs))), (3, .string (mk v3_1)), (14, .agg (List.toArray [.bool a0_2, .bool a0_3, .bool a0_4, .bool a0_5])), (15, .int .i64 v15_1)] ++ l) [] ∧ L [] H0 w0 [(0, .cel b0 ((.string (mk a0_0)) :: pa0_1 :: (.bool a0_2) :: (.bool a0_3) :: (.bool a0_4) :: (.bool a0_5) :: []) 41)] H w ∧ TyR H pa0_1 a0_1 ∧ (m269_l0 a0_2 a0_3 a0_4 a0_5 k v3_1 v15_1) = some r) ⟨_, _, _, _, fr_pre _ rfl, hL.pick _ rfl, ha0_1, hm⟩ ?_
  rintro k0 a w ⟨v3_1, v15_1, l, H, rfl, hL, ha0_1, hm⟩
  cases k0 with
  | zero => rw [m269_l0.eq_1] at hm; cases hm
  | succ k0 =>
    rw [m269_l0.eq_2] at hm
    refine sr <| sv (r_lss rfl rfl) <| wt <| wp_seq ?_
    refine c_if hm rfl (fun hg1 hm => ?_) (fun hg1 hm => ?_)
    · refine wp_skip <| then_n <| wp_seq <| wp_block <| sr <| sv (r_move rfl) ?_
      obtain ⟨hg2, hm⟩ := grd hm
      refine sv (r_indexAb [a0_2, a0_3, a0_4, a0_5] Tryz.underlying418 sc_4 rfl hg2 rfl rfl) <| sv (r_assign rfl) <| sv (r_assign rfl) <| wt <| sr <| sv (r_move rfl) <| wt ?_
      refine c_if hm rfl (fun hg3 hm => ?_) (fun hg3 hm => ?_)
      · refine rg <| sv (r_move rfl) <| sv (r_buildA ze_419 ay_419 rfl (.cons rfl (.cons rfl (.cons rfl (.cons rfl .nil)))) (cs := [_, _, _, _]) rfl) <| sv (r_move rfl) <| sv (r_indexAs [[32, 109, 117, 115, 116], [32, 111, 119, 110], [32, 104, 105, 100, 101], [32, 110, 101, 119]] Tryz.underlying419 sc_9 rfl hg2 rfl rfl) ?_
        obtain ⟨hg4, hm⟩ := grd hm
        refine sv (r_cat (of_decide_eq_true hg4) rfl rfl) <| sv (r_assign rfl) <| wn <| blk_n <| then_n <| rg <| sv (r_add rfl rfl) <| sv (r_move rfl) <| wt ?_
        exact ⟨k0, Nat.lt_succ_self k0, _, _, _, _, fr_pre _ rfl, hL.pick _ rfl, ha0_1, hm⟩
      · refine wp_skip <| blk_n <| then_n <| rg <| sv (r_add rfl rfl) <| sv (r_move rfl) <| wt ?_
        exact ⟨k0, Nat.lt_succ_self k0, _, _, _, _, fr_pre _ rfl, hL.pick _ rfl, ha0_1, hm⟩
    · refine wp_exit <| then_e <| then_e <| blk_e <| then_n <| sr <| sv (r_move rfl) <| sv (r_assign rfl) <| wt <| wp_ret ?_
      obtain rfl := ends hm
      exact rt rfl (.tmp rfl .nil) ⟨_, _, rfl, hL.ext, rfl⟩

/-- (schema.Attr).line -/
def m176 (a0_0 : Bs) (a0_1 : Ty) (a0_2 : Bool) (a0_3 : Bool) (a0_4 : Bool) (a0_5 : Bool) : Option Bs :=
  (bif (decide ([97, 116, 116, 114, 32].length + a0_0.length ≤ LIM)) then (bif (decide (([97, 116, 116, 114, 32] ++ a0_0).length + [32].length ≤ LIM)) then ((m223 a0_1).bind fun t3 => (bif (decide ((([97, 116, 116, 114, 32] ++ a0_0) ++ [32]).length + t3.length ≤ LIM)) then ((m269 a0_0 a0_1 a0_2 a0_3 a0_4 a0_5).bind fun t5 => (bif (decide (((([97, 116, 116, 114, 32] ++ a0_0) ++ [32]) ++ t3).length + t5.length ≤ LIM)) then (bif (decide ((((([97, 116, 116, 114, 32] ++ a0_0) ++ [32]) ++ t3) ++ t5).length + [10].length ≤ LIM)) then (some (((((([97, 116, 116, 114, 32] ++ a0_0) ++ [32]) ++ t3) ++ t5) ++ [10]))) else none) else none)) else none)) else none) else none)
set_option maxHeartbeats 20000000 in
set_option maxRecDepth 100000 in
theorem c176 : ∀ {H0 : Hp} {w0 : World} {a0_0 : Bs} {a0_1 : Ty} {a0_2 : Bool} {a0_3 : Bool} {a0_4 : Bool} {a0_5 : Bool} {pa0_1 : Value}  (_ : Imm H0 w0) (_ : TyR H0 pa0_1 a0_1) {r : Bs} (_ : m176 a0_0 a0_1 a0_2 a0_3 a0_4 a0_5 = some r), Ct Tryz.prog 176 [.agg (List.toArray [.string (mk a0_0), pa0_1, .bool a0_2, .bool a0_3, .bool a0_4, .bool a0_5])] [] H0 w0 fun v H' w' => v = .string (mk r) := by
  intro H0 w0 a0_0 a0_1 a0_2 a0_3 a0_4 a0_5 pa0_1  hI ha0_1 r hm
  have hL := L.start hI
  refine ct_of Tryz.func176 rfl Tryz.ntmps176 rfl (Nat.le_of_ble_eq_true rfl) ?_
  unfold m176 at hm
  refine sr ?_
  refine wl rfl (o_box 0 (c := [_, _, _, _, _, _]) hL rfl rfl fun b0 w hL => ?_)
  refine sv (r_assign rfl) <| wt <| wp_seq <| rd hL [0] [_] [(0, true), (1, true), (2, true), (3, true), (4, true), (5, true), (8, true), (6, false), (7, true), (9, false), (10, true), (11, true), (12, true)] mixed rfl (by kernel_rfl) fun w hL => dv rfl (fun w hS => r_fieldAddr fl_41_0 rfl) <| dv rfl (fun w hS => r_load1 hS.2.1 sc_9 rfl rfl) ?_
  obtain ⟨hg1, hm⟩ := grd hm
  refine dv rfl (fun w hS => r_cat (of_decide_eq_true hg1) rfl rfl) ?_
  obtain ⟨hg2, hm⟩ := grd hm
  refine dv rfl (fun w hS => r_cat (of_decide_eq_true hg2) rfl rfl) <| dv rfl (fun w hS => r_fieldAddr fl_41_1 rfl) <| dv rfl (fun w hS => r_load1 hS.2.1 sc_39 rfl rfl) <| dv rfl (fun w hS => r_loadk hS.2.1 ag_41 rfl (vs := [_, _, _, _, _, _]) rfl rfl) ?_
  obtain ⟨t3, ht3, hm⟩ := bnd hm
  refine dh rfl rfl (o_call0 hL fn_223 rfl (c223 hL.imm ha0_1 ht3) fun v H w hlet3 hL hR => ⟨Sd.of hL ((Hle.refl _).trans hlet3) [0] rfl, ?_⟩)
  replace ha0_1 := TyR.mono hlet3 ha0_1
  obtain rfl := hR
  obtain ⟨hg4, hm⟩ := grd hm
  refine dv rfl (fun w hS => r_cat (of_decide_eq_true hg4) rfl rfl) ?_
  obtain ⟨t5, ht5, hm⟩ := bnd hm
  refine dh rfl rfl (o_call0 hL fn_269 rfl (c269 hL.imm ha0_1 ht5) fun v H w hlet5 hL hR => ⟨Sd.of hL (((Hle.refl _).trans hlet3).trans hlet5) [0] rfl, ?_⟩)
  obtain rfl := hR
  obtain ⟨hg6, hm⟩ := grd hm
  refine dv rfl (fun w hS => r_cat (of_decide_eq_true hg6) rfl rfl) ?_
  obtain ⟨hg7, hm⟩ := grd hm
  refine dv rfl (fun w hS => r_cat (of_decide_eq_true hg7) rfl rfl) <| dv rfl (fun w hS => r_assign rfl) <| dn <| then_n <| wp_ret ?_
  obtain rfl := ends hm
  exact rt rfl (.tmp rfl .nil) ⟨_, _, rfl, hL.ext, rfl⟩

/-- schema.attr -/
def m93_j0 (a0 : Bs) (t1 : List Bs) (t8 : (Ty × Int × Int)) (u1_2_1 : Bool) (u1_3_1 : Bool) (u1_5_1 : Bool) : Option (Bs × Ty × Bool × Bool × Bool × Bool × Bool) := (bif (t8.2.2 == (0 : Int)) then (bif (decide (a0.length + [10].length ≤ LIM)) then ((m176 (t1.getD ((1 : Int)).toNat ([] : Bs)) t8.1 u1_2_1 u1_3_1 false u1_5_1).bind fun t13 => (some ((t1.getD ((1 : Int)).toNat ([] : Bs)), t8.1, u1_2_1, u1_3_1, false, u1_5_1, (t13 == (a0 ++ [10]))))) else none) else none)
def m93_l1 (a0 : Bs) (t1 : List Bs) (t8 : (Ty × Int × Int)) : Nat → Int → Bool → Bool → Bool → Option (Bs × Ty × Bool × Bool × Bool × Bool × Bool)
  | 0, _, _, _, _ => none
  | k + 1, v39_2, u1_2_2, u1_3_2, u1_5_2 => (bif (decide (v39_2 < (((t1.take ((t1.length : Int)).toNat).drop ((3 : Int)).toNat).length : Int))) then (bif (decide (0 ≤ v39_2 ∧ v39_2 < (((t1.take ((t1.length : Int)).toNat).drop ((3 : Int)).toNat).length : Int))) then (bif ((((t1.take ((t1.length : Int)).toNat).drop ((3 : Int)).toNat).getD (v39_2).toNat ([] : Bs)) == [109, 117, 115, 116]) then (m93_l1 a0 t1 t8 k (IntKind.wrap .i64 (v39_2 + (1 : Int))) true u1_3_2 u1_5_2) else (bif ((((t1.take ((t1.length : Int)).toNat).drop ((3 : Int)).toNat).getD (v39_2).toNat ([] : Bs)) == [111, 119, 110]) then (m93_l1 a0 t1 t8 k (IntKind.wrap .i64 (v39_2 + (1 : Int))) u1_2_2 true u1_5_2) else (bif ((((t1.take ((t1.length : Int)).toNat).drop ((3 : Int)).toNat).getD (v39_2).toNat ([] : Bs)) == [104, 105, 100, 101]) then none else (bif ((((t1.take ((t1.length : Int)).toNat).drop ((3 : Int)).toNat).getD (v39_2).toNat ([] : Bs)) == [110, 101, 119]) then (m93_l1 a0 t1 t8 k (IntKind.wrap .i64 (v39_2 + (1 : Int))) u1_2_2 u1_3_2 true) else none)))) else none) else (m93_j0 a0 t1 t8 u1_2_2 u1_3_2 u1_5_2))
def m93 (a0 : Bs) : Option (Bs × Ty × Bool × Bool × Bool × Bool × Bool) :=
  ((m175 a0 [32]).bind fun t1 => (bif (decide ((t1.length : Int) < (3 : Int))) then none else (bif (decide (0 ≤ (0 : Int) ∧ (0 : Int) < (t1.length : Int))) then (bif (!((t1.getD ((0 : Int)).toNat ([] : Bs)) == [97, 116, 116, 114])) then none else (bif (decide (0 ≤ (2 : Int) ∧ (2 : Int) < (t1.length : Int))) then ((m75 (t1.getD ((2 : Int)).toNat ([] : Bs))).bind fun t8 => (bif (decide (0 ≤ (1 : Int) ∧ (1 : Int) < (t1.length : Int))) then (bif (decide (0 ≤ (3 : Int) ∧ (3 : Int) ≤ (t1.length : Int) ∧ (t1.length : Int) ≤ (t1.length : Int))) then (m93_l1 a0 t1 t8 FUEL (0 : Int) false false false) else none) else none)) else none)) else none)))
set_option maxHeartbeats 20000000 in
set_option maxRecDepth 100000 in
theorem c93 : ∀ {H0 : Hp} {w0 : World} {a0 : Bs}  (_ : Imm H0 w0) (_ : GT H0) {r : (Bs × Ty × Bool × Bool × Bool × Bool × Bool)} (_ : m93 a0 = some r), Ct Tryz.prog 93 [.string (mk a0)] [] H0 w0 fun v H' w' => ∃ (pr0_1 : Value), v = .tuple (List.toArray [.agg (List.toArray [.string (mk r.1), pr0_1, .bool r.2.2.1, .bool r.2.2.2.1, .bool r.2.2.2.2.1, .bool r.2.2.2.2.2.1]), .bool r.2.2.2.2.2.2]) ∧ TyR H' pr0_1 r.2.1 := by
  intro H0 w0 a0  hI hG r hm
  have hL := L.start hI
  refine ct_of Tryz.func93 rfl Tryz.ntmps93 rfl (Nat.le_of_ble_eq_true rfl) ?_
  unfold m93 at hm
  refine sr ?_
  refine wl rfl (o_alloc 0 (c := [_, _, _, _, _, _]) hL ze_41 rfl fun b0 w hL => ?_)
  refine sv (r_assign rfl) <| wt <| sr <| sv (r_move rfl) ?_
  obtain ⟨t1, ht1, hm⟩ := bnd hm
  refine wl rfl (o_call0 hL fn_175 rfl (c175 hL.imm hG ht1) fun v H w hlet1 hL hR => ?_)
  replace hG := GT.mono hlet1 hG
  obtain ⟨at1r0_0, ct1r0_0, rfl, ht1r0_0⟩ := hR
  refine sv (r_assign rfl) <| wt <| wp_seq <| sr <| sv (r_move rfl) <| sv (r_lenS rfl Tryz.underlying30 rfl) <| sv (r_lss rfl rfl) <| sv (r_move rfl) ?_
  refine m_if hm (fun hg2 hm => ?_) (fun hg2 hm => ?_)
  · cases hm
  · refine wlT rfl rfl rfl rfl hg2 (o_val (r_move rfl) ?_)
    obtain ⟨hg4, hm⟩ := grd hm
    obtain ⟨be3, oe3, _, hae3, hce3, rfl⟩ := Sl.at ht1r0_0 ([] : Bs) hg4
    refine wlT rfl rfl rfl rfl hg2 (o_val (r_indexAddr el_30 hg4 hae3 rfl rfl) ?_)
    refine wlT rfl rfl rfl rfl hg2 (o_val (r_loadH1 hL.imm sc_9 rfl hce3) ?_)
    refine wlT rfl rfl rfl rfl hg2 (o_val (r_nes rfl rfl) ?_)
    refine sv (r_pickF hg2 rfl rfl) <| wt ?_
    refine c_if hm rfl (fun hg5 hm => ?_) (fun hg5 hm => ?_)
    · cases hm
    · refine wp_skip <| then_n <| sr <| sv (r_move rfl) ?_
      obtain ⟨hg7, hm⟩ := grd hm
      obtain ⟨be6, oe6, _, hae6, hce6, rfl⟩ := Sl.at ht1r0_0 ([] : Bs) hg7
      refine sv (r_indexAddr el_30 hg7 hae6 rfl rfl) <| sv (r_loadH1 hL.imm sc_9 rfl hce6) ?_
      obtain ⟨t8, ht8, hm⟩ := bnd hm
      refine wl rfl (o_call0 hL fn_75 rfl (c75 hL.imm ht8) fun v H w hlet8 hL hR => ?_)
      replace hG := GT.mono hlet8 hG
      replace ht1r0_0 := Sl.mono hlet8 ht1r0_0
      obtain ⟨pt8r0_0, rfl, ht8r0_0⟩ := hR
      refine sv (r_move rfl) <| sv (r_extract rfl rfl) <| sv (r_extract rfl rfl) <| sv (r_extract rfl rfl) <| sv (r_assign rfl) <| sv (r_assign rfl) <| sv (r_assign rfl) <| wt <| sr <| sv (r_move rfl) ?_
      obtain ⟨hg10, hm⟩ := grd hm
      obtain ⟨be9, oe9, _, hae9, hce9, rfl⟩ := Sl.at ht1r0_0 ([] : Bs) hg10
      refine sv (r_indexAddr el_30 hg10 hae9 rfl rfl) <| sv (r_loadH1 hL.imm sc_9 rfl hce9) <| sv (r_move rfl) <| sv (r_build ze_41 st_41 rfl (.cons rfl (.cons (cells_one (TyR.one ht8r0_0)) .nil)) (cs := [_, _, _, _, _, _]) rfl) ?_
      refine wl rfl (o_alloc 1 (c := [_, _, _, _, _, _]) hL ze_41 rfl fun b1 w hL => ?_)
      refine wl rfl (o_storek (i := 1) (vs := [_, _, _, _, _, _]) hL ag_41 rfl rfl rfl rfl (Nat.le_of_ble_eq_true rfl) (List.forall_mem_cons.2 ⟨rfl, (List.forall_mem_cons.2 ⟨(TyR.one ht8r0_0), (List.forall_mem_cons.2 ⟨rfl, (List.forall_mem_cons.2 ⟨rfl, (List.forall_mem_cons.2 ⟨rfl, (List.forall_mem_cons.2 ⟨rfl, List.forall_mem_nil _⟩)⟩)⟩)⟩)⟩)⟩) (c' := _ :: _ :: _ :: _ :: _ :: _ :: []) rfl fun w hL => ?_)
      refine wt ?_
      refine w_join (fun a w => ∃ (u1_2_1 : Bool) (u1_3_1 : Bool) (u1_5_1 : Bool) (l : List (Nat × Value)) (H : Hp), a = fr 67 ([(0, .string (mk a0)), (2, .pointer (some ⟨b0, 0, none⟩)), (3, .bool false), (7, .int .i64 t8.2.2), (8, .pointer (some ⟨b1, 0, none⟩))] ++ l) [] ∧ L [] H0 w0 [(0, .cel b0 ((.string (mk ([] : Bs))) :: (.pointer none) :: (.bool false) :: (.bool false) :: (.bool false) :: (.bool false) :: []) 41), (1, .cel b1 ((.string (mk (t1.getD ((1 : Int)).toNat ([] : Bs)))) :: pt8r0_0 :: (.bool u1_2_1) :: (.bool u1_3_1) :: (.bool false) :: (.bool u1_5_1) :: []) 41)] H w ∧ GT H ∧ TyR H pt8r0_0 t8.1 ∧ (m93_j0 a0 t1 t8 u1_2_1 u1_3_1 u1_5_1) = some r) (fun a w hj => ?_) ?_
      · obtain ⟨u1_2_1, u1_3_1, u1_5_1, l, H, rfl, hL, hG, ht8r0_0, hm⟩ := hj
        unfold m93_j0 at hm
        refine wp_seq <| rd hL [1] [_] [(0, true), (1, true), (2, true), (3, true), (4, true), (6, true), (7, true), (5, false), (8, true), (9, true), (10, false), (11, true)] mixed rfl (by kernel_rfl) fun w hL => dv rfl (fun w hS => r_loadk hS.2.1 ag_41 rfl (vs := [_, _, _, _, _, _]) rfl rfl) <| dv rfl (fun w hS => r_move rfl) <| dv rfl (fun w hS => r_eqi rfl rfl) <| dv rfl (fun w hS => r_move rfl) ?_
        refine m_if hm (fun hg11 hm => ?_) (fun hg11 hm => ?_)
        · refine dvT rfl rfl rfl rfl hg11 (fun w hS => r_loadk hS.2.1 ag_41 rfl (vs := [_, _, _, _, _, _]) rfl rfl) <| dvT rfl rfl rfl rfl hg11 (fun w hS => r_move rfl) ?_
          obtain ⟨hg12, hm⟩ := grd hm
          refine dvT rfl rfl rfl rfl hg11 (fun w hS => r_cat (of_decide_eq_true hg12) rfl rfl) ?_
          obtain ⟨t13, ht13, hm⟩ := bnd hm
          refine dhT rfl rfl rfl rfl rfl hg11 (o_call0 hL fn_176 rfl (c176 hL.imm ht8r0_0 ht13) fun v H w hlet13 hL hR => ⟨Sd.of hL ((Hle.refl _).trans hlet13) [1] rfl, ?_⟩)
          replace hG := GT.mono hlet13 hG
          replace ht8r0_0 := TyR.mono hlet13 ht8r0_0
          obtain rfl := hR
          refine dvT rfl rfl rfl rfl hg11 (fun w hS => r_eqs rfl rfl) <| dv rfl (fun w hS => r_pickT hg11 rfl rfl) ?_
          refine dh rfl rfl (o_storek (i := 0) (vs := [_, _, _, _, _, _]) hL ag_41 rfl rfl rfl rfl (Nat.le_of_ble_eq_true rfl) (List.forall_mem_cons.2 ⟨rfl, (List.forall_mem_cons.2 ⟨(TyR.one ht8r0_0), (List.forall_mem_cons.2 ⟨rfl, (List.forall_mem_cons.2 ⟨rfl, (List.forall_mem_cons.2 ⟨rfl, (List.forall_mem_cons.2 ⟨rfl, List.forall_mem_nil _⟩)⟩)⟩)⟩)⟩)⟩) (c' := _ :: _ :: _ :: _ :: _ :: _ :: []) rfl fun w hL => ⟨Sd.of hL ((Hle.refl _).trans hlet13) [1] rfl, ?_⟩)
          refine dv rfl (fun w hS => r_assign rfl) <| dn <| then_n <| wp_ret ?_
          obtain rfl := ends hm
          exact rt rfl (.agg (hL.own 0 _ rfl) ag_41 rfl (us := [_, _, _, _, _, _]) rfl rfl (.tmp rfl .nil)) ⟨_, _, rfl, hL.ext, ⟨_, rfl, ht8r0_0⟩⟩
        · cases hm
      · refine sr <| sv (r_move rfl) ?_
        obtain ⟨hg14, hm⟩ := grd hm
        have hsy15 := Sl.cut ht1r0_0 hg14 (m := (ct1r0_0 : Int)) (Int.le_trans (of_decide_eq_true hg14).2.2 (Int.ofNat_le.2 ht1r0_0.1))
        refine sv (r_sliceS (k := cStr.k) el_30 ht1r0_0.1 hg14 rfl (.inl ⟨_, _, rfl, rfl⟩) (.inr ⟨rfl, rfl⟩)) <| sv (r_lenS rfl Tryz.underlying30 rfl) <| sv (r_move rfl) <| wt <| wp_block <| wp_loop_fuel (k := FUEL) (fun k a w => ∃ (v39_2 : Int) (u1_2_2 : Bool) (u1_3_2 : Bool) (u1_5_2 : Bool) (l : List (Nat × Value)) (H : Hp), a = fr 67 ([(0, .string (mk a0)), (2, .pointer (some ⟨b0, 0, none⟩)), (3, .bool false), (7, .int .i64 t8.2.2), (8, .pointer (some ⟨b1, 0, none⟩)), (37, .slice (if ((ct1r0_0 : Nat) : Int).toNat = ((3 : Int)).toNat then at1r0_0 else at1r0_0.map (·.add (((3 : Int)).toNat * cStr.k))) (List.length ((t1.take ((t1.length : Int)).toNat).drop ((3 : Int)).toNat)) (((ct1r0_0 : Nat) : Int).toNat - ((3 : Int)).toNat)), (38, .int .i64 (((t1.take ((t1.length : Int)).toNat).drop ((3 : Int)).toNat).length : Int)), (39, .int .i64 v39_2)] ++ l) [] ∧ L [] H0 w0 [(0, .cel b0 ((.string (mk ([] : Bs))) :: (.pointer none) :: (.bool false) :: (.bool false) :: (.bool false) :: (.bool false) :: []) 41), (1, .cel b1 ((.string (mk (t1.getD ((1 : Int)).toNat ([] : Bs)))) :: pt8r0_0 :: (.bool u1_2_2) :: (.bool u1_3_2) :: (.bool false) :: (.bool u1_5_2) :: []) 41)] H w ∧ GT H ∧ TyR H pt8r0_0 t8.1 ∧ Sl cStr H (if ((ct1r0_0 : Nat) : Int).toNat = ((3 : Int)).toNat then at1r0_0 else at1r0_0.map (·.add (((3 : Int)).toNat * cStr.k))) (((ct1r0_0 : Nat) : Int).toNat - ((3 : Int)).toNat) ((t1.take ((t1.length : Int)).toNat).drop ((3 : Int)).toNat) ∧ (m93_l1 a0 t1 t8 k v39_2 u1_2_2 u1_3_2 u1_5_2) = some r) ⟨_, _, _, _, _, _, fr_pre _ rfl, hL.pick _ rfl, hG, ht8r0_0, hsy15, hm⟩ ?_
        rintro k1 a w ⟨v39_2, u1_2_2, u1_3_2, u1_5_2, l, H, rfl, hL, hG, ht8r0_0, hsy15, hm⟩
        cases k1 with
        | zero => rw [m93_l1.eq_1] at hm; cases hm
        | succ k1 =>
          rw [m93_l1.eq_2] at hm
          refine sr <| sv (r_lss rfl rfl) <| wt <| wp_seq ?_
          refine c_if hm rfl (fun hg16 hm => ?_) (fun hg16 hm => ?_)
          · refine wp_skip <| then_n <| wp_seq <| wp_block <| sr ?_
            obtain ⟨hg18, hm⟩ := grd hm
            obtain ⟨be17, oe17, _, hae17, hce17, rfl⟩ := Sl.at hsy15 ([] : Bs) hg18
            refine sv (r_indexAddr el_30 hg18 hae17 rfl rfl) <| sv (r_loadH1 hL.imm sc_9 rfl hce17) <| sv (r_assign rfl) <| wt <| sr <| sv (r_move rfl) <| wt <| wp_block <| sr <| sv (r_eqs rfl rfl) <| sv (r_assign rfl) <| wt ?_
            refine c_if hm rfl (fun hg19 hm => ?_) (fun hg19 hm => ?_)
            · refine rg <| sv (r_fieldAddr fl_41_2 rfl) ?_
              refine wl rfl (o_store1 (i := 1) hL sc_4 rfl rfl rfl rfl rfl (c' := _ :: _ :: _ :: _ :: _ :: _ :: []) rfl fun w hL => ?_)
              refine wn <| blk_n <| blk_n <| then_n <| rg <| sv (r_add rfl rfl) <| sv (r_move rfl) <| wt ?_
              exact ⟨k1, Nat.lt_succ_self k1, _, _, _, _, _, _, fr_pre _ rfl, hL.pick _ rfl, hG, ht8r0_0, hsy15, hm⟩
            · refine sr <| sv (r_eqs rfl rfl) <| sv (r_assign rfl) <| wt ?_
              refine c_if hm rfl (fun hg20 hm => ?_) (fun hg20 hm => ?_)
              · refine rg <| sv (r_fieldAddr fl_41_3 rfl) ?_
                refine wl rfl (o_store1 (i := 1) hL sc_4 rfl rfl rfl rfl rfl (c' := _ :: _ :: _ :: _ :: _ :: _ :: []) rfl fun w hL => ?_)
                refine wn <| blk_n <| blk_n <| then_n <| rg <| sv (r_add rfl rfl) <| sv (r_move rfl) <| wt ?_
                exact ⟨k1, Nat.lt_succ_self k1, _, _, _, _, _, _, fr_pre _ rfl, hL.pick _ rfl, hG, ht8r0_0, hsy15, hm⟩
              · refine sr <| sv (r_eqs rfl rfl) <| sv (r_assign rfl) <| wt ?_
                refine c_if hm rfl (fun hg21 hm => ?_) (fun hg21 hm => ?_)
                · cases hm
                · refine sr <| sv (r_eqs rfl rfl) <| sv (r_assign rfl) <| wt ?_
                  refine c_if hm rfl (fun hg22 hm => ?_) (fun hg22 hm => ?_)
                  · refine rg <| sv (r_fieldAddr fl_41_5 rfl) ?_
                    refine wl rfl (o_store1 (i := 1) hL sc_4 rfl rfl rfl rfl rfl (c' := _ :: _ :: _ :: _ :: _ :: _ :: []) rfl fun w hL => ?_)
                    refine wn <| blk_n <| blk_n <| then_n <| rg <| sv (r_add rfl rfl) <| sv (r_move rfl) <| wt ?_
                    exact ⟨k1, Nat.lt_succ_self k1, _, _, _, _, _, _, fr_pre _ rfl, hL.pick _ rfl, hG, ht8r0_0, hsy15, hm⟩
                  · cases hm
          · refine wp_exit <| then_e <| then_e <| blk_e <| then_n ?_
            exact ⟨_, _, _, _, _, fr_pre _ rfl, hL.pick _ rfl, hG, ht8r0_0, hm⟩

/-- (*kind.Type).plain -/
def m237 (a0 : Ty) (a1_0 : J) : Option Bool :=
  ((m21 a1_0).bind fun t1 => (bif (!a0.isNo) then (bif (a0.form == (1 : Int)) then none else (bif (a0.form == (2 : Int)) then (some ((t1 == (3 : Int)))) else none)) else none))
set_option maxHeartbeats 20000000 in
set_option maxRecDepth 100000 in
theorem c237 : ∀ {H0 : Hp} {w0 : World} {a0 : Ty} {a1_0 : J} {pa0 : Value} {xa1_0 : Value}  (_ : Imm H0 w0) (_ : TyR H0 pa0 a0) (_ : VR H0 xa1_0 a1_0) {r : Bool} (_ : m237 a0 a1_0 = some r), Ct Tryz.prog 237 [pa0, .agg (List.toArray [xa1_0])] [] H0 w0 fun v H' w' => v = .bool r := by
  intro H0 w0 a0 a1_0 pa0 xa1_0  hI ha0 ha1_0 r hm
  have hL := L.start hI
  refine ct_of Tryz.func237 rfl Tryz.ntmps237 rfl (Nat.le_of_ble_eq_true rfl) ?_
  unfold m237 at hm
  refine sr ?_
  refine wl rfl (o_box 0 (c := [_]) hL rfl rfl fun b0 w hL => ?_)
  refine sv (r_assign rfl) <| wt <| sr <| sv (r_loadk (hL.own 0 _ rfl) ag_33 rfl (vs := [_]) rfl rfl) ?_
  obtain ⟨t1, ht1, hm⟩ := bnd hm
  refine wl rfl (o_call0 hL fn_21 rfl (c21 hL.imm ha1_0 ht1) fun v H w hlet1 hL hR => ?_)
  replace ha0 := TyR.mono hlet1 ha0
  obtain rfl := hR
  refine sv (r_assign rfl) <| wt <| wp_seq <| sr <| sv (r_move rfl) ?_
  obtain ⟨hg2, hm⟩ := grd hm
  obtain ⟨bp3, aap3, cap3, abp3, cbp3, acp3, ccp3, hvp3, hcp3, hsap3, hsbp3, hscp3⟩ := TyR.get ha0 hg2
  refine sv (r_nilCheck (ev_eq rfl hvp3)) <| sv (r_fieldAddr fl_322_0 rfl) <| sv (r_loadH1 hL.imm sc_3 rfl (HC.sub hcp3 0 1 (us := [_]) rfl)) <| wt <| wp_block <| sr <| sv (r_eqi rfl rfl) <| sv (r_assign rfl) <| wt ?_
  refine c_if hm rfl (fun hg4 hm => ?_) (fun hg4 hm => ?_)
  · cases hm
  · refine sr <| sv (r_eqi rfl rfl) <| sv (r_assign rfl) <| wt ?_
    refine c_if hm rfl (fun hg5 hm => ?_) (fun hg5 hm => ?_)
    · refine sr <| sv (r_move rfl) <| sv (r_eqi rfl rfl) <| sv (r_assign rfl) <| wt <| wp_ret <| blk_r <| then_r ?_
      obtain rfl := ends hm
      exact rt rfl (.tmp rfl .nil) ⟨_, _, rfl, hL.ext, rfl⟩
    · cases hm

/-- (*kind.Type).Wrong -/
def S160 (F : Ty → J → Option (List Step × Bool)) : Prop := ∀ {H0 : Hp} {w0 : World} {a0 : Ty} {a1_0 : J} {pa0 : Value} {xa1_0 : Value}  (_ : Imm H0 w0) (_ : TyR H0 pa0 a0) (_ : VR H0 xa1_0 a1_0) {r : (List Step × Bool)} (_ : F a0 a1_0 = some r), Ct Tryz.prog 160 [pa0, .agg (List.toArray [xa1_0])] [] H0 w0 fun v H' w' => ∃ (ar0_0 : Option Addr) (cr0_0 : Nat), v = .tuple (List.toArray [.slice ar0_0 (List.length r.1) cr0_0, .bool r.2]) ∧ Sl cStep H' ar0_0 cr0_0 r.1
def m160o (f160 : Ty → J → Option (List Step × Bool)) (a0 : Ty) (a1_0 : J) : Option (List Step × Bool) :=
  (bif a0.isNo then none else ((m21 a1_0).bind fun t2 => (bif (t2 == (0 : Int)) then none else (bif (t2 == (1 : Int)) then (some (([] : List Step), false)) else (bif (decide (a0.form < (5 : Int))) then ((m237 a0 a1_0).bind fun t7 => (some (([] : List Step), (!t7)))) else none)))))
set_option maxHeartbeats 20000000 in
set_option maxRecDepth 100000 in
theorem c160o {f160 : Ty → J → Option (List Step × Bool)} (h160 : S160 f160) : S160 (m160o f160) := by
  unfold S160
  intro H0 w0 a0 a1_0 pa0 xa1_0  hI ha0 ha1_0 r hm
  have hL := L.start hI
  refine ct_of Tryz.func160 rfl Tryz.ntmps160 rfl (Nat.le_of_ble_eq_true rfl) ?_
  unfold m160o at hm
  refine sr ?_
  refine wl rfl (o_box 0 (c := [_]) hL rfl rfl fun b0 w hL => ?_)
  refine sv (r_assign rfl) <| sv (r_assign rfl) <| wt <| wp_seq <| sr <| sv (r_move rfl) <| sv (r_eqPN Tryz.underlying39 (TyR.pn ha0) rfl rfl) <| wt ?_
  refine c_if hm rfl (fun hg1 hm => ?_) (fun hg1 hm => ?_)
  · cases hm
  · refine wp_skip <| then_n <| sr <| sv (r_loadk (hL.own 0 _ rfl) ag_33 rfl (vs := [_]) rfl rfl) ?_
    obtain ⟨t2, ht2, hm⟩ := bnd hm
    refine wl rfl (o_call0 hL fn_21 rfl (c21 hL.imm ha1_0 ht2) fun v H w hlet2 hL hR => ?_)
    replace ha0 := TyR.mono hlet2 ha0
    replace ha1_0 := VR.mono hlet2 ha1_0
    obtain rfl := hR
    refine sv (r_assign rfl) <| wt <| wp_seq <| wp_block <| sr <| sv (r_move rfl) <| sv (r_eqi rfl rfl) <| sv (r_move rfl) ?_
    refine m_if hm (fun hg3 hm => ?_) (fun hg3 hm => ?_)
    · cases hm
    · refine wlT rfl rfl rfl rfl hg3 (o_val (r_move rfl) ?_)
      refine wlT rfl rfl rfl rfl hg3 (o_val (r_eqi rfl rfl) ?_)
      refine sv (r_pickF hg3 rfl rfl) <| sv (r_assign rfl) <| wt ?_
      refine c_if hm rfl (fun hg4 hm => ?_) (fun hg4 hm => ?_)
      · refine sr <| sv (r_assign rfl) <| sv (r_assign rfl) <| wt <| wp_ret <| blk_r <| then_r ?_
        obtain rfl := ends hm
        exact rt rfl (.tmp rfl (.tmp rfl .nil)) ⟨_, _, rfl, hL.ext, ⟨_, _, rfl, Sl.nil⟩⟩
      · refine sr <| sv (r_move rfl) ?_
        obtain ⟨bp5, aap5, cap5, abp5, cbp5, acp5, ccp5, hvp5, hcp5, hsap5, hsbp5, hscp5⟩ := TyR.get ha0 (congrArg (!·) hg1)
        refine sv (r_nilCheck (ev_eq rfl hvp5)) <| sv (r_fieldAddr fl_322_0 rfl) <| sv (r_loadH1 hL.imm sc_3 rfl (HC.sub hcp5 0 1 (us := [_]) rfl)) <| sv (r_lss rfl rfl) <| sv (r_assign rfl) <| wt ?_
        refine c_if hm rfl (fun hg6 hm => ?_) (fun hg6 hm => ?_)
        · refine sr <| sv (r_move rfl) <| sv (r_loadk (hL.own 0 _ rfl) ag_33 rfl (vs := [_]) rfl rfl) ?_
          obtain ⟨t7, ht7, hm⟩ := bnd hm
          refine wl rfl (o_call0 hL fn_237 rfl (c237 hL.imm ha0 ha1_0 ht7) fun v H w hlet7 hL hR => ?_)
          replace ha0 := TyR.mono hlet7 ha0
          replace ha1_0 := VR.mono hlet7 ha1_0
          obtain rfl := hR
          refine sv (r_not rfl) <| sv (r_assign rfl) <| sv (r_assign rfl) <| wt <| wp_ret <| blk_r <| then_r ?_
          obtain rfl := ends hm
          exact rt rfl (.tmp rfl (.tmp rfl .nil)) ⟨_, _, rfl, hL.ext, ⟨_, _, rfl, Sl.nil⟩⟩
        · cases hm
def m160n : Nat → Ty → J → Option (List Step × Bool)
  | 0 => fun _ _ => none
  | n + 1 => m160o (m160n n)
theorem c160n (n : Nat) : S160 (m160n n) := by
  induction n with
  | zero =>
    unfold S160
    intro H0 w0 a0 a1_0 pa0 xa1_0  hI ha0 ha1_0 r hm
    rw [m160n.eq_1] at hm
    cases hm
  | succ n ih => exact c160o ih
def m160 : Ty → J → Option (List Step × Bool) := m160n FUEL
theorem c160 : S160 m160 := c160n FUEL

/-- (*kind.Type).Takes -/
def m78 (a0 : Ty) (a1_0 : J) : Option Bool :=
  ((m160 a0 a1_0).bind fun t1 => (some ((!t1.2))))
set_option maxHeartbeats 20000000 in
set_option maxRecDepth 100000 in
theorem c78 : ∀ {H0 : Hp} {w0 : World} {a0 : Ty} {a1_0 : J} {pa0 : Value} {xa1_0 : Value}  (_ : Imm H0 w0) (_ : TyR H0 pa0 a0) (_ : VR H0 xa1_0 a1_0) {r : Bool} (_ : m78 a0 a1_0 = some r), Ct Tryz.prog 78 [pa0, .agg (List.toArray [xa1_0])] [] H0 w0 fun v H' w' => v = .bool r := by
  intro H0 w0 a0 a1_0 pa0 xa1_0  hI ha0 ha1_0 r hm
  have hL := L.start hI
  refine ct_of Tryz.func78 rfl Tryz.ntmps78 rfl (Nat.le_of_ble_eq_true rfl) ?_
  unfold m78 at hm
  refine sr ?_
  refine wl rfl (o_box 0 (c := [_]) hL rfl rfl fun b0 w hL => ?_)
  refine sv (r_assign rfl) <| wt <| sr <| sv (r_move rfl) <| sv (r_loadk (hL.own 0 _ rfl) ag_33 rfl (vs := [_]) rfl rfl) ?_
  obtain ⟨t1, ht1, hm⟩ := bnd hm
  refine wl rfl (o_call0 hL fn_160 rfl (c160 hL.imm ha0 ha1_0 ht1) fun v H w hlet1 hL hR => ?_)
  obtain ⟨at1r0_0, ct1r0_0, rfl, ht1r0_0⟩ := hR
  refine sv (r_move rfl) <| sv (r_extract rfl rfl) <| sv (r_extract rfl rfl) <| sv (r_assign rfl) <| sv (r_assign rfl) <| wt <| sr <| sv (r_move rfl) <| sv (r_not rfl) <| sv (r_assign rfl) <| wt <| wp_ret ?_
  obtain rfl := ends hm
  exact rt rfl (.tmp rfl .nil) ⟨_, _, rfl, hL.ext, rfl⟩

/-- text.join -/
def m141 (a0 : Bs) (a1 : List Bs) (a2 : Bs) : Option Bs :=
  ((m195 a1 [44]).bind fun t1 => (bif (decide (a0.length + t1.length ≤ LIM)) then (bif (decide ((a0 ++ t1).length + a2.length ≤ LIM)) then (some (((a0 ++ t1) ++ a2))) else none) else none))
set_option maxHeartbeats 20000000 in
set_option maxRecDepth 100000 in
theorem c141 : ∀ {H0 : Hp} {w0 : World} {a0 : Bs} {a1 : List Bs} {a2 : Bs} {aa1 : Option Addr} {ca1 : Nat}  (_ : Imm H0 w0) (_ : Sl cStr H0 aa1 ca1 a1) {r : Bs} (_ : m141 a0 a1 a2 = some r), Ct Tryz.prog 141 [.string (mk a0), .slice aa1 (List.length a1) ca1, .string (mk a2)] [] H0 w0 fun v H' w' => v = .string (mk r) := by
  intro H0 w0 a0 a1 a2 aa1 ca1  hI ha1 r hm
  have hL := L.start hI
  refine ct_of Tryz.func141 rfl Tryz.ntmps141 rfl (Nat.le_of_ble_eq_true rfl) ?_
  unfold m141 at hm
  refine sr <| sv (r_assign rfl) <| wt <| sr <| sv (r_move rfl) <| sv (r_move rfl) ?_
  obtain ⟨t1, ht1, hm⟩ := bnd hm
  refine wl rfl (o_call0 hL fn_195 rfl (c195 hL.imm ha1 ht1) fun v H w hlet1 hL hR => ?_)
  obtain rfl := hR
  obtain ⟨hg2, hm⟩ := grd hm
  refine sv (r_cat (of_decide_eq_true hg2) rfl rfl) <| sv (r_move rfl) ?_
  obtain ⟨hg3, hm⟩ := grd hm
  refine sv (r_cat (of_decide_eq_true hg3) rfl rfl) <| sv (r_assign rfl) <| wt <| wp_ret ?_
  obtain rfl := ends hm
  exact rt rfl (.tmp rfl .nil) ⟨_, _, rfl, hL.ext, rfl⟩

/-- text.Quote -/
def m143_l0 (a0 : Bs) : Nat → Int → Bs → Option Bs
  | 0, _, _ => none
  | k + 1, v9_1, u1R_1 => (bif (decide (v9_1 < (a0.length : Int))) then (bif (decide (0 ≤ v9_1 ∧ v9_1 < (a0.length : Int))) then (bif ((bat a0 v9_1) == (34 : Int)) then none else (bif ((bat a0 v9_1) == (92 : Int)) then none else (bif (decide ((bat a0 v9_1) < (32 : Int))) then none else (bif (decide ((126 : Int) < (bat a0 v9_1))) then none else ((m206 u1R_1 (bat a0 v9_1)).bind fun t8 => (m143_l0 a0 k (IntKind.wrap .i64 (v9_1 + (1 : Int))) t8.2)))))) else none) else ((m206 u1R_1 (34 : Int)).bind fun t9 => ((m123 t9.2).bind fun t10 => (some (t10)))))
def m143 (a0 : Bs) : Option Bs :=
  ((m206 ([] : Bs) (34 : Int)).bind fun t1 => (m143_l0 a0 FUEL (0 : Int) t1.2))
set_option maxHeartbeats 20000000 in
set_option maxRecDepth 100000 in
theorem c143 : ∀ {H0 : Hp} {w0 : World} {a0 : Bs}  (_ : Imm H0 w0) {r : Bs} (_ : m143 a0 = some r), Ct Tryz.prog 143 [.string (mk a0)] [] H0 w0 fun v H' w' => v = .string (mk r) := by
  intro H0 w0 a0  hI r hm
  have hL := L.start hI
  refine ct_of Tryz.func143 rfl Tryz.ntmps143 rfl (Nat.le_of_ble_eq_true rfl) ?_
  unfold m143 at hm
  refine sr <| sv (r_assign rfl) <| wt <| sr ?_
  refine wl rfl (o_alloc 0 (c := [_, _]) hL ze_201 rfl fun b0 w hL => ?_)
  refine wt <| sr ?_
  have hL := hL.addNil 1 5 1
  obtain ⟨t1, ht1, hm⟩ := bnd hm
  have hL := hL.merge 0 1 rfl rfl rfl
  refine wl rfl (o_callE 0 hL fn_206 rfl rfl (c206 hL.imm (hL.own 0 _ rfl) (fun b' hb' => (hL.non 0 _ rfl b' hb').1) (Or.inl rfl) LC.nil ht1) fun x v H w hlet1 hL hR => ?_)
  obtain ⟨pt1r0_0, at1m0_1, ct1m0_1, zt1m0_1, pt1m0_0⟩ := x
  try dsimp only at hL hR
  obtain ⟨hv_, ht1r0_0, ht1m0_1, ht1m0_0⟩ := hR
  subst v
  have hL := hL.split 0 1 rfl rfl (.inr rfl)
  have hL := hL.pick [(0, .cel b0 (pt1m0_0 :: (.slice at1m0_1 (List.length t1.2) ct1m0_1) :: []) 201), (1, .row (.slice at1m0_1 (List.length t1.2) ct1m0_1) 5 1 (List.length t1.2) zt1m0_1)] rfl
  refine wt <| wp_seq <| sr <| sv (r_move rfl) <| sv (r_lens rfl Tryz.underlying9 rfl) <| sv (r_move rfl) <| wt <| wp_block <| wp_loop_fuel (k := FUEL) (fun k a w => ∃ (v9_1 : Int) (u1R_1 : Bs) (pu0_0_1 : Value) (au1R_1 : Option Addr) (cu1R_1 : Nat) (zu1R_1 : List Value) (l : List (Nat × Value)) (H : Hp), a = fr 49 ([(0, .string (mk a0)), (2, .string (mk ([] : Bs))), (3, .pointer (some ⟨b0, 0, none⟩)), (8, .int .i64 (a0.length : Int)), (9, .int .i64 v9_1)] ++ l) [] ∧ L [] H0 w0 [(0, .cel b0 (pu0_0_1 :: (.slice au1R_1 (List.length u1R_1) cu1R_1) :: []) 201), (1, .row (.slice au1R_1 (List.length u1R_1) cu1R_1) 5 1 (List.length u1R_1) zu1R_1)] H w ∧ BP b0 pu0_0_1 ∧ LC cB8 H zu1R_1 u1R_1 ∧ (m143_l0 a0 k v9_1 u1R_1) = some r) ⟨_, _, _, _, _, _, _, _, fr_pre _ rfl, hL.pick _ rfl, ht1m0_0, ht1m0_1, hm⟩ ?_
  rintro k0 a w ⟨v9_1, u1R_1, pu0_0_1, au1R_1, cu1R_1, zu1R_1, l, H, rfl, hL, hu0_0_1, hu1R_1, hm⟩
  cases k0 with
  | zero => rw [m143_l0.eq_1] at hm; cases hm
  | succ k0 =>
    rw [m143_l0.eq_2] at hm
    refine sr <| sv (r_lss rfl rfl) <| wt <| wp_seq ?_
    refine c_if hm rfl (fun hg2 hm => ?_) (fun hg2 hm => ?_)
    · refine wp_skip <| then_n <| wp_seq <| wp_block <| sr <| sv (r_move rfl) <| sv (r_assign rfl) <| wt <| sr <| sv (r_move rfl) <| sv (r_move rfl) ?_
      obtain ⟨hg3, hm⟩ := grd hm
      refine sv (r_index Tryz.underlying9 hg3 rfl rfl) <| sv (r_assign rfl) <| wt <| wp_block <| sr <| sv (r_move rfl) <| sv (r_eqi rfl rfl) <| sv (r_move rfl) ?_
      refine m_if hm (fun hg4 hm => ?_) (fun hg4 hm => ?_)
      · cases hm
      · refine wlT rfl rfl rfl rfl hg4 (o_val (r_move rfl) ?_)
        refine wlT rfl rfl rfl rfl hg4 (o_val (r_eqi rfl rfl) ?_)
        refine sv (r_pickF hg4 rfl rfl) <| sv (r_assign rfl) <| wt ?_
        refine c_if hm rfl (fun hg5 hm => ?_) (fun hg5 hm => ?_)
        · cases hm
        · refine sr <| sv (r_move rfl) <| sv (r_lss rfl rfl) <| sv (r_move rfl) ?_
          refine m_if hm (fun hg6 hm => ?_) (fun hg6 hm => ?_)
          · cases hm
          · refine wlT rfl rfl rfl rfl hg6 (o_val (r_move rfl) ?_)
            refine wlT rfl rfl rfl rfl hg6 (o_val (r_gtr rfl rfl) ?_)
            refine sv (r_pickF hg6 rfl rfl) <| sv (r_assign rfl) <| wt ?_
            refine c_if hm rfl (fun hg7 hm => ?_) (fun hg7 hm => ?_)
            · cases hm
            · refine rg <| sv (r_move rfl) ?_
              obtain ⟨t8, ht8, hm⟩ := bnd hm
              have hL := hL.merge 0 1 rfl rfl rfl
              refine wl rfl (o_callE 0 hL fn_206 rfl rfl (c206 hL.imm (hL.own 0 _ rfl) (fun b' hb' => (hL.non 0 _ rfl b' hb').1) hu0_0_1 hu1R_1 ht8) fun x v H w hlet8 hL hR => ?_)
              obtain ⟨pt8r0_0, at8m0_1, ct8m0_1, zt8m0_1, pt8m0_0⟩ := x
              try dsimp only at hL hR
              replace hu1R_1 := LC.mono hlet8 hu1R_1
              obtain ⟨hv_, ht8r0_0, ht8m0_1, ht8m0_0⟩ := hR
              subst v
              have hL := hL.split 0 1 rfl rfl (.inr rfl)
              have hL := hL.pick [(0, .cel b0 (pt8m0_0 :: (.slice at8m0_1 (List.length t8.2) ct8m0_1) :: []) 201), (1, .row (.slice at8m0_1 (List.length t8.2) ct8m0_1) 5 1 (List.length t8.2) zt8m0_1)] rfl
              refine wn <| blk_n <| blk_n <| then_n <| rg <| sv (r_add rfl rfl) <| sv (r_move rfl) <| wt ?_
              exact ⟨k0, Nat.lt_succ_self k0, _, _, _, _, _, _, _, _, fr_pre _ rfl, hL.pick _ rfl, ht8m0_0, ht8m0_1, hm⟩
    · refine wp_exit <| then_e <| then_e <| blk_e <| then_n <| sr ?_
      obtain ⟨t9, ht9, hm⟩ := bnd hm
      have hL := hL.merge 0 1 rfl rfl rfl
      refine wl rfl (o_callE 0 hL fn_206 rfl rfl (c206 hL.imm (hL.own 0 _ rfl) (fun b' hb' => (hL.non 0 _ rfl b' hb').1) hu0_0_1 hu1R_1 ht9) fun x v H w hlet9 hL hR => ?_)
      obtain ⟨pt9r0_0, at9m0_1, ct9m0_1, zt9m0_1, pt9m0_0⟩ := x
      try dsimp only at hL hR
      obtain ⟨hv_, ht9r0_0, ht9m0_1, ht9m0_0⟩ := hR
      subst v
      have hL := hL.split 0 1 rfl rfl (.inr rfl)
      have hL := hL.pick [(0, .cel b0 (pt9m0_0 :: (.slice at9m0_1 (List.length t9.2) ct9m0_1) :: []) 201), (1, .row (.slice at9m0_1 (List.length t9.2) ct9m0_1) 5 1 (List.length t9.2) zt9m0_1)] rfl
      refine wt <| sr ?_
      obtain ⟨t10, ht10, hm⟩ := bnd hm
      have hL := hL.merge 0 1 rfl rfl rfl
      refine wl rfl (o_call1 0 (r1 := .gone) hL fn_123 rfl rfl (c123 hL.imm (hL.own 0 _ rfl) (fun b' hb' => (hL.non 0 _ rfl b' hb').1) ht9m0_0 ht9m0_1 ht10) fun v H w hlet10 hL hR => ?_)
      obtain rfl := hR
      refine sv (r_assign rfl) <| wt <| wp_ret ?_
      obtain rfl := ends hm
      exact rt rfl (.tmp rfl .nil) ⟨_, _, rfl, hL.ext, rfl⟩

/-- text.all -/
def S67 (F : J → Option Bs) : Prop := ∀ {H0 : Hp} {w0 : World} {a0_0 : J} {xa0_0 : Value}  (_ : Imm H0 w0) (_ : GT H0) (_ : VR H0 xa0_0 a0_0) {r : Bs} (_ : F a0_0 = some r), Ct Tryz.prog 67 [.agg (List.toArray [xa0_0])] [] H0 w0 fun v H' w' => v = .string (mk r)
def m144_l0 (f67 : J → Option Bs) (a0 : List J) : Nat → Int → List Bs → Option (List Bs)
  | 0, _, _ => none
  | k + 1, v8_1, u0R_1 => (bif (decide (v8_1 < (a0.length : Int))) then (bif (decide (0 ≤ v8_1 ∧ v8_1 < (a0.length : Int))) then ((f67 (a0.getD (v8_1).toNat J.null)).bind fun t4 => (bif (decide (u0R_1.length + ([t4] : List Bs).length ≤ LIM)) then (m144_l0 f67 a0 k (IntKind.wrap .i64 (v8_1 + (1 : Int))) (u0R_1 ++ ([t4] : List Bs))) else none)) else none) else (some (u0R_1)))
def m144 (f67 : J → Option Bs) (a0 : List J) : Option (List Bs) :=
  (m144_l0 f67 a0 FUEL (0 : Int) ([] : List Bs))
set_option maxHeartbeats 20000000 in
set_option maxRecDepth 100000 in
theorem c144 {f67 : J → Option Bs} (h67 : S67 f67) : ∀ {H0 : Hp} {w0 : World} {a0 : List J} {aa0 : Option Addr} {ca0 : Nat}  (_ : Imm H0 w0) (_ : GT H0) (_ : Sl cJ H0 aa0 ca0 a0) {r : List Bs} (_ : m144 f67 a0 = some r), Ct Tryz.prog 144 [.slice aa0 (List.length a0) ca0] [] H0 w0 fun v H' w' => ∃ x : (Option Addr) × Nat × (List Value), (v = .slice (x.1) (List.length r) (x.2.1) ∧ LC cStr H' (x.2.2) r) ∧ Rs.holds w' (.row (.slice (x.1) (List.length r) (x.2.1)) 9 1 (List.length r) (x.2.2)) ∧ ∀ b' ∈ Rs.foot (.row (.slice (x.1) (List.length r) (x.2.1)) 9 1 (List.length r) (x.2.2)), H' b' = none ∧ (b' ∈ Rs.foot .gone ∨ w0.heap.size ≤ b') := by
  intro H0 w0 a0 aa0 ca0  hI hG ha0 r hm
  have hL := L.start hI
  refine ct_of Tryz.func144 rfl Tryz.ntmps144 rfl (Nat.le_of_ble_eq_true rfl) ?_
  unfold m144 at hm
  refine sr <| sv (r_assign rfl) <| wt <| sr <| sv (r_assign rfl) <| wt <| wp_seq <| sr <| sv (r_move rfl) <| sv (r_lenS rfl Tryz.underlying23 rfl) <| sv (r_move rfl) <| wt <| wp_block ?_
  have hL := hL.addNil 0 9 1
  refine wp_loop_fuel (k := FUEL) (fun k a w => ∃ (v8_1 : Int) (u0R_1 : List Bs) (au0R_1 : Option Addr) (cu0R_1 : Nat) (zu0R_1 : List Value) (l : List (Nat × Value)) (H : Hp), a = fr 19 ([(2, .slice none 0 0), (3, .slice au0R_1 (List.length u0R_1) cu0R_1), (6, .slice aa0 (List.length a0) ca0), (7, .int .i64 (a0.length : Int)), (8, .int .i64 v8_1)] ++ l) [] ∧ L [] H0 w0 [(0, .row (.slice au0R_1 (List.length u0R_1) cu0R_1) 9 1 (List.length u0R_1) zu0R_1)] H w ∧ GT H ∧ Sl cJ H aa0 ca0 a0 ∧ LC cStr H zu0R_1 u0R_1 ∧ (m144_l0 f67 a0 k v8_1 u0R_1) = some r) ⟨_, _, _, _, _, _, _, fr_pre _ rfl, hL.pick _ rfl, hG, ha0, LC.nil, hm⟩ ?_
  rintro k0 a w ⟨v8_1, u0R_1, au0R_1, cu0R_1, zu0R_1, l, H, rfl, hL, hG, ha0, hu0R_1, hm⟩
  cases k0 with
  | zero => rw [m144_l0.eq_1] at hm; cases hm
  | succ k0 =>
    rw [m144_l0.eq_2] at hm
    refine sr <| sv (r_lss rfl rfl) <| wt <| wp_seq ?_
    refine c_if hm rfl (fun hg1 hm => ?_) (fun hg1 hm => ?_)
    · refine wp_skip <| then_n <| wp_seq <| wp_block <| sr ?_
      obtain ⟨hg3, hm⟩ := grd hm
      obtain ⟨be2, oe2, _, hae2, hce2, ⟨xe20, rfl, he20⟩⟩ := Sl.at ha0 J.null hg3
      refine sv (r_indexAddr el_23 hg3 hae2 rfl rfl) <| sv (r_loadHk hL.imm ag_33 rfl (vs := [_]) hce2 rfl) ?_
      refine wl rfl (o_alloc 1 (c := [_]) hL ze_33 rfl fun b1 w hL => ?_)
      refine wl rfl (o_storek (i := 1) (vs := [_]) hL ag_33 rfl rfl rfl rfl (Nat.le_of_ble_eq_true rfl) (List.forall_mem_cons.2 ⟨(VR.one he20), List.forall_mem_nil _⟩) (c' := _ :: []) rfl fun w hL => ?_)
      refine wt <| rg <| sv (r_move rfl) <| sv (r_loadk (hL.own 1 _ rfl) ag_33 rfl (vs := [_]) rfl rfl) ?_
      obtain ⟨t4, ht4, hm⟩ := bnd hm
      refine wl rfl (o_call0 hL fn_67 rfl (h67 hL.imm hG he20 ht4) fun v H w hlet4 hL hR => ?_)
      replace hG := GT.mono hlet4 hG
      replace ha0 := Sl.mono hlet4 ha0
      replace hu0R_1 := LC.mono hlet4 hu0R_1
      obtain rfl := hR
      have hww5 : LC cStr hL.hp [.string (mk t4)] ([t4] : List Bs) := (LC.cons (K := cStr) (cs := [.string (mk t4)]) rfl LC.nil)
      refine wl rfl (o_buildSlice (C := cStr) 2 hL el_30 ze_9 rfl (.cons rfl .nil) rfl rfl rfl rfl hww5 fun gw5 w hL => ?_)
      obtain ⟨hg6, hm⟩ := grd hm
      refine wl rfl (o_append (C := cStr) 0 2 hL el_30 rfl rfl rfl rfl hww5 rfl hg6 fun gw7 cw7 w hL => ?_)
      have hww7 := LC.append hu0R_1 hww5
      refine sv (r_assign rfl) <| wn <| blk_n <| then_n <| rg <| sv (r_add rfl rfl) <| sv (r_move rfl) <| wt ?_
      exact ⟨k0, Nat.lt_succ_self k0, _, _, _, _, _, _, _, fr_pre _ rfl, hL.pick _ rfl, hG, ha0, hww7, hm⟩
    · refine wp_exit <| then_e <| then_e <| blk_e <| then_n <| sr <| sv (r_move rfl) <| sv (r_assign rfl) <| wt <| wp_ret ?_
      obtain rfl := ends hm
      refine rt rfl (.tmp rfl .nil) ⟨_, _, rfl, hL.ext, ?_⟩
      exact ⟨⟨au0R_1, cu0R_1, zu0R_1⟩, ⟨rfl, hu0R_1⟩, hL.give (i := 0) rfl⟩

/-- text.Write -/
def m67_l0 (t17 : List Bs) : Nat → Int → List Bs → Option Bs
  | 0, _, _ => none
  | k + 1, v74_1, u1R_1 => (bif (decide (v74_1 < (t17.length : Int))) then (bif (decide (0 ≤ v74_1 ∧ v74_1 < (t17.length : Int))) then (bif (decide (0 ≤ v74_1 ∧ v74_1 < (u1R_1.length : Int))) then ((m143 (t17.getD (v74_1).toNat ([] : Bs))).bind fun t24 => (bif (decide (t24.length + [58].length ≤ LIM)) then (bif (decide ((t24 ++ [58]).length + (u1R_1.getD (v74_1).toNat ([] : Bs)).length ≤ LIM)) then (m67_l0 t17 k (IntKind.wrap .i64 (v74_1 + (1 : Int))) (List.set u1R_1 (v74_1).toNat ((t24 ++ [58]) ++ (u1R_1.getD (v74_1).toNat ([] : Bs))))) else none) else none)) else none) else none) else ((m141 [123] u1R_1 [125]).bind fun t30 => (some (t30))))
def m67o (f67 : J → Option Bs) (a0_0 : J) : Option Bs :=
  ((m21 a0_0).bind fun t1 => (bif (t1 == (1 : Int)) then (some ([63])) else (bif (t1 == (2 : Int)) then none else (bif (t1 == (3 : Int)) then ((m139 a0_0).bind fun t5 => ((m121 t5.1).bind fun t6 => (some (t6)))) else (bif (t1 == (4 : Int)) then none else (bif (t1 == (5 : Int)) then none else (bif (t1 == (6 : Int)) then ((m130 a0_0).bind fun t10 => ((m144 f67 t10).bind fun t11 => ((m141 [91] t11 [93]).bind fun t13 => (some (t13))))) else (bif (t1 == (7 : Int)) then ((m130 a0_0).bind fun t15 => ((m144 f67 t15).bind fun t16 => ((m131 a0_0).bind fun t17 => (m67_l0 t17 FUEL (0 : Int) t16)))) else none))))))))
set_option maxHeartbeats 20000000 in
set_option maxRecDepth 100000 in
theorem c67o {f67 : J → Option Bs} (h67 : S67 f67) : S67 (m67o f67) := by
  unfold S67
  intro H0 w0 a0_0 xa0_0  hI hG ha0_0 r hm
  have hL := L.start hI
  refine ct_of Tryz.func67 rfl Tryz.ntmps67 rfl (Nat.le_of_ble_eq_true rfl) ?_
  unfold m67o at hm
  refine sr ?_
  refine wl rfl (o_box 0 (c := [_]) hL rfl rfl fun b0 w hL => ?_)
  refine sv (r_assign rfl) <| wt <| wp_seq <| sr <| sv (r_loadk (hL.own 0 _ rfl) ag_33 rfl (vs := [_]) rfl rfl) ?_
  obtain ⟨t1, ht1, hm⟩ := bnd hm
  refine wl rfl (o_call0 hL fn_21 rfl (c21 hL.imm ha0_0 ht1) fun v H w hlet1 hL hR => ?_)
  replace hG := GT.mono hlet1 hG
  replace ha0_0 := VR.mono hlet1 ha0_0
  obtain rfl := hR
  refine wt <| wp_block <| sr <| sv (r_eqi rfl rfl) <| sv (r_assign rfl) <| wt ?_
  refine c_if hm rfl (fun hg2 hm => ?_) (fun hg2 hm => ?_)
  · refine sr <| sv (r_assign rfl) <| wt <| wp_ret <| blk_r <| then_r ?_
    obtain rfl := ends hm
    exact rt rfl (.tmp rfl .nil) ⟨_, _, rfl, hL.ext, rfl⟩
  · refine sr <| sv (r_eqi rfl rfl) <| sv (r_assign rfl) <| wt ?_
    refine c_if hm rfl (fun hg3 hm => ?_) (fun hg3 hm => ?_)
    · cases hm
    · refine sr <| sv (r_eqi rfl rfl) <| sv (r_assign rfl) <| wt ?_
      refine c_if hm rfl (fun hg4 hm => ?_) (fun hg4 hm => ?_)
      · refine sr <| sv (r_loadk (hL.own 0 _ rfl) ag_33 rfl (vs := [_]) rfl rfl) ?_
        obtain ⟨t5, ht5, hm⟩ := bnd hm
        refine wl rfl (o_call0 hL fn_139 rfl (c139 hL.imm ha0_0 ht5) fun v H w hlet5 hL hR => ?_)
        replace hG := GT.mono hlet5 hG
        replace ha0_0 := VR.mono hlet5 ha0_0
        obtain rfl := hR
        refine sv (r_move rfl) <| sv (r_extract rfl rfl) <| sv (r_extract rfl rfl) <| sv (r_assign rfl) <| sv (r_assign rfl) <| wt <| sr <| sv (r_move rfl) ?_
        obtain ⟨t6, ht6, hm⟩ := bnd hm
        refine wl rfl (o_call0 hL fn_121 rfl (c121 hL.imm hG ht6) fun v H w hlet6 hL hR => ?_)
        replace hG := GT.mono hlet6 hG
        replace ha0_0 := VR.mono hlet6 ha0_0
        obtain rfl := hR
        refine sv (r_assign rfl) <| wt <| wp_ret <| blk_r <| then_r ?_
        obtain rfl := ends hm
        exact rt rfl (.tmp rfl .nil) ⟨_, _, rfl, hL.ext, rfl⟩
      · refine sr <| sv (r_eqi rfl rfl) <| sv (r_assign rfl) <| wt ?_
        refine c_if hm rfl (fun hg7 hm => ?_) (fun hg7 hm => ?_)
        · cases hm
        · refine sr <| sv (r_eqi rfl rfl) <| sv (r_assign rfl) <| wt ?_
          refine c_if hm rfl (fun hg8 hm => ?_) (fun hg8 hm => ?_)
          · cases hm
          · refine sr <| sv (r_eqi rfl rfl) <| sv (r_assign rfl) <| wt ?_
            refine c_if hm rfl (fun hg9 hm => ?_) (fun hg9 hm => ?_)
            · refine sr <| sv (r_loadk (hL.own 0 _ rfl) ag_33 rfl (vs := [_]) rfl rfl) ?_
              obtain ⟨t10, ht10, hm⟩ := bnd hm
              refine wl rfl (o_call0 hL fn_130 rfl (c130 hL.imm ha0_0 ht10) fun v H w hlet10 hL hR => ?_)
              replace hG := GT.mono hlet10 hG
              replace ha0_0 := VR.mono hlet10 ha0_0
              obtain ⟨at10r0_0, ct10r0_0, rfl, ht10r0_0⟩ := hR
              obtain ⟨t11, ht11, hm⟩ := bnd hm
              have hL := hL.room 1
              refine wl rfl (o_callE 1 hL fn_144 rfl rfl (c144 h67 hL.imm hG ht10r0_0 ht11) fun x v H w hlet11 hL hR => ?_)
              obtain ⟨at11r0_0, ct11r0_0, zt11r0_0⟩ := x
              try dsimp only at hL hR
              replace hG := GT.mono hlet11 hG
              replace ha0_0 := VR.mono hlet11 ha0_0
              obtain ⟨rfl, ht11r0_0⟩ := hR
              obtain ⟨H, hlez12, hL, hsz12⟩ := hL.settle (i := 1) (K := cStr) rfl ht11r0_0
              replace hG := GT.mono hlez12 hG
              replace ha0_0 := VR.mono hlez12 ha0_0
              obtain ⟨t13, ht13, hm⟩ := bnd hm
              refine wl rfl (o_call0 hL fn_141 rfl (c141 hL.imm hsz12 ht13) fun v H w hlet13 hL hR => ?_)
              replace hG := GT.mono hlet13 hG
              replace ha0_0 := VR.mono hlet13 ha0_0
              obtain rfl := hR
              refine sv (r_assign rfl) <| wt <| wp_ret <| blk_r <| then_r ?_
              obtain rfl := ends hm
              exact rt rfl (.tmp rfl .nil) ⟨_, _, rfl, hL.ext, rfl⟩
            · refine sr <| sv (r_eqi rfl rfl) <| sv (r_assign rfl) <| wt ?_
              refine c_if hm rfl (fun hg14 hm => ?_) (fun hg14 hm => ?_)
              · refine sr <| sv (r_loadk (hL.own 0 _ rfl) ag_33 rfl (vs := [_]) rfl rfl) ?_
                obtain ⟨t15, ht15, hm⟩ := bnd hm
                refine wl rfl (o_call0 hL fn_130 rfl (c130 hL.imm ha0_0 ht15) fun v H w hlet15 hL hR => ?_)
                replace hG := GT.mono hlet15 hG
                replace ha0_0 := VR.mono hlet15 ha0_0
                obtain ⟨at15r0_0, ct15r0_0, rfl, ht15r0_0⟩ := hR
                obtain ⟨t16, ht16, hm⟩ := bnd hm
                have hL := hL.room 1
                refine wl rfl (o_callE 1 hL fn_144 rfl rfl (c144 h67 hL.imm hG ht15r0_0 ht16) fun x v H w hlet16 hL hR => ?_)
                obtain ⟨at16r0_0, ct16r0_0, zt16r0_0⟩ := x
                try dsimp only at hL hR
                replace hG := GT.mono hlet16 hG
                replace ha0_0 := VR.mono hlet16 ha0_0
                obtain ⟨rfl, ht16r0_0⟩ := hR
                refine sv (r_assign rfl) <| wt <| wp_seq <| sr <| sv (r_loadk (hL.own 0 _ rfl) ag_33 rfl (vs := [_]) rfl rfl) ?_
                obtain ⟨t17, ht17, hm⟩ := bnd hm
                refine wl rfl (o_call0 hL fn_131 rfl (c131 hL.imm ha0_0 ht17) fun v H w hlet17 hL hR => ?_)
                replace hG := GT.mono hlet17 hG
                replace ha0_0 := VR.mono hlet17 ha0_0
                replace ht16r0_0 := LC.mono hlet17 ht16r0_0
                obtain ⟨at17r0_0, ct17r0_0, rfl, ht17r0_0⟩ := hR
                refine sv (r_lenS rfl Tryz.underlying30 rfl) <| sv (r_move rfl) <| wt <| wp_block <| wp_loop_fuel (k := FUEL) (fun k a w => ∃ (v74_1 : Int) (u1R_1 : List Bs) (au1R_1 : Option Addr) (cu1R_1 : Nat) (zu1R_1 : List Value) (l : List (Nat × Value)) (H : Hp), a = fr 93 ([(2, .string (mk ([] : Bs))), (12, .slice au1R_1 (List.length u1R_1) cu1R_1), (72, .slice at17r0_0 (List.length t17) ct17r0_0), (73, .int .i64 (t17.length : Int)), (74, .int .i64 v74_1)] ++ l) [] ∧ L [] H0 w0 [(0, .cel b0 (xa0_0 :: []) 33), (1, .row (.slice au1R_1 (List.length u1R_1) cu1R_1) 9 1 (List.length u1R_1) zu1R_1)] H w ∧ GT H ∧ VR H xa0_0 a0_0 ∧ Sl cStr H at17r0_0 ct17r0_0 t17 ∧ LC cStr H zu1R_1 u1R_1 ∧ (m67_l0 t17 k v74_1 u1R_1) = some r) ⟨_, _, _, _, _, _, _, fr_pre _ rfl, hL.pick _ rfl, hG, ha0_0, ht17r0_0, ht16r0_0, hm⟩ ?_
                rintro k0 a w ⟨v74_1, u1R_1, au1R_1, cu1R_1, zu1R_1, l, H, rfl, hL, hG, ha0_0, ht17r0_0, hu1R_1, hm⟩
                cases k0 with
                | zero => rw [m67_l0.eq_1] at hm; cases hm
                | succ k0 =>
                  rw [m67_l0.eq_2] at hm
                  refine sr <| sv (r_lss rfl rfl) <| wt <| wp_seq ?_
                  refine c_if hm rfl (fun hg18 hm => ?_) (fun hg18 hm => ?_)
                  · refine wp_skip <| then_n <| wp_seq <| wp_block <| sr <| sv (r_move rfl) ?_
                    obtain ⟨hg20, hm⟩ := grd hm
                    obtain ⟨be19, oe19, _, hae19, hce19, rfl⟩ := Sl.at ht17r0_0 ([] : Bs) hg20
                    refine sv (r_indexAddr el_30 hg20 hae19 rfl rfl) <| sv (r_loadH1 hL.imm sc_9 rfl hce19) <| sv (r_assign rfl) <| sv (r_assign rfl) <| wt <| rdO hL [1] [11] [_] (.lt 0 [] (.lt 1 [] (.lt 2 [] (.lt 5 [] (.lt 6 [] (.lt 7 [] (.lt 8 [0] (.hv 3 [0] (.lt 4 [] (.lt 9 [] (.lt 10 [] (.hv 11 [] .dn)))))))))))) mixed rfl (by kernel_rfl) fun w hL => ov rfl (fun w hS => r_move rfl) <| ov rfl (fun w hS => r_move rfl) <| ov rfl (fun w hS => r_move rfl) <| ov rfl (fun w hS => r_move rfl) <| ov rfl (fun w hS => r_move rfl) ?_
                    obtain ⟨hg21, hm⟩ := grd hm
                    obtain ⟨ge22, hge22, hae22⟩ := row_at (hL.own 1 _ rfl) hg21
                    refine ov rfl (fun w hS => r_indexAddr el_30 hg21 hae22 rfl rfl) ?_
                    obtain ⟨_, rfl, hce23⟩ := LC.at hu1R_1 ([] : Bs) hg21
                    refine ov rfl (fun w hS => r_loadR1 hS.2.1 hge22 sc_9 rfl hce23) ?_
                    obtain ⟨t24, ht24, hm⟩ := bnd hm
                    refine oh rfl rfl (o_call0 hL fn_143 rfl (c143 hL.imm ht24) fun v H w hlet24 hL hR => ⟨Sa.of hL ((Hle.refl _).trans hlet24) [1] rfl, ?_⟩)
                    replace hG := GT.mono hlet24 hG
                    replace ha0_0 := VR.mono hlet24 ha0_0
                    replace ht17r0_0 := Sl.mono hlet24 ht17r0_0
                    replace hu1R_1 := LC.mono hlet24 hu1R_1
                    obtain rfl := hR
                    obtain ⟨hg25, hm⟩ := grd hm
                    refine ov rfl (fun w hS => r_cat (of_decide_eq_true hg25) rfl rfl) ?_
                    obtain ⟨hg26, hm⟩ := grd hm
                    refine ov rfl (fun w hS => r_cat (of_decide_eq_true hg26) rfl rfl) ?_
                    obtain ⟨ge27, hge27, hae27⟩ := row_at (hL.own 1 _ rfl) hg21
                    refine ov rfl (fun w hS => r_indexAddr el_30 hg21 hae27 rfl rfl) ?_
                    refine oh rfl rfl (o_storeR (i := 1) (C := cStr) (y0 := ((t24 ++ [58]) ++ (u1R_1.getD (v74_1).toNat ([] : Bs)))) (us := [.string (mk ((t24 ++ [58]) ++ (u1R_1.getD (v74_1).toNat ([] : Bs))))]) hL (.inl ⟨sc_9, rfl⟩) rfl rfl rfl hge27 hu1R_1 hg21 rfl (List.forall_mem_cons.2 ⟨rfl, List.forall_mem_nil _⟩) fun zw28 w hww28 hL => ⟨Sa.of hL ((Hle.refl _).trans hlet24) [] rfl, ?_⟩)
                    try rw [sl_len au1R_1 cu1R_1 u1R_1 (v74_1).toNat ((t24 ++ [58]) ++ (u1R_1.getD (v74_1).toNat ([] : Bs)))]
                    try rw [sl_len au1R_1 cu1R_1 u1R_1 (v74_1).toNat ((t24 ++ [58]) ++ (u1R_1.getD (v74_1).toNat ([] : Bs)))] at hL
                    refine on <| blk_n <| then_n <| rg <| sv (r_add rfl rfl) <| sv (r_move rfl) <| wt ?_
                    exact ⟨k0, Nat.lt_succ_self k0, _, _, _, _, _, _, _, fr_pre _ rfl, hL.pick _ rfl, hG, ha0_0, ht17r0_0, hww28, hm⟩
                  · refine wp_exit <| then_e <| then_e <| blk_e <| then_n <| sr <| sv (r_move rfl) ?_
                    obtain ⟨H, hlez29, hL, hsz29⟩ := hL.settle (i := 1) (K := cStr) rfl hu1R_1
                    replace hG := GT.mono hlez29 hG
                    replace ha0_0 := VR.mono hlez29 ha0_0
                    obtain ⟨t30, ht30, hm⟩ := bnd hm
                    refine wl rfl (o_call0 hL fn_141 rfl (c141 hL.imm hsz29 ht30) fun v H w hlet30 hL hR => ?_)
                    replace hG := GT.mono hlet30 hG
                    replace ha0_0 := VR.mono hlet30 ha0_0
                    obtain rfl := hR
                    refine sv (r_assign rfl) <| wt <| wp_ret <| blk_r <| then_r ?_
                    obtain rfl := ends hm
                    exact rt rfl (.tmp rfl .nil) ⟨_, _, rfl, hL.ext, rfl⟩
              · cases hm
def m67n : Nat → J → Option Bs
  | 0 => fun _ => none
  | n + 1 => m67o (m67n n)
theorem c67n (n : Nat) : S67 (m67n n) := by
  induction n with
  | zero =>
    unfold S67
    intro H0 w0 a0_0 xa0_0  hI hG ha0_0 r hm
    rw [m67n.eq_1] at hm
    cases hm
  | succ n ih => exact c67o ih
def m67 : J → Option Bs := m67n FUEL
theorem c67 : S67 m67 := c67n FUEL

/-- slices.IndexFunc[[]string,string] -/
def m385s_l0 (a0 : List Bs) : Nat → Option Int
  | 0 => none
  | k + 1 => (bif (decide ((0 : Int) < (a0.length : Int))) then none else (some (((-1) : Int))))
def m385s (a0 : List Bs) : Option Int :=
  (m385s_l0 a0 FUEL )
set_option maxHeartbeats 20000000 in
set_option maxRecDepth 100000 in
theorem c385s : ∀ {H0 : Hp} {w0 : World} {a0 : List Bs} {aa0 : Option Addr} {ca0 : Nat}  (_ : Imm H0 w0) (_ : Sl cStr H0 aa0 ca0 a0) {r : Int} (_ : m385s a0 = some r), Ct Tryz.prog 385 [.slice aa0 (List.length a0) ca0, .func (.func 312) #[] (List.toArray [])] [] H0 w0 fun v H' w' => v = .int .i64 r := by
  intro H0 w0 a0 aa0 ca0  hI ha0 r hm
  have hL := L.start hI
  refine ct_of Tryz.func385 rfl Tryz.ntmps385 rfl (Nat.le_of_ble_eq_true rfl) ?_
  unfold m385s at hm
  refine sr <| sv (r_assign rfl) <| wt <| wp_seq <| sr <| sv (r_move rfl) <| sv (r_lenS rfl Tryz.underlying30 rfl) <| sv (r_move rfl) <| wt <| wp_block <| wp_loop_fuel (k := FUEL) (fun k a w => ∃  (l : List (Nat × Value)) (H : Hp), a = fr 19 ([(0, .slice aa0 (List.length a0) ca0), (1, .func (.func 312) #[] (List.toArray [])), (4, .int .i64 0), (7, .int .i64 (a0.length : Int)), (8, .int .i64 0)] ++ l) [] ∧ L [] H0 w0 [] H w ∧ Sl cStr H aa0 ca0 a0 ∧ (m385s_l0 a0 k ) = some r) ⟨_, _, fr_pre _ rfl, hL.pick _ rfl, ha0, hm⟩ ?_
  rintro k0 a w ⟨l, H, rfl, hL, ha0, hm⟩
  cases k0 with
  | zero => rw [m385s_l0.eq_1] at hm; cases hm
  | succ k0 =>
    rw [m385s_l0.eq_2] at hm
    refine sr <| sv (r_lss rfl rfl) <| wt <| wp_seq ?_
    refine c_if hm rfl (fun hg1 hm => ?_) (fun hg1 hm => ?_)
    · cases hm
    · refine wp_exit <| then_e <| then_e <| blk_e <| then_n <| sr <| sv (r_assign rfl) <| wt <| wp_ret ?_
      obtain rfl := ends hm
      exact rt rfl (.tmp rfl .nil) ⟨_, _, rfl, hL.ext, rfl⟩

/-- slices.ContainsFunc[[]string,string] -/
def m311s (a0 : List Bs) : Option Bool :=
  ((m385s a0).bind fun t1 => (some ((decide ((0 : Int) ≤ t1)))))
set_option maxHeartbeats 20000000 in
set_option maxRecDepth 100000 in
theorem c311s : ∀ {H0 : Hp} {w0 : World} {a0 : List Bs} {aa0 : Option Addr} {ca0 : Nat}  (_ : Imm H0 w0) (_ : Sl cStr H0 aa0 ca0 a0) {r : Bool} (_ : m311s a0 = some r), Ct Tryz.prog 311 [.slice aa0 (List.length a0) ca0, .func (.func 312) #[] (List.toArray [])] [] H0 w0 fun v H' w' => v = .bool r := by
  intro H0 w0 a0 aa0 ca0  hI ha0 r hm
  have hL := L.start hI
  refine ct_of Tryz.func311 rfl Tryz.ntmps311 rfl (Nat.le_of_ble_eq_true rfl) ?_
  unfold m311s at hm
  refine sr <| sv (r_assign rfl) <| wt <| sr <| sv (r_move rfl) <| sv (r_move rfl) ?_
  obtain ⟨t1, ht1, hm⟩ := bnd hm
  refine wl rfl (o_call0 hL fn_385 rfl (c385s hL.imm ha0 ht1) fun v H w hlet1 hL hR => ?_)
  obtain rfl := hR
  refine sv (r_geq rfl rfl) <| sv (r_assign rfl) <| wt <| wp_ret ?_
  obtain rfl := ends hm
  exact rt rfl (.tmp rfl .nil) ⟨_, _, rfl, hL.ext, rfl⟩

/-- (value.Value).fits -/
def m229 (a0_0 : J) : Option Bool :=
  ((m142 a0_0).bind fun t1 => ((m131 a0_0).bind fun t2 => ((m311s t2).bind fun t3 => ((m313 t1.1).bind fun t4 => (bif t4 then (bif (!t3) then ((m130 a0_0).bind fun t7 => (some ((decide ((t7.length : Int) ≤ (64 : Int)))))) else none) else none)))))
set_option maxHeartbeats 20000000 in
set_option maxRecDepth 100000 in
theorem c229 : ∀ {H0 : Hp} {w0 : World} {a0_0 : J} {xa0_0 : Value}  (_ : Imm H0 w0) (_ : VR H0 xa0_0 a0_0) {r : Bool} (_ : m229 a0_0 = some r), Ct Tryz.prog 229 [.agg (List.toArray [xa0_0])] [] H0 w0 fun v H' w' => v = .bool r := by
  intro H0 w0 a0_0 xa0_0  hI ha0_0 r hm
  have hL := L.start hI
  refine ct_of Tryz.func229 rfl Tryz.ntmps229 rfl (Nat.le_of_ble_eq_true rfl) ?_
  unfold m229 at hm
  refine sr ?_
  refine wl rfl (o_box 0 (c := [_]) hL rfl rfl fun b0 w hL => ?_)
  refine sv (r_assign rfl) <| wt <| sr <| sv (r_loadk (hL.own 0 _ rfl) ag_33 rfl (vs := [_]) rfl rfl) ?_
  obtain ⟨t1, ht1, hm⟩ := bnd hm
  refine wl rfl (o_call0 hL fn_142 rfl (c142 hL.imm ha0_0 ht1) fun v H w hlet1 hL hR => ?_)
  replace ha0_0 := VR.mono hlet1 ha0_0
  obtain rfl := hR
  refine sv (r_move rfl) <| sv (r_extract rfl rfl) <| sv (r_extract rfl rfl) <| sv (r_assign rfl) <| sv (r_assign rfl) <| wt <| sr <| sv (r_loadk (hL.own 0 _ rfl) ag_33 rfl (vs := [_]) rfl rfl) ?_
  obtain ⟨t2, ht2, hm⟩ := bnd hm
  refine wl rfl (o_call0 hL fn_131 rfl (c131 hL.imm ha0_0 ht2) fun v H w hlet2 hL hR => ?_)
  replace ha0_0 := VR.mono hlet2 ha0_0
  obtain ⟨at2r0_0, ct2r0_0, rfl, ht2r0_0⟩ := hR
  obtain ⟨t3, ht3, hm⟩ := bnd hm
  refine wl rfl (o_call0 hL fn_311 rfl (c311s hL.imm ht2r0_0 ht3) fun v H w hlet3 hL hR => ?_)
  replace ha0_0 := VR.mono hlet3 ha0_0
  obtain rfl := hR
  refine sv (r_assign rfl) <| wt <| sr <| sv (r_move rfl) ?_
  obtain ⟨t4, ht4, hm⟩ := bnd hm
  refine wl rfl (o_call0 hL fn_313 rfl (c313 hL.imm ht4) fun v H w hlet4 hL hR => ?_)
  replace ha0_0 := VR.mono hlet4 ha0_0
  obtain rfl := hR
  refine sv (r_move rfl) ?_
  refine m_if hm (fun hg5 hm => ?_) (fun hg5 hm => ?_)
  · refine wlT rfl rfl rfl rfl hg5 (o_val (r_move rfl) ?_)
    refine wlT rfl rfl rfl rfl hg5 (o_val (r_not rfl) ?_)
    refine sv (r_pickT hg5 rfl rfl) <| sv (r_move rfl) ?_
    refine m_if hm (fun hg6 hm => ?_) (fun hg6 hm => ?_)
    · refine wlT rfl rfl rfl rfl hg6 (o_val (r_loadk (hL.own 0 _ rfl) ag_33 rfl (vs := [_]) rfl rfl) ?_)
      obtain ⟨t7, ht7, hm⟩ := bnd hm
      refine wlT rfl rfl rfl rfl hg6 (o_call0 hL fn_130 rfl (c130 hL.imm ha0_0 ht7) fun v H w hlet7 hL hR => ?_)
      obtain ⟨at7r0_0, ct7r0_0, rfl, ht7r0_0⟩ := hR
      refine wlT rfl rfl rfl rfl hg6 (o_val (r_lenS rfl Tryz.underlying23 rfl) ?_)
      refine wlT rfl rfl rfl rfl hg6 (o_val (r_leq rfl rfl) ?_)
      refine sv (r_pickT hg6 rfl rfl) <| sv (r_assign rfl) <| wt <| wp_ret ?_
      obtain rfl := ends hm
      exact rt rfl (.tmp rfl .nil) ⟨_, _, rfl, hL.ext, rfl⟩
    · cases hm
  · cases hm

end Go.Proofs.YtcjphpenelnohaaGreatDoor
/- Gg: by tools/gen.py -/
set_option linter.unusedVariables false
namespace Go.Proofs.YtcjphpenelnohaaGreatDoor
open Go.RowKit

/-- slices.IndexFunc[[]value.Value,value.Value] -/
def S147f (F : J → Option Bool) : Prop := ∀ {H0 : Hp} {w0 : World} {a0_0 : J} {xa0_0 : Value}  (_ : Imm H0 w0) (_ : VR H0 xa0_0 a0_0) {r : Bool} (_ : F a0_0 = some r), Ct Tryz.prog 147 [.agg (List.toArray [xa0_0]), .func (.func 229) #[] (List.toArray [])] [] H0 w0 fun v H' w' => v = .bool r
def m292f_l0 (a0 : List J) : Nat → Option Int
  | 0 => none
  | k + 1 => (bif (decide ((0 : Int) < (a0.length : Int))) then none else (some (((-1) : Int))))
def m292f (f147f : J → Option Bool) (a0 : List J) : Option Int :=
  (m292f_l0 a0 FUEL )
set_option maxHeartbeats 20000000 in
set_option maxRecDepth 100000 in
theorem c292f {f147f : J → Option Bool} (h147f : S147f f147f) : ∀ {H0 : Hp} {w0 : World} {a0 : List J} {aa0 : Option Addr} {ca0 : Nat} {b0 : Nat} {tl0 : List Value} {T0 : TypeId} (_ : Imm H0 w0) (_ : Rs.holds w0 (.cel b0 ((.func (.func 229) #[] (List.toArray [])) :: tl0) T0)) (_ : ∀ b' ∈ Rs.foot (.cel b0 ((.func (.func 229) #[] (List.toArray [])) :: tl0) T0), H0 b' = none) (_ : Sl cJ H0 aa0 ca0 a0) {r : Int} (_ : m292f f147f a0 = some r), Ct Tryz.prog 292 [.slice aa0 (List.length a0) ca0, .func (.func 211) #[] (List.toArray [.pointer (some ⟨b0, 0, none⟩)])] (Rs.foot (.cel b0 ((.func (.func 229) #[] (List.toArray [])) :: tl0) T0)) H0 w0 fun v H' w' => (v = .int .i64 r) ∧ Rs.holds w' (.cel b0 ((.func (.func 229) #[] (List.toArray [])) :: tl0) T0) ∧ ∀ b' ∈ Rs.foot (.cel b0 ((.func (.func 229) #[] (List.toArray [])) :: tl0) T0), H' b' = none ∧ (b' ∈ Rs.foot (.cel b0 ((.func (.func 229) #[] (List.toArray [])) :: tl0) T0) ∨ w0.heap.size ≤ b') := by
  intro H0 w0 a0 aa0 ca0 b0 tl0 T0  hI hb hn ha0 r hm
  have hL := L.one hI hb hn
  refine ct_of Tryz.func292 rfl Tryz.ntmps292 rfl (Nat.le_of_ble_eq_true rfl) ?_
  unfold m292f at hm
  refine sr <| sv (r_assign rfl) <| wt <| wp_seq <| sr <| sv (r_move rfl) <| sv (r_lenS rfl Tryz.underlying23 rfl) <| sv (r_move rfl) <| wt <| wp_block <| wp_loop_fuel (k := FUEL) (fun k a w => ∃  (l : List (Nat × Value)) (H : Hp), a = fr 19 ([(0, .slice aa0 (List.length a0) ca0), (1, .func (.func 211) #[] (List.toArray [.pointer (some ⟨b0, 0, none⟩)])), (4, .int .i64 0), (7, .int .i64 (a0.length : Int)), (8, .int .i64 0)] ++ l) [] ∧ L (Rs.foot (.cel b0 ((.func (.func 229) #[] (List.toArray [])) :: tl0) T0)) H0 w0 [(0, .cel b0 ((.func (.func 229) #[] (List.toArray [])) :: tl0) T0)] H w ∧ Sl cJ H aa0 ca0 a0 ∧ (m292f_l0 a0 k ) = some r) ⟨_, _, fr_pre _ rfl, hL.pick _ rfl, ha0, hm⟩ ?_
  rintro k0 a w ⟨l, H, rfl, hL, ha0, hm⟩
  cases k0 with
  | zero => rw [m292f_l0.eq_1] at hm; cases hm
  | succ k0 =>
    rw [m292f_l0.eq_2] at hm
    refine sr <| sv (r_lss rfl rfl) <| wt <| wp_seq ?_
    refine c_if hm rfl (fun hg1 hm => ?_) (fun hg1 hm => ?_)
    · cases hm
    · refine wp_exit <| then_e <| then_e <| blk_e <| then_n <| sr <| sv (r_assign rfl) <| wt <| wp_ret ?_
      obtain rfl := ends hm
      refine rt rfl (.tmp rfl .nil) ⟨_, _, rfl, hL.ext, ?_⟩
      exact ⟨rfl, hL.give (i := 0) rfl⟩

/-- slices.ContainsFunc[[]value.Value,value.Value] -/
def m210f (f147f : J → Option Bool) (a0 : List J) : Option Bool :=
  ((m292f f147f a0).bind fun t1 => (some ((decide ((0 : Int) ≤ t1)))))
set_option maxHeartbeats 20000000 in
set_option maxRecDepth 100000 in
theorem c210f {f147f : J → Option Bool} (h147f : S147f f147f) : ∀ {H0 : Hp} {w0 : World} {a0 : List J} {aa0 : Option Addr} {ca0 : Nat} {b0 : Nat} {tl0 : List Value} {T0 : TypeId} (_ : Imm H0 w0) (_ : Rs.holds w0 (.cel b0 ((.func (.func 229) #[] (List.toArray [])) :: tl0) T0)) (_ : ∀ b' ∈ Rs.foot (.cel b0 ((.func (.func 229) #[] (List.toArray [])) :: tl0) T0), H0 b' = none) (_ : Sl cJ H0 aa0 ca0 a0) {r : Bool} (_ : m210f f147f a0 = some r), Ct Tryz.prog 210 [.slice aa0 (List.length a0) ca0, .func (.func 211) #[] (List.toArray [.pointer (some ⟨b0, 0, none⟩)])] (Rs.foot (.cel b0 ((.func (.func 229) #[] (List.toArray [])) :: tl0) T0)) H0 w0 fun v H' w' => (v = .bool r) ∧ Rs.holds w' (.cel b0 ((.func (.func 229) #[] (List.toArray [])) :: tl0) T0) ∧ ∀ b' ∈ Rs.foot (.cel b0 ((.func (.func 229) #[] (List.toArray [])) :: tl0) T0), H' b' = none ∧ (b' ∈ Rs.foot (.cel b0 ((.func (.func 229) #[] (List.toArray [])) :: tl0) T0) ∨ w0.heap.size ≤ b') := by
  intro H0 w0 a0 aa0 ca0 b0 tl0 T0  hI hb hn ha0 r hm
  have hL := L.one hI hb hn
  refine ct_of Tryz.func210 rfl Tryz.ntmps210 rfl (Nat.le_of_ble_eq_true rfl) ?_
  unfold m210f at hm
  refine sr <| sv (r_assign rfl) <| wt <| sr <| sv (r_move rfl) <| sv (r_move rfl) ?_
  obtain ⟨t1, ht1, hm⟩ := bnd hm
  refine wl rfl (o_call1 0 hL fn_292 rfl rfl (c292f h147f hL.imm (hL.own 0 _ rfl) (fun b' hb' => (hL.non 0 _ rfl b' hb').1) ha0 ht1) fun v H w hlet1 hL hR => ?_)
  obtain rfl := hR
  refine sv (r_geq rfl rfl) <| sv (r_assign rfl) <| wt <| wp_ret ?_
  obtain rfl := ends hm
  refine rt rfl (.tmp rfl .nil) ⟨_, _, rfl, hL.ext, ?_⟩
  exact ⟨rfl, hL.give (i := 0) rfl⟩

/-- (value.Value).each -/
def m147fo (f147f : J → Option Bool) (a0_0 : J) : Option Bool :=
  ((m229 a0_0).bind fun t1 => (bif t1 then ((m130 a0_0).bind fun t3 => ((m210f f147f t3).bind fun t4 => (some ((!t4))))) else none))
set_option maxHeartbeats 20000000 in
set_option maxRecDepth 100000 in
theorem c147fo {f147f : J → Option Bool} (h147f : S147f f147f) : S147f (m147fo f147f) := by
  unfold S147f
  intro H0 w0 a0_0 xa0_0  hI ha0_0 r hm
  have hL := L.start hI
  refine ct_of Tryz.func147 rfl Tryz.ntmps147 rfl (Nat.le_of_ble_eq_true rfl) ?_
  unfold m147fo at hm
  refine sr ?_
  refine wl rfl (o_box 0 (c := [_]) hL rfl rfl fun b0 w hL => ?_)
  refine wl rfl (o_box 1 (c := [_]) hL rfl rfl fun b1 w hL => ?_)
  refine sv (r_assign rfl) <| wt <| sr <| sv (r_load1 (hL.own 1 _ rfl) sc_137 rfl rfl) <| sv (r_loadk (hL.own 0 _ rfl) ag_33 rfl (vs := [_]) rfl rfl) ?_
  obtain ⟨t1, ht1, hm⟩ := bnd hm
  refine wl rfl (v_call0 rfl hL fn_229 rfl (c229 hL.imm ha0_0 ht1) fun v H w hlet1 hL hR => ?_)
  replace ha0_0 := VR.mono hlet1 ha0_0
  obtain rfl := hR
  refine sv (r_move rfl) ?_
  refine m_if hm (fun hg2 hm => ?_) (fun hg2 hm => ?_)
  · refine wlT rfl rfl rfl rfl hg2 (o_val (r_loadk (hL.own 0 _ rfl) ag_33 rfl (vs := [_]) rfl rfl) ?_)
    obtain ⟨t3, ht3, hm⟩ := bnd hm
    refine wlT rfl rfl rfl rfl hg2 (o_call0 hL fn_130 rfl (c130 hL.imm ha0_0 ht3) fun v H w hlet3 hL hR => ?_)
    replace ha0_0 := VR.mono hlet3 ha0_0
    obtain ⟨at3r0_0, ct3r0_0, rfl, ht3r0_0⟩ := hR
    refine wlT rfl rfl rfl rfl hg2 (o_val (r_makeFunc rfl) ?_)
    obtain ⟨t4, ht4, hm⟩ := bnd hm
    refine wlT rfl rfl rfl rfl hg2 (o_call1 1 hL fn_210 rfl rfl (c210f h147f hL.imm (hL.own 1 _ rfl) (fun b' hb' => (hL.non 1 _ rfl b' hb').1) ht3r0_0 ht4) fun v H w hlet4 hL hR => ?_)
    replace ha0_0 := VR.mono hlet4 ha0_0
    obtain rfl := hR
    refine wlT rfl rfl rfl rfl hg2 (o_val (r_not rfl) ?_)
    refine sv (r_pickT hg2 rfl rfl) <| sv (r_assign rfl) <| wt <| wp_ret ?_
    obtain rfl := ends hm
    exact rt rfl (.tmp rfl .nil) ⟨_, _, rfl, hL.ext, rfl⟩
  · cases hm
def m147fn : Nat → J → Option Bool
  | 0 => fun _ => none
  | n + 1 => m147fo (m147fn n)
theorem c147fn (n : Nat) : S147f (m147fn n) := by
  induction n with
  | zero =>
    unfold S147f
    intro H0 w0 a0_0 xa0_0  hI ha0_0 r hm
    rw [m147fn.eq_1] at hm
    cases hm
  | succ n ih => exact c147fo ih
def m147f : J → Option Bool := m147fn FUEL
theorem c147f : S147f m147f := c147fn FUEL

/-- (value.Value).Known$1 -/
def m148 (a0_0 : J) : Option Bool :=
  ((m21 a0_0).bind fun t1 => (some ((t1 != (1 : Int)))))
set_option maxHeartbeats 20000000 in
set_option maxRecDepth 100000 in
theorem c148 : ∀ {H0 : Hp} {w0 : World} {a0_0 : J} {xa0_0 : Value}  (_ : Imm H0 w0) (_ : VR H0 xa0_0 a0_0) {r : Bool} (_ : m148 a0_0 = some r), Ct Tryz.prog 148 [.agg (List.toArray [xa0_0])] [] H0 w0 fun v H' w' => v = .bool r := by
  intro H0 w0 a0_0 xa0_0  hI ha0_0 r hm
  have hL := L.start hI
  refine ct_of Tryz.func148 rfl Tryz.ntmps148 rfl (Nat.le_of_ble_eq_true rfl) ?_
  unfold m148 at hm
  refine sr ?_
  refine wl rfl (o_box 0 (c := [_]) hL rfl rfl fun b0 w hL => ?_)
  refine sv (r_assign rfl) <| wt <| sr <| sv (r_loadk (hL.own 0 _ rfl) ag_33 rfl (vs := [_]) rfl rfl) ?_
  obtain ⟨t1, ht1, hm⟩ := bnd hm
  refine wl rfl (o_call0 hL fn_21 rfl (c21 hL.imm ha0_0 ht1) fun v H w hlet1 hL hR => ?_)
  obtain rfl := hR
  refine sv (r_nei rfl rfl) <| sv (r_assign rfl) <| wt <| wp_ret ?_
  obtain rfl := ends hm
  exact rt rfl (.tmp rfl .nil) ⟨_, _, rfl, hL.ext, rfl⟩

/-- slices.IndexFunc[[]value.Value,value.Value] -/
def S147k (F : J → Option Bool) : Prop := ∀ {H0 : Hp} {w0 : World} {a0_0 : J} {xa0_0 : Value}  (_ : Imm H0 w0) (_ : VR H0 xa0_0 a0_0) {r : Bool} (_ : F a0_0 = some r), Ct Tryz.prog 147 [.agg (List.toArray [xa0_0]), .func (.func 148) #[] (List.toArray [])] [] H0 w0 fun v H' w' => v = .bool r
def m292k_l0 (a0 : List J) : Nat → Option Int
  | 0 => none
  | k + 1 => (bif (decide ((0 : Int) < (a0.length : Int))) then none else (some (((-1) : Int))))
def m292k (f147k : J → Option Bool) (a0 : List J) : Option Int :=
  (m292k_l0 a0 FUEL )
set_option maxHeartbeats 20000000 in
set_option maxRecDepth 100000 in
theorem c292k {f147k : J → Option Bool} (h147k : S147k f147k) : ∀ {H0 : Hp} {w0 : World} {a0 : List J} {aa0 : Option Addr} {ca0 : Nat} {b0 : Nat} {tl0 : List Value} {T0 : TypeId} (_ : Imm H0 w0) (_ : Rs.holds w0 (.cel b0 ((.func (.func 148) #[] (List.toArray [])) :: tl0) T0)) (_ : ∀ b' ∈ Rs.foot (.cel b0 ((.func (.func 148) #[] (List.toArray [])) :: tl0) T0), H0 b' = none) (_ : Sl cJ H0 aa0 ca0 a0) {r : Int} (_ : m292k f147k a0 = some r), Ct Tryz.prog 292 [.slice aa0 (List.length a0) ca0, .func (.func 211) #[] (List.toArray [.pointer (some ⟨b0, 0, none⟩)])] (Rs.foot (.cel b0 ((.func (.func 148) #[] (List.toArray [])) :: tl0) T0)) H0 w0 fun v H' w' => (v = .int .i64 r) ∧ Rs.holds w' (.cel b0 ((.func (.func 148) #[] (List.toArray [])) :: tl0) T0) ∧ ∀ b' ∈ Rs.foot (.cel b0 ((.func (.func 148) #[] (List.toArray [])) :: tl0) T0), H' b' = none ∧ (b' ∈ Rs.foot (.cel b0 ((.func (.func 148) #[] (List.toArray [])) :: tl0) T0) ∨ w0.heap.size ≤ b') := by
  intro H0 w0 a0 aa0 ca0 b0 tl0 T0  hI hb hn ha0 r hm
  have hL := L.one hI hb hn
  refine ct_of Tryz.func292 rfl Tryz.ntmps292 rfl (Nat.le_of_ble_eq_true rfl) ?_
  unfold m292k at hm
  refine sr <| sv (r_assign rfl) <| wt <| wp_seq <| sr <| sv (r_move rfl) <| sv (r_lenS rfl Tryz.underlying23 rfl) <| sv (r_move rfl) <| wt <| wp_block <| wp_loop_fuel (k := FUEL) (fun k a w => ∃  (l : List (Nat × Value)) (H : Hp), a = fr 19 ([(0, .slice aa0 (List.length a0) ca0), (1, .func (.func 211) #[] (List.toArray [.pointer (some ⟨b0, 0, none⟩)])), (4, .int .i64 0), (7, .int .i64 (a0.length : Int)), (8, .int .i64 0)] ++ l) [] ∧ L (Rs.foot (.cel b0 ((.func (.func 148) #[] (List.toArray [])) :: tl0) T0)) H0 w0 [(0, .cel b0 ((.func (.func 148) #[] (List.toArray [])) :: tl0) T0)] H w ∧ Sl cJ H aa0 ca0 a0 ∧ (m292k_l0 a0 k ) = some r) ⟨_, _, fr_pre _ rfl, hL.pick _ rfl, ha0, hm⟩ ?_
  rintro k0 a w ⟨l, H, rfl, hL, ha0, hm⟩
  cases k0 with
  | zero => rw [m292k_l0.eq_1] at hm; cases hm
  | succ k0 =>
    rw [m292k_l0.eq_2] at hm
    refine sr <| sv (r_lss rfl rfl) <| wt <| wp_seq ?_
    refine c_if hm rfl (fun hg1 hm => ?_) (fun hg1 hm => ?_)
    · cases hm
    · refine wp_exit <| then_e <| then_e <| blk_e <| then_n <| sr <| sv (r_assign rfl) <| wt <| wp_ret ?_
      obtain rfl := ends hm
      refine rt rfl (.tmp rfl .nil) ⟨_, _, rfl, hL.ext, ?_⟩
      exact ⟨rfl, hL.give (i := 0) rfl⟩

/-- slices.ContainsFunc[[]value.Value,value.Value] -/
def m210k (f147k : J → Option Bool) (a0 : List J) : Option Bool :=
  ((m292k f147k a0).bind fun t1 => (some ((decide ((0 : Int) ≤ t1)))))
set_option maxHeartbeats 20000000 in
set_option maxRecDepth 100000 in
theorem c210k {f147k : J → Option Bool} (h147k : S147k f147k) : ∀ {H0 : Hp} {w0 : World} {a0 : List J} {aa0 : Option Addr} {ca0 : Nat} {b0 : Nat} {tl0 : List Value} {T0 : TypeId} (_ : Imm H0 w0) (_ : Rs.holds w0 (.cel b0 ((.func (.func 148) #[] (List.toArray [])) :: tl0) T0)) (_ : ∀ b' ∈ Rs.foot (.cel b0 ((.func (.func 148) #[] (List.toArray [])) :: tl0) T0), H0 b' = none) (_ : Sl cJ H0 aa0 ca0 a0) {r : Bool} (_ : m210k f147k a0 = some r), Ct Tryz.prog 210 [.slice aa0 (List.length a0) ca0, .func (.func 211) #[] (List.toArray [.pointer (some ⟨b0, 0, none⟩)])] (Rs.foot (.cel b0 ((.func (.func 148) #[] (List.toArray [])) :: tl0) T0)) H0 w0 fun v H' w' => (v = .bool r) ∧ Rs.holds w' (.cel b0 ((.func (.func 148) #[] (List.toArray [])) :: tl0) T0) ∧ ∀ b' ∈ Rs.foot (.cel b0 ((.func (.func 148) #[] (List.toArray [])) :: tl0) T0), H' b' = none ∧ (b' ∈ Rs.foot (.cel b0 ((.func (.func 148) #[] (List.toArray [])) :: tl0) T0) ∨ w0.heap.size ≤ b') := by
  intro H0 w0 a0 aa0 ca0 b0 tl0 T0  hI hb hn ha0 r hm
  have hL := L.one hI hb hn
  refine ct_of Tryz.func210 rfl Tryz.ntmps210 rfl (Nat.le_of_ble_eq_true rfl) ?_
  unfold m210k at hm
  refine sr <| sv (r_assign rfl) <| wt <| sr <| sv (r_move rfl) <| sv (r_move rfl) ?_
  obtain ⟨t1, ht1, hm⟩ := bnd hm
  refine wl rfl (o_call1 0 hL fn_292 rfl rfl (c292k h147k hL.imm (hL.own 0 _ rfl) (fun b' hb' => (hL.non 0 _ rfl b' hb').1) ha0 ht1) fun v H w hlet1 hL hR => ?_)
  obtain rfl := hR
  refine sv (r_geq rfl rfl) <| sv (r_assign rfl) <| wt <| wp_ret ?_
  obtain rfl := ends hm
  refine rt rfl (.tmp rfl .nil) ⟨_, _, rfl, hL.ext, ?_⟩
  exact ⟨rfl, hL.give (i := 0) rfl⟩

/-- (value.Value).each -/
def m147ko (f147k : J → Option Bool) (a0_0 : J) : Option Bool :=
  ((m148 a0_0).bind fun t1 => (bif t1 then ((m130 a0_0).bind fun t3 => ((m210k f147k t3).bind fun t4 => (some ((!t4))))) else (some (false))))
set_option maxHeartbeats 20000000 in
set_option maxRecDepth 100000 in
theorem c147ko {f147k : J → Option Bool} (h147k : S147k f147k) : S147k (m147ko f147k) := by
  unfold S147k
  intro H0 w0 a0_0 xa0_0  hI ha0_0 r hm
  have hL := L.start hI
  refine ct_of Tryz.func147 rfl Tryz.ntmps147 rfl (Nat.le_of_ble_eq_true rfl) ?_
  unfold m147ko at hm
  refine sr ?_
  refine wl rfl (o_box 0 (c := [_]) hL rfl rfl fun b0 w hL => ?_)
  refine wl rfl (o_box 1 (c := [_]) hL rfl rfl fun b1 w hL => ?_)
  refine sv (r_assign rfl) <| wt <| sr <| sv (r_load1 (hL.own 1 _ rfl) sc_137 rfl rfl) <| sv (r_loadk (hL.own 0 _ rfl) ag_33 rfl (vs := [_]) rfl rfl) ?_
  obtain ⟨t1, ht1, hm⟩ := bnd hm
  refine wl rfl (v_call0 rfl hL fn_148 rfl (c148 hL.imm ha0_0 ht1) fun v H w hlet1 hL hR => ?_)
  replace ha0_0 := VR.mono hlet1 ha0_0
  obtain rfl := hR
  refine sv (r_move rfl) ?_
  refine m_if hm (fun hg2 hm => ?_) (fun hg2 hm => ?_)
  · refine wlT rfl rfl rfl rfl hg2 (o_val (r_loadk (hL.own 0 _ rfl) ag_33 rfl (vs := [_]) rfl rfl) ?_)
    obtain ⟨t3, ht3, hm⟩ := bnd hm
    refine wlT rfl rfl rfl rfl hg2 (o_call0 hL fn_130 rfl (c130 hL.imm ha0_0 ht3) fun v H w hlet3 hL hR => ?_)
    replace ha0_0 := VR.mono hlet3 ha0_0
    obtain ⟨at3r0_0, ct3r0_0, rfl, ht3r0_0⟩ := hR
    refine wlT rfl rfl rfl rfl hg2 (o_val (r_makeFunc rfl) ?_)
    obtain ⟨t4, ht4, hm⟩ := bnd hm
    refine wlT rfl rfl rfl rfl hg2 (o_call1 1 hL fn_210 rfl rfl (c210k h147k hL.imm (hL.own 1 _ rfl) (fun b' hb' => (hL.non 1 _ rfl b' hb').1) ht3r0_0 ht4) fun v H w hlet4 hL hR => ?_)
    replace ha0_0 := VR.mono hlet4 ha0_0
    obtain rfl := hR
    refine wlT rfl rfl rfl rfl hg2 (o_val (r_not rfl) ?_)
    refine sv (r_pickT hg2 rfl rfl) <| sv (r_assign rfl) <| wt <| wp_ret ?_
    obtain rfl := ends hm
    exact rt rfl (.tmp rfl .nil) ⟨_, _, rfl, hL.ext, rfl⟩
  · refine wlF rfl rfl rfl rfl hg2 rfl <| wlF rfl rfl rfl rfl hg2 rfl <| wlF rfl rfl rfl rfl hg2 rfl <| wlF rfl rfl rfl rfl hg2 rfl <| wlF rfl rfl rfl rfl hg2 rfl <| sv (r_pickF hg2 rfl rfl) <| sv (r_assign rfl) <| wt <| wp_ret ?_
    obtain rfl := ends hm
    exact rt rfl (.tmp rfl .nil) ⟨_, _, rfl, hL.ext, rfl⟩
def m147kn : Nat → J → Option Bool
  | 0 => fun _ => none
  | n + 1 => m147ko (m147kn n)
theorem c147kn (n : Nat) : S147k (m147kn n) := by
  induction n with
  | zero =>
    unfold S147k
    intro H0 w0 a0_0 xa0_0  hI ha0_0 r hm
    rw [m147kn.eq_1] at hm
    cases hm
  | succ n ih => exact c147ko ih
def m147k : J → Option Bool := m147kn FUEL
theorem c147k : S147k m147k := c147kn FUEL

/-- (value.Value).Known -/
def m70 (a0_0 : J) : Option Bool :=
  ((m147k a0_0).bind fun t1 => (some (t1)))
set_option maxHeartbeats 20000000 in
set_option maxRecDepth 100000 in
theorem c70 : ∀ {H0 : Hp} {w0 : World} {a0_0 : J} {xa0_0 : Value}  (_ : Imm H0 w0) (_ : VR H0 xa0_0 a0_0) {r : Bool} (_ : m70 a0_0 = some r), Ct Tryz.prog 70 [.agg (List.toArray [xa0_0])] [] H0 w0 fun v H' w' => v = .bool r := by
  intro H0 w0 a0_0 xa0_0  hI ha0_0 r hm
  have hL := L.start hI
  refine ct_of Tryz.func70 rfl Tryz.ntmps70 rfl (Nat.le_of_ble_eq_true rfl) ?_
  unfold m70 at hm
  refine sr ?_
  refine wl rfl (o_box 0 (c := [_]) hL rfl rfl fun b0 w hL => ?_)
  refine sv (r_assign rfl) <| wt <| sr <| sv (r_loadk (hL.own 0 _ rfl) ag_33 rfl (vs := [_]) rfl rfl) ?_
  obtain ⟨t1, ht1, hm⟩ := bnd hm
  refine wl rfl (o_call0 hL fn_147 rfl (c147k hL.imm ha0_0 ht1) fun v H w hlet1 hL hR => ?_)
  obtain rfl := hR
  refine sv (r_assign rfl) <| wt <| wp_ret ?_
  obtain rfl := ends hm
  exact rt rfl (.tmp rfl .nil) ⟨_, _, rfl, hL.ext, rfl⟩

/-- (value.Value).Right -/
def m157 (a0_0 : J) : Option Bool :=
  ((m83 a0_0).bind fun t1 => (bif (decide (t1 ≤ (8 : Int))) then ((m147f a0_0).bind fun t3 => (some (t3))) else none))
set_option maxHeartbeats 20000000 in
set_option maxRecDepth 100000 in
theorem c157 : ∀ {H0 : Hp} {w0 : World} {a0_0 : J} {xa0_0 : Value}  (_ : Imm H0 w0) (_ : VR H0 xa0_0 a0_0) {r : Bool} (_ : m157 a0_0 = some r), Ct Tryz.prog 157 [.agg (List.toArray [xa0_0])] [] H0 w0 fun v H' w' => v = .bool r := by
  intro H0 w0 a0_0 xa0_0  hI ha0_0 r hm
  have hL := L.start hI
  refine ct_of Tryz.func157 rfl Tryz.ntmps157 rfl (Nat.le_of_ble_eq_true rfl) ?_
  unfold m157 at hm
  refine sr ?_
  refine wl rfl (o_box 0 (c := [_]) hL rfl rfl fun b0 w hL => ?_)
  refine sv (r_assign rfl) <| wt <| sr <| sv (r_loadk (hL.own 0 _ rfl) ag_33 rfl (vs := [_]) rfl rfl) ?_
  obtain ⟨t1, ht1, hm⟩ := bnd hm
  refine wl rfl (o_call0 hL fn_83 rfl (c83 hL.imm ha0_0 ht1) fun v H w hlet1 hL hR => ?_)
  replace ha0_0 := VR.mono hlet1 ha0_0
  obtain rfl := hR
  refine sv (r_leq rfl rfl) <| sv (r_move rfl) ?_
  refine m_if hm (fun hg2 hm => ?_) (fun hg2 hm => ?_)
  · refine wlT rfl rfl rfl rfl hg2 (o_val (r_loadk (hL.own 0 _ rfl) ag_33 rfl (vs := [_]) rfl rfl) ?_)
    obtain ⟨t3, ht3, hm⟩ := bnd hm
    refine wlT rfl rfl rfl rfl hg2 (o_call0 hL fn_147 rfl (c147f hL.imm ha0_0 ht3) fun v H w hlet3 hL hR => ?_)
    obtain rfl := hR
    refine sv (r_pickT hg2 rfl rfl) <| sv (r_assign rfl) <| wt <| wp_ret ?_
    obtain rfl := ends hm
    exact rt rfl (.tmp rfl .nil) ⟨_, _, rfl, hL.ext, rfl⟩
  · cases hm

/-- (store.Entry).own -/
def m168 (a0_0 : Bs) (a0_1 : Bs) (a0_2 : Bs) (a0_3 : Int) (a0_4 : Int) (a0_5 : J) (a0_6 : Bs) (a0_7 : List Ad) : Option (Bs × Bs × Bs × Int × Int × J × Bs × List Ad) :=
  ((m263 a0_6).bind fun t1 => ((m27 a0_7).bind fun t2 => (some (a0_0, a0_1, a0_2, a0_3, a0_4, a0_5, t1, t2))))
set_option maxHeartbeats 20000000 in
set_option maxRecDepth 100000 in
theorem c168 : ∀ {H0 : Hp} {w0 : World} {a0_0 : Bs} {a0_1 : Bs} {a0_2 : Bs} {a0_3 : Int} {a0_4 : Int} {a0_5 : J} {a0_6 : Bs} {a0_7 : List Ad} {xa0_5 : Value} {aa0_6 : Option Addr} {ca0_6 : Nat} {aa0_7 : Option Addr} {ca0_7 : Nat}  (_ : Imm H0 w0) (_ : VR H0 xa0_5 a0_5) (_ : Sl cB8 H0 aa0_6 ca0_6 a0_6) (_ : Sl cAd H0 aa0_7 ca0_7 a0_7) {r : (Bs × Bs × Bs × Int × Int × J × Bs × List Ad)} (_ : m168 a0_0 a0_1 a0_2 a0_3 a0_4 a0_5 a0_6 a0_7 = some r), Ct Tryz.prog 168 [.agg (List.toArray [.string (mk a0_0), .string (mk a0_1), .string (mk a0_2), .int .i64 a0_3, .int .i64 a0_4, xa0_5, .slice aa0_6 (List.length a0_6) ca0_6, .slice aa0_7 (List.length a0_7) ca0_7])] [] H0 w0 fun v H' w' => ∃ (xr0_5 : Value) (ar0_6 : Option Addr) (cr0_6 : Nat) (ar0_7 : Option Addr) (cr0_7 : Nat), v = .agg (List.toArray [.string (mk r.1), .string (mk r.2.1), .string (mk r.2.2.1), .int .i64 r.2.2.2.1, .int .i64 r.2.2.2.2.1, xr0_5, .slice ar0_6 (List.length r.2.2.2.2.2.2.1) cr0_6, .slice ar0_7 (List.length r.2.2.2.2.2.2.2) cr0_7]) ∧ VR H' xr0_5 r.2.2.2.2.2.1 ∧ Sl cB8 H' ar0_6 cr0_6 r.2.2.2.2.2.2.1 ∧ Sl cAd H' ar0_7 cr0_7 r.2.2.2.2.2.2.2 := by
  intro H0 w0 a0_0 a0_1 a0_2 a0_3 a0_4 a0_5 a0_6 a0_7 xa0_5 aa0_6 ca0_6 aa0_7 ca0_7  hI ha0_5 ha0_6 ha0_7 r hm
  have hL := L.start hI
  refine ct_of Tryz.func168 rfl Tryz.ntmps168 rfl (Nat.le_of_ble_eq_true rfl) ?_
  unfold m168 at hm
  refine sr ?_
  refine wl rfl (o_box 0 (c := [_, _, _, _, _, _, _, _]) hL rfl rfl fun b0 w hL => ?_)
  refine wl rfl (o_alloc 1 (c := [_, _, _, _, _, _, _, _]) hL ze_97 rfl fun b1 w hL => ?_)
  refine wt <| wp_seq <| rdO hL [0] [7] [_] (.lt 0 [] (.lt 1 [0] (.lt 3 [] (.lt 4 [0] (.hv 2 [0] (.lt 6 [] (.hv 5 [0] (.hv 7 [] (.lt 8 [] (.hv 9 [] .dn)))))))))) mixed rfl (by kernel_rfl) fun w hL => ov rfl (fun w hS => r_fieldAddr fl_97_3 rfl) <| ov rfl (fun w hS => r_load1 hS.2.1 sc_87 rfl rfl) <| ov rfl (fun w hS => r_fieldAddr fl_97_4 rfl) <| ov rfl (fun w hS => r_load1 hS.2.1 sc_51 rfl rfl) ?_
  obtain ⟨t1, ht1, hm⟩ := bnd hm
  have hL := hL.room 2
  refine oh rfl rfl (o_callE 2 hL fn_263 rfl rfl (c263 hL.imm ha0_6 ht1) fun x v H w hlet1 hL hR => ⟨Sa.of hL ((Hle.refl _).trans hlet1) [0] rfl, ?_⟩)
  obtain ⟨at1r0_0, ct1r0_0, zt1r0_0⟩ := x
  try dsimp only at hL hR
  replace ha0_5 := VR.mono hlet1 ha0_5
  replace ha0_7 := Sl.mono hlet1 ha0_7
  obtain ⟨rfl, ht1r0_0⟩ := hR
  refine ov rfl (fun w hS => r_fieldAddr fl_97_3 rfl) ?_
  obtain ⟨t2, ht2, hm⟩ := bnd hm
  have hL := hL.room 3
  refine oh rfl rfl (o_callE 3 hL fn_27 rfl rfl (c27 hL.imm ha0_7 ht2) fun x v H w hlet2 hL hR => ⟨Sa.of hL (((Hle.refl _).trans hlet1).trans hlet2) [0] rfl, ?_⟩)
  obtain ⟨at2r0_0, ct2r0_0, zt2r0_0⟩ := x
  try dsimp only at hL hR
  replace ha0_5 := VR.mono hlet2 ha0_5
  replace ht1r0_0 := LC.mono hlet2 ht1r0_0
  obtain ⟨rfl, ht2r0_0⟩ := hR
  refine oh rfl rfl (o_store1 (i := 0) hL sc_87 rfl rfl rfl rfl rfl (c' := _ :: _ :: _ :: _ :: _ :: _ :: _ :: _ :: []) rfl fun w hL => ⟨Sa.of hL (((Hle.refl _).trans hlet1).trans hlet2) [] rfl, ?_⟩)
  refine ov rfl (fun w hS => r_fieldAddr fl_97_4 rfl) ?_
  refine oh rfl rfl (o_store1 (i := 0) hL sc_51 rfl rfl rfl rfl rfl (c' := _ :: _ :: _ :: _ :: _ :: _ :: _ :: _ :: []) rfl fun w hL => ⟨Sa.of hL (((Hle.refl _).trans hlet1).trans hlet2) [] rfl, ?_⟩)
  refine on <| then_n <| sr <| sv (r_loadk (hL.own 0 _ rfl) ag_97 rfl (vs := [_, _, _, _, _, _, _, _]) rfl rfl) ?_
  refine wl rfl (o_storek (i := 1) (vs := [_, _, _, _, _, _, _, _]) hL ag_97 rfl rfl rfl rfl (Nat.le_of_ble_eq_true rfl) (List.forall_mem_cons.2 ⟨rfl, (List.forall_mem_cons.2 ⟨rfl, (List.forall_mem_cons.2 ⟨rfl, (List.forall_mem_cons.2 ⟨rfl, (List.forall_mem_cons.2 ⟨rfl, (List.forall_mem_cons.2 ⟨(VR.one ha0_5), (List.forall_mem_cons.2 ⟨rfl, (List.forall_mem_cons.2 ⟨rfl, List.forall_mem_nil _⟩)⟩)⟩)⟩)⟩)⟩)⟩)⟩) (c' := _ :: _ :: _ :: _ :: _ :: _ :: _ :: _ :: []) rfl fun w hL => ?_)
  refine wt <| wp_ret ?_
  obtain ⟨H, hlez3, hL, hsz3⟩ := hL.settle (i := 2) (K := cB8) rfl ht1r0_0
  replace ha0_5 := VR.mono hlez3 ha0_5
  replace ht2r0_0 := LC.mono hlez3 ht2r0_0
  obtain ⟨H, hlez4, hL, hsz4⟩ := hL.settle (i := 3) (K := cAd) rfl ht2r0_0
  replace ha0_5 := VR.mono hlez4 ha0_5
  replace hsz3 := Sl.mono hlez4 hsz3
  obtain rfl := ends hm
  exact rt rfl (.agg (hL.own 1 _ rfl) ag_97 rfl (us := [_, _, _, _, _, _, _, _]) rfl rfl .nil) ⟨_, _, rfl, hL.ext, ⟨_, _, _, _, _, rfl, ha0_5, hsz3, hsz4⟩⟩

end Go.Proofs.YtcjphpenelnohaaGreatDoor
/- Gh: by tools/gen.py -/
set_option linter.unusedVariables false
namespace Go.Proofs.YtcjphpenelnohaaGreatDoor
open Go.RowKit

/-- slices.insertionSortCmpFunc[address.Address] -/
def m356a_l0 (a1 : Int) (a2 : Int) : Nat → Option Unit
  | 0 => none
  | k + 1 => (bif (decide ((IntKind.wrap .i64 (a1 + (1 : Int))) < a2)) then none else (some ()))
def m356a (s0 : List Ad) (a1 : Int) (a2 : Int) : Option Unit :=
  (m356a_l0 a1 a2 FUEL )
set_option maxHeartbeats 20000000 in
set_option maxRecDepth 100000 in
theorem c356a : ∀ {H0 : Hp} {w0 : World} {s0 : List Ad} {a1 : Int} {a2 : Int} {ao00 : Option Addr} {co00 : Nat} {zo00 : List Value}  (_ : Imm H0 w0) (_ : Rs.holds w0 (.row (.slice ao00 (List.length s0) co00) 50 4 (List.length s0) zo00)) (_ : ∀ b' ∈ Rs.foot (.row (.slice ao00 (List.length s0) co00) 50 4 (List.length s0) zo00), H0 b' = none) (_ : LC cAd H0 zo00 s0) {r : Unit} (_ : m356a s0 a1 a2 = some r), Ct Tryz.prog 356 [.slice ao00 (List.length s0) co00, .int .i64 a1, .int .i64 a2, .func (.func 188) #[] (List.toArray [])] (Rs.foot (.row (.slice ao00 (List.length s0) co00) 50 4 (List.length s0) zo00)) H0 w0 fun v H' w' => (v = .tuple (List.toArray [])) ∧ Rs.holds w' (.row (.slice ao00 (List.length s0) co00) 50 4 (List.length s0) zo00) ∧ ∀ b' ∈ Rs.foot (.row (.slice ao00 (List.length s0) co00) 50 4 (List.length s0) zo00), H' b' = none ∧ (b' ∈ Rs.foot (.row (.slice ao00 (List.length s0) co00) 50 4 (List.length s0) zo00) ∨ w0.heap.size ≤ b') := by
  intro H0 w0 s0 a1 a2 ao00 co00 zo00  hI hb hn ho00 r hm
  have hL := L.one hI hb hn
  refine ct_of Tryz.func356 rfl Tryz.ntmps356 rfl (Nat.le_of_ble_eq_true rfl) ?_
  unfold m356a at hm
  refine sr <| sv (r_move rfl) <| sv (r_add rfl rfl) <| sv (r_assign rfl) <| wt <| wp_block <| wp_loop_fuel (k := FUEL) (fun k a w => ∃  (l : List (Nat × Value)) (H : Hp), a = fr 53 ([(0, .slice ao00 (List.length s0) co00), (1, .int .i64 a1), (2, .int .i64 a2), (3, .func (.func 188) #[] (List.toArray [])), (8, .int .i64 (IntKind.wrap .i64 (a1 + (1 : Int))))] ++ l) [] ∧ L (Rs.foot (.row (.slice ao00 (List.length s0) co00) 50 4 (List.length s0) zo00)) H0 w0 [(0, .row (.slice ao00 (List.length s0) co00) 50 4 (List.length s0) zo00)] H w ∧ LC cAd H zo00 s0 ∧ (m356a_l0 a1 a2 k ) = some r) ⟨_, _, fr_pre _ rfl, hL.pick _ rfl, ho00, hm⟩ ?_
  rintro k0 a w ⟨l, H, rfl, hL, ho00, hm⟩
  cases k0 with
  | zero => rw [m356a_l0.eq_1] at hm; cases hm
  | succ k0 =>
    rw [m356a_l0.eq_2] at hm
    refine wp_seq <| sr <| sv (r_move rfl) <| sv (r_move rfl) <| sv (r_lss rfl rfl) <| wt ?_
    refine c_if hm rfl (fun hg1 hm => ?_) (fun hg1 hm => ?_)
    · cases hm
    · refine wp_exit <| then_e <| then_e <| blk_e ?_
      obtain rfl := ends hm
      refine rtN rfl .nil ⟨_, _, rfl, hL.ext, ?_⟩
      exact ⟨rfl, hL.give (i := 0) rfl⟩

/-- slices.pdqsortCmpFunc[address.Address] -/
def m276a_l0 (s0 : List Ad) (a1 : Int) (a2 : Int) : Nat → Option (List Ad)
  | 0 => none
  | k + 1 => (bif (decide ((IntKind.wrap .i64 (a2 - a1)) ≤ (12 : Int))) then ((m356a s0 a1 a2).bind fun t2 => (some (s0))) else none)
def m276a (s0 : List Ad) (a1 : Int) (a2 : Int) (a3 : Int) : Option (List Ad) :=
  (m276a_l0 s0 a1 a2 FUEL )
set_option maxHeartbeats 20000000 in
set_option maxRecDepth 100000 in
theorem c276a : ∀ {H0 : Hp} {w0 : World} {s0 : List Ad} {a1 : Int} {a2 : Int} {a3 : Int} {ao00 : Option Addr} {co00 : Nat} {zo00 : List Value}  (_ : Imm H0 w0) (_ : Rs.holds w0 (.row (.slice ao00 (List.length s0) co00) 50 4 (List.length s0) zo00)) (_ : ∀ b' ∈ Rs.foot (.row (.slice ao00 (List.length s0) co00) 50 4 (List.length s0) zo00), H0 b' = none) (_ : LC cAd H0 zo00 s0) {r : List Ad} (_ : m276a s0 a1 a2 a3 = some r), Ct Tryz.prog 276 [.slice ao00 (List.length s0) co00, .int .i64 a1, .int .i64 a2, .int .i64 a3, .func (.func 188) #[] (List.toArray [])] (Rs.foot (.row (.slice ao00 (List.length s0) co00) 50 4 (List.length s0) zo00)) H0 w0 fun v H' w' => ∃ x : (List Value), (v = .tuple (List.toArray []) ∧ LC cAd H' x r ∧ List.length r = List.length s0) ∧ Rs.holds w' (.row (.slice ao00 (List.length r) co00) 50 4 (List.length r) (x)) ∧ ∀ b' ∈ Rs.foot (.row (.slice ao00 (List.length r) co00) 50 4 (List.length r) (x)), H' b' = none ∧ (b' ∈ Rs.foot (.row (.slice ao00 (List.length s0) co00) 50 4 (List.length s0) zo00) ∨ w0.heap.size ≤ b') := by
  intro H0 w0 s0 a1 a2 a3 ao00 co00 zo00  hI hb hn ho00 r hm
  have hL := L.one hI hb hn
  refine ct_of Tryz.func276 rfl Tryz.ntmps276 rfl (Nat.le_of_ble_eq_true rfl) ?_
  unfold m276a at hm
  refine sr <| sv (r_assign rfl) <| wt <| sr <| sv (r_assign rfl) <| wt <| wp_block <| wp_loop_fuel (k := FUEL) (fun k a w => ∃  (l : List (Nat × Value)) (H : Hp), a = fr 148 ([(0, .slice ao00 (List.length s0) co00), (1, .int .i64 a1), (2, .int .i64 a2), (3, .int .i64 a3), (4, .func (.func 188) #[] (List.toArray [])), (10, .bool true), (11, .bool true)] ++ l) [] ∧ L (Rs.foot (.row (.slice ao00 (List.length s0) co00) 50 4 (List.length s0) zo00)) H0 w0 [(0, .row (.slice ao00 (List.length s0) co00) 50 4 (List.length s0) zo00)] H w ∧ LC cAd H zo00 s0 ∧ (m276a_l0 s0 a1 a2 k ) = some r) ⟨_, _, fr_pre _ rfl, hL.pick _ rfl, ho00, hm⟩ ?_
  rintro k0 a w ⟨l, H, rfl, hL, ho00, hm⟩
  cases k0 with
  | zero => rw [m276a_l0.eq_1] at hm; cases hm
  | succ k0 =>
    rw [m276a_l0.eq_2] at hm
    refine wp_block <| sr <| sv (r_move rfl) <| sv (r_move rfl) <| sv (r_sub rfl rfl) <| sv (r_assign rfl) <| wt <| wp_seq <| sr <| sv (r_move rfl) <| sv (r_leq rfl rfl) <| wt ?_
    refine c_if hm rfl (fun hg1 hm => ?_) (fun hg1 hm => ?_)
    · refine sr <| sv (r_move rfl) <| sv (r_move rfl) <| sv (r_move rfl) <| sv (r_move rfl) ?_
      obtain ⟨t2, ht2, hm⟩ := bnd hm
      refine wl rfl (o_call1 0 hL fn_356 rfl rfl (c356a hL.imm (hL.own 0 _ rfl) (fun b' hb' => (hL.non 0 _ rfl b' hb').1) ho00 ht2) fun v H w hlet2 hL hR => ?_)
      replace ho00 := LC.mono hlet2 ho00
      obtain rfl := hR
      try rw [sl_len2 ao00 co00 lt2m0_0]
      try rw [sl_len2 ao00 co00 lt2m0_0] at hL
      refine wt <| wp_ret <| then_r <| blk_r <| then_r <| blk_r ?_
      obtain rfl := ends hm
      refine rt rfl .nil ⟨_, _, rfl, hL.ext, ?_⟩
      exact ⟨zo00, ⟨rfl, ho00, rfl⟩, hL.give (i := 0) rfl⟩
    · cases hm

/-- slices.SortFunc[[]address.Address,address.Address] -/
def m187a (s0 : List Ad) : Option (List Ad) :=
  ((m274 (IntKind.wrap .u64 (s0.length : Int))).bind fun t1 => ((m276a s0 (0 : Int) (s0.length : Int) t1).bind fun t2 => (some (t2))))
set_option maxHeartbeats 20000000 in
set_option maxRecDepth 100000 in
theorem c187a : ∀ {H0 : Hp} {w0 : World} {s0 : List Ad} {ao00 : Option Addr} {co00 : Nat} {zo00 : List Value}  (_ : Imm H0 w0) (_ : Rs.holds w0 (.row (.slice ao00 (List.length s0) co00) 50 4 (List.length s0) zo00)) (_ : ∀ b' ∈ Rs.foot (.row (.slice ao00 (List.length s0) co00) 50 4 (List.length s0) zo00), H0 b' = none) (_ : LC cAd H0 zo00 s0) {r : List Ad} (_ : m187a s0 = some r), Ct Tryz.prog 187 [.slice ao00 (List.length s0) co00, .func (.func 188) #[] (List.toArray [])] (Rs.foot (.row (.slice ao00 (List.length s0) co00) 50 4 (List.length s0) zo00)) H0 w0 fun v H' w' => ∃ x : (List Value), (v = .tuple (List.toArray []) ∧ LC cAd H' x r ∧ List.length r = List.length s0) ∧ Rs.holds w' (.row (.slice ao00 (List.length r) co00) 50 4 (List.length r) (x)) ∧ ∀ b' ∈ Rs.foot (.row (.slice ao00 (List.length r) co00) 50 4 (List.length r) (x)), H' b' = none ∧ (b' ∈ Rs.foot (.row (.slice ao00 (List.length s0) co00) 50 4 (List.length s0) zo00) ∨ w0.heap.size ≤ b') := by
  intro H0 w0 s0 ao00 co00 zo00  hI hb hn ho00 r hm
  have hL := L.one hI hb hn
  refine ct_of Tryz.func187 rfl Tryz.ntmps187 rfl (Nat.le_of_ble_eq_true rfl) ?_
  unfold m187a at hm
  refine sr <| sv (r_move rfl) <| sv (r_lenS rfl Tryz.underlying51 rfl) <| sv (r_assign rfl) <| wt <| rg <| sv (r_move rfl) <| sv (r_move rfl) <| sv (r_move rfl) <| sv (r_convI Tryz.underlying3 Tryz.underlying309 rfl) ?_
  obtain ⟨t1, ht1, hm⟩ := bnd hm
  refine wl rfl (o_call0 hL fn_274 rfl (c274 hL.imm ht1) fun v H w hlet1 hL hR => ?_)
  replace ho00 := LC.mono hlet1 ho00
  obtain rfl := hR
  refine sv (r_move rfl) ?_
  obtain ⟨t2, ht2, hm⟩ := bnd hm
  refine wl rfl (o_callE 0 hL fn_276 rfl rfl (c276a hL.imm (hL.own 0 _ rfl) (fun b' hb' => (hL.non 0 _ rfl b' hb').1) ho00 ht2) fun zt2m0_0 v H w hlet2 hL hR => ?_)
  try dsimp only at hL hR
  obtain ⟨rfl, ht2m0_0, lt2m0_0⟩ := hR
  try rw [sl_len2 ao00 co00 lt2m0_0]
  try rw [sl_len2 ao00 co00 lt2m0_0] at hL
  refine wn ?_
  obtain rfl := ends hm
  refine rtN rfl .nil ⟨_, _, rfl, hL.ext, ?_⟩
  exact ⟨zt2m0_0, ⟨rfl, ht2m0_0, (lt2m0_0.trans rfl)⟩, hL.give (i := 0) rfl⟩

/-- slices.Compact[[]address.Address,address.Address] -/
def m189 (s0 : List Ad) : Option (List Ad) :=
  (bif (decide ((s0.length : Int) < (2 : Int))) then (some (s0)) else none)
set_option maxHeartbeats 20000000 in
set_option maxRecDepth 100000 in
theorem c189 : ∀ {H0 : Hp} {w0 : World} {s0 : List Ad} {ao00 : Option Addr} {co00 : Nat} {zo00 : List Value}  (_ : Imm H0 w0) (_ : Rs.holds w0 (.row (.slice ao00 (List.length s0) co00) 50 4 (List.length s0) zo00)) (_ : ∀ b' ∈ Rs.foot (.row (.slice ao00 (List.length s0) co00) 50 4 (List.length s0) zo00), H0 b' = none) (_ : LC cAd H0 zo00 s0) {r : List Ad} (_ : m189 s0 = some r), Ct Tryz.prog 189 [.slice ao00 (List.length s0) co00] (Rs.foot (.row (.slice ao00 (List.length s0) co00) 50 4 (List.length s0) zo00)) H0 w0 fun v H' w' => ∃ x : (Option Addr) × Nat, (v = .slice (x.1) (List.length r) (x.2) ∧ Sl cAd H' (x.1) (x.2) r) ∧ Rs.holds w' (.gone) ∧ ∀ b' ∈ Rs.foot (.gone), H' b' = none ∧ (b' ∈ Rs.foot (.row (.slice ao00 (List.length s0) co00) 50 4 (List.length s0) zo00) ∨ w0.heap.size ≤ b') := by
  intro H0 w0 s0 ao00 co00 zo00  hI hb hn ho00 r hm
  have hL := L.one hI hb hn
  refine ct_of Tryz.func189 rfl Tryz.ntmps189 rfl (Nat.le_of_ble_eq_true rfl) ?_
  unfold m189 at hm
  refine sr <| sv (r_assign rfl) <| wt <| wp_seq <| sr <| sv (r_move rfl) <| sv (r_lenS rfl Tryz.underlying51 rfl) <| sv (r_lss rfl rfl) <| wt ?_
  refine c_if hm rfl (fun hg1 hm => ?_) (fun hg1 hm => ?_)
  · refine sr <| sv (r_move rfl) <| sv (r_assign rfl) <| wt <| wp_ret <| then_r ?_
    obtain ⟨H, hlez2, hL, hsz2⟩ := hL.settle (i := 0) (K := cAd) rfl ho00
    obtain rfl := ends hm
    refine rt rfl (.tmp rfl .nil) ⟨_, _, rfl, hL.ext, ?_⟩
    have hL := hL.room 1
    exact ⟨⟨ao00, co00⟩, ⟨rfl, hsz2⟩, hL.give (i := 1) rfl⟩
  · cases hm

/-- address.Sort -/
def m105 (a0 : List Ad) : Option (List Ad) :=
  ((m27 a0).bind fun t1 => ((m187a t1).bind fun t2 => ((m189 t2).bind fun t3 => (some (t3)))))
set_option maxHeartbeats 20000000 in
set_option maxRecDepth 100000 in
theorem c105 : ∀ {H0 : Hp} {w0 : World} {a0 : List Ad} {aa0 : Option Addr} {ca0 : Nat}  (_ : Imm H0 w0) (_ : Sl cAd H0 aa0 ca0 a0) {r : List Ad} (_ : m105 a0 = some r), Ct Tryz.prog 105 [.slice aa0 (List.length a0) ca0] [] H0 w0 fun v H' w' => ∃ (ar0_0 : Option Addr) (cr0_0 : Nat), v = .slice ar0_0 (List.length r) cr0_0 ∧ Sl cAd H' ar0_0 cr0_0 r := by
  intro H0 w0 a0 aa0 ca0  hI ha0 r hm
  have hL := L.start hI
  refine ct_of Tryz.func105 rfl Tryz.ntmps105 rfl (Nat.le_of_ble_eq_true rfl) ?_
  unfold m105 at hm
  refine sr <| sv (r_assign rfl) <| wt <| sr <| sv (r_move rfl) ?_
  obtain ⟨t1, ht1, hm⟩ := bnd hm
  have hL := hL.room 0
  refine wl rfl (o_callE 0 hL fn_27 rfl rfl (c27 hL.imm ha0 ht1) fun x v H w hlet1 hL hR => ?_)
  obtain ⟨at1r0_0, ct1r0_0, zt1r0_0⟩ := x
  try dsimp only at hL hR
  obtain ⟨rfl, ht1r0_0⟩ := hR
  refine sv (r_assign rfl) <| wt <| sr <| sv (r_move rfl) ?_
  obtain ⟨t2, ht2, hm⟩ := bnd hm
  refine wl rfl (o_callE 0 hL fn_187 rfl rfl (c187a hL.imm (hL.own 0 _ rfl) (fun b' hb' => (hL.non 0 _ rfl b' hb').1) ht1r0_0 ht2) fun zt2m0_0 v H w hlet2 hL hR => ?_)
  try dsimp only at hL hR
  obtain ⟨rfl, ht2m0_0, lt2m0_0⟩ := hR
  try rw [sl_len2 at1r0_0 ct1r0_0 lt2m0_0]
  try rw [sl_len2 at1r0_0 ct1r0_0 lt2m0_0] at hL
  refine wt <| sr <| sv (r_move rfl) ?_
  obtain ⟨t3, ht3, hm⟩ := bnd hm
  refine wl rfl (o_callE 0 (r1 := fun _ => .gone) hL fn_189 rfl rfl (c189 hL.imm (hL.own 0 _ rfl) (fun b' hb' => (hL.non 0 _ rfl b' hb').1) ht2m0_0 ht3) fun x v H w hlet3 hL hR => ?_)
  obtain ⟨at3r0_0, ct3r0_0⟩ := x
  try dsimp only at hL hR
  obtain ⟨rfl, ht3r0_0⟩ := hR
  refine sv (r_assign rfl) <| wt <| wp_ret ?_
  obtain rfl := ends hm
  exact rt rfl (.tmp rfl .nil) ⟨_, _, rfl, hL.ext, ⟨_, _, rfl, ht3r0_0⟩⟩

end Go.Proofs.YtcjphpenelnohaaGreatDoor
/- Slices of strings: sorted, made compact, made room for. -/
namespace Go.Proofs.YtcjphpenelnohaaGreatDoor
open Go.RowKit Go.Sort
theorem LC_str {H : Hp} {cs : List Value} {l : List Bs} (h : LC cStr H cs l) : cs = l.map encStr := by
  induction h with
  | nil => rfl
  | @cons cs rest x xs h k ih =>
    have h' : cs = [.string (mk x)] := h
    rw [h', ih]; rfl
theorem LC_enc {H : Hp} : ∀ (l : List Bs), LC cStr H (l.map encStr) l
  | [] => .nil
  | _ :: l => LC.cons (cs := [_]) rfl (LC_enc l)
theorem ext_grown {H : Hp} {w w' : World} {row : Option Nat} (hg : w.grownBy w' row) (hI : Imm H w) (hn : ∀ b ∈ row.toList, H b = none) : Ext row.toList H w H w' := grown_ext hg hI hn
def ins1 (x : Bs) : List Bs → List Bs
  | [] => [x]
  | y :: l => bif decide (x ≤ y) then x :: y :: l else y :: ins1 x l
def isort : List Bs → List Bs
  | [] => []
  | x :: l => ins1 x (isort l)
theorem ins1_perm (x : Bs) : ∀ l, List.Perm (ins1 x l) (x :: l)
  | [] => .refl _
  | y :: l => by
    simp only [ins1]
    cases decide (x ≤ y) with
    | true => exact .refl _
    | false => exact ((ins1_perm x l).cons y).trans (.swap _ _ _)
theorem isort_perm : ∀ l, List.Perm (isort l) l
  | [] => .refl _
  | x :: l => (ins1_perm x _).trans ((isort_perm l).cons x)
theorem ins1_sorted (x : Bs) : ∀ l : List Bs, l.Pairwise (· ≤ ·) → (ins1 x l).Pairwise (· ≤ ·)
  | [], _ => by simp [ins1]
  | y :: l, h => by
    simp only [ins1]
    obtain ⟨h1, h2⟩ := List.pairwise_cons.1 h
    cases e : decide (x ≤ y) with
    | true =>
      have hxy := of_decide_eq_true e
      exact List.pairwise_cons.2 ⟨fun z hz => by
        rcases List.mem_cons.1 hz with rfl | hz
        · exact hxy
        · exact le_trans_b hxy (h1 z hz), h⟩
    | false =>
      have hyx : y ≤ x := by
        rcases List.le_total x y with h | h
        · exact absurd h (of_decide_eq_false e)
        · exact h
      refine List.pairwise_cons.2 ⟨fun z hz => ?_, ins1_sorted x l h2⟩
      rcases List.mem_cons.1 ((ins1_perm x l).mem_iff.1 hz) with rfl | hz
      · exact hyx
      · exact h1 z hz
theorem isort_sorted : ∀ l, (isort l).Pairwise (· ≤ ·)
  | [] => .nil
  | x :: l => ins1_sorted x _ (isort_sorted l)
theorem isort_eq (l : List Bs) : isort l = l.mergeSort fun x y => decide (x ≤ y) := by
  refine List.Perm.eq_of_pairwise (le := fun a b => decide (a ≤ b) = true) (fun a b _ _ h1 h2 => ?_) ((isort_sorted l).imp fun h => decide_eq_true h) (List.pairwise_mergeSort (le := fun x y => decide (x ≤ y)) ?_ ?_ l) ((isort_perm l).trans (List.mergeSort_perm l _).symm)
  · exact List.le_antisymm (of_decide_eq_true h1) (of_decide_eq_true h2)
  · intro a b c h1 h2
    exact decide_eq_true (le_trans_b (of_decide_eq_true h1) (of_decide_eq_true h2))
  · intro a b
    rcases List.le_total a b with h | h <;> simp [h]
/-- slices.Sort, of strings -/
def m182 (l : List Bs) : Option (List Bs) := bif decide (l.length ≤ LIM) then some (isort l) else none
theorem c182 : ∀ {H0 : Hp} {w0 : World} {s0 : List Bs} {ao00 : Option Addr} {co00 : Nat} {zo00 : List Value}  (_ : Imm H0 w0) (_ : Rs.holds w0 (.row (.slice ao00 (List.length s0) co00) 9 1 (List.length s0) zo00)) (_ : ∀ b' ∈ Rs.foot (.row (.slice ao00 (List.length s0) co00) 9 1 (List.length s0) zo00), H0 b' = none) (_ : LC cStr H0 zo00 s0) {r : List Bs} (_ : m182 s0 = some r), Ct Tryz.prog 182 [.slice ao00 (List.length s0) co00] (Rs.foot (.row (.slice ao00 (List.length s0) co00) 9 1 (List.length s0) zo00)) H0 w0 fun v H' w' => ∃ x : (List Value), (v = .tuple (List.toArray []) ∧ LC cStr H' x r ∧ List.length r = List.length s0) ∧ Rs.holds w' (.row (.slice ao00 (List.length r) co00) 9 1 (List.length r) (x)) ∧ ∀ b' ∈ Rs.foot (.row (.slice ao00 (List.length r) co00) 9 1 (List.length r) (x)), H' b' = none ∧ (b' ∈ Rs.foot (.row (.slice ao00 (List.length s0) co00) 9 1 (List.length s0) zo00) ∨ w0.heap.size ≤ b') := by
  intro H0 w0 s0 ao00 co00 zo00 hI hb hn hc r hm
  obtain ⟨hg, hm⟩ := grd hm
  rw [isort_eq] at hm
  obtain rfl := ends hm
  have hg' := of_decide_eq_true hg
  unfold LIM at hg'
  obtain rfl := LC_str hc
  have hlen : (s0.mergeSort fun x y => decide (x ≤ y)).length = s0.length := List.length_mergeSort _
  rw [hlen]
  have hb2 : w0.ownsRow 0 9 1 (.slice ao00 s0.length co00) s0.length (s0.map encStr) := hb
  rcases hb2.2 with ⟨hv, h0⟩ | ⟨g, cap, cur, hv, hbase, hh, h1, h2, h3, h4⟩
  · injection hv with e1 e2 e3
    have hs : s0 = [] := List.length_eq_zero_iff.1 e2
    subst hs e1 e3
    refine (AnyM.slices_Sort_string_none Tryz.sort182 none 0 w0).mono fun e w' ⟨he, hw⟩ => ?_
    subst hw
    exact ⟨_, H0, he, Ext.refl hI, [], ⟨rfl, by simpa using (LC.nil : LC cStr H0 [] ([] : List Bs)), rfl⟩, hb, by simp [Rs.foot, Value.ownBlock]⟩
  · injection hv with e1 e2 e3
    subst e1 e3
    have hH : Holds encStr w0 g 0 s0.toArray := holds_of_block hh (by rw [← h4, Nat.mul_one])
    have hgl : g < w0.heap.size := (Array.getElem?_eq_some_iff.1 hh).1
    refine (AnyM.slices_Sort_string Tryz.sort182 g 0 co00 s0 w0 hH hgl (by omega)).mono fun e w' ⟨he, n, os, hw⟩ => ?_
    subst hw
    have hgr := grownBy_sorted (w := w0) (g := g) (n := n) (os := os) (s0.mergeSort fun x y => decide (x ≤ y)).toArray
    have hfoot : Rs.foot (.row (.slice (some ⟨g, 0, none⟩) s0.length co00) 9 1 s0.length (s0.map encStr)) = (some g).toList := rfl
    have hx := ext_grown hgr hI (by rw [← hfoot]; exact hn)
    refine ⟨_, H0, he, hx, (s0.mergeSort fun x y => decide (x ≤ y)).map encStr, ⟨rfl, LC_enc _, rfl⟩, ownsRow_sorted hlen hbase hh h1 h2 (by rw [h3]), fun b' hb' => ⟨hn b' hb', .inl hb'⟩⟩
/-- slices.Compact, of strings -/
def m183 (l : List Bs) : Option (List Bs) := bif decide (l.length ≤ LIM) then some (Lib.compact l) else none
theorem c183 : ∀ {H0 : Hp} {w0 : World} {s0 : List Bs} {ao00 : Option Addr} {co00 : Nat} {zo00 : List Value}  (_ : Imm H0 w0) (_ : Rs.holds w0 (.row (.slice ao00 (List.length s0) co00) 9 1 (List.length s0) zo00)) (_ : ∀ b' ∈ Rs.foot (.row (.slice ao00 (List.length s0) co00) 9 1 (List.length s0) zo00), H0 b' = none) (_ : LC cStr H0 zo00 s0) {r : List Bs} (_ : m183 s0 = some r), Ct Tryz.prog 183 [.slice ao00 (List.length s0) co00] (Rs.foot (.row (.slice ao00 (List.length s0) co00) 9 1 (List.length s0) zo00)) H0 w0 fun v H' w' => ∃ x : (Option Addr) × Nat, (v = .slice (x.1) (List.length r) (x.2) ∧ Sl cStr H' (x.1) (x.2) r) ∧ Rs.holds w' (.gone) ∧ ∀ b' ∈ Rs.foot (.gone), H' b' = none ∧ (b' ∈ Rs.foot (.row (.slice ao00 (List.length s0) co00) 9 1 (List.length s0) zo00) ∨ w0.heap.size ≤ b') := by
  intro H0 w0 s0 ao00 co00 zo00 hI hb hn hc r hm
  obtain ⟨hg, hm⟩ := grd hm
  obtain rfl := ends hm
  have hg' := of_decide_eq_true hg
  unfold LIM at hg'
  obtain rfl := LC_str hc
  have hb2 : w0.ownsRow 0 9 1 (.slice ao00 s0.length co00) s0.length (s0.map encStr) := hb
  rcases hb2.2 with ⟨hv, h0⟩ | ⟨g, cap, cur, hv, hbase, hh, h1, h2, h3, h4⟩
  · injection hv with e1 e2 e3
    have hs : s0 = [] := List.length_eq_zero_iff.1 e2
    subst hs e1 e3
    refine (Tryz.slices_Compact_string_empty none 0 w0).mono fun e w' ⟨he, hw⟩ => ?_
    subst hw
    exact ⟨_, H0, he, Ext.refl hI, ⟨none, 0⟩, ⟨rfl, Sl.nil⟩, trivial, by simp [Rs.foot]⟩
  · injection hv with e1 e2 e3
    subst e1 e3
    have hH : Holds encStr w0 g 0 s0.toArray := holds_of_block hh (by rw [← h4, Nat.mul_one])
    have hgl : g < w0.heap.size := (Array.getElem?_eq_some_iff.1 hh).1
    have hle : (Lib.compact s0).length ≤ s0.length := Lib.compact_length_le s0
    refine (Tryz.slices_Compact_string g 0 co00 s0 w0 hH (by omega) h1).mono fun e w' ⟨he, n, hw⟩ => ?_
    have hw2 : w' = grow (putRow encStr (Sort.ahead w0 n) g 0 (Lib.compact s0 ++ List.replicate (s0.length - (Lib.compact s0).length) []).toArray) #[] := by rw [grow_empty]; exact hw
    clear hw
    subst hw2
    have hgr := grownBy_sorted (w := w0) (g := g) (n := n) (os := #[]) (Lib.compact s0 ++ List.replicate (s0.length - (Lib.compact s0).length) []).toArray
    have hx := ext_grown hgr hI hn
    have hwl : (Lib.compact s0 ++ List.replicate (s0.length - (Lib.compact s0).length) ([] : Bs)).length = s0.length := by simp; omega
    have hr : Rs.holds (grow (putRow encStr (Sort.ahead w0 n) g 0 (Lib.compact s0 ++ List.replicate (s0.length - (Lib.compact s0).length) []).toArray) #[]) (.row (.slice (some ⟨g, 0, none⟩) (Lib.compact s0).length co00) 9 1 (Lib.compact s0).length ((Lib.compact s0).map encStr)) := by
      refine ⟨by simp, .inr ⟨g, co00, _, rfl, hbase, heap_sorted _ hh, by omega, h2, by simp [putCells, h3], ?_⟩⟩
      have hk := take_putCells cur (Lib.compact s0 ++ List.replicate (s0.length - (Lib.compact s0).length) []) (by rw [hwl, h3]; omega)
      have hk2 := congrArg (List.take (Lib.compact s0).length) hk
      rw [List.take_take, hwl, Nat.min_eq_left hle, List.map_append, List.take_left' (by simp)] at hk2
      rw [Nat.mul_one]; exact hk2
    have hL := (L.one hI hb hn).step _ 0 (.row (.slice (some ⟨g, 0, none⟩) (Lib.compact s0).length co00) 9 1 (Lib.compact s0).length ((Lib.compact s0).map encStr)) (fun b hb' => ⟨_, rfl, hb'⟩) hx hr (fun b hb' => ⟨hn b hb', .inl hb'⟩)
    obtain ⟨H', _, hL, hs⟩ := hL.settle (i := 0) (K := cStr) rfl (LC_enc _)
    exact ⟨_, H', he, hL.ext, ⟨some ⟨g, 0, none⟩, co00⟩, ⟨rfl, hs⟩, trivial, by simp [Rs.foot]⟩
section
variable {P : Program} {Q : Exit → Act → World → Prop} {n : Nat} {l : List (Nat × Value)} {ds : List Deferred} {w w0 : World}
  {d : Nat} {x y z : Operand} {ty : TypeId} {pos : String} {aft : Array Edge} {v u : Value} {g : Option (Nat × Bool)} {K : Act → World → Prop} {X : List Nat} {H0 H : Hp} {S : List (Nat × Rs)}
theorem r_capN {tt : Array TypeId} {t e : TypeId} (ht : tt[0]? = some t) (hu : P.underlying t = some (.slice e)) (hx : ev n l x = some (.slice none 0 0)) :
    (execOp (fr n l ds).eval ⟨some d, .call ⟨.builtin .cap, #[x], tt⟩, ty, pos, aft, g⟩).run P w = .ok (.value (.int .i64 0)) w := by
  simp [execOp, resolve, invoke, builtin, Builtin.cap_, ev_eval hx, ht, run_underlying hu, goInt]
/-- 'x[:0]'. -/
theorem r_slice0 {t e k c m : Nat} {kd : IntKind} {a : Option Addr} (he : El P t e k) (hx : ev n l x = some (.slice a m c)) (hy : ev n l y = some (.int kd 0)) (h0 : (a = none ∧ c = 0) ∨ ∃ b, a = some ⟨b, 0, none⟩) :
    (execOp (fr n l ds).eval ⟨some d, .slice t x none (some y) none, ty, pos, aft, g⟩).run P w = .ok (.value (.slice a 0 c)) w := by
  obtain ⟨i, z, h1, h2, h3, h4, h5, h6, h7⟩ := he.out
  have hu : (underlying t).run P w = .ok (.slice e) w := run_underlying h1 w
  simp only [execOp, ev_eval hx, Option.map_none, Option.map_some, ev_eval hy, Instr.sliceAt, Sem.run_bind, hu, Result.andThen_ok, Instr.slice, Instr.sliceBounds, Sem.run_pure, if_true, run_bound (P := P) (w := w) (k := kd) (i := 0) (y := c) (c := .sliceAcap) (Int.le_refl 0) (Int.natCast_nonneg c), run_sizeOf h2, Int.toNat_zero, Nat.sub_zero, Nat.zero_mul, Option.isSome_none, Bool.false_eq_true, if_false]
  rcases h0 with ⟨rfl, rfl⟩ | ⟨b, rfl⟩
  · simp
  · simp [add_off]
/-- append of zeros to nil: room for what comes. -/
theorem o_appendN {t tn e k : Nat} {kd kn : IntKind} {m : Int} (i : Nat) (hL : L X H0 w0 S H w) (he : El P t e k) (hn : P.underlying tn = some (.int kn)) (h0 : decide ((0 : Int) < m) = true) (h1 : decide (m ≤ (LIM : Int)) = true)
    (hx : ev n l x = some (.slice none 0 0)) (hy : ev n l y = some (.int kd m))
    (kk : ∀ b c w', L X H0 w0 ((i, .row (.slice (some ⟨b, 0, none⟩) 0 c) e k 0 []) :: S) H w' → K (fr n ((d, .slice (some ⟨b, 0, none⟩) m.toNat c) :: l) ds) w') :
    Oper.wp P ⟨some d, .call ⟨.builtin .append, #[x, y], #[t, tn]⟩, ty, pos, aft, g⟩ (fr n l ds) w K Q := by
  have h0' := of_decide_eq_true h0
  have h1' := of_decide_eq_true h1
  unfold LIM at h1'
  obtain ⟨m, rfl⟩ := Int.eq_ofNat_of_zero_le (Int.le_of_lt h0')
  obtain ⟨ii, z, e1, e2, e3, e4, e5, e6, e7⟩ := he.out
  have hm0 : 0 < m := by omega
  have hm1 : m ≤ 2147483648 := by omega
  have h48 : m * ii.bytes ≤ 281474976710656 := Nat.le_trans (Nat.mul_le_mul hm1 e7) (by decide)
  have hr := Lib.run_append_nil_zeros (P := P) w t tn ty e ii z kd kn e1 hn e2 e3 m hm0 (by omega) (by omega) h48
  have hL1 := hL.drew
  refine o_val (v := .slice (some ⟨w.heap.size, 0, none⟩) m (grownCap w m 0 e)) (w' := w.drew.alloc (.cells (Builtin.zeroCells z.cells m ++ Builtin.zeroCells z.cells (grownCap w m 0 e - m)) e)) ?_ ?_
  · simp only [execOp, resolve, invoke, builtin, ev_eval hx, ev_eval hy, List.map_toArray, List.map_cons, List.map_nil, Sem.run_bind, Sem.run_pure, Result.andThen_ok, hr]
  · refine kk w.heap.size (grownCap w m 0 e) _ (hL1.step [] i _ (by simp) (Ext.alloc hL1.imm _) ?_ ?_)
    · refine ⟨by simp, .inr ⟨w.heap.size, grownCap w m 0 e, Builtin.zeroCells z.cells m ++ Builtin.zeroCells z.cells (grownCap w m 0 e - m), rfl, Nat.zero_le _, by show (w.heap.push _)[w.heap.size]? = _; simp, Nat.zero_le _, grownCap_le_maxLen _ _ _ _ (by unfold maxLen; omega), ?_, by simp⟩⟩
      have hge := grownCap_ge w m 0 e
      rw [Array.size_append, size_zeroCells, size_zeroCells, e5, ← Nat.add_mul]
      congr 1; omega
    · intro b hb
      simp [Rs.foot, Value.ownBlock] at hb
      subst hb
      exact ⟨hL1.imm.fresh (Nat.le_refl _), .inr (Nat.le_refl _)⟩
end
end Go.Proofs.YtcjphpenelnohaaGreatDoor
/- Ranging over a map. -/
namespace Go.Proofs.YtcjphpenelnohaaGreatDoor
open Go.RowKit Go.ChangeMaps
/-- An iterator over a map: what is still to come; the entry that came last. -/
def It {κ α : Type} (C : KK κ) (es : Array MapEntry) (b clock : Nat) (left : List (κ × α)) (cur : Option MapEntry) (o : Obj) : Prop :=
  ∃ seen, o = .mapIter (some b) clock seen clock ∧ (∀ x ∈ es.toList, seen.contains x.born = false ↔ ∃ p ∈ left, x.key = C.kv p.1) ∧ ∀ e, cur = some e → (∃ s0 : Array Nat, seen = s0.push e.born) ∧ e ∈ es.toList
theorem nodup_inj {α β : Type} {f : α → β} : ∀ {l : List α}, (l.map f).Nodup → ∀ {x y : α}, x ∈ l → y ∈ l → f x = f y → x = y
  | [], _, _, _, hx, _, _ => by cases hx
  | a :: l, h, x, y, hx, hy, e => by
    simp only [List.map_cons, List.nodup_cons] at h
    rcases List.mem_cons.1 hx with h1 | hx <;> rcases List.mem_cons.1 hy with h2 | hy
    · rw [h1, h2]
    · exact absurd (List.mem_map.2 ⟨y, hy, by rw [← e, h1]⟩) h.1
    · exact absurd (List.mem_map.2 ⟨x, hx, by rw [e, h2]⟩) h.1
    · exact nodup_inj h.2 hx hy e
section
variable {Q : Exit → Act → World → Prop} {n : Nat} {l : List (Nat × Value)} {ds : List Deferred} {w w0 : World}
  {d : Nat} {x y z : Operand} {ty : TypeId} {pos : String} {aft : Array Edge} {v u : Value} {g : Option (Nat × Bool)} {K : Act → World → Prop} {X : List Nat} {H0 H : Hp} {S : List (Nat × Rs)}
  {κ α : Type} [BEq κ] [LawfulBEq κ] {C : KK κ} {V : EV α} {es : Array MapEntry} {clock b : Nat} {m left : List (κ × α)}
set_option maxRecDepth 100000 in
theorem o_range {t e : TypeId} (i : Nat) (hL : L X H0 w0 S H w) (hu : Tryz.prog.underlying t = some (.map C.kt e)) (hb : w.heap[b]? = some (.map es clock)) (T : TR C V H es clock m) (hx : ev n l x = some (.map (some b)))
    (kk : ∀ r o w', It C es b clock m none o → L X H0 w0 ((i, .obj r o) :: S) H w' → K (fr n ((d, .pointer (some ⟨r, 0, none⟩)) :: l) ds) w') :
    Oper.wp Tryz.prog ⟨some d, .range t x, ty, pos, aft, g⟩ (fr n l ds) w K Q := by
  refine o_val (w' := w.alloc (.mapIter (some b) clock #[] clock)) ?_ (kk w.heap.size (.mapIter (some b) clock #[] clock) _ ⟨#[], rfl, fun x hx => ?_, fun e h => by cases h⟩
    (hL.step [] i (.obj w.heap.size (.mapIter (some b) clock #[] clock)) (by simp) (Ext.alloc hL.imm _) (by show (w.heap.push _)[w.heap.size]? = _; simp)
    (fun b hb => by simp [Rs.foot] at hb; subst hb; exact ⟨hL.imm.fresh (Nat.le_refl _), .inr (Nat.le_refl _)⟩)))
  · have hr := run_range_map (P := Tryz.prog) w t C.kt e b es clock hu hb
    simp only [execOp, ev_eval hx, Sem.run_bind, hr, Result.andThen_ok, Sem.run_pure]
  · obtain ⟨p, hp, h1, _⟩ := T.to x hx
    simp only [Array.contains_empty, true_iff]
    exact ⟨p, hp, h1⟩
theorem o_next {i r : Nat} {o : Obj} {cur : Option MapEntry} (hL : L X H0 w0 S H w) (hs : sk S i = some (.obj r o)) (hI : It C es b clock left cur o) (hsub : ∀ p ∈ left, p ∈ m) (hb : w.heap[b]? = some (.map es clock)) (T : TR C V H es clock m)
    (hx : ev n l x = some (.pointer (some ⟨r, 0, none⟩)))
    (k0 : left = [] → K (fr n ((d, .tuple (List.toArray [.bool false])) :: l) ds) w)
    (k1 : ∀ p e o' w', p ∈ left → e.key = C.kv p.1 → V.E H e.val p.2 → It C es b clock (left.filter fun q => !(q.1 == p.1)) (some e) o' → L X H0 w0 ((i, .obj r o') :: S) H w' → K (fr n ((d, .tuple (List.toArray [.bool true, C.kv p.1, e.val])) :: l) ds) w') :
    Oper.wp Tryz.prog ⟨some d, .next x false, ty, pos, aft, g⟩ (fr n l ds) w K Q := by
  obtain ⟨seen, rfl, h1, h2⟩ := hI
  have hr := hL.own i _ hs
  have hst : ∀ x ∈ es.toList, x.born < clock := T.st.1
  rcases run_next_at (P := Tryz.prog) w ty r b clock clock seen es clock hr hb hst (Nat.le_refl _) with ⟨hz, hrun⟩ | ⟨e, he, w1, hw1, hrun⟩
  · have hl : left = [] := by
      cases left with
      | nil => rfl
      | cons p left =>
        obtain ⟨x, hx, hk⟩ := T.fro p (hsub p (by simp))
        have hc := (h1 x hx).2 ⟨p, by simp, hk⟩
        have : x ∈ (leftOf es seen).toList := by
          have hx' : x ∈ es := by simpa using hx
          have hc' : ¬ x.born ∈ seen := by simpa using hc
          simpa [leftOf] using ⟨hx', hc'⟩
        have hz' : (leftOf es seen).toList = [] := by simpa using hz
        rw [hz'] at this; cases this
    refine o_val (w' := w) ?_ (k0 hl)
    simp only [execOp, ev_eval hx, Sem.run_bind, hrun, Result.andThen_ok, Sem.run_pure]
  · have he' : e ∈ es.toList ∧ seen.contains e.born = false := by
      have : e ∈ (leftOf es seen) := by simpa using he
      simpa [leftOf] using this
    obtain ⟨p, hp, hk⟩ := (h1 e he'.1).1 he'.2
    have hL1 : L X H0 w0 S H w1 := by
      rcases hw1 with rfl | rfl
      · exact hL
      · exact hL.drew
    have hIt : It C es b clock (left.filter fun q => !(q.1 == p.1)) (some e) (.mapIter (some b) clock (seen.push e.born) clock) := by
      refine ⟨_, rfl, fun y hy => ?_, fun e' h' => by cases h'; exact ⟨⟨seen, rfl⟩, he'.1⟩⟩
      have hst2 := T.st.2
      have hc : (seen.push e.born).contains y.born = false ↔ (seen.contains y.born = false ∧ y.born ≠ e.born) := by
        simp [Array.contains_push]
      rw [hc]
      constructor
      · rintro ⟨hy1, hy2⟩
        obtain ⟨p', hp', hk'⟩ := (h1 y hy).1 hy1
        refine ⟨p', List.mem_filter.2 ⟨hp', ?_⟩, hk'⟩
        have : p'.1 ≠ p.1 := fun e1 => hy2 (by
          have : y = e := nodup_inj hst2.2 hy he'.1 (by rw [hk', hk, e1])
          rw [this])
        simpa using this
      · rintro ⟨p', hp', hk'⟩
        obtain ⟨hp1, hp2⟩ := List.mem_filter.1 hp'
        refine ⟨(h1 y hy).2 ⟨p', hp1, hk'⟩, fun e1 => ?_⟩
        have : y = e := nodup_inj hst2.1 hy he'.1 e1
        rw [this, hk] at hk'
        have := C.inj _ _ hk'
        simp [this] at hp2
    refine o_val (w' := setBlock w1 r (.mapIter (some b) clock (seen.push e.born) clock)) ?_ (k1 p e _ _ hp hk (T.at (hsub p hp) he'.1 hk) hIt (hL1.turn hs))
    simp only [execOp, ev_eval hx, Sem.run_bind, hrun, Result.andThen_ok, Sem.run_pure, hk]
theorem r_entry {i r : Nat} {o : Obj} {e : MapEntry} (hr : Rs.holds w (.obj r o)) (hI : It C es b clock left (some e) o) (hb : w.heap[b]? = some (.map es clock)) (T : TR C V H es clock m) (hx : ev n l x = some (.pointer (some ⟨r, 0, none⟩))) :
    (execOp (fr n l ds).eval ⟨some d, .entry x, ty, pos, aft, g⟩).run Tryz.prog w = .ok (.value (.tuple (List.toArray [e.key, e.val]))) w := by
  obtain ⟨seen, rfl, h1, h2⟩ := hI
  obtain ⟨⟨s0, rfl⟩, he⟩ := h2 e rfl
  have h := run_entry_at (P := Tryz.prog) w r b clock s0 es clock e hr hb he T.st.2.1
  simp only [execOp, ev_eval hx, Sem.run_bind, h, Result.andThen_ok, Sem.run_pure]
theorem r_entry2 {i r : Nat} {o : Obj} {e : MapEntry} {kv vv : Value} (hr : Rs.holds w (.obj r o)) (hI : It C es b clock left (some e) o) (hb : w.heap[b]? = some (.map es clock)) (T : TR C V H es clock m) (hk : e.key = kv) (hv : e.val = vv) (hx : ev n l x = some (.pointer (some ⟨r, 0, none⟩))) :
    (execOp (fr n l ds).eval ⟨some d, .entry x, ty, pos, aft, g⟩).run Tryz.prog w = .ok (.value (.tuple (List.toArray [kv, vv]))) w := by
  subst hk hv; exact r_entry (i := i) hr hI hb T hx
end
end Go.Proofs.YtcjphpenelnohaaGreatDoor
/- Gi: by tools/gen.py -/
set_option linter.unusedVariables false
namespace Go.Proofs.YtcjphpenelnohaaGreatDoor
open Go.RowKit

/-- slices.EqualFunc[value.list,value.list,value.Value,value.Value] -/
def S62 (F : J → J → Option Bool) : Prop := ∀ {H0 : Hp} {w0 : World} {a0_0 : J} {a1_0 : J} {xa0_0 : Value} {xa1_0 : Value}  (_ : Imm H0 w0) (_ : VR H0 xa0_0 a0_0) (_ : VR H0 xa1_0 a1_0) {r : Bool} (_ : F a0_0 a1_0 = some r), Ct Tryz.prog 62 [.agg (List.toArray [xa0_0]), .agg (List.toArray [xa1_0])] [] H0 w0 fun v H' w' => v = .bool r
def m128s_l0 (f62 : J → J → Option Bool) (a0 : List J) (a1 : List J) : Nat → Int → Option Bool
  | 0, _ => none
  | k + 1, v17_1 => (bif (decide (v17_1 < (a0.length : Int))) then (bif (decide (0 ≤ v17_1 ∧ v17_1 < (a0.length : Int))) then (bif (decide (0 ≤ v17_1 ∧ v17_1 < (a1.length : Int))) then ((f62 (a0.getD (v17_1).toNat J.null) (a1.getD (v17_1).toNat J.null)).bind fun t7 => (bif (!t7) then (some (false)) else (m128s_l0 f62 a0 a1 k (IntKind.wrap .i64 (v17_1 + (1 : Int)))))) else none) else none) else (some (true)))
def m128s (f62 : J → J → Option Bool) (a0 : List J) (a1 : List J) : Option Bool :=
  (bif ((a0.length : Int) != (a1.length : Int)) then (some (false)) else (m128s_l0 f62 a0 a1 FUEL (0 : Int)))
set_option maxHeartbeats 20000000 in
set_option maxRecDepth 100000 in
theorem c128s {f62 : J → J → Option Bool} (h62 : S62 f62) : ∀ {H0 : Hp} {w0 : World} {a0 : List J} {a1 : List J} {aa0 : Option Addr} {ca0 : Nat} {aa1 : Option Addr} {ca1 : Nat}  (_ : Imm H0 w0) (_ : Sl cJ H0 aa0 ca0 a0) (_ : Sl cJ H0 aa1 ca1 a1) {r : Bool} (_ : m128s f62 a0 a1 = some r), Ct Tryz.prog 128 [.slice aa0 (List.length a0) ca0, .slice aa1 (List.length a1) ca1, .func (.func 62) #[] (List.toArray [])] [] H0 w0 fun v H' w' => v = .bool r := by
  intro H0 w0 a0 a1 aa0 ca0 aa1 ca1  hI ha0 ha1 r hm
  have hL := L.start hI
  refine ct_of Tryz.func128 rfl Tryz.ntmps128 rfl (Nat.le_of_ble_eq_true rfl) ?_
  unfold m128s at hm
  refine sr <| sv (r_assign rfl) <| wt <| wp_seq <| sr <| sv (r_move rfl) <| sv (r_lenS rfl Tryz.underlying171 rfl) <| sv (r_move rfl) <| sv (r_lenS rfl Tryz.underlying171 rfl) <| sv (r_nei rfl rfl) <| wt ?_
  refine c_if hm rfl (fun hg1 hm => ?_) (fun hg1 hm => ?_)
  · refine sr <| sv (r_assign rfl) <| wt <| wp_ret <| then_r ?_
    obtain rfl := ends hm
    exact rt rfl (.tmp rfl .nil) ⟨_, _, rfl, hL.ext, rfl⟩
  · refine wp_skip <| then_n <| wp_seq <| sr <| sv (r_move rfl) <| sv (r_lenS rfl Tryz.underlying171 rfl) <| sv (r_move rfl) <| wt <| wp_block <| wp_loop_fuel (k := FUEL) (fun k a w => ∃ (v17_1 : Int) (l : List (Nat × Value)) (H : Hp), a = fr 32 ([(1, .slice aa1 (List.length a1) ca1), (2, .func (.func 62) #[] (List.toArray [])), (6, .bool false), (15, .slice aa0 (List.length a0) ca0), (16, .int .i64 (a0.length : Int)), (17, .int .i64 v17_1)] ++ l) [] ∧ L [] H0 w0 [] H w ∧ Sl cJ H aa0 ca0 a0 ∧ Sl cJ H aa1 ca1 a1 ∧ (m128s_l0 f62 a0 a1 k v17_1) = some r) ⟨_, _, _, fr_pre _ rfl, hL.pick _ rfl, ha0, ha1, hm⟩ ?_
    rintro k0 a w ⟨v17_1, l, H, rfl, hL, ha0, ha1, hm⟩
    cases k0 with
    | zero => rw [m128s_l0.eq_1] at hm; cases hm
    | succ k0 =>
      rw [m128s_l0.eq_2] at hm
      refine sr <| sv (r_lss rfl rfl) <| wt <| wp_seq ?_
      refine c_if hm rfl (fun hg2 hm => ?_) (fun hg2 hm => ?_)
      · refine wp_skip <| then_n <| wp_seq <| wp_block <| sr <| sv (r_move rfl) ?_
        obtain ⟨hg4, hm⟩ := grd hm
        obtain ⟨be3, oe3, _, hae3, hce3, ⟨xe30, rfl, he30⟩⟩ := Sl.at ha0 J.null hg4
        refine sv (r_indexAddr el_171 hg4 hae3 rfl rfl) <| sv (r_loadHk hL.imm ag_33 rfl (vs := [_]) hce3 rfl) ?_
        refine wl rfl (o_alloc 0 (c := [_]) hL ze_33 rfl fun b0 w hL => ?_)
        refine sv (r_assign rfl) ?_
        refine wl rfl (o_storek (i := 0) (vs := [_]) hL ag_33 rfl rfl rfl rfl (Nat.le_of_ble_eq_true rfl) (List.forall_mem_cons.2 ⟨(VR.one he30), List.forall_mem_nil _⟩) (c' := _ :: []) rfl fun w hL => ?_)
        refine wt <| sr <| sv (r_move rfl) <| sv (r_move rfl) ?_
        obtain ⟨hg6, hm⟩ := grd hm
        obtain ⟨be5, oe5, _, hae5, hce5, ⟨xe50, rfl, he50⟩⟩ := Sl.at ha1 J.null hg6
        refine sv (r_indexAddr el_171 hg6 hae5 rfl rfl) <| sv (r_loadHk hL.imm ag_33 rfl (vs := [_]) hce5 rfl) ?_
        refine wl rfl (o_alloc 1 (c := [_]) hL ze_33 rfl fun b1 w hL => ?_)
        refine wl rfl (o_storek (i := 1) (vs := [_]) hL ag_33 rfl rfl rfl rfl (Nat.le_of_ble_eq_true rfl) (List.forall_mem_cons.2 ⟨(VR.one he50), List.forall_mem_nil _⟩) (c' := _ :: []) rfl fun w hL => ?_)
        refine wt <| sr <| sv (r_move rfl) <| sv (r_loadk (hL.own 0 _ rfl) ag_33 rfl (vs := [_]) rfl rfl) <| sv (r_loadk (hL.own 1 _ rfl) ag_33 rfl (vs := [_]) rfl rfl) ?_
        obtain ⟨t7, ht7, hm⟩ := bnd hm
        refine wl rfl (v_call0 rfl hL fn_62 rfl (h62 hL.imm he30 he50 ht7) fun v H w hlet7 hL hR => ?_)
        replace ha0 := Sl.mono hlet7 ha0
        replace ha1 := Sl.mono hlet7 ha1
        obtain rfl := hR
        refine sv (r_not rfl) <| wt ?_
        refine c_if hm rfl (fun hg8 hm => ?_) (fun hg8 hm => ?_)
        · refine sr <| sv (r_assign rfl) <| wt <| wp_ret <| blk_r <| then_r <| then_r <| blk_r <| then_r ?_
          obtain rfl := ends hm
          exact rt rfl (.tmp rfl .nil) ⟨_, _, rfl, hL.ext, rfl⟩
        · refine wp_skip <| blk_n <| then_n <| rg <| sv (r_add rfl rfl) <| sv (r_move rfl) <| wt ?_
          exact ⟨k0, Nat.lt_succ_self k0, _, _, _, fr_pre _ rfl, hL.pick _ rfl, ha0, ha1, hm⟩
      · refine wp_exit <| then_e <| then_e <| blk_e <| then_n <| sr <| sv (r_assign rfl) <| wt <| wp_ret ?_
        obtain rfl := ends hm
        exact rt rfl (.tmp rfl .nil) ⟨_, _, rfl, hL.ext, rfl⟩

end Go.Proofs.YtcjphpenelnohaaGreatDoor
/- maps.EqualFunc with value.Same: a range whose order nobody knows. -/
namespace Go.Proofs.YtcjphpenelnohaaGreatDoor
open Go.RowKit
def allS (f : J → J → Option Bool) (b : List (Bs × J)) : List (Bs × J) → Option Bool
  | [] => some true
  | p :: l => (allS f b l).bind fun r => bif has b p.1 then (f p.2 (look b p.1)).bind fun s => some (s && r) else some false
/-- maps.EqualFunc, with value.Same -/
def m129s (f62 : J → J → Option Bool) (a b : List (Bs × J)) : Option Bool := bif ((a.length : Int) != (b.length : Int)) then some false else allS f62 b a
theorem flt {l : List (Bs × J)} {p : Bs × J} (h : p ∈ l) : (l.filter fun q => !(q.1 == p.1)).length < l.length := List.length_filter_lt_length_iff_exists.2 ⟨p, h, by simp⟩
theorem allS_mem {f : J → J → Option Bool} {b : List (Bs × J)} : ∀ {l : List (Bs × J)} {r : Bool}, allS f b l = some r → ∀ p ∈ l, (has b p.1 = true → ∃ s, f p.2 (look b p.1) = some s ∧ (s = false → r = false)) ∧ (has b p.1 = false → r = false)
  | [], _, _, p, hp => by cases hp
  | q :: l, r, h, p, hp => by
    obtain ⟨r1, h1, h⟩ := bnd h
    rcases List.mem_cons.1 hp with rfl | hp
    · cases e : has b p.1 with
      | false => rw [e] at h; exact ⟨fun h' => (by cases h'), fun _ => (ends h).symm⟩
      | true =>
        rw [e] at h
        obtain ⟨s, h2, h3⟩ := bnd (by simpa using h)
        exact ⟨fun _ => ⟨s, h2, fun hs => (by subst hs; simpa using (ends h3).symm)⟩, fun h => (by cases h)⟩
    · have ih := allS_mem h1 p hp
      have hr : r1 = false → r = false := by
        intro e1
        cases e : has b q.1 with
        | false => rw [e] at h; simpa using (ends h).symm
        | true =>
          rw [e] at h
          obtain ⟨s, h2, h3⟩ := bnd (by simpa using h)
          rw [e1] at h3; simpa using (ends h3).symm
      exact ⟨fun h => let ⟨s, h2, h3⟩ := ih.1 h; ⟨s, h2, fun e => hr (h3 e)⟩, fun h => hr (ih.2 h)⟩
theorem allS_all {f : J → J → Option Bool} {b : List (Bs × J)} : ∀ {l : List (Bs × J)} {r : Bool}, allS f b l = some r → (∀ p ∈ l, has b p.1 = true ∧ f p.2 (look b p.1) = some true) → r = true
  | [], _, h, _ => (ends h).symm
  | q :: l, r, h, hp => by
    obtain ⟨r1, h1, h⟩ := bnd h
    obtain ⟨e1, e2⟩ := hp q (by simp)
    rw [e1] at h
    obtain ⟨s, h2, h3⟩ := bnd (by simpa using h)
    rw [e2] at h2; cases h2
    have := allS_all h1 fun p hq => hp p (by simp [hq])
    rw [this] at h3; simpa using (ends h3).symm
section
variable {P : Program} {Q : Exit → Act → World → Prop} {n : Nat} {l : List (Nat × Value)} {ds : List Deferred} {w w0 : World}
  {d : Nat} {x y z : Operand} {ty : TypeId} {pos : String} {aft : Array Edge} {v u : Value} {g : Option (Nat × Bool)} {K : Act → World → Prop} {X : List Nat} {H0 H : Hp} {S : List (Nat × Rs)}
theorem r_lenQ {tt : Array TypeId} {t k e : TypeId} {q : Option Nat} {m : List (Bs × J)} (hI : Imm H w) (hm : MR H q m) (ht : tt[0]? = some t) (hu : Tryz.prog.underlying t = some (.map k e)) (hx : ev n l x = some (.map q)) :
    (execOp (fr n l ds).eval ⟨some d, .call ⟨.builtin .len, #[x], tt⟩, ty, pos, aft, g⟩).run Tryz.prog w = .ok (.value (.int .i64 (m.length : Int))) w := by
  cases q with
  | none =>
    cases hm
    simp [execOp, resolve, invoke, builtin, Builtin.len_, ev_eval hx, ht, run_underlying hu, goInt]
  | some b =>
    obtain ⟨es, clock, hH, T, _⟩ := hm.toTR
    exact r_lenM ht hu (hI b _ hH) T.sz hx
theorem o_rangeN {t k e : TypeId} (i : Nat) (hL : L X H0 w0 S H w) (hu : P.underlying t = some (.map k e)) (hx : ev n l x = some (.map none))
    (kk : ∀ r w', L X H0 w0 ((i, .obj r (.mapIter none 0 #[] 0)) :: S) H w' → K (fr n ((d, .pointer (some ⟨r, 0, none⟩)) :: l) ds) w') :
    Oper.wp P ⟨some d, .range t x, ty, pos, aft, g⟩ (fr n l ds) w K Q := by
  refine o_val (w' := w.alloc (.mapIter none 0 #[] 0)) ?_ (kk w.heap.size _
    (hL.step [] i (.obj w.heap.size (.mapIter none 0 #[] 0)) (by simp) (Ext.alloc hL.imm _) (by show (w.heap.push _)[w.heap.size]? = _; simp)
    (fun b hb => by simp [Rs.foot] at hb; subst hb; exact ⟨hL.imm.fresh (Nat.le_refl _), .inr (Nat.le_refl _)⟩)))
  have hr := run_range_nilMap (P := P) w t k e hu
  simp only [execOp, ev_eval hx, Sem.run_bind, hr, Result.andThen_ok, Sem.run_pure]
theorem r_nextN {r : Nat} {s c : Nat} {seen : Array Nat} (hb : Rs.holds w (.obj r (.mapIter none s seen c))) (hx : ev n l x = some (.pointer (some ⟨r, 0, none⟩))) :
    (execOp (fr n l ds).eval ⟨some d, .next x false, ty, pos, aft, g⟩).run P w = .ok (.value (.tuple (List.toArray [.bool false]))) w := by
  have hb' : w.heap[r]? = some (.mapIter none s seen c) := hb
  simp [execOp, ev_eval hx, Instr.next, getObj, Sem.run, hb', Result.andThen]
end
set_option maxHeartbeats 4000000 in
set_option maxRecDepth 100000 in
theorem c129s {f62 : J → J → Option Bool} (h62 : S62 f62) : ∀ {H0 : Hp} {w0 : World} {a0 : List (Bs × J)} {a1 : List (Bs × J)} {qa0 : Option Nat} {qa1 : Option Nat}  (_ : Imm H0 w0) (_ : MR H0 qa0 a0) (_ : MR H0 qa1 a1) {r : Bool} (_ : m129s f62 a0 a1 = some r), Ct Tryz.prog 129 [.map qa0, .map qa1, .func (.func 62) #[] (List.toArray [])] [] H0 w0 fun v H' w' => v = .bool r := by
  intro H0 w0 a0 a1 qa0 qa1  hI ha0 ha1 r hm
  have hL := L.start hI
  refine ct_of Tryz.func129 rfl Tryz.ntmps129 rfl (Nat.le_of_ble_eq_true rfl) ?_
  unfold m129s at hm
  refine sr <| sv (r_assign rfl) <| wt <| wp_seq <| sr <| sv (r_move rfl) <| sv (r_lenQ hL.imm ha0 rfl Tryz.underlying173 rfl) <| sv (r_move rfl) <| sv (r_lenQ hL.imm ha1 rfl Tryz.underlying173 rfl) <| sv (r_nei rfl rfl) <| wt ?_
  refine c_if hm rfl (fun hg hm => ?_) (fun hg hm => ?_)
  · refine sr <| sv (r_assign rfl) <| wt <| wp_ret <| then_r ?_
    obtain rfl := ends hm
    exact rt rfl (.tmp rfl .nil) ⟨_, _, rfl, hL.ext, rfl⟩
  · refine wp_skip <| then_n <| wp_seq <| sr <| sv (r_move rfl) ?_
    cases qa0 with
    | none =>
      cases ha0
      refine wl rfl (o_rangeN 0 hL Tryz.underlying173 rfl fun it w hL => ?_)
      refine wt <| wp_block ?_
      refine wp_loop_fuel (k := 0) (fun k a w => ∃ (l : List (Nat × Value)) (H : Hp), a = fr 38 ([(17, .pointer (some ⟨it, 0, none⟩))] ++ l) [] ∧ L [] H0 w0 [(0, .obj it (.mapIter none 0 #[] 0))] H w) ⟨_, _, fr_pre _ rfl, hL.pick _ rfl⟩ ?_
      rintro k a w ⟨l, H, rfl, hL⟩
      refine sr <| sv (r_nextN (hL.own 0 _ rfl) rfl) <| sv (r_extract rfl rfl) <| wt <| wp_seq <| c_F (b := false) rfl rfl <| wp_exit <| then_e <| then_e <| blk_e <| then_n <| sr <| sv (r_assign rfl) <| wt <| wp_ret ?_
      obtain rfl := ends hm
      exact rt rfl (.tmp rfl .nil) ⟨_, _, rfl, hL.ext, rfl⟩
    | some b =>
      obtain ⟨es, clock, hH, T, hso⟩ := ha0.toTR
      refine wl rfl (o_range 0 hL Tryz.underlying173 (hL.imm b _ hH) T rfl fun it o w hIt hL => ?_)
      refine wt <| wp_block ?_
      refine wp_loop_fuel (k := a0.length) (fun k a w => ∃ (left : List (Bs × J)) (cur : Option MapEntry) (o : Obj) (l : List (Nat × Value)) (H : Hp), a = fr 38 ([(0, .map (some b)), (1, .map qa1), (2, .func (.func 62) #[] (List.toArray [])), (17, .pointer (some ⟨it, 0, none⟩))] ++ l) [] ∧ L [] H0 w0 [(0, .obj it o)] H w ∧
        It kStr es b clock left cur o ∧ (∀ p ∈ left, p ∈ a0) ∧ left.length ≤ k ∧ (∀ p ∈ a0, p ∉ left → has a1 p.1 = true ∧ f62 p.2 (look a1 p.1) = some true) ∧ Hle H0 H)
        ⟨a0, none, o, _, _, fr_pre _ rfl, hL.pick _ rfl, hIt, fun p hp => hp, Nat.le_refl _, fun p hp hn => absurd hp hn, Hle.refl _⟩ ?_
      clear hIt hL
      rintro k a w ⟨left, cur, o, l, H, rfl, hL, hIt, hsub, hk, hdone, hle⟩
      have T := T.mono hle
      have hHb := hle _ _ hH
      have ha1 := ha1.mono hle
      refine sr ?_
      refine wl rfl (o_next (i := 0) (m := a0) hL rfl hIt hsub (hL.imm b _ hHb) T rfl (fun hnil => ?_) fun p e o w hp hek hev hIt hL => ?_)
      · subst hnil
        refine sv (r_extract rfl rfl) <| wt <| wp_seq <| c_F (b := false) rfl rfl <| wp_exit <| then_e <| then_e <| blk_e <| then_n <| sr <| sv (r_assign rfl) <| wt <| wp_ret ?_
        have := allS_all hm fun p hp => hdone p hp (by simp)
        subst this
        exact rt rfl (.tmp rfl .nil) ⟨_, _, rfl, hL.ext, rfl⟩
      · obtain ⟨cs, hv, v0, rfl, hvr⟩ := hev
        have hp0 := hsub p hp
        have hkl : decide (p.1.length ≤ LIM) = true := T.ok p hp0
        obtain ⟨x1, hx1, hr1⟩ := mr_look ha1 p.1 hkl true
        obtain ⟨hm1, hm2⟩ := allS_mem hm p hp0
        refine sv (r_extract rfl rfl) <| wt <| wp_seq <| c_T (b := true) rfl rfl <| wp_skip <| then_n <| wp_block <| sr <| sv (r_entry2 (i := 0) (hL.own 0 _ rfl) hIt (hL.imm b _ hHb) T hek hv rfl) <| sv (r_extract rfl rfl) <| sv (r_extract rfl rfl) ?_
        refine wl rfl (o_alloc 1 (c := [_]) hL ze_33 rfl fun b8 w hL => ?_)
        refine sv (r_assign rfl) ?_
        refine wl rfl (o_storek (i := 1) (vs := [_]) hL ag_33 rfl rfl rfl rfl (Nat.le_of_ble_eq_true rfl) (List.forall_mem_cons.2 ⟨VR.one hvr, List.forall_mem_nil _⟩) (c' := _ :: []) rfl fun w hL => ?_)
        refine wt <| sr <| sv (r_move rfl) <| sv (r_move rfl) <| sv (r_lookup (hr1 _ hL.imm) rfl rfl) <| sv (r_move rfl) <| sv (r_extract rfl rfl) <| sv (r_extract rfl rfl) ?_
        refine wl rfl (o_alloc 2 (c := [_]) hL ze_33 rfl fun b9 w hL => ?_)
        refine wl rfl (o_storek (i := 2) (vs := [_]) hL ag_33 rfl rfl rfl rfl (Nat.le_of_ble_eq_true rfl) (List.forall_mem_cons.2 ⟨VR.one hx1, List.forall_mem_nil _⟩) (c' := _ :: []) rfl fun w hL => ?_)
        refine sv (r_assign rfl) <| wt <| sr <| sv (r_move rfl) <| sv (r_not rfl) <| sv (r_move rfl) ?_
        cases hh : has a1 p.1 with
        | false =>
          have hg1 : (!false) = !false := rfl
          refine wlF rfl rfl rfl rfl hg1 rfl <| wlF rfl rfl rfl rfl hg1 rfl <| wlF rfl rfl rfl rfl hg1 rfl <| wlF rfl rfl rfl rfl hg1 rfl <| wlF rfl rfl rfl rfl hg1 rfl ?_
          refine sv (r_pickT rfl rfl rfl) <| wt ?_
          refine c_T (b := true) rfl rfl <| sr <| sv (r_assign rfl) <| wt <| wp_ret <| blk_r <| then_r <| blk_r <| then_r ?_
          obtain rfl := hm2 hh
          exact rt rfl (.tmp rfl .nil) ⟨_, _, rfl, hL.ext, rfl⟩
        | true =>
          have hg1 : (!true) = false := rfl
          obtain ⟨s, hs, hsr⟩ := hm1 hh
          refine wlT rfl rfl rfl rfl hg1 (o_val (r_move rfl) ?_)
          refine wlT rfl rfl rfl rfl hg1 (o_val (r_loadk (hL.own 1 _ rfl) ag_33 rfl (vs := [_]) rfl rfl) ?_)
          refine wlT rfl rfl rfl rfl hg1 (o_val (r_loadk (hL.own 2 _ rfl) ag_33 rfl (vs := [_]) rfl rfl) ?_)
          refine wlT rfl rfl rfl rfl hg1 (v_call0 rfl hL fn_62 rfl (h62 hL.imm hvr hx1 hs) fun v H2 w hle2 hL hR => ?_)
          obtain rfl := hR
          refine wlT rfl rfl rfl rfl hg1 (o_val (r_not rfl) ?_)
          refine sv (r_pickF hg1 rfl rfl) <| wt ?_
          cases s with
          | false =>
            refine c_T (b := true) rfl rfl <| sr <| sv (r_assign rfl) <| wt <| wp_ret <| blk_r <| then_r <| blk_r <| then_r ?_
            obtain rfl := hsr rfl
            exact rt rfl (.tmp rfl .nil) ⟨_, _, rfl, hL.ext, rfl⟩
          | true =>
            refine c_F (b := false) rfl rfl <| wp_skip <| blk_n <| then_n ?_
            have hlt : (left.filter fun q => !(q.1 == p.1)).length < left.length := flt hp
            refine ⟨(left.filter fun q => !(q.1 == p.1)).length, by omega, left.filter fun q => !(q.1 == p.1), some e, o, _, _, fr_pre _ rfl, hL.pick _ rfl, hIt, fun q hq => hsub q (List.mem_filter.1 hq).1, Nat.le_refl _, fun q hq hn => ?_, hle.trans hle2⟩
            by_cases hql : q ∈ left
            · have hqp : q.1 = p.1 := by
                have : ¬ ((!(q.1 == p.1)) = true) := fun h => hn (List.mem_filter.2 ⟨hql, h⟩)
                simpa using this
              have hqe : q = p := nodup_inj T.nd hq hp0 hqp
              subst hqe
              exact ⟨hh, hs⟩
            · exact hdone q hq hql
end Go.Proofs.YtcjphpenelnohaaGreatDoor
/- Gj: by tools/gen.py -/
set_option linter.unusedVariables false
namespace Go.Proofs.YtcjphpenelnohaaGreatDoor
open Go.RowKit

/-- value.Same -/
def m62o (f62 : J → J → Option Bool) (a0_0 : J) (a1_0 : J) : Option Bool :=
  (bif a0_0.isList then none else (bif a0_0.isTab then (bif a1_0.isTab then ((m129s f62 a0_0.tab a1_0.tab).bind fun t7 => (some (t7))) else none) else (bif a1_0.isList then none else (bif a1_0.isTab then none else (bif (!(isPt a0_0 && isPt a1_0)) then (some ((eqJ a0_0 a1_0))) else none)))))
set_option maxHeartbeats 20000000 in
set_option maxRecDepth 100000 in
theorem c62o {f62 : J → J → Option Bool} (h62 : S62 f62) : S62 (m62o f62) := by
  unfold S62
  intro H0 w0 a0_0 a1_0 xa0_0 xa1_0  hI ha0_0 ha1_0 r hm
  have hL := L.start hI
  refine ct_of Tryz.func62 rfl Tryz.ntmps62 rfl (Nat.le_of_ble_eq_true rfl) ?_
  unfold m62o at hm
  refine sr ?_
  refine wl rfl (o_box 0 (c := [_]) hL rfl rfl fun b0 w hL => ?_)
  refine wl rfl (o_box 1 (c := [_]) hL rfl rfl fun b1 w hL => ?_)
  refine sv (r_assign rfl) <| wt <| wp_seq <| sr <| sv (r_fieldAddr fl_33_0 rfl) <| sv (r_load1 (hL.own 0 _ rfl) sc_20 rfl rfl) <| wt <| wp_block <| sr ?_
  obtain ⟨ay1, cy1, huy1, hsy1, hly1⟩ := ta_list ha0_0
  refine sv (r_ta huy1 rfl) <| sv (r_extract rfl rfl) <| sv (r_extract rfl rfl) <| wt ?_
  refine c_if hm rfl (fun hg2 hm => ?_) (fun hg2 hm => ?_)
  · cases hm
  · refine sr ?_
    obtain ⟨qy3, huy3, hqy3⟩ := ta_tab ha0_0
    refine sv (r_ta huy3 rfl) <| sv (r_extract rfl rfl) <| sv (r_extract rfl rfl) <| wt ?_
    refine c_if hm rfl (fun hg4 hm => ?_) (fun hg4 hm => ?_)
    · refine sr <| sv (r_assign rfl) <| wt <| sr <| sv (r_fieldAddr fl_33_0 rfl) <| sv (r_load1 (hL.own 1 _ rfl) sc_20 rfl rfl) ?_
      obtain ⟨qy5, huy5, hqy5⟩ := ta_tab ha1_0
      refine sv (r_ta huy5 rfl) <| sv (r_move rfl) <| sv (r_extract rfl rfl) <| sv (r_extract rfl rfl) <| sv (r_assign rfl) <| sv (r_assign rfl) <| wt <| sr <| sv (r_move rfl) <| sv (r_move rfl) ?_
      refine m_if hm (fun hg6 hm => ?_) (fun hg6 hm => ?_)
      · refine wlT rfl rfl rfl rfl hg6 (o_val (r_move rfl) ?_)
        refine wlT rfl rfl rfl rfl hg6 (o_val (r_move rfl) ?_)
        obtain ⟨t7, ht7, hm⟩ := bnd hm
        refine wlT rfl rfl rfl rfl hg6 (o_call0 hL fn_129 rfl (c129s h62 hL.imm hqy3 hqy5 ht7) fun v H w hlet7 hL hR => ?_)
        replace ha0_0 := VR.mono hlet7 ha0_0
        replace ha1_0 := VR.mono hlet7 ha1_0
        obtain rfl := hR
        refine sv (r_pickT hg6 rfl rfl) <| sv (r_assign rfl) <| wt <| wp_ret <| blk_r <| then_r ?_
        obtain rfl := ends hm
        exact rt rfl (.tmp rfl .nil) ⟨_, _, rfl, hL.ext, rfl⟩
      · cases hm
    · refine wp_skip <| blk_n <| then_n <| wp_seq <| sr <| sv (r_fieldAddr fl_33_0 rfl) <| sv (r_load1 (hL.own 1 _ rfl) sc_20 rfl rfl) <| wt <| wp_block <| sr ?_
      obtain ⟨ay8, cy8, huy8, hsy8, hly8⟩ := ta_list ha1_0
      refine sv (r_ta huy8 rfl) <| sv (r_extract rfl rfl) <| sv (r_extract rfl rfl) ?_
      obtain ⟨qy9, huy9, hqy9⟩ := ta_tab ha1_0
      refine sv (r_ta huy9 rfl) <| sv (r_extract rfl rfl) <| sv (r_extract rfl rfl) ?_
      refine m_if hm (fun hg10 hm => ?_) (fun hg10 hm => ?_)
      · cases hm
      · refine sv (r_pickF hg10 rfl rfl) <| wt ?_
        refine c_if hm rfl (fun hg11 hm => ?_) (fun hg11 hm => ?_)
        · cases hm
        · refine wp_skip <| blk_n <| then_n <| sr <| sv (r_fieldAddr fl_33_0 rfl) <| sv (r_load1 (hL.own 0 _ rfl) sc_20 rfl rfl) <| sv (r_fieldAddr fl_33_0 rfl) <| sv (r_load1 (hL.own 1 _ rfl) sc_20 rfl rfl) ?_
          obtain ⟨hg12, hm⟩ := grd hm
          refine sv (r_eqJ ha0_0 ha1_0 hg2 hg4 hg10 hg11 hg12 rfl rfl) <| sv (r_assign rfl) <| wt <| wp_ret ?_
          obtain rfl := ends hm
          exact rt rfl (.tmp rfl .nil) ⟨_, _, rfl, hL.ext, rfl⟩
def m62n : Nat → J → J → Option Bool
  | 0 => fun _ _ => none
  | n + 1 => m62o (m62n n)
theorem c62n (n : Nat) : S62 (m62n n) := by
  induction n with
  | zero =>
    unfold S62
    intro H0 w0 a0_0 a1_0 xa0_0 xa1_0  hI ha0_0 ha1_0 r hm
    rw [m62n.eq_1] at hm
    cases hm
  | succ n ih => exact c62o ih
def m62 : J → J → Option Bool := m62n FUEL
theorem c62 : S62 m62 := c62n FUEL

/-- gate.other -/
def m95 (a0_0 : Bs) (a0_1 : Ty) (a0_2 : Bool) (a0_3 : Bool) (a0_4 : Bool) (a0_5 : Bool) (a1_0 : J) (a2_0 : J) : Option Bool :=
  ((m21 a1_0).bind fun t1 => (bif (t1 != (7 : Int)) then (some (false)) else none))
set_option maxHeartbeats 20000000 in
set_option maxRecDepth 100000 in
theorem c95 : ∀ {H0 : Hp} {w0 : World} {a0_0 : Bs} {a0_1 : Ty} {a0_2 : Bool} {a0_3 : Bool} {a0_4 : Bool} {a0_5 : Bool} {a1_0 : J} {a2_0 : J} {pa0_1 : Value} {xa1_0 : Value} {xa2_0 : Value}  (_ : Imm H0 w0) (_ : TyR H0 pa0_1 a0_1) (_ : VR H0 xa1_0 a1_0) (_ : VR H0 xa2_0 a2_0) {r : Bool} (_ : m95 a0_0 a0_1 a0_2 a0_3 a0_4 a0_5 a1_0 a2_0 = some r), Ct Tryz.prog 95 [.agg (List.toArray [.string (mk a0_0), pa0_1, .bool a0_2, .bool a0_3, .bool a0_4, .bool a0_5]), .agg (List.toArray [xa1_0]), .agg (List.toArray [xa2_0])] [] H0 w0 fun v H' w' => v = .bool r := by
  intro H0 w0 a0_0 a0_1 a0_2 a0_3 a0_4 a0_5 a1_0 a2_0 pa0_1 xa1_0 xa2_0  hI ha0_1 ha1_0 ha2_0 r hm
  have hL := L.start hI
  refine ct_of Tryz.func95 rfl Tryz.ntmps95 rfl (Nat.le_of_ble_eq_true rfl) ?_
  unfold m95 at hm
  refine sr ?_
  refine wl rfl (o_box 0 (c := [_, _, _, _, _, _]) hL rfl rfl fun b0 w hL => ?_)
  refine wl rfl (o_box 1 (c := [_]) hL rfl rfl fun b1 w hL => ?_)
  refine wl rfl (o_box 2 (c := [_]) hL rfl rfl fun b2 w hL => ?_)
  refine sv (r_assign rfl) <| wt <| wp_seq <| sr <| sv (r_loadk (hL.own 1 _ rfl) ag_33 rfl (vs := [_]) rfl rfl) ?_
  obtain ⟨t1, ht1, hm⟩ := bnd hm
  refine wl rfl (o_call0 hL fn_21 rfl (c21 hL.imm ha1_0 ht1) fun v H w hlet1 hL hR => ?_)
  obtain rfl := hR
  refine sv (r_nei rfl rfl) <| wt ?_
  refine c_if hm rfl (fun hg2 hm => ?_) (fun hg2 hm => ?_)
  · refine sr <| sv (r_assign rfl) <| wt <| wp_ret <| then_r ?_
    obtain rfl := ends hm
    exact rt rfl (.tmp rfl .nil) ⟨_, _, rfl, hL.ext, rfl⟩
  · cases hm

/-- gate.Renew -/
def m17_j1 (nx0 : Int → Option (List Bs)) (v13_1 : Int) (v24_2 : Bool) : Option (List Bs) := (bif v24_2 then none else (nx0 (IntKind.wrap .i64 (v13_1 + (1 : Int)))))
def m17_l0 (a1_0 : J) (a2_0 : J) (t1 : List At) : Nat → Int → Option (List Bs)
  | 0, _ => none
  | k + 1, v13_1 => (bif (decide (v13_1 < (t1.length : Int))) then (bif (decide (0 ≤ v13_1 ∧ v13_1 < (t1.length : Int))) then (bif (t1.getD (v13_1).toNat default).new then ((m95 ((t1.getD (v13_1).toNat default).name) ((t1.getD (v13_1).toNat default).ty) ((t1.getD (v13_1).toNat default).must) ((t1.getD (v13_1).toNat default).own) ((t1.getD (v13_1).toNat default).hide) ((t1.getD (v13_1).toNat default).new) a1_0 a2_0).bind fun t7 => (m17_j1 (m17_l0 a1_0 a2_0 t1 k) v13_1 t7)) else (m17_j1 (m17_l0 a1_0 a2_0 t1 k) v13_1 false)) else none) else (some (([] : List Bs))))
def m17 (a0 : Sch) (a1_0 : J) (a2_0 : J) : Option (List Bs) :=
  ((m94 a0).bind fun t1 => (m17_l0 a1_0 a2_0 t1 FUEL (0 : Int)))
set_option maxHeartbeats 20000000 in
set_option maxRecDepth 100000 in
theorem c17 : ∀ {H0 : Hp} {w0 : World} {a0 : Sch} {a1_0 : J} {a2_0 : J} {pa0 : Value} {xa1_0 : Value} {xa2_0 : Value}  (_ : Imm H0 w0) (_ : ScR H0 pa0 a0) (_ : VR H0 xa1_0 a1_0) (_ : VR H0 xa2_0 a2_0) {r : List Bs} (_ : m17 a0 a1_0 a2_0 = some r), Ct Tryz.prog 17 [pa0, .agg (List.toArray [xa1_0]), .agg (List.toArray [xa2_0])] [] H0 w0 fun v H' w' => ∃ (ar0_0 : Option Addr) (cr0_0 : Nat), v = .slice ar0_0 (List.length r) cr0_0 ∧ Sl cStr H' ar0_0 cr0_0 r := by
  intro H0 w0 a0 a1_0 a2_0 pa0 xa1_0 xa2_0  hI ha0 ha1_0 ha2_0 r hm
  have hL := L.start hI
  refine ct_of Tryz.func17 rfl Tryz.ntmps17 rfl (Nat.le_of_ble_eq_true rfl) ?_
  unfold m17 at hm
  refine sr ?_
  refine wl rfl (o_box 0 (c := [_]) hL rfl rfl fun b0 w hL => ?_)
  refine wl rfl (o_box 1 (c := [_]) hL rfl rfl fun b1 w hL => ?_)
  refine sv (r_assign rfl) <| wt <| sr <| sv (r_assign rfl) <| wt <| wp_seq <| sr <| sv (r_move rfl) ?_
  obtain ⟨t1, ht1, hm⟩ := bnd hm
  refine wl rfl (o_call0 hL fn_94 rfl (c94 hL.imm ha0 ht1) fun v H w hlet1 hL hR => ?_)
  replace ha1_0 := VR.mono hlet1 ha1_0
  replace ha2_0 := VR.mono hlet1 ha2_0
  obtain ⟨at1r0_0, ct1r0_0, rfl, ht1r0_0⟩ := hR
  refine sv (r_lenS rfl Tryz.underlying152 rfl) <| sv (r_move rfl) <| wt <| wp_block <| wp_loop_fuel (k := FUEL) (fun k a w => ∃ (v13_1 : Int) (l : List (Nat × Value)) (H : Hp), a = fr 32 ([(4, .pointer (some ⟨b0, 0, none⟩)), (5, .pointer (some ⟨b1, 0, none⟩)), (6, .slice none 0 0), (7, .slice none 0 0), (11, .slice at1r0_0 (List.length t1) ct1r0_0), (12, .int .i64 (t1.length : Int)), (13, .int .i64 v13_1)] ++ l) [] ∧ L [] H0 w0 [(0, .cel b0 (xa1_0 :: []) 33), (1, .cel b1 (xa2_0 :: []) 33)] H w ∧ VR H xa1_0 a1_0 ∧ VR H xa2_0 a2_0 ∧ Sl cAt H at1r0_0 ct1r0_0 t1 ∧ (m17_l0 a1_0 a2_0 t1 k v13_1) = some r) ⟨_, _, _, fr_pre _ rfl, hL.pick _ rfl, ha1_0, ha2_0, ht1r0_0, hm⟩ ?_
  rintro k0 a w ⟨v13_1, l, H, rfl, hL, ha1_0, ha2_0, ht1r0_0, hm⟩
  cases k0 with
  | zero => rw [m17_l0.eq_1] at hm; cases hm
  | succ k0 =>
    rw [m17_l0.eq_2] at hm
    refine sr <| sv (r_lss rfl rfl) <| wt <| wp_seq ?_
    refine c_if hm rfl (fun hg2 hm => ?_) (fun hg2 hm => ?_)
    · refine wp_skip <| then_n <| wp_seq <| wp_block <| sr ?_
      obtain ⟨hg4, hm⟩ := grd hm
      obtain ⟨be3, oe3, _, hae3, hce3, ⟨pe31, rfl, he31⟩⟩ := Sl.at ht1r0_0 default hg4
      refine sv (r_indexAddr el_152 hg4 hae3 rfl rfl) <| sv (r_loadHk hL.imm ag_41 rfl (vs := [_, _, _, _, _, _]) hce3 rfl) ?_
      refine wl rfl (o_alloc 2 (c := [_, _, _, _, _, _]) hL ze_41 rfl fun b2 w hL => ?_)
      refine wl rfl (o_storek (i := 2) (vs := [_, _, _, _, _, _]) hL ag_41 rfl rfl rfl rfl (Nat.le_of_ble_eq_true rfl) (List.forall_mem_cons.2 ⟨rfl, (List.forall_mem_cons.2 ⟨(TyR.one he31), (List.forall_mem_cons.2 ⟨rfl, (List.forall_mem_cons.2 ⟨rfl, (List.forall_mem_cons.2 ⟨rfl, (List.forall_mem_cons.2 ⟨rfl, List.forall_mem_nil _⟩)⟩)⟩)⟩)⟩)⟩) (c' := _ :: _ :: _ :: _ :: _ :: _ :: []) rfl fun w hL => ?_)
      refine wt ?_
      refine w_join (fun a w => ∃ (v24_2 : Bool) (l : List (Nat × Value)) (H : Hp), a = fr 32 ([(4, .pointer (some ⟨b0, 0, none⟩)), (5, .pointer (some ⟨b1, 0, none⟩)), (6, .slice none 0 0), (7, .slice none 0 0), (9, .pointer (some ⟨b2, 0, none⟩)), (11, .slice at1r0_0 (List.length t1) ct1r0_0), (12, .int .i64 (t1.length : Int)), (13, .int .i64 v13_1), (14, .bool (decide (v13_1 < (t1.length : Int)))), (15, .pointer (some ⟨be3, oe3, none⟩)), (16, .agg (List.toArray [.string (mk ((t1.getD (v13_1).toNat default).name)), pe31, .bool ((t1.getD (v13_1).toNat default).must), .bool ((t1.getD (v13_1).toNat default).own), .bool ((t1.getD (v13_1).toNat default).hide), .bool ((t1.getD (v13_1).toNat default).new)])), (17, .pointer (some ⟨b2, 5, none⟩)), (18, .bool ((t1.getD (v13_1).toNat default).new)), (19, .bool ((t1.getD (v13_1).toNat default).new)), (24, .bool v24_2)] ++ l) [] ∧ L [] H0 w0 [(0, .cel b0 (xa1_0 :: []) 33), (1, .cel b1 (xa2_0 :: []) 33), (2, .cel b2 ((.string (mk ((t1.getD (v13_1).toNat default).name))) :: pe31 :: (.bool ((t1.getD (v13_1).toNat default).must)) :: (.bool ((t1.getD (v13_1).toNat default).own)) :: (.bool ((t1.getD (v13_1).toNat default).hide)) :: (.bool ((t1.getD (v13_1).toNat default).new)) :: []) 41)] H w ∧ VR H xa1_0 a1_0 ∧ VR H xa2_0 a2_0 ∧ Sl cAt H at1r0_0 ct1r0_0 t1 ∧ TyR H pe31 ((t1.getD (v13_1).toNat default).ty) ∧ HC H be3 oe3 [.string (mk ((t1.getD (v13_1).toNat default).name)), pe31, .bool ((t1.getD (v13_1).toNat default).must), .bool ((t1.getD (v13_1).toNat default).own), .bool ((t1.getD (v13_1).toNat default).hide), .bool ((t1.getD (v13_1).toNat default).new)] ∧ (m17_j1 (m17_l0 a1_0 a2_0 t1 k0) v13_1 v24_2) = some r) (fun a w hj => ?_) ?_
      · obtain ⟨v24_2, l, H, rfl, hL, ha1_0, ha2_0, ht1r0_0, he31, hce3, hm⟩ := hj
        unfold m17_j1 at hm
        refine c_if hm rfl (fun hg5 hm => ?_) (fun hg5 hm => ?_)
        · cases hm
        · refine wp_skip <| blk_n <| then_n <| rg <| sv (r_add rfl rfl) <| sv (r_move rfl) <| wt ?_
          exact ⟨k0, Nat.lt_succ_self k0, _, _, _, fr_pre _ rfl, hL.pick _ rfl, ha1_0, ha2_0, ht1r0_0, hm⟩
      · refine rg <| sv (r_fieldAddr fl_41_5 rfl) <| sv (r_load1 (hL.own 2 _ rfl) sc_4 rfl rfl) <| sv (r_move rfl) ?_
        refine m_if hm (fun hg6 hm => ?_) (fun hg6 hm => ?_)
        · refine wlT rfl rfl rfl rfl hg6 (o_val (r_loadk (hL.own 2 _ rfl) ag_41 rfl (vs := [_, _, _, _, _, _]) rfl rfl) ?_)
          refine wlT rfl rfl rfl rfl hg6 (o_val (r_loadk (hL.own 0 _ rfl) ag_33 rfl (vs := [_]) rfl rfl) ?_)
          refine wlT rfl rfl rfl rfl hg6 (o_val (r_loadk (hL.own 1 _ rfl) ag_33 rfl (vs := [_]) rfl rfl) ?_)
          obtain ⟨t7, ht7, hm⟩ := bnd hm
          refine wlT rfl rfl rfl rfl hg6 (o_call0 hL fn_95 rfl (c95 hL.imm he31 ha1_0 ha2_0 ht7) fun v H w hlet7 hL hR => ?_)
          replace ha1_0 := VR.mono hlet7 ha1_0
          replace ha2_0 := VR.mono hlet7 ha2_0
          replace ht1r0_0 := Sl.mono hlet7 ht1r0_0
          replace he31 := TyR.mono hlet7 he31
          replace hce3 := HC.mono hlet7 hce3
          obtain rfl := hR
          refine sv (r_pickT hg6 rfl rfl) <| wt ?_
          exact ⟨_, _, _, fr_pre _ rfl, hL.pick _ rfl, ha1_0, ha2_0, ht1r0_0, he31, hce3, hm⟩
        · refine wlF rfl rfl rfl rfl hg6 rfl <| wlF rfl rfl rfl rfl hg6 rfl <| wlF rfl rfl rfl rfl hg6 rfl <| wlF rfl rfl rfl rfl hg6 rfl <| sv (r_pickF hg6 rfl rfl) <| wt ?_
          exact ⟨_, _, _, fr_pre _ rfl, hL.pick _ rfl, ha1_0, ha2_0, ht1r0_0, he31, hce3, hm⟩
    · refine wp_exit <| then_e <| then_e <| blk_e <| then_n <| sr <| sv (r_move rfl) <| sv (r_assign rfl) <| wt <| wp_ret ?_
      obtain rfl := ends hm
      exact rt rfl (.tmp rfl .nil) ⟨_, _, rfl, hL.ext, ⟨_, _, rfl, Sl.nil⟩⟩

end Go.Proofs.YtcjphpenelnohaaGreatDoor
