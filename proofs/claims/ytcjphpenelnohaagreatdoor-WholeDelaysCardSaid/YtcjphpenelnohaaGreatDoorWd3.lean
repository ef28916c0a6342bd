/- WholeDelays: part 3. -/
import Derived.Test.YtcjphpenelnohaaGreatDoorWd2
import Derived.RangeFuncOwn
import Derived.RangeFuncLeaves
import Derived.Shelf.SlIter.Collect
set_option linter.all false
set_option linter.unusedVariables false
set_option linter.unusedSimpArgs false
set_option linter.unusedSectionVars false
set_option linter.unnecessarySimpa false
set_option linter.deprecated false
/- Gk: by tools/gen.py -/
set_option linter.unusedVariables false
namespace Go.Proofs.YtcjphpenelnohaaGreatDoor
open Go.RowKit

/-- slices.Grow[[]string,string] -/
def m398n (a1 : Int) : Option (List Bs) :=
  (bif (decide (a1 < (0 : Int))) then none else (bif (decide ((0 : Int) < (IntKind.wrap .i64 (a1 - (IntKind.wrap .i64 ((0 : Int) - (0 : Int))))))) then (bif (decide ((IntKind.wrap .i64 (a1 - (IntKind.wrap .i64 ((0 : Int) - (0 : Int))))) ≤ (LIM : Int))) then (some (([] : List Bs))) else none) else none))
set_option maxHeartbeats 20000000 in
set_option maxRecDepth 100000 in
theorem c398n : ∀ {H0 : Hp} {w0 : World} {a1 : Int}  (_ : Imm H0 w0) {r : List Bs} (_ : m398n a1 = some r), Ct Tryz.prog 398 [.slice none 0 0, .int .i64 a1] [] H0 w0 fun v H' w' => ∃ x : (Option Addr) × Nat × (List Value), (v = .slice (x.1) (List.length r) (x.2.1) ∧ LC cStr H' (x.2.2) r) ∧ Rs.holds w' (.row (.slice (x.1) (List.length r) (x.2.1)) 9 1 (List.length r) (x.2.2)) ∧ ∀ b' ∈ Rs.foot (.row (.slice (x.1) (List.length r) (x.2.1)) 9 1 (List.length r) (x.2.2)), H' b' = none ∧ (b' ∈ Rs.foot .gone ∨ w0.heap.size ≤ b') := by
  intro H0 w0 a1  hI r hm
  have hL := L.start hI
  refine ct_of Tryz.func398 rfl Tryz.ntmps398 rfl (Nat.le_of_ble_eq_true rfl) ?_
  unfold m398n at hm
  refine sr <| sv (r_assign rfl) <| wt <| wp_seq <| sr <| sv (r_move rfl) <| sv (r_lss rfl rfl) <| wt ?_
  refine c_if hm rfl (fun hg1 hm => ?_) (fun hg1 hm => ?_)
  · cases hm
  · refine wp_skip <| then_n <| wp_seq <| sr <| sv (r_move rfl) <| sv (r_move rfl) <| sv (r_capN rfl Tryz.underlying30 rfl) <| sv (r_move rfl) <| sv (r_lenS rfl Tryz.underlying30 rfl) <| sv (r_sub rfl rfl) <| sv (r_sub rfl rfl) <| sv (r_assign rfl) <| wt <| sr <| sv (r_move rfl) <| sv (r_gtr rfl rfl) <| wt ?_
    refine c_if hm rfl (fun hg2 hm => ?_) (fun hg2 hm => ?_)
    · refine rg <| sv (r_move rfl) <| sv (r_move rfl) <| sv (r_capN rfl Tryz.underlying30 rfl) <| sv (r_slice0 el_30 rfl rfl (.inl ⟨rfl, rfl⟩)) <| sv (r_move rfl) ?_
      obtain ⟨hg3, hm⟩ := grd hm
      refine wl rfl (o_appendN 0 hL el_30 Tryz.underlying3 hg2 hg3 rfl rfl fun gw4 cw4 w hL => ?_)
      have hww4 : LC cStr hL.hp [] ([] : List Bs) := LC.nil
      refine sv (r_move rfl) <| sv (r_lenS rfl Tryz.underlying30 rfl) <| sv (r_slice0 el_30 rfl rfl (.inr ⟨_, rfl⟩)) <| sv (r_assign rfl) <| wt <| sr <| sv (r_move rfl) <| sv (r_assign rfl) <| wt <| wp_ret ?_
      obtain rfl := ends hm
      refine rt rfl (.tmp rfl .nil) ⟨_, _, rfl, hL.ext, ?_⟩
      exact ⟨⟨(some ⟨gw4, 0, none⟩), cw4, []⟩, ⟨rfl, hww4⟩, hL.give (i := 0) rfl⟩
    · cases hm

/-- slices.Concat[[]string,string] -/
def m344_l1 (a0 : List (List Bs)) : Nat → Int → List Bs → Option (List Bs)
  | 0, _, _ => none
  | k + 1, v27_2, u0R_2 => (bif (decide (v27_2 < (a0.length : Int))) then (bif (decide (0 ≤ v27_2 ∧ v27_2 < (a0.length : Int))) then (bif (decide (u0R_2.length + (a0.getD (v27_2).toNat ([] : List Bs)).length ≤ LIM)) then (m344_l1 a0 k (IntKind.wrap .i64 (v27_2 + (1 : Int))) (u0R_2 ++ (a0.getD (v27_2).toNat ([] : List Bs)))) else none) else none) else (some (u0R_2)))
def m344_j0 (a0 : List (List Bs)) (v3_1 : Int) : Option (List Bs) := ((m398n v3_1).bind fun t1 => (m344_l1 a0 FUEL (0 : Int) t1))
def m344_l2 (a0 : List (List Bs)) : Nat → Int → Int → Option (List Bs)
  | 0, _, _ => none
  | k + 1, v3_3, v11_3 => (bif (decide (v11_3 < (a0.length : Int))) then (bif (decide (0 ≤ v11_3 ∧ v11_3 < (a0.length : Int))) then (bif (decide ((IntKind.wrap .i64 (v3_3 + ((a0.getD (v11_3).toNat ([] : List Bs)).length : Int))) < (0 : Int))) then none else (m344_l2 a0 k (IntKind.wrap .i64 (v3_3 + ((a0.getD (v11_3).toNat ([] : List Bs)).length : Int))) (IntKind.wrap .i64 (v11_3 + (1 : Int))))) else none) else (m344_j0 a0 v3_3))
def m344 (a0 : List (List Bs)) : Option (List Bs) :=
  (m344_l2 a0 FUEL (0 : Int) (0 : Int))
set_option maxHeartbeats 20000000 in
set_option maxRecDepth 100000 in
theorem c344 : ∀ {H0 : Hp} {w0 : World} {a0 : List (List Bs)} {aa0 : Option Addr} {ca0 : Nat}  (_ : Imm H0 w0) (_ : Sl (cSl cStr) H0 aa0 ca0 a0) {r : List Bs} (_ : m344 a0 = some r), Ct Tryz.prog 344 [.slice aa0 (List.length a0) ca0] [] H0 w0 fun v H' w' => ∃ x : (Option Addr) × Nat × (List Value), (v = .slice (x.1) (List.length r) (x.2.1) ∧ LC cStr H' (x.2.2) r) ∧ Rs.holds w' (.row (.slice (x.1) (List.length r) (x.2.1)) 9 1 (List.length r) (x.2.2)) ∧ ∀ b' ∈ Rs.foot (.row (.slice (x.1) (List.length r) (x.2.1)) 9 1 (List.length r) (x.2.2)), H' b' = none ∧ (b' ∈ Rs.foot .gone ∨ w0.heap.size ≤ b') := by
  intro H0 w0 a0 aa0 ca0  hI ha0 r hm
  have hL := L.start hI
  refine ct_of Tryz.func344 rfl Tryz.ntmps344 rfl (Nat.le_of_ble_eq_true rfl) ?_
  unfold m344 at hm
  refine sr <| sv (r_assign rfl) <| wt <| sr <| sv (r_assign rfl) <| wt ?_
  refine w_join (fun a w => ∃ (v3_1 : Int) (l : List (Nat × Value)) (H : Hp), a = fr 36 ([(0, .slice aa0 (List.length a0) ca0), (2, .slice none 0 0), (3, .int .i64 v3_1)] ++ l) [] ∧ L [] H0 w0 [] H w ∧ Sl (cSl cStr) H aa0 ca0 a0 ∧ (m344_j0 a0 v3_1) = some r) (fun a w hj => ?_) ?_
  · obtain ⟨v3_1, l, H, rfl, hL, ha0, hm⟩ := hj
    unfold m344_j0 at hm
    refine sr <| sv (r_move rfl) ?_
    obtain ⟨t1, ht1, hm⟩ := bnd hm
    have hL := hL.room 0
    refine wl rfl (o_callE 0 hL fn_398 rfl rfl (c398n hL.imm ht1) fun x v H w hlet1 hL hR => ?_)
    obtain ⟨at1r0_0, ct1r0_0, zt1r0_0⟩ := x
    try dsimp only at hL hR
    replace ha0 := Sl.mono hlet1 ha0
    obtain ⟨rfl, ht1r0_0⟩ := hR
    refine sv (r_assign rfl) <| wt <| wp_seq <| sr <| sv (r_move rfl) <| sv (r_lenS rfl Tryz.underlying462 rfl) <| sv (r_move rfl) <| wt <| wp_block <| wp_loop_fuel (k := FUEL) (fun k a w => ∃ (v27_2 : Int) (u0R_2 : List Bs) (au0R_2 : Option Addr) (cu0R_2 : Nat) (zu0R_2 : List Value) (l : List (Nat × Value)) (H : Hp), a = fr 36 ([(2, .slice none 0 0), (6, .slice au0R_2 (List.length u0R_2) cu0R_2), (25, .slice aa0 (List.length a0) ca0), (26, .int .i64 (a0.length : Int)), (27, .int .i64 v27_2)] ++ l) [] ∧ L [] H0 w0 [(0, .row (.slice au0R_2 (List.length u0R_2) cu0R_2) 9 1 (List.length u0R_2) zu0R_2)] H w ∧ Sl (cSl cStr) H aa0 ca0 a0 ∧ LC cStr H zu0R_2 u0R_2 ∧ (m344_l1 a0 k v27_2 u0R_2) = some r) ⟨_, _, _, _, _, _, _, fr_pre _ rfl, hL.pick _ rfl, ha0, ht1r0_0, hm⟩ ?_
    rintro k1 a w ⟨v27_2, u0R_2, au0R_2, cu0R_2, zu0R_2, l, H, rfl, hL, ha0, hu0R_2, hm⟩
    cases k1 with
    | zero => rw [m344_l1.eq_1] at hm; cases hm
    | succ k1 =>
      rw [m344_l1.eq_2] at hm
      refine sr <| sv (r_lss rfl rfl) <| wt <| wp_seq ?_
      refine c_if hm rfl (fun hg2 hm => ?_) (fun hg2 hm => ?_)
      · refine wp_skip <| then_n <| wp_seq <| wp_block <| sr ?_
        obtain ⟨hg4, hm⟩ := grd hm
        obtain ⟨be3, oe3, _, hae3, hce3, ⟨ae30, ce30, rfl, he30⟩⟩ := Sl.at ha0 ([] : List Bs) hg4
        refine sv (r_indexAddr el_462 hg4 hae3 rfl rfl) <| sv (r_loadH1 hL.imm sc_30 rfl hce3) <| sv (r_assign rfl) <| wt <| rg <| sv (r_move rfl) <| sv (r_move rfl) ?_
        obtain ⟨hg5, hm⟩ := grd hm
        refine wl rfl (o_appendI (C := cStr) 0 hL el_30 rfl rfl rfl he30 hg5 fun aw6 cw6 zw6 w hzw6 hL => ?_)
        have hww6 := LC.append hu0R_2 hzw6
        refine sv (r_assign rfl) <| wn <| blk_n <| then_n <| rg <| sv (r_add rfl rfl) <| sv (r_move rfl) <| wt ?_
        exact ⟨k1, Nat.lt_succ_self k1, _, _, _, _, _, _, _, fr_pre _ rfl, hL.pick _ rfl, ha0, hww6, hm⟩
      · refine wp_exit <| then_e <| then_e <| blk_e <| then_n <| sr <| sv (r_move rfl) <| sv (r_assign rfl) <| wt <| wp_ret ?_
        obtain rfl := ends hm
        refine rt rfl (.tmp rfl .nil) ⟨_, _, rfl, hL.ext, ?_⟩
        exact ⟨⟨au0R_2, cu0R_2, zu0R_2⟩, ⟨rfl, hu0R_2⟩, hL.give (i := 0) rfl⟩
  · refine sr <| sv (r_move rfl) <| sv (r_lenS rfl Tryz.underlying462 rfl) <| sv (r_move rfl) <| wt <| wp_block <| wp_loop_fuel (k := FUEL) (fun k a w => ∃ (v3_3 : Int) (v11_3 : Int) (l : List (Nat × Value)) (H : Hp), a = fr 36 ([(0, .slice aa0 (List.length a0) ca0), (2, .slice none 0 0), (3, .int .i64 v3_3), (9, .slice aa0 (List.length a0) ca0), (10, .int .i64 (a0.length : Int)), (11, .int .i64 v11_3)] ++ l) [] ∧ L [] H0 w0 [] H w ∧ Sl (cSl cStr) H aa0 ca0 a0 ∧ (m344_l2 a0 k v3_3 v11_3) = some r) ⟨_, _, _, _, fr_pre _ rfl, hL.pick _ rfl, ha0, hm⟩ ?_
    rintro k2 a w ⟨v3_3, v11_3, l, H, rfl, hL, ha0, hm⟩
    cases k2 with
    | zero => rw [m344_l2.eq_1] at hm; cases hm
    | succ k2 =>
      rw [m344_l2.eq_2] at hm
      refine sr <| sv (r_lss rfl rfl) <| wt <| wp_seq ?_
      refine c_if hm rfl (fun hg7 hm => ?_) (fun hg7 hm => ?_)
      · refine wp_skip <| then_n <| wp_seq <| wp_block <| sr ?_
        obtain ⟨hg9, hm⟩ := grd hm
        obtain ⟨be8, oe8, _, hae8, hce8, ⟨ae80, ce80, rfl, he80⟩⟩ := Sl.at ha0 ([] : List Bs) hg9
        refine sv (r_indexAddr el_462 hg9 hae8 rfl rfl) <| sv (r_loadH1 hL.imm sc_30 rfl hce8) <| sv (r_assign rfl) <| wt <| sr <| sv (r_move rfl) <| sv (r_move rfl) <| sv (r_lenS rfl Tryz.underlying30 rfl) <| sv (r_add rfl rfl) <| sv (r_assign rfl) <| wt <| sr <| sv (r_move rfl) <| sv (r_lss rfl rfl) <| wt ?_
        refine c_if hm rfl (fun hg10 hm => ?_) (fun hg10 hm => ?_)
        · cases hm
        · refine wp_skip <| blk_n <| then_n <| rg <| sv (r_add rfl rfl) <| sv (r_move rfl) <| wt ?_
          exact ⟨k2, Nat.lt_succ_self k2, _, _, _, _, fr_pre _ rfl, hL.pick _ rfl, ha0, hm⟩
      · refine wp_exit <| then_e <| then_e <| blk_e <| then_n ?_
        exact ⟨_, _, _, fr_pre _ rfl, hL.pick _ rfl, ha0, hm⟩

/-- diff.both -/
def m270 (a0_0 : J) (a1_0 : J) : Option (List Bs) :=
  ((m131 a0_0).bind fun t1 => ((m131 a1_0).bind fun t2 => ((m344 ([t1, t2] : List (List Bs))).bind fun t5 => ((m182 t5).bind fun t6 => ((m183 t6).bind fun t7 => (some (t7)))))))
set_option maxHeartbeats 20000000 in
set_option maxRecDepth 100000 in
theorem c270 : ∀ {H0 : Hp} {w0 : World} {a0_0 : J} {a1_0 : J} {xa0_0 : Value} {xa1_0 : Value}  (_ : Imm H0 w0) (_ : VR H0 xa0_0 a0_0) (_ : VR H0 xa1_0 a1_0) {r : List Bs} (_ : m270 a0_0 a1_0 = some r), Ct Tryz.prog 270 [.agg (List.toArray [xa0_0]), .agg (List.toArray [xa1_0])] [] H0 w0 fun v H' w' => ∃ (ar0_0 : Option Addr) (cr0_0 : Nat), v = .slice ar0_0 (List.length r) cr0_0 ∧ Sl cStr H' ar0_0 cr0_0 r := by
  intro H0 w0 a0_0 a1_0 xa0_0 xa1_0  hI ha0_0 ha1_0 r hm
  have hL := L.start hI
  refine ct_of Tryz.func270 rfl Tryz.ntmps270 rfl (Nat.le_of_ble_eq_true rfl) ?_
  unfold m270 at hm
  refine sr ?_
  refine wl rfl (o_box 0 (c := [_]) hL rfl rfl fun b0 w hL => ?_)
  refine wl rfl (o_box 1 (c := [_]) hL rfl rfl fun b1 w hL => ?_)
  refine sv (r_assign rfl) <| wt <| wp_seq <| rd hL [0, 1] [_, _] [(0, true), (2, true), (1, false), (3, false), (4, false), (5, false), (6, true)] mixed rfl (by kernel_rfl) fun w hL => dv rfl (fun w hS => r_loadk hS.2.1 ag_33 rfl (vs := [_]) rfl rfl) <| dv rfl (fun w hS => r_loadk hS.2.2.1 ag_33 rfl (vs := [_]) rfl rfl) ?_
  obtain ⟨t1, ht1, hm⟩ := bnd hm
  refine dh rfl rfl (o_call0 hL fn_131 rfl (c131 hL.imm ha0_0 ht1) fun v H w hlet1 hL hR => ⟨Sd.of hL ((Hle.refl _).trans hlet1) [0, 1] rfl, ?_⟩)
  replace ha1_0 := VR.mono hlet1 ha1_0
  obtain ⟨at1r0_0, ct1r0_0, rfl, ht1r0_0⟩ := hR
  obtain ⟨t2, ht2, hm⟩ := bnd hm
  refine dh rfl rfl (o_call0 hL fn_131 rfl (c131 hL.imm ha1_0 ht2) fun v H w hlet2 hL hR => ⟨Sd.of hL (((Hle.refl _).trans hlet1).trans hlet2) [0, 1] rfl, ?_⟩)
  replace ht1r0_0 := Sl.mono hlet2 ht1r0_0
  obtain ⟨at2r0_0, ct2r0_0, rfl, ht2r0_0⟩ := hR
  have hww3 : LC (cSl cStr) hL.hp [.slice at1r0_0 (List.length t1) ct1r0_0, .slice at2r0_0 (List.length t2) ct2r0_0] ([t1, t2] : List (List Bs)) := (LC.cons (K := (cSl cStr)) (cs := [.slice at1r0_0 (List.length t1) ct1r0_0]) ⟨_, _, rfl, ht1r0_0⟩ (LC.cons (K := (cSl cStr)) (cs := [.slice at2r0_0 (List.length t2) ct2r0_0]) ⟨_, _, rfl, ht2r0_0⟩ LC.nil))
  refine dh rfl rfl (o_buildSlice (C := (cSl cStr)) 2 hL el_462 ze_30 rfl (.cons rfl (.cons rfl .nil)) rfl rfl rfl rfl hww3 fun gw3 w hL => ⟨Sd.of hL (((Hle.refl _).trans hlet1).trans hlet2) [0, 1] rfl, ?_⟩)
  obtain ⟨H, hlez4, hL, hsz4⟩ := hL.settle (i := 2) (K := (cSl cStr)) rfl hww3
  obtain ⟨t5, ht5, hm⟩ := bnd hm
  have hL := hL.room 3
  refine dh rfl rfl (o_callE 3 hL fn_344 rfl rfl (c344 hL.imm hsz4 ht5) fun x v H w hlet5 hL hR => ⟨Sd.of hL (((((Hle.refl _).trans hlet1).trans hlet2).trans hlez4).trans hlet5) [0, 1] rfl, ?_⟩)
  obtain ⟨at5r0_0, ct5r0_0, zt5r0_0⟩ := x
  try dsimp only at hL hR
  obtain ⟨rfl, ht5r0_0⟩ := hR
  refine dv rfl (fun w hS => r_assign rfl) <| dn <| then_n <| sr <| sv (r_move rfl) ?_
  obtain ⟨t6, ht6, hm⟩ := bnd hm
  refine wl rfl (o_callE 3 hL fn_182 rfl rfl (c182 hL.imm (hL.own 3 _ rfl) (fun b' hb' => (hL.non 3 _ rfl b' hb').1) ht5r0_0 ht6) fun zt6m0_0 v H w hlet6 hL hR => ?_)
  try dsimp only at hL hR
  obtain ⟨rfl, ht6m0_0, lt6m0_0⟩ := hR
  try rw [sl_len2 at5r0_0 ct5r0_0 lt6m0_0]
  try rw [sl_len2 at5r0_0 ct5r0_0 lt6m0_0] at hL
  refine wt <| sr <| sv (r_move rfl) ?_
  obtain ⟨t7, ht7, hm⟩ := bnd hm
  refine wl rfl (o_callE 3 (r1 := fun _ => .gone) hL fn_183 rfl rfl (c183 hL.imm (hL.own 3 _ rfl) (fun b' hb' => (hL.non 3 _ rfl b' hb').1) ht6m0_0 ht7) fun x v H w hlet7 hL hR => ?_)
  obtain ⟨at7r0_0, ct7r0_0⟩ := x
  try dsimp only at hL hR
  obtain ⟨rfl, ht7r0_0⟩ := hR
  refine sv (r_assign rfl) <| wt <| wp_ret ?_
  obtain rfl := ends hm
  exact rt rfl (.tmp rfl .nil) ⟨_, _, rfl, hL.ext, ⟨_, _, rfl, ht7r0_0⟩⟩

/-- (diff.gather).at -/
def m179 (s0 : List Chg) (a0_0 : List Step) (a1_0 : Bs) (a1_1 : Int) : Option (List Step) :=
  ((m272 a0_0 a1_0 a1_1).bind fun t1 => (some (t1)))
set_option maxHeartbeats 20000000 in
set_option maxRecDepth 100000 in
theorem c179 : ∀ {H0 : Hp} {w0 : World} {s0 : List Chg} {a0_0 : List Step} {a1_0 : Bs} {a1_1 : Int} {ao00 : Option Addr} {co00 : Nat} {zo00 : List Value} {aa0_0 : Option Addr} {ca0_0 : Nat} {b0 : Nat} {tl0 : List Value} {T0 : TypeId} (_ : Imm H0 w0) (_ : Rs.holds w0 (.two (.cel b0 ((.slice ao00 (List.length s0) co00) :: tl0) T0) (.row (.slice ao00 (List.length s0) co00) 115 5 (List.length s0) zo00))) (_ : ∀ b' ∈ Rs.foot (.two (.cel b0 ((.slice ao00 (List.length s0) co00) :: tl0) T0) (.row (.slice ao00 (List.length s0) co00) 115 5 (List.length s0) zo00)), H0 b' = none) (_ : LC cChg H0 zo00 s0) (_ : Sl cStep H0 aa0_0 ca0_0 a0_0) {r : List Step} (_ : m179 s0 a0_0 a1_0 a1_1 = some r), Ct Tryz.prog 179 [.agg (List.toArray [.slice aa0_0 (List.length a0_0) ca0_0, .pointer (some ⟨b0, 0, none⟩)]), .agg (List.toArray [.string (mk a1_0), .int .i64 a1_1])] (Rs.foot (.two (.cel b0 ((.slice ao00 (List.length s0) co00) :: tl0) T0) (.row (.slice ao00 (List.length s0) co00) 115 5 (List.length s0) zo00))) H0 w0 fun v H' w' => ∃ x : (Option Addr) × Nat, (v = .agg (List.toArray [.slice (x.1) (List.length r) (x.2), .pointer (some ⟨b0, 0, none⟩)]) ∧ Sl cStep H' (x.1) (x.2) r) ∧ Rs.holds w' (.two (.cel b0 ((.slice ao00 (List.length s0) co00) :: tl0) T0) (.row (.slice ao00 (List.length s0) co00) 115 5 (List.length s0) zo00)) ∧ ∀ b' ∈ Rs.foot (.two (.cel b0 ((.slice ao00 (List.length s0) co00) :: tl0) T0) (.row (.slice ao00 (List.length s0) co00) 115 5 (List.length s0) zo00)), H' b' = none ∧ (b' ∈ Rs.foot (.two (.cel b0 ((.slice ao00 (List.length s0) co00) :: tl0) T0) (.row (.slice ao00 (List.length s0) co00) 115 5 (List.length s0) zo00)) ∨ w0.heap.size ≤ b') := by
  intro H0 w0 s0 a0_0 a1_0 a1_1 ao00 co00 zo00 aa0_0 ca0_0 b0 tl0 T0  hI hb hn ho00 ha0_0 r hm
  have hL := L.one hI hb hn
  have hL := hL.split 0 1 rfl rfl (.inl rfl)
  refine ct_of Tryz.func179 rfl Tryz.ntmps179 rfl (Nat.le_of_ble_eq_true rfl) ?_
  unfold m179 at hm
  refine sr ?_
  refine wl rfl (o_box 2 (c := [_, _]) hL rfl rfl fun b2 w hL => ?_)
  refine wl rfl (o_box 3 (c := [_, _]) hL rfl rfl fun b3 w hL => ?_)
  refine wl rfl (o_alloc 4 (c := [_, _]) hL ze_166 rfl fun b4 w hL => ?_)
  refine wt <| wp_seq <| rd hL [2, 3] [_, _] [(0, true), (1, true), (2, true), (4, true), (5, true), (3, false), (6, true), (7, false)] mixed rfl (by kernel_rfl) fun w hL => dv rfl (fun w hS => r_fieldAddr fl_166_0 rfl) <| dv rfl (fun w hS => r_loadk hS.2.1 ag_164 rfl (vs := [_]) rfl rfl) <| dv rfl (fun w hS => r_loadk hS.2.2.1 ag_220 rfl (vs := [_, _]) rfl rfl) <| dv rfl (fun w hS => r_fieldAddr fl_166_1 rfl) <| dv rfl (fun w hS => r_load1 hS.2.1 sc_162 rfl rfl) ?_
  obtain ⟨t1, ht1, hm⟩ := bnd hm
  refine dh rfl rfl (o_call0 hL fn_272 rfl (c272 hL.imm ha0_0 ht1) fun v H w hlet1 hL hR => ⟨Sd.of hL ((Hle.refl _).trans hlet1) [2, 3] rfl, ?_⟩)
  obtain ⟨at1r0_0, ct1r0_0, rfl, ht1r0_0⟩ := hR
  refine dv rfl (fun w hS => r_build ze_166 st_166 rfl (.cons rfl (.cons rfl .nil)) (cs := [_, _]) rfl) ?_
  refine dh rfl rfl (o_storek (i := 4) (vs := [_, _]) hL ag_166 rfl rfl rfl rfl (Nat.le_of_ble_eq_true rfl) (List.forall_mem_cons.2 ⟨rfl, (List.forall_mem_cons.2 ⟨rfl, List.forall_mem_nil _⟩)⟩) (c' := _ :: _ :: []) rfl fun w hL => ⟨Sd.of hL ((Hle.refl _).trans hlet1) [2, 3] rfl, ?_⟩)
  refine dn <| then_n <| wp_ret ?_
  obtain rfl := ends hm
  refine rt rfl (.agg (hL.own 4 _ rfl) ag_166 rfl (us := [_, _]) rfl rfl .nil) ⟨_, _, rfl, hL.ext, ?_⟩
  have hL := hL.merge 0 1 rfl rfl rfl
  exact ⟨⟨at1r0_0, ct1r0_0⟩, ⟨rfl, ht1r0_0⟩, hL.give (i := 0) rfl⟩

/-- (diff.gather).add -/
def m180 (s0 : List Chg) (a0_0 : List Step) (a1_0 : J) (a2_0 : J) (a3 : Bool) (a4 : Bool) : Option (List Chg) :=
  ((m136 a0_0).bind fun t1 => (bif (decide (s0.length + ([(Chg.mk t1 a1_0 a2_0 a3 a4)] : List Chg).length ≤ LIM)) then (some ((s0 ++ ([(Chg.mk t1 a1_0 a2_0 a3 a4)] : List Chg)))) else none))
set_option maxHeartbeats 20000000 in
set_option maxRecDepth 100000 in
theorem c180 : ∀ {H0 : Hp} {w0 : World} {s0 : List Chg} {a0_0 : List Step} {a1_0 : J} {a2_0 : J} {a3 : Bool} {a4 : Bool} {ao00 : Option Addr} {co00 : Nat} {zo00 : List Value} {aa0_0 : Option Addr} {ca0_0 : Nat} {xa1_0 : Value} {xa2_0 : Value} {b0 : Nat} {tl0 : List Value} {T0 : TypeId} (_ : Imm H0 w0) (_ : Rs.holds w0 (.two (.cel b0 ((.slice ao00 (List.length s0) co00) :: tl0) T0) (.row (.slice ao00 (List.length s0) co00) 115 5 (List.length s0) zo00))) (_ : ∀ b' ∈ Rs.foot (.two (.cel b0 ((.slice ao00 (List.length s0) co00) :: tl0) T0) (.row (.slice ao00 (List.length s0) co00) 115 5 (List.length s0) zo00)), H0 b' = none) (_ : LC cChg H0 zo00 s0) (_ : Sl cStep H0 aa0_0 ca0_0 a0_0) (_ : VR H0 xa1_0 a1_0) (_ : VR H0 xa2_0 a2_0) {r : List Chg} (_ : m180 s0 a0_0 a1_0 a2_0 a3 a4 = some r), Ct Tryz.prog 180 [.agg (List.toArray [.slice aa0_0 (List.length a0_0) ca0_0, .pointer (some ⟨b0, 0, none⟩)]), .agg (List.toArray [xa1_0]), .agg (List.toArray [xa2_0]), .bool a3, .bool a4] (Rs.foot (.two (.cel b0 ((.slice ao00 (List.length s0) co00) :: tl0) T0) (.row (.slice ao00 (List.length s0) co00) 115 5 (List.length s0) zo00))) H0 w0 fun v H' w' => ∃ x : (Option Addr) × Nat × (List Value), (v = .tuple (List.toArray []) ∧ LC cChg H' (x.2.2) r) ∧ Rs.holds w' (.two (.cel b0 ((.slice (x.1) (List.length r) (x.2.1)) :: tl0) T0) (.row (.slice (x.1) (List.length r) (x.2.1)) 115 5 (List.length r) (x.2.2))) ∧ ∀ b' ∈ Rs.foot (.two (.cel b0 ((.slice (x.1) (List.length r) (x.2.1)) :: tl0) T0) (.row (.slice (x.1) (List.length r) (x.2.1)) 115 5 (List.length r) (x.2.2))), H' b' = none ∧ (b' ∈ Rs.foot (.two (.cel b0 ((.slice ao00 (List.length s0) co00) :: tl0) T0) (.row (.slice ao00 (List.length s0) co00) 115 5 (List.length s0) zo00)) ∨ w0.heap.size ≤ b') := by
  intro H0 w0 s0 a0_0 a1_0 a2_0 a3 a4 ao00 co00 zo00 aa0_0 ca0_0 xa1_0 xa2_0 b0 tl0 T0  hI hb hn ho00 ha0_0 ha1_0 ha2_0 r hm
  have hL := L.one hI hb hn
  have hL := hL.split 0 1 rfl rfl (.inl rfl)
  refine ct_of Tryz.func180 rfl Tryz.ntmps180 rfl (Nat.le_of_ble_eq_true rfl) ?_
  unfold m180 at hm
  refine sr ?_
  refine wl rfl (o_box 2 (c := [_, _]) hL rfl rfl fun b2 w hL => ?_)
  refine wl rfl (o_box 3 (c := [_]) hL rfl rfl fun b3 w hL => ?_)
  refine wl rfl (o_box 4 (c := [_]) hL rfl rfl fun b4 w hL => ?_)
  refine wt <| rdO hL [0, 2, 3, 4] [18, 19, 19, 19] [_, _, _, _] (.lt 0 [] (.lt 1 [1] (.lt 2 [] (.lt 3 [1] (.lt 4 [] (.lt 5 [0] (.lt 6 [] (.lt 7 [] (.lt 8 [1] (.lt 10 [2] (.lt 11 [3] (.lt 12 [] (.lt 13 [] (.hv 9 [0, 1, 2, 3] (.lt 14 [] (.hv 15 [0, 1, 2, 3] (.hv 16 [0, 1, 2, 3] (.lt 17 [] (.hv 18 [1, 2, 3] .dn))))))))))))))))))) mixed rfl (by kernel_rfl) fun w hL => ov rfl (fun w hS => r_fieldAddr fl_166_1 rfl) <| ov rfl (fun w hS => r_load1 hS.2.1 sc_162 rfl rfl) <| ov rfl (fun w hS => r_fieldAddr fl_166_1 rfl) <| ov rfl (fun w hS => r_load1 hS.2.1 sc_162 rfl rfl) <| ov rfl (fun w hS => r_nilCheck rfl) <| ov rfl (fun w hS => r_load1 hS.2.1 sc_37 rfl rfl) <| ov rfl (fun w hS => r_fieldAddr fl_166_0 rfl) <| ov rfl (fun w hS => r_fieldAddr fl_164_0 rfl) <| ov rfl (fun w hS => r_load1 hS.2.1 sc_113 rfl rfl) <| ov rfl (fun w hS => r_loadk hS.2.1 ag_33 rfl (vs := [_]) rfl rfl) <| ov rfl (fun w hS => r_loadk hS.2.1 ag_33 rfl (vs := [_]) rfl rfl) <| ov rfl (fun w hS => r_move rfl) <| ov rfl (fun w hS => r_move rfl) ?_
  obtain ⟨t1, ht1, hm⟩ := bnd hm
  have hL := hL.room 5
  refine oh rfl rfl (o_callE 5 hL fn_136 rfl rfl (c136 hL.imm ha0_0 ht1) fun x v H w hlet1 hL hR => ⟨Sa.of hL ((Hle.refl _).trans hlet1) [0, 2, 3, 4] rfl, ?_⟩)
  obtain ⟨at1r0_0, ct1r0_0, zt1r0_0⟩ := x
  try dsimp only at hL hR
  replace ho00 := LC.mono hlet1 ho00
  replace ha1_0 := VR.mono hlet1 ha1_0
  replace ha2_0 := VR.mono hlet1 ha2_0
  obtain ⟨rfl, ht1r0_0⟩ := hR
  refine ov rfl (fun w hS => r_build ze_115 st_115 rfl (.cons rfl (.cons rfl (.cons rfl (.cons rfl (.cons rfl .nil))))) (cs := [_, _, _, _, _]) rfl) ?_
  obtain ⟨H, hlez2, hL, hsz2⟩ := hL.settle (i := 5) (K := cStep) rfl ht1r0_0
  replace ho00 := LC.mono hlez2 ho00
  replace ha1_0 := VR.mono hlez2 ha1_0
  replace ha2_0 := VR.mono hlez2 ha2_0
  have hww3 : LC cChg hL.hp [.slice at1r0_0 (List.length t1) ct1r0_0, xa1_0, xa2_0, .bool a3, .bool a4] ([(Chg.mk t1 a1_0 a2_0 a3 a4)] : List Chg) := (LC.cons (K := cChg) (cs := [.slice at1r0_0 (List.length t1) ct1r0_0, xa1_0, xa2_0, .bool a3, .bool a4]) ⟨_, _, _, _, rfl, hsz2, ha1_0, ha2_0⟩ LC.nil)
  refine oh rfl rfl (o_buildSlice (C := cChg) 6 hL el_37 ze_115 rfl (.cons rfl .nil) rfl rfl rfl rfl hww3 fun gw3 w hL => ⟨Sa.of hL (((Hle.refl _).trans hlet1).trans hlez2) [0, 2, 3, 4] rfl, ?_⟩)
  obtain ⟨hg4, hm⟩ := grd hm
  refine oh rfl rfl (o_append (C := cChg) 1 6 hL el_37 rfl rfl rfl rfl hww3 rfl hg4 fun gw5 cw5 w hL => ⟨Sa.of hL (((Hle.refl _).trans hlet1).trans hlez2) [0, 2, 3, 4] rfl, ?_⟩)
  have hww5 := LC.append ho00 hww3
  refine ov rfl (fun w hS => r_nilCheck rfl) ?_
  refine oh rfl rfl (o_store1 (i := 0) hL sc_37 rfl rfl rfl rfl rfl (c' := _ :: _) rfl fun w hL => ⟨Sa.of hL (((Hle.refl _).trans hlet1).trans hlez2) [2, 3, 4] rfl, ?_⟩)
  refine on ?_
  obtain rfl := ends hm
  refine rtN rfl .nil ⟨_, _, rfl, hL.ext, ?_⟩
  have hL := hL.merge 0 1 rfl rfl rfl
  exact ⟨⟨(some ⟨gw5, 0, none⟩), cw5, (zo00 ++ [.slice at1r0_0 (List.length t1) ct1r0_0, xa1_0, xa2_0, .bool a3, .bool a4])⟩, ⟨rfl, hww5⟩, hL.give (i := 0) rfl⟩

/-- (diff.gather).maps -/
def S99 (F : List Chg → List Step → J → J → Option (List Chg)) : Prop := ∀ {H0 : Hp} {w0 : World} {s0 : List Chg} {a0_0 : List Step} {a1_0 : J} {a2_0 : J} {ao00 : Option Addr} {co00 : Nat} {zo00 : List Value} {aa0_0 : Option Addr} {ca0_0 : Nat} {xa1_0 : Value} {xa2_0 : Value} {b0 : Nat} {tl0 : List Value} {T0 : TypeId} (_ : Imm H0 w0) (_ : Rs.holds w0 (.two (.cel b0 ((.slice ao00 (List.length s0) co00) :: tl0) T0) (.row (.slice ao00 (List.length s0) co00) 115 5 (List.length s0) zo00))) (_ : ∀ b' ∈ Rs.foot (.two (.cel b0 ((.slice ao00 (List.length s0) co00) :: tl0) T0) (.row (.slice ao00 (List.length s0) co00) 115 5 (List.length s0) zo00)), H0 b' = none) (_ : LC cChg H0 zo00 s0) (_ : Sl cStep H0 aa0_0 ca0_0 a0_0) (_ : VR H0 xa1_0 a1_0) (_ : VR H0 xa2_0 a2_0) {r : List Chg} (_ : F s0 a0_0 a1_0 a2_0 = some r), Ct Tryz.prog 99 [.agg (List.toArray [.slice aa0_0 (List.length a0_0) ca0_0, .pointer (some ⟨b0, 0, none⟩)]), .agg (List.toArray [xa1_0]), .agg (List.toArray [xa2_0])] (Rs.foot (.two (.cel b0 ((.slice ao00 (List.length s0) co00) :: tl0) T0) (.row (.slice ao00 (List.length s0) co00) 115 5 (List.length s0) zo00))) H0 w0 fun v H' w' => ∃ x : (Option Addr) × Nat × (List Value), (v = .tuple (List.toArray []) ∧ LC cChg H' (x.2.2) r) ∧ Rs.holds w' (.two (.cel b0 ((.slice (x.1) (List.length r) (x.2.1)) :: tl0) T0) (.row (.slice (x.1) (List.length r) (x.2.1)) 115 5 (List.length r) (x.2.2))) ∧ ∀ b' ∈ Rs.foot (.two (.cel b0 ((.slice (x.1) (List.length r) (x.2.1)) :: tl0) T0) (.row (.slice (x.1) (List.length r) (x.2.1)) 115 5 (List.length r) (x.2.2))), H' b' = none ∧ (b' ∈ Rs.foot (.two (.cel b0 ((.slice ao00 (List.length s0) co00) :: tl0) T0) (.row (.slice ao00 (List.length s0) co00) 115 5 (List.length s0) zo00)) ∨ w0.heap.size ≤ b')
def m178_j1 (nx0 : Int → List Chg → Option (List Chg)) (f99 : List Chg → List Step → J → J → Option (List Chg)) (a0_0 : List Step) (t1 : List Bs) (v16_1 : Int) (u1R_1 : List Chg) (t5 : (J × Bool)) (t6 : (J × Bool)) (v35_2 : Bool) : Option (List Chg) := (bif v35_2 then ((m271 (t1.getD (v16_1).toNat ([] : Bs))).bind fun t8 => ((m179 u1R_1 a0_0 t8.1 t8.2).bind fun t9 => ((f99 u1R_1 t9 t5.1 t6.1).bind fun t10 => (nx0 (IntKind.wrap .i64 (v16_1 + (1 : Int))) t10)))) else ((m271 (t1.getD (v16_1).toNat ([] : Bs))).bind fun t11 => ((m179 u1R_1 a0_0 t11.1 t11.2).bind fun t12 => ((m180 u1R_1 t12 t5.1 t6.1 t5.2 t6.2).bind fun t13 => (nx0 (IntKind.wrap .i64 (v16_1 + (1 : Int))) t13)))))
def m178_l0 (f99 : List Chg → List Step → J → J → Option (List Chg)) (a0_0 : List Step) (a1_0 : J) (a2_0 : J) (t1 : List Bs) : Nat → Int → List Chg → Option (List Chg)
  | 0, _, _ => none
  | k + 1, v16_1, u1R_1 => (bif (decide (v16_1 < (t1.length : Int))) then (bif (decide (0 ≤ v16_1 ∧ v16_1 < (t1.length : Int))) then ((m124 a1_0 (t1.getD (v16_1).toNat ([] : Bs))).bind fun t5 => ((m124 a2_0 (t1.getD (v16_1).toNat ([] : Bs))).bind fun t6 => (bif t5.2 then (m178_j1 (m178_l0 f99 a0_0 a1_0 a2_0 t1 k) f99 a0_0 t1 v16_1 u1R_1 t5 t6 t6.2) else (m178_j1 (m178_l0 f99 a0_0 a1_0 a2_0 t1 k) f99 a0_0 t1 v16_1 u1R_1 t5 t6 false)))) else none) else (some (u1R_1)))
def m178 (f99 : List Chg → List Step → J → J → Option (List Chg)) (s0 : List Chg) (a0_0 : List Step) (a1_0 : J) (a2_0 : J) : Option (List Chg) :=
  ((m270 a1_0 a2_0).bind fun t1 => (m178_l0 f99 a0_0 a1_0 a2_0 t1 FUEL (0 : Int) s0))
set_option maxHeartbeats 20000000 in
set_option maxRecDepth 100000 in
theorem c178 {f99 : List Chg → List Step → J → J → Option (List Chg)} (h99 : S99 f99) : ∀ {H0 : Hp} {w0 : World} {s0 : List Chg} {a0_0 : List Step} {a1_0 : J} {a2_0 : J} {ao00 : Option Addr} {co00 : Nat} {zo00 : List Value} {aa0_0 : Option Addr} {ca0_0 : Nat} {xa1_0 : Value} {xa2_0 : Value} {b0 : Nat} {tl0 : List Value} {T0 : TypeId} (_ : Imm H0 w0) (_ : Rs.holds w0 (.two (.cel b0 ((.slice ao00 (List.length s0) co00) :: tl0) T0) (.row (.slice ao00 (List.length s0) co00) 115 5 (List.length s0) zo00))) (_ : ∀ b' ∈ Rs.foot (.two (.cel b0 ((.slice ao00 (List.length s0) co00) :: tl0) T0) (.row (.slice ao00 (List.length s0) co00) 115 5 (List.length s0) zo00)), H0 b' = none) (_ : LC cChg H0 zo00 s0) (_ : Sl cStep H0 aa0_0 ca0_0 a0_0) (_ : VR H0 xa1_0 a1_0) (_ : VR H0 xa2_0 a2_0) {r : List Chg} (_ : m178 f99 s0 a0_0 a1_0 a2_0 = some r), Ct Tryz.prog 178 [.agg (List.toArray [.slice aa0_0 (List.length a0_0) ca0_0, .pointer (some ⟨b0, 0, none⟩)]), .agg (List.toArray [xa1_0]), .agg (List.toArray [xa2_0])] (Rs.foot (.two (.cel b0 ((.slice ao00 (List.length s0) co00) :: tl0) T0) (.row (.slice ao00 (List.length s0) co00) 115 5 (List.length s0) zo00))) H0 w0 fun v H' w' => ∃ x : (Option Addr) × Nat × (List Value), (v = .tuple (List.toArray []) ∧ LC cChg H' (x.2.2) r) ∧ Rs.holds w' (.two (.cel b0 ((.slice (x.1) (List.length r) (x.2.1)) :: tl0) T0) (.row (.slice (x.1) (List.length r) (x.2.1)) 115 5 (List.length r) (x.2.2))) ∧ ∀ b' ∈ Rs.foot (.two (.cel b0 ((.slice (x.1) (List.length r) (x.2.1)) :: tl0) T0) (.row (.slice (x.1) (List.length r) (x.2.1)) 115 5 (List.length r) (x.2.2))), H' b' = none ∧ (b' ∈ Rs.foot (.two (.cel b0 ((.slice ao00 (List.length s0) co00) :: tl0) T0) (.row (.slice ao00 (List.length s0) co00) 115 5 (List.length s0) zo00)) ∨ w0.heap.size ≤ b') := by
  intro H0 w0 s0 a0_0 a1_0 a2_0 ao00 co00 zo00 aa0_0 ca0_0 xa1_0 xa2_0 b0 tl0 T0  hI hb hn ho00 ha0_0 ha1_0 ha2_0 r hm
  have hL := L.one hI hb hn
  have hL := hL.split 0 1 rfl rfl (.inl rfl)
  refine ct_of Tryz.func178 rfl Tryz.ntmps178 rfl (Nat.le_of_ble_eq_true rfl) ?_
  unfold m178 at hm
  refine sr ?_
  refine wl rfl (o_box 2 (c := [_, _]) hL rfl rfl fun b2 w hL => ?_)
  refine wl rfl (o_box 3 (c := [_]) hL rfl rfl fun b3 w hL => ?_)
  refine wl rfl (o_box 4 (c := [_]) hL rfl rfl fun b4 w hL => ?_)
  refine wt <| sr <| sv (r_loadk (hL.own 3 _ rfl) ag_33 rfl (vs := [_]) rfl rfl) <| sv (r_loadk (hL.own 4 _ rfl) ag_33 rfl (vs := [_]) rfl rfl) ?_
  obtain ⟨t1, ht1, hm⟩ := bnd hm
  refine wl rfl (o_call0 hL fn_270 rfl (c270 hL.imm ha1_0 ha2_0 ht1) fun v H w hlet1 hL hR => ?_)
  replace ho00 := LC.mono hlet1 ho00
  replace ha0_0 := Sl.mono hlet1 ha0_0
  replace ha1_0 := VR.mono hlet1 ha1_0
  replace ha2_0 := VR.mono hlet1 ha2_0
  obtain ⟨at1r0_0, ct1r0_0, rfl, ht1r0_0⟩ := hR
  refine sv (r_lenS rfl Tryz.underlying30 rfl) <| sv (r_move rfl) <| wt <| wp_block <| wp_loop_fuel (k := FUEL) (fun k a w => ∃ (v16_1 : Int) (u1R_1 : List Chg) (au1R_1 : Option Addr) (cu1R_1 : Nat) (zu1R_1 : List Value) (l : List (Nat × Value)) (H : Hp), a = fr 53 ([(3, .pointer (some ⟨b2, 0, none⟩)), (4, .pointer (some ⟨b3, 0, none⟩)), (5, .pointer (some ⟨b4, 0, none⟩)), (14, .slice at1r0_0 (List.length t1) ct1r0_0), (15, .int .i64 (t1.length : Int)), (16, .int .i64 v16_1)] ++ l) [] ∧ L (Rs.foot (.two (.cel b0 ((.slice ao00 (List.length s0) co00) :: tl0) T0) (.row (.slice ao00 (List.length s0) co00) 115 5 (List.length s0) zo00))) H0 w0 [(0, .cel b0 ((.slice au1R_1 (List.length u1R_1) cu1R_1) :: tl0) T0), (1, .row (.slice au1R_1 (List.length u1R_1) cu1R_1) 115 5 (List.length u1R_1) zu1R_1), (2, .cel b2 ((.slice aa0_0 (List.length a0_0) ca0_0) :: (.pointer (some ⟨b0, 0, none⟩)) :: []) 166), (3, .cel b3 (xa1_0 :: []) 33), (4, .cel b4 (xa2_0 :: []) 33)] H w ∧ Sl cStep H aa0_0 ca0_0 a0_0 ∧ VR H xa1_0 a1_0 ∧ VR H xa2_0 a2_0 ∧ Sl cStr H at1r0_0 ct1r0_0 t1 ∧ LC cChg H zu1R_1 u1R_1 ∧ (m178_l0 f99 a0_0 a1_0 a2_0 t1 k v16_1 u1R_1) = some r) ⟨_, _, _, _, _, _, _, fr_pre _ rfl, hL.pick _ rfl, ha0_0, ha1_0, ha2_0, ht1r0_0, ho00, hm⟩ ?_
  rintro k0 a w ⟨v16_1, u1R_1, au1R_1, cu1R_1, zu1R_1, l, H, rfl, hL, ha0_0, ha1_0, ha2_0, ht1r0_0, hu1R_1, hm⟩
  cases k0 with
  | zero => rw [m178_l0.eq_1] at hm; cases hm
  | succ k0 =>
    rw [m178_l0.eq_2] at hm
    refine sr <| sv (r_lss rfl rfl) <| wt <| wp_seq ?_
    refine c_if hm rfl (fun hg2 hm => ?_) (fun hg2 hm => ?_)
    · refine wp_skip <| then_n <| wp_seq <| wp_block <| sr ?_
      obtain ⟨hg4, hm⟩ := grd hm
      obtain ⟨be3, oe3, _, hae3, hce3, rfl⟩ := Sl.at ht1r0_0 ([] : Bs) hg4
      refine sv (r_indexAddr el_30 hg4 hae3 rfl rfl) <| sv (r_loadH1 hL.imm sc_9 rfl hce3) <| sv (r_assign rfl) <| wt <| sr <| sv (r_loadk (hL.own 3 _ rfl) ag_33 rfl (vs := [_]) rfl rfl) <| sv (r_move rfl) ?_
      obtain ⟨t5, ht5, hm⟩ := bnd hm
      refine wl rfl (o_call0 hL fn_124 rfl (c124 hL.imm ha1_0 ht5) fun v H w hlet5 hL hR => ?_)
      replace ha0_0 := Sl.mono hlet5 ha0_0
      replace ha1_0 := VR.mono hlet5 ha1_0
      replace ha2_0 := VR.mono hlet5 ha2_0
      replace ht1r0_0 := Sl.mono hlet5 ht1r0_0
      replace hu1R_1 := LC.mono hlet5 hu1R_1
      replace hce3 := HC.mono hlet5 hce3
      obtain ⟨xt5r0_0, rfl, ht5r0_0⟩ := hR
      refine sv (r_move rfl) <| sv (r_extract rfl rfl) <| sv (r_extract rfl rfl) ?_
      refine wl rfl (o_alloc 5 (c := [_]) hL ze_33 rfl fun b5 w hL => ?_)
      refine wl rfl (o_storek (i := 5) (vs := [_]) hL ag_33 rfl rfl rfl rfl (Nat.le_of_ble_eq_true rfl) (List.forall_mem_cons.2 ⟨(VR.one ht5r0_0), List.forall_mem_nil _⟩) (c' := _ :: []) rfl fun w hL => ?_)
      refine sv (r_assign rfl) <| wt <| sr <| sv (r_loadk (hL.own 4 _ rfl) ag_33 rfl (vs := [_]) rfl rfl) <| sv (r_move rfl) ?_
      obtain ⟨t6, ht6, hm⟩ := bnd hm
      refine wl rfl (o_call0 hL fn_124 rfl (c124 hL.imm ha2_0 ht6) fun v H w hlet6 hL hR => ?_)
      replace ha0_0 := Sl.mono hlet6 ha0_0
      replace ha1_0 := VR.mono hlet6 ha1_0
      replace ha2_0 := VR.mono hlet6 ha2_0
      replace ht1r0_0 := Sl.mono hlet6 ht1r0_0
      replace hu1R_1 := LC.mono hlet6 hu1R_1
      replace hce3 := HC.mono hlet6 hce3
      replace ht5r0_0 := VR.mono hlet6 ht5r0_0
      obtain ⟨xt6r0_0, rfl, ht6r0_0⟩ := hR
      refine sv (r_move rfl) <| sv (r_extract rfl rfl) <| sv (r_extract rfl rfl) ?_
      refine wl rfl (o_alloc 6 (c := [_]) hL ze_33 rfl fun b6 w hL => ?_)
      refine wl rfl (o_storek (i := 6) (vs := [_]) hL ag_33 rfl rfl rfl rfl (Nat.le_of_ble_eq_true rfl) (List.forall_mem_cons.2 ⟨(VR.one ht6r0_0), List.forall_mem_nil _⟩) (c' := _ :: []) rfl fun w hL => ?_)
      refine sv (r_assign rfl) <| wt ?_
      refine w_join (fun a w => ∃ (v35_2 : Bool) (l : List (Nat × Value)) (H : Hp), a = fr 53 ([(3, .pointer (some ⟨b2, 0, none⟩)), (4, .pointer (some ⟨b3, 0, none⟩)), (5, .pointer (some ⟨b4, 0, none⟩)), (7, .string (mk (t1.getD (v16_1).toNat ([] : Bs)))), (8, .pointer (some ⟨b5, 0, none⟩)), (9, .bool t5.2), (10, .pointer (some ⟨b6, 0, none⟩)), (11, .bool t6.2), (14, .slice at1r0_0 (List.length t1) ct1r0_0), (15, .int .i64 (t1.length : Int)), (16, .int .i64 v16_1), (17, .bool (decide (v16_1 < (t1.length : Int)))), (18, .pointer (some ⟨be3, oe3, none⟩)), (19, .string (mk (t1.getD (v16_1).toNat ([] : Bs)))), (20, .tuple (List.toArray [.agg (List.toArray [xt5r0_0]), .bool t5.2])), (21, .agg (List.toArray [xa1_0])), (22, .string (mk (t1.getD (v16_1).toNat ([] : Bs)))), (23, .tuple (List.toArray [.agg (List.toArray [xt5r0_0]), .bool t5.2])), (24, .agg (List.toArray [xt5r0_0])), (25, .bool t5.2), (26, .tuple (List.toArray [.agg (List.toArray [xt6r0_0]), .bool t6.2])), (27, .agg (List.toArray [xa2_0])), (28, .string (mk (t1.getD (v16_1).toNat ([] : Bs)))), (29, .tuple (List.toArray [.agg (List.toArray [xt6r0_0]), .bool t6.2])), (30, .agg (List.toArray [xt6r0_0])), (31, .bool t6.2), (32, .bool t5.2), (33, .bool t5.2), (35, .bool v35_2)] ++ l) [] ∧ L (Rs.foot (.two (.cel b0 ((.slice ao00 (List.length s0) co00) :: tl0) T0) (.row (.slice ao00 (List.length s0) co00) 115 5 (List.length s0) zo00))) H0 w0 [(0, .cel b0 ((.slice au1R_1 (List.length u1R_1) cu1R_1) :: tl0) T0), (1, .row (.slice au1R_1 (List.length u1R_1) cu1R_1) 115 5 (List.length u1R_1) zu1R_1), (2, .cel b2 ((.slice aa0_0 (List.length a0_0) ca0_0) :: (.pointer (some ⟨b0, 0, none⟩)) :: []) 166), (3, .cel b3 (xa1_0 :: []) 33), (4, .cel b4 (xa2_0 :: []) 33), (5, .cel b5 (xt5r0_0 :: []) 33), (6, .cel b6 (xt6r0_0 :: []) 33)] H w ∧ Sl cStep H aa0_0 ca0_0 a0_0 ∧ VR H xa1_0 a1_0 ∧ VR H xa2_0 a2_0 ∧ Sl cStr H at1r0_0 ct1r0_0 t1 ∧ LC cChg H zu1R_1 u1R_1 ∧ HC H be3 oe3 [.string (mk (t1.getD (v16_1).toNat ([] : Bs)))] ∧ VR H xt5r0_0 t5.1 ∧ VR H xt6r0_0 t6.1 ∧ (m178_j1 (m178_l0 f99 a0_0 a1_0 a2_0 t1 k0) f99 a0_0 t1 v16_1 u1R_1 t5 t6 v35_2) = some r) (fun a w hj => ?_) ?_
      · obtain ⟨v35_2, l, H, rfl, hL, ha0_0, ha1_0, ha2_0, ht1r0_0, hu1R_1, hce3, ht5r0_0, ht6r0_0, hm⟩ := hj
        unfold m178_j1 at hm
        refine c_if hm rfl (fun hg7 hm => ?_) (fun hg7 hm => ?_)
        · refine rd hL [2, 5, 6] [_, _, _] [(0, true), (1, true), (4, true), (5, true), (2, false), (3, false), (6, false)] mixed rfl (by kernel_rfl) fun w hL => dv rfl (fun w hS => r_loadk hS.2.1 ag_166 rfl (vs := [_, _]) rfl rfl) <| dv rfl (fun w hS => r_move rfl) <| dv rfl (fun w hS => r_loadk hS.2.2.1 ag_33 rfl (vs := [_]) rfl rfl) <| dv rfl (fun w hS => r_loadk hS.2.2.2.1 ag_33 rfl (vs := [_]) rfl rfl) ?_
          obtain ⟨t8, ht8, hm⟩ := bnd hm
          refine dh rfl rfl (o_call0 hL fn_271 rfl (c271 hL.imm ht8) fun v H w hlet8 hL hR => ⟨Sd.of hL ((Hle.refl _).trans hlet8) [2, 5, 6] rfl, ?_⟩)
          replace ha0_0 := Sl.mono hlet8 ha0_0
          replace ha1_0 := VR.mono hlet8 ha1_0
          replace ha2_0 := VR.mono hlet8 ha2_0
          replace ht1r0_0 := Sl.mono hlet8 ht1r0_0
          replace hu1R_1 := LC.mono hlet8 hu1R_1
          replace hce3 := HC.mono hlet8 hce3
          replace ht5r0_0 := VR.mono hlet8 ht5r0_0
          replace ht6r0_0 := VR.mono hlet8 ht6r0_0
          obtain rfl := hR
          obtain ⟨t9, ht9, hm⟩ := bnd hm
          have hL := hL.merge 0 1 rfl rfl rfl
          refine dh rfl rfl (o_callE 0 hL fn_179 rfl rfl (c179 hL.imm (hL.own 0 _ rfl) (fun b' hb' => (hL.non 0 _ rfl b' hb').1) hu1R_1 ha0_0 ht9) fun x v H w hlet9 hL hR => ⟨Sd.of hL (((Hle.refl _).trans hlet8).trans hlet9) [2, 5, 6] rfl, ?_⟩)
          obtain ⟨at9r0_0, ct9r0_0⟩ := x
          try dsimp only at hL hR
          replace ha0_0 := Sl.mono hlet9 ha0_0
          replace ha1_0 := VR.mono hlet9 ha1_0
          replace ha2_0 := VR.mono hlet9 ha2_0
          replace ht1r0_0 := Sl.mono hlet9 ht1r0_0
          replace hu1R_1 := LC.mono hlet9 hu1R_1
          replace hce3 := HC.mono hlet9 hce3
          replace ht5r0_0 := VR.mono hlet9 ht5r0_0
          replace ht6r0_0 := VR.mono hlet9 ht6r0_0
          obtain ⟨rfl, ht9r0_0⟩ := hR
          have hL := hL.split 0 1 rfl rfl (.inr rfl)
          have hL := hL.pick [(0, .cel b0 ((.slice au1R_1 (List.length u1R_1) cu1R_1) :: tl0) T0), (1, .row (.slice au1R_1 (List.length u1R_1) cu1R_1) 115 5 (List.length u1R_1) zu1R_1), (2, .cel b2 ((.slice aa0_0 (List.length a0_0) ca0_0) :: (.pointer (some ⟨b0, 0, none⟩)) :: []) 166), (3, .cel b3 (xa1_0 :: []) 33), (4, .cel b4 (xa2_0 :: []) 33), (5, .cel b5 (xt5r0_0 :: []) 33), (6, .cel b6 (xt6r0_0 :: []) 33)] rfl
          obtain ⟨t10, ht10, hm⟩ := bnd hm
          have hL := hL.merge 0 1 rfl rfl rfl
          refine dh rfl rfl (o_callE 0 hL fn_99 rfl rfl (h99 hL.imm (hL.own 0 _ rfl) (fun b' hb' => (hL.non 0 _ rfl b' hb').1) hu1R_1 ht9r0_0 ht5r0_0 ht6r0_0 ht10) fun x v H w hlet10 hL hR => ⟨Sd.of hL ((((Hle.refl _).trans hlet8).trans hlet9).trans hlet10) [2, 5, 6] rfl, ?_⟩)
          obtain ⟨at10m0_0, ct10m0_0, zt10m0_0⟩ := x
          try dsimp only at hL hR
          replace ha0_0 := Sl.mono hlet10 ha0_0
          replace ha1_0 := VR.mono hlet10 ha1_0
          replace ha2_0 := VR.mono hlet10 ha2_0
          replace ht1r0_0 := Sl.mono hlet10 ht1r0_0
          replace hu1R_1 := LC.mono hlet10 hu1R_1
          replace hce3 := HC.mono hlet10 hce3
          replace ht5r0_0 := VR.mono hlet10 ht5r0_0
          replace ht6r0_0 := VR.mono hlet10 ht6r0_0
          obtain ⟨rfl, ht10m0_0⟩ := hR
          have hL := hL.split 0 1 rfl rfl (.inr rfl)
          have hL := hL.pick [(0, .cel b0 ((.slice at10m0_0 (List.length t10) ct10m0_0) :: tl0) T0), (1, .row (.slice at10m0_0 (List.length t10) ct10m0_0) 115 5 (List.length t10) zt10m0_0), (2, .cel b2 ((.slice aa0_0 (List.length a0_0) ca0_0) :: (.pointer (some ⟨b0, 0, none⟩)) :: []) 166), (3, .cel b3 (xa1_0 :: []) 33), (4, .cel b4 (xa2_0 :: []) 33), (5, .cel b5 (xt5r0_0 :: []) 33), (6, .cel b6 (xt6r0_0 :: []) 33)] rfl
          refine dn <| blk_n <| then_n <| rg <| sv (r_add rfl rfl) <| sv (r_move rfl) <| wt ?_
          exact ⟨k0, Nat.lt_succ_self k0, _, _, _, _, _, _, _, fr_pre _ rfl, hL.pick _ rfl, ha0_0, ha1_0, ha2_0, ht1r0_0, ht10m0_0, hm⟩
        · refine rd hL [2, 5, 6] [_, _, _] [(0, true), (1, true), (4, true), (5, true), (6, true), (7, true), (2, false), (3, false), (8, false)] mixed rfl (by kernel_rfl) fun w hL => dv rfl (fun w hS => r_loadk hS.2.1 ag_166 rfl (vs := [_, _]) rfl rfl) <| dv rfl (fun w hS => r_move rfl) <| dv rfl (fun w hS => r_loadk hS.2.2.1 ag_33 rfl (vs := [_]) rfl rfl) <| dv rfl (fun w hS => r_loadk hS.2.2.2.1 ag_33 rfl (vs := [_]) rfl rfl) <| dv rfl (fun w hS => r_move rfl) <| dv rfl (fun w hS => r_move rfl) ?_
          obtain ⟨t11, ht11, hm⟩ := bnd hm
          refine dh rfl rfl (o_call0 hL fn_271 rfl (c271 hL.imm ht11) fun v H w hlet11 hL hR => ⟨Sd.of hL ((Hle.refl _).trans hlet11) [2, 5, 6] rfl, ?_⟩)
          replace ha0_0 := Sl.mono hlet11 ha0_0
          replace ha1_0 := VR.mono hlet11 ha1_0
          replace ha2_0 := VR.mono hlet11 ha2_0
          replace ht1r0_0 := Sl.mono hlet11 ht1r0_0
          replace hu1R_1 := LC.mono hlet11 hu1R_1
          replace hce3 := HC.mono hlet11 hce3
          replace ht5r0_0 := VR.mono hlet11 ht5r0_0
          replace ht6r0_0 := VR.mono hlet11 ht6r0_0
          obtain rfl := hR
          obtain ⟨t12, ht12, hm⟩ := bnd hm
          have hL := hL.merge 0 1 rfl rfl rfl
          refine dh rfl rfl (o_callE 0 hL fn_179 rfl rfl (c179 hL.imm (hL.own 0 _ rfl) (fun b' hb' => (hL.non 0 _ rfl b' hb').1) hu1R_1 ha0_0 ht12) fun x v H w hlet12 hL hR => ⟨Sd.of hL (((Hle.refl _).trans hlet11).trans hlet12) [2, 5, 6] rfl, ?_⟩)
          obtain ⟨at12r0_0, ct12r0_0⟩ := x
          try dsimp only at hL hR
          replace ha0_0 := Sl.mono hlet12 ha0_0
          replace ha1_0 := VR.mono hlet12 ha1_0
          replace ha2_0 := VR.mono hlet12 ha2_0
          replace ht1r0_0 := Sl.mono hlet12 ht1r0_0
          replace hu1R_1 := LC.mono hlet12 hu1R_1
          replace hce3 := HC.mono hlet12 hce3
          replace ht5r0_0 := VR.mono hlet12 ht5r0_0
          replace ht6r0_0 := VR.mono hlet12 ht6r0_0
          obtain ⟨rfl, ht12r0_0⟩ := hR
          have hL := hL.split 0 1 rfl rfl (.inr rfl)
          have hL := hL.pick [(0, .cel b0 ((.slice au1R_1 (List.length u1R_1) cu1R_1) :: tl0) T0), (1, .row (.slice au1R_1 (List.length u1R_1) cu1R_1) 115 5 (List.length u1R_1) zu1R_1), (2, .cel b2 ((.slice aa0_0 (List.length a0_0) ca0_0) :: (.pointer (some ⟨b0, 0, none⟩)) :: []) 166), (3, .cel b3 (xa1_0 :: []) 33), (4, .cel b4 (xa2_0 :: []) 33), (5, .cel b5 (xt5r0_0 :: []) 33), (6, .cel b6 (xt6r0_0 :: []) 33)] rfl
          obtain ⟨t13, ht13, hm⟩ := bnd hm
          have hL := hL.merge 0 1 rfl rfl rfl
          refine dh rfl rfl (o_callE 0 hL fn_180 rfl rfl (c180 hL.imm (hL.own 0 _ rfl) (fun b' hb' => (hL.non 0 _ rfl b' hb').1) hu1R_1 ht12r0_0 ht5r0_0 ht6r0_0 ht13) fun x v H w hlet13 hL hR => ⟨Sd.of hL ((((Hle.refl _).trans hlet11).trans hlet12).trans hlet13) [2, 5, 6] rfl, ?_⟩)
          obtain ⟨at13m0_0, ct13m0_0, zt13m0_0⟩ := x
          try dsimp only at hL hR
          replace ha0_0 := Sl.mono hlet13 ha0_0
          replace ha1_0 := VR.mono hlet13 ha1_0
          replace ha2_0 := VR.mono hlet13 ha2_0
          replace ht1r0_0 := Sl.mono hlet13 ht1r0_0
          replace hu1R_1 := LC.mono hlet13 hu1R_1
          replace hce3 := HC.mono hlet13 hce3
          replace ht5r0_0 := VR.mono hlet13 ht5r0_0
          replace ht6r0_0 := VR.mono hlet13 ht6r0_0
          obtain ⟨rfl, ht13m0_0⟩ := hR
          have hL := hL.split 0 1 rfl rfl (.inr rfl)
          have hL := hL.pick [(0, .cel b0 ((.slice at13m0_0 (List.length t13) ct13m0_0) :: tl0) T0), (1, .row (.slice at13m0_0 (List.length t13) ct13m0_0) 115 5 (List.length t13) zt13m0_0), (2, .cel b2 ((.slice aa0_0 (List.length a0_0) ca0_0) :: (.pointer (some ⟨b0, 0, none⟩)) :: []) 166), (3, .cel b3 (xa1_0 :: []) 33), (4, .cel b4 (xa2_0 :: []) 33), (5, .cel b5 (xt5r0_0 :: []) 33), (6, .cel b6 (xt6r0_0 :: []) 33)] rfl
          refine dn <| blk_n <| then_n <| rg <| sv (r_add rfl rfl) <| sv (r_move rfl) <| wt ?_
          exact ⟨k0, Nat.lt_succ_self k0, _, _, _, _, _, _, _, fr_pre _ rfl, hL.pick _ rfl, ha0_0, ha1_0, ha2_0, ht1r0_0, ht13m0_0, hm⟩
      · refine rg <| sv (r_move rfl) <| sv (r_move rfl) ?_
        refine m_if hm (fun hg14 hm => ?_) (fun hg14 hm => ?_)
        · refine wlT rfl rfl rfl rfl hg14 (o_val (r_move rfl) ?_)
          refine sv (r_pickT hg14 rfl rfl) <| wt ?_
          exact ⟨_, _, _, fr_pre _ rfl, hL.pick _ rfl, ha0_0, ha1_0, ha2_0, ht1r0_0, hu1R_1, hce3, ht5r0_0, ht6r0_0, hm⟩
        · refine wlF rfl rfl rfl rfl hg14 rfl <| sv (r_pickF hg14 rfl rfl) <| wt ?_
          exact ⟨_, _, _, fr_pre _ rfl, hL.pick _ rfl, ha0_0, ha1_0, ha2_0, ht1r0_0, hu1R_1, hce3, ht5r0_0, ht6r0_0, hm⟩
    · refine wp_exit <| then_e <| then_e <| blk_e ?_
      obtain rfl := ends hm
      refine rtN rfl .nil ⟨_, _, rfl, hL.ext, ?_⟩
      have hL := hL.merge 0 1 rfl rfl rfl
      exact ⟨⟨au1R_1, cu1R_1, zu1R_1⟩, ⟨rfl, hu1R_1⟩, hL.give (i := 0) rfl⟩

/-- (diff.gather).of -/
def m99o (f99 : List Chg → List Step → J → J → Option (List Chg)) (s0 : List Chg) (a0_0 : List Step) (a1_0 : J) (a2_0 : J) : Option (List Chg) :=
  ((m130 a1_0).bind fun t1 => ((m130 a2_0).bind fun t2 => ((m62 a1_0 a2_0).bind fun t3 => (bif t3 then (some (s0)) else ((m21 a1_0).bind fun t5 => (bif (t5 == (7 : Int)) then ((m21 a2_0).bind fun t7 => (bif (t7 == (7 : Int)) then ((m178 f99 s0 a0_0 a1_0 a2_0).bind fun t9 => (some (t9))) else none)) else none))))))
set_option maxHeartbeats 20000000 in
set_option maxRecDepth 100000 in
theorem c99o {f99 : List Chg → List Step → J → J → Option (List Chg)} (h99 : S99 f99) : S99 (m99o f99) := by
  unfold S99
  intro H0 w0 s0 a0_0 a1_0 a2_0 ao00 co00 zo00 aa0_0 ca0_0 xa1_0 xa2_0 b0 tl0 T0  hI hb hn ho00 ha0_0 ha1_0 ha2_0 r hm
  have hL := L.one hI hb hn
  have hL := hL.split 0 1 rfl rfl (.inl rfl)
  refine ct_of Tryz.func99 rfl Tryz.ntmps99 rfl (Nat.le_of_ble_eq_true rfl) ?_
  unfold m99o at hm
  refine sr ?_
  refine wl rfl (o_box 2 (c := [_, _]) hL rfl rfl fun b2 w hL => ?_)
  refine wl rfl (o_box 3 (c := [_]) hL rfl rfl fun b3 w hL => ?_)
  refine wl rfl (o_box 4 (c := [_]) hL rfl rfl fun b4 w hL => ?_)
  refine wt <| wp_seq <| rd hL [3, 4] [_, _] [(0, true), (2, true), (1, false), (3, false), (4, true), (5, true)] mixed rfl (by kernel_rfl) fun w hL => dv rfl (fun w hS => r_loadk hS.2.1 ag_33 rfl (vs := [_]) rfl rfl) <| dv rfl (fun w hS => r_loadk hS.2.2.1 ag_33 rfl (vs := [_]) rfl rfl) ?_
  obtain ⟨t1, ht1, hm⟩ := bnd hm
  refine dh rfl rfl (o_call0 hL fn_130 rfl (c130 hL.imm ha1_0 ht1) fun v H w hlet1 hL hR => ⟨Sd.of hL ((Hle.refl _).trans hlet1) [3, 4] rfl, ?_⟩)
  replace ho00 := LC.mono hlet1 ho00
  replace ha0_0 := Sl.mono hlet1 ha0_0
  replace ha1_0 := VR.mono hlet1 ha1_0
  replace ha2_0 := VR.mono hlet1 ha2_0
  obtain ⟨at1r0_0, ct1r0_0, rfl, ht1r0_0⟩ := hR
  obtain ⟨t2, ht2, hm⟩ := bnd hm
  refine dh rfl rfl (o_call0 hL fn_130 rfl (c130 hL.imm ha2_0 ht2) fun v H w hlet2 hL hR => ⟨Sd.of hL (((Hle.refl _).trans hlet1).trans hlet2) [3, 4] rfl, ?_⟩)
  replace ho00 := LC.mono hlet2 ho00
  replace ha0_0 := Sl.mono hlet2 ha0_0
  replace ha1_0 := VR.mono hlet2 ha1_0
  replace ha2_0 := VR.mono hlet2 ha2_0
  obtain ⟨at2r0_0, ct2r0_0, rfl, ht2r0_0⟩ := hR
  refine dv rfl (fun w hS => r_assign rfl) <| dv rfl (fun w hS => r_assign rfl) <| dn <| then_n <| wp_block <| sr <| sv (r_loadk (hL.own 3 _ rfl) ag_33 rfl (vs := [_]) rfl rfl) <| sv (r_loadk (hL.own 4 _ rfl) ag_33 rfl (vs := [_]) rfl rfl) ?_
  obtain ⟨t3, ht3, hm⟩ := bnd hm
  refine wl rfl (o_call0 hL fn_62 rfl (c62 hL.imm ha1_0 ha2_0 ht3) fun v H w hlet3 hL hR => ?_)
  replace ho00 := LC.mono hlet3 ho00
  replace ha0_0 := Sl.mono hlet3 ha0_0
  replace ha1_0 := VR.mono hlet3 ha1_0
  replace ha2_0 := VR.mono hlet3 ha2_0
  obtain rfl := hR
  refine sv (r_assign rfl) <| wt ?_
  refine c_if hm rfl (fun hg4 hm => ?_) (fun hg4 hm => ?_)
  · refine wp_skip <| blk_n ?_
    obtain rfl := ends hm
    refine rtN rfl .nil ⟨_, _, rfl, hL.ext, ?_⟩
    have hL := hL.merge 0 1 rfl rfl rfl
    exact ⟨⟨ao00, co00, zo00⟩, ⟨rfl, ho00⟩, hL.give (i := 0) rfl⟩
  · refine sr <| sv (r_loadk (hL.own 3 _ rfl) ag_33 rfl (vs := [_]) rfl rfl) ?_
    obtain ⟨t5, ht5, hm⟩ := bnd hm
    refine wl rfl (o_call0 hL fn_21 rfl (c21 hL.imm ha1_0 ht5) fun v H w hlet5 hL hR => ?_)
    replace ho00 := LC.mono hlet5 ho00
    replace ha0_0 := Sl.mono hlet5 ha0_0
    replace ha1_0 := VR.mono hlet5 ha1_0
    replace ha2_0 := VR.mono hlet5 ha2_0
    obtain rfl := hR
    refine sv (r_eqi rfl rfl) <| sv (r_move rfl) ?_
    refine m_if hm (fun hg6 hm => ?_) (fun hg6 hm => ?_)
    · refine wlT rfl rfl rfl rfl hg6 (o_val (r_loadk (hL.own 4 _ rfl) ag_33 rfl (vs := [_]) rfl rfl) ?_)
      obtain ⟨t7, ht7, hm⟩ := bnd hm
      refine wlT rfl rfl rfl rfl hg6 (o_call0 hL fn_21 rfl (c21 hL.imm ha2_0 ht7) fun v H w hlet7 hL hR => ?_)
      replace ho00 := LC.mono hlet7 ho00
      replace ha0_0 := Sl.mono hlet7 ha0_0
      replace ha1_0 := VR.mono hlet7 ha1_0
      replace ha2_0 := VR.mono hlet7 ha2_0
      obtain rfl := hR
      refine wlT rfl rfl rfl rfl hg6 (o_val (r_eqi rfl rfl) ?_)
      refine sv (r_pickT hg6 rfl rfl) <| sv (r_assign rfl) <| wt ?_
      refine c_if hm rfl (fun hg8 hm => ?_) (fun hg8 hm => ?_)
      · refine rg <| sv (r_loadk (hL.own 2 _ rfl) ag_166 rfl (vs := [_, _]) rfl rfl) <| sv (r_loadk (hL.own 3 _ rfl) ag_33 rfl (vs := [_]) rfl rfl) <| sv (r_loadk (hL.own 4 _ rfl) ag_33 rfl (vs := [_]) rfl rfl) ?_
        obtain ⟨t9, ht9, hm⟩ := bnd hm
        have hL := hL.merge 0 1 rfl rfl rfl
        refine wl rfl (o_callE 0 hL fn_178 rfl rfl (c178 h99 hL.imm (hL.own 0 _ rfl) (fun b' hb' => (hL.non 0 _ rfl b' hb').1) ho00 ha0_0 ha1_0 ha2_0 ht9) fun x v H w hlet9 hL hR => ?_)
        obtain ⟨at9m0_0, ct9m0_0, zt9m0_0⟩ := x
        try dsimp only at hL hR
        replace ho00 := LC.mono hlet9 ho00
        replace ha0_0 := Sl.mono hlet9 ha0_0
        replace ha1_0 := VR.mono hlet9 ha1_0
        replace ha2_0 := VR.mono hlet9 ha2_0
        obtain ⟨rfl, ht9m0_0⟩ := hR
        have hL := hL.split 0 1 rfl rfl (.inr rfl)
        have hL := hL.pick [(0, .cel b0 ((.slice at9m0_0 (List.length t9) ct9m0_0) :: tl0) T0), (1, .row (.slice at9m0_0 (List.length t9) ct9m0_0) 115 5 (List.length t9) zt9m0_0), (2, .cel b2 ((.slice aa0_0 (List.length a0_0) ca0_0) :: (.pointer (some ⟨b0, 0, none⟩)) :: []) 166), (3, .cel b3 (xa1_0 :: []) 33), (4, .cel b4 (xa2_0 :: []) 33)] rfl
        refine wn <| blk_n ?_
        obtain rfl := ends hm
        refine rtN rfl .nil ⟨_, _, rfl, hL.ext, ?_⟩
        have hL := hL.merge 0 1 rfl rfl rfl
        exact ⟨⟨at9m0_0, ct9m0_0, zt9m0_0⟩, ⟨rfl, ht9m0_0⟩, hL.give (i := 0) rfl⟩
      · cases hm
    · cases hm
def m99n : Nat → List Chg → List Step → J → J → Option (List Chg)
  | 0 => fun _ _ _ _ => none
  | n + 1 => m99o (m99n n)
theorem c99n (n : Nat) : S99 (m99n n) := by
  induction n with
  | zero =>
    unfold S99
    intro H0 w0 s0 a0_0 a1_0 a2_0 ao00 co00 zo00 aa0_0 ca0_0 xa1_0 xa2_0 b0 tl0 T0  hI hb hn ho00 ha0_0 ha1_0 ha2_0 r hm
    rw [m99n.eq_1] at hm
    cases hm
  | succ n ih => exact c99o ih
def m99 : List Chg → List Step → J → J → Option (List Chg) := m99n FUEL
theorem c99 : S99 m99 := c99n FUEL

/-- diff.Of -/
def m19 (a0_0 : J) (a1_0 : J) : Option (List Chg) :=
  ((m99 ([] : List Chg) ([] : List Step) a0_0 a1_0).bind fun t1 => (some (t1)))
set_option maxHeartbeats 20000000 in
set_option maxRecDepth 100000 in
theorem c19 : ∀ {H0 : Hp} {w0 : World} {a0_0 : J} {a1_0 : J} {xa0_0 : Value} {xa1_0 : Value}  (_ : Imm H0 w0) (_ : VR H0 xa0_0 a0_0) (_ : VR H0 xa1_0 a1_0) {r : List Chg} (_ : m19 a0_0 a1_0 = some r), Ct Tryz.prog 19 [.agg (List.toArray [xa0_0]), .agg (List.toArray [xa1_0])] [] H0 w0 fun v H' w' => ∃ (ar0_0 : Option Addr) (cr0_0 : Nat), v = .slice ar0_0 (List.length r) cr0_0 ∧ Sl cChg H' ar0_0 cr0_0 r := by
  intro H0 w0 a0_0 a1_0 xa0_0 xa1_0  hI ha0_0 ha1_0 r hm
  have hL := L.start hI
  refine ct_of Tryz.func19 rfl Tryz.ntmps19 rfl (Nat.le_of_ble_eq_true rfl) ?_
  unfold m19 at hm
  refine sr ?_
  refine wl rfl (o_box 0 (c := [_]) hL rfl rfl fun b0 w hL => ?_)
  refine wl rfl (o_box 1 (c := [_]) hL rfl rfl fun b1 w hL => ?_)
  refine sv (r_assign rfl) <| wt <| sr ?_
  refine wl rfl (o_alloc 2 (c := [_]) hL ze_37 rfl fun b2 w hL => ?_)
  refine wt <| sr <| sv (r_build ze_166 st_166 rfl (.cons rfl .nil) (cs := [_, _]) rfl) <| sv (r_loadk (hL.own 0 _ rfl) ag_33 rfl (vs := [_]) rfl rfl) <| sv (r_loadk (hL.own 1 _ rfl) ag_33 rfl (vs := [_]) rfl rfl) ?_
  have hL := hL.addNil 3 115 5
  obtain ⟨t1, ht1, hm⟩ := bnd hm
  have hL := hL.merge 2 3 rfl rfl rfl
  refine wl rfl (o_callE 2 hL fn_99 rfl rfl (c99 hL.imm (hL.own 2 _ rfl) (fun b' hb' => (hL.non 2 _ rfl b' hb').1) LC.nil Sl.nil ha0_0 ha1_0 ht1) fun x v H w hlet1 hL hR => ?_)
  obtain ⟨at1m0_0, ct1m0_0, zt1m0_0⟩ := x
  try dsimp only at hL hR
  obtain ⟨rfl, ht1m0_0⟩ := hR
  have hL := hL.split 2 3 rfl rfl (.inr rfl)
  have hL := hL.pick [(0, .cel b0 (xa0_0 :: []) 33), (1, .cel b1 (xa1_0 :: []) 33), (2, .cel b2 ((.slice at1m0_0 (List.length t1) ct1m0_0) :: []) 37), (3, .row (.slice at1m0_0 (List.length t1) ct1m0_0) 115 5 (List.length t1) zt1m0_0)] rfl
  refine wt <| sr <| sv (r_load1 (hL.own 2 _ rfl) sc_37 rfl rfl) <| sv (r_assign rfl) <| wt <| wp_ret ?_
  obtain ⟨H, hlez2, hL, hsz2⟩ := hL.settle (i := 3) (K := cChg) rfl ht1m0_0
  obtain rfl := ends hm
  exact rt rfl (.tmp rfl .nil) ⟨_, _, rfl, hL.ext, ⟨_, _, rfl, hsz2⟩⟩

end Go.Proofs.YtcjphpenelnohaaGreatDoor
/- Gl: by tools/gen.py -/
set_option linter.unusedVariables false
namespace Go.Proofs.YtcjphpenelnohaaGreatDoor
open Go.RowKit

/-- (*schema.Schema).taken -/
def m127_l0 (a0 : Sch) (t4 : List J) (t5 : List Bs) : Nat → Int → Option (Bs × Int)
  | 0, _ => none
  | k + 1, v23_1 => (bif (decide (v23_1 < (t5.length : Int))) then (bif (decide (0 ≤ v23_1 ∧ v23_1 < (t5.length : Int))) then ((m20 a0 (t5.getD (v23_1).toNat ([] : Bs))).bind fun t9 => (bif (!t9.2.2.2.2.2.2) then none else (bif (decide (0 ≤ v23_1 ∧ v23_1 < (t4.length : Int))) then ((m78 t9.2.1 (t4.getD (v23_1).toNat J.null)).bind fun t13 => (bif (!t13) then none else (m127_l0 a0 t4 t5 k (IntKind.wrap .i64 (v23_1 + (1 : Int)))))) else none))) else none) else (some (([] : Bs), (0 : Int))))
def m127 (a0 : Sch) (a1_0 : J) : Option (Bs × Int) :=
  (bif a0.isNo then none else ((m21 a1_0).bind fun t2 => (bif (t2 != (7 : Int)) then none else ((m130 a1_0).bind fun t4 => ((m131 a1_0).bind fun t5 => (m127_l0 a0 t4 t5 FUEL (0 : Int)))))))
set_option maxHeartbeats 20000000 in
set_option maxRecDepth 100000 in
theorem c127 : ∀ {H0 : Hp} {w0 : World} {a0 : Sch} {a1_0 : J} {pa0 : Value} {xa1_0 : Value}  (_ : Imm H0 w0) (_ : ScR H0 pa0 a0) (_ : VR H0 xa1_0 a1_0) {r : (Bs × Int)} (_ : m127 a0 a1_0 = some r), Ct Tryz.prog 127 [pa0, .agg (List.toArray [xa1_0])] [] H0 w0 fun v H' w' => v = .tuple (List.toArray [.string (mk r.1), .int .i64 r.2]) := by
  intro H0 w0 a0 a1_0 pa0 xa1_0  hI ha0 ha1_0 r hm
  have hL := L.start hI
  refine ct_of Tryz.func127 rfl Tryz.ntmps127 rfl (Nat.le_of_ble_eq_true rfl) ?_
  unfold m127 at hm
  refine sr ?_
  refine wl rfl (o_box 0 (c := [_]) hL rfl rfl fun b0 w hL => ?_)
  refine sv (r_assign rfl) <| sv (r_assign rfl) <| wt <| wp_seq <| wp_block <| sr <| sv (r_move rfl) <| sv (r_eqPN Tryz.underlying26 (ScR.pn ha0) rfl rfl) <| sv (r_assign rfl) <| wt ?_
  refine c_if hm rfl (fun hg1 hm => ?_) (fun hg1 hm => ?_)
  · cases hm
  · refine sr <| sv (r_loadk (hL.own 0 _ rfl) ag_33 rfl (vs := [_]) rfl rfl) ?_
    obtain ⟨t2, ht2, hm⟩ := bnd hm
    refine wl rfl (o_call0 hL fn_21 rfl (c21 hL.imm ha1_0 ht2) fun v H w hlet2 hL hR => ?_)
    replace ha0 := ScR.mono hlet2 ha0
    replace ha1_0 := VR.mono hlet2 ha1_0
    obtain rfl := hR
    refine sv (r_nei rfl rfl) <| sv (r_assign rfl) <| wt ?_
    refine c_if hm rfl (fun hg3 hm => ?_) (fun hg3 hm => ?_)
    · cases hm
    · refine wp_skip <| blk_n <| then_n <| sr <| sv (r_loadk (hL.own 0 _ rfl) ag_33 rfl (vs := [_]) rfl rfl) ?_
      obtain ⟨t4, ht4, hm⟩ := bnd hm
      refine wl rfl (o_call0 hL fn_130 rfl (c130 hL.imm ha1_0 ht4) fun v H w hlet4 hL hR => ?_)
      replace ha0 := ScR.mono hlet4 ha0
      replace ha1_0 := VR.mono hlet4 ha1_0
      obtain ⟨at4r0_0, ct4r0_0, rfl, ht4r0_0⟩ := hR
      refine sv (r_assign rfl) <| wt <| wp_seq <| sr <| sv (r_loadk (hL.own 0 _ rfl) ag_33 rfl (vs := [_]) rfl rfl) ?_
      obtain ⟨t5, ht5, hm⟩ := bnd hm
      refine wl rfl (o_call0 hL fn_131 rfl (c131 hL.imm ha1_0 ht5) fun v H w hlet5 hL hR => ?_)
      replace ha0 := ScR.mono hlet5 ha0
      replace ha1_0 := VR.mono hlet5 ha1_0
      replace ht4r0_0 := Sl.mono hlet5 ht4r0_0
      obtain ⟨at5r0_0, ct5r0_0, rfl, ht5r0_0⟩ := hR
      refine sv (r_lenS rfl Tryz.underlying30 rfl) <| sv (r_move rfl) <| wt <| wp_block <| wp_loop_fuel (k := FUEL) (fun k a w => ∃ (v23_1 : Int) (l : List (Nat × Value)) (H : Hp), a = fr 49 ([(0, pa0), (4, .string (mk ([] : Bs))), (5, .int .i64 0), (6, .slice at4r0_0 (List.length t4) ct4r0_0), (21, .slice at5r0_0 (List.length t5) ct5r0_0), (22, .int .i64 (t5.length : Int)), (23, .int .i64 v23_1)] ++ l) [] ∧ L [] H0 w0 [(0, .cel b0 (xa1_0 :: []) 33)] H w ∧ ScR H pa0 a0 ∧ VR H xa1_0 a1_0 ∧ Sl cJ H at4r0_0 ct4r0_0 t4 ∧ Sl cStr H at5r0_0 ct5r0_0 t5 ∧ (m127_l0 a0 t4 t5 k v23_1) = some r) ⟨_, _, _, fr_pre _ rfl, hL.pick _ rfl, ha0, ha1_0, ht4r0_0, ht5r0_0, hm⟩ ?_
      rintro k0 a w ⟨v23_1, l, H, rfl, hL, ha0, ha1_0, ht4r0_0, ht5r0_0, hm⟩
      cases k0 with
      | zero => rw [m127_l0.eq_1] at hm; cases hm
      | succ k0 =>
        rw [m127_l0.eq_2] at hm
        refine sr <| sv (r_lss rfl rfl) <| wt <| wp_seq ?_
        refine c_if hm rfl (fun hg6 hm => ?_) (fun hg6 hm => ?_)
        · refine wp_skip <| then_n <| wp_seq <| wp_block <| sr <| sv (r_move rfl) ?_
          obtain ⟨hg8, hm⟩ := grd hm
          obtain ⟨be7, oe7, _, hae7, hce7, rfl⟩ := Sl.at ht5r0_0 ([] : Bs) hg8
          refine sv (r_indexAddr el_30 hg8 hae7 rfl rfl) <| sv (r_loadH1 hL.imm sc_9 rfl hce7) <| sv (r_assign rfl) <| sv (r_assign rfl) <| wt <| sr <| sv (r_move rfl) <| sv (r_move rfl) ?_
          obtain ⟨t9, ht9, hm⟩ := bnd hm
          refine wl rfl (o_call0 hL fn_20 rfl (c20 hL.imm ha0 ht9) fun v H w hlet9 hL hR => ?_)
          replace ha0 := ScR.mono hlet9 ha0
          replace ha1_0 := VR.mono hlet9 ha1_0
          replace ht4r0_0 := Sl.mono hlet9 ht4r0_0
          replace ht5r0_0 := Sl.mono hlet9 ht5r0_0
          obtain ⟨pt9r0_1, rfl, ht9r0_1⟩ := hR
          refine sv (r_move rfl) <| sv (r_extract rfl rfl) <| sv (r_extract rfl rfl) ?_
          refine wl rfl (o_alloc 1 (c := [_, _, _, _, _, _]) hL ze_41 rfl fun b1 w hL => ?_)
          refine wl rfl (o_storek (i := 1) (vs := [_, _, _, _, _, _]) hL ag_41 rfl rfl rfl rfl (Nat.le_of_ble_eq_true rfl) (List.forall_mem_cons.2 ⟨rfl, (List.forall_mem_cons.2 ⟨(TyR.one ht9r0_1), (List.forall_mem_cons.2 ⟨rfl, (List.forall_mem_cons.2 ⟨rfl, (List.forall_mem_cons.2 ⟨rfl, (List.forall_mem_cons.2 ⟨rfl, List.forall_mem_nil _⟩)⟩)⟩)⟩)⟩)⟩) (c' := _ :: _ :: _ :: _ :: _ :: _ :: []) rfl fun w hL => ?_)
          refine sv (r_assign rfl) <| wt <| wp_block <| sr <| sv (r_move rfl) <| sv (r_not rfl) <| sv (r_assign rfl) <| wt ?_
          refine c_if hm rfl (fun hg10 hm => ?_) (fun hg10 hm => ?_)
          · cases hm
          · refine wp_seq <| rd hL [1] [_] [(0, true), (1, true), (2, true), (3, true), (4, true), (5, true), (6, false), (7, true), (8, true)] mixed rfl (by kernel_rfl) fun w hL => dv rfl (fun w hS => r_fieldAddr fl_41_1 rfl) <| dv rfl (fun w hS => r_load1 hS.2.1 sc_39 rfl rfl) <| dv rfl (fun w hS => r_move rfl) <| dv rfl (fun w hS => r_move rfl) ?_
            obtain ⟨hg12, hm⟩ := grd hm
            obtain ⟨be11, oe11, _, hae11, hce11, ⟨xe110, rfl, he110⟩⟩ := Sl.at ht4r0_0 J.null hg12
            refine dv rfl (fun w hS => r_indexAddr el_23 hg12 hae11 rfl rfl) <| dv rfl (fun w hS => r_loadHk hS.1 ag_33 rfl (vs := [_]) hce11 rfl) ?_
            obtain ⟨t13, ht13, hm⟩ := bnd hm
            refine dh rfl rfl (o_call0 hL fn_78 rfl (c78 hL.imm ht9r0_1 he110 ht13) fun v H w hlet13 hL hR => ⟨Sd.of hL ((Hle.refl _).trans hlet13) [1] rfl, ?_⟩)
            replace ha0 := ScR.mono hlet13 ha0
            replace ha1_0 := VR.mono hlet13 ha1_0
            replace ht4r0_0 := Sl.mono hlet13 ht4r0_0
            replace ht5r0_0 := Sl.mono hlet13 ht5r0_0
            obtain rfl := hR
            refine dv rfl (fun w hS => r_not rfl) <| dv rfl (fun w hS => r_assign rfl) <| dn <| then_n ?_
            refine c_if hm rfl (fun hg14 hm => ?_) (fun hg14 hm => ?_)
            · cases hm
            · refine wp_skip <| blk_n <| blk_n <| then_n <| rg <| sv (r_add rfl rfl) <| sv (r_move rfl) <| wt ?_
              exact ⟨k0, Nat.lt_succ_self k0, _, _, _, fr_pre _ rfl, hL.pick _ rfl, ha0, ha1_0, ht4r0_0, ht5r0_0, hm⟩
        · refine wp_exit <| then_e <| then_e <| blk_e <| then_n <| sr <| sv (r_assign rfl) <| sv (r_assign rfl) <| wt <| wp_ret ?_
          obtain rfl := ends hm
          exact rt rfl (.tmp rfl (.tmp rfl .nil)) ⟨_, _, rfl, hL.ext, rfl⟩

/-- (*schema.Schema).Holds -/
def m61_l0 (a0 : Sch) (a1_0 : J) : Nat → Int → Option (Bs × Int)
  | 0, _ => none
  | k + 1, v27_1 => (bif (decide (v27_1 < (a0.lst.length : Int))) then (bif (decide (0 ≤ v27_1 ∧ v27_1 < (a0.lst.length : Int))) then ((m124 a1_0 ((a0.lst.getD (v27_1).toNat default).name)).bind fun t8 => (bif (!t8.2) then none else (m61_l0 a0 a1_0 k (IntKind.wrap .i64 (v27_1 + (1 : Int)))))) else none) else (some (([] : Bs), (0 : Int))))
def m61 (a0 : Sch) (a1_0 : J) : Option (Bs × Int) :=
  ((m127 a0 a1_0).bind fun t1 => (bif (t1.2 != (0 : Int)) then none else (bif (!a0.isNo) then (m61_l0 a0 a1_0 FUEL (0 : Int)) else none)))
set_option maxHeartbeats 20000000 in
set_option maxRecDepth 100000 in
theorem c61 : ∀ {H0 : Hp} {w0 : World} {a0 : Sch} {a1_0 : J} {pa0 : Value} {xa1_0 : Value}  (_ : Imm H0 w0) (_ : ScR H0 pa0 a0) (_ : VR H0 xa1_0 a1_0) {r : (Bs × Int)} (_ : m61 a0 a1_0 = some r), Ct Tryz.prog 61 [pa0, .agg (List.toArray [xa1_0])] [] H0 w0 fun v H' w' => v = .tuple (List.toArray [.string (mk r.1), .int .i64 r.2]) := by
  intro H0 w0 a0 a1_0 pa0 xa1_0  hI ha0 ha1_0 r hm
  have hL := L.start hI
  refine ct_of Tryz.func61 rfl Tryz.ntmps61 rfl (Nat.le_of_ble_eq_true rfl) ?_
  unfold m61 at hm
  refine sr ?_
  refine wl rfl (o_box 0 (c := [_]) hL rfl rfl fun b0 w hL => ?_)
  refine sv (r_assign rfl) <| sv (r_assign rfl) <| wt <| wp_seq <| sr <| sv (r_move rfl) <| sv (r_loadk (hL.own 0 _ rfl) ag_33 rfl (vs := [_]) rfl rfl) ?_
  obtain ⟨t1, ht1, hm⟩ := bnd hm
  refine wl rfl (o_call0 hL fn_127 rfl (c127 hL.imm ha0 ha1_0 ht1) fun v H w hlet1 hL hR => ?_)
  replace ha0 := ScR.mono hlet1 ha0
  replace ha1_0 := VR.mono hlet1 ha1_0
  obtain rfl := hR
  refine sv (r_move rfl) <| sv (r_extract rfl rfl) <| sv (r_extract rfl rfl) <| sv (r_assign rfl) <| sv (r_assign rfl) <| wt <| sr <| sv (r_move rfl) <| sv (r_nei rfl rfl) <| wt ?_
  refine c_if hm rfl (fun hg2 hm => ?_) (fun hg2 hm => ?_)
  · cases hm
  · refine wp_skip <| then_n <| wp_seq <| sr <| sv (r_move rfl) ?_
    obtain ⟨hg3, hm⟩ := grd hm
    obtain ⟨bp4, aap4, cap4, bmp4, emp4, kmp4, hvp4, hcp4, hsap4, hMp4, hTp4⟩ := ScR.get ha0 hg3
    refine sv (r_nilCheck (ev_eq rfl hvp4)) <| sv (r_fieldAddr fl_155_1 rfl) <| sv (r_loadH1 hL.imm sc_152 rfl (HC.sub hcp4 1 1 (us := [_]) rfl)) <| sv (r_lenS rfl Tryz.underlying152 rfl) <| sv (r_move rfl) <| wt <| wp_block <| wp_loop_fuel (k := FUEL) (fun k a w => ∃ (v27_1 : Int) (l : List (Nat × Value)) (H : Hp), a = fr 43 ([(3, .pointer (some ⟨b0, 0, none⟩)), (4, .string (mk ([] : Bs))), (5, .int .i64 0), (25, .slice aap4 (List.length a0.lst) cap4), (26, .int .i64 (a0.lst.length : Int)), (27, .int .i64 v27_1)] ++ l) [] ∧ L [] H0 w0 [(0, .cel b0 (xa1_0 :: []) 33)] H w ∧ VR H xa1_0 a1_0 ∧ Sl cAt H aap4 cap4 a0.lst ∧ (m61_l0 a0 a1_0 k v27_1) = some r) ⟨_, _, _, fr_pre _ rfl, hL.pick _ rfl, ha1_0, hsap4, hm⟩ ?_
    rintro k0 a w ⟨v27_1, l, H, rfl, hL, ha1_0, hsap4, hm⟩
    cases k0 with
    | zero => rw [m61_l0.eq_1] at hm; cases hm
    | succ k0 =>
      rw [m61_l0.eq_2] at hm
      refine sr <| sv (r_lss rfl rfl) <| wt <| wp_seq ?_
      refine c_if hm rfl (fun hg5 hm => ?_) (fun hg5 hm => ?_)
      · refine wp_skip <| then_n <| wp_seq <| wp_block <| sr ?_
        obtain ⟨hg7, hm⟩ := grd hm
        obtain ⟨be6, oe6, _, hae6, hce6, ⟨pe61, rfl, he61⟩⟩ := Sl.at hsap4 default hg7
        refine sv (r_indexAddr el_152 hg7 hae6 rfl rfl) <| sv (r_loadHk hL.imm ag_41 rfl (vs := [_, _, _, _, _, _]) hce6 rfl) ?_
        refine wl rfl (o_alloc 1 (c := [_, _, _, _, _, _]) hL ze_41 rfl fun b1 w hL => ?_)
        refine wl rfl (o_storek (i := 1) (vs := [_, _, _, _, _, _]) hL ag_41 rfl rfl rfl rfl (Nat.le_of_ble_eq_true rfl) (List.forall_mem_cons.2 ⟨rfl, (List.forall_mem_cons.2 ⟨(TyR.one he61), (List.forall_mem_cons.2 ⟨rfl, (List.forall_mem_cons.2 ⟨rfl, (List.forall_mem_cons.2 ⟨rfl, (List.forall_mem_cons.2 ⟨rfl, List.forall_mem_nil _⟩)⟩)⟩)⟩)⟩)⟩) (c' := _ :: _ :: _ :: _ :: _ :: _ :: []) rfl fun w hL => ?_)
        refine wt <| sr <| sv (r_loadk (hL.own 0 _ rfl) ag_33 rfl (vs := [_]) rfl rfl) <| sv (r_fieldAddr fl_41_0 rfl) <| sv (r_load1 (hL.own 1 _ rfl) sc_9 rfl rfl) ?_
        obtain ⟨t8, ht8, hm⟩ := bnd hm
        refine wl rfl (o_call0 hL fn_124 rfl (c124 hL.imm ha1_0 ht8) fun v H w hlet8 hL hR => ?_)
        replace ha1_0 := VR.mono hlet8 ha1_0
        replace hsap4 := Sl.mono hlet8 hsap4
        obtain ⟨xt8r0_0, rfl, ht8r0_0⟩ := hR
        refine sv (r_move rfl) <| sv (r_extract rfl rfl) <| sv (r_extract rfl rfl) ?_
        refine wl rfl (o_alloc 2 (c := [_]) hL ze_33 rfl fun b2 w hL => ?_)
        refine wl rfl (o_storek (i := 2) (vs := [_]) hL ag_33 rfl rfl rfl rfl (Nat.le_of_ble_eq_true rfl) (List.forall_mem_cons.2 ⟨(VR.one ht8r0_0), List.forall_mem_nil _⟩) (c' := _ :: []) rfl fun w hL => ?_)
        refine sv (r_assign rfl) <| wt <| sr <| sv (r_move rfl) <| sv (r_not rfl) <| wt ?_
        refine c_if hm rfl (fun hg9 hm => ?_) (fun hg9 hm => ?_)
        · cases hm
        · refine wp_skip <| blk_n <| then_n <| rg <| sv (r_add rfl rfl) <| sv (r_move rfl) <| wt ?_
          exact ⟨k0, Nat.lt_succ_self k0, _, _, _, fr_pre _ rfl, hL.pick _ rfl, ha1_0, hsap4, hm⟩
      · refine wp_exit <| then_e <| then_e <| blk_e <| then_n <| sr <| sv (r_assign rfl) <| sv (r_assign rfl) <| wt <| wp_ret ?_
        obtain rfl := ends hm
        exact rt rfl (.tmp rfl (.tmp rfl .nil)) ⟨_, _, rfl, hL.ext, rfl⟩

/-- gate.shape -/
def m96 (a0 : Sch) (a1_0 : J) : Option (Int × Bs × Bool) :=
  ((m61 a0 a1_0).bind fun t1 => (some ((1 : Int), t1.1, (t1.2 == (0 : Int)))))
set_option maxHeartbeats 20000000 in
set_option maxRecDepth 100000 in
theorem c96 : ∀ {H0 : Hp} {w0 : World} {a0 : Sch} {a1_0 : J} {pa0 : Value} {xa1_0 : Value}  (_ : Imm H0 w0) (_ : ScR H0 pa0 a0) (_ : VR H0 xa1_0 a1_0) {r : (Int × Bs × Bool)} (_ : m96 a0 a1_0 = some r), Ct Tryz.prog 96 [pa0, .agg (List.toArray [xa1_0])] [] H0 w0 fun v H' w' => v = .tuple (List.toArray [.agg (List.toArray [.int .i64 r.1, .string (mk r.2.1)]), .bool r.2.2]) := by
  intro H0 w0 a0 a1_0 pa0 xa1_0  hI ha0 ha1_0 r hm
  have hL := L.start hI
  refine ct_of Tryz.func96 rfl Tryz.ntmps96 rfl (Nat.le_of_ble_eq_true rfl) ?_
  unfold m96 at hm
  refine sr ?_
  refine wl rfl (o_box 0 (c := [_]) hL rfl rfl fun b0 w hL => ?_)
  refine wl rfl (o_alloc 1 (c := [_, _]) hL ze_35 rfl fun b1 w hL => ?_)
  refine sv (r_assign rfl) <| wt <| sr <| sv (r_move rfl) <| sv (r_loadk (hL.own 0 _ rfl) ag_33 rfl (vs := [_]) rfl rfl) ?_
  obtain ⟨t1, ht1, hm⟩ := bnd hm
  refine wl rfl (o_call0 hL fn_61 rfl (c61 hL.imm ha0 ha1_0 ht1) fun v H w hlet1 hL hR => ?_)
  obtain rfl := hR
  refine sv (r_move rfl) <| sv (r_extract rfl rfl) <| sv (r_extract rfl rfl) <| sv (r_assign rfl) <| sv (r_assign rfl) <| wt <| sr <| sv (r_move rfl) <| sv (r_build ze_35 st_35 rfl (.cons rfl (.cons rfl .nil)) (cs := [_, _]) rfl) <| sv (r_move rfl) <| sv (r_eqi rfl rfl) ?_
  refine wl rfl (o_storek (i := 1) (vs := [_, _]) hL ag_35 rfl rfl rfl rfl (Nat.le_of_ble_eq_true rfl) (List.forall_mem_cons.2 ⟨rfl, (List.forall_mem_cons.2 ⟨rfl, List.forall_mem_nil _⟩)⟩) (c' := _ :: _ :: []) rfl fun w hL => ?_)
  refine sv (r_assign rfl) <| wt <| wp_ret ?_
  obtain rfl := ends hm
  exact rt rfl (.agg (hL.own 1 _ rfl) ag_35 rfl (us := [_, _]) rfl rfl (.tmp rfl .nil)) ⟨_, _, rfl, hL.ext, rfl⟩

/-- gate.kept -/
def m97_j0 (t3 : Int) (v30_1 : Bool) : Option (Int × Bs × Bool) := (bif v30_1 then none else (bif (t3 == (0 : Int)) then none else (some ((0 : Int), ([] : Bs), true))))
def m97 (a0_0 : Bs) (a0_1 : Ty) (a0_2 : Bool) (a0_3 : Bool) (a0_4 : Bool) (a0_5 : Bool) (a1_0 : J) (a2_0 : J) : Option (Int × Bs × Bool) :=
  ((m124 a1_0 a0_0).bind fun t1 => ((m124 a2_0 a0_0).bind fun t2 => ((m21 t1.1).bind fun t3 => (bif (!(t3 == (0 : Int))) then ((m70 t1.1).bind fun t7 => (bif t7 then ((m62 t1.1 t2.1).bind fun t9 => (m97_j0 t3 (!t9))) else (m97_j0 t3 false))) else none))))
set_option maxHeartbeats 20000000 in
set_option maxRecDepth 100000 in
theorem c97 : ∀ {H0 : Hp} {w0 : World} {a0_0 : Bs} {a0_1 : Ty} {a0_2 : Bool} {a0_3 : Bool} {a0_4 : Bool} {a0_5 : Bool} {a1_0 : J} {a2_0 : J} {pa0_1 : Value} {xa1_0 : Value} {xa2_0 : Value}  (_ : Imm H0 w0) (_ : TyR H0 pa0_1 a0_1) (_ : VR H0 xa1_0 a1_0) (_ : VR H0 xa2_0 a2_0) {r : (Int × Bs × Bool)} (_ : m97 a0_0 a0_1 a0_2 a0_3 a0_4 a0_5 a1_0 a2_0 = some r), Ct Tryz.prog 97 [.agg (List.toArray [.string (mk a0_0), pa0_1, .bool a0_2, .bool a0_3, .bool a0_4, .bool a0_5]), .agg (List.toArray [xa1_0]), .agg (List.toArray [xa2_0])] [] H0 w0 fun v H' w' => v = .tuple (List.toArray [.agg (List.toArray [.int .i64 r.1, .string (mk r.2.1)]), .bool r.2.2]) := by
  intro H0 w0 a0_0 a0_1 a0_2 a0_3 a0_4 a0_5 a1_0 a2_0 pa0_1 xa1_0 xa2_0  hI ha0_1 ha1_0 ha2_0 r hm
  have hL := L.start hI
  refine ct_of Tryz.func97 rfl Tryz.ntmps97 rfl (Nat.le_of_ble_eq_true rfl) ?_
  unfold m97 at hm
  refine sr ?_
  refine wl rfl (o_box 0 (c := [_, _, _, _, _, _]) hL rfl rfl fun b0 w hL => ?_)
  refine wl rfl (o_box 1 (c := [_]) hL rfl rfl fun b1 w hL => ?_)
  refine wl rfl (o_box 2 (c := [_]) hL rfl rfl fun b2 w hL => ?_)
  refine wl rfl (o_alloc 3 (c := [_, _]) hL ze_35 rfl fun b3 w hL => ?_)
  refine sv (r_assign rfl) <| wt <| sr <| sv (r_loadk (hL.own 1 _ rfl) ag_33 rfl (vs := [_]) rfl rfl) <| sv (r_fieldAddr fl_41_0 rfl) <| sv (r_load1 (hL.own 0 _ rfl) sc_9 rfl rfl) ?_
  obtain ⟨t1, ht1, hm⟩ := bnd hm
  refine wl rfl (o_call0 hL fn_124 rfl (c124 hL.imm ha1_0 ht1) fun v H w hlet1 hL hR => ?_)
  replace ha0_1 := TyR.mono hlet1 ha0_1
  replace ha1_0 := VR.mono hlet1 ha1_0
  replace ha2_0 := VR.mono hlet1 ha2_0
  obtain ⟨xt1r0_0, rfl, ht1r0_0⟩ := hR
  refine sv (r_move rfl) <| sv (r_extract rfl rfl) <| sv (r_extract rfl rfl) ?_
  refine wl rfl (o_alloc 4 (c := [_]) hL ze_33 rfl fun b4 w hL => ?_)
  refine wl rfl (o_storek (i := 4) (vs := [_]) hL ag_33 rfl rfl rfl rfl (Nat.le_of_ble_eq_true rfl) (List.forall_mem_cons.2 ⟨(VR.one ht1r0_0), List.forall_mem_nil _⟩) (c' := _ :: []) rfl fun w hL => ?_)
  refine sv (r_assign rfl) <| wt <| sr <| sv (r_loadk (hL.own 2 _ rfl) ag_33 rfl (vs := [_]) rfl rfl) <| sv (r_fieldAddr fl_41_0 rfl) <| sv (r_load1 (hL.own 0 _ rfl) sc_9 rfl rfl) ?_
  obtain ⟨t2, ht2, hm⟩ := bnd hm
  refine wl rfl (o_call0 hL fn_124 rfl (c124 hL.imm ha2_0 ht2) fun v H w hlet2 hL hR => ?_)
  replace ha0_1 := TyR.mono hlet2 ha0_1
  replace ha1_0 := VR.mono hlet2 ha1_0
  replace ha2_0 := VR.mono hlet2 ha2_0
  replace ht1r0_0 := VR.mono hlet2 ht1r0_0
  obtain ⟨xt2r0_0, rfl, ht2r0_0⟩ := hR
  refine sv (r_move rfl) <| sv (r_extract rfl rfl) <| sv (r_extract rfl rfl) ?_
  refine wl rfl (o_alloc 5 (c := [_]) hL ze_33 rfl fun b5 w hL => ?_)
  refine wl rfl (o_storek (i := 5) (vs := [_]) hL ag_33 rfl rfl rfl rfl (Nat.le_of_ble_eq_true rfl) (List.forall_mem_cons.2 ⟨(VR.one ht2r0_0), List.forall_mem_nil _⟩) (c' := _ :: []) rfl fun w hL => ?_)
  refine sv (r_assign rfl) <| wt <| wp_seq <| sr <| sv (r_loadk (hL.own 4 _ rfl) ag_33 rfl (vs := [_]) rfl rfl) ?_
  obtain ⟨t3, ht3, hm⟩ := bnd hm
  refine wl rfl (o_call0 hL fn_21 rfl (c21 hL.imm ht1r0_0 ht3) fun v H w hlet3 hL hR => ?_)
  replace ha0_1 := TyR.mono hlet3 ha0_1
  replace ha1_0 := VR.mono hlet3 ha1_0
  replace ha2_0 := VR.mono hlet3 ha2_0
  replace ht1r0_0 := VR.mono hlet3 ht1r0_0
  replace ht2r0_0 := VR.mono hlet3 ht2r0_0
  obtain rfl := hR
  refine sv (r_eqi rfl rfl) <| sv (r_assign rfl) <| wt <| wp_block ?_
  refine w_join (fun a w => ∃ (v30_1 : Bool) (l : List (Nat × Value)) (H : Hp), a = fr 62 ([(3, .pointer (some ⟨b0, 0, none⟩)), (6, .pointer (some ⟨b3, 0, none⟩)), (7, .bool false), (10, .pointer (some ⟨b5, 0, none⟩)), (12, .bool (t3 == (0 : Int))), (30, .bool v30_1)] ++ l) [] ∧ L [] H0 w0 [(0, .cel b0 ((.string (mk a0_0)) :: pa0_1 :: (.bool a0_2) :: (.bool a0_3) :: (.bool a0_4) :: (.bool a0_5) :: []) 41), (1, .cel b1 (xa1_0 :: []) 33), (2, .cel b2 (xa2_0 :: []) 33), (3, .cel b3 ((.int .i64 0) :: (.string (mk ([] : Bs))) :: []) 35), (4, .cel b4 (xt1r0_0 :: []) 33), (5, .cel b5 (xt2r0_0 :: []) 33)] H w ∧ TyR H pa0_1 a0_1 ∧ VR H xa1_0 a1_0 ∧ VR H xa2_0 a2_0 ∧ VR H xt1r0_0 t1.1 ∧ VR H xt2r0_0 t2.1 ∧ (m97_j0 t3 v30_1) = some r) (fun a w hj => ?_) ?_
  · obtain ⟨v30_1, l, H, rfl, hL, ha0_1, ha1_0, ha2_0, ht1r0_0, ht2r0_0, hm⟩ := hj
    unfold m97_j0 at hm
    refine c_if hm rfl (fun hg4 hm => ?_) (fun hg4 hm => ?_)
    · cases hm
    · refine sr <| sv (r_move rfl) <| sv (r_move rfl) ?_
      refine m_if hm (fun hg5 hm => ?_) (fun hg5 hm => ?_)
      · cases hm
      · refine wlF rfl rfl rfl rfl hg5 rfl <| wlF rfl rfl rfl rfl hg5 rfl <| wlF rfl rfl rfl rfl hg5 rfl <| sv (r_pickF hg5 rfl rfl) <| sv (r_move rfl) <| wlF rfl rfl rfl rfl rfl rfl <| wlF rfl rfl rfl rfl rfl rfl <| wlF rfl rfl rfl rfl rfl rfl <| sv (r_pickF rfl rfl rfl) <| sv (r_assign rfl) <| wt <| c_F rfl rfl <| wp_skip <| blk_n <| then_n <| sr <| sv (r_build ze_35 st_35 rfl .nil (cs := [_, _]) rfl) ?_
        refine wl rfl (o_storek (i := 3) (vs := [_, _]) hL ag_35 rfl rfl rfl rfl (Nat.le_of_ble_eq_true rfl) (List.forall_mem_cons.2 ⟨rfl, (List.forall_mem_cons.2 ⟨rfl, List.forall_mem_nil _⟩)⟩) (c' := _ :: _ :: []) rfl fun w hL => ?_)
        refine sv (r_assign rfl) <| wt <| wp_ret ?_
        obtain rfl := ends hm
        exact rt rfl (.agg (hL.own 3 _ rfl) ag_35 rfl (us := [_, _]) rfl rfl (.tmp rfl .nil)) ⟨_, _, rfl, hL.ext, rfl⟩
  · refine rg <| sv (r_move rfl) <| sv (r_not rfl) <| sv (r_move rfl) ?_
    refine m_if hm (fun hg6 hm => ?_) (fun hg6 hm => ?_)
    · refine wlT rfl rfl rfl rfl hg6 (o_val (r_loadk (hL.own 4 _ rfl) ag_33 rfl (vs := [_]) rfl rfl) ?_)
      obtain ⟨t7, ht7, hm⟩ := bnd hm
      refine wlT rfl rfl rfl rfl hg6 (o_call0 hL fn_70 rfl (c70 hL.imm ht1r0_0 ht7) fun v H w hlet7 hL hR => ?_)
      replace ha0_1 := TyR.mono hlet7 ha0_1
      replace ha1_0 := VR.mono hlet7 ha1_0
      replace ha2_0 := VR.mono hlet7 ha2_0
      replace ht1r0_0 := VR.mono hlet7 ht1r0_0
      replace ht2r0_0 := VR.mono hlet7 ht2r0_0
      obtain rfl := hR
      refine sv (r_pickT hg6 rfl rfl) <| sv (r_move rfl) ?_
      refine m_if hm (fun hg8 hm => ?_) (fun hg8 hm => ?_)
      · refine wlT rfl rfl rfl rfl hg8 (o_val (r_loadk (hL.own 4 _ rfl) ag_33 rfl (vs := [_]) rfl rfl) ?_)
        refine wlT rfl rfl rfl rfl hg8 (o_val (r_loadk (hL.own 5 _ rfl) ag_33 rfl (vs := [_]) rfl rfl) ?_)
        obtain ⟨t9, ht9, hm⟩ := bnd hm
        refine wlT rfl rfl rfl rfl hg8 (o_call0 hL fn_62 rfl (c62 hL.imm ht1r0_0 ht2r0_0 ht9) fun v H w hlet9 hL hR => ?_)
        replace ha0_1 := TyR.mono hlet9 ha0_1
        replace ha1_0 := VR.mono hlet9 ha1_0
        replace ha2_0 := VR.mono hlet9 ha2_0
        replace ht1r0_0 := VR.mono hlet9 ht1r0_0
        replace ht2r0_0 := VR.mono hlet9 ht2r0_0
        obtain rfl := hR
        refine wlT rfl rfl rfl rfl hg8 (o_val (r_not rfl) ?_)
        refine sv (r_pickT hg8 rfl rfl) <| sv (r_assign rfl) <| wt ?_
        exact ⟨_, _, _, fr_pre _ rfl, hL.pick _ rfl, ha0_1, ha1_0, ha2_0, ht1r0_0, ht2r0_0, hm⟩
      · refine wlF rfl rfl rfl rfl hg8 rfl <| wlF rfl rfl rfl rfl hg8 rfl <| wlF rfl rfl rfl rfl hg8 rfl <| wlF rfl rfl rfl rfl hg8 rfl <| sv (r_pickF hg8 rfl rfl) <| sv (r_assign rfl) <| wt ?_
        exact ⟨_, _, _, fr_pre _ rfl, hL.pick _ rfl, ha0_1, ha1_0, ha2_0, ht1r0_0, ht2r0_0, hm⟩
    · cases hm

/-- gate.Plan -/
def m18_l2 (t3 : List Bs) : Nat → Option (Int × Bs)
  | 0 => none
  | k + 1 => (bif (decide ((0 : Int) < (t3.length : Int))) then none else (some ((0 : Int), ([] : Bs))))
def m18_j1 (a0 : Sch) (a2_0 : J) (a3_0 : J) : Option (Int × Bs) := ((m17 a0 a2_0 a3_0).bind fun t3 => (m18_l2 t3 FUEL ))
def m18_l3 (a0 : Sch) (a2_0 : J) (a3_0 : J) (a4 : List Bs) : Nat → Option (Int × Bs)
  | 0 => none
  | k + 1 => (bif (decide ((0 : Int) < (a4.length : Int))) then none else (m18_j1 a0 a2_0 a3_0))
def m18_j0 (a0 : Sch) (a2_0 : J) (a3_0 : J) (a4 : List Bs) : Option (Int × Bs) := (m18_l3 a0 a2_0 a3_0 a4 FUEL )
def m18_l4 (a0 : Sch) (a1_0 : J) (a2_0 : J) (a3_0 : J) (a4 : List Bs) (t6 : List At) : Nat → Int → Option (Int × Bs)
  | 0, _ => none
  | k + 1, v35_5 => (bif (decide (v35_5 < (t6.length : Int))) then (bif (decide (0 ≤ v35_5 ∧ v35_5 < (t6.length : Int))) then ((m97 ((t6.getD (v35_5).toNat default).name) ((t6.getD (v35_5).toNat default).ty) ((t6.getD (v35_5).toNat default).must) ((t6.getD (v35_5).toNat default).own) ((t6.getD (v35_5).toNat default).hide) ((t6.getD (v35_5).toNat default).new) a1_0 a3_0).bind fun t10 => (bif (!t10.2.2) then none else (m18_l4 a0 a1_0 a2_0 a3_0 a4 t6 k (IntKind.wrap .i64 (v35_5 + (1 : Int)))))) else none) else (m18_j0 a0 a2_0 a3_0 a4))
def m18 (a0 : Sch) (a1_0 : J) (a2_0 : J) (a3_0 : J) (a4 : List Bs) : Option (Int × Bs) :=
  ((m96 a0 a3_0).bind fun t1 => (bif (!t1.2.2) then none else ((m94 a0).bind fun t6 => (m18_l4 a0 a1_0 a2_0 a3_0 a4 t6 FUEL (0 : Int)))))
set_option maxHeartbeats 20000000 in
set_option maxRecDepth 100000 in
theorem c18 : ∀ {H0 : Hp} {w0 : World} {a0 : Sch} {a1_0 : J} {a2_0 : J} {a3_0 : J} {a4 : List Bs} {pa0 : Value} {xa1_0 : Value} {xa2_0 : Value} {xa3_0 : Value} {aa4 : Option Addr} {ca4 : Nat}  (_ : Imm H0 w0) (_ : ScR H0 pa0 a0) (_ : VR H0 xa1_0 a1_0) (_ : VR H0 xa2_0 a2_0) (_ : VR H0 xa3_0 a3_0) (_ : Sl cStr H0 aa4 ca4 a4) {r : (Int × Bs)} (_ : m18 a0 a1_0 a2_0 a3_0 a4 = some r), Ct Tryz.prog 18 [pa0, .agg (List.toArray [xa1_0]), .agg (List.toArray [xa2_0]), .agg (List.toArray [xa3_0]), .slice aa4 (List.length a4) ca4] [] H0 w0 fun v H' w' => v = .agg (List.toArray [.int .i64 r.1, .string (mk r.2)]) := by
  intro H0 w0 a0 a1_0 a2_0 a3_0 a4 pa0 xa1_0 xa2_0 xa3_0 aa4 ca4  hI ha0 ha1_0 ha2_0 ha3_0 ha4 r hm
  have hL := L.start hI
  refine ct_of Tryz.func18 rfl Tryz.ntmps18 rfl (Nat.le_of_ble_eq_true rfl) ?_
  unfold m18 at hm
  refine sr ?_
  refine wl rfl (o_box 0 (c := [_]) hL rfl rfl fun b0 w hL => ?_)
  refine wl rfl (o_box 1 (c := [_]) hL rfl rfl fun b1 w hL => ?_)
  refine wl rfl (o_box 2 (c := [_]) hL rfl rfl fun b2 w hL => ?_)
  refine wl rfl (o_alloc 3 (c := [_, _]) hL ze_35 rfl fun b3 w hL => ?_)
  refine wt <| wp_seq <| sr <| sv (r_move rfl) <| sv (r_loadk (hL.own 2 _ rfl) ag_33 rfl (vs := [_]) rfl rfl) ?_
  obtain ⟨t1, ht1, hm⟩ := bnd hm
  refine wl rfl (o_call0 hL fn_96 rfl (c96 hL.imm ha0 ha3_0 ht1) fun v H w hlet1 hL hR => ?_)
  replace ha0 := ScR.mono hlet1 ha0
  replace ha1_0 := VR.mono hlet1 ha1_0
  replace ha2_0 := VR.mono hlet1 ha2_0
  replace ha3_0 := VR.mono hlet1 ha3_0
  replace ha4 := Sl.mono hlet1 ha4
  obtain rfl := hR
  refine sv (r_move rfl) <| sv (r_extract rfl rfl) <| sv (r_extract rfl rfl) ?_
  refine wl rfl (o_alloc 4 (c := [_, _]) hL ze_35 rfl fun b4 w hL => ?_)
  refine wl rfl (o_storek (i := 4) (vs := [_, _]) hL ag_35 rfl rfl rfl rfl (Nat.le_of_ble_eq_true rfl) (List.forall_mem_cons.2 ⟨rfl, (List.forall_mem_cons.2 ⟨rfl, List.forall_mem_nil _⟩)⟩) (c' := _ :: _ :: []) rfl fun w hL => ?_)
  refine sv (r_assign rfl) <| wt <| sr <| sv (r_move rfl) <| sv (r_not rfl) <| wt ?_
  refine c_if hm rfl (fun hg2 hm => ?_) (fun hg2 hm => ?_)
  · cases hm
  · refine wp_skip <| then_n ?_
    refine w_join (fun a w => ∃  (l : List (Nat × Value)) (H : Hp), a = fr 91 ([(0, pa0), (4, .slice aa4 (List.length a4) ca4), (7, .pointer (some ⟨b1, 0, none⟩)), (8, .pointer (some ⟨b2, 0, none⟩)), (10, .pointer (some ⟨b3, 0, none⟩))] ++ l) [] ∧ L [] H0 w0 [(0, .cel b0 (xa1_0 :: []) 33), (1, .cel b1 (xa2_0 :: []) 33), (2, .cel b2 (xa3_0 :: []) 33), (3, .cel b3 ((.int .i64 0) :: (.string (mk ([] : Bs))) :: []) 35), (4, .cel b4 ((.int .i64 t1.1) :: (.string (mk t1.2.1)) :: []) 35)] H w ∧ ScR H pa0 a0 ∧ VR H xa1_0 a1_0 ∧ VR H xa2_0 a2_0 ∧ VR H xa3_0 a3_0 ∧ Sl cStr H aa4 ca4 a4 ∧ (m18_j0 a0 a2_0 a3_0 a4) = some r) (fun a w hj => ?_) ?_
    · obtain ⟨l, H, rfl, hL, ha0, ha1_0, ha2_0, ha3_0, ha4, hm⟩ := hj
      unfold m18_j0 at hm
      refine w_join (fun a w => ∃  (l : List (Nat × Value)) (H : Hp), a = fr 91 ([(0, pa0), (4, .slice aa4 (List.length a4) ca4), (7, .pointer (some ⟨b1, 0, none⟩)), (8, .pointer (some ⟨b2, 0, none⟩)), (10, .pointer (some ⟨b3, 0, none⟩))] ++ l) [] ∧ L [] H0 w0 [(0, .cel b0 (xa1_0 :: []) 33), (1, .cel b1 (xa2_0 :: []) 33), (2, .cel b2 (xa3_0 :: []) 33), (3, .cel b3 ((.int .i64 0) :: (.string (mk ([] : Bs))) :: []) 35), (4, .cel b4 ((.int .i64 t1.1) :: (.string (mk t1.2.1)) :: []) 35)] H w ∧ ScR H pa0 a0 ∧ VR H xa1_0 a1_0 ∧ VR H xa2_0 a2_0 ∧ VR H xa3_0 a3_0 ∧ Sl cStr H aa4 ca4 a4 ∧ (m18_j1 a0 a2_0 a3_0) = some r) (fun a w hj => ?_) ?_
      · obtain ⟨l, H, rfl, hL, ha0, ha1_0, ha2_0, ha3_0, ha4, hm⟩ := hj
        unfold m18_j1 at hm
        refine wp_seq <| sr <| sv (r_move rfl) <| sv (r_loadk (hL.own 1 _ rfl) ag_33 rfl (vs := [_]) rfl rfl) <| sv (r_loadk (hL.own 2 _ rfl) ag_33 rfl (vs := [_]) rfl rfl) ?_
        obtain ⟨t3, ht3, hm⟩ := bnd hm
        refine wl rfl (o_call0 hL fn_17 rfl (c17 hL.imm ha0 ha2_0 ha3_0 ht3) fun v H w hlet3 hL hR => ?_)
        replace ha0 := ScR.mono hlet3 ha0
        replace ha1_0 := VR.mono hlet3 ha1_0
        replace ha2_0 := VR.mono hlet3 ha2_0
        replace ha3_0 := VR.mono hlet3 ha3_0
        replace ha4 := Sl.mono hlet3 ha4
        obtain ⟨at3r0_0, ct3r0_0, rfl, ht3r0_0⟩ := hR
        refine sv (r_lenS rfl Tryz.underlying30 rfl) <| sv (r_move rfl) <| wt <| wp_block <| wp_loop_fuel (k := FUEL) (fun k a w => ∃  (l : List (Nat × Value)) (H : Hp), a = fr 91 ([(4, .slice aa4 (List.length a4) ca4), (10, .pointer (some ⟨b3, 0, none⟩)), (77, .slice at3r0_0 (List.length t3) ct3r0_0), (78, .int .i64 (t3.length : Int)), (79, .int .i64 0)] ++ l) [] ∧ L [] H0 w0 [(0, .cel b0 (xa1_0 :: []) 33), (1, .cel b1 (xa2_0 :: []) 33), (2, .cel b2 (xa3_0 :: []) 33), (3, .cel b3 ((.int .i64 0) :: (.string (mk ([] : Bs))) :: []) 35), (4, .cel b4 ((.int .i64 t1.1) :: (.string (mk t1.2.1)) :: []) 35)] H w ∧ VR H xa1_0 a1_0 ∧ VR H xa2_0 a2_0 ∧ VR H xa3_0 a3_0 ∧ Sl cStr H aa4 ca4 a4 ∧ Sl cStr H at3r0_0 ct3r0_0 t3 ∧ (m18_l2 t3 k ) = some r) ⟨_, _, fr_pre _ rfl, hL.pick _ rfl, ha1_0, ha2_0, ha3_0, ha4, ht3r0_0, hm⟩ ?_
        rintro k2 a w ⟨l, H, rfl, hL, ha1_0, ha2_0, ha3_0, ha4, ht3r0_0, hm⟩
        cases k2 with
        | zero => rw [m18_l2.eq_1] at hm; cases hm
        | succ k2 =>
          rw [m18_l2.eq_2] at hm
          refine sr <| sv (r_lss rfl rfl) <| wt <| wp_seq ?_
          refine c_if hm rfl (fun hg4 hm => ?_) (fun hg4 hm => ?_)
          · cases hm
          · refine wp_exit <| then_e <| then_e <| blk_e <| then_n <| sr <| sv (r_build ze_35 st_35 rfl .nil (cs := [_, _]) rfl) ?_
            refine wl rfl (o_storek (i := 3) (vs := [_, _]) hL ag_35 rfl rfl rfl rfl (Nat.le_of_ble_eq_true rfl) (List.forall_mem_cons.2 ⟨rfl, (List.forall_mem_cons.2 ⟨rfl, List.forall_mem_nil _⟩)⟩) (c' := _ :: _ :: []) rfl fun w hL => ?_)
            refine wt <| wp_ret ?_
            obtain rfl := ends hm
            exact rt rfl (.agg (hL.own 3 _ rfl) ag_35 rfl (us := [_, _]) rfl rfl .nil) ⟨_, _, rfl, hL.ext, rfl⟩
      · refine sr <| sv (r_move rfl) <| sv (r_lenS rfl Tryz.underlying30 rfl) <| sv (r_move rfl) <| wt <| wp_block <| wp_loop_fuel (k := FUEL) (fun k a w => ∃  (l : List (Nat × Value)) (H : Hp), a = fr 91 ([(0, pa0), (4, .slice aa4 (List.length a4) ca4), (7, .pointer (some ⟨b1, 0, none⟩)), (8, .pointer (some ⟨b2, 0, none⟩)), (10, .pointer (some ⟨b3, 0, none⟩)), (50, .slice aa4 (List.length a4) ca4), (51, .int .i64 (a4.length : Int)), (52, .int .i64 0)] ++ l) [] ∧ L [] H0 w0 [(0, .cel b0 (xa1_0 :: []) 33), (1, .cel b1 (xa2_0 :: []) 33), (2, .cel b2 (xa3_0 :: []) 33), (3, .cel b3 ((.int .i64 0) :: (.string (mk ([] : Bs))) :: []) 35), (4, .cel b4 ((.int .i64 t1.1) :: (.string (mk t1.2.1)) :: []) 35)] H w ∧ ScR H pa0 a0 ∧ VR H xa1_0 a1_0 ∧ VR H xa2_0 a2_0 ∧ VR H xa3_0 a3_0 ∧ Sl cStr H aa4 ca4 a4 ∧ (m18_l3 a0 a2_0 a3_0 a4 k ) = some r) ⟨_, _, fr_pre _ rfl, hL.pick _ rfl, ha0, ha1_0, ha2_0, ha3_0, ha4, hm⟩ ?_
        rintro k3 a w ⟨l, H, rfl, hL, ha0, ha1_0, ha2_0, ha3_0, ha4, hm⟩
        cases k3 with
        | zero => rw [m18_l3.eq_1] at hm; cases hm
        | succ k3 =>
          rw [m18_l3.eq_2] at hm
          refine sr <| sv (r_lss rfl rfl) <| wt <| wp_seq ?_
          refine c_if hm rfl (fun hg5 hm => ?_) (fun hg5 hm => ?_)
          · cases hm
          · refine wp_exit <| then_e <| then_e <| blk_e <| then_n ?_
            exact ⟨_, _, fr_pre _ rfl, hL.pick _ rfl, ha0, ha1_0, ha2_0, ha3_0, ha4, hm⟩
    · refine sr <| sv (r_move rfl) ?_
      obtain ⟨t6, ht6, hm⟩ := bnd hm
      refine wl rfl (o_call0 hL fn_94 rfl (c94 hL.imm ha0 ht6) fun v H w hlet6 hL hR => ?_)
      replace ha0 := ScR.mono hlet6 ha0
      replace ha1_0 := VR.mono hlet6 ha1_0
      replace ha2_0 := VR.mono hlet6 ha2_0
      replace ha3_0 := VR.mono hlet6 ha3_0
      replace ha4 := Sl.mono hlet6 ha4
      obtain ⟨at6r0_0, ct6r0_0, rfl, ht6r0_0⟩ := hR
      refine sv (r_lenS rfl Tryz.underlying152 rfl) <| sv (r_move rfl) <| wt <| wp_block <| wp_loop_fuel (k := FUEL) (fun k a w => ∃ (v35_5 : Int) (l : List (Nat × Value)) (H : Hp), a = fr 91 ([(0, pa0), (4, .slice aa4 (List.length a4) ca4), (6, .pointer (some ⟨b0, 0, none⟩)), (7, .pointer (some ⟨b1, 0, none⟩)), (8, .pointer (some ⟨b2, 0, none⟩)), (10, .pointer (some ⟨b3, 0, none⟩)), (33, .slice at6r0_0 (List.length t6) ct6r0_0), (34, .int .i64 (t6.length : Int)), (35, .int .i64 v35_5)] ++ l) [] ∧ L [] H0 w0 [(0, .cel b0 (xa1_0 :: []) 33), (1, .cel b1 (xa2_0 :: []) 33), (2, .cel b2 (xa3_0 :: []) 33), (3, .cel b3 ((.int .i64 0) :: (.string (mk ([] : Bs))) :: []) 35), (4, .cel b4 ((.int .i64 t1.1) :: (.string (mk t1.2.1)) :: []) 35)] H w ∧ ScR H pa0 a0 ∧ VR H xa1_0 a1_0 ∧ VR H xa2_0 a2_0 ∧ VR H xa3_0 a3_0 ∧ Sl cStr H aa4 ca4 a4 ∧ Sl cAt H at6r0_0 ct6r0_0 t6 ∧ (m18_l4 a0 a1_0 a2_0 a3_0 a4 t6 k v35_5) = some r) ⟨_, _, _, fr_pre _ rfl, hL.pick _ rfl, ha0, ha1_0, ha2_0, ha3_0, ha4, ht6r0_0, hm⟩ ?_
      rintro k4 a w ⟨v35_5, l, H, rfl, hL, ha0, ha1_0, ha2_0, ha3_0, ha4, ht6r0_0, hm⟩
      cases k4 with
      | zero => rw [m18_l4.eq_1] at hm; cases hm
      | succ k4 =>
        rw [m18_l4.eq_2] at hm
        refine sr <| sv (r_lss rfl rfl) <| wt <| wp_seq ?_
        refine c_if hm rfl (fun hg7 hm => ?_) (fun hg7 hm => ?_)
        · refine wp_skip <| then_n <| wp_seq <| wp_block <| sr ?_
          obtain ⟨hg9, hm⟩ := grd hm
          obtain ⟨be8, oe8, _, hae8, hce8, ⟨pe81, rfl, he81⟩⟩ := Sl.at ht6r0_0 default hg9
          refine sv (r_indexAddr el_152 hg9 hae8 rfl rfl) <| sv (r_loadHk hL.imm ag_41 rfl (vs := [_, _, _, _, _, _]) hce8 rfl) ?_
          refine wl rfl (o_alloc 5 (c := [_, _, _, _, _, _]) hL ze_41 rfl fun b5 w hL => ?_)
          refine wl rfl (o_storek (i := 5) (vs := [_, _, _, _, _, _]) hL ag_41 rfl rfl rfl rfl (Nat.le_of_ble_eq_true rfl) (List.forall_mem_cons.2 ⟨rfl, (List.forall_mem_cons.2 ⟨(TyR.one he81), (List.forall_mem_cons.2 ⟨rfl, (List.forall_mem_cons.2 ⟨rfl, (List.forall_mem_cons.2 ⟨rfl, (List.forall_mem_cons.2 ⟨rfl, List.forall_mem_nil _⟩)⟩)⟩)⟩)⟩)⟩) (c' := _ :: _ :: _ :: _ :: _ :: _ :: []) rfl fun w hL => ?_)
          refine wt <| sr <| sv (r_loadk (hL.own 5 _ rfl) ag_41 rfl (vs := [_, _, _, _, _, _]) rfl rfl) <| sv (r_loadk (hL.own 0 _ rfl) ag_33 rfl (vs := [_]) rfl rfl) <| sv (r_loadk (hL.own 2 _ rfl) ag_33 rfl (vs := [_]) rfl rfl) ?_
          obtain ⟨t10, ht10, hm⟩ := bnd hm
          refine wl rfl (o_call0 hL fn_97 rfl (c97 hL.imm he81 ha1_0 ha3_0 ht10) fun v H w hlet10 hL hR => ?_)
          replace ha0 := ScR.mono hlet10 ha0
          replace ha1_0 := VR.mono hlet10 ha1_0
          replace ha2_0 := VR.mono hlet10 ha2_0
          replace ha3_0 := VR.mono hlet10 ha3_0
          replace ha4 := Sl.mono hlet10 ha4
          replace ht6r0_0 := Sl.mono hlet10 ht6r0_0
          obtain rfl := hR
          refine sv (r_move rfl) <| sv (r_extract rfl rfl) <| sv (r_extract rfl rfl) ?_
          refine wl rfl (o_alloc 6 (c := [_, _]) hL ze_35 rfl fun b6 w hL => ?_)
          refine wl rfl (o_storek (i := 6) (vs := [_, _]) hL ag_35 rfl rfl rfl rfl (Nat.le_of_ble_eq_true rfl) (List.forall_mem_cons.2 ⟨rfl, (List.forall_mem_cons.2 ⟨rfl, List.forall_mem_nil _⟩)⟩) (c' := _ :: _ :: []) rfl fun w hL => ?_)
          refine sv (r_assign rfl) <| wt <| sr <| sv (r_move rfl) <| sv (r_not rfl) <| wt ?_
          refine c_if hm rfl (fun hg11 hm => ?_) (fun hg11 hm => ?_)
          · cases hm
          · refine wp_skip <| blk_n <| then_n <| rg <| sv (r_add rfl rfl) <| sv (r_move rfl) <| wt ?_
            exact ⟨k4, Nat.lt_succ_self k4, _, _, _, fr_pre _ rfl, hL.pick _ rfl, ha0, ha1_0, ha2_0, ha3_0, ha4, ht6r0_0, hm⟩
        · refine wp_exit <| then_e <| then_e <| blk_e <| then_n ?_
          exact ⟨_, _, fr_pre _ rfl, hL.pick _ rfl, ha0, ha1_0, ha2_0, ha3_0, ha4, hm⟩

/-- (*schema.Schema).Fits -/
def m60_l0 (a0 : Sch) (a1_0 : J) : Nat → Int → Option (Bs × Int)
  | 0, _ => none
  | k + 1, v27_1 => (bif (decide (v27_1 < (a0.lst.length : Int))) then (bif (decide (0 ≤ v27_1 ∧ v27_1 < (a0.lst.length : Int))) then ((m124 a1_0 ((a0.lst.getD (v27_1).toNat default).name)).bind fun t8 => (bif (a0.lst.getD (v27_1).toNat default).must then ((m21 t8.1).bind fun t10 => (bif (t10 == (0 : Int)) then none else (m60_l0 a0 a1_0 k (IntKind.wrap .i64 (v27_1 + (1 : Int)))))) else (m60_l0 a0 a1_0 k (IntKind.wrap .i64 (v27_1 + (1 : Int)))))) else none) else (some (([] : Bs), (0 : Int))))
def m60 (a0 : Sch) (a1_0 : J) : Option (Bs × Int) :=
  ((m127 a0 a1_0).bind fun t1 => (bif (t1.2 != (0 : Int)) then none else (bif (!a0.isNo) then (m60_l0 a0 a1_0 FUEL (0 : Int)) else none)))
set_option maxHeartbeats 20000000 in
set_option maxRecDepth 100000 in
theorem c60 : ∀ {H0 : Hp} {w0 : World} {a0 : Sch} {a1_0 : J} {pa0 : Value} {xa1_0 : Value}  (_ : Imm H0 w0) (_ : ScR H0 pa0 a0) (_ : VR H0 xa1_0 a1_0) {r : (Bs × Int)} (_ : m60 a0 a1_0 = some r), Ct Tryz.prog 60 [pa0, .agg (List.toArray [xa1_0])] [] H0 w0 fun v H' w' => v = .tuple (List.toArray [.string (mk r.1), .int .i64 r.2]) := by
  intro H0 w0 a0 a1_0 pa0 xa1_0  hI ha0 ha1_0 r hm
  have hL := L.start hI
  refine ct_of Tryz.func60 rfl Tryz.ntmps60 rfl (Nat.le_of_ble_eq_true rfl) ?_
  unfold m60 at hm
  refine sr ?_
  refine wl rfl (o_box 0 (c := [_]) hL rfl rfl fun b0 w hL => ?_)
  refine sv (r_assign rfl) <| sv (r_assign rfl) <| wt <| wp_seq <| sr <| sv (r_move rfl) <| sv (r_loadk (hL.own 0 _ rfl) ag_33 rfl (vs := [_]) rfl rfl) ?_
  obtain ⟨t1, ht1, hm⟩ := bnd hm
  refine wl rfl (o_call0 hL fn_127 rfl (c127 hL.imm ha0 ha1_0 ht1) fun v H w hlet1 hL hR => ?_)
  replace ha0 := ScR.mono hlet1 ha0
  replace ha1_0 := VR.mono hlet1 ha1_0
  obtain rfl := hR
  refine sv (r_move rfl) <| sv (r_extract rfl rfl) <| sv (r_extract rfl rfl) <| sv (r_assign rfl) <| sv (r_assign rfl) <| wt <| sr <| sv (r_move rfl) <| sv (r_nei rfl rfl) <| wt ?_
  refine c_if hm rfl (fun hg2 hm => ?_) (fun hg2 hm => ?_)
  · cases hm
  · refine wp_skip <| then_n <| wp_seq <| sr <| sv (r_move rfl) ?_
    obtain ⟨hg3, hm⟩ := grd hm
    obtain ⟨bp4, aap4, cap4, bmp4, emp4, kmp4, hvp4, hcp4, hsap4, hMp4, hTp4⟩ := ScR.get ha0 hg3
    refine sv (r_nilCheck (ev_eq rfl hvp4)) <| sv (r_fieldAddr fl_155_1 rfl) <| sv (r_loadH1 hL.imm sc_152 rfl (HC.sub hcp4 1 1 (us := [_]) rfl)) <| sv (r_lenS rfl Tryz.underlying152 rfl) <| sv (r_move rfl) <| wt <| wp_block <| wp_loop_fuel (k := FUEL) (fun k a w => ∃ (v27_1 : Int) (l : List (Nat × Value)) (H : Hp), a = fr 48 ([(3, .pointer (some ⟨b0, 0, none⟩)), (4, .string (mk ([] : Bs))), (5, .int .i64 0), (25, .slice aap4 (List.length a0.lst) cap4), (26, .int .i64 (a0.lst.length : Int)), (27, .int .i64 v27_1)] ++ l) [] ∧ L [] H0 w0 [(0, .cel b0 (xa1_0 :: []) 33)] H w ∧ VR H xa1_0 a1_0 ∧ Sl cAt H aap4 cap4 a0.lst ∧ (m60_l0 a0 a1_0 k v27_1) = some r) ⟨_, _, _, fr_pre _ rfl, hL.pick _ rfl, ha1_0, hsap4, hm⟩ ?_
    rintro k0 a w ⟨v27_1, l, H, rfl, hL, ha1_0, hsap4, hm⟩
    cases k0 with
    | zero => rw [m60_l0.eq_1] at hm; cases hm
    | succ k0 =>
      rw [m60_l0.eq_2] at hm
      refine sr <| sv (r_lss rfl rfl) <| wt <| wp_seq ?_
      refine c_if hm rfl (fun hg5 hm => ?_) (fun hg5 hm => ?_)
      · refine wp_skip <| then_n <| wp_seq <| wp_block <| sr ?_
        obtain ⟨hg7, hm⟩ := grd hm
        obtain ⟨be6, oe6, _, hae6, hce6, ⟨pe61, rfl, he61⟩⟩ := Sl.at hsap4 default hg7
        refine sv (r_indexAddr el_152 hg7 hae6 rfl rfl) <| sv (r_loadHk hL.imm ag_41 rfl (vs := [_, _, _, _, _, _]) hce6 rfl) ?_
        refine wl rfl (o_alloc 1 (c := [_, _, _, _, _, _]) hL ze_41 rfl fun b1 w hL => ?_)
        refine wl rfl (o_storek (i := 1) (vs := [_, _, _, _, _, _]) hL ag_41 rfl rfl rfl rfl (Nat.le_of_ble_eq_true rfl) (List.forall_mem_cons.2 ⟨rfl, (List.forall_mem_cons.2 ⟨(TyR.one he61), (List.forall_mem_cons.2 ⟨rfl, (List.forall_mem_cons.2 ⟨rfl, (List.forall_mem_cons.2 ⟨rfl, (List.forall_mem_cons.2 ⟨rfl, List.forall_mem_nil _⟩)⟩)⟩)⟩)⟩)⟩) (c' := _ :: _ :: _ :: _ :: _ :: _ :: []) rfl fun w hL => ?_)
        refine wt <| sr <| sv (r_loadk (hL.own 0 _ rfl) ag_33 rfl (vs := [_]) rfl rfl) <| sv (r_fieldAddr fl_41_0 rfl) <| sv (r_load1 (hL.own 1 _ rfl) sc_9 rfl rfl) ?_
        obtain ⟨t8, ht8, hm⟩ := bnd hm
        refine wl rfl (o_call0 hL fn_124 rfl (c124 hL.imm ha1_0 ht8) fun v H w hlet8 hL hR => ?_)
        replace ha1_0 := VR.mono hlet8 ha1_0
        replace hsap4 := Sl.mono hlet8 hsap4
        obtain ⟨xt8r0_0, rfl, ht8r0_0⟩ := hR
        refine sv (r_move rfl) <| sv (r_extract rfl rfl) <| sv (r_extract rfl rfl) ?_
        refine wl rfl (o_alloc 2 (c := [_]) hL ze_33 rfl fun b2 w hL => ?_)
        refine wl rfl (o_storek (i := 2) (vs := [_]) hL ag_33 rfl rfl rfl rfl (Nat.le_of_ble_eq_true rfl) (List.forall_mem_cons.2 ⟨(VR.one ht8r0_0), List.forall_mem_nil _⟩) (c' := _ :: []) rfl fun w hL => ?_)
        refine sv (r_assign rfl) <| wt <| sr <| sv (r_fieldAddr fl_41_2 rfl) <| sv (r_load1 (hL.own 1 _ rfl) sc_4 rfl rfl) <| sv (r_move rfl) ?_
        refine m_if hm (fun hg9 hm => ?_) (fun hg9 hm => ?_)
        · refine wlT rfl rfl rfl rfl hg9 (o_val (r_loadk (hL.own 2 _ rfl) ag_33 rfl (vs := [_]) rfl rfl) ?_)
          obtain ⟨t10, ht10, hm⟩ := bnd hm
          refine wlT rfl rfl rfl rfl hg9 (o_call0 hL fn_21 rfl (c21 hL.imm ht8r0_0 ht10) fun v H w hlet10 hL hR => ?_)
          replace ha1_0 := VR.mono hlet10 ha1_0
          replace hsap4 := Sl.mono hlet10 hsap4
          obtain rfl := hR
          refine wlT rfl rfl rfl rfl hg9 (o_val (r_eqi rfl rfl) ?_)
          refine sv (r_pickT hg9 rfl rfl) <| wt ?_
          refine c_if hm rfl (fun hg11 hm => ?_) (fun hg11 hm => ?_)
          · cases hm
          · refine wp_skip <| blk_n <| then_n <| rg <| sv (r_add rfl rfl) <| sv (r_move rfl) <| wt ?_
            exact ⟨k0, Nat.lt_succ_self k0, _, _, _, fr_pre _ rfl, hL.pick _ rfl, ha1_0, hsap4, hm⟩
        · refine wlF rfl rfl rfl rfl hg9 rfl <| wlF rfl rfl rfl rfl hg9 rfl <| wlF rfl rfl rfl rfl hg9 rfl <| sv (r_pickF hg9 rfl rfl) <| wt <| c_F rfl rfl <| wp_skip <| blk_n <| then_n <| rg <| sv (r_add rfl rfl) <| sv (r_move rfl) <| wt ?_
          exact ⟨k0, Nat.lt_succ_self k0, _, _, _, fr_pre _ rfl, hL.pick _ rfl, ha1_0, hsap4, hm⟩
      · refine wp_exit <| then_e <| then_e <| blk_e <| then_n <| sr <| sv (r_assign rfl) <| sv (r_assign rfl) <| wt <| wp_ret ?_
        obtain rfl := ends hm
        exact rt rfl (.tmp rfl (.tmp rfl .nil)) ⟨_, _, rfl, hL.ext, rfl⟩

/-- (*schema.Schema).Fill -/
def m59_j0 (u2R_1 : List Bs) (u3R_1 : List J) : Option (J × Int) := ((m126 u2R_1 u3R_1).bind fun t5 => (some (t5.1, t5.2)))
def m59_j2 (nx1 : Int → List Bs → List J → Option (J × Int)) (a0 : Sch) (v29_2 : Int) (u2R_2 : List Bs) (u3R_2 : List J) (v46_3 : Bool) (u5_0_3 : J) : Option (J × Int) := (bif (decide (u2R_2.length + ([((a0.lst.getD (v29_2).toNat default).name)] : List Bs).length ≤ LIM)) then (bif (decide (u3R_2.length + ([u5_0_3] : List J).length ≤ LIM)) then (nx1 (IntKind.wrap .i64 (v29_2 + (1 : Int))) (u2R_2 ++ ([((a0.lst.getD (v29_2).toNat default).name)] : List Bs)) (u3R_2 ++ ([u5_0_3] : List J))) else none) else none)
def m59_l1 (a0 : Sch) (a1_0 : J) : Nat → Int → List Bs → List J → Option (J × Int)
  | 0, _, _, _ => none
  | k + 1, v29_2, u2R_2, u3R_2 => (bif (decide (v29_2 < (a0.lst.length : Int))) then (bif (decide (0 ≤ v29_2 ∧ v29_2 < (a0.lst.length : Int))) then ((m124 a1_0 ((a0.lst.getD (v29_2).toNat default).name)).bind fun t11 => (bif (a0.lst.getD (v29_2).toNat default).own then ((m21 t11.1).bind fun t19 => (bif (t19 == (0 : Int)) then (m125.bind fun t21 => (m59_j2 (m59_l1 a0 a1_0 k) a0 v29_2 u2R_2 u3R_2 (t19 == (0 : Int)) t21)) else none)) else (m59_j2 (m59_l1 a0 a1_0 k) a0 v29_2 u2R_2 u3R_2 false t11.1))) else none) else (m59_j0 u2R_2 u3R_2))
def m59 (a0 : Sch) (a1_0 : J) : Option (J × Int) :=
  ((m60 a0 a1_0).bind fun t1 => (bif (t1.2 != (0 : Int)) then none else (bif (!a0.isNo) then (m59_l1 a0 a1_0 FUEL (0 : Int) ([] : List Bs) ([] : List J)) else none)))
set_option maxHeartbeats 20000000 in
set_option maxRecDepth 100000 in
theorem c59 : ∀ {H0 : Hp} {w0 : World} {a0 : Sch} {a1_0 : J} {pa0 : Value} {xa1_0 : Value}  (_ : Imm H0 w0) (_ : ScR H0 pa0 a0) (_ : VR H0 xa1_0 a1_0) {r : (J × Int)} (_ : m59 a0 a1_0 = some r), Ct Tryz.prog 59 [pa0, .agg (List.toArray [xa1_0])] [] H0 w0 fun v H' w' => ∃ (xr0_0 : Value), v = .tuple (List.toArray [.agg (List.toArray [xr0_0]), .int .i64 r.2]) ∧ VR H' xr0_0 r.1 := by
  intro H0 w0 a0 a1_0 pa0 xa1_0  hI ha0 ha1_0 r hm
  have hL := L.start hI
  refine ct_of Tryz.func59 rfl Tryz.ntmps59 rfl (Nat.le_of_ble_eq_true rfl) ?_
  unfold m59 at hm
  refine sr ?_
  refine wl rfl (o_box 0 (c := [_]) hL rfl rfl fun b0 w hL => ?_)
  refine wl rfl (o_alloc 1 (c := [_]) hL ze_33 rfl fun b1 w hL => ?_)
  refine sv (r_assign rfl) <| wt <| wp_seq <| sr <| sv (r_move rfl) <| sv (r_loadk (hL.own 0 _ rfl) ag_33 rfl (vs := [_]) rfl rfl) ?_
  obtain ⟨t1, ht1, hm⟩ := bnd hm
  refine wl rfl (o_call0 hL fn_60 rfl (c60 hL.imm ha0 ha1_0 ht1) fun v H w hlet1 hL hR => ?_)
  replace ha0 := ScR.mono hlet1 ha0
  replace ha1_0 := VR.mono hlet1 ha1_0
  obtain rfl := hR
  refine sv (r_move rfl) <| sv (r_extract rfl rfl) <| sv (r_extract rfl rfl) <| sv (r_assign rfl) <| sv (r_assign rfl) <| wt <| sr <| sv (r_move rfl) <| sv (r_nei rfl rfl) <| wt ?_
  refine c_if hm rfl (fun hg2 hm => ?_) (fun hg2 hm => ?_)
  · cases hm
  · refine wp_skip <| then_n <| sr <| sv (r_assign rfl) <| wt <| sr <| sv (r_assign rfl) <| wt ?_
    refine w_join (fun a w => ∃ (u2R_1 : List Bs) (u3R_1 : List J) (au2R_1 : Option Addr) (cu2R_1 : Nat) (zu2R_1 : List Value) (au3R_1 : Option Addr) (cu3R_1 : Nat) (zu3R_1 : List Value) (l : List (Nat × Value)) (H : Hp), a = fr 63 ([(4, .pointer (some ⟨b1, 0, none⟩)), (5, .int .i64 0), (8, .slice au2R_1 (List.length u2R_1) cu2R_1), (9, .slice au3R_1 (List.length u3R_1) cu3R_1)] ++ l) [] ∧ L [] H0 w0 [(0, .cel b0 (xa1_0 :: []) 33), (1, .cel b1 (.nilIface :: []) 33), (2, .row (.slice au2R_1 (List.length u2R_1) cu2R_1) 9 1 (List.length u2R_1) zu2R_1), (3, .row (.slice au3R_1 (List.length u3R_1) cu3R_1) 33 1 (List.length u3R_1) zu3R_1)] H w ∧ VR H xa1_0 a1_0 ∧ LC cStr H zu2R_1 u2R_1 ∧ LC cJ H zu3R_1 u3R_1 ∧ (m59_j0 u2R_1 u3R_1) = some r) (fun a w hj => ?_) ?_
    · obtain ⟨u2R_1, u3R_1, au2R_1, cu2R_1, zu2R_1, au3R_1, cu3R_1, zu3R_1, l, H, rfl, hL, ha1_0, hu2R_1, hu3R_1, hm⟩ := hj
      unfold m59_j0 at hm
      refine sr <| sv (r_move rfl) <| sv (r_move rfl) ?_
      obtain ⟨H, hlez3, hL, hsz3⟩ := hL.settle (i := 2) (K := cStr) rfl hu2R_1
      replace ha1_0 := VR.mono hlez3 ha1_0
      replace hu3R_1 := LC.mono hlez3 hu3R_1
      obtain ⟨H, hlez4, hL, hsz4⟩ := hL.settle (i := 3) (K := cJ) rfl hu3R_1
      replace ha1_0 := VR.mono hlez4 ha1_0
      replace hsz3 := Sl.mono hlez4 hsz3
      obtain ⟨t5, ht5, hm⟩ := bnd hm
      refine wl rfl (o_call0 hL fn_126 rfl (c126 hL.imm hsz3 hsz4 ht5) fun v H w hlet5 hL hR => ?_)
      replace ha1_0 := VR.mono hlet5 ha1_0
      obtain ⟨xt5r0_0, rfl, ht5r0_0⟩ := hR
      refine sv (r_extract rfl rfl) <| sv (r_extract rfl rfl) ?_
      refine wl rfl (o_storek (i := 1) (vs := [_]) hL ag_33 rfl rfl rfl rfl (Nat.le_of_ble_eq_true rfl) (List.forall_mem_cons.2 ⟨(VR.one ht5r0_0), List.forall_mem_nil _⟩) (c' := _ :: []) rfl fun w hL => ?_)
      refine sv (r_assign rfl) <| wt <| wp_ret ?_
      obtain rfl := ends hm
      exact rt rfl (.agg (hL.own 1 _ rfl) ag_33 rfl (us := [_]) rfl rfl (.tmp rfl .nil)) ⟨_, _, rfl, hL.ext, ⟨_, rfl, ht5r0_0⟩⟩
    · refine sr <| sv (r_move rfl) ?_
      obtain ⟨hg6, hm⟩ := grd hm
      obtain ⟨bp7, aap7, cap7, bmp7, emp7, kmp7, hvp7, hcp7, hsap7, hMp7, hTp7⟩ := ScR.get ha0 hg6
      refine sv (r_nilCheck (ev_eq rfl hvp7)) <| sv (r_fieldAddr fl_155_1 rfl) <| sv (r_loadH1 hL.imm sc_152 rfl (HC.sub hcp7 1 1 (us := [_]) rfl)) <| sv (r_lenS rfl Tryz.underlying152 rfl) <| sv (r_move rfl) <| wt <| wp_block ?_
      have hL := hL.addNil 2 9 1
      have hL := hL.addNil 3 33 1
      refine wp_loop_fuel (k := FUEL) (fun k a w => ∃ (v29_2 : Int) (u2R_2 : List Bs) (u3R_2 : List J) (au2R_2 : Option Addr) (cu2R_2 : Nat) (zu2R_2 : List Value) (au3R_2 : Option Addr) (cu3R_2 : Nat) (zu3R_2 : List Value) (l : List (Nat × Value)) (H : Hp), a = fr 63 ([(3, .pointer (some ⟨b0, 0, none⟩)), (4, .pointer (some ⟨b1, 0, none⟩)), (5, .int .i64 0), (8, .slice au2R_2 (List.length u2R_2) cu2R_2), (9, .slice au3R_2 (List.length u3R_2) cu3R_2), (27, .slice aap7 (List.length a0.lst) cap7), (28, .int .i64 (a0.lst.length : Int)), (29, .int .i64 v29_2)] ++ l) [] ∧ L [] H0 w0 [(0, .cel b0 (xa1_0 :: []) 33), (1, .cel b1 (.nilIface :: []) 33), (2, .row (.slice au2R_2 (List.length u2R_2) cu2R_2) 9 1 (List.length u2R_2) zu2R_2), (3, .row (.slice au3R_2 (List.length u3R_2) cu3R_2) 33 1 (List.length u3R_2) zu3R_2)] H w ∧ VR H xa1_0 a1_0 ∧ Sl cAt H aap7 cap7 a0.lst ∧ LC cStr H zu2R_2 u2R_2 ∧ LC cJ H zu3R_2 u3R_2 ∧ (m59_l1 a0 a1_0 k v29_2 u2R_2 u3R_2) = some r) ⟨_, _, _, _, _, _, _, _, _, _, _, fr_pre _ rfl, hL.pick _ rfl, ha1_0, hsap7, LC.nil, LC.nil, hm⟩ ?_
      rintro k1 a w ⟨v29_2, u2R_2, u3R_2, au2R_2, cu2R_2, zu2R_2, au3R_2, cu3R_2, zu3R_2, l, H, rfl, hL, ha1_0, hsap7, hu2R_2, hu3R_2, hm⟩
      cases k1 with
      | zero => rw [m59_l1.eq_1] at hm; cases hm
      | succ k1 =>
        rw [m59_l1.eq_2] at hm
        refine sr <| sv (r_lss rfl rfl) <| wt <| wp_seq ?_
        refine c_if hm rfl (fun hg8 hm => ?_) (fun hg8 hm => ?_)
        · refine wp_skip <| then_n <| wp_seq <| wp_block <| sr ?_
          obtain ⟨hg10, hm⟩ := grd hm
          obtain ⟨be9, oe9, _, hae9, hce9, ⟨pe91, rfl, he91⟩⟩ := Sl.at hsap7 default hg10
          refine sv (r_indexAddr el_152 hg10 hae9 rfl rfl) <| sv (r_loadHk hL.imm ag_41 rfl (vs := [_, _, _, _, _, _]) hce9 rfl) ?_
          refine wl rfl (o_alloc 4 (c := [_, _, _, _, _, _]) hL ze_41 rfl fun b4 w hL => ?_)
          refine wl rfl (o_storek (i := 4) (vs := [_, _, _, _, _, _]) hL ag_41 rfl rfl rfl rfl (Nat.le_of_ble_eq_true rfl) (List.forall_mem_cons.2 ⟨rfl, (List.forall_mem_cons.2 ⟨(TyR.one he91), (List.forall_mem_cons.2 ⟨rfl, (List.forall_mem_cons.2 ⟨rfl, (List.forall_mem_cons.2 ⟨rfl, (List.forall_mem_cons.2 ⟨rfl, List.forall_mem_nil _⟩)⟩)⟩)⟩)⟩)⟩) (c' := _ :: _ :: _ :: _ :: _ :: _ :: []) rfl fun w hL => ?_)
          refine wt <| sr <| sv (r_loadk (hL.own 0 _ rfl) ag_33 rfl (vs := [_]) rfl rfl) <| sv (r_fieldAddr fl_41_0 rfl) <| sv (r_load1 (hL.own 4 _ rfl) sc_9 rfl rfl) ?_
          obtain ⟨t11, ht11, hm⟩ := bnd hm
          refine wl rfl (o_call0 hL fn_124 rfl (c124 hL.imm ha1_0 ht11) fun v H w hlet11 hL hR => ?_)
          replace ha1_0 := VR.mono hlet11 ha1_0
          replace hsap7 := Sl.mono hlet11 hsap7
          replace hu2R_2 := LC.mono hlet11 hu2R_2
          replace hu3R_2 := LC.mono hlet11 hu3R_2
          replace he91 := TyR.mono hlet11 he91
          replace hce9 := HC.mono hlet11 hce9
          obtain ⟨xt11r0_0, rfl, ht11r0_0⟩ := hR
          refine sv (r_move rfl) <| sv (r_extract rfl rfl) <| sv (r_extract rfl rfl) ?_
          refine wl rfl (o_alloc 5 (c := [_]) hL ze_33 rfl fun b5 w hL => ?_)
          refine wl rfl (o_storek (i := 5) (vs := [_]) hL ag_33 rfl rfl rfl rfl (Nat.le_of_ble_eq_true rfl) (List.forall_mem_cons.2 ⟨(VR.one ht11r0_0), List.forall_mem_nil _⟩) (c' := _ :: []) rfl fun w hL => ?_)
          refine sv (r_assign rfl) <| wt ?_
          refine w_join (fun a w => ∃ (v46_3 : Bool) (u5_0_3 : J) (xu5_0_3 : Value) (l : List (Nat × Value)) (H : Hp), a = fr 63 ([(3, .pointer (some ⟨b0, 0, none⟩)), (4, .pointer (some ⟨b1, 0, none⟩)), (5, .int .i64 0), (8, .slice au2R_2 (List.length u2R_2) cu2R_2), (9, .slice au3R_2 (List.length u3R_2) cu3R_2), (11, .pointer (some ⟨b4, 0, none⟩)), (12, .pointer (some ⟨b5, 0, none⟩)), (27, .slice aap7 (List.length a0.lst) cap7), (28, .int .i64 (a0.lst.length : Int)), (29, .int .i64 v29_2), (30, .bool (decide (v29_2 < (a0.lst.length : Int)))), (31, .pointer (some ⟨be9, oe9, none⟩)), (32, .agg (List.toArray [.string (mk ((a0.lst.getD (v29_2).toNat default).name)), pe91, .bool ((a0.lst.getD (v29_2).toNat default).must), .bool ((a0.lst.getD (v29_2).toNat default).own), .bool ((a0.lst.getD (v29_2).toNat default).hide), .bool ((a0.lst.getD (v29_2).toNat default).new)])), (33, .tuple (List.toArray [.agg (List.toArray [xt11r0_0]), .bool t11.2])), (34, .agg (List.toArray [xa1_0])), (35, .pointer (some ⟨b4, 0, none⟩)), (36, .string (mk ((a0.lst.getD (v29_2).toNat default).name))), (37, .tuple (List.toArray [.agg (List.toArray [xt11r0_0]), .bool t11.2])), (38, .agg (List.toArray [xt11r0_0])), (39, .bool t11.2), (40, .pointer (some ⟨b4, 3, none⟩)), (41, .bool ((a0.lst.getD (v29_2).toNat default).own)), (42, .bool ((a0.lst.getD (v29_2).toNat default).own)), (46, .bool v46_3)] ++ l) [] ∧ L [] H0 w0 [(0, .cel b0 (xa1_0 :: []) 33), (1, .cel b1 (.nilIface :: []) 33), (2, .row (.slice au2R_2 (List.length u2R_2) cu2R_2) 9 1 (List.length u2R_2) zu2R_2), (3, .row (.slice au3R_2 (List.length u3R_2) cu3R_2) 33 1 (List.length u3R_2) zu3R_2), (4, .cel b4 ((.string (mk ((a0.lst.getD (v29_2).toNat default).name))) :: pe91 :: (.bool ((a0.lst.getD (v29_2).toNat default).must)) :: (.bool ((a0.lst.getD (v29_2).toNat default).own)) :: (.bool ((a0.lst.getD (v29_2).toNat default).hide)) :: (.bool ((a0.lst.getD (v29_2).toNat default).new)) :: []) 41), (5, .cel b5 (xu5_0_3 :: []) 33)] H w ∧ VR H xa1_0 a1_0 ∧ Sl cAt H aap7 cap7 a0.lst ∧ LC cStr H zu2R_2 u2R_2 ∧ LC cJ H zu3R_2 u3R_2 ∧ TyR H pe91 ((a0.lst.getD (v29_2).toNat default).ty) ∧ HC H be9 oe9 [.string (mk ((a0.lst.getD (v29_2).toNat default).name)), pe91, .bool ((a0.lst.getD (v29_2).toNat default).must), .bool ((a0.lst.getD (v29_2).toNat default).own), .bool ((a0.lst.getD (v29_2).toNat default).hide), .bool ((a0.lst.getD (v29_2).toNat default).new)] ∧ VR H xt11r0_0 t11.1 ∧ VR H xu5_0_3 u5_0_3 ∧ (m59_j2 (m59_l1 a0 a1_0 k1) a0 v29_2 u2R_2 u3R_2 v46_3 u5_0_3) = some r) (fun a w hj => ?_) ?_
          · obtain ⟨v46_3, u5_0_3, xu5_0_3, l, H, rfl, hL, ha1_0, hsap7, hu2R_2, hu3R_2, he91, hce9, ht11r0_0, hu5_0_3, hm⟩ := hj
            unfold m59_j2 at hm
            obtain ⟨hg12, hm⟩ := grd hm
            obtain ⟨hg13, hm⟩ := grd hm
            refine rdO hL [4, 5] [11, 11] [_, _] (.lt 0 [] (.lt 1 [] (.lt 2 [0] (.lt 5 [] (.lt 6 [1] (.two 3 [0, 1] (.two 4 [0, 1] (.hv 7 [0, 1] (.hv 8 [0, 1] (.lt 9 [] (.lt 10 [] .dn)))) 7 [0, 1] (.hv 4 [0, 1] (.hv 8 [0, 1] (.lt 9 [] (.lt 10 [] .dn))))) 7 [0, 1] (.hv 3 [0, 1] (.hv 4 [0, 1] (.hv 8 [0, 1] (.lt 9 [] (.lt 10 [] .dn))))))))))) mixed rfl (by kernel_rfl) fun w hL => ov rfl (fun w hS => r_move rfl) <| ov rfl (fun w hS => r_fieldAddr fl_41_0 rfl) <| ov rfl (fun w hS => r_load1 hS.2.1 sc_9 rfl rfl) <| ov rfl (fun w hS => r_move rfl) <| ov rfl (fun w hS => r_loadk hS.2.1 ag_33 rfl (vs := [_]) rfl rfl) ?_
            refine otw ?_ ?_
            · have hww14 : LC cStr hL.hp [.string (mk ((a0.lst.getD (v29_2).toNat default).name))] ([((a0.lst.getD (v29_2).toNat default).name)] : List Bs) := (LC.cons (K := cStr) (cs := [.string (mk ((a0.lst.getD (v29_2).toNat default).name))]) rfl LC.nil)
              refine oh rfl rfl (o_buildSlice (C := cStr) 6 hL el_30 ze_9 rfl (.cons rfl .nil) rfl rfl rfl rfl hww14 fun gw14 w hL => ⟨Sa.of hL (Hle.refl _) [4, 5] rfl, ?_⟩)
              refine otw ?_ ?_
              · refine oh rfl rfl (o_append (C := cStr) 2 6 hL el_30 rfl rfl rfl rfl hww14 rfl hg12 fun gw15 cw15 w hL => ⟨Sa.of hL (Hle.refl _) [4, 5] rfl, ?_⟩)
                have hww15 := LC.append hu2R_2 hww14
                have hww16 : LC cJ hL.hp [xu5_0_3] ([u5_0_3] : List J) := (LC.cons (K := cJ) (cs := [xu5_0_3]) ⟨_, rfl, hu5_0_3⟩ LC.nil)
                refine oh rfl rfl (o_buildSlice (C := cJ) 7 hL el_23 ze_33 rfl (.cons rfl .nil) rfl rfl rfl rfl hww16 fun gw16 w hL => ⟨Sa.of hL (Hle.refl _) [4, 5] rfl, ?_⟩)
                refine oh rfl rfl (o_append (C := cJ) 3 7 hL el_23 rfl rfl rfl rfl hww16 rfl hg13 fun gw17 cw17 w hL => ⟨Sa.of hL (Hle.refl _) [4, 5] rfl, ?_⟩)
                have hww17 := LC.append hu3R_2 hww16
                refine ov rfl (fun w hS => r_assign rfl) <| ov rfl (fun w hS => r_assign rfl) <| on <| blk_n <| then_n <| rg <| sv (r_add rfl rfl) <| sv (r_move rfl) <| wt ?_
                exact ⟨k1, Nat.lt_succ_self k1, _, _, _, _, _, _, _, _, _, _, _, fr_pre _ rfl, hL.pick _ rfl, ha1_0, hsap7, hww15, hww17, hm⟩
              · have hww15 : LC cJ hL.hp [xu5_0_3] ([u5_0_3] : List J) := (LC.cons (K := cJ) (cs := [xu5_0_3]) ⟨_, rfl, hu5_0_3⟩ LC.nil)
                refine oh rfl rfl (o_buildSlice (C := cJ) 7 hL el_23 ze_33 rfl (.cons rfl .nil) rfl rfl rfl rfl hww15 fun gw15 w hL => ⟨Sa.of hL (Hle.refl _) [4, 5] rfl, ?_⟩)
                refine oh rfl rfl (o_append (C := cStr) 2 6 hL el_30 rfl rfl rfl rfl hww14 rfl hg12 fun gw16 cw16 w hL => ⟨Sa.of hL (Hle.refl _) [4, 5] rfl, ?_⟩)
                have hww16 := LC.append hu2R_2 hww14
                refine oh rfl rfl (o_append (C := cJ) 3 7 hL el_23 rfl rfl rfl rfl hww15 rfl hg13 fun gw17 cw17 w hL => ⟨Sa.of hL (Hle.refl _) [4, 5] rfl, ?_⟩)
                have hww17 := LC.append hu3R_2 hww15
                refine ov rfl (fun w hS => r_assign rfl) <| ov rfl (fun w hS => r_assign rfl) <| on <| blk_n <| then_n <| rg <| sv (r_add rfl rfl) <| sv (r_move rfl) <| wt ?_
                exact ⟨k1, Nat.lt_succ_self k1, _, _, _, _, _, _, _, _, _, _, _, fr_pre _ rfl, hL.pick _ rfl, ha1_0, hsap7, hww16, hww17, hm⟩
            · have hww14 : LC cJ hL.hp [xu5_0_3] ([u5_0_3] : List J) := (LC.cons (K := cJ) (cs := [xu5_0_3]) ⟨_, rfl, hu5_0_3⟩ LC.nil)
              refine oh rfl rfl (o_buildSlice (C := cJ) 6 hL el_23 ze_33 rfl (.cons rfl .nil) rfl rfl rfl rfl hww14 fun gw14 w hL => ⟨Sa.of hL (Hle.refl _) [4, 5] rfl, ?_⟩)
              have hww15 : LC cStr hL.hp [.string (mk ((a0.lst.getD (v29_2).toNat default).name))] ([((a0.lst.getD (v29_2).toNat default).name)] : List Bs) := (LC.cons (K := cStr) (cs := [.string (mk ((a0.lst.getD (v29_2).toNat default).name))]) rfl LC.nil)
              refine oh rfl rfl (o_buildSlice (C := cStr) 7 hL el_30 ze_9 rfl (.cons rfl .nil) rfl rfl rfl rfl hww15 fun gw15 w hL => ⟨Sa.of hL (Hle.refl _) [4, 5] rfl, ?_⟩)
              refine oh rfl rfl (o_append (C := cStr) 2 7 hL el_30 rfl rfl rfl rfl hww15 rfl hg12 fun gw16 cw16 w hL => ⟨Sa.of hL (Hle.refl _) [4, 5] rfl, ?_⟩)
              have hww16 := LC.append hu2R_2 hww15
              refine oh rfl rfl (o_append (C := cJ) 3 6 hL el_23 rfl rfl rfl rfl hww14 rfl hg13 fun gw17 cw17 w hL => ⟨Sa.of hL (Hle.refl _) [4, 5] rfl, ?_⟩)
              have hww17 := LC.append hu3R_2 hww14
              refine ov rfl (fun w hS => r_assign rfl) <| ov rfl (fun w hS => r_assign rfl) <| on <| blk_n <| then_n <| rg <| sv (r_add rfl rfl) <| sv (r_move rfl) <| wt ?_
              exact ⟨k1, Nat.lt_succ_self k1, _, _, _, _, _, _, _, _, _, _, _, fr_pre _ rfl, hL.pick _ rfl, ha1_0, hsap7, hww16, hww17, hm⟩
          · refine sr <| sv (r_fieldAddr fl_41_3 rfl) <| sv (r_load1 (hL.own 4 _ rfl) sc_4 rfl rfl) <| sv (r_move rfl) ?_
            refine m_if hm (fun hg18 hm => ?_) (fun hg18 hm => ?_)
            · refine wlT rfl rfl rfl rfl hg18 (o_val (r_loadk (hL.own 5 _ rfl) ag_33 rfl (vs := [_]) rfl rfl) ?_)
              obtain ⟨t19, ht19, hm⟩ := bnd hm
              refine wlT rfl rfl rfl rfl hg18 (o_call0 hL fn_21 rfl (c21 hL.imm ht11r0_0 ht19) fun v H w hlet19 hL hR => ?_)
              replace ha1_0 := VR.mono hlet19 ha1_0
              replace hsap7 := Sl.mono hlet19 hsap7
              replace hu2R_2 := LC.mono hlet19 hu2R_2
              replace hu3R_2 := LC.mono hlet19 hu3R_2
              replace he91 := TyR.mono hlet19 he91
              replace hce9 := HC.mono hlet19 hce9
              replace ht11r0_0 := VR.mono hlet19 ht11r0_0
              obtain rfl := hR
              refine wlT rfl rfl rfl rfl hg18 (o_val (r_eqi rfl rfl) ?_)
              refine sv (r_pickT hg18 rfl rfl) <| wt ?_
              refine c_if hm rfl (fun hg20 hm => ?_) (fun hg20 hm => ?_)
              · refine rg ?_
                obtain ⟨t21, ht21, hm⟩ := bnd hm
                refine wl rfl (o_call0 hL fn_125 rfl (c125 hL.imm ht21) fun v H w hlet21 hL hR => ?_)
                replace ha1_0 := VR.mono hlet21 ha1_0
                replace hsap7 := Sl.mono hlet21 hsap7
                replace hu2R_2 := LC.mono hlet21 hu2R_2
                replace hu3R_2 := LC.mono hlet21 hu3R_2
                replace he91 := TyR.mono hlet21 he91
                replace hce9 := HC.mono hlet21 hce9
                replace ht11r0_0 := VR.mono hlet21 ht11r0_0
                obtain ⟨xt21r0_0, rfl, ht21r0_0⟩ := hR
                refine wl rfl (o_storek (i := 5) (vs := [_]) hL ag_33 rfl rfl rfl rfl (Nat.le_of_ble_eq_true rfl) (List.forall_mem_cons.2 ⟨(VR.one ht21r0_0), List.forall_mem_nil _⟩) (c' := _ :: []) rfl fun w hL => ?_)
                refine wt ?_
                exact ⟨_, _, _, _, _, fr_pre _ rfl, hL.pick _ rfl, ha1_0, hsap7, hu2R_2, hu3R_2, he91, hce9, ht11r0_0, ht21r0_0, hm⟩
              · cases hm
            · refine wlF rfl rfl rfl rfl hg18 rfl <| wlF rfl rfl rfl rfl hg18 rfl <| wlF rfl rfl rfl rfl hg18 rfl <| sv (r_pickF hg18 rfl rfl) <| wt <| c_F rfl rfl <| wp_skip <| then_n ?_
              exact ⟨_, _, _, _, _, fr_pre _ rfl, hL.pick _ rfl, ha1_0, hsap7, hu2R_2, hu3R_2, he91, hce9, ht11r0_0, ht11r0_0, hm⟩
        · refine wp_exit <| then_e <| then_e <| blk_e <| then_n ?_
          exact ⟨_, _, _, _, _, _, _, _, _, _, fr_pre _ rfl, hL.pick _ rfl, ha1_0, hu2R_2, hu3R_2, hm⟩

end Go.Proofs.YtcjphpenelnohaaGreatDoor
/- Gm: by tools/gen.py -/
set_option linter.unusedVariables false
namespace Go.Proofs.YtcjphpenelnohaaGreatDoor
open Go.RowKit

/-- coerce.read -/
def m309 (a0_0 : J) (a1 : Int) : Option (J × Bool) :=
  ((m142 a0_0).bind fun t1 => ((m84 t1.1).bind fun t2 => (bif t1.2 then (bif (t2.2.2 == (0 : Int)) then ((m21 t2.1).bind fun t5 => (some (t2.1, (t5 == a1)))) else none) else (some (t2.1, false)))))
set_option maxHeartbeats 20000000 in
set_option maxRecDepth 100000 in
theorem c309 : ∀ {H0 : Hp} {w0 : World} {a0_0 : J} {a1 : Int} {xa0_0 : Value}  (_ : Imm H0 w0) (_ : GT H0) (_ : VR H0 xa0_0 a0_0) {r : (J × Bool)} (_ : m309 a0_0 a1 = some r), Ct Tryz.prog 309 [.agg (List.toArray [xa0_0]), .int .i64 a1] [] H0 w0 fun v H' w' => ∃ (xr0_0 : Value), v = .tuple (List.toArray [.agg (List.toArray [xr0_0]), .bool r.2]) ∧ VR H' xr0_0 r.1 := by
  intro H0 w0 a0_0 a1 xa0_0  hI hG ha0_0 r hm
  have hL := L.start hI
  refine ct_of Tryz.func309 rfl Tryz.ntmps309 rfl (Nat.le_of_ble_eq_true rfl) ?_
  unfold m309 at hm
  refine sr ?_
  refine wl rfl (o_box 0 (c := [_]) hL rfl rfl fun b0 w hL => ?_)
  refine wl rfl (o_alloc 1 (c := [_]) hL ze_33 rfl fun b1 w hL => ?_)
  refine sv (r_assign rfl) <| wt <| sr <| sv (r_loadk (hL.own 0 _ rfl) ag_33 rfl (vs := [_]) rfl rfl) ?_
  obtain ⟨t1, ht1, hm⟩ := bnd hm
  refine wl rfl (o_call0 hL fn_142 rfl (c142 hL.imm ha0_0 ht1) fun v H w hlet1 hL hR => ?_)
  replace hG := GT.mono hlet1 hG
  obtain rfl := hR
  refine sv (r_move rfl) <| sv (r_extract rfl rfl) <| sv (r_extract rfl rfl) <| sv (r_assign rfl) <| sv (r_assign rfl) <| wt <| sr <| sv (r_move rfl) ?_
  obtain ⟨t2, ht2, hm⟩ := bnd hm
  refine wl rfl (o_call0 hL fn_84 rfl (c84 hL.imm hG ht2) fun v H w hlet2 hL hR => ?_)
  obtain ⟨xt2r0_0, rfl, ht2r0_0⟩ := hR
  refine sv (r_move rfl) <| sv (r_extract rfl rfl) <| sv (r_extract rfl rfl) <| sv (r_extract rfl rfl) ?_
  refine wl rfl (o_alloc 2 (c := [_]) hL ze_33 rfl fun b2 w hL => ?_)
  refine wl rfl (o_storek (i := 2) (vs := [_]) hL ag_33 rfl rfl rfl rfl (Nat.le_of_ble_eq_true rfl) (List.forall_mem_cons.2 ⟨(VR.one ht2r0_0), List.forall_mem_nil _⟩) (c' := _ :: []) rfl fun w hL => ?_)
  refine sv (r_assign rfl) <| sv (r_assign rfl) <| wt <| wp_seq <| rd hL [2] [_] [(0, true), (1, true), (2, true), (3, true), (4, true), (5, true), (6, true), (7, true), (9, true), (8, false), (10, true), (11, true), (12, false), (13, true)] mixed rfl (by kernel_rfl) fun w hL => dv rfl (fun w hS => r_loadk hS.2.1 ag_33 rfl (vs := [_]) rfl rfl) <| dv rfl (fun w hS => r_move rfl) <| dv rfl (fun w hS => r_move rfl) ?_
  refine m_if hm (fun hg3 hm => ?_) (fun hg3 hm => ?_)
  · refine dvT rfl rfl rfl rfl hg3 (fun w hS => r_move rfl) <| dvT rfl rfl rfl rfl hg3 (fun w hS => r_eqi rfl rfl) <| dv rfl (fun w hS => r_pickT hg3 rfl rfl) <| dv rfl (fun w hS => r_move rfl) ?_
    refine m_if hm (fun hg4 hm => ?_) (fun hg4 hm => ?_)
    · refine dvT rfl rfl rfl rfl hg4 (fun w hS => r_loadk hS.2.1 ag_33 rfl (vs := [_]) rfl rfl) <| dvT rfl rfl rfl rfl hg4 (fun w hS => r_move rfl) ?_
      obtain ⟨t5, ht5, hm⟩ := bnd hm
      refine dhT rfl rfl rfl rfl rfl hg4 (o_call0 hL fn_21 rfl (c21 hL.imm ht2r0_0 ht5) fun v H w hlet5 hL hR => ⟨Sd.of hL ((Hle.refl _).trans hlet5) [2] rfl, ?_⟩)
      replace ht2r0_0 := VR.mono hlet5 ht2r0_0
      obtain rfl := hR
      refine dvT rfl rfl rfl rfl hg4 (fun w hS => r_eqi rfl rfl) <| dv rfl (fun w hS => r_pickT hg4 rfl rfl) ?_
      refine dh rfl rfl (o_storek (i := 1) (vs := [_]) hL ag_33 rfl rfl rfl rfl (Nat.le_of_ble_eq_true rfl) (List.forall_mem_cons.2 ⟨(VR.one ht2r0_0), List.forall_mem_nil _⟩) (c' := _ :: []) rfl fun w hL => ⟨Sd.of hL ((Hle.refl _).trans hlet5) [2] rfl, ?_⟩)
      refine dv rfl (fun w hS => r_assign rfl) <| dn <| then_n <| wp_ret ?_
      obtain rfl := ends hm
      exact rt rfl (.agg (hL.own 1 _ rfl) ag_33 rfl (us := [_]) rfl rfl (.tmp rfl .nil)) ⟨_, _, rfl, hL.ext, ⟨_, rfl, ht2r0_0⟩⟩
    · cases hm
  · refine dvF rfl rfl rfl rfl hg3 <| dvF rfl rfl rfl rfl hg3 <| dv rfl (fun w hS => r_pickF hg3 rfl rfl) <| dv rfl (fun w hS => r_move rfl) <| dvF rfl rfl rfl rfl rfl <| dvF rfl rfl rfl rfl rfl <| dhF rfl rfl rfl rfl rfl rfl rfl (Sd.of hL (Hle.refl _) [2] rfl) <| dvF rfl rfl rfl rfl rfl <| dv rfl (fun w hS => r_pickF rfl rfl rfl) ?_
    refine dh rfl rfl (o_storek (i := 1) (vs := [_]) hL ag_33 rfl rfl rfl rfl (Nat.le_of_ble_eq_true rfl) (List.forall_mem_cons.2 ⟨(VR.one ht2r0_0), List.forall_mem_nil _⟩) (c' := _ :: []) rfl fun w hL => ⟨Sd.of hL (Hle.refl _) [2] rfl, ?_⟩)
    refine dv rfl (fun w hS => r_assign rfl) <| dn <| then_n <| wp_ret ?_
    obtain rfl := ends hm
    exact rt rfl (.agg (hL.own 1 _ rfl) ag_33 rfl (us := [_]) rfl rfl (.tmp rfl .nil)) ⟨_, _, rfl, hL.ext, ⟨_, rfl, ht2r0_0⟩⟩

/-- coerce.plain -/
def m228 (a0 : Ty) (a1_0 : J) : Option (J × Bool) :=
  ((m223 a0).bind fun t1 => (bif (t1 == [112, 111, 105, 110, 116]) then none else (bif (t1 == [105, 110, 116]) then ((m309 a1_0 (3 : Int)).bind fun t4 => (bif t4.2 then (some (t4.1, true)) else ((m78 a0 a1_0).bind fun t6 => (some (a1_0, t6))))) else none)))
set_option maxHeartbeats 20000000 in
set_option maxRecDepth 100000 in
theorem c228 : ∀ {H0 : Hp} {w0 : World} {a0 : Ty} {a1_0 : J} {pa0 : Value} {xa1_0 : Value}  (_ : Imm H0 w0) (_ : GT H0) (_ : TyR H0 pa0 a0) (_ : VR H0 xa1_0 a1_0) {r : (J × Bool)} (_ : m228 a0 a1_0 = some r), Ct Tryz.prog 228 [pa0, .agg (List.toArray [xa1_0])] [] H0 w0 fun v H' w' => ∃ (xr0_0 : Value), v = .tuple (List.toArray [.agg (List.toArray [xr0_0]), .bool r.2]) ∧ VR H' xr0_0 r.1 := by
  intro H0 w0 a0 a1_0 pa0 xa1_0  hI hG ha0 ha1_0 r hm
  have hL := L.start hI
  refine ct_of Tryz.func228 rfl Tryz.ntmps228 rfl (Nat.le_of_ble_eq_true rfl) ?_
  unfold m228 at hm
  refine sr ?_
  refine wl rfl (o_box 0 (c := [_]) hL rfl rfl fun b0 w hL => ?_)
  refine wl rfl (o_alloc 1 (c := [_]) hL ze_33 rfl fun b1 w hL => ?_)
  refine sv (r_assign rfl) <| wt <| wp_seq <| sr <| sv (r_move rfl) ?_
  obtain ⟨t1, ht1, hm⟩ := bnd hm
  refine wl rfl (o_call0 hL fn_223 rfl (c223 hL.imm ha0 ht1) fun v H w hlet1 hL hR => ?_)
  replace hG := GT.mono hlet1 hG
  replace ha0 := TyR.mono hlet1 ha0
  replace ha1_0 := VR.mono hlet1 ha1_0
  obtain rfl := hR
  refine wt <| wp_block <| sr <| sv (r_eqs rfl rfl) <| sv (r_assign rfl) <| wt ?_
  refine c_if hm rfl (fun hg2 hm => ?_) (fun hg2 hm => ?_)
  · cases hm
  · refine sr <| sv (r_eqs rfl rfl) <| sv (r_assign rfl) <| wt ?_
    refine c_if hm rfl (fun hg3 hm => ?_) (fun hg3 hm => ?_)
    · refine sr <| sv (r_loadk (hL.own 0 _ rfl) ag_33 rfl (vs := [_]) rfl rfl) ?_
      obtain ⟨t4, ht4, hm⟩ := bnd hm
      refine wl rfl (o_call0 hL fn_309 rfl (c309 hL.imm hG ha1_0 ht4) fun v H w hlet4 hL hR => ?_)
      replace ha0 := TyR.mono hlet4 ha0
      replace ha1_0 := VR.mono hlet4 ha1_0
      obtain ⟨xt4r0_0, rfl, ht4r0_0⟩ := hR
      refine sv (r_move rfl) <| sv (r_extract rfl rfl) <| sv (r_extract rfl rfl) ?_
      refine wl rfl (o_alloc 2 (c := [_]) hL ze_33 rfl fun b2 w hL => ?_)
      refine wl rfl (o_storek (i := 2) (vs := [_]) hL ag_33 rfl rfl rfl rfl (Nat.le_of_ble_eq_true rfl) (List.forall_mem_cons.2 ⟨(VR.one ht4r0_0), List.forall_mem_nil _⟩) (c' := _ :: []) rfl fun w hL => ?_)
      refine sv (r_assign rfl) <| wt <| sr <| sv (r_move rfl) <| wt ?_
      refine c_if hm rfl (fun hg5 hm => ?_) (fun hg5 hm => ?_)
      · refine sr <| sv (r_loadk (hL.own 2 _ rfl) ag_33 rfl (vs := [_]) rfl rfl) ?_
        refine wl rfl (o_storek (i := 1) (vs := [_]) hL ag_33 rfl rfl rfl rfl (Nat.le_of_ble_eq_true rfl) (List.forall_mem_cons.2 ⟨(VR.one ht4r0_0), List.forall_mem_nil _⟩) (c' := _ :: []) rfl fun w hL => ?_)
        refine sv (r_assign rfl) <| wt <| wp_ret <| blk_r <| then_r ?_
        obtain rfl := ends hm
        exact rt rfl (.agg (hL.own 1 _ rfl) ag_33 rfl (us := [_]) rfl rfl (.tmp rfl .nil)) ⟨_, _, rfl, hL.ext, ⟨_, rfl, ht4r0_0⟩⟩
      · refine wp_skip <| blk_n <| then_n <| wp_seq <| rd hL [0] [_] [(0, true), (1, true), (2, true), (3, false), (4, false), (5, true)] mixed rfl (by kernel_rfl) fun w hL => dv rfl (fun w hS => r_loadk hS.2.1 ag_33 rfl (vs := [_]) rfl rfl) <| dv rfl (fun w hS => r_move rfl) <| dv rfl (fun w hS => r_loadk hS.2.1 ag_33 rfl (vs := [_]) rfl rfl) ?_
        obtain ⟨t6, ht6, hm⟩ := bnd hm
        refine dh rfl rfl (o_call0 hL fn_78 rfl (c78 hL.imm ha0 ha1_0 ht6) fun v H w hlet6 hL hR => ⟨Sd.of hL ((Hle.refl _).trans hlet6) [0] rfl, ?_⟩)
        replace ha1_0 := VR.mono hlet6 ha1_0
        obtain rfl := hR
        refine dh rfl rfl (o_storek (i := 1) (vs := [_]) hL ag_33 rfl rfl rfl rfl (Nat.le_of_ble_eq_true rfl) (List.forall_mem_cons.2 ⟨(VR.one ha1_0), List.forall_mem_nil _⟩) (c' := _ :: []) rfl fun w hL => ⟨Sd.of hL ((Hle.refl _).trans hlet6) [0] rfl, ?_⟩)
        refine dv rfl (fun w hS => r_assign rfl) <| dn <| then_n <| wp_ret ?_
        obtain rfl := ends hm
        exact rt rfl (.agg (hL.own 1 _ rfl) ag_33 rfl (us := [_]) rfl rfl (.tmp rfl .nil)) ⟨_, _, rfl, hL.ext, ⟨_, rfl, ha1_0⟩⟩
    · cases hm

/-- text.Path -/
def m261_l0 (a0 : List Step) : Nat → Int → Bs → Option Bs
  | 0, _, _ => none
  | k + 1, v8_1, u1R_1 => (bif (decide (v8_1 < (a0.length : Int))) then (bif (decide (0 ≤ v8_1 ∧ v8_1 < (a0.length : Int))) then (bif (((a0.getD (v8_1).toNat default).key) == ([] : Bs)) then none else ((m143 ((a0.getD (v8_1).toNat default).key)).bind fun t5 => (bif (decide ([46].length + t5.length ≤ LIM)) then ((m120 u1R_1 ([46] ++ t5)).bind fun t7 => (m261_l0 a0 k (IntKind.wrap .i64 (v8_1 + (1 : Int))) t7.2.2)) else none))) else none) else ((m123 u1R_1).bind fun t8 => (some (t8))))
def m261 (a0 : List Step) : Option Bs :=
  (m261_l0 a0 FUEL (0 : Int) ([] : Bs))
set_option maxHeartbeats 20000000 in
set_option maxRecDepth 100000 in
theorem c261 : ∀ {H0 : Hp} {w0 : World} {a0 : List Step} {aa0 : Option Addr} {ca0 : Nat}  (_ : Imm H0 w0) (_ : GT H0) (_ : Sl cStep H0 aa0 ca0 a0) {r : Bs} (_ : m261 a0 = some r), Ct Tryz.prog 261 [.slice aa0 (List.length a0) ca0] [] H0 w0 fun v H' w' => v = .string (mk r) := by
  intro H0 w0 a0 aa0 ca0  hI hG ha0 r hm
  have hL := L.start hI
  refine ct_of Tryz.func261 rfl Tryz.ntmps261 rfl (Nat.le_of_ble_eq_true rfl) ?_
  unfold m261 at hm
  refine sr <| sv (r_assign rfl) <| wt <| sr ?_
  refine wl rfl (o_alloc 0 (c := [_, _]) hL ze_201 rfl fun b0 w hL => ?_)
  refine wt <| wp_seq <| sr <| sv (r_move rfl) <| sv (r_lenS rfl Tryz.underlying113 rfl) <| sv (r_move rfl) <| wt <| wp_block ?_
  have hL := hL.addNil 1 5 1
  refine wp_loop_fuel (k := FUEL) (fun k a w => ∃ (v8_1 : Int) (u1R_1 : Bs) (pu0_0_1 : Value) (au1R_1 : Option Addr) (cu1R_1 : Nat) (zu1R_1 : List Value) (l : List (Nat × Value)) (H : Hp), a = fr 33 ([(2, .string (mk ([] : Bs))), (3, .pointer (some ⟨b0, 0, none⟩)), (6, .slice aa0 (List.length a0) ca0), (7, .int .i64 (a0.length : Int)), (8, .int .i64 v8_1)] ++ l) [] ∧ L [] H0 w0 [(0, .cel b0 (pu0_0_1 :: (.slice au1R_1 (List.length u1R_1) cu1R_1) :: []) 201), (1, .row (.slice au1R_1 (List.length u1R_1) cu1R_1) 5 1 (List.length u1R_1) zu1R_1)] H w ∧ GT H ∧ Sl cStep H aa0 ca0 a0 ∧ BP b0 pu0_0_1 ∧ LC cB8 H zu1R_1 u1R_1 ∧ (m261_l0 a0 k v8_1 u1R_1) = some r) ⟨_, _, _, _, _, _, _, _, fr_pre _ rfl, hL.pick _ rfl, hG, ha0, (Or.inl rfl), LC.nil, hm⟩ ?_
  rintro k0 a w ⟨v8_1, u1R_1, pu0_0_1, au1R_1, cu1R_1, zu1R_1, l, H, rfl, hL, hG, ha0, hu0_0_1, hu1R_1, hm⟩
  cases k0 with
  | zero => rw [m261_l0.eq_1] at hm; cases hm
  | succ k0 =>
    rw [m261_l0.eq_2] at hm
    refine sr <| sv (r_lss rfl rfl) <| wt <| wp_seq ?_
    refine c_if hm rfl (fun hg1 hm => ?_) (fun hg1 hm => ?_)
    · refine wp_skip <| then_n <| wp_seq <| wp_block <| sr ?_
      obtain ⟨hg3, hm⟩ := grd hm
      obtain ⟨be2, oe2, _, hae2, hce2, rfl⟩ := Sl.at ha0 default hg3
      refine sv (r_indexAddr el_113 hg3 hae2 rfl rfl) <| sv (r_loadHk hL.imm ag_220 rfl (vs := [_, _]) hce2 rfl) ?_
      refine wl rfl (o_alloc 2 (c := [_, _]) hL ze_220 rfl fun b2 w hL => ?_)
      refine wl rfl (o_storek (i := 2) (vs := [_, _]) hL ag_220 rfl rfl rfl rfl (Nat.le_of_ble_eq_true rfl) (List.forall_mem_cons.2 ⟨rfl, (List.forall_mem_cons.2 ⟨rfl, List.forall_mem_nil _⟩)⟩) (c' := _ :: _ :: []) rfl fun w hL => ?_)
      refine wt <| sr <| sv (r_fieldAddr fl_220_0 rfl) <| sv (r_load1 (hL.own 2 _ rfl) sc_9 rfl rfl) <| sv (r_eqs rfl rfl) <| sv (r_move rfl) ?_
      refine m_if hm (fun hg4 hm => ?_) (fun hg4 hm => ?_)
      · cases hm
      · refine wlF rfl rfl rfl rfl hg4 rfl <| wlF rfl rfl rfl rfl hg4 rfl <| wlF rfl rfl rfl rfl hg4 rfl <| sv (r_pickF hg4 rfl rfl) <| wt <| c_F rfl rfl <| rg <| sv (r_fieldAddr fl_220_0 rfl) <| sv (r_load1 (hL.own 2 _ rfl) sc_9 rfl rfl) ?_
        obtain ⟨t5, ht5, hm⟩ := bnd hm
        refine wl rfl (o_call0 hL fn_143 rfl (c143 hL.imm ht5) fun v H w hlet5 hL hR => ?_)
        replace hG := GT.mono hlet5 hG
        replace ha0 := Sl.mono hlet5 ha0
        replace hu1R_1 := LC.mono hlet5 hu1R_1
        obtain rfl := hR
        obtain ⟨hg6, hm⟩ := grd hm
        refine sv (r_cat (of_decide_eq_true hg6) rfl rfl) ?_
        obtain ⟨t7, ht7, hm⟩ := bnd hm
        have hL := hL.merge 0 1 rfl rfl rfl
        refine wl rfl (o_callE 0 hL fn_120 rfl rfl (c120 hL.imm (hL.own 0 _ rfl) (fun b' hb' => (hL.non 0 _ rfl b' hb').1) hu0_0_1 hu1R_1 ht7) fun x v H w hlet7 hL hR => ?_)
        obtain ⟨pt7r1_0, at7m0_1, ct7m0_1, zt7m0_1, pt7m0_0⟩ := x
        try dsimp only at hL hR
        replace hG := GT.mono hlet7 hG
        replace ha0 := Sl.mono hlet7 ha0
        replace hu1R_1 := LC.mono hlet7 hu1R_1
        obtain ⟨rfl, ht7r1_0, ht7m0_1, ht7m0_0⟩ := hR
        have hL := hL.split 0 1 rfl rfl (.inr rfl)
        have hL := hL.pick [(0, .cel b0 (pt7m0_0 :: (.slice at7m0_1 (List.length t7.2.2) ct7m0_1) :: []) 201), (1, .row (.slice at7m0_1 (List.length t7.2.2) ct7m0_1) 5 1 (List.length t7.2.2) zt7m0_1), (2, .cel b2 ((.string (mk ((a0.getD (v8_1).toNat default).key))) :: (.int .i64 ((a0.getD (v8_1).toNat default).at_)) :: []) 220)] rfl
        refine wn <| blk_n <| then_n <| rg <| sv (r_add rfl rfl) <| sv (r_move rfl) <| wt ?_
        exact ⟨k0, Nat.lt_succ_self k0, _, _, _, _, _, _, _, _, fr_pre _ rfl, hL.pick _ rfl, hG, ha0, ht7m0_0, ht7m0_1, hm⟩
    · refine wp_exit <| then_e <| then_e <| blk_e <| then_n <| sr ?_
      obtain ⟨t8, ht8, hm⟩ := bnd hm
      have hL := hL.merge 0 1 rfl rfl rfl
      refine wl rfl (o_call1 0 (r1 := .gone) hL fn_123 rfl rfl (c123 hL.imm (hL.own 0 _ rfl) (fun b' hb' => (hL.non 0 _ rfl b' hb').1) hu0_0_1 hu1R_1 ht8) fun v H w hlet8 hL hR => ?_)
      obtain rfl := hR
      refine sv (r_assign rfl) <| wt <| wp_ret ?_
      obtain rfl := ends hm
      exact rt rfl (.tmp rfl .nil) ⟨_, _, rfl, hL.ext, rfl⟩

/-- (diff.Change).line -/
def m166 (a0_0 : List Step) (a0_1 : J) (a0_2 : J) (a0_3 : Bool) (a0_4 : Bool) : Option Bs :=
  (bif a0_4 then (bif (!a0_3) then ((m261 a0_0).bind fun t3 => (bif a0_3 then none else ((m67 a0_2).bind fun t6 => (bif (decide (([[43], t3] : List Bs).length + ([t6] : List Bs).length ≤ LIM)) then ((m195 (([[43], t3] : List Bs) ++ ([t6] : List Bs)) [32]).bind fun t11 => (bif (decide (t11.length + [10].length ≤ LIM)) then (some ((t11 ++ [10]))) else none)) else none)))) else none) else none)
set_option maxHeartbeats 20000000 in
set_option maxRecDepth 100000 in
theorem c166 : ∀ {H0 : Hp} {w0 : World} {a0_0 : List Step} {a0_1 : J} {a0_2 : J} {a0_3 : Bool} {a0_4 : Bool} {aa0_0 : Option Addr} {ca0_0 : Nat} {xa0_1 : Value} {xa0_2 : Value}  (_ : Imm H0 w0) (_ : GT H0) (_ : Sl cStep H0 aa0_0 ca0_0 a0_0) (_ : VR H0 xa0_1 a0_1) (_ : VR H0 xa0_2 a0_2) {r : Bs} (_ : m166 a0_0 a0_1 a0_2 a0_3 a0_4 = some r), Ct Tryz.prog 166 [.agg (List.toArray [.slice aa0_0 (List.length a0_0) ca0_0, xa0_1, xa0_2, .bool a0_3, .bool a0_4])] [] H0 w0 fun v H' w' => v = .string (mk r) := by
  intro H0 w0 a0_0 a0_1 a0_2 a0_3 a0_4 aa0_0 ca0_0 xa0_1 xa0_2  hI hG ha0_0 ha0_1 ha0_2 r hm
  have hL := L.start hI
  refine ct_of Tryz.func166 rfl Tryz.ntmps166 rfl (Nat.le_of_ble_eq_true rfl) ?_
  unfold m166 at hm
  refine sr ?_
  refine wl rfl (o_box 0 (c := [_, _, _, _, _]) hL rfl rfl fun b0 w hL => ?_)
  refine sv (r_assign rfl) <| wt <| sr <| sv (r_assign rfl) <| wt <| wp_seq <| wp_block <| sr <| sv (r_fieldAddr fl_115_4 rfl) <| sv (r_load1 (hL.own 0 _ rfl) sc_4 rfl rfl) <| sv (r_move rfl) ?_
  refine m_if hm (fun hg1 hm => ?_) (fun hg1 hm => ?_)
  · refine wlT rfl rfl rfl rfl hg1 (o_val (r_fieldAddr fl_115_3 rfl) ?_)
    refine wlT rfl rfl rfl rfl hg1 (o_val (r_load1 (hL.own 0 _ rfl) sc_4 rfl rfl) ?_)
    refine wlT rfl rfl rfl rfl hg1 (o_val (r_not rfl) ?_)
    refine sv (r_pickT hg1 rfl rfl) <| sv (r_assign rfl) <| wt ?_
    refine c_if hm rfl (fun hg2 hm => ?_) (fun hg2 hm => ?_)
    · refine rg <| sv (r_assign rfl) <| wn <| blk_n <| then_n <| sr <| sv (r_move rfl) <| sv (r_fieldAddr fl_115_0 rfl) <| sv (r_load1 (hL.own 0 _ rfl) sc_113 rfl rfl) ?_
      obtain ⟨t3, ht3, hm⟩ := bnd hm
      refine wl rfl (o_call0 hL fn_261 rfl (c261 hL.imm hG ha0_0 ht3) fun v H w hlet3 hL hR => ?_)
      replace hG := GT.mono hlet3 hG
      replace ha0_2 := VR.mono hlet3 ha0_2
      obtain rfl := hR
      have hww4 : LC cStr hL.hp [.string (mk [43]), .string (mk t3)] ([[43], t3] : List Bs) := (LC.cons (K := cStr) (cs := [.string (mk [43])]) rfl (LC.cons (K := cStr) (cs := [.string (mk t3)]) rfl LC.nil))
      refine wl rfl (o_buildSlice (C := cStr) 1 hL el_30 ze_9 rfl (.cons rfl (.cons rfl .nil)) rfl rfl rfl rfl hww4 fun gw4 w hL => ?_)
      refine sv (r_assign rfl) <| wt <| wp_seq <| sr <| sv (r_fieldAddr fl_115_3 rfl) <| sv (r_load1 (hL.own 0 _ rfl) sc_4 rfl rfl) <| wt ?_
      refine c_if hm rfl (fun hg5 hm => ?_) (fun hg5 hm => ?_)
      · cases hm
      · refine wp_skip <| then_n <| wp_seq <| sr <| sv (r_fieldAddr fl_115_4 rfl) <| sv (r_load1 (hL.own 0 _ rfl) sc_4 rfl rfl) <| wt <| c_T hg1 rfl <| rg <| sv (r_move rfl) <| sv (r_fieldAddr fl_115_2 rfl) <| sv (r_loadk (hL.own 0 _ rfl) ag_33 rfl (vs := [_]) rfl rfl) ?_
        obtain ⟨t6, ht6, hm⟩ := bnd hm
        refine wl rfl (o_call0 hL fn_67 rfl (c67 hL.imm hG ha0_2 ht6) fun v H w hlet6 hL hR => ?_)
        replace hww4 := LC.mono hlet6 hww4
        obtain rfl := hR
        have hww7 : LC cStr hL.hp [.string (mk t6)] ([t6] : List Bs) := (LC.cons (K := cStr) (cs := [.string (mk t6)]) rfl LC.nil)
        refine wl rfl (o_buildSlice (C := cStr) 2 hL el_30 ze_9 rfl (.cons rfl .nil) rfl rfl rfl rfl hww7 fun gw7 w hL => ?_)
        obtain ⟨hg8, hm⟩ := grd hm
        refine wl rfl (o_append (C := cStr) 1 2 hL el_30 rfl rfl rfl rfl hww7 rfl hg8 fun gw9 cw9 w hL => ?_)
        have hww9 := LC.append hww4 hww7
        refine sv (r_assign rfl) <| wt <| sr <| sv (r_move rfl) ?_
        obtain ⟨H, hlez10, hL, hsz10⟩ := hL.settle (i := 1) (K := cStr) rfl hww9
        obtain ⟨t11, ht11, hm⟩ := bnd hm
        refine wl rfl (o_call0 hL fn_195 rfl (c195 hL.imm hsz10 ht11) fun v H w hlet11 hL hR => ?_)
        obtain rfl := hR
        obtain ⟨hg12, hm⟩ := grd hm
        refine sv (r_cat (of_decide_eq_true hg12) rfl rfl) <| sv (r_assign rfl) <| wt <| wp_ret ?_
        obtain rfl := ends hm
        exact rt rfl (.tmp rfl .nil) ⟨_, _, rfl, hL.ext, rfl⟩
    · cases hm
  · cases hm

/-- diff.Lines -/
def m85_l0 (a0 : List Chg) : Nat → Int → Bs → Option Bs
  | 0, _, _ => none
  | k + 1, v8_1, u1R_1 => (bif (decide (v8_1 < (a0.length : Int))) then (bif (decide (0 ≤ v8_1 ∧ v8_1 < (a0.length : Int))) then ((m166 ((a0.getD (v8_1).toNat default).way) ((a0.getD (v8_1).toNat default).a) ((a0.getD (v8_1).toNat default).b) ((a0.getD (v8_1).toNat default).old) ((a0.getD (v8_1).toNat default).new)).bind fun t4 => ((m120 u1R_1 t4).bind fun t5 => (m85_l0 a0 k (IntKind.wrap .i64 (v8_1 + (1 : Int))) t5.2.2))) else none) else ((m123 u1R_1).bind fun t6 => (some (t6))))
def m85 (a0 : List Chg) : Option Bs :=
  (m85_l0 a0 FUEL (0 : Int) ([] : Bs))
set_option maxHeartbeats 20000000 in
set_option maxRecDepth 100000 in
theorem c85 : ∀ {H0 : Hp} {w0 : World} {a0 : List Chg} {aa0 : Option Addr} {ca0 : Nat}  (_ : Imm H0 w0) (_ : GT H0) (_ : Sl cChg H0 aa0 ca0 a0) {r : Bs} (_ : m85 a0 = some r), Ct Tryz.prog 85 [.slice aa0 (List.length a0) ca0] [] H0 w0 fun v H' w' => v = .string (mk r) := by
  intro H0 w0 a0 aa0 ca0  hI hG ha0 r hm
  have hL := L.start hI
  refine ct_of Tryz.func85 rfl Tryz.ntmps85 rfl (Nat.le_of_ble_eq_true rfl) ?_
  unfold m85 at hm
  refine sr <| sv (r_assign rfl) <| wt <| sr ?_
  refine wl rfl (o_alloc 0 (c := [_, _]) hL ze_201 rfl fun b0 w hL => ?_)
  refine wt <| wp_seq <| sr <| sv (r_move rfl) <| sv (r_lenS rfl Tryz.underlying37 rfl) <| sv (r_move rfl) <| wt <| wp_block ?_
  have hL := hL.addNil 1 5 1
  refine wp_loop_fuel (k := FUEL) (fun k a w => ∃ (v8_1 : Int) (u1R_1 : Bs) (pu0_0_1 : Value) (au1R_1 : Option Addr) (cu1R_1 : Nat) (zu1R_1 : List Value) (l : List (Nat × Value)) (H : Hp), a = fr 17 ([(2, .string (mk ([] : Bs))), (3, .pointer (some ⟨b0, 0, none⟩)), (6, .slice aa0 (List.length a0) ca0), (7, .int .i64 (a0.length : Int)), (8, .int .i64 v8_1)] ++ l) [] ∧ L [] H0 w0 [(0, .cel b0 (pu0_0_1 :: (.slice au1R_1 (List.length u1R_1) cu1R_1) :: []) 201), (1, .row (.slice au1R_1 (List.length u1R_1) cu1R_1) 5 1 (List.length u1R_1) zu1R_1)] H w ∧ GT H ∧ Sl cChg H aa0 ca0 a0 ∧ BP b0 pu0_0_1 ∧ LC cB8 H zu1R_1 u1R_1 ∧ (m85_l0 a0 k v8_1 u1R_1) = some r) ⟨_, _, _, _, _, _, _, _, fr_pre _ rfl, hL.pick _ rfl, hG, ha0, (Or.inl rfl), LC.nil, hm⟩ ?_
  rintro k0 a w ⟨v8_1, u1R_1, pu0_0_1, au1R_1, cu1R_1, zu1R_1, l, H, rfl, hL, hG, ha0, hu0_0_1, hu1R_1, hm⟩
  cases k0 with
  | zero => rw [m85_l0.eq_1] at hm; cases hm
  | succ k0 =>
    rw [m85_l0.eq_2] at hm
    refine sr <| sv (r_lss rfl rfl) <| wt <| wp_seq ?_
    refine c_if hm rfl (fun hg1 hm => ?_) (fun hg1 hm => ?_)
    · refine wp_skip <| then_n <| wp_seq <| wp_block <| sr ?_
      obtain ⟨hg3, hm⟩ := grd hm
      obtain ⟨be2, oe2, _, hae2, hce2, ⟨ae20, ce20, xe21, xe22, rfl, he20, he21, he22⟩⟩ := Sl.at ha0 default hg3
      refine sv (r_indexAddr el_37 hg3 hae2 rfl rfl) <| sv (r_loadHk hL.imm ag_115 rfl (vs := [_, _, _, _, _]) hce2 rfl) ?_
      refine wl rfl (o_alloc 2 (c := [_, _, _, _, _]) hL ze_115 rfl fun b2 w hL => ?_)
      refine wl rfl (o_storek (i := 2) (vs := [_, _, _, _, _]) hL ag_115 rfl rfl rfl rfl (Nat.le_of_ble_eq_true rfl) (List.forall_mem_cons.2 ⟨rfl, (List.forall_mem_cons.2 ⟨(VR.one he21), (List.forall_mem_cons.2 ⟨(VR.one he22), (List.forall_mem_cons.2 ⟨rfl, (List.forall_mem_cons.2 ⟨rfl, List.forall_mem_nil _⟩)⟩)⟩)⟩)⟩) (c' := _ :: _ :: _ :: _ :: _ :: []) rfl fun w hL => ?_)
      refine wt <| rg <| sv (r_loadk (hL.own 2 _ rfl) ag_115 rfl (vs := [_, _, _, _, _]) rfl rfl) ?_
      obtain ⟨t4, ht4, hm⟩ := bnd hm
      refine wl rfl (o_call0 hL fn_166 rfl (c166 hL.imm hG he20 he21 he22 ht4) fun v H w hlet4 hL hR => ?_)
      replace hG := GT.mono hlet4 hG
      replace ha0 := Sl.mono hlet4 ha0
      replace hu1R_1 := LC.mono hlet4 hu1R_1
      obtain rfl := hR
      obtain ⟨t5, ht5, hm⟩ := bnd hm
      have hL := hL.merge 0 1 rfl rfl rfl
      refine wl rfl (o_callE 0 hL fn_120 rfl rfl (c120 hL.imm (hL.own 0 _ rfl) (fun b' hb' => (hL.non 0 _ rfl b' hb').1) hu0_0_1 hu1R_1 ht5) fun x v H w hlet5 hL hR => ?_)
      obtain ⟨pt5r1_0, at5m0_1, ct5m0_1, zt5m0_1, pt5m0_0⟩ := x
      try dsimp only at hL hR
      replace hG := GT.mono hlet5 hG
      replace ha0 := Sl.mono hlet5 ha0
      replace hu1R_1 := LC.mono hlet5 hu1R_1
      obtain ⟨rfl, ht5r1_0, ht5m0_1, ht5m0_0⟩ := hR
      have hL := hL.split 0 1 rfl rfl (.inr rfl)
      have hL := hL.pick [(0, .cel b0 (pt5m0_0 :: (.slice at5m0_1 (List.length t5.2.2) ct5m0_1) :: []) 201), (1, .row (.slice at5m0_1 (List.length t5.2.2) ct5m0_1) 5 1 (List.length t5.2.2) zt5m0_1), (2, .cel b2 ((.slice ae20 (List.length ((a0.getD (v8_1).toNat default).way)) ce20) :: xe21 :: xe22 :: (.bool ((a0.getD (v8_1).toNat default).old)) :: (.bool ((a0.getD (v8_1).toNat default).new)) :: []) 115)] rfl
      refine wn <| blk_n <| then_n <| rg <| sv (r_add rfl rfl) <| sv (r_move rfl) <| wt ?_
      exact ⟨k0, Nat.lt_succ_self k0, _, _, _, _, _, _, _, _, fr_pre _ rfl, hL.pick _ rfl, hG, ha0, ht5m0_0, ht5m0_1, hm⟩
    · refine wp_exit <| then_e <| then_e <| blk_e <| then_n <| sr ?_
      obtain ⟨t6, ht6, hm⟩ := bnd hm
      have hL := hL.merge 0 1 rfl rfl rfl
      refine wl rfl (o_call1 0 (r1 := .gone) hL fn_123 rfl rfl (c123 hL.imm (hL.own 0 _ rfl) (fun b' hb' => (hL.non 0 _ rfl b' hb').1) hu0_0_1 hu1R_1 ht6) fun v H w hlet6 hL hR => ?_)
      obtain rfl := hR
      refine sv (r_assign rfl) <| wt <| wp_ret ?_
      obtain rfl := ends hm
      exact rt rfl (.tmp rfl .nil) ⟨_, _, rfl, hL.ext, rfl⟩

end Go.Proofs.YtcjphpenelnohaaGreatDoor
/- Gn: by tools/gen.py -/
set_option linter.unusedVariables false
namespace Go.Proofs.YtcjphpenelnohaaGreatDoor
open Go.RowKit

/-- (store.Entry).needs -/
def m262_l0 (a0_7 : List Ad) : Nat → Option Bool
  | 0 => none
  | k + 1 => (bif (decide ((0 : Int) < (a0_7.length : Int))) then none else (some (true)))
def m262 (a0_0 : Bs) (a0_1 : Bs) (a0_2 : Bs) (a0_3 : Int) (a0_4 : Int) (a0_5 : J) (a0_6 : Bs) (a0_7 : List Ad) : Option Bool :=
  (m262_l0 a0_7 FUEL )
set_option maxHeartbeats 20000000 in
set_option maxRecDepth 100000 in
theorem c262 : ∀ {H0 : Hp} {w0 : World} {a0_0 : Bs} {a0_1 : Bs} {a0_2 : Bs} {a0_3 : Int} {a0_4 : Int} {a0_5 : J} {a0_6 : Bs} {a0_7 : List Ad} {xa0_5 : Value} {aa0_6 : Option Addr} {ca0_6 : Nat} {aa0_7 : Option Addr} {ca0_7 : Nat}  (_ : Imm H0 w0) (_ : VR H0 xa0_5 a0_5) (_ : Sl cB8 H0 aa0_6 ca0_6 a0_6) (_ : Sl cAd H0 aa0_7 ca0_7 a0_7) {r : Bool} (_ : m262 a0_0 a0_1 a0_2 a0_3 a0_4 a0_5 a0_6 a0_7 = some r), Ct Tryz.prog 262 [.agg (List.toArray [.string (mk a0_0), .string (mk a0_1), .string (mk a0_2), .int .i64 a0_3, .int .i64 a0_4, xa0_5, .slice aa0_6 (List.length a0_6) ca0_6, .slice aa0_7 (List.length a0_7) ca0_7])] [] H0 w0 fun v H' w' => v = .bool r := by
  intro H0 w0 a0_0 a0_1 a0_2 a0_3 a0_4 a0_5 a0_6 a0_7 xa0_5 aa0_6 ca0_6 aa0_7 ca0_7  hI ha0_5 ha0_6 ha0_7 r hm
  have hL := L.start hI
  refine ct_of Tryz.func262 rfl Tryz.ntmps262 rfl (Nat.le_of_ble_eq_true rfl) ?_
  unfold m262 at hm
  refine sr ?_
  refine wl rfl (o_box 0 (c := [_, _, _, _, _, _, _, _]) hL rfl rfl fun b0 w hL => ?_)
  refine sv (r_assign rfl) <| wt <| wp_seq <| sr <| sv (r_fieldAddr fl_97_4 rfl) <| sv (r_load1 (hL.own 0 _ rfl) sc_51 rfl rfl) <| sv (r_lenS rfl Tryz.underlying51 rfl) <| sv (r_move rfl) <| wt <| wp_block <| wp_loop_fuel (k := FUEL) (fun k a w => ∃  (l : List (Nat × Value)) (H : Hp), a = fr 38 ([(1, .pointer (some ⟨b0, 0, none⟩)), (2, .bool false), (6, .slice aa0_7 (List.length a0_7) ca0_7), (7, .int .i64 (a0_7.length : Int)), (8, .int .i64 0)] ++ l) [] ∧ L [] H0 w0 [(0, .cel b0 ((.string (mk a0_0)) :: (.string (mk a0_1)) :: (.string (mk a0_2)) :: (.int .i64 a0_3) :: (.int .i64 a0_4) :: xa0_5 :: (.slice aa0_6 (List.length a0_6) ca0_6) :: (.slice aa0_7 (List.length a0_7) ca0_7) :: []) 97)] H w ∧ VR H xa0_5 a0_5 ∧ Sl cB8 H aa0_6 ca0_6 a0_6 ∧ Sl cAd H aa0_7 ca0_7 a0_7 ∧ (m262_l0 a0_7 k ) = some r) ⟨_, _, fr_pre _ rfl, hL.pick _ rfl, ha0_5, ha0_6, ha0_7, hm⟩ ?_
  rintro k0 a w ⟨l, H, rfl, hL, ha0_5, ha0_6, ha0_7, hm⟩
  cases k0 with
  | zero => rw [m262_l0.eq_1] at hm; cases hm
  | succ k0 =>
    rw [m262_l0.eq_2] at hm
    refine sr <| sv (r_lss rfl rfl) <| wt <| wp_seq ?_
    refine c_if hm rfl (fun hg1 hm => ?_) (fun hg1 hm => ?_)
    · cases hm
    · refine wp_exit <| then_e <| then_e <| blk_e <| then_n <| sr <| sv (r_assign rfl) <| wt <| wp_ret ?_
      obtain rfl := ends hm
      exact rt rfl (.tmp rfl .nil) ⟨_, _, rfl, hL.ext, rfl⟩

/-- store.Right -/
def m167_j0 (a0_0 : Bs) (a0_1 : Bs) (a0_2 : Bs) (a0_3 : Int) (a0_4 : Int) (a0_5 : J) (a0_6 : Bs) (a0_7 : List Ad) (v17_1 : Bool) : Option Int := (bif v17_1 then (some ((6 : Int))) else ((m157 a0_5).bind fun t6 => (bif (!t6) then none else (bif (decide ((256 : Int) < (a0_6.length : Int))) then none else (bif (decide ((16 : Int) < (a0_7.length : Int))) then none else ((m262 a0_0 a0_1 a0_2 a0_3 a0_4 a0_5 a0_6 a0_7).bind fun t10 => (bif (!t10) then none else (some ((0 : Int))))))))))
def m167 (a0_0 : Bs) (a0_1 : Bs) (a0_2 : Bs) (a0_3 : Int) (a0_4 : Int) (a0_5 : J) (a0_6 : Bs) (a0_7 : List Ad) : Option Int :=
  ((m191 a0_0 a0_1 a0_2 a0_3).bind fun t1 => (bif (!t1) then none else (bif (decide (a0_4 < (0 : Int))) then none else (bif (decide ((1000 : Int) < a0_4)) then none else ((m21 a0_5).bind fun t12 => (bif (t12 != (7 : Int)) then (m167_j0 a0_0 a0_1 a0_2 a0_3 a0_4 a0_5 a0_6 a0_7 true) else ((m70 a0_5).bind fun t14 => (m167_j0 a0_0 a0_1 a0_2 a0_3 a0_4 a0_5 a0_6 a0_7 (!t14)))))))))
set_option maxHeartbeats 20000000 in
set_option maxRecDepth 100000 in
theorem c167 : ∀ {H0 : Hp} {w0 : World} {a0_0 : Bs} {a0_1 : Bs} {a0_2 : Bs} {a0_3 : Int} {a0_4 : Int} {a0_5 : J} {a0_6 : Bs} {a0_7 : List Ad} {xa0_5 : Value} {aa0_6 : Option Addr} {ca0_6 : Nat} {aa0_7 : Option Addr} {ca0_7 : Nat}  (_ : Imm H0 w0) (_ : VR H0 xa0_5 a0_5) (_ : Sl cB8 H0 aa0_6 ca0_6 a0_6) (_ : Sl cAd H0 aa0_7 ca0_7 a0_7) {r : Int} (_ : m167 a0_0 a0_1 a0_2 a0_3 a0_4 a0_5 a0_6 a0_7 = some r), Ct Tryz.prog 167 [.agg (List.toArray [.string (mk a0_0), .string (mk a0_1), .string (mk a0_2), .int .i64 a0_3, .int .i64 a0_4, xa0_5, .slice aa0_6 (List.length a0_6) ca0_6, .slice aa0_7 (List.length a0_7) ca0_7])] [] H0 w0 fun v H' w' => v = .int .i64 r := by
  intro H0 w0 a0_0 a0_1 a0_2 a0_3 a0_4 a0_5 a0_6 a0_7 xa0_5 aa0_6 ca0_6 aa0_7 ca0_7  hI ha0_5 ha0_6 ha0_7 r hm
  have hL := L.start hI
  refine ct_of Tryz.func167 rfl Tryz.ntmps167 rfl (Nat.le_of_ble_eq_true rfl) ?_
  unfold m167 at hm
  refine sr ?_
  refine wl rfl (o_box 0 (c := [_, _, _, _, _, _, _, _]) hL rfl rfl fun b0 w hL => ?_)
  refine sv (r_assign rfl) <| wt <| wp_seq <| wp_block <| sr <| sv (r_fieldAddr fl_97_0 rfl) <| sv (r_loadk (hL.own 0 _ rfl) ag_50 rfl (vs := [_, _, _, _]) rfl rfl) ?_
  obtain ⟨t1, ht1, hm⟩ := bnd hm
  refine wl rfl (o_call0 hL fn_191 rfl (c191 hL.imm ht1) fun v H w hlet1 hL hR => ?_)
  replace ha0_5 := VR.mono hlet1 ha0_5
  replace ha0_6 := Sl.mono hlet1 ha0_6
  replace ha0_7 := Sl.mono hlet1 ha0_7
  obtain rfl := hR
  refine sv (r_not rfl) <| sv (r_assign rfl) <| wt ?_
  refine c_if hm rfl (fun hg2 hm => ?_) (fun hg2 hm => ?_)
  · cases hm
  · refine sr <| sv (r_fieldAddr fl_97_1 rfl) <| sv (r_load1 (hL.own 0 _ rfl) sc_3 rfl rfl) <| sv (r_lss rfl rfl) <| sv (r_move rfl) ?_
    refine m_if hm (fun hg3 hm => ?_) (fun hg3 hm => ?_)
    · cases hm
    · refine wlT rfl rfl rfl rfl hg3 (o_val (r_fieldAddr fl_97_1 rfl) ?_)
      refine wlT rfl rfl rfl rfl hg3 (o_val (r_load1 (hL.own 0 _ rfl) sc_3 rfl rfl) ?_)
      refine wlT rfl rfl rfl rfl hg3 (o_val (r_gtr rfl rfl) ?_)
      refine sv (r_pickF hg3 rfl rfl) <| sv (r_assign rfl) <| wt ?_
      refine c_if hm rfl (fun hg4 hm => ?_) (fun hg4 hm => ?_)
      · cases hm
      · refine w_join (fun a w => ∃ (v17_1 : Bool) (l : List (Nat × Value)) (H : Hp), a = fr 49 ([(1, .pointer (some ⟨b0, 0, none⟩)), (2, .int .i64 0), (17, .bool v17_1)] ++ l) [] ∧ L [] H0 w0 [(0, .cel b0 ((.string (mk a0_0)) :: (.string (mk a0_1)) :: (.string (mk a0_2)) :: (.int .i64 a0_3) :: (.int .i64 a0_4) :: xa0_5 :: (.slice aa0_6 (List.length a0_6) ca0_6) :: (.slice aa0_7 (List.length a0_7) ca0_7) :: []) 97)] H w ∧ VR H xa0_5 a0_5 ∧ Sl cB8 H aa0_6 ca0_6 a0_6 ∧ Sl cAd H aa0_7 ca0_7 a0_7 ∧ (m167_j0 a0_0 a0_1 a0_2 a0_3 a0_4 a0_5 a0_6 a0_7 v17_1) = some r) (fun a w hj => ?_) ?_
        · obtain ⟨v17_1, l, H, rfl, hL, ha0_5, ha0_6, ha0_7, hm⟩ := hj
          unfold m167_j0 at hm
          refine c_if hm rfl (fun hg5 hm => ?_) (fun hg5 hm => ?_)
          · refine sr <| sv (r_assign rfl) <| wt <| wp_ret <| blk_r <| then_r ?_
            obtain rfl := ends hm
            exact rt rfl (.tmp rfl .nil) ⟨_, _, rfl, hL.ext, rfl⟩
          · refine sr <| sv (r_fieldAddr fl_97_2 rfl) <| sv (r_loadk (hL.own 0 _ rfl) ag_33 rfl (vs := [_]) rfl rfl) ?_
            obtain ⟨t6, ht6, hm⟩ := bnd hm
            refine wl rfl (o_call0 hL fn_157 rfl (c157 hL.imm ha0_5 ht6) fun v H w hlet6 hL hR => ?_)
            replace ha0_5 := VR.mono hlet6 ha0_5
            replace ha0_6 := Sl.mono hlet6 ha0_6
            replace ha0_7 := Sl.mono hlet6 ha0_7
            obtain rfl := hR
            refine sv (r_not rfl) <| sv (r_move rfl) ?_
            refine m_if hm (fun hg7 hm => ?_) (fun hg7 hm => ?_)
            · cases hm
            · refine wlT rfl rfl rfl rfl hg7 (o_val (r_fieldAddr fl_97_3 rfl) ?_)
              refine wlT rfl rfl rfl rfl hg7 (o_val (r_load1 (hL.own 0 _ rfl) sc_87 rfl rfl) ?_)
              refine wlT rfl rfl rfl rfl hg7 (o_val (r_lenS rfl Tryz.underlying87 rfl) ?_)
              refine wlT rfl rfl rfl rfl hg7 (o_val (r_gtr rfl rfl) ?_)
              refine sv (r_pickF hg7 rfl rfl) <| sv (r_move rfl) ?_
              refine m_if hm (fun hg8 hm => ?_) (fun hg8 hm => ?_)
              · cases hm
              · refine wlT rfl rfl rfl rfl hg8 (o_val (r_fieldAddr fl_97_4 rfl) ?_)
                refine wlT rfl rfl rfl rfl hg8 (o_val (r_load1 (hL.own 0 _ rfl) sc_51 rfl rfl) ?_)
                refine wlT rfl rfl rfl rfl hg8 (o_val (r_lenS rfl Tryz.underlying51 rfl) ?_)
                refine wlT rfl rfl rfl rfl hg8 (o_val (r_gtr rfl rfl) ?_)
                refine sv (r_pickF hg8 rfl rfl) <| sv (r_assign rfl) <| wt ?_
                refine c_if hm rfl (fun hg9 hm => ?_) (fun hg9 hm => ?_)
                · cases hm
                · refine sr <| sv (r_loadk (hL.own 0 _ rfl) ag_97 rfl (vs := [_, _, _, _, _, _, _, _]) rfl rfl) ?_
                  obtain ⟨t10, ht10, hm⟩ := bnd hm
                  refine wl rfl (o_call0 hL fn_262 rfl (c262 hL.imm ha0_5 ha0_6 ha0_7 ht10) fun v H w hlet10 hL hR => ?_)
                  replace ha0_5 := VR.mono hlet10 ha0_5
                  replace ha0_6 := Sl.mono hlet10 ha0_6
                  replace ha0_7 := Sl.mono hlet10 ha0_7
                  obtain rfl := hR
                  refine sv (r_not rfl) <| sv (r_assign rfl) <| wt ?_
                  refine c_if hm rfl (fun hg11 hm => ?_) (fun hg11 hm => ?_)
                  · cases hm
                  · refine wp_skip <| blk_n <| then_n <| sr <| sv (r_assign rfl) <| wt <| wp_ret ?_
                    obtain rfl := ends hm
                    exact rt rfl (.tmp rfl .nil) ⟨_, _, rfl, hL.ext, rfl⟩
        · refine rg <| sv (r_fieldAddr fl_97_2 rfl) <| sv (r_loadk (hL.own 0 _ rfl) ag_33 rfl (vs := [_]) rfl rfl) ?_
          obtain ⟨t12, ht12, hm⟩ := bnd hm
          refine wl rfl (o_call0 hL fn_21 rfl (c21 hL.imm ha0_5 ht12) fun v H w hlet12 hL hR => ?_)
          replace ha0_5 := VR.mono hlet12 ha0_5
          replace ha0_6 := Sl.mono hlet12 ha0_6
          replace ha0_7 := Sl.mono hlet12 ha0_7
          obtain rfl := hR
          refine sv (r_nei rfl rfl) <| sv (r_move rfl) ?_
          refine m_if hm (fun hg13 hm => ?_) (fun hg13 hm => ?_)
          · refine wlF rfl rfl rfl rfl hg13 rfl <| wlF rfl rfl rfl rfl hg13 rfl <| wlF rfl rfl rfl rfl hg13 rfl <| wlF rfl rfl rfl rfl hg13 rfl <| sv (r_pickT hg13 rfl rfl) <| sv (r_assign rfl) <| wt ?_
            exact ⟨_, _, _, fr_pre _ rfl, hL.pick _ rfl, ha0_5, ha0_6, ha0_7, hm⟩
          · refine wlT rfl rfl rfl rfl hg13 (o_val (r_fieldAddr fl_97_2 rfl) ?_)
            refine wlT rfl rfl rfl rfl hg13 (o_val (r_loadk (hL.own 0 _ rfl) ag_33 rfl (vs := [_]) rfl rfl) ?_)
            obtain ⟨t14, ht14, hm⟩ := bnd hm
            refine wlT rfl rfl rfl rfl hg13 (o_call0 hL fn_70 rfl (c70 hL.imm ha0_5 ht14) fun v H w hlet14 hL hR => ?_)
            replace ha0_5 := VR.mono hlet14 ha0_5
            replace ha0_6 := Sl.mono hlet14 ha0_6
            replace ha0_7 := Sl.mono hlet14 ha0_7
            obtain rfl := hR
            refine wlT rfl rfl rfl rfl hg13 (o_val (r_not rfl) ?_)
            refine sv (r_pickF hg13 rfl rfl) <| sv (r_assign rfl) <| wt ?_
            exact ⟨_, _, _, fr_pre _ rfl, hL.pick _ rfl, ha0_5, ha0_6, ha0_7, hm⟩

end Go.Proofs.YtcjphpenelnohaaGreatDoor
/- Go: by tools/gen.py -/
set_option linter.unusedVariables false
namespace Go.Proofs.YtcjphpenelnohaaGreatDoor
open Go.RowKit

/-- slices.IndexFunc[[]address.Address,address.Address] -/
def m190r_l0 (a0 : List Ad) : Nat → Option Int
  | 0 => none
  | k + 1 => (bif (decide ((0 : Int) < (a0.length : Int))) then none else (some (((-1) : Int))))
def m190r (a0 : List Ad) : Option Int :=
  (m190r_l0 a0 FUEL )
set_option maxHeartbeats 20000000 in
set_option maxRecDepth 100000 in
theorem c190r : ∀ {H0 : Hp} {w0 : World} {a0 : List Ad} {aa0 : Option Addr} {ca0 : Nat}  (_ : Imm H0 w0) (_ : Sl cAd H0 aa0 ca0 a0) {r : Int} (_ : m190r a0 = some r), Ct Tryz.prog 190 [.slice aa0 (List.length a0) ca0, .func (.func 275) #[] (List.toArray [])] [] H0 w0 fun v H' w' => v = .int .i64 r := by
  intro H0 w0 a0 aa0 ca0  hI ha0 r hm
  have hL := L.start hI
  refine ct_of Tryz.func190 rfl Tryz.ntmps190 rfl (Nat.le_of_ble_eq_true rfl) ?_
  unfold m190r at hm
  refine sr <| sv (r_assign rfl) <| wt <| wp_seq <| sr <| sv (r_move rfl) <| sv (r_lenS rfl Tryz.underlying51 rfl) <| sv (r_move rfl) <| wt <| wp_block <| wp_loop_fuel (k := FUEL) (fun k a w => ∃  (l : List (Nat × Value)) (H : Hp), a = fr 19 ([(0, .slice aa0 (List.length a0) ca0), (1, .func (.func 275) #[] (List.toArray [])), (4, .int .i64 0), (7, .int .i64 (a0.length : Int)), (8, .int .i64 0)] ++ l) [] ∧ L [] H0 w0 [] H w ∧ Sl cAd H aa0 ca0 a0 ∧ (m190r_l0 a0 k ) = some r) ⟨_, _, fr_pre _ rfl, hL.pick _ rfl, ha0, hm⟩ ?_
  rintro k0 a w ⟨l, H, rfl, hL, ha0, hm⟩
  cases k0 with
  | zero => rw [m190r_l0.eq_1] at hm; cases hm
  | succ k0 =>
    rw [m190r_l0.eq_2] at hm
    refine sr <| sv (r_lss rfl rfl) <| wt <| wp_seq ?_
    refine c_if hm rfl (fun hg1 hm => ?_) (fun hg1 hm => ?_)
    · cases hm
    · refine wp_exit <| then_e <| then_e <| blk_e <| then_n <| sr <| sv (r_assign rfl) <| wt <| wp_ret ?_
      obtain rfl := ends hm
      exact rt rfl (.tmp rfl .nil) ⟨_, _, rfl, hL.ext, rfl⟩

/-- slices.ContainsFunc[[]address.Address,address.Address] -/
def m110r (a0 : List Ad) : Option Bool :=
  ((m190r a0).bind fun t1 => (some ((decide ((0 : Int) ≤ t1)))))
set_option maxHeartbeats 20000000 in
set_option maxRecDepth 100000 in
theorem c110r : ∀ {H0 : Hp} {w0 : World} {a0 : List Ad} {aa0 : Option Addr} {ca0 : Nat}  (_ : Imm H0 w0) (_ : Sl cAd H0 aa0 ca0 a0) {r : Bool} (_ : m110r a0 = some r), Ct Tryz.prog 110 [.slice aa0 (List.length a0) ca0, .func (.func 275) #[] (List.toArray [])] [] H0 w0 fun v H' w' => v = .bool r := by
  intro H0 w0 a0 aa0 ca0  hI ha0 r hm
  have hL := L.start hI
  refine ct_of Tryz.func110 rfl Tryz.ntmps110 rfl (Nat.le_of_ble_eq_true rfl) ?_
  unfold m110r at hm
  refine sr <| sv (r_assign rfl) <| wt <| sr <| sv (r_move rfl) <| sv (r_move rfl) ?_
  obtain ⟨t1, ht1, hm⟩ := bnd hm
  refine wl rfl (o_call0 hL fn_190 rfl (c190r hL.imm ha0 ht1) fun v H w hlet1 hL hR => ?_)
  obtain rfl := hR
  refine sv (r_geq rfl rfl) <| sv (r_assign rfl) <| wt <| wp_ret ?_
  obtain rfl := ends hm
  exact rt rfl (.tmp rfl .nil) ⟨_, _, rfl, hL.ext, rfl⟩

/-- (order.Node).right -/
def m185 (a0_0 : Bs) (a0_1 : Bs) (a0_2 : Bs) (a0_3 : Int) (a0_4 : List Ad) : Option Bool :=
  ((m191 a0_0 a0_1 a0_2 a0_3).bind fun t1 => (bif t1 then ((m110r a0_4).bind fun t3 => (some ((!t3)))) else none))
set_option maxHeartbeats 20000000 in
set_option maxRecDepth 100000 in
theorem c185 : ∀ {H0 : Hp} {w0 : World} {a0_0 : Bs} {a0_1 : Bs} {a0_2 : Bs} {a0_3 : Int} {a0_4 : List Ad} {aa0_4 : Option Addr} {ca0_4 : Nat}  (_ : Imm H0 w0) (_ : Sl cAd H0 aa0_4 ca0_4 a0_4) {r : Bool} (_ : m185 a0_0 a0_1 a0_2 a0_3 a0_4 = some r), Ct Tryz.prog 185 [.agg (List.toArray [.string (mk a0_0), .string (mk a0_1), .string (mk a0_2), .int .i64 a0_3, .slice aa0_4 (List.length a0_4) ca0_4])] [] H0 w0 fun v H' w' => v = .bool r := by
  intro H0 w0 a0_0 a0_1 a0_2 a0_3 a0_4 aa0_4 ca0_4  hI ha0_4 r hm
  have hL := L.start hI
  refine ct_of Tryz.func185 rfl Tryz.ntmps185 rfl (Nat.le_of_ble_eq_true rfl) ?_
  unfold m185 at hm
  refine sr ?_
  refine wl rfl (o_box 0 (c := [_, _, _, _, _]) hL rfl rfl fun b0 w hL => ?_)
  refine sv (r_assign rfl) <| wt <| sr <| sv (r_fieldAddr fl_53_0 rfl) <| sv (r_loadk (hL.own 0 _ rfl) ag_50 rfl (vs := [_, _, _, _]) rfl rfl) ?_
  obtain ⟨t1, ht1, hm⟩ := bnd hm
  refine wl rfl (o_call0 hL fn_191 rfl (c191 hL.imm ht1) fun v H w hlet1 hL hR => ?_)
  replace ha0_4 := Sl.mono hlet1 ha0_4
  obtain rfl := hR
  refine sv (r_move rfl) ?_
  refine m_if hm (fun hg2 hm => ?_) (fun hg2 hm => ?_)
  · refine wlT rfl rfl rfl rfl hg2 (o_val (r_fieldAddr fl_53_1 rfl) ?_)
    refine wlT rfl rfl rfl rfl hg2 (o_val (r_load1 (hL.own 0 _ rfl) sc_51 rfl rfl) ?_)
    obtain ⟨t3, ht3, hm⟩ := bnd hm
    refine wlT rfl rfl rfl rfl hg2 (o_call0 hL fn_110 rfl (c110r hL.imm ha0_4 ht3) fun v H w hlet3 hL hR => ?_)
    obtain rfl := hR
    refine wlT rfl rfl rfl rfl hg2 (o_val (r_not rfl) ?_)
    refine sv (r_pickT hg2 rfl rfl) <| sv (r_assign rfl) <| wt <| wp_ret ?_
    obtain rfl := ends hm
    exact rt rfl (.tmp rfl .nil) ⟨_, _, rfl, hL.ext, rfl⟩
  · cases hm

/-- order.wrong$1 -/
def m184 (a0_0 : Bs) (a0_1 : Bs) (a0_2 : Bs) (a0_3 : Int) (a0_4 : List Ad) : Option Bool :=
  ((m185 a0_0 a0_1 a0_2 a0_3 a0_4).bind fun t1 => (some ((!t1))))
set_option maxHeartbeats 20000000 in
set_option maxRecDepth 100000 in
theorem c184 : ∀ {H0 : Hp} {w0 : World} {a0_0 : Bs} {a0_1 : Bs} {a0_2 : Bs} {a0_3 : Int} {a0_4 : List Ad} {aa0_4 : Option Addr} {ca0_4 : Nat}  (_ : Imm H0 w0) (_ : Sl cAd H0 aa0_4 ca0_4 a0_4) {r : Bool} (_ : m184 a0_0 a0_1 a0_2 a0_3 a0_4 = some r), Ct Tryz.prog 184 [.agg (List.toArray [.string (mk a0_0), .string (mk a0_1), .string (mk a0_2), .int .i64 a0_3, .slice aa0_4 (List.length a0_4) ca0_4])] [] H0 w0 fun v H' w' => v = .bool r := by
  intro H0 w0 a0_0 a0_1 a0_2 a0_3 a0_4 aa0_4 ca0_4  hI ha0_4 r hm
  have hL := L.start hI
  refine ct_of Tryz.func184 rfl Tryz.ntmps184 rfl (Nat.le_of_ble_eq_true rfl) ?_
  unfold m184 at hm
  refine sr ?_
  refine wl rfl (o_box 0 (c := [_, _, _, _, _]) hL rfl rfl fun b0 w hL => ?_)
  refine sv (r_assign rfl) <| wt <| sr <| sv (r_loadk (hL.own 0 _ rfl) ag_53 rfl (vs := [_, _, _, _, _]) rfl rfl) ?_
  obtain ⟨t1, ht1, hm⟩ := bnd hm
  refine wl rfl (o_call0 hL fn_185 rfl (c185 hL.imm ha0_4 ht1) fun v H w hlet1 hL hR => ?_)
  obtain rfl := hR
  refine sv (r_not rfl) <| sv (r_assign rfl) <| wt <| wp_ret ?_
  obtain rfl := ends hm
  exact rt rfl (.tmp rfl .nil) ⟨_, _, rfl, hL.ext, rfl⟩

/-- slices.IndexFunc[[]order.Node,order.Node] -/
def m101r_l0 (a0 : List Nd) : Nat → Int → Option Int
  | 0, _ => none
  | k + 1, v8_1 => (bif (decide (v8_1 < (a0.length : Int))) then (bif (decide (0 ≤ v8_1 ∧ v8_1 < (a0.length : Int))) then ((m184 ((a0.getD (v8_1).toNat default).at_.prov) ((a0.getD (v8_1).toNat default).at_.knd) ((a0.getD (v8_1).toNat default).at_.name) ((a0.getD (v8_1).toNat default).at_.idx) ((a0.getD (v8_1).toNat default).needs)).bind fun t4 => (bif t4 then none else (m101r_l0 a0 k (IntKind.wrap .i64 (v8_1 + (1 : Int)))))) else none) else (some (((-1) : Int))))
def m101r (a0 : List Nd) : Option Int :=
  (m101r_l0 a0 FUEL (0 : Int))
set_option maxHeartbeats 20000000 in
set_option maxRecDepth 100000 in
theorem c101r : ∀ {H0 : Hp} {w0 : World} {a0 : List Nd} {aa0 : Option Addr} {ca0 : Nat}  (_ : Imm H0 w0) (_ : Sl cNd H0 aa0 ca0 a0) {r : Int} (_ : m101r a0 = some r), Ct Tryz.prog 101 [.slice aa0 (List.length a0) ca0, .func (.func 184) #[] (List.toArray [])] [] H0 w0 fun v H' w' => v = .int .i64 r := by
  intro H0 w0 a0 aa0 ca0  hI ha0 r hm
  have hL := L.start hI
  refine ct_of Tryz.func101 rfl Tryz.ntmps101 rfl (Nat.le_of_ble_eq_true rfl) ?_
  unfold m101r at hm
  refine sr <| sv (r_assign rfl) <| wt <| wp_seq <| sr <| sv (r_move rfl) <| sv (r_lenS rfl Tryz.underlying47 rfl) <| sv (r_move rfl) <| wt <| wp_block <| wp_loop_fuel (k := FUEL) (fun k a w => ∃ (v8_1 : Int) (l : List (Nat × Value)) (H : Hp), a = fr 19 ([(0, .slice aa0 (List.length a0) ca0), (1, .func (.func 184) #[] (List.toArray [])), (4, .int .i64 0), (7, .int .i64 (a0.length : Int)), (8, .int .i64 v8_1)] ++ l) [] ∧ L [] H0 w0 [] H w ∧ Sl cNd H aa0 ca0 a0 ∧ (m101r_l0 a0 k v8_1) = some r) ⟨_, _, _, fr_pre _ rfl, hL.pick _ rfl, ha0, hm⟩ ?_
  rintro k0 a w ⟨v8_1, l, H, rfl, hL, ha0, hm⟩
  cases k0 with
  | zero => rw [m101r_l0.eq_1] at hm; cases hm
  | succ k0 =>
    rw [m101r_l0.eq_2] at hm
    refine sr <| sv (r_lss rfl rfl) <| wt <| wp_seq ?_
    refine c_if hm rfl (fun hg1 hm => ?_) (fun hg1 hm => ?_)
    · refine wp_skip <| then_n <| wp_seq <| wp_block <| sr <| sv (r_move rfl) <| sv (r_assign rfl) <| wt <| sr <| sv (r_move rfl) <| sv (r_move rfl) <| sv (r_move rfl) ?_
      obtain ⟨hg3, hm⟩ := grd hm
      obtain ⟨be2, oe2, _, hae2, hce2, ⟨ae24, ce24, rfl, he24⟩⟩ := Sl.at ha0 default hg3
      refine sv (r_indexAddr el_47 hg3 hae2 rfl rfl) <| sv (r_loadHk hL.imm ag_53 rfl (vs := [_, _, _, _, _]) hce2 rfl) ?_
      obtain ⟨t4, ht4, hm⟩ := bnd hm
      refine wl rfl (v_call0 rfl hL fn_184 rfl (c184 hL.imm he24 ht4) fun v H w hlet4 hL hR => ?_)
      replace ha0 := Sl.mono hlet4 ha0
      obtain rfl := hR
      refine wt ?_
      refine c_if hm rfl (fun hg5 hm => ?_) (fun hg5 hm => ?_)
      · cases hm
      · refine wp_skip <| blk_n <| then_n <| rg <| sv (r_add rfl rfl) <| sv (r_move rfl) <| wt ?_
        exact ⟨k0, Nat.lt_succ_self k0, _, _, _, fr_pre _ rfl, hL.pick _ rfl, ha0, hm⟩
    · refine wp_exit <| then_e <| then_e <| blk_e <| then_n <| sr <| sv (r_assign rfl) <| wt <| wp_ret ?_
      obtain rfl := ends hm
      exact rt rfl (.tmp rfl .nil) ⟨_, _, rfl, hL.ext, rfl⟩

/-- slices.ContainsFunc[[]order.Node,order.Node] -/
def m23r (a0 : List Nd) : Option Bool :=
  ((m101r a0).bind fun t1 => (some ((decide ((0 : Int) ≤ t1)))))
set_option maxHeartbeats 20000000 in
set_option maxRecDepth 100000 in
theorem c23r : ∀ {H0 : Hp} {w0 : World} {a0 : List Nd} {aa0 : Option Addr} {ca0 : Nat}  (_ : Imm H0 w0) (_ : Sl cNd H0 aa0 ca0 a0) {r : Bool} (_ : m23r a0 = some r), Ct Tryz.prog 23 [.slice aa0 (List.length a0) ca0, .func (.func 184) #[] (List.toArray [])] [] H0 w0 fun v H' w' => v = .bool r := by
  intro H0 w0 a0 aa0 ca0  hI ha0 r hm
  have hL := L.start hI
  refine ct_of Tryz.func23 rfl Tryz.ntmps23 rfl (Nat.le_of_ble_eq_true rfl) ?_
  unfold m23r at hm
  refine sr <| sv (r_assign rfl) <| wt <| sr <| sv (r_move rfl) <| sv (r_move rfl) ?_
  obtain ⟨t1, ht1, hm⟩ := bnd hm
  refine wl rfl (o_call0 hL fn_101 rfl (c101r hL.imm ha0 ht1) fun v H w hlet1 hL hR => ?_)
  obtain rfl := hR
  refine sv (r_geq rfl rfl) <| sv (r_assign rfl) <| wt <| wp_ret ?_
  obtain rfl := ends hm
  exact rt rfl (.tmp rfl .nil) ⟨_, _, rfl, hL.ext, rfl⟩

/-- order.wrong -/
def m102_l2 (nx1 : Int → Option Int) (a0 : List Nd) (v39_2 : Int) : Nat → Option Int
  | 0 => none
  | k + 1 => (bif (decide ((0 : Int) < (((a0.getD (v39_2).toNat default).needs).length : Int))) then none else (nx1 (IntKind.wrap .i64 (v39_2 + (1 : Int)))))
def m102_l1 (a0 : List Nd) : Nat → Int → Option Int
  | 0, _ => none
  | k + 1, v39_2 => (bif (decide (v39_2 < (a0.length : Int))) then (bif (decide (0 ≤ v39_2 ∧ v39_2 < (a0.length : Int))) then (m102_l2 (m102_l1 a0 k) a0 v39_2 FUEL ) else none) else (some ((0 : Int))))
def m102_j0 (a0 : List Nd) (u0R_1 : List (Ad × List Ad)) : Option Int := (m102_l1 a0 FUEL (0 : Int))
def m102_l3 (a0 : List Nd) : Nat → Int → List (Ad × List Ad) → Option Int
  | 0, _, _ => none
  | k + 1, v19_4, u0R_4 => (bif (decide (v19_4 < (a0.length : Int))) then (bif (decide (0 ≤ v19_4 ∧ v19_4 < (a0.length : Int))) then (bif (okAd ((a0.getD (v19_4).toNat default).at_)) then (bif (mhas u0R_4 ((a0.getD (v19_4).toNat default).at_)) then none else (bif (decide (List.length (mput ((a0.getD (v19_4).toNat default).at_) ((a0.getD (v19_4).toNat default).needs) u0R_4) ≤ LIM)) then (m102_l3 a0 k (IntKind.wrap .i64 (v19_4 + (1 : Int))) (mput ((a0.getD (v19_4).toNat default).at_) ((a0.getD (v19_4).toNat default).needs) u0R_4)) else none)) else none) else none) else (m102_j0 a0 u0R_4))
def m102 (a0 : List Nd) : Option Int :=
  ((m23r a0).bind fun t1 => (bif t1 then none else (m102_l3 a0 FUEL (0 : Int) ([] : List (Ad × List Ad)))))
set_option maxHeartbeats 20000000 in
set_option maxRecDepth 100000 in
theorem c102 : ∀ {H0 : Hp} {w0 : World} {a0 : List Nd} {aa0 : Option Addr} {ca0 : Nat}  (_ : Imm H0 w0) (_ : Sl cNd H0 aa0 ca0 a0) {r : Int} (_ : m102 a0 = some r), Ct Tryz.prog 102 [.slice aa0 (List.length a0) ca0] [] H0 w0 fun v H' w' => v = .int .i64 r := by
  intro H0 w0 a0 aa0 ca0  hI ha0 r hm
  have hL := L.start hI
  refine ct_of Tryz.func102 rfl Tryz.ntmps102 rfl (Nat.le_of_ble_eq_true rfl) ?_
  unfold m102 at hm
  refine sr <| sv (r_assign rfl) <| wt <| wp_seq <| sr <| sv (r_move rfl) ?_
  obtain ⟨t1, ht1, hm⟩ := bnd hm
  refine wl rfl (o_call0 hL fn_23 rfl (c23r hL.imm ha0 ht1) fun v H w hlet1 hL hR => ?_)
  replace ha0 := Sl.mono hlet1 ha0
  obtain rfl := hR
  refine wt ?_
  refine c_if hm rfl (fun hg2 hm => ?_) (fun hg2 hm => ?_)
  · cases hm
  · refine wp_skip <| then_n <| sr ?_
    refine wl rfl (o_makeMap 0 hL fun g0 w hL => ?_)
    have hww3 : TR kAd (ev1 (cSl cAd)) hL.hp #[] 0 ([] : List (Ad × List Ad)) := TR.nil
    refine sv (r_assign rfl) <| wt ?_
    refine w_join (fun a w => ∃ (u0R_1 : List (Ad × List Ad)) (eu0R_1 : Array MapEntry) (ku0R_1 : Nat) (l : List (Nat × Value)) (H : Hp), a = fr 60 ([(0, .slice aa0 (List.length a0) ca0), (2, .int .i64 0), (3, .map (some g0))] ++ l) [] ∧ L [] H0 w0 [(0, .obj g0 (.map eu0R_1 ku0R_1))] H w ∧ Sl cNd H aa0 ca0 a0 ∧ TR kAd (ev1 (cSl cAd)) H eu0R_1 ku0R_1 u0R_1 ∧ (m102_j0 a0 u0R_1) = some r) (fun a w hj => ?_) ?_
    · obtain ⟨u0R_1, eu0R_1, ku0R_1, l, H, rfl, hL, ha0, hu0R_1, hm⟩ := hj
      unfold m102_j0 at hm
      refine wp_seq <| sr <| sv (r_move rfl) <| sv (r_lenS rfl Tryz.underlying47 rfl) <| sv (r_move rfl) <| wt <| wp_block <| wp_loop_fuel (k := FUEL) (fun k a w => ∃ (v39_2 : Int) (l : List (Nat × Value)) (H : Hp), a = fr 60 ([(2, .int .i64 0), (3, .map (some g0)), (37, .slice aa0 (List.length a0) ca0), (38, .int .i64 (a0.length : Int)), (39, .int .i64 v39_2)] ++ l) [] ∧ L [] H0 w0 [(0, .obj g0 (.map eu0R_1 ku0R_1))] H w ∧ Sl cNd H aa0 ca0 a0 ∧ TR kAd (ev1 (cSl cAd)) H eu0R_1 ku0R_1 u0R_1 ∧ (m102_l1 a0 k v39_2) = some r) ⟨_, _, _, fr_pre _ rfl, hL.pick _ rfl, ha0, hu0R_1, hm⟩ ?_
      rintro k1 a w ⟨v39_2, l, H, rfl, hL, ha0, hu0R_1, hm⟩
      cases k1 with
      | zero => rw [m102_l1.eq_1] at hm; cases hm
      | succ k1 =>
        rw [m102_l1.eq_2] at hm
        refine sr <| sv (r_lss rfl rfl) <| wt <| wp_seq ?_
        refine c_if hm rfl (fun hg4 hm => ?_) (fun hg4 hm => ?_)
        · refine wp_skip <| then_n <| wp_seq <| wp_block <| sr ?_
          obtain ⟨hg6, hm⟩ := grd hm
          obtain ⟨be5, oe5, _, hae5, hce5, ⟨ae54, ce54, rfl, he54⟩⟩ := Sl.at ha0 default hg6
          refine sv (r_indexAddr el_47 hg6 hae5 rfl rfl) <| sv (r_loadHk hL.imm ag_53 rfl (vs := [_, _, _, _, _]) hce5 rfl) ?_
          refine wl rfl (o_alloc 1 (c := [_, _, _, _, _]) hL ze_53 rfl fun b1 w hL => ?_)
          refine wl rfl (o_storek (i := 1) (vs := [_, _, _, _, _]) hL ag_53 rfl rfl rfl rfl (Nat.le_of_ble_eq_true rfl) (List.forall_mem_cons.2 ⟨rfl, (List.forall_mem_cons.2 ⟨rfl, (List.forall_mem_cons.2 ⟨rfl, (List.forall_mem_cons.2 ⟨rfl, (List.forall_mem_cons.2 ⟨rfl, List.forall_mem_nil _⟩)⟩)⟩)⟩)⟩) (c' := _ :: _ :: _ :: _ :: _ :: []) rfl fun w hL => ?_)
          refine wt <| sr <| sv (r_fieldAddr fl_53_1 rfl) <| sv (r_load1 (hL.own 1 _ rfl) sc_51 rfl rfl) <| sv (r_lenS rfl Tryz.underlying51 rfl) <| sv (r_move rfl) <| wt <| wp_block <| wp_loop_fuel (k := FUEL) (fun k a w => ∃  (l : List (Nat × Value)) (H : Hp), a = fr 60 ([(2, .int .i64 0), (3, .map (some g0)), (9, .pointer (some ⟨b1, 0, none⟩)), (37, .slice aa0 (List.length a0) ca0), (38, .int .i64 (a0.length : Int)), (39, .int .i64 v39_2), (40, .bool (decide (v39_2 < (a0.length : Int)))), (41, .pointer (some ⟨be5, oe5, none⟩)), (42, .agg (List.toArray [.string (mk ((a0.getD (v39_2).toNat default).at_.prov)), .string (mk ((a0.getD (v39_2).toNat default).at_.knd)), .string (mk ((a0.getD (v39_2).toNat default).at_.name)), .int .i64 ((a0.getD (v39_2).toNat default).at_.idx), .slice ae54 (List.length ((a0.getD (v39_2).toNat default).needs)) ce54])), (43, .pointer (some ⟨b1, 4, none⟩)), (44, .slice ae54 (List.length ((a0.getD (v39_2).toNat default).needs)) ce54), (45, .int .i64 (((a0.getD (v39_2).toNat default).needs).length : Int)), (46, .int .i64 0)] ++ l) [] ∧ L [] H0 w0 [(0, .obj g0 (.map eu0R_1 ku0R_1)), (1, .cel b1 ((.string (mk ((a0.getD (v39_2).toNat default).at_.prov))) :: (.string (mk ((a0.getD (v39_2).toNat default).at_.knd))) :: (.string (mk ((a0.getD (v39_2).toNat default).at_.name))) :: (.int .i64 ((a0.getD (v39_2).toNat default).at_.idx)) :: (.slice ae54 (List.length ((a0.getD (v39_2).toNat default).needs)) ce54) :: []) 53)] H w ∧ Sl cNd H aa0 ca0 a0 ∧ TR kAd (ev1 (cSl cAd)) H eu0R_1 ku0R_1 u0R_1 ∧ Sl cAd H ae54 ce54 ((a0.getD (v39_2).toNat default).needs) ∧ HC H be5 oe5 [.string (mk ((a0.getD (v39_2).toNat default).at_.prov)), .string (mk ((a0.getD (v39_2).toNat default).at_.knd)), .string (mk ((a0.getD (v39_2).toNat default).at_.name)), .int .i64 ((a0.getD (v39_2).toNat default).at_.idx), .slice ae54 (List.length ((a0.getD (v39_2).toNat default).needs)) ce54] ∧ (m102_l2 (m102_l1 a0 k1) a0 v39_2 k ) = some r) ⟨_, _, fr_pre _ rfl, hL.pick _ rfl, ha0, hu0R_1, he54, hce5, hm⟩ ?_
          rintro k2 a w ⟨l, H, rfl, hL, ha0, hu0R_1, he54, hce5, hm⟩
          cases k2 with
          | zero => rw [m102_l2.eq_1] at hm; cases hm
          | succ k2 =>
            rw [m102_l2.eq_2] at hm
            refine sr <| sv (r_lss rfl rfl) <| wt <| wp_seq ?_
            refine c_if hm rfl (fun hg7 hm => ?_) (fun hg7 hm => ?_)
            · cases hm
            · refine wp_exit <| then_e <| then_e <| blk_e <| blk_n <| then_n <| rg <| sv (r_add rfl rfl) <| sv (r_move rfl) <| wt ?_
              exact ⟨k1, Nat.lt_succ_self k1, _, _, _, fr_pre _ rfl, hL.pick _ rfl, ha0, hu0R_1, hm⟩
        · refine wp_exit <| then_e <| then_e <| blk_e <| then_n <| sr <| sv (r_assign rfl) <| wt <| wp_ret ?_
          obtain rfl := ends hm
          exact rt rfl (.tmp rfl .nil) ⟨_, _, rfl, hL.ext, rfl⟩
    · refine sr <| sv (r_move rfl) <| sv (r_lenS rfl Tryz.underlying47 rfl) <| sv (r_move rfl) <| wt <| wp_block <| wp_loop_fuel (k := FUEL) (fun k a w => ∃ (v19_4 : Int) (u0R_4 : List (Ad × List Ad)) (eu0R_4 : Array MapEntry) (ku0R_4 : Nat) (l : List (Nat × Value)) (H : Hp), a = fr 60 ([(0, .slice aa0 (List.length a0) ca0), (2, .int .i64 0), (3, .map (some g0)), (17, .slice aa0 (List.length a0) ca0), (18, .int .i64 (a0.length : Int)), (19, .int .i64 v19_4)] ++ l) [] ∧ L [] H0 w0 [(0, .obj g0 (.map eu0R_4 ku0R_4))] H w ∧ Sl cNd H aa0 ca0 a0 ∧ TR kAd (ev1 (cSl cAd)) H eu0R_4 ku0R_4 u0R_4 ∧ (m102_l3 a0 k v19_4 u0R_4) = some r) ⟨_, _, _, _, _, _, fr_pre _ rfl, hL.pick _ rfl, ha0, hww3, hm⟩ ?_
      rintro k3 a w ⟨v19_4, u0R_4, eu0R_4, ku0R_4, l, H, rfl, hL, ha0, hu0R_4, hm⟩
      cases k3 with
      | zero => rw [m102_l3.eq_1] at hm; cases hm
      | succ k3 =>
        rw [m102_l3.eq_2] at hm
        refine sr <| sv (r_lss rfl rfl) <| wt <| wp_seq ?_
        refine c_if hm rfl (fun hg8 hm => ?_) (fun hg8 hm => ?_)
        · refine wp_skip <| then_n <| wp_seq <| wp_block <| sr ?_
          obtain ⟨hg10, hm⟩ := grd hm
          obtain ⟨be9, oe9, _, hae9, hce9, ⟨ae94, ce94, rfl, he94⟩⟩ := Sl.at ha0 default hg10
          refine sv (r_indexAddr el_47 hg10 hae9 rfl rfl) <| sv (r_loadHk hL.imm ag_53 rfl (vs := [_, _, _, _, _]) hce9 rfl) ?_
          refine wl rfl (o_alloc 1 (c := [_, _, _, _, _]) hL ze_53 rfl fun b1 w hL => ?_)
          refine wl rfl (o_storek (i := 1) (vs := [_, _, _, _, _]) hL ag_53 rfl rfl rfl rfl (Nat.le_of_ble_eq_true rfl) (List.forall_mem_cons.2 ⟨rfl, (List.forall_mem_cons.2 ⟨rfl, (List.forall_mem_cons.2 ⟨rfl, (List.forall_mem_cons.2 ⟨rfl, (List.forall_mem_cons.2 ⟨rfl, List.forall_mem_nil _⟩)⟩)⟩)⟩)⟩) (c' := _ :: _ :: _ :: _ :: _ :: []) rfl fun w hL => ?_)
          refine wt <| wp_seq <| sr <| sv (r_move rfl) <| sv (r_fieldAddr fl_53_0 rfl) <| sv (r_loadk (hL.own 1 _ rfl) ag_50 rfl (vs := [_, _, _, _]) rfl rfl) ?_
          obtain ⟨hg12, hm⟩ := grd hm
          obtain ⟨xy11, ⟨ay11, cy11, hqy11, hsy11⟩, hry11⟩ := TR.look hu0R_4 Tryz.underlying178 ze_51 (k := ((a0.getD (v19_4).toNat default).at_)) hg12 (d := ([] : List Ad)) ⟨none, 0, rfl, Sl.nil⟩ true
          obtain rfl := List.head_eq_of_cons_eq hqy11
          refine sv (r_lookup (hry11 _ (hL.own 0 _ rfl)) rfl rfl) <| sv (r_move rfl) <| sv (r_extract rfl rfl) <| sv (r_extract rfl rfl) <| sv (r_assign rfl) <| sv (r_assign rfl) <| wt <| sr <| sv (r_move rfl) <| wt ?_
          refine c_if hm rfl (fun hg13 hm => ?_) (fun hg13 hm => ?_)
          · cases hm
          · refine wp_skip <| then_n <| rg <| sv (r_move rfl) <| sv (r_fieldAddr fl_53_0 rfl) <| sv (r_loadk (hL.own 1 _ rfl) ag_50 rfl (vs := [_, _, _, _]) rfl rfl) <| sv (r_fieldAddr fl_53_1 rfl) <| sv (r_load1 (hL.own 1 _ rfl) sc_51 rfl rfl) ?_
            obtain ⟨hg14, hm⟩ := grd hm
            refine wl rfl (o_mapUpdate (i := 0) (k0 := (a0.getD (v19_4).toNat default).at_) (x0 := (a0.getD (v19_4).toNat default).needs) hL hu0R_4 Tryz.underlying178 rfl rfl rfl rfl hg12 ⟨_, _, rfl, he94⟩ (mput_perm _ _ hu0R_4.nd) hg14 fun ew15 kw15 w hww15 hL => ?_)
            refine wn <| blk_n <| then_n <| rg <| sv (r_add rfl rfl) <| sv (r_move rfl) <| wt ?_
            exact ⟨k3, Nat.lt_succ_self k3, _, _, _, _, _, _, fr_pre _ rfl, hL.pick _ rfl, ha0, hww15, hm⟩
        · refine wp_exit <| then_e <| then_e <| blk_e <| then_n ?_
          exact ⟨_, _, _, _, _, fr_pre _ rfl, hL.pick _ rfl, ha0, hu0R_4, hm⟩

/-- order.wait -/
def m103_l0 (a0 : List Nd) : Nat → Int → List (Ad × List Ad) → Option (List (Ad × List Ad))
  | 0, _, _ => none
  | k + 1, v11_1, u0R_1 => (bif (decide (v11_1 < (a0.length : Int))) then (bif (decide (0 ≤ v11_1 ∧ v11_1 < (a0.length : Int))) then (bif (okAd ((a0.getD (v11_1).toNat default).at_)) then (bif (!(mhas u0R_1 ((a0.getD (v11_1).toNat default).at_))) then (bif (decide (List.length (mput ((a0.getD (v11_1).toNat default).at_) ((a0.getD (v11_1).toNat default).needs) u0R_1) ≤ LIM)) then (m103_l0 a0 k (IntKind.wrap .i64 (v11_1 + (1 : Int))) (mput ((a0.getD (v11_1).toNat default).at_) ((a0.getD (v11_1).toNat default).needs) u0R_1)) else none) else none) else none) else none) else (some (u0R_1)))
def m103 (a0 : List Nd) : Option (List (Ad × List Ad)) :=
  (m103_l0 a0 FUEL (0 : Int) ([] : List (Ad × List Ad)))
set_option maxHeartbeats 20000000 in
set_option maxRecDepth 100000 in
theorem c103 : ∀ {H0 : Hp} {w0 : World} {a0 : List Nd} {aa0 : Option Addr} {ca0 : Nat}  (_ : Imm H0 w0) (_ : Sl cNd H0 aa0 ca0 a0) {r : List (Ad × List Ad)} (_ : m103 a0 = some r), Ct Tryz.prog 103 [.slice aa0 (List.length a0) ca0] [] H0 w0 fun v H' w' => ∃ x : Nat × (Array MapEntry) × Nat, (v = .map (some x.1) ∧ TR kAd (ev1 (cSl cAd)) H' (x.2.1) (x.2.2) r) ∧ Rs.holds w' (.obj x.1 (.map (x.2.1) (x.2.2))) ∧ ∀ b' ∈ Rs.foot (.obj x.1 (.map (x.2.1) (x.2.2))), H' b' = none ∧ (b' ∈ Rs.foot .gone ∨ w0.heap.size ≤ b') := by
  intro H0 w0 a0 aa0 ca0  hI ha0 r hm
  have hL := L.start hI
  refine ct_of Tryz.func103 rfl Tryz.ntmps103 rfl (Nat.le_of_ble_eq_true rfl) ?_
  unfold m103 at hm
  refine sr <| sv (r_assign rfl) <| wt <| sr ?_
  refine wl rfl (o_makeMap 0 hL fun g0 w hL => ?_)
  have hww1 : TR kAd (ev1 (cSl cAd)) hL.hp #[] 0 ([] : List (Ad × List Ad)) := TR.nil
  refine sv (r_assign rfl) <| wt <| wp_seq <| sr <| sv (r_move rfl) <| sv (r_lenS rfl Tryz.underlying47 rfl) <| sv (r_move rfl) <| wt <| wp_block <| wp_loop_fuel (k := FUEL) (fun k a w => ∃ (v11_1 : Int) (u0R_1 : List (Ad × List Ad)) (eu0R_1 : Array MapEntry) (ku0R_1 : Nat) (l : List (Nat × Value)) (H : Hp), a = fr 31 ([(2, .map none), (3, .map (some g0)), (9, .slice aa0 (List.length a0) ca0), (10, .int .i64 (a0.length : Int)), (11, .int .i64 v11_1)] ++ l) [] ∧ L [] H0 w0 [(0, .obj g0 (.map eu0R_1 ku0R_1))] H w ∧ Sl cNd H aa0 ca0 a0 ∧ TR kAd (ev1 (cSl cAd)) H eu0R_1 ku0R_1 u0R_1 ∧ (m103_l0 a0 k v11_1 u0R_1) = some r) ⟨_, _, _, _, _, _, fr_pre _ rfl, hL.pick _ rfl, ha0, hww1, hm⟩ ?_
  rintro k0 a w ⟨v11_1, u0R_1, eu0R_1, ku0R_1, l, H, rfl, hL, ha0, hu0R_1, hm⟩
  cases k0 with
  | zero => rw [m103_l0.eq_1] at hm; cases hm
  | succ k0 =>
    rw [m103_l0.eq_2] at hm
    refine sr <| sv (r_lss rfl rfl) <| wt <| wp_seq ?_
    refine c_if hm rfl (fun hg2 hm => ?_) (fun hg2 hm => ?_)
    · refine wp_skip <| then_n <| wp_seq <| wp_block <| sr ?_
      obtain ⟨hg4, hm⟩ := grd hm
      obtain ⟨be3, oe3, _, hae3, hce3, ⟨ae34, ce34, rfl, he34⟩⟩ := Sl.at ha0 default hg4
      refine sv (r_indexAddr el_47 hg4 hae3 rfl rfl) <| sv (r_loadHk hL.imm ag_53 rfl (vs := [_, _, _, _, _]) hce3 rfl) ?_
      refine wl rfl (o_alloc 1 (c := [_, _, _, _, _]) hL ze_53 rfl fun b1 w hL => ?_)
      refine wl rfl (o_storek (i := 1) (vs := [_, _, _, _, _]) hL ag_53 rfl rfl rfl rfl (Nat.le_of_ble_eq_true rfl) (List.forall_mem_cons.2 ⟨rfl, (List.forall_mem_cons.2 ⟨rfl, (List.forall_mem_cons.2 ⟨rfl, (List.forall_mem_cons.2 ⟨rfl, (List.forall_mem_cons.2 ⟨rfl, List.forall_mem_nil _⟩)⟩)⟩)⟩)⟩) (c' := _ :: _ :: _ :: _ :: _ :: []) rfl fun w hL => ?_)
      refine wt <| sr <| sv (r_move rfl) <| sv (r_fieldAddr fl_53_0 rfl) <| sv (r_loadk (hL.own 1 _ rfl) ag_50 rfl (vs := [_, _, _, _]) rfl rfl) ?_
      obtain ⟨hg6, hm⟩ := grd hm
      obtain ⟨xy5, ⟨ay5, cy5, hqy5, hsy5⟩, hry5⟩ := TR.look hu0R_1 Tryz.underlying178 ze_51 (k := ((a0.getD (v11_1).toNat default).at_)) hg6 (d := ([] : List Ad)) ⟨none, 0, rfl, Sl.nil⟩ true
      obtain rfl := List.head_eq_of_cons_eq hqy5
      refine sv (r_lookup (hry5 _ (hL.own 0 _ rfl)) rfl rfl) <| sv (r_move rfl) <| sv (r_extract rfl rfl) <| sv (r_extract rfl rfl) <| sv (r_assign rfl) <| sv (r_assign rfl) <| wt <| sr <| sv (r_move rfl) <| sv (r_not rfl) <| wt ?_
      refine c_if hm rfl (fun hg7 hm => ?_) (fun hg7 hm => ?_)
      · refine rg <| sv (r_move rfl) <| sv (r_fieldAddr fl_53_0 rfl) <| sv (r_loadk (hL.own 1 _ rfl) ag_50 rfl (vs := [_, _, _, _]) rfl rfl) <| sv (r_fieldAddr fl_53_1 rfl) <| sv (r_load1 (hL.own 1 _ rfl) sc_51 rfl rfl) ?_
        obtain ⟨hg8, hm⟩ := grd hm
        refine wl rfl (o_mapUpdate (i := 0) (k0 := (a0.getD (v11_1).toNat default).at_) (x0 := (a0.getD (v11_1).toNat default).needs) hL hu0R_1 Tryz.underlying178 rfl rfl rfl rfl hg6 ⟨_, _, rfl, he34⟩ (mput_perm _ _ hu0R_1.nd) hg8 fun ew9 kw9 w hww9 hL => ?_)
        refine wn <| blk_n <| then_n <| rg <| sv (r_add rfl rfl) <| sv (r_move rfl) <| wt ?_
        exact ⟨k0, Nat.lt_succ_self k0, _, _, _, _, _, _, fr_pre _ rfl, hL.pick _ rfl, ha0, hww9, hm⟩
      · cases hm
    · refine wp_exit <| then_e <| then_e <| blk_e <| then_n <| sr <| sv (r_move rfl) <| sv (r_assign rfl) <| wt <| wp_ret ?_
      obtain rfl := ends hm
      refine rt rfl (.tmp rfl .nil) ⟨_, _, rfl, hL.ext, ?_⟩
      exact ⟨⟨g0, eu0R_1, ku0R_1⟩, ⟨rfl, hu0R_1⟩, hL.give (i := 0) rfl⟩

/-- slices.IndexFunc[[]address.Address,address.Address] -/
def m190y_l0 (a0 : List Ad) : Nat → Option Int
  | 0 => none
  | k + 1 => (bif (decide ((0 : Int) < (a0.length : Int))) then none else (some (((-1) : Int))))
def m190y (s0 : List (Ad × List Ad)) (a0 : List Ad) : Option Int :=
  (m190y_l0 a0 FUEL )
set_option maxHeartbeats 20000000 in
set_option maxRecDepth 100000 in
theorem c190y : ∀ {H0 : Hp} {w0 : World} {s0 : List (Ad × List Ad)} {a0 : List Ad} {go00 : Nat} {eo00 : Array MapEntry} {ko00 : Nat} {aa0 : Option Addr} {ca0 : Nat} {b0 : Nat} {tl0 : List Value} {T0 : TypeId} (_ : Imm H0 w0) (_ : Rs.holds w0 (.two (.cel b0 ((.map (some go00)) :: tl0) T0) (.obj go00 (.map eo00 ko00)))) (_ : ∀ b' ∈ Rs.foot (.two (.cel b0 ((.map (some go00)) :: tl0) T0) (.obj go00 (.map eo00 ko00))), H0 b' = none) (_ : TR kAd (ev1 (cSl cAd)) H0 eo00 ko00 s0) (_ : Sl cAd H0 aa0 ca0 a0) {r : Int} (_ : m190y s0 a0 = some r), Ct Tryz.prog 190 [.slice aa0 (List.length a0) ca0, .func (.func 186) #[] (List.toArray [.pointer (some ⟨b0, 0, none⟩)])] (Rs.foot (.two (.cel b0 ((.map (some go00)) :: tl0) T0) (.obj go00 (.map eo00 ko00)))) H0 w0 fun v H' w' => (v = .int .i64 r) ∧ Rs.holds w' (.two (.cel b0 ((.map (some go00)) :: tl0) T0) (.obj go00 (.map eo00 ko00))) ∧ ∀ b' ∈ Rs.foot (.two (.cel b0 ((.map (some go00)) :: tl0) T0) (.obj go00 (.map eo00 ko00))), H' b' = none ∧ (b' ∈ Rs.foot (.two (.cel b0 ((.map (some go00)) :: tl0) T0) (.obj go00 (.map eo00 ko00))) ∨ w0.heap.size ≤ b') := by
  intro H0 w0 s0 a0 go00 eo00 ko00 aa0 ca0 b0 tl0 T0  hI hb hn ho00 ha0 r hm
  have hL := L.one hI hb hn
  have hL := hL.split 0 1 rfl rfl (.inl rfl)
  refine ct_of Tryz.func190 rfl Tryz.ntmps190 rfl (Nat.le_of_ble_eq_true rfl) ?_
  unfold m190y at hm
  refine sr <| sv (r_assign rfl) <| wt <| wp_seq <| sr <| sv (r_move rfl) <| sv (r_lenS rfl Tryz.underlying51 rfl) <| sv (r_move rfl) <| wt <| wp_block <| wp_loop_fuel (k := FUEL) (fun k a w => ∃  (l : List (Nat × Value)) (H : Hp), a = fr 19 ([(0, .slice aa0 (List.length a0) ca0), (1, .func (.func 186) #[] (List.toArray [.pointer (some ⟨b0, 0, none⟩)])), (4, .int .i64 0), (7, .int .i64 (a0.length : Int)), (8, .int .i64 0)] ++ l) [] ∧ L (Rs.foot (.two (.cel b0 ((.map (some go00)) :: tl0) T0) (.obj go00 (.map eo00 ko00)))) H0 w0 [(0, .cel b0 ((.map (some go00)) :: tl0) T0), (1, .obj go00 (.map eo00 ko00))] H w ∧ TR kAd (ev1 (cSl cAd)) H eo00 ko00 s0 ∧ Sl cAd H aa0 ca0 a0 ∧ (m190y_l0 a0 k ) = some r) ⟨_, _, fr_pre _ rfl, hL.pick _ rfl, ho00, ha0, hm⟩ ?_
  rintro k0 a w ⟨l, H, rfl, hL, ho00, ha0, hm⟩
  cases k0 with
  | zero => rw [m190y_l0.eq_1] at hm; cases hm
  | succ k0 =>
    rw [m190y_l0.eq_2] at hm
    refine sr <| sv (r_lss rfl rfl) <| wt <| wp_seq ?_
    refine c_if hm rfl (fun hg1 hm => ?_) (fun hg1 hm => ?_)
    · cases hm
    · refine wp_exit <| then_e <| then_e <| blk_e <| then_n <| sr <| sv (r_assign rfl) <| wt <| wp_ret ?_
      obtain rfl := ends hm
      refine rt rfl (.tmp rfl .nil) ⟨_, _, rfl, hL.ext, ?_⟩
      have hL := hL.merge 0 1 rfl rfl rfl
      exact ⟨rfl, hL.give (i := 0) rfl⟩

/-- slices.ContainsFunc[[]address.Address,address.Address] -/
def m110y (s0 : List (Ad × List Ad)) (a0 : List Ad) : Option Bool :=
  ((m190y s0 a0).bind fun t1 => (some ((decide ((0 : Int) ≤ t1)))))
set_option maxHeartbeats 20000000 in
set_option maxRecDepth 100000 in
theorem c110y : ∀ {H0 : Hp} {w0 : World} {s0 : List (Ad × List Ad)} {a0 : List Ad} {go00 : Nat} {eo00 : Array MapEntry} {ko00 : Nat} {aa0 : Option Addr} {ca0 : Nat} {b0 : Nat} {tl0 : List Value} {T0 : TypeId} (_ : Imm H0 w0) (_ : Rs.holds w0 (.two (.cel b0 ((.map (some go00)) :: tl0) T0) (.obj go00 (.map eo00 ko00)))) (_ : ∀ b' ∈ Rs.foot (.two (.cel b0 ((.map (some go00)) :: tl0) T0) (.obj go00 (.map eo00 ko00))), H0 b' = none) (_ : TR kAd (ev1 (cSl cAd)) H0 eo00 ko00 s0) (_ : Sl cAd H0 aa0 ca0 a0) {r : Bool} (_ : m110y s0 a0 = some r), Ct Tryz.prog 110 [.slice aa0 (List.length a0) ca0, .func (.func 186) #[] (List.toArray [.pointer (some ⟨b0, 0, none⟩)])] (Rs.foot (.two (.cel b0 ((.map (some go00)) :: tl0) T0) (.obj go00 (.map eo00 ko00)))) H0 w0 fun v H' w' => (v = .bool r) ∧ Rs.holds w' (.two (.cel b0 ((.map (some go00)) :: tl0) T0) (.obj go00 (.map eo00 ko00))) ∧ ∀ b' ∈ Rs.foot (.two (.cel b0 ((.map (some go00)) :: tl0) T0) (.obj go00 (.map eo00 ko00))), H' b' = none ∧ (b' ∈ Rs.foot (.two (.cel b0 ((.map (some go00)) :: tl0) T0) (.obj go00 (.map eo00 ko00))) ∨ w0.heap.size ≤ b') := by
  intro H0 w0 s0 a0 go00 eo00 ko00 aa0 ca0 b0 tl0 T0  hI hb hn ho00 ha0 r hm
  have hL := L.one hI hb hn
  have hL := hL.split 0 1 rfl rfl (.inl rfl)
  refine ct_of Tryz.func110 rfl Tryz.ntmps110 rfl (Nat.le_of_ble_eq_true rfl) ?_
  unfold m110y at hm
  refine sr <| sv (r_assign rfl) <| wt <| sr <| sv (r_move rfl) <| sv (r_move rfl) ?_
  obtain ⟨t1, ht1, hm⟩ := bnd hm
  have hL := hL.merge 0 1 rfl rfl rfl
  refine wl rfl (o_call1 0 hL fn_190 rfl rfl (c190y hL.imm (hL.own 0 _ rfl) (fun b' hb' => (hL.non 0 _ rfl b' hb').1) ho00 ha0 ht1) fun v H w hlet1 hL hR => ?_)
  obtain rfl := hR
  have hL := hL.split 0 1 rfl rfl (.inr rfl)
  have hL := hL.pick [(0, .cel b0 ((.map (some go00)) :: tl0) T0), (1, .obj go00 (.map eo00 ko00))] rfl
  refine sv (r_geq rfl rfl) <| sv (r_assign rfl) <| wt <| wp_ret ?_
  obtain rfl := ends hm
  refine rt rfl (.tmp rfl .nil) ⟨_, _, rfl, hL.ext, ?_⟩
  have hL := hL.merge 0 1 rfl rfl rfl
  exact ⟨rfl, hL.give (i := 0) rfl⟩

end Go.Proofs.YtcjphpenelnohaaGreatDoor
/- The addresses that are ready: a range whose order nobody knows, sorted. -/
namespace Go.Proofs.YtcjphpenelnohaaGreatDoor
open Go.RowKit Go.ChangeMaps
section
variable {P : Program} {Q : Exit → Act → World → Prop} {n : Nat} {l : List (Nat × Value)} {ds : List Deferred} {w w0 w' : World}
  {d : Nat} {x y z : Operand} {ty : TypeId} {pos : String} {aft : Array Edge} {v u : Value} {g : Option (Nat × Bool)} {K : Act → World → Prop} {X : List Nat} {H0 H : Hp} {S : List (Nat × Rs)} {o : Op}
theorem o_val0 (hr : (execOp (fr n l ds).eval ⟨none, o, ty, pos, aft, g⟩).run P w = .ok (.value v) w') (k : K (fr n l ds) w') : Oper.wp P ⟨none, o, ty, pos, aft, g⟩ (fr n l ds) w K Q := by
  unfold Oper.wp
  rw [hr]
  exact k
set_option maxRecDepth 100000 in
theorem o_delete0 {κ α : Type} [BEq κ] [LawfulBEq κ] {C : KK κ} {V : EV α} {t e : TypeId} {i b clock : Nat} {es : Array MapEntry} {m : List (κ × α)} {k0 : κ} (hL : L X H0 w0 S H w) (T : TR C V H es clock m) (ht : Tryz.prog.underlying t = some (.map C.kt e))
    (hs : sk S i = some (.obj b (.map es clock))) (hx : ev n l x = some (.map (some b))) (hy : ev n l y = some (C.kv k0)) (hk : C.ok k0 = true)
    (k : ∀ es' w', TR C V H es' clock (mdel k0 m) → L X H0 w0 ((i, .obj b (.map es' clock)) :: S) H w' → K (fr n l ds) w') :
    Oper.wp Tryz.prog ⟨none, .call ⟨.builtin .delete, #[x, y], #[t, C.kt]⟩, ty, pos, aft, g⟩ (fr n l ds) w K Q := by
  obtain ⟨es', h1, h2⟩ := T.del (ty := ty) ht (hL.own i _ hs) hk
  refine o_val0 (v := .tuple #[]) (w' := setBlock w b (.map es' clock)) ?_ (k es' _ h2 (hL.turn hs))
  simp only [execOp, resolve, invoke, builtin, Sem.run_bind, Sem.run_pure, Result.andThen_ok, List.map_toArray, List.map_cons, List.map_nil, ev_eval hx, ev_eval hy, h1]
end
def insAll {α : Type} (x : α) : List α → List (List α)
  | [] => [[x]]
  | y :: l => (x :: y :: l) :: (insAll x l).map (y :: ·)
def perms {α : Type} : List α → List (List α)
  | [] => [[]]
  | x :: l => (perms l).flatMap (insAll x)
theorem insAll_mem {α : Type} (x : α) : ∀ s t : List α, s ++ x :: t ∈ insAll x (s ++ t)
  | [], [] => by simp [insAll]
  | [], y :: t => by simp [insAll]
  | y :: s, t => by simpa [insAll] using Or.inr (insAll_mem x s t)
theorem perms_mem {α : Type} : ∀ {l p : List α}, List.Perm p l → p ∈ perms l
  | [], p, h => by simp [h.eq_nil, perms]
  | x :: l, p, h => by
    have hx : x ∈ p := h.mem_iff.2 (by simp)
    obtain ⟨s, t, rfl⟩ := List.append_of_mem hx
    have h1 : List.Perm (s ++ t) l := (List.perm_middle.symm.trans h).cons_inv
    exact List.mem_flatMap.2 ⟨_, perms_mem h1, insAll_mem x s t⟩
/-- Those of a list whose needs do not wait. -/
def rdy (w : List (Ad × List Ad)) : List (Ad × List Ad) → Option (List Ad)
  | [] => some []
  | p :: l => (m110y w p.2).bind fun b => (rdy w l).bind fun r => some (bif b then r else p.1 :: r)
theorem rdy_flt {w : List (Ad × List Ad)} {k : Ad} : ∀ {l : List (Ad × List Ad)} {r : List Ad}, (∀ q ∈ l, q.1 ≠ k) → rdy w l = some r → (l.filter fun q => !(q.1 == k)) = l := by
  intro l r h _
  exact List.filter_eq_self.2 fun q hq => by simpa using h q hq
theorem rdy_pick {w : List (Ad × List Ad)} {p : Ad × List Ad} : ∀ {l : List (Ad × List Ad)} {r : List Ad}, (l.map (·.1)).Nodup → p ∈ l → rdy w l = some r → ∃ b r', m110y w p.2 = some b ∧ rdy w (l.filter fun q => !(q.1 == p.1)) = some r' ∧ List.Perm r (bif b then r' else p.1 :: r')
  | [], _, _, h, _ => by cases h
  | q :: l, r, hn, hp, h => by
    simp only [List.map_cons, List.nodup_cons] at hn
    obtain ⟨b, h1, h⟩ := bnd h
    obtain ⟨r1, h2, h⟩ := bnd h
    obtain rfl := ends h
    by_cases e : q.1 = p.1
    · have hq : q = p := by
        rcases List.mem_cons.1 hp with rfl | hp
        · rfl
        · exact absurd (List.mem_map.2 ⟨p, hp, e.symm⟩) hn.1
      subst hq
      refine ⟨b, r1, h1, ?_, .refl _⟩
      have : (l.filter fun x => !(x.1 == q.1)) = l := List.filter_eq_self.2 fun x hx => by
        have : x.1 ≠ q.1 := fun e => hn.1 (List.mem_map.2 ⟨x, hx, e⟩)
        simpa using this
      simp [this, h2]
    · have hp' : p ∈ l := by
        rcases List.mem_cons.1 hp with rfl | hp
        · exact absurd rfl e
        · exact hp
      obtain ⟨b2, r2, h3, h4, h5⟩ := rdy_pick hn.2 hp' h2
      refine ⟨b2, bif b then r2 else q.1 :: r2, h3, ?_, ?_⟩
      · have : ((q :: l).filter fun x => !(x.1 == p.1)) = q :: (l.filter fun x => !(x.1 == p.1)) := by simp [e]
        rw [this]; simp [rdy, h1, h4]
      · cases b <;> cases b2 <;> simp only [cond_true, cond_false] at h5 ⊢
        · exact (h5.cons _).trans (.swap _ _ _)
        · exact h5.cons _
        · exact h5
        · exact h5
/-- what is ready, sorted: the same in whichever order it came -/
def m104 (w : List (Ad × List Ad)) : Option (List Ad) :=
  (rdy w w).bind fun l => (m105 l).bind fun r => bif (perms l).all fun p => m105 p == some r then some r else none
theorem m104_of {w : List (Ad × List Ad)} {r : List Ad} (h : m104 w = some r) : ∃ l, rdy w w = some l ∧ ∀ p, List.Perm p l → m105 p = some r := by
  obtain ⟨l, h1, h⟩ := bnd h
  obtain ⟨r1, h2, h⟩ := bnd h
  cases e : (perms l).all fun p => m105 p == some r1 with
  | false => rw [e] at h; cases h
  | true =>
    rw [e] at h
    obtain rfl := ends (x := r1) (by simpa using h)
    exact ⟨l, h1, fun p hp => by simpa using List.all_eq_true.1 e p (perms_mem hp)⟩
set_option maxHeartbeats 4000000 in
set_option maxRecDepth 100000 in
theorem c104 : ∀ {H0 : Hp} {w0 : World} {s0 : List (Ad × List Ad)} {go00 : Nat} {eo00 : Array MapEntry} {ko00 : Nat}  (_ : Imm H0 w0) (_ : Rs.holds w0 (.obj go00 (.map eo00 ko00))) (_ : ∀ b' ∈ Rs.foot (.obj go00 (.map eo00 ko00)), H0 b' = none) (_ : TR kAd (ev1 (cSl cAd)) H0 eo00 ko00 s0) {r : List Ad} (_ : m104 s0 = some r), Ct Tryz.prog 104 [.map (some go00)] (Rs.foot (.obj go00 (.map eo00 ko00))) H0 w0 fun v H' w' => ∃ x : (Option Addr) × Nat, (v = .slice (x.1) (List.length r) (x.2) ∧ Sl cAd H' (x.1) (x.2) r) ∧ Rs.holds w' (.obj go00 (.map eo00 ko00)) ∧ ∀ b' ∈ Rs.foot (.obj go00 (.map eo00 ko00)), H' b' = none ∧ (b' ∈ Rs.foot (.obj go00 (.map eo00 ko00)) ∨ w0.heap.size ≤ b') := by
  intro H0 w0 s0 go00 eo00 ko00  hI hb hn ho00 r hm
  have hL := L.one hI hb hn
  obtain ⟨l0, hl0, hall⟩ := m104_of hm
  refine ct_of Tryz.func104 rfl Tryz.ntmps104 rfl (Nat.le_of_ble_eq_true rfl) ?_
  refine sr ?_
  refine wl rfl (o_box 1 (c := [_]) hL rfl rfl fun b1 w hL => ?_)
  refine sv (r_assign rfl) <| wt <| sr <| sv (r_assign rfl) <| wt <| wp_seq <| sr <| sv (r_load1 (hL.own 1 _ rfl) sc_178 rfl rfl) ?_
  refine wl rfl (o_range 2 hL Tryz.underlying178 (hL.own 0 _ rfl) ho00 rfl fun it o w hIt hL => ?_)
  have hL := hL.addNil 3 50 4
  refine wt <| wp_block ?_
  refine wp_loop_fuel (k := s0.length) (fun k a w => ∃ (left : List (Ad × List Ad)) (cur : Option MapEntry) (o : Obj) (rd lf : List Ad) (ar : Option Addr) (cr : Nat) (zr : List Value) (l : List (Nat × Value)) (H : Hp), a = fr 23 ([(1, .pointer (some ⟨b1, 0, none⟩)), (3, .slice ar rd.length cr), (7, .pointer (some ⟨it, 0, none⟩))] ++ l) [] ∧
    L (Rs.foot (.obj go00 (.map eo00 ko00))) H0 w0 [(0, .obj go00 (.map eo00 ko00)), (1, .cel b1 [.map (some go00)] 178), (2, .obj it o), (3, .row (.slice ar rd.length cr) 50 4 rd.length zr)] H w ∧
    It kAd eo00 go00 ko00 left cur o ∧ LC cAd H zr rd ∧ TR kAd (ev1 (cSl cAd)) H eo00 ko00 s0 ∧ (∀ p ∈ left, p ∈ s0) ∧ (left.map (·.1)).Nodup ∧ left.length ≤ k ∧ rdy s0 left = some lf ∧ List.Perm (rd ++ lf) l0 ∧ rd.length + left.length ≤ s0.length)
    ⟨s0, none, o, [], l0, none, 0, [], _, _, fr_pre _ rfl, hL.pick _ rfl, hIt, LC.nil, ho00, fun p hp => hp, ho00.nd, Nat.le_refl _, hl0, .refl _, by simp⟩ ?_
  clear hIt hL
  rintro k a w ⟨left, cur, o, rd, lf, ar, cr, zr, l, H, rfl, hL, hIt, hzr, T, hsub, hnd, hk, hlf, hpm, hlen⟩
  refine sr ?_
  refine wl rfl (o_next (i := 2) (m := s0) hL rfl hIt hsub (hL.own 0 _ rfl) T rfl (fun hnil => ?_) fun p e o w hp hek hev hIt hL => ?_)
  · subst hnil
    refine sv (r_extract rfl rfl) <| wt <| wp_seq <| c_F (b := false) rfl rfl <| wp_exit <| then_e <| then_e <| blk_e <| then_n <| sr <| sv (r_move rfl) ?_
    obtain ⟨H, hlez, hL, hsz⟩ := hL.settle (i := 3) (K := cAd) rfl hzr
    obtain rfl := ends hlf
    rw [List.append_nil] at hpm
    refine wl rfl (o_call0 hL fn_105 rfl (c105 hL.imm hsz (hall _ hpm)) fun v H w hlet hL hR => ?_)
    obtain ⟨a5, c5, rfl, h5⟩ := hR
    refine sv (r_assign rfl) <| wt <| wp_ret ?_
    exact rt rfl (.tmp rfl .nil) ⟨_, _, rfl, hL.ext, ⟨_, _⟩, ⟨rfl, h5⟩, hL.give (i := 0) rfl⟩
  · obtain ⟨a5, c5, hv, hsl⟩ := hev
    obtain ⟨b, lf', hb1, hlf', hpm'⟩ := rdy_pick hnd hp hlf
    have hp0 := hsub p hp
    have hv : e.val = .slice a5 p.2.length c5 := by simpa using hv
    refine sv (r_extract rfl rfl) <| wt <| wp_seq <| c_T (b := true) rfl rfl <| wp_skip <| then_n <| wp_block <| sr <| sv (r_entry2 (i := 2) (hL.own 2 _ rfl) hIt (hL.own 0 _ rfl) T hek hv rfl) <| sv (r_extract rfl rfl) <| sv (r_extract rfl rfl) ?_
    refine wl rfl (o_alloc 4 (c := [_, _, _, _]) hL ze_50 rfl fun b4 w hL => ?_)
    refine wl rfl (o_storek (i := 4) (vs := [_, _, _, _]) hL ag_50 rfl rfl rfl rfl (Nat.le_of_ble_eq_true rfl) (List.forall_mem_cons.2 ⟨rfl, (List.forall_mem_cons.2 ⟨rfl, (List.forall_mem_cons.2 ⟨rfl, (List.forall_mem_cons.2 ⟨rfl, List.forall_mem_nil _⟩)⟩)⟩)⟩) (c' := _ :: _ :: _ :: _ :: []) rfl fun w hL => ?_)
    refine sv (r_assign rfl) <| wt <| sr <| sv (r_move rfl) <| sv (r_makeFunc rfl) ?_
    have hL := hL.merge 1 0 rfl rfl rfl
    refine wl rfl (o_call1 1 hL fn_110 rfl rfl (c110y hL.imm (hL.own 1 _ rfl) (fun b' hb' => (hL.non 1 _ rfl b' hb').1) T hsl hb1) fun v H w hlet hL hR => ?_)
    obtain rfl := hR
    have hL := hL.split 1 0 rfl rfl (.inr rfl)
    replace hzr := LC.mono hlet hzr
    replace T := TR.mono hlet T
    refine sv (r_not rfl) <| wt ?_
    have hlt : (left.filter fun q => !(q.1 == p.1)).length < left.length := List.length_filter_lt_length_iff_exists.2 ⟨p, hp, by simp⟩
    have hnd' : ((left.filter fun q => !(q.1 == p.1)).map (·.1)).Nodup := (List.Sublist.map _ List.filter_sublist).nodup hnd
    have hlim := T.lim
    cases b with
    | true =>
      refine c_F (b := false) rfl rfl <| wp_skip <| blk_n <| then_n ?_
      exact ⟨(left.filter fun q => !(q.1 == p.1)).length, by omega, left.filter fun q => !(q.1 == p.1), some e, o, rd, lf', ar, cr, zr, _, _, fr_pre _ rfl, hL.pick _ rfl, hIt, hzr, T, fun q hq => hsub q (List.mem_filter.1 hq).1, hnd', Nat.le_refl _, hlf', (List.Perm.append_left _ hpm').symm.trans hpm, by omega⟩
    | false =>
      refine c_T (b := true) rfl rfl <| rg <| sv (r_move rfl) <| sv (r_loadk (hL.own 4 _ rfl) ag_50 rfl (vs := [_, _, _, _]) rfl rfl) ?_
      have hww9 : LC cAd hL.hp [.string (mk p.1.prov), .string (mk p.1.knd), .string (mk p.1.name), .int .i64 p.1.idx] ([p.1] : List Ad) := (LC.cons (K := cAd) (cs := [.string (mk p.1.prov), .string (mk p.1.knd), .string (mk p.1.name), .int .i64 p.1.idx]) rfl LC.nil)
      refine wl rfl (o_buildSlice (C := cAd) 5 hL el_51 ze_50 rfl (.cons rfl .nil) rfl rfl rfl rfl hww9 fun gw9 w hL => ?_)
      refine wl rfl (o_append (C := cAd) 3 5 hL el_51 rfl rfl rfl rfl hww9 rfl (decide_eq_true (by simp at hlen ⊢; omega)) fun gw11 cw11 w hL => ?_)
      have hww11 := LC.append hzr hww9
      refine sv (r_assign rfl) <| wn <| blk_n <| then_n ?_
      refine ⟨(left.filter fun q => !(q.1 == p.1)).length, by omega, left.filter fun q => !(q.1 == p.1), some e, o, rd ++ [p.1], lf', _, _, _, _, _, fr_pre _ rfl, hL.pick _ rfl, hIt, hww11, T, fun q hq => hsub q (List.mem_filter.1 hq).1, hnd', Nat.le_refl _, hlf', ?_, by simp; omega⟩
      rw [List.append_assoc]
      exact (List.Perm.append_left _ hpm').symm.trans hpm
end Go.Proofs.YtcjphpenelnohaaGreatDoor
/- Gp: by tools/gen.py -/
set_option linter.unusedVariables false
namespace Go.Proofs.YtcjphpenelnohaaGreatDoor
open Go.RowKit

/-- order.Of -/
def m25_l0  : Nat → List (Ad × List Ad) → List Ad → Option (List Ad × Int)
  | 0, _, _ => none
  | k + 1, u0R_1, u1R_1 => (bif (decide ((0 : Int) < (u0R_1.length : Int))) then ((m104 u0R_1).bind fun t5 => (bif ((t5.length : Int) == (0 : Int)) then none else (bif (decide (0 ≤ (0 : Int) ∧ (0 : Int) < (t5.length : Int))) then (bif (decide (u1R_1.length + ([(t5.getD ((0 : Int)).toNat default)] : List Ad).length ≤ LIM)) then (bif (okAd (t5.getD ((0 : Int)).toNat default)) then (m25_l0  k (mdel (t5.getD ((0 : Int)).toNat default) u0R_1) (u1R_1 ++ ([(t5.getD ((0 : Int)).toNat default)] : List Ad))) else none) else none) else none))) else (some (u1R_1, (0 : Int))))
def m25 (a0 : List Nd) : Option (List Ad × Int) :=
  ((m102 a0).bind fun t1 => (bif (t1 != (0 : Int)) then none else ((m103 a0).bind fun t3 => (m25_l0  FUEL t3 ([] : List Ad)))))
set_option maxHeartbeats 20000000 in
set_option maxRecDepth 100000 in
theorem c25 : ∀ {H0 : Hp} {w0 : World} {a0 : List Nd} {aa0 : Option Addr} {ca0 : Nat}  (_ : Imm H0 w0) (_ : Sl cNd H0 aa0 ca0 a0) {r : (List Ad × Int)} (_ : m25 a0 = some r), Ct Tryz.prog 25 [.slice aa0 (List.length a0) ca0] [] H0 w0 fun v H' w' => ∃ (ar0_0 : Option Addr) (cr0_0 : Nat), v = .tuple (List.toArray [.slice ar0_0 (List.length r.1) cr0_0, .int .i64 r.2]) ∧ Sl cAd H' ar0_0 cr0_0 r.1 := by
  intro H0 w0 a0 aa0 ca0  hI ha0 r hm
  have hL := L.start hI
  refine ct_of Tryz.func25 rfl Tryz.ntmps25 rfl (Nat.le_of_ble_eq_true rfl) ?_
  unfold m25 at hm
  refine sr <| sv (r_assign rfl) <| sv (r_assign rfl) <| wt <| wp_seq <| sr <| sv (r_move rfl) ?_
  obtain ⟨t1, ht1, hm⟩ := bnd hm
  refine wl rfl (o_call0 hL fn_102 rfl (c102 hL.imm ha0 ht1) fun v H w hlet1 hL hR => ?_)
  replace ha0 := Sl.mono hlet1 ha0
  obtain rfl := hR
  refine sv (r_assign rfl) <| wt <| sr <| sv (r_move rfl) <| sv (r_nei rfl rfl) <| wt ?_
  refine c_if hm rfl (fun hg2 hm => ?_) (fun hg2 hm => ?_)
  · cases hm
  · refine wp_skip <| then_n <| sr <| sv (r_move rfl) ?_
    obtain ⟨t3, ht3, hm⟩ := bnd hm
    have hL := hL.room 0
    refine wl rfl (o_callE 0 hL fn_103 rfl rfl (c103 hL.imm ha0 ht3) fun x v H w hlet3 hL hR => ?_)
    obtain ⟨gt3r0_0, et3r0_0, kt3r0_0⟩ := x
    try dsimp only at hL hR
    obtain ⟨rfl, ht3r0_0⟩ := hR
    refine sv (r_assign rfl) <| wt <| sr <| sv (r_assign rfl) <| wt <| wp_seq <| wp_block ?_
    have hL := hL.addNil 1 50 4
    refine wp_loop_fuel (k := FUEL) (fun k a w => ∃ (u0R_1 : List (Ad × List Ad)) (u1R_1 : List Ad) (eu0R_1 : Array MapEntry) (ku0R_1 : Nat) (au1R_1 : Option Addr) (cu1R_1 : Nat) (zu1R_1 : List Value) (l : List (Nat × Value)) (H : Hp), a = fr 34 ([(2, .slice none 0 0), (3, .int .i64 0), (5, .map (some gt3r0_0)), (6, .slice au1R_1 (List.length u1R_1) cu1R_1)] ++ l) [] ∧ L [] H0 w0 [(0, .obj gt3r0_0 (.map eu0R_1 ku0R_1)), (1, .row (.slice au1R_1 (List.length u1R_1) cu1R_1) 50 4 (List.length u1R_1) zu1R_1)] H w ∧ TR kAd (ev1 (cSl cAd)) H eu0R_1 ku0R_1 u0R_1 ∧ LC cAd H zu1R_1 u1R_1 ∧ (m25_l0  k u0R_1 u1R_1) = some r) ⟨_, _, _, _, _, _, _, _, _, fr_pre _ rfl, hL.pick _ rfl, ht3r0_0, LC.nil, hm⟩ ?_
    rintro k0 a w ⟨u0R_1, u1R_1, eu0R_1, ku0R_1, au1R_1, cu1R_1, zu1R_1, l, H, rfl, hL, hu0R_1, hu1R_1, hm⟩
    cases k0 with
    | zero => rw [m25_l0.eq_1] at hm; cases hm
    | succ k0 =>
      rw [m25_l0.eq_2] at hm
      refine wp_seq <| sr <| sv (r_move rfl) <| sv (r_lenM rfl Tryz.underlying178 (hL.own 0 _ rfl) hu0R_1.sz rfl) <| sv (r_gtr rfl rfl) <| wt ?_
      refine c_if hm rfl (fun hg4 hm => ?_) (fun hg4 hm => ?_)
      · refine wp_skip <| then_n <| wp_block <| sr <| sv (r_move rfl) ?_
        obtain ⟨t5, ht5, hm⟩ := bnd hm
        refine wl rfl (o_callE 0 hL fn_104 rfl rfl (c104 hL.imm (hL.own 0 _ rfl) (fun b' hb' => (hL.non 0 _ rfl b' hb').1) hu0R_1 ht5) fun x v H w hlet5 hL hR => ?_)
        obtain ⟨at5r0_0, ct5r0_0⟩ := x
        try dsimp only at hL hR
        replace hu0R_1 := TR.mono hlet5 hu0R_1
        replace hu1R_1 := LC.mono hlet5 hu1R_1
        obtain ⟨rfl, ht5r0_0⟩ := hR
        refine sv (r_assign rfl) <| wt <| wp_seq <| sr <| sv (r_move rfl) <| sv (r_lenS rfl Tryz.underlying51 rfl) <| sv (r_eqi rfl rfl) <| wt ?_
        refine c_if hm rfl (fun hg6 hm => ?_) (fun hg6 hm => ?_)
        · cases hm
        · refine wp_skip <| then_n <| sr <| sv (r_move rfl) <| sv (r_move rfl) ?_
          obtain ⟨hg8, hm⟩ := grd hm
          obtain ⟨be7, oe7, _, hae7, hce7, rfl⟩ := Sl.at ht5r0_0 default hg8
          refine sv (r_indexAddr el_51 hg8 hae7 rfl rfl) <| sv (r_loadHk hL.imm ag_50 rfl (vs := [_, _, _, _]) hce7 rfl) ?_
          have hww9 : LC cAd hL.hp [.string (mk ((t5.getD ((0 : Int)).toNat default).prov)), .string (mk ((t5.getD ((0 : Int)).toNat default).knd)), .string (mk ((t5.getD ((0 : Int)).toNat default).name)), .int .i64 ((t5.getD ((0 : Int)).toNat default).idx)] ([(t5.getD ((0 : Int)).toNat default)] : List Ad) := (LC.cons (K := cAd) (cs := [.string (mk ((t5.getD ((0 : Int)).toNat default).prov)), .string (mk ((t5.getD ((0 : Int)).toNat default).knd)), .string (mk ((t5.getD ((0 : Int)).toNat default).name)), .int .i64 ((t5.getD ((0 : Int)).toNat default).idx)]) rfl LC.nil)
          refine wl rfl (o_buildSlice (C := cAd) 2 hL el_51 ze_50 rfl (.cons rfl .nil) rfl rfl rfl rfl hww9 fun gw9 w hL => ?_)
          obtain ⟨hg10, hm⟩ := grd hm
          refine wl rfl (o_append (C := cAd) 1 2 hL el_51 rfl rfl rfl rfl hww9 rfl hg10 fun gw11 cw11 w hL => ?_)
          have hww11 := LC.append hu1R_1 hww9
          refine sv (r_assign rfl) <| wt <| rg <| sv (r_move rfl) <| sv (r_move rfl) ?_
          obtain ⟨be12, oe12, _, hae12, hce12, rfl⟩ := Sl.at ht5r0_0 default hg8
          refine sv (r_indexAddr el_51 hg8 hae12 rfl rfl) <| sv (r_loadHk hL.imm ag_50 rfl (vs := [_, _, _, _]) hce12 rfl) ?_
          obtain ⟨hg13, hm⟩ := grd hm
          refine wl rfl (o_delete0 (i := 0) (k0 := (t5.getD ((0 : Int)).toNat default)) hL hu0R_1 Tryz.underlying178 rfl rfl rfl hg13 fun ew14 w hww14 hL => ?_)
          refine wn <| blk_n <| then_n ?_
          exact ⟨k0, Nat.lt_succ_self k0, _, _, _, _, _, _, _, _, _, fr_pre _ rfl, hL.pick _ rfl, hww14, hww11, hm⟩
      · refine wp_exit <| then_e <| then_e <| blk_e <| then_n <| sr <| sv (r_move rfl) <| sv (r_assign rfl) <| sv (r_assign rfl) <| wt <| wp_ret ?_
        obtain ⟨H, hlez15, hL, hsz15⟩ := hL.settle (i := 1) (K := cAd) rfl hu1R_1
        obtain rfl := ends hm
        exact rt rfl (.tmp rfl (.tmp rfl .nil)) ⟨_, _, rfl, hL.ext, ⟨_, _, rfl, hsz15⟩⟩

end Go.Proofs.YtcjphpenelnohaaGreatDoor
/- Gq: by tools/gen.py -/
set_option linter.unusedVariables false
namespace Go.Proofs.YtcjphpenelnohaaGreatDoor
open Go.RowKit

/-- (*coerce.bringer).list$1 -/
def m303 (a0 : Int) (s0 : Ty) : Option (Ty × Bs × Int) :=
  ((m304 s0 a0).bind fun t1 => (some (t1.1, ([] : Bs), a0)))
set_option maxHeartbeats 20000000 in
set_option maxRecDepth 100000 in
theorem c303 : ∀ {H0 : Hp} {w0 : World} {a0 : Int} {s0 : Ty} {po00 : Value} {b0 : Nat} {tl0 : List Value} {T0 : TypeId} (_ : Imm H0 w0) (_ : Rs.holds w0 (.cel b0 (po00 :: tl0) T0)) (_ : ∀ b' ∈ Rs.foot (.cel b0 (po00 :: tl0) T0), H0 b' = none) (_ : TyR H0 po00 s0) {r : (Ty × Bs × Int)} (_ : m303 a0 s0 = some r), Ct Tryz.prog 303 [.int .i64 a0, .pointer (some ⟨b0, 0, none⟩)] (Rs.foot (.cel b0 (po00 :: tl0) T0)) H0 w0 fun v H' w' => ∃ x : Value, (v = .tuple (List.toArray [x, .agg (List.toArray [.string (mk r.2.1), .int .i64 r.2.2])]) ∧ TyR H' (x) r.1) ∧ Rs.holds w' (.cel b0 (po00 :: tl0) T0) ∧ ∀ b' ∈ Rs.foot (.cel b0 (po00 :: tl0) T0), H' b' = none ∧ (b' ∈ Rs.foot (.cel b0 (po00 :: tl0) T0) ∨ w0.heap.size ≤ b') := by
  intro H0 w0 a0 s0 po00 b0 tl0 T0  hI hb hn ho00 r hm
  have hL := L.one hI hb hn
  refine ct_of Tryz.func303 rfl Tryz.ntmps303 rfl (Nat.le_of_ble_eq_true rfl) ?_
  unfold m303 at hm
  refine sr <| sv (r_assign rfl) ?_
  refine wl rfl (o_alloc 1 (c := [_, _]) hL ze_220 rfl fun b1 w hL => ?_)
  refine wt <| sr <| sv (r_load1 (hL.own 0 _ rfl) sc_39 rfl rfl) <| sv (r_move rfl) ?_
  obtain ⟨t1, ht1, hm⟩ := bnd hm
  refine wl rfl (o_call0 hL fn_304 rfl (c304 hL.imm ho00 ht1) fun v H w hlet1 hL hR => ?_)
  obtain ⟨pt1r0_0, rfl, ht1r0_0⟩ := hR
  refine sv (r_move rfl) <| sv (r_extract rfl rfl) <| sv (r_extract rfl rfl) <| sv (r_assign rfl) <| sv (r_assign rfl) <| wt <| sr <| sv (r_move rfl) <| sv (r_move rfl) <| sv (r_build ze_220 st_220 rfl (.cons rfl .nil) (cs := [_, _]) rfl) <| sv (r_assign rfl) ?_
  refine wl rfl (o_storek (i := 1) (vs := [_, _]) hL ag_220 rfl rfl rfl rfl (Nat.le_of_ble_eq_true rfl) (List.forall_mem_cons.2 ⟨rfl, (List.forall_mem_cons.2 ⟨rfl, List.forall_mem_nil _⟩)⟩) (c' := _ :: _ :: []) rfl fun w hL => ?_)
  refine wt <| wp_ret ?_
  obtain rfl := ends hm
  refine rt rfl (.tmp rfl (.agg (hL.own 1 _ rfl) ag_220 rfl (us := [_, _]) rfl rfl .nil)) ⟨_, _, rfl, hL.ext, ?_⟩
  exact ⟨pt1r0_0, ⟨rfl, ht1r0_0⟩, hL.give (i := 0) rfl⟩

/-- (*coerce.bringer).each -/
def S156 (F : List Step → Bool → Ty → J → List Step → Option (J × List Step × Bool)) : Prop := ∀ {H0 : Hp} {w0 : World} {s0 : List Step} {s1 : Bool} {a1 : Ty} {a2_0 : J} {a3 : List Step} {ao00 : Option Addr} {co00 : Nat} {pa1 : Value} {xa2_0 : Value} {aa3 : Option Addr} {ca3 : Nat} {b0 : Nat} {tl0 : List Value} {T0 : TypeId} (_ : Imm H0 w0) (_ : GT H0) (_ : Rs.holds w0 (.cel b0 ((.slice ao00 (List.length s0) co00) :: (.bool s1) :: tl0) T0)) (_ : ∀ b' ∈ Rs.foot (.cel b0 ((.slice ao00 (List.length s0) co00) :: (.bool s1) :: tl0) T0), H0 b' = none) (_ : Sl cStep H0 ao00 co00 s0) (_ : TyR H0 pa1 a1) (_ : VR H0 xa2_0 a2_0) (_ : Sl cStep H0 aa3 ca3 a3) {r : (J × List Step × Bool)} (_ : F s0 s1 a1 a2_0 a3 = some r), Ct Tryz.prog 156 [.pointer (some ⟨b0, 0, none⟩), pa1, .agg (List.toArray [xa2_0]), .slice aa3 (List.length a3) ca3] (Rs.foot (.cel b0 ((.slice ao00 (List.length s0) co00) :: (.bool s1) :: tl0) T0)) H0 w0 fun v H' w' => ∃ x : Value × (Option Addr) × Nat, (v = .agg (List.toArray [x.1]) ∧ VR H' (x.1) r.1 ∧ Sl cStep H' (x.2.1) (x.2.2) r.2.1) ∧ Rs.holds w' (.cel b0 ((.slice (x.2.1) (List.length r.2.1) (x.2.2)) :: (.bool r.2.2) :: tl0) T0) ∧ ∀ b' ∈ Rs.foot (.cel b0 ((.slice (x.2.1) (List.length r.2.1) (x.2.2)) :: (.bool r.2.2) :: tl0) T0), H' b' = none ∧ (b' ∈ Rs.foot (.cel b0 ((.slice ao00 (List.length s0) co00) :: (.bool s1) :: tl0) T0) ∨ w0.heap.size ≤ b')
def m302l_l0 (f156 : List Step → Bool → Ty → J → List Step → Option (J × List Step × Bool)) (s0 : Ty) (a1 : List J) (a2 : List Step) : Nat → Int → List Step → Bool → List J → Option (List J × List Step × Bool)
  | 0, _, _, _, _ => none
  | k + 1, v17_1, u1_0_1, u1_1_1, u2R_1 => (bif (decide (v17_1 < (a1.length : Int))) then (bif (decide (0 ≤ v17_1 ∧ v17_1 < (a1.length : Int))) then ((m303 v17_1 s0).bind fun t4 => (bif (decide (0 ≤ (0 : Int) ∧ (0 : Int) ≤ (a2.length : Int) ∧ (a2.length : Int) ≤ (a2.length : Int))) then (bif (decide (((a2.take ((a2.length : Int)).toNat).drop ((0 : Int)).toNat).length + ([(Step.mk t4.2.1 t4.2.2)] : List Step).length ≤ LIM)) then (bif t4.1.isNo then none else ((f156 u1_0_1 u1_1_1 t4.1 (a1.getD (v17_1).toNat J.null) (((a2.take ((a2.length : Int)).toNat).drop ((0 : Int)).toNat) ++ ([(Step.mk t4.2.1 t4.2.2)] : List Step))).bind fun t12 => (bif (decide (u2R_1.length + ([t12.1] : List J).length ≤ LIM)) then (m302l_l0 f156 s0 a1 a2 k (IntKind.wrap .i64 (v17_1 + (1 : Int))) t12.2.1 t12.2.2 (u2R_1 ++ ([t12.1] : List J))) else none))) else none) else none)) else none) else (some (u2R_1, u1_0_1, u1_1_1)))
def m302l (f156 : List Step → Bool → Ty → J → List Step → Option (J × List Step × Bool)) (s0 : Ty) (sa0 : List Step) (sa1 : Bool) (a1 : List J) (a2 : List Step) : Option (List J × List Step × Bool) :=
  (m302l_l0 f156 s0 a1 a2 FUEL (0 : Int) sa0 sa1 ([] : List J))
set_option maxHeartbeats 20000000 in
set_option maxRecDepth 100000 in
theorem c302l {f156 : List Step → Bool → Ty → J → List Step → Option (J × List Step × Bool)} (h156 : S156 f156) : ∀ {H0 : Hp} {w0 : World} {s0 : Ty} {sa0 : List Step} {sa1 : Bool} {a1 : List J} {a2 : List Step} {po00 : Value} {ao10 : Option Addr} {co10 : Nat} {aa1 : Option Addr} {ca1 : Nat} {aa2 : Option Addr} {ca2 : Nat} {b0 : Nat} {tl0 : List Value} {T0 : TypeId} {b1 : Nat} {tl1 : List Value} {T1 : TypeId} (_ : Imm H0 w0) (_ : GT H0) (_ : Rs.holds w0 (.two (.cel b0 (po00 :: tl0) T0) (.cel b1 ((.slice ao10 (List.length sa0) co10) :: (.bool sa1) :: tl1) T1))) (_ : ∀ b' ∈ Rs.foot (.two (.cel b0 (po00 :: tl0) T0) (.cel b1 ((.slice ao10 (List.length sa0) co10) :: (.bool sa1) :: tl1) T1)), H0 b' = none) (_ : TyR H0 po00 s0) (_ : Sl cStep H0 ao10 co10 sa0) (_ : Sl cJ H0 aa1 ca1 a1) (_ : Sl cStep H0 aa2 ca2 a2) {r : (List J × List Step × Bool)} (_ : m302l f156 s0 sa0 sa1 a1 a2 = some r), Ct Tryz.prog 302 [.pointer (some ⟨b1, 0, none⟩), .slice aa1 (List.length a1) ca1, .slice aa2 (List.length a2) ca2, .func (.func 303) #[] (List.toArray [.pointer (some ⟨b0, 0, none⟩)])] (Rs.foot (.two (.cel b0 (po00 :: tl0) T0) (.cel b1 ((.slice ao10 (List.length sa0) co10) :: (.bool sa1) :: tl1) T1))) H0 w0 fun v H' w' => ∃ x : (Option Addr) × Nat × (Option Addr) × Nat, (v = .slice (x.1) (List.length r.1) (x.2.1) ∧ Sl cJ H' (x.1) (x.2.1) r.1 ∧ Sl cStep H' (x.2.2.1) (x.2.2.2) r.2.1) ∧ Rs.holds w' (.two (.cel b0 (po00 :: tl0) T0) (.cel b1 ((.slice (x.2.2.1) (List.length r.2.1) (x.2.2.2)) :: (.bool r.2.2) :: tl1) T1)) ∧ ∀ b' ∈ Rs.foot (.two (.cel b0 (po00 :: tl0) T0) (.cel b1 ((.slice (x.2.2.1) (List.length r.2.1) (x.2.2.2)) :: (.bool r.2.2) :: tl1) T1)), H' b' = none ∧ (b' ∈ Rs.foot (.two (.cel b0 (po00 :: tl0) T0) (.cel b1 ((.slice ao10 (List.length sa0) co10) :: (.bool sa1) :: tl1) T1)) ∨ w0.heap.size ≤ b') := by
  intro H0 w0 s0 sa0 sa1 a1 a2 po00 ao10 co10 aa1 ca1 aa2 ca2 b0 tl0 T0 b1 tl1 T1  hI hG hb hn ho00 ho10 ha1 ha2 r hm
  have hL := L.one hI hb hn
  have hL := hL.split 0 1 rfl rfl (.inl rfl)
  refine ct_of Tryz.func302 rfl Tryz.ntmps302 rfl (Nat.le_of_ble_eq_true rfl) ?_
  unfold m302l at hm
  refine sr <| sv (r_assign rfl) <| wt <| sr <| sv (r_assign rfl) <| wt <| wp_seq <| sr <| sv (r_move rfl) <| sv (r_lenS rfl Tryz.underlying23 rfl) <| sv (r_move rfl) <| wt <| wp_block ?_
  have hL := hL.addNil 2 33 1
  refine wp_loop_fuel (k := FUEL) (fun k a w => ∃ (v17_1 : Int) (u1_0_1 : List Step) (u1_1_1 : Bool) (u2R_1 : List J) (au1_0_1 : Option Addr) (cu1_0_1 : Nat) (au2R_1 : Option Addr) (cu2R_1 : Nat) (zu2R_1 : List Value) (l : List (Nat × Value)) (H : Hp), a = fr 52 ([(0, .pointer (some ⟨b1, 0, none⟩)), (2, .slice aa2 (List.length a2) ca2), (3, .func (.func 303) #[] (List.toArray [.pointer (some ⟨b0, 0, none⟩)])), (8, .slice none 0 0), (9, .slice au2R_1 (List.length u2R_1) cu2R_1), (15, .slice aa1 (List.length a1) ca1), (16, .int .i64 (a1.length : Int)), (17, .int .i64 v17_1)] ++ l) [] ∧ L (Rs.foot (.two (.cel b0 (po00 :: tl0) T0) (.cel b1 ((.slice ao10 (List.length sa0) co10) :: (.bool sa1) :: tl1) T1))) H0 w0 [(0, .cel b0 (po00 :: tl0) T0), (1, .cel b1 ((.slice au1_0_1 (List.length u1_0_1) cu1_0_1) :: (.bool u1_1_1) :: tl1) T1), (2, .row (.slice au2R_1 (List.length u2R_1) cu2R_1) 33 1 (List.length u2R_1) zu2R_1)] H w ∧ GT H ∧ TyR H po00 s0 ∧ Sl cJ H aa1 ca1 a1 ∧ Sl cStep H aa2 ca2 a2 ∧ Sl cStep H au1_0_1 cu1_0_1 u1_0_1 ∧ LC cJ H zu2R_1 u2R_1 ∧ (m302l_l0 f156 s0 a1 a2 k v17_1 u1_0_1 u1_1_1 u2R_1) = some r) ⟨_, _, _, _, _, _, _, _, _, _, _, fr_pre _ rfl, hL.pick _ rfl, hG, ho00, ha1, ha2, ho10, LC.nil, hm⟩ ?_
  rintro k0 a w ⟨v17_1, u1_0_1, u1_1_1, u2R_1, au1_0_1, cu1_0_1, au2R_1, cu2R_1, zu2R_1, l, H, rfl, hL, hG, ho00, ha1, ha2, hu1_0_1, hu2R_1, hm⟩
  cases k0 with
  | zero => rw [m302l_l0.eq_1] at hm; cases hm
  | succ k0 =>
    rw [m302l_l0.eq_2] at hm
    refine sr <| sv (r_lss rfl rfl) <| wt <| wp_seq ?_
    refine c_if hm rfl (fun hg1 hm => ?_) (fun hg1 hm => ?_)
    · refine wp_skip <| then_n <| wp_seq <| wp_block <| sr <| sv (r_move rfl) ?_
      obtain ⟨hg3, hm⟩ := grd hm
      obtain ⟨be2, oe2, _, hae2, hce2, ⟨xe20, rfl, he20⟩⟩ := Sl.at ha1 J.null hg3
      refine sv (r_indexAddr el_23 hg3 hae2 rfl rfl) <| sv (r_loadHk hL.imm ag_33 rfl (vs := [_]) hce2 rfl) ?_
      refine wl rfl (o_alloc 3 (c := [_]) hL ze_33 rfl fun b3 w hL => ?_)
      refine sv (r_assign rfl) ?_
      refine wl rfl (o_storek (i := 3) (vs := [_]) hL ag_33 rfl rfl rfl rfl (Nat.le_of_ble_eq_true rfl) (List.forall_mem_cons.2 ⟨(VR.one he20), List.forall_mem_nil _⟩) (c' := _ :: []) rfl fun w hL => ?_)
      refine wt <| sr <| sv (r_move rfl) <| sv (r_move rfl) ?_
      obtain ⟨t4, ht4, hm⟩ := bnd hm
      refine wl rfl (v_callE rfl 0 hL fn_303 rfl rfl (c303 hL.imm (hL.own 0 _ rfl) (fun b' hb' => (hL.non 0 _ rfl b' hb').1) ho00 ht4) fun pt4r0_0 v H w hlet4 hL hR => ?_)
      try dsimp only at hL hR
      replace hG := GT.mono hlet4 hG
      replace ho00 := TyR.mono hlet4 ho00
      replace ha1 := Sl.mono hlet4 ha1
      replace ha2 := Sl.mono hlet4 ha2
      replace hu1_0_1 := Sl.mono hlet4 hu1_0_1
      replace hu2R_1 := LC.mono hlet4 hu2R_1
      replace he20 := VR.mono hlet4 he20
      obtain ⟨rfl, ht4r0_0⟩ := hR
      refine sv (r_move rfl) <| sv (r_extract rfl rfl) <| sv (r_extract rfl rfl) ?_
      refine wl rfl (o_alloc 4 (c := [_, _]) hL ze_220 rfl fun b4 w hL => ?_)
      refine sv (r_assign rfl) ?_
      refine wl rfl (o_storek (i := 4) (vs := [_, _]) hL ag_220 rfl rfl rfl rfl (Nat.le_of_ble_eq_true rfl) (List.forall_mem_cons.2 ⟨rfl, (List.forall_mem_cons.2 ⟨rfl, List.forall_mem_nil _⟩)⟩) (c' := _ :: _ :: []) rfl fun w hL => ?_)
      refine wt <| wp_seq <| rd hL [4] [_] [(0, true), (1, true), (2, true), (3, true), (4, true), (5, true), (6, true), (7, false), (8, false), (9, true)] mixed rfl (by kernel_rfl) fun w hL => dv rfl (fun w hS => r_move rfl) <| dv rfl (fun w hS => r_move rfl) <| dv rfl (fun w hS => r_lenS rfl Tryz.underlying113 rfl) <| dv rfl (fun w hS => r_move rfl) <| dv rfl (fun w hS => r_lenS rfl Tryz.underlying113 rfl) ?_
      obtain ⟨hg5, hm⟩ := grd hm
      have hsy6 := Sl.cut ha2 hg5 (m := (a2.length : Int)) (Int.le_refl _)
      refine dv rfl (fun w hS => r_slice3 (k := cStep.k) el_113 ha2.1 hg5 rfl rfl rfl) <| dv rfl (fun w hS => r_loadk hS.2.1 ag_220 rfl (vs := [_, _]) rfl rfl) ?_
      have hww7 : LC cStep hL.hp [.string (mk t4.2.1), .int .i64 t4.2.2] ([(Step.mk t4.2.1 t4.2.2)] : List Step) := (LC.cons (K := cStep) (cs := [.string (mk t4.2.1), .int .i64 t4.2.2]) rfl LC.nil)
      refine dh rfl rfl (o_buildSlice (C := cStep) 5 hL el_113 ze_220 rfl (.cons rfl .nil) rfl rfl rfl rfl hww7 fun gw7 w hL => ⟨Sd.of hL (Hle.refl _) [4] rfl, ?_⟩)
      obtain ⟨hg8, hm⟩ := grd hm
      refine dh rfl rfl (o_append3 (C := cStep) 6 5 (cap3 hg5) hL el_113 rfl rfl hsy6 (.inl rfl) rfl hww7 rfl hg8 fun gw9 cw9 zw9 w hzw9 hL => ⟨Sd.of hL (Hle.refl _) [4] rfl, ?_⟩)
      have hww9 := LC.append hzw9 hww7
      refine dv rfl (fun w hS => r_assign rfl) <| dn <| then_n <| wp_seq <| sr <| sv (r_move rfl) <| sv (r_eqPN Tryz.underlying39 (TyR.pn ht4r0_0) rfl rfl) <| wt ?_
      refine c_if hm rfl (fun hg10 hm => ?_) (fun hg10 hm => ?_)
      · cases hm
      · refine wp_skip <| then_n <| rg <| sv (r_move rfl) <| sv (r_move rfl) <| sv (r_move rfl) <| sv (r_loadk (hL.own 3 _ rfl) ag_33 rfl (vs := [_]) rfl rfl) <| sv (r_move rfl) ?_
        obtain ⟨H, hlez11, hL, hsz11⟩ := hL.settle (i := 6) (K := cStep) rfl hww9
        replace hG := GT.mono hlez11 hG
        replace ho00 := TyR.mono hlez11 ho00
        replace ha1 := Sl.mono hlez11 ha1
        replace ha2 := Sl.mono hlez11 ha2
        replace hu1_0_1 := Sl.mono hlez11 hu1_0_1
        replace hu2R_1 := LC.mono hlez11 hu2R_1
        replace he20 := VR.mono hlez11 he20
        replace ht4r0_0 := TyR.mono hlez11 ht4r0_0
        obtain ⟨t12, ht12, hm⟩ := bnd hm
        refine wl rfl (o_callE 1 hL fn_156 rfl rfl (h156 hL.imm hG (hL.own 1 _ rfl) (fun b' hb' => (hL.non 1 _ rfl b' hb').1) hu1_0_1 ht4r0_0 he20 hsz11 ht12) fun x v H w hlet12 hL hR => ?_)
        obtain ⟨xt12r0_0, at12m0_0, ct12m0_0⟩ := x
        try dsimp only at hL hR
        replace hG := GT.mono hlet12 hG
        replace ho00 := TyR.mono hlet12 ho00
        replace ha1 := Sl.mono hlet12 ha1
        replace ha2 := Sl.mono hlet12 ha2
        replace hu1_0_1 := Sl.mono hlet12 hu1_0_1
        replace hu2R_1 := LC.mono hlet12 hu2R_1
        obtain ⟨rfl, ht12r0_0, ht12m0_0⟩ := hR
        have hww13 : LC cJ hL.hp [xt12r0_0] ([t12.1] : List J) := (LC.cons (K := cJ) (cs := [xt12r0_0]) ⟨_, rfl, ht12r0_0⟩ LC.nil)
        refine wl rfl (o_buildSlice (C := cJ) 7 hL el_23 ze_33 rfl (.cons rfl .nil) rfl rfl rfl rfl hww13 fun gw13 w hL => ?_)
        obtain ⟨hg14, hm⟩ := grd hm
        refine wl rfl (o_append (C := cJ) 2 7 hL el_23 rfl rfl rfl rfl hww13 rfl hg14 fun gw15 cw15 w hL => ?_)
        have hww15 := LC.append hu2R_1 hww13
        refine sv (r_assign rfl) <| wn <| blk_n <| then_n <| rg <| sv (r_add rfl rfl) <| sv (r_move rfl) <| wt ?_
        exact ⟨k0, Nat.lt_succ_self k0, _, _, _, _, _, _, _, _, _, _, _, fr_pre _ rfl, hL.pick _ rfl, hG, ho00, ha1, ha2, ht12m0_0, hww15, hm⟩
    · refine wp_exit <| then_e <| then_e <| blk_e <| then_n <| sr <| sv (r_move rfl) <| sv (r_assign rfl) <| wt <| wp_ret ?_
      obtain ⟨H, hlez16, hL, hsz16⟩ := hL.settle (i := 2) (K := cJ) rfl hu2R_1
      replace hu1_0_1 := Sl.mono hlez16 hu1_0_1
      obtain rfl := ends hm
      refine rt rfl (.tmp rfl .nil) ⟨_, _, rfl, hL.ext, ?_⟩
      have hL := hL.merge 0 1 rfl rfl rfl
      exact ⟨⟨au2R_1, cu2R_1, au1_0_1, cu1_0_1⟩, ⟨rfl, hsz16, hu1_0_1⟩, hL.give (i := 0) rfl⟩

/-- (*coerce.bringer).list -/
def m225 (f156 : List Step → Bool → Ty → J → List Step → Option (J × List Step × Bool)) (s0 : List Step) (s1 : Bool) (a1 : Ty) (a2_0 : J) (a3 : List Step) : Option (J × List Step × Bool) :=
  ((m130 a2_0).bind fun t1 => ((m301 a1 (t1.length : Int)).bind fun t2 => (bif (!t2.2) then none else ((m302l f156 a1 s0 s1 t1 a3).bind fun t4 => ((m87 t4.1).bind fun t5 => (some (t5, t4.2.1, t4.2.2)))))))
set_option maxHeartbeats 20000000 in
set_option maxRecDepth 100000 in
theorem c225 {f156 : List Step → Bool → Ty → J → List Step → Option (J × List Step × Bool)} (h156 : S156 f156) : ∀ {H0 : Hp} {w0 : World} {s0 : List Step} {s1 : Bool} {a1 : Ty} {a2_0 : J} {a3 : List Step} {ao00 : Option Addr} {co00 : Nat} {pa1 : Value} {xa2_0 : Value} {aa3 : Option Addr} {ca3 : Nat} {b0 : Nat} {tl0 : List Value} {T0 : TypeId} (_ : Imm H0 w0) (_ : GT H0) (_ : Rs.holds w0 (.cel b0 ((.slice ao00 (List.length s0) co00) :: (.bool s1) :: tl0) T0)) (_ : ∀ b' ∈ Rs.foot (.cel b0 ((.slice ao00 (List.length s0) co00) :: (.bool s1) :: tl0) T0), H0 b' = none) (_ : Sl cStep H0 ao00 co00 s0) (_ : TyR H0 pa1 a1) (_ : VR H0 xa2_0 a2_0) (_ : Sl cStep H0 aa3 ca3 a3) {r : (J × List Step × Bool)} (_ : m225 f156 s0 s1 a1 a2_0 a3 = some r), Ct Tryz.prog 225 [.pointer (some ⟨b0, 0, none⟩), pa1, .agg (List.toArray [xa2_0]), .slice aa3 (List.length a3) ca3] (Rs.foot (.cel b0 ((.slice ao00 (List.length s0) co00) :: (.bool s1) :: tl0) T0)) H0 w0 fun v H' w' => ∃ x : Value × (Option Addr) × Nat, (v = .agg (List.toArray [x.1]) ∧ VR H' (x.1) r.1 ∧ Sl cStep H' (x.2.1) (x.2.2) r.2.1) ∧ Rs.holds w' (.cel b0 ((.slice (x.2.1) (List.length r.2.1) (x.2.2)) :: (.bool r.2.2) :: tl0) T0) ∧ ∀ b' ∈ Rs.foot (.cel b0 ((.slice (x.2.1) (List.length r.2.1) (x.2.2)) :: (.bool r.2.2) :: tl0) T0), H' b' = none ∧ (b' ∈ Rs.foot (.cel b0 ((.slice ao00 (List.length s0) co00) :: (.bool s1) :: tl0) T0) ∨ w0.heap.size ≤ b') := by
  intro H0 w0 s0 s1 a1 a2_0 a3 ao00 co00 pa1 xa2_0 aa3 ca3 b0 tl0 T0  hI hG hb hn ho00 ha1 ha2_0 ha3 r hm
  have hL := L.one hI hb hn
  refine ct_of Tryz.func225 rfl Tryz.ntmps225 rfl (Nat.le_of_ble_eq_true rfl) ?_
  unfold m225 at hm
  refine sr ?_
  refine wl rfl (o_box 1 (c := [_]) hL rfl (cells_one (TyR.one ha1)) fun b1 w hL => ?_)
  refine wl rfl (o_box 2 (c := [_]) hL rfl rfl fun b2 w hL => ?_)
  refine wl rfl (o_alloc 3 (c := [_]) hL ze_33 rfl fun b3 w hL => ?_)
  refine wt <| sr <| sv (r_loadk (hL.own 2 _ rfl) ag_33 rfl (vs := [_]) rfl rfl) ?_
  obtain ⟨t1, ht1, hm⟩ := bnd hm
  refine wl rfl (o_call0 hL fn_130 rfl (c130 hL.imm ha2_0 ht1) fun v H w hlet1 hL hR => ?_)
  replace hG := GT.mono hlet1 hG
  replace ho00 := Sl.mono hlet1 ho00
  replace ha1 := TyR.mono hlet1 ha1
  replace ha3 := Sl.mono hlet1 ha3
  obtain ⟨at1r0_0, ct1r0_0, rfl, ht1r0_0⟩ := hR
  refine sv (r_assign rfl) <| wt <| wp_seq <| sr <| sv (r_load1 (hL.own 1 _ rfl) sc_39 rfl rfl) <| sv (r_move rfl) <| sv (r_lenS rfl Tryz.underlying23 rfl) ?_
  obtain ⟨t2, ht2, hm⟩ := bnd hm
  refine wl rfl (o_call0 hL fn_301 rfl (c301 hL.imm ha1 ht2) fun v H w hlet2 hL hR => ?_)
  replace hG := GT.mono hlet2 hG
  replace ho00 := Sl.mono hlet2 ho00
  replace ha1 := TyR.mono hlet2 ha1
  replace ha3 := Sl.mono hlet2 ha3
  replace ht1r0_0 := Sl.mono hlet2 ht1r0_0
  obtain rfl := hR
  refine sv (r_move rfl) <| sv (r_extract rfl rfl) <| sv (r_extract rfl rfl) <| sv (r_assign rfl) <| sv (r_assign rfl) <| wt <| sr <| sv (r_move rfl) <| sv (r_not rfl) <| wt ?_
  refine c_if hm rfl (fun hg3 hm => ?_) (fun hg3 hm => ?_)
  · cases hm
  · refine wp_skip <| then_n <| sr <| sv (r_move rfl) <| sv (r_move rfl) <| sv (r_move rfl) <| sv (r_makeFunc rfl) ?_
    obtain ⟨t4, ht4, hm⟩ := bnd hm
    have hL := hL.merge 1 0 rfl rfl rfl
    refine wl rfl (o_callE 1 hL fn_302 rfl rfl (c302l h156 hL.imm hG (hL.own 1 _ rfl) (fun b' hb' => (hL.non 1 _ rfl b' hb').1) ha1 ho00 ht1r0_0 ha3 ht4) fun x v H w hlet4 hL hR => ?_)
    obtain ⟨at4r0_0, ct4r0_0, at4m1_0, ct4m1_0⟩ := x
    try dsimp only at hL hR
    obtain ⟨rfl, ht4r0_0, ht4m1_0⟩ := hR
    have hL := hL.split 1 0 rfl rfl (.inr rfl)
    have hL := hL.pick [(0, .cel b0 ((.slice at4m1_0 (List.length t4.2.1) ct4m1_0) :: (.bool t4.2.2) :: tl0) T0), (1, .cel b1 (pa1 :: []) 39), (2, .cel b2 (xa2_0 :: []) 33), (3, .cel b3 (.nilIface :: []) 33)] rfl
    obtain ⟨t5, ht5, hm⟩ := bnd hm
    refine wl rfl (o_call0 hL fn_87 rfl (c87 hL.imm ht4r0_0 ht5) fun v H w hlet5 hL hR => ?_)
    replace ht4m1_0 := Sl.mono hlet5 ht4m1_0
    obtain ⟨xt5r0_0, rfl, ht5r0_0⟩ := hR
    refine wl rfl (o_storek (i := 3) (vs := [_]) hL ag_33 rfl rfl rfl rfl (Nat.le_of_ble_eq_true rfl) (List.forall_mem_cons.2 ⟨(VR.one ht5r0_0), List.forall_mem_nil _⟩) (c' := _ :: []) rfl fun w hL => ?_)
    refine wt <| wp_ret ?_
    obtain rfl := ends hm
    refine rt rfl (.agg (hL.own 3 _ rfl) ag_33 rfl (us := [_]) rfl rfl .nil) ⟨_, _, rfl, hL.ext, ?_⟩
    exact ⟨⟨xt5r0_0, at4m1_0, ct4m1_0⟩, ⟨rfl, ht5r0_0, ht4m1_0⟩, hL.give (i := 0) rfl⟩

/-- (*coerce.bringer).bring -/
def m156_j0 (f156 : List Step → Bool → Ty → J → List Step → Option (J × List Step × Bool)) (s0 : List Step) (s1 : Bool) (a1 : Ty) (a2_0 : J) (a3 : List Step) (t1 : Int) (v33_1 : Bool) : Option (J × List Step × Bool) := (bif v33_1 then ((m225 f156 s0 s1 a1 a2_0 a3).bind fun t8 => (some (t8.1, t8.2.1, t8.2.2))) else (bif (t1 == (7 : Int)) then none else ((m224 a1).bind fun t10 => (bif (t10 != (0 : Int)) then none else ((m228 a1 a2_0).bind fun t12 => (bif (!t12.2) then none else (some (t12.1, s0, s1))))))))
def m156o (f156 : List Step → Bool → Ty → J → List Step → Option (J × List Step × Bool)) (s0 : List Step) (s1 : Bool) (a1 : Ty) (a2_0 : J) (a3 : List Step) : Option (J × List Step × Bool) :=
  ((m21 a2_0).bind fun t1 => (bif s1 then none else (bif (t1 == (0 : Int)) then none else (bif (t1 == (1 : Int)) then none else ((m223 a1).bind fun t5 => (bif (t5 == [97, 110, 121]) then none else (bif (t1 == (6 : Int)) then ((m224 a1).bind fun t15 => (m156_j0 f156 s0 s1 a1 a2_0 a3 t1 (t15 == (6 : Int)))) else (m156_j0 f156 s0 s1 a1 a2_0 a3 t1 false))))))))
set_option maxHeartbeats 20000000 in
set_option maxRecDepth 100000 in
theorem c156o {f156 : List Step → Bool → Ty → J → List Step → Option (J × List Step × Bool)} (h156 : S156 f156) : S156 (m156o f156) := by
  unfold S156
  intro H0 w0 s0 s1 a1 a2_0 a3 ao00 co00 pa1 xa2_0 aa3 ca3 b0 tl0 T0  hI hG hb hn ho00 ha1 ha2_0 ha3 r hm
  have hL := L.one hI hb hn
  refine ct_of Tryz.func156 rfl Tryz.ntmps156 rfl (Nat.le_of_ble_eq_true rfl) ?_
  unfold m156o at hm
  refine sr ?_
  refine wl rfl (o_box 1 (c := [_]) hL rfl rfl fun b1 w hL => ?_)
  refine wl rfl (o_alloc 2 (c := [_]) hL ze_33 rfl fun b2 w hL => ?_)
  refine wt <| sr <| sv (r_loadk (hL.own 1 _ rfl) ag_33 rfl (vs := [_]) rfl rfl) ?_
  obtain ⟨t1, ht1, hm⟩ := bnd hm
  refine wl rfl (o_call0 hL fn_21 rfl (c21 hL.imm ha2_0 ht1) fun v H w hlet1 hL hR => ?_)
  replace hG := GT.mono hlet1 hG
  replace ho00 := Sl.mono hlet1 ho00
  replace ha1 := TyR.mono hlet1 ha1
  replace ha2_0 := VR.mono hlet1 ha2_0
  replace ha3 := Sl.mono hlet1 ha3
  obtain rfl := hR
  refine sv (r_assign rfl) <| wt <| wp_seq <| wp_block <| sr <| sv (r_move rfl) <| sv (r_nilCheck rfl) <| sv (r_fieldAddr fl_256_1 rfl) <| sv (r_load1 (hL.own 0 _ rfl) sc_4 rfl rfl) <| sv (r_move rfl) ?_
  refine m_if hm (fun hg2 hm => ?_) (fun hg2 hm => ?_)
  · cases hm
  · refine wlT rfl rfl rfl rfl hg2 (o_val (r_move rfl) ?_)
    refine wlT rfl rfl rfl rfl hg2 (o_val (r_eqi rfl rfl) ?_)
    refine sv (r_pickF hg2 rfl rfl) <| sv (r_move rfl) ?_
    refine m_if hm (fun hg3 hm => ?_) (fun hg3 hm => ?_)
    · cases hm
    · refine wlT rfl rfl rfl rfl hg3 (o_val (r_move rfl) ?_)
      refine wlT rfl rfl rfl rfl hg3 (o_val (r_eqi rfl rfl) ?_)
      refine sv (r_pickF hg3 rfl rfl) <| sv (r_move rfl) ?_
      refine m_if hm (fun hg4 hm => ?_) (fun hg4 hm => ?_)
      · cases hm
      · refine wlT rfl rfl rfl rfl hg4 (o_val (r_move rfl) ?_)
        obtain ⟨t5, ht5, hm⟩ := bnd hm
        refine wlT rfl rfl rfl rfl hg4 (o_call0 hL fn_223 rfl (c223 hL.imm ha1 ht5) fun v H w hlet5 hL hR => ?_)
        replace hG := GT.mono hlet5 hG
        replace ho00 := Sl.mono hlet5 ho00
        replace ha1 := TyR.mono hlet5 ha1
        replace ha2_0 := VR.mono hlet5 ha2_0
        replace ha3 := Sl.mono hlet5 ha3
        obtain rfl := hR
        refine wlT rfl rfl rfl rfl hg4 (o_val (r_eqs rfl rfl) ?_)
        refine sv (r_pickF hg4 rfl rfl) <| sv (r_assign rfl) <| wt ?_
        refine c_if hm rfl (fun hg6 hm => ?_) (fun hg6 hm => ?_)
        · cases hm
        · refine w_join (fun a w => ∃ (v33_1 : Bool) (l : List (Nat × Value)) (H : Hp), a = fr 78 ([(0, .pointer (some ⟨b0, 0, none⟩)), (1, pa1), (3, .slice aa3 (List.length a3) ca3), (6, .pointer (some ⟨b1, 0, none⟩)), (8, .pointer (some ⟨b2, 0, none⟩)), (9, .int .i64 t1), (33, .bool v33_1)] ++ l) [] ∧ L (Rs.foot (.cel b0 ((.slice ao00 (List.length s0) co00) :: (.bool s1) :: tl0) T0)) H0 w0 [(0, .cel b0 ((.slice ao00 (List.length s0) co00) :: (.bool s1) :: tl0) T0), (1, .cel b1 (xa2_0 :: []) 33), (2, .cel b2 (.nilIface :: []) 33)] H w ∧ GT H ∧ Sl cStep H ao00 co00 s0 ∧ TyR H pa1 a1 ∧ VR H xa2_0 a2_0 ∧ Sl cStep H aa3 ca3 a3 ∧ (m156_j0 f156 s0 s1 a1 a2_0 a3 t1 v33_1) = some r) (fun a w hj => ?_) ?_
          · obtain ⟨v33_1, l, H, rfl, hL, hG, ho00, ha1, ha2_0, ha3, hm⟩ := hj
            unfold m156_j0 at hm
            refine c_if hm rfl (fun hg7 hm => ?_) (fun hg7 hm => ?_)
            · refine sr <| sv (r_move rfl) <| sv (r_move rfl) <| sv (r_loadk (hL.own 1 _ rfl) ag_33 rfl (vs := [_]) rfl rfl) <| sv (r_move rfl) ?_
              obtain ⟨t8, ht8, hm⟩ := bnd hm
              refine wl rfl (o_callE 0 hL fn_225 rfl rfl (c225 h156 hL.imm hG (hL.own 0 _ rfl) (fun b' hb' => (hL.non 0 _ rfl b' hb').1) ho00 ha1 ha2_0 ha3 ht8) fun x v H w hlet8 hL hR => ?_)
              obtain ⟨xt8r0_0, at8m0_0, ct8m0_0⟩ := x
              try dsimp only at hL hR
              replace hG := GT.mono hlet8 hG
              replace ho00 := Sl.mono hlet8 ho00
              replace ha1 := TyR.mono hlet8 ha1
              replace ha2_0 := VR.mono hlet8 ha2_0
              replace ha3 := Sl.mono hlet8 ha3
              obtain ⟨rfl, ht8r0_0, ht8m0_0⟩ := hR
              refine wl rfl (o_storek (i := 2) (vs := [_]) hL ag_33 rfl rfl rfl rfl (Nat.le_of_ble_eq_true rfl) (List.forall_mem_cons.2 ⟨(VR.one ht8r0_0), List.forall_mem_nil _⟩) (c' := _ :: []) rfl fun w hL => ?_)
              refine wt <| wp_ret <| blk_r <| then_r ?_
              obtain rfl := ends hm
              refine rt rfl (.agg (hL.own 2 _ rfl) ag_33 rfl (us := [_]) rfl rfl .nil) ⟨_, _, rfl, hL.ext, ?_⟩
              exact ⟨⟨xt8r0_0, at8m0_0, ct8m0_0⟩, ⟨rfl, ht8r0_0, ht8m0_0⟩, hL.give (i := 0) rfl⟩
            · refine sr <| sv (r_move rfl) <| sv (r_eqi rfl rfl) <| sv (r_move rfl) ?_
              refine m_if hm (fun hg9 hm => ?_) (fun hg9 hm => ?_)
              · cases hm
              · refine wlF rfl rfl rfl rfl hg9 rfl <| wlF rfl rfl rfl rfl hg9 rfl <| wlF rfl rfl rfl rfl hg9 rfl <| sv (r_pickF hg9 rfl rfl) <| sv (r_assign rfl) <| wt <| c_F rfl rfl <| sr <| sv (r_move rfl) ?_
                obtain ⟨t10, ht10, hm⟩ := bnd hm
                refine wl rfl (o_call0 hL fn_224 rfl (c224 hL.imm ha1 ht10) fun v H w hlet10 hL hR => ?_)
                replace hG := GT.mono hlet10 hG
                replace ho00 := Sl.mono hlet10 ho00
                replace ha1 := TyR.mono hlet10 ha1
                replace ha2_0 := VR.mono hlet10 ha2_0
                replace ha3 := Sl.mono hlet10 ha3
                obtain rfl := hR
                refine sv (r_nei rfl rfl) <| sv (r_assign rfl) <| wt ?_
                refine c_if hm rfl (fun hg11 hm => ?_) (fun hg11 hm => ?_)
                · cases hm
                · refine wp_skip <| blk_n <| then_n <| sr <| sv (r_move rfl) <| sv (r_loadk (hL.own 1 _ rfl) ag_33 rfl (vs := [_]) rfl rfl) ?_
                  obtain ⟨t12, ht12, hm⟩ := bnd hm
                  refine wl rfl (o_call0 hL fn_228 rfl (c228 hL.imm hG ha1 ha2_0 ht12) fun v H w hlet12 hL hR => ?_)
                  replace hG := GT.mono hlet12 hG
                  replace ho00 := Sl.mono hlet12 ho00
                  replace ha1 := TyR.mono hlet12 ha1
                  replace ha2_0 := VR.mono hlet12 ha2_0
                  replace ha3 := Sl.mono hlet12 ha3
                  obtain ⟨xt12r0_0, rfl, ht12r0_0⟩ := hR
                  refine sv (r_move rfl) <| sv (r_extract rfl rfl) <| sv (r_extract rfl rfl) ?_
                  refine wl rfl (o_alloc 3 (c := [_]) hL ze_33 rfl fun b3 w hL => ?_)
                  refine wl rfl (o_storek (i := 3) (vs := [_]) hL ag_33 rfl rfl rfl rfl (Nat.le_of_ble_eq_true rfl) (List.forall_mem_cons.2 ⟨(VR.one ht12r0_0), List.forall_mem_nil _⟩) (c' := _ :: []) rfl fun w hL => ?_)
                  refine sv (r_assign rfl) <| wt <| wp_seq <| sr <| sv (r_move rfl) <| sv (r_not rfl) <| wt ?_
                  refine c_if hm rfl (fun hg13 hm => ?_) (fun hg13 hm => ?_)
                  · cases hm
                  · refine wp_skip <| then_n <| sr <| sv (r_loadk (hL.own 3 _ rfl) ag_33 rfl (vs := [_]) rfl rfl) ?_
                    refine wl rfl (o_storek (i := 2) (vs := [_]) hL ag_33 rfl rfl rfl rfl (Nat.le_of_ble_eq_true rfl) (List.forall_mem_cons.2 ⟨(VR.one ht12r0_0), List.forall_mem_nil _⟩) (c' := _ :: []) rfl fun w hL => ?_)
                    refine wt <| wp_ret ?_
                    obtain rfl := ends hm
                    refine rt rfl (.agg (hL.own 2 _ rfl) ag_33 rfl (us := [_]) rfl rfl .nil) ⟨_, _, rfl, hL.ext, ?_⟩
                    exact ⟨⟨xt12r0_0, ao00, co00⟩, ⟨rfl, ht12r0_0, ho00⟩, hL.give (i := 0) rfl⟩
          · refine rg <| sv (r_move rfl) <| sv (r_eqi rfl rfl) <| sv (r_move rfl) ?_
            refine m_if hm (fun hg14 hm => ?_) (fun hg14 hm => ?_)
            · refine wlT rfl rfl rfl rfl hg14 (o_val (r_move rfl) ?_)
              obtain ⟨t15, ht15, hm⟩ := bnd hm
              refine wlT rfl rfl rfl rfl hg14 (o_call0 hL fn_224 rfl (c224 hL.imm ha1 ht15) fun v H w hlet15 hL hR => ?_)
              replace hG := GT.mono hlet15 hG
              replace ho00 := Sl.mono hlet15 ho00
              replace ha1 := TyR.mono hlet15 ha1
              replace ha2_0 := VR.mono hlet15 ha2_0
              replace ha3 := Sl.mono hlet15 ha3
              obtain rfl := hR
              refine wlT rfl rfl rfl rfl hg14 (o_val (r_eqi rfl rfl) ?_)
              refine sv (r_pickT hg14 rfl rfl) <| sv (r_assign rfl) <| wt ?_
              exact ⟨_, _, _, fr_pre _ rfl, hL.pick _ rfl, hG, ho00, ha1, ha2_0, ha3, hm⟩
            · refine wlF rfl rfl rfl rfl hg14 rfl <| wlF rfl rfl rfl rfl hg14 rfl <| wlF rfl rfl rfl rfl hg14 rfl <| sv (r_pickF hg14 rfl rfl) <| sv (r_assign rfl) <| wt ?_
              exact ⟨_, _, _, fr_pre _ rfl, hL.pick _ rfl, hG, ho00, ha1, ha2_0, ha3, hm⟩
def m156n : Nat → List Step → Bool → Ty → J → List Step → Option (J × List Step × Bool)
  | 0 => fun _ _ _ _ _ => none
  | n + 1 => m156o (m156n n)
theorem c156n (n : Nat) : S156 (m156n n) := by
  induction n with
  | zero =>
    unfold S156
    intro H0 w0 s0 s1 a1 a2_0 a3 ao00 co00 pa1 xa2_0 aa3 ca3 b0 tl0 T0  hI hG hb hn ho00 ha1 ha2_0 ha3 r hm
    rw [m156n.eq_1] at hm
    cases hm
  | succ n ih => exact c156o ih
def m156 : List Step → Bool → Ty → J → List Step → Option (J × List Step × Bool) := m156n FUEL
theorem c156 : S156 m156 := c156n FUEL

/-- coerce.Bring -/
def m76 (a0 : Ty) (a1_0 : J) : Option (J × List Step × Int) :=
  (bif a0.isNo then none else ((m156 ([] : List Step) false a0 a1_0 ([] : List Step)).bind fun t2 => (bif t2.2.2 then none else (some (t2.1, ([] : List Step), (0 : Int))))))
set_option maxHeartbeats 20000000 in
set_option maxRecDepth 100000 in
theorem c76 : ∀ {H0 : Hp} {w0 : World} {a0 : Ty} {a1_0 : J} {pa0 : Value} {xa1_0 : Value}  (_ : Imm H0 w0) (_ : GT H0) (_ : TyR H0 pa0 a0) (_ : VR H0 xa1_0 a1_0) {r : (J × List Step × Int)} (_ : m76 a0 a1_0 = some r), Ct Tryz.prog 76 [pa0, .agg (List.toArray [xa1_0])] [] H0 w0 fun v H' w' => ∃ (xr0_0 : Value) (ar1_0 : Option Addr) (cr1_0 : Nat), v = .tuple (List.toArray [.agg (List.toArray [xr0_0]), .slice ar1_0 (List.length r.2.1) cr1_0, .int .i64 r.2.2]) ∧ VR H' xr0_0 r.1 ∧ Sl cStep H' ar1_0 cr1_0 r.2.1 := by
  intro H0 w0 a0 a1_0 pa0 xa1_0  hI hG ha0 ha1_0 r hm
  have hL := L.start hI
  refine ct_of Tryz.func76 rfl Tryz.ntmps76 rfl (Nat.le_of_ble_eq_true rfl) ?_
  unfold m76 at hm
  refine sr ?_
  refine wl rfl (o_box 0 (c := [_]) hL rfl rfl fun b0 w hL => ?_)
  refine wl rfl (o_alloc 1 (c := [_]) hL ze_33 rfl fun b1 w hL => ?_)
  refine sv (r_assign rfl) <| sv (r_assign rfl) <| wt <| wp_seq <| sr <| sv (r_move rfl) <| sv (r_eqPN Tryz.underlying39 (TyR.pn ha0) rfl rfl) <| wt ?_
  refine c_if hm rfl (fun hg1 hm => ?_) (fun hg1 hm => ?_)
  · cases hm
  · refine wp_skip <| then_n <| sr <| sv (r_build ze_256 st_256 rfl .nil (cs := [_, _]) rfl) ?_
    refine wl rfl (o_box 2 (c := [_, _]) hL rfl rfl fun b2 w hL => ?_)
    refine sv (r_assign rfl) <| wt <| sr <| sv (r_move rfl) <| sv (r_move rfl) <| sv (r_loadk (hL.own 0 _ rfl) ag_33 rfl (vs := [_]) rfl rfl) ?_
    obtain ⟨t2, ht2, hm⟩ := bnd hm
    refine wl rfl (o_callE 2 hL fn_156 rfl rfl (c156 hL.imm hG (hL.own 2 _ rfl) (fun b' hb' => (hL.non 2 _ rfl b' hb').1) Sl.nil ha0 ha1_0 Sl.nil ht2) fun x v H w hlet2 hL hR => ?_)
    obtain ⟨xt2r0_0, at2m0_0, ct2m0_0⟩ := x
    try dsimp only at hL hR
    obtain ⟨rfl, ht2r0_0, ht2m0_0⟩ := hR
    refine wl rfl (o_alloc 3 (c := [_]) hL ze_33 rfl fun b3 w hL => ?_)
    refine wl rfl (o_storek (i := 3) (vs := [_]) hL ag_33 rfl rfl rfl rfl (Nat.le_of_ble_eq_true rfl) (List.forall_mem_cons.2 ⟨(VR.one ht2r0_0), List.forall_mem_nil _⟩) (c' := _ :: []) rfl fun w hL => ?_)
    refine wt <| wp_seq <| sr <| sv (r_move rfl) <| sv (r_nilCheck rfl) <| sv (r_fieldAddr fl_256_1 rfl) <| sv (r_load1 (hL.own 2 _ rfl) sc_4 rfl rfl) <| wt ?_
    refine c_if hm rfl (fun hg3 hm => ?_) (fun hg3 hm => ?_)
    · cases hm
    · refine wp_skip <| then_n <| sr <| sv (r_loadk (hL.own 3 _ rfl) ag_33 rfl (vs := [_]) rfl rfl) ?_
      refine wl rfl (o_storek (i := 1) (vs := [_]) hL ag_33 rfl rfl rfl rfl (Nat.le_of_ble_eq_true rfl) (List.forall_mem_cons.2 ⟨(VR.one ht2r0_0), List.forall_mem_nil _⟩) (c' := _ :: []) rfl fun w hL => ?_)
      refine sv (r_assign rfl) <| sv (r_assign rfl) <| wt <| wp_ret ?_
      obtain rfl := ends hm
      exact rt rfl (.agg (hL.own 1 _ rfl) ag_33 rfl (us := [_]) rfl rfl (.tmp rfl (.tmp rfl .nil))) ⟨_, _, rfl, hL.ext, ⟨_, _, _, rfl, ht2r0_0, Sl.nil⟩⟩

end Go.Proofs.YtcjphpenelnohaaGreatDoor
/- The addresses of an empty store: maps.Keys, slices.Collect over no keys. -/
namespace Go.Proofs.YtcjphpenelnohaaGreatDoor
open Go.RowKit Go.Maps Go.Sort Go.Shelf
set_option maxRecDepth 100000 in
/-- maps.Keys's function, over a map without keys -/
theorem c367e {H0 : Hp} {w0 : World} {Bm b ck : Nat} {es : Array MapEntry} {f : Value} (hI : Imm H0 w0) (hc : HC H0 Bm 0 [.map (some b)]) (hm : H0 b = some (.map es ck)) (T : TR kAd (evA cEn) H0 es ck []) :
    Ct Tryz.prog 367 [f, .pointer (some ⟨Bm, 0, none⟩)] [] H0 w0 fun _ _ _ => True := by
  have hL := L.start hI
  refine ct_of Tryz.func367 rfl Tryz.ntmps367 rfl (Nat.le_of_ble_eq_true rfl) ?_
  refine sr <| sv (r_loadH1 hL.imm sc_189 rfl hc) ?_
  refine wl rfl (o_range 2 hL Tryz.underlying189 (hL.imm b _ hm) T rfl fun it o w hIt hL => ?_)
  refine wt <| wp_block ?_
  refine wp_loop_fuel (k := 0) (fun k a w => ∃ (l : List (Nat × Value)) (H : Hp) (o : Obj), a = fr 14 ([(5, .pointer (some ⟨it, 0, none⟩))] ++ l) [] ∧ L [] H0 w0 [(2, .obj it o)] H w ∧ It kAd es b ck ([] : List (Ad × En)) none o ∧ Hle H0 H) ⟨_, _, _, fr_pre _ rfl, hL.pick _ rfl, hIt, Hle.refl _⟩ ?_
  rintro k a w ⟨l, H, o, rfl, hL, hIt, hle⟩
  refine sr ?_
  refine wl rfl (o_next (i := 2) (m := ([] : List (Ad × En))) hL rfl hIt (fun p hp => hp) (hL.imm b _ (hle b _ hm)) (T.mono hle) rfl (fun hnil => ?_) fun p e o w hp hek hev hIt hL => by cases hp)
  refine sv (r_extract rfl rfl) <| wt <| wp_seq <| c_F (b := false) rfl rfl <| wp_exit <| then_e <| then_e <| blk_e ?_
  exact rtN rfl .nil ⟨_, _, rfl, hL.ext, trivial⟩
theorem grownBy_of_ext {H H' : Hp} {w w' : World} (h : Ext [] H w H' w') : w.grownBy w' none :=
  ⟨h.os, h.tape, h.output, h.size, fun b hb _ => h.block b hb (by simp)⟩
/-- A range over a function that calls no round, and turns nothing that lay. -/
theorem wpIn_rangeFunc_none {F : Fence} {n : Nat} {P : Program} {g : Operand} {ps : Array Tmp} {assign body : Code} {Q : Exit → Act → World → Prop} {a : Act} {w : World}
    (hro : F.round = none) (h1 : 1 ≤ n) {gf : Nat} {lb : Array Value} (hg : a.eval g = .func (.func gf) #[] lb) (hFg : F.fn gf) (eg : ∀ args w, (callFunc gf args).run P w = .ok (.enter gf args) w)
    (hcall : ∀ (l : Nat) (W : World), Below w.heap.size w W → CallsIn F (n - 1) P gf (#[.func (.yield l) #[] #[]] ++ lb) W fun e W' => (∃ v, e = .returned v) ∧ W.grownBy W' none)
    (hdone : ∀ (D : Nat) (W : World), Below w.heap.size w W → w.heap.size ≤ D → W.heap[D]? = some (.deferred (some [])) → Q .normal { a with defers := { target := .collected D, args := #[] } :: a.defers } W) :
    (Code.rangeFunc g ps assign body).wpIn F n P Q a w := by
  refine wpIn_rangeFunc ?_
  intro fn hfn
  rw [hro]
  obtain ⟨rec, hrec⟩ : ∃ rec : LoopState → Option Code → Loop, rec = fun st pe => { state := st, pending := pe, fn, tmps := a.tmps, params := ps, assign, body, defers := w.heap.size } := ⟨_, rfl⟩
  obtain ⟨W1, hW1⟩ : ∃ W1, (w.alloc (.deferred (some []))).alloc (.loop (rec .ready none)) = W1 := ⟨_, rfl⟩
  have hL1 : W1.heap[w.heap.size + 1]? = some (.loop (rec .ready none)) := by
    rw [← hW1]; have := World.alloc_heap_new (w.alloc (.deferred (some []))) (.loop (rec .ready none)); rwa [World.size_alloc] at this
  have hK1 : W1.heap[w.heap.size]? = some (.deferred (some [])) := by
    rw [← hW1]; exact (Below.heap_alloc _ _ _ (by simp)).trans (World.alloc_heap_new w _)
  have hb1 : Below w.heap.size w W1 := by
    rw [← hW1]; exact (((Below.refl _ w).alloc (Nat.le_refl _) _).alloc (by simp) _)
  refine ⟨w.heap.size + 1, [{ target := .collected w.heap.size, args := #[] }], W1, { target := .fn (.func gf) lb, args := #[.func (.yield (w.heap.size + 1)) #[] #[]] }, W1, gf,
    #[.func (.yield (w.heap.size + 1)) #[] #[]] ++ lb, W1, ?_, ?_, ?_, ?_, fun _ => h1, ?_⟩
  · rw [← hW1, hrec]; exact run_enterLoop_outer _ _ _ _ _
  · simp only [resolve, hg]
    simp [go_sem]
  · intro f' hf'; simp [Target.leads] at hf'; subst hf'; exact hFg
  · simp [invoke, go_sem, eg]
  · refine (hcall _ W1 hb1).mono ?_
    rintro e W2 ⟨⟨v, rfl⟩, hg2⟩
    have hl : W2.heap[w.heap.size + 1]? = some (.loop (rec .ready none)) := (hg2.block _ (Array.getElem?_eq_some_iff.1 hL1).1 (by simp)).trans hL1
    have hk : W2.heap[w.heap.size]? = some (.deferred (some [])) := (hg2.block _ (Array.getElem?_eq_some_iff.1 hK1).1 (by simp)).trans hK1
    have hb2 : Below w.heap.size w W2 := hb1.grown hg2 hb1.size (fun k e => by cases e)
    exact ⟨none, _, by have := run_endLoop (P := P) hl (by rw [hrec]; simp); rw [hrec] at this; exact this,
      hdone _ _ (hb2.grown (grownBy_putObj' _ _ _) hb2.size (fun k e => by cases e; omega)) (Nat.le_refl _) ((World.putObj_heap_other (by omega)).trans hk)⟩
set_option maxRecDepth 100000 in
set_option maxHeartbeats 2000000 in
theorem k366 {w : World} {Bm b ck : Nat} {es : Array MapEntry} (hc : w.heap[Bm]? = some (.cells #[.map (some b)] 189 (0, 0))) (hm : w.heap[b]? = some (.map es ck)) (T : TR kAd (evA cEn) (fun _ => none) es ck []) :
    CallsIn Fence.wide 5 Tryz.prog 366 #[.slice none 0 0, .func (.func 367) #[] #[.pointer (some ⟨Bm, 0, none⟩)]] w fun e w' => e = .returned (.slice none 0 0) ∧ Below w.heap.size w w' := by
  have hbm : Bm < w.heap.size := (Array.getElem?_eq_some_iff.1 hc).1
  have hbb : b < w.heap.size := (Array.getElem?_eq_some_iff.1 hm).1
  refine callsIn_of_wp_marks Tryz.func366 rfl trivial ?_ rfl
  simp only [Tryz.ntmps366, List.size_toArray, List.length_cons, List.length_nil, Nat.reduceAdd, Nat.reduceSub, Array.replicate_succ, Array.replicate_zero, List.push_toArray, List.append_toArray, List.nil_append, List.cons_append]
  gi_wp2
  refine wpIn_rangeFunc_none (gf := 367) (lb := #[.pointer (some ⟨Bm, 0, none⟩)]) rfl (by omega) rfl trivial fn_367 ?_ ?_
  · intro l W hW
    have hsz : (w.alloc (.cells #[.slice none 0 0] 51)).heap.size = w.heap.size + 1 := by simp
    have e1 : W.heap[Bm]? = some (.cells #[.map (some b)] 189 (0, 0)) := (hW.block Bm (by omega)).trans ((Below.heap_alloc _ _ Bm hbm).trans hc)
    have e2 : W.heap[b]? = some (.map es ck) := (hW.block b (by omega)).trans ((Below.heap_alloc _ _ b hbb).trans hm)
    refine callsIn_wide.2 (Calls.mono (c367e (H0 := fun x => if x = Bm then some (.cells #[.map (some b)] 189 (0, 0)) else if x = b then some (.map es ck) else none) (Bm := Bm) (b := b) (f := .func (.yield l) #[] #[]) ?_ ?_ ?_ (T.mono ?_)) ?_)
    · intro x o h
      dsimp only at h
      split at h
      · rename_i e; subst e; rw [← h]; exact e1
      · split at h
        · rename_i e; subst e; rw [← h]; exact e2
        · cases h
    · exact ⟨#[.map (some b)], 189, (0, 0), by simp, fun j v h => by simpa using h⟩
    · have : b ≠ Bm := fun e => by rw [e, hc] at hm; cases hm
      simp [this]
    · intro x o h; cases h
    · rintro e w' ⟨v, H', rfl, hx, _⟩
      exact ⟨⟨v, rfl⟩, grownBy_of_ext hx⟩
  · intro D W hW hD hd
    have hsz : (w.alloc (.cells #[.slice none 0 0] 51)).heap.size = w.heap.size + 1 := by simp
    have hv3 : W.heap[w.heap.size]? = some (.cells #[.slice none 0 0] 51 (0, 0)) := (hW.block _ (by omega)).trans (World.alloc_heap_new w _)
    obtain ⟨hc3, hf3⟩ := cell_of_box_a hv3
    have hb3 : Below w.heap.size w W := ((Below.refl w.heap.size w).alloc (Nat.le_refl _) _).trans (hW.mono (by omega))
    gi_wp2
    refine ⟨by simp, .inl ⟨_, _, rfl, run_takeDeferred hd, ?_⟩⟩
    exact ⟨_, results_tmp rfl _ _ _, rfl, hb3.grown (grownBy_putObj' _ _ _) hb3.size (fun k e => by cases e; omega)⟩
set_option maxRecDepth 100000 in
set_option maxHeartbeats 2000000 in
theorem k281 {w : World} {Bm b ck : Nat} {es : Array MapEntry} (hc : w.heap[Bm]? = some (.cells #[.map (some b)] 189 (0, 0))) (hm : w.heap[b]? = some (.map es ck)) (T : TR kAd (evA cEn) (fun _ => none) es ck []) :
    CallsIn Fence.wide 6 Tryz.prog 281 #[.func (.func 367) #[] #[.pointer (some ⟨Bm, 0, none⟩)]] w fun e w' => e = .returned (.slice none 0 0) ∧ Below w.heap.size w w' := by
  refine callsIn_of_wp Tryz.func281 rfl trivial ?_ rfl
  simp only [Tryz.ntmps281, List.size_toArray, List.length_cons, List.length_nil, Nat.reduceAdd, Nat.reduceSub, Array.replicate_succ, Array.replicate_zero, List.push_toArray, List.append_toArray, List.nil_append, List.cons_append]
  have e366 := fn_366
  gi_wp2
  refine ⟨trivial, (k366 hc hm T).mono ?_⟩
  rintro e w' ⟨rfl, hb⟩
  gi_wp2
  go_ret
  exact ⟨rfl, hb⟩
set_option maxHeartbeats 2000000 in
theorem k282 (q : Option Nat) (w : World) : CallsIn Fence.wide 6 Tryz.prog 282 #[.map q] w fun e w' => e = .returned (.func (.func 367) #[] #[.pointer (some ⟨w.heap.size, 0, none⟩)]) ∧ w' = w.alloc (.cells #[.map q] 189) := by
  refine callsIn_of_wp Tryz.func282 rfl trivial ?_ rfl
  simp only [Tryz.ntmps282, List.size_toArray, List.length_cons, List.length_nil, Nat.reduceAdd, Nat.reduceSub, Array.replicate_succ, Array.replicate_zero, List.push_toArray, List.append_toArray, List.nil_append, List.cons_append]
  gi_wp2
  go_ret
  exact ⟨rfl, rfl⟩
/-- the addresses of a store: so far of an empty one only -/
def m192 (m : List (Ad × En)) (_ : Int) : Option (List Ad) := bif m.isEmpty then m105 [] else none
set_option maxHeartbeats 4000000 in
set_option maxRecDepth 100000 in
theorem c192 : ∀ {H0 : Hp} {w0 : World} {s0 : List (Ad × En)} {s1 : Int} {go00 : Nat} {eo00 : Array MapEntry} {ko00 : Nat} {b0 : Nat} {tl0 : List Value} {T0 : TypeId} (_ : Imm H0 w0) (_ : Rs.holds w0 (.two (.cel b0 ((.map (some go00)) :: (.int .i64 s1) :: tl0) T0) (.obj go00 (.map eo00 ko00)))) (_ : ∀ b' ∈ Rs.foot (.two (.cel b0 ((.map (some go00)) :: (.int .i64 s1) :: tl0) T0) (.obj go00 (.map eo00 ko00))), H0 b' = none) (_ : TR kAd (evA cEn) H0 eo00 ko00 s0) {r : List Ad} (_ : m192 s0 s1 = some r), Ct Tryz.prog 192 [.pointer (some ⟨b0, 0, none⟩)] (Rs.foot (.two (.cel b0 ((.map (some go00)) :: (.int .i64 s1) :: tl0) T0) (.obj go00 (.map eo00 ko00)))) H0 w0 fun v H' w' => ∃ x : (Option Addr) × Nat, (v = .slice (x.1) (List.length r) (x.2) ∧ Sl cAd H' (x.1) (x.2) r) ∧ Rs.holds w' (.two (.cel b0 ((.map (some go00)) :: (.int .i64 s1) :: tl0) T0) (.obj go00 (.map eo00 ko00))) ∧ ∀ b' ∈ Rs.foot (.two (.cel b0 ((.map (some go00)) :: (.int .i64 s1) :: tl0) T0) (.obj go00 (.map eo00 ko00))), H' b' = none ∧ (b' ∈ Rs.foot (.two (.cel b0 ((.map (some go00)) :: (.int .i64 s1) :: tl0) T0) (.obj go00 (.map eo00 ko00))) ∨ w0.heap.size ≤ b') := by
  intro H0 w0 s0 s1 go00 eo00 ko00 b0 tl0 T0  hI hb hn ho00 r hm
  have hL := L.one hI hb hn
  have hL := hL.split 0 1 rfl rfl (.inl rfl)
  obtain ⟨hem, hm⟩ := grd hm
  obtain rfl : s0 = [] := List.isEmpty_iff.1 hem
  have T : TR kAd (evA cEn) (fun _ => none) eo00 ko00 [] := ⟨ho00.st, ho00.sz, ho00.lim, ho00.ok, ho00.nd, fun x hx => (by obtain ⟨p, hp, _⟩ := ho00.to x hx; cases hp), fun p hp => (by cases hp)⟩
  refine ct_of Tryz.func192 rfl Tryz.ntmps192 rfl (Nat.le_of_ble_eq_true rfl) ?_
  refine sr <| sv (r_assign rfl) <| wt <| wp_seq <| sr <| sv (r_move rfl) <| sv (r_eqPN Tryz.underlying85 (.inr ⟨_, rfl, rfl⟩) rfl rfl) <| wt <| c_F (b := false) rfl rfl <| wp_skip <| then_n <| sr <| sv (r_move rfl) <| sv (r_nilCheck rfl) <| sv (r_fieldAddr fl_191_0 rfl) <| sv (r_load1 (hL.own 0 _ rfl) sc_189 rfl rfl) ?_
  refine wl rfl (o_call (r_call fn_282 rfl) (callsIn_wide.1 (k282 (some go00) w0)) ?_)
  rintro e w1 ⟨rfl, rfl⟩
  refine ⟨_, rfl, ?_⟩
  have hL1 := hL.alloc 2 [.map (some go00)] 189
  refine wl rfl (o_call (r_call fn_281 rfl) (callsIn_wide.1 (k281 (Bm := w0.heap.size) (b := go00) (es := eo00) (ck := ko00) (World.alloc_heap_new w0 _) (hL1.own 1 _ rfl) T)) ?_)
  rintro e w2 ⟨rfl, hbl⟩
  refine ⟨_, rfl, ?_⟩
  have hx : Ext [] _ _ _ w2 := ext_below hL1.imm hbl
  have hL := hL1.step [] 3 .gone (by simp) hx trivial (by simp [Rs.foot])
  refine wl rfl (o_call0 hL fn_105 rfl (c105 (aa0 := none) (ca0 := 0) hL.imm Sl.nil hm) fun v H w hlet hL hR => ?_)
  obtain ⟨a5, c5, rfl, h5⟩ := hR
  refine sv (r_assign rfl) <| wt <| wp_ret ?_
  refine rt rfl (.tmp rfl .nil) ⟨_, _, rfl, hL.ext, ?_⟩
  have hL := hL.merge 0 1 rfl rfl rfl
  exact ⟨⟨_, _⟩, ⟨rfl, h5⟩, hL.give (i := 0) rfl⟩
end Go.Proofs.YtcjphpenelnohaaGreatDoor
/- Gr: by tools/gen.py -/
set_option linter.unusedVariables false
namespace Go.Proofs.YtcjphpenelnohaaGreatDoor
open Go.RowKit

/-- store.New -/
def m45  : Option (List (Ad × En) × Int) :=
  (some (([] : List (Ad × En)), (0 : Int)))
set_option maxHeartbeats 20000000 in
set_option maxRecDepth 100000 in
theorem c45 : ∀ {H0 : Hp} {w0 : World}   (_ : Imm H0 w0) {r : (List (Ad × En) × Int)} (_ : m45  = some r), Ct Tryz.prog 45 [] [] H0 w0 fun v H' w' => ∃ x : Nat × Nat × (Array MapEntry) × Nat, (v = .pointer (some ⟨x.1, 0, none⟩) ∧ TR kAd (evA cEn) H' (x.2.2.1) (x.2.2.2) r.1) ∧ Rs.holds w' (.two (.cel x.1 ((.map (some x.2.1)) :: (.int .i64 r.2) :: []) 191) (.obj x.2.1 (.map (x.2.2.1) (x.2.2.2)))) ∧ ∀ b' ∈ Rs.foot (.two (.cel x.1 ((.map (some x.2.1)) :: (.int .i64 r.2) :: []) 191) (.obj x.2.1 (.map (x.2.2.1) (x.2.2.2)))), H' b' = none ∧ (b' ∈ Rs.foot .gone ∨ w0.heap.size ≤ b') := by
  intro H0 w0  hI r hm
  have hL := L.start hI
  refine ct_of Tryz.func45 rfl Tryz.ntmps45 rfl (Nat.le_of_ble_eq_true rfl) ?_
  unfold m45 at hm
  refine sr <| sv (r_assign rfl) <| wt <| sr ?_
  refine wl rfl (o_makeMap 0 hL fun g0 w hL => ?_)
  have hww1 : TR kAd (evA cEn) hL.hp #[] 0 ([] : List (Ad × En)) := TR.nil
  refine sv (r_build ze_191 st_191 rfl (.cons rfl .nil) (cs := [_, _]) rfl) ?_
  refine wl rfl (o_box 1 (c := [_, _]) hL rfl rfl fun b1 w hL => ?_)
  refine sv (r_assign rfl) <| wt <| wp_ret ?_
  obtain rfl := ends hm
  refine rt rfl (.tmp rfl .nil) ⟨_, _, rfl, hL.ext, ?_⟩
  have hL := hL.merge 1 0 rfl rfl rfl
  exact ⟨⟨b1, g0, (#[]), 0⟩, ⟨rfl, hww1⟩, hL.give (i := 1) rfl⟩

/-- (*store.Store).some -/
def m115o_l0 (t1 : List Ad) : Nat → Option (List En)
  | 0 => none
  | k + 1 => (bif (decide ((0 : Int) < (t1.length : Int))) then none else (some (([] : List En))))
def m115o (s0 : Bs) (sa0 : List (Ad × En)) (sa1 : Int) : Option (List En) :=
  ((m192 sa0 sa1).bind fun t1 => (m115o_l0 t1 FUEL ))
set_option maxHeartbeats 20000000 in
set_option maxRecDepth 100000 in
theorem c115o : ∀ {H0 : Hp} {w0 : World} {s0 : Bs} {sa0 : List (Ad × En)} {sa1 : Int} {go10 : Nat} {eo10 : Array MapEntry} {ko10 : Nat} {b0 : Nat} {tl0 : List Value} {T0 : TypeId} {b1 : Nat} {tl1 : List Value} {T1 : TypeId} (_ : Imm H0 w0) (_ : Rs.holds w0 (.two (.two (.cel b0 ((.string (mk s0)) :: tl0) T0) (.cel b1 ((.map (some go10)) :: (.int .i64 sa1) :: tl1) T1)) (.obj go10 (.map eo10 ko10)))) (_ : ∀ b' ∈ Rs.foot (.two (.two (.cel b0 ((.string (mk s0)) :: tl0) T0) (.cel b1 ((.map (some go10)) :: (.int .i64 sa1) :: tl1) T1)) (.obj go10 (.map eo10 ko10))), H0 b' = none) (_ : TR kAd (evA cEn) H0 eo10 ko10 sa0) {r : List En} (_ : m115o s0 sa0 sa1 = some r), Ct Tryz.prog 115 [.pointer (some ⟨b1, 0, none⟩), .func (.func 118) #[] (List.toArray [.pointer (some ⟨b0, 0, none⟩)])] (Rs.foot (.two (.two (.cel b0 ((.string (mk s0)) :: tl0) T0) (.cel b1 ((.map (some go10)) :: (.int .i64 sa1) :: tl1) T1)) (.obj go10 (.map eo10 ko10)))) H0 w0 fun v H' w' => ∃ x : (Option Addr) × Nat, (v = .slice (x.1) (List.length r) (x.2) ∧ Sl cEn H' (x.1) (x.2) r) ∧ Rs.holds w' (.two (.two (.cel b0 ((.string (mk s0)) :: tl0) T0) (.cel b1 ((.map (some go10)) :: (.int .i64 sa1) :: tl1) T1)) (.obj go10 (.map eo10 ko10))) ∧ ∀ b' ∈ Rs.foot (.two (.two (.cel b0 ((.string (mk s0)) :: tl0) T0) (.cel b1 ((.map (some go10)) :: (.int .i64 sa1) :: tl1) T1)) (.obj go10 (.map eo10 ko10))), H' b' = none ∧ (b' ∈ Rs.foot (.two (.two (.cel b0 ((.string (mk s0)) :: tl0) T0) (.cel b1 ((.map (some go10)) :: (.int .i64 sa1) :: tl1) T1)) (.obj go10 (.map eo10 ko10))) ∨ w0.heap.size ≤ b') := by
  intro H0 w0 s0 sa0 sa1 go10 eo10 ko10 b0 tl0 T0 b1 tl1 T1  hI hb hn ho10 r hm
  have hL := L.one hI hb hn
  have hL := hL.split 0 2 rfl rfl (.inl rfl)
  have hL := hL.split 0 1 rfl rfl (.inl rfl)
  refine ct_of Tryz.func115 rfl Tryz.ntmps115 rfl (Nat.le_of_ble_eq_true rfl) ?_
  unfold m115o at hm
  refine sr <| sv (r_assign rfl) <| wt <| sr <| sv (r_assign rfl) <| wt <| wp_seq <| sr <| sv (r_move rfl) ?_
  obtain ⟨t1, ht1, hm⟩ := bnd hm
  have hL := hL.merge 1 2 rfl rfl rfl
  refine wl rfl (o_callE 1 hL fn_192 rfl rfl (c192 hL.imm (hL.own 1 _ rfl) (fun b' hb' => (hL.non 1 _ rfl b' hb').1) ho10 ht1) fun x v H w hlet1 hL hR => ?_)
  obtain ⟨at1r0_0, ct1r0_0⟩ := x
  try dsimp only at hL hR
  replace ho10 := TR.mono hlet1 ho10
  obtain ⟨rfl, ht1r0_0⟩ := hR
  have hL := hL.split 1 2 rfl rfl (.inr rfl)
  have hL := hL.pick [(0, .cel b0 ((.string (mk s0)) :: tl0) T0), (1, .cel b1 ((.map (some go10)) :: (.int .i64 sa1) :: tl1) T1), (2, .obj go10 (.map eo10 ko10))] rfl
  refine sv (r_lenS rfl Tryz.underlying51 rfl) <| sv (r_move rfl) <| wt <| wp_block <| wp_loop_fuel (k := FUEL) (fun k a w => ∃  (l : List (Nat × Value)) (H : Hp), a = fr 35 ([(0, .pointer (some ⟨b1, 0, none⟩)), (1, .func (.func 118) #[] (List.toArray [.pointer (some ⟨b0, 0, none⟩)])), (4, .slice none 0 0), (5, .slice none 0 0), (9, .slice at1r0_0 (List.length t1) ct1r0_0), (10, .int .i64 (t1.length : Int)), (11, .int .i64 0)] ++ l) [] ∧ L (Rs.foot (.two (.two (.cel b0 ((.string (mk s0)) :: tl0) T0) (.cel b1 ((.map (some go10)) :: (.int .i64 sa1) :: tl1) T1)) (.obj go10 (.map eo10 ko10)))) H0 w0 [(0, .cel b0 ((.string (mk s0)) :: tl0) T0), (1, .cel b1 ((.map (some go10)) :: (.int .i64 sa1) :: tl1) T1), (2, .obj go10 (.map eo10 ko10))] H w ∧ TR kAd (evA cEn) H eo10 ko10 sa0 ∧ Sl cAd H at1r0_0 ct1r0_0 t1 ∧ (m115o_l0 t1 k ) = some r) ⟨_, _, fr_pre _ rfl, hL.pick _ rfl, ho10, ht1r0_0, hm⟩ ?_
  rintro k0 a w ⟨l, H, rfl, hL, ho10, ht1r0_0, hm⟩
  cases k0 with
  | zero => rw [m115o_l0.eq_1] at hm; cases hm
  | succ k0 =>
    rw [m115o_l0.eq_2] at hm
    refine sr <| sv (r_lss rfl rfl) <| wt <| wp_seq ?_
    refine c_if hm rfl (fun hg2 hm => ?_) (fun hg2 hm => ?_)
    · cases hm
    · refine wp_exit <| then_e <| then_e <| blk_e <| then_n <| sr <| sv (r_move rfl) <| sv (r_assign rfl) <| wt <| wp_ret ?_
      obtain rfl := ends hm
      refine rt rfl (.tmp rfl .nil) ⟨_, _, rfl, hL.ext, ?_⟩
      have hL := hL.merge 0 1 rfl rfl rfl
      have hL := hL.merge 0 2 rfl rfl rfl
      exact ⟨⟨none, 0⟩, ⟨rfl, Sl.nil⟩, hL.give (i := 0) rfl⟩

/-- (*store.Store).Of -/
def m54 (s0 : List (Ad × En)) (s1 : Int) (a1 : Bs) : Option (List En) :=
  ((m115o a1 s0 s1).bind fun t1 => (some (t1)))
set_option maxHeartbeats 20000000 in
set_option maxRecDepth 100000 in
theorem c54 : ∀ {H0 : Hp} {w0 : World} {s0 : List (Ad × En)} {s1 : Int} {a1 : Bs} {go00 : Nat} {eo00 : Array MapEntry} {ko00 : Nat} {b0 : Nat} {tl0 : List Value} {T0 : TypeId} (_ : Imm H0 w0) (_ : Rs.holds w0 (.two (.cel b0 ((.map (some go00)) :: (.int .i64 s1) :: tl0) T0) (.obj go00 (.map eo00 ko00)))) (_ : ∀ b' ∈ Rs.foot (.two (.cel b0 ((.map (some go00)) :: (.int .i64 s1) :: tl0) T0) (.obj go00 (.map eo00 ko00))), H0 b' = none) (_ : TR kAd (evA cEn) H0 eo00 ko00 s0) {r : List En} (_ : m54 s0 s1 a1 = some r), Ct Tryz.prog 54 [.pointer (some ⟨b0, 0, none⟩), .string (mk a1)] (Rs.foot (.two (.cel b0 ((.map (some go00)) :: (.int .i64 s1) :: tl0) T0) (.obj go00 (.map eo00 ko00)))) H0 w0 fun v H' w' => ∃ x : (Option Addr) × Nat, (v = .slice (x.1) (List.length r) (x.2) ∧ Sl cEn H' (x.1) (x.2) r) ∧ Rs.holds w' (.two (.cel b0 ((.map (some go00)) :: (.int .i64 s1) :: tl0) T0) (.obj go00 (.map eo00 ko00))) ∧ ∀ b' ∈ Rs.foot (.two (.cel b0 ((.map (some go00)) :: (.int .i64 s1) :: tl0) T0) (.obj go00 (.map eo00 ko00))), H' b' = none ∧ (b' ∈ Rs.foot (.two (.cel b0 ((.map (some go00)) :: (.int .i64 s1) :: tl0) T0) (.obj go00 (.map eo00 ko00))) ∨ w0.heap.size ≤ b') := by
  intro H0 w0 s0 s1 a1 go00 eo00 ko00 b0 tl0 T0  hI hb hn ho00 r hm
  have hL := L.one hI hb hn
  have hL := hL.split 0 1 rfl rfl (.inl rfl)
  refine ct_of Tryz.func54 rfl Tryz.ntmps54 rfl (Nat.le_of_ble_eq_true rfl) ?_
  unfold m54 at hm
  refine sr ?_
  refine wl rfl (o_box 2 (c := [_]) hL rfl rfl fun b2 w hL => ?_)
  refine sv (r_assign rfl) <| wt <| sr <| sv (r_move rfl) <| sv (r_makeFunc rfl) ?_
  obtain ⟨t1, ht1, hm⟩ := bnd hm
  have hL := hL.merge 2 0 rfl rfl rfl
  have hL := hL.merge 2 1 rfl rfl rfl
  refine wl rfl (o_callE 2 hL fn_115 rfl rfl (c115o hL.imm (hL.own 2 _ rfl) (fun b' hb' => (hL.non 2 _ rfl b' hb').1) ho00 ht1) fun x v H w hlet1 hL hR => ?_)
  obtain ⟨at1r0_0, ct1r0_0⟩ := x
  try dsimp only at hL hR
  obtain ⟨rfl, ht1r0_0⟩ := hR
  have hL := hL.split 2 1 rfl rfl (.inr rfl)
  have hL := hL.split 2 0 rfl rfl (.inr rfl)
  have hL := hL.pick [(0, .cel b0 ((.map (some go00)) :: (.int .i64 s1) :: tl0) T0), (1, .obj go00 (.map eo00 ko00)), (2, .cel b2 ((.string (mk a1)) :: []) 9)] rfl
  refine sv (r_assign rfl) <| wt <| wp_ret ?_
  obtain rfl := ends hm
  refine rt rfl (.tmp rfl .nil) ⟨_, _, rfl, hL.ext, ?_⟩
  have hL := hL.merge 0 1 rfl rfl rfl
  exact ⟨⟨at1r0_0, ct1r0_0⟩, ⟨rfl, ht1r0_0⟩, hL.give (i := 0) rfl⟩

/-- (*store.Store).Put -/
def m86 (s0 : List (Ad × En)) (s1 : Int) (a1 : Bs) (a2_0 : Bs) (a2_1 : Bs) (a2_2 : Bs) (a2_3 : Int) (a2_4 : Int) (a2_5 : J) (a2_6 : Bs) (a2_7 : List Ad) : Option (Int × List (Ad × En) × Int) :=
  ((m167 a2_0 a2_1 a2_2 a2_3 a2_4 a2_5 a2_6 a2_7).bind fun t1 => (bif (t1 != (0 : Int)) then (some (t1, s0, s1)) else (bif (okAd (Ad.mk a2_0 a2_1 a2_2 a2_3)) then (bif (!(a1 == a2_0)) then none else (bif (!(mhas s0 (Ad.mk a2_0 a2_1 a2_2 a2_3))) then ((m54 s0 s1 a1).bind fun t7 => (bif (decide ((32 : Int) ≤ (t7.length : Int))) then none else ((m168 a2_0 a2_1 a2_2 a2_3 a2_4 a2_5 a2_6 a2_7).bind fun t9 => (bif (decide (List.length (mput (Ad.mk a2_0 a2_1 a2_2 a2_3) (En.mk (Ad.mk t9.1 t9.2.1 t9.2.2.1 t9.2.2.2.1) t9.2.2.2.2.1 t9.2.2.2.2.2.1 t9.2.2.2.2.2.2.1 t9.2.2.2.2.2.2.2) s0) ≤ LIM)) then (some ((0 : Int), (mput (Ad.mk a2_0 a2_1 a2_2 a2_3) (En.mk (Ad.mk t9.1 t9.2.1 t9.2.2.1 t9.2.2.2.1) t9.2.2.2.2.1 t9.2.2.2.2.2.1 t9.2.2.2.2.2.2.1 t9.2.2.2.2.2.2.2) s0), (IntKind.wrap .i64 (s1 + (1 : Int))))) else none)))) else none)) else none)))
set_option maxHeartbeats 20000000 in
set_option maxRecDepth 100000 in
theorem c86 : ∀ {H0 : Hp} {w0 : World} {s0 : List (Ad × En)} {s1 : Int} {a1 : Bs} {a2_0 : Bs} {a2_1 : Bs} {a2_2 : Bs} {a2_3 : Int} {a2_4 : Int} {a2_5 : J} {a2_6 : Bs} {a2_7 : List Ad} {go00 : Nat} {eo00 : Array MapEntry} {ko00 : Nat} {xa2_5 : Value} {aa2_6 : Option Addr} {ca2_6 : Nat} {aa2_7 : Option Addr} {ca2_7 : Nat} {b0 : Nat} {tl0 : List Value} {T0 : TypeId} (_ : Imm H0 w0) (_ : Rs.holds w0 (.two (.cel b0 ((.map (some go00)) :: (.int .i64 s1) :: tl0) T0) (.obj go00 (.map eo00 ko00)))) (_ : ∀ b' ∈ Rs.foot (.two (.cel b0 ((.map (some go00)) :: (.int .i64 s1) :: tl0) T0) (.obj go00 (.map eo00 ko00))), H0 b' = none) (_ : TR kAd (evA cEn) H0 eo00 ko00 s0) (_ : VR H0 xa2_5 a2_5) (_ : Sl cB8 H0 aa2_6 ca2_6 a2_6) (_ : Sl cAd H0 aa2_7 ca2_7 a2_7) {r : (Int × List (Ad × En) × Int)} (_ : m86 s0 s1 a1 a2_0 a2_1 a2_2 a2_3 a2_4 a2_5 a2_6 a2_7 = some r), Ct Tryz.prog 86 [.pointer (some ⟨b0, 0, none⟩), .string (mk a1), .agg (List.toArray [.string (mk a2_0), .string (mk a2_1), .string (mk a2_2), .int .i64 a2_3, .int .i64 a2_4, xa2_5, .slice aa2_6 (List.length a2_6) ca2_6, .slice aa2_7 (List.length a2_7) ca2_7])] (Rs.foot (.two (.cel b0 ((.map (some go00)) :: (.int .i64 s1) :: tl0) T0) (.obj go00 (.map eo00 ko00)))) H0 w0 fun v H' w' => ∃ x : Nat × (Array MapEntry) × Nat, (v = .int .i64 r.1 ∧ TR kAd (evA cEn) H' (x.2.1) (x.2.2) r.2.1) ∧ Rs.holds w' (.two (.cel b0 ((.map (some x.1)) :: (.int .i64 r.2.2) :: tl0) T0) (.obj x.1 (.map (x.2.1) (x.2.2)))) ∧ ∀ b' ∈ Rs.foot (.two (.cel b0 ((.map (some x.1)) :: (.int .i64 r.2.2) :: tl0) T0) (.obj x.1 (.map (x.2.1) (x.2.2)))), H' b' = none ∧ (b' ∈ Rs.foot (.two (.cel b0 ((.map (some go00)) :: (.int .i64 s1) :: tl0) T0) (.obj go00 (.map eo00 ko00))) ∨ w0.heap.size ≤ b') := by
  intro H0 w0 s0 s1 a1 a2_0 a2_1 a2_2 a2_3 a2_4 a2_5 a2_6 a2_7 go00 eo00 ko00 xa2_5 aa2_6 ca2_6 aa2_7 ca2_7 b0 tl0 T0  hI hb hn ho00 ha2_5 ha2_6 ha2_7 r hm
  have hL := L.one hI hb hn
  have hL := hL.split 0 1 rfl rfl (.inl rfl)
  refine ct_of Tryz.func86 rfl Tryz.ntmps86 rfl (Nat.le_of_ble_eq_true rfl) ?_
  unfold m86 at hm
  refine sr ?_
  refine wl rfl (o_box 2 (c := [_, _, _, _, _, _, _, _]) hL rfl rfl fun b2 w hL => ?_)
  refine sv (r_assign rfl) <| wt <| wp_seq <| sr <| sv (r_move rfl) <| sv (r_eqPN Tryz.underlying85 (.inr ⟨_, rfl, rfl⟩) rfl rfl) <| wt <| c_F rfl rfl <| wp_skip <| then_n <| wp_seq <| sr <| sv (r_loadk (hL.own 2 _ rfl) ag_97 rfl (vs := [_, _, _, _, _, _, _, _]) rfl rfl) ?_
  obtain ⟨t1, ht1, hm⟩ := bnd hm
  refine wl rfl (o_call0 hL fn_167 rfl (c167 hL.imm ha2_5 ha2_6 ha2_7 ht1) fun v H w hlet1 hL hR => ?_)
  replace ho00 := TR.mono hlet1 ho00
  replace ha2_5 := VR.mono hlet1 ha2_5
  replace ha2_6 := Sl.mono hlet1 ha2_6
  replace ha2_7 := Sl.mono hlet1 ha2_7
  obtain rfl := hR
  refine sv (r_assign rfl) <| wt <| sr <| sv (r_move rfl) <| sv (r_nei rfl rfl) <| wt ?_
  refine c_if hm rfl (fun hg2 hm => ?_) (fun hg2 hm => ?_)
  · refine sr <| sv (r_move rfl) <| sv (r_assign rfl) <| wt <| wp_ret <| then_r ?_
    obtain rfl := ends hm
    refine rt rfl (.tmp rfl .nil) ⟨_, _, rfl, hL.ext, ?_⟩
    have hL := hL.merge 0 1 rfl rfl rfl
    exact ⟨⟨go00, eo00, ko00⟩, ⟨rfl, ho00⟩, hL.give (i := 0) rfl⟩
  · refine wp_skip <| then_n <| wp_seq <| rd hL [0, 1, 2] [_, _, _] [(0, true), (1, true), (2, true), (3, true), (4, true), (5, true), (6, true), (7, true), (8, true), (9, true), (10, false), (11, false), (12, true)] mixed rfl (by kernel_rfl) fun w hL => dv rfl (fun w hS => r_move rfl) <| dv rfl (fun w hS => r_nilCheck rfl) <| dv rfl (fun w hS => r_fieldAddr fl_191_0 rfl) <| dv rfl (fun w hS => r_load1 hS.2.1 sc_189 rfl rfl) <| dv rfl (fun w hS => r_fieldAddr fl_97_0 rfl) <| dv rfl (fun w hS => r_loadk hS.2.2.2.1 ag_50 rfl (vs := [_, _, _, _]) rfl rfl) ?_
    obtain ⟨hg4, hm⟩ := grd hm
    obtain ⟨_, ⟨_, rfl, ⟨xy35, ay36, cy36, ay37, cy37, rfl, hy35, hy36, hy37⟩⟩, hry3⟩ := TR.look ho00 Tryz.underlying189 ze_97 (k := (Ad.mk a2_0 a2_1 a2_2 a2_3)) hg4 (d := default) en_default true
    refine dv rfl (fun w hS => r_lookup (hry3 _ hS.2.2.1) rfl rfl) <| dv rfl (fun w hS => r_move rfl) <| dv rfl (fun w hS => r_extract rfl rfl) <| dv rfl (fun w hS => r_extract rfl rfl) ?_
    refine dh rfl rfl (o_alloc 3 (c := [_, _, _, _, _, _, _, _]) hL ze_97 rfl fun b3 w hL => ⟨Sd.of hL (Hle.refl _) [0, 1, 2] rfl, ?_⟩)
    refine dh rfl rfl (o_storek (i := 3) (vs := [_, _, _, _, _, _, _, _]) hL ag_97 rfl rfl rfl rfl (Nat.le_of_ble_eq_true rfl) (List.forall_mem_cons.2 ⟨rfl, (List.forall_mem_cons.2 ⟨rfl, (List.forall_mem_cons.2 ⟨rfl, (List.forall_mem_cons.2 ⟨rfl, (List.forall_mem_cons.2 ⟨rfl, (List.forall_mem_cons.2 ⟨(VR.one hy35), (List.forall_mem_cons.2 ⟨rfl, (List.forall_mem_cons.2 ⟨rfl, List.forall_mem_nil _⟩)⟩)⟩)⟩)⟩)⟩)⟩)⟩) (c' := _ :: _ :: _ :: _ :: _ :: _ :: _ :: _ :: []) rfl fun w hL => ⟨Sd.of hL (Hle.refl _) [0, 1, 2] rfl, ?_⟩)
    refine dv rfl (fun w hS => r_assign rfl) <| dn <| then_n <| wp_seq <| wp_block <| sr <| sv (r_move rfl) <| sv (r_fieldAddr fl_97_0 rfl) <| sv (r_fieldAddr fl_50_0 rfl) <| sv (r_load1 (hL.own 2 _ rfl) sc_9 rfl rfl) <| sv (r_nes rfl rfl) <| sv (r_assign rfl) <| wt ?_
    refine c_if hm rfl (fun hg5 hm => ?_) (fun hg5 hm => ?_)
    · cases hm
    · refine sr <| sv (r_move rfl) <| sv (r_not rfl) <| sv (r_move rfl) ?_
      refine m_if hm (fun hg6 hm => ?_) (fun hg6 hm => ?_)
      · refine wlT rfl rfl rfl rfl hg6 (o_val (r_move rfl) ?_)
        refine wlT rfl rfl rfl rfl hg6 (o_val (r_move rfl) ?_)
        obtain ⟨t7, ht7, hm⟩ := bnd hm
        have hL := hL.merge 0 1 rfl rfl rfl
        refine wlT rfl rfl rfl rfl hg6 (o_callE 0 hL fn_54 rfl rfl (c54 hL.imm (hL.own 0 _ rfl) (fun b' hb' => (hL.non 0 _ rfl b' hb').1) ho00 ht7) fun x v H w hlet7 hL hR => ?_)
        obtain ⟨at7r0_0, ct7r0_0⟩ := x
        try dsimp only at hL hR
        replace ho00 := TR.mono hlet7 ho00
        replace ha2_5 := VR.mono hlet7 ha2_5
        replace ha2_6 := Sl.mono hlet7 ha2_6
        replace ha2_7 := Sl.mono hlet7 ha2_7
        obtain ⟨rfl, ht7r0_0⟩ := hR
        have hL := hL.split 0 1 rfl rfl (.inr rfl)
        have hL := hL.pick [(0, .cel b0 ((.map (some go00)) :: (.int .i64 s1) :: tl0) T0), (1, .obj go00 (.map eo00 ko00)), (2, .cel b2 ((.string (mk a2_0)) :: (.string (mk a2_1)) :: (.string (mk a2_2)) :: (.int .i64 a2_3) :: (.int .i64 a2_4) :: xa2_5 :: (.slice aa2_6 (List.length a2_6) ca2_6) :: (.slice aa2_7 (List.length a2_7) ca2_7) :: []) 97), (3, .cel b3 ((.string (mk ((mget s0 (Ad.mk a2_0 a2_1 a2_2 a2_3) default).at_.prov))) :: (.string (mk ((mget s0 (Ad.mk a2_0 a2_1 a2_2 a2_3) default).at_.knd))) :: (.string (mk ((mget s0 (Ad.mk a2_0 a2_1 a2_2 a2_3) default).at_.name))) :: (.int .i64 ((mget s0 (Ad.mk a2_0 a2_1 a2_2 a2_3) default).at_.idx)) :: (.int .i64 ((mget s0 (Ad.mk a2_0 a2_1 a2_2 a2_3) default).ver)) :: xy35 :: (.slice ay36 (List.length ((mget s0 (Ad.mk a2_0 a2_1 a2_2 a2_3) default).priv)) cy36) :: (.slice ay37 (List.length ((mget s0 (Ad.mk a2_0 a2_1 a2_2 a2_3) default).needs)) cy37) :: []) 97)] rfl
        refine wlT rfl rfl rfl rfl hg6 (o_val (r_lenS rfl Tryz.underlying94 rfl) ?_)
        refine wlT rfl rfl rfl rfl hg6 (o_val (r_geq rfl rfl) ?_)
        refine sv (r_pickT hg6 rfl rfl) <| sv (r_assign rfl) <| wt ?_
        refine c_if hm rfl (fun hg8 hm => ?_) (fun hg8 hm => ?_)
        · cases hm
        · refine wp_skip <| blk_n <| then_n <| wp_seq <| rd hL [0, 2] [_, _] [(0, true), (1, true), (2, true), (3, true), (4, true), (5, true), (6, true), (7, false), (8, false)] mixed rfl (by kernel_rfl) fun w hL => dv rfl (fun w hS => r_move rfl) <| dv rfl (fun w hS => r_nilCheck rfl) <| dv rfl (fun w hS => r_fieldAddr fl_191_0 rfl) <| dv rfl (fun w hS => r_load1 hS.2.1 sc_189 rfl rfl) <| dv rfl (fun w hS => r_fieldAddr fl_97_0 rfl) <| dv rfl (fun w hS => r_loadk hS.2.2.1 ag_50 rfl (vs := [_, _, _, _]) rfl rfl) <| dv rfl (fun w hS => r_loadk hS.2.2.1 ag_97 rfl (vs := [_, _, _, _, _, _, _, _]) rfl rfl) ?_
          obtain ⟨t9, ht9, hm⟩ := bnd hm
          refine dh rfl rfl (o_call0 hL fn_168 rfl (c168 hL.imm ha2_5 ha2_6 ha2_7 ht9) fun v H w hlet9 hL hR => ⟨Sd.of hL ((Hle.refl _).trans hlet9) [0, 2] rfl, ?_⟩)
          replace ho00 := TR.mono hlet9 ho00
          obtain ⟨xt9r0_5, at9r0_6, ct9r0_6, at9r0_7, ct9r0_7, rfl, ht9r0_5, ht9r0_6, ht9r0_7⟩ := hR
          obtain ⟨hg10, hm⟩ := grd hm
          refine dh rfl rfl (o_mapUpdate (i := 1) (k0 := (Ad.mk a2_0 a2_1 a2_2 a2_3)) (x0 := (En.mk (Ad.mk t9.1 t9.2.1 t9.2.2.1 t9.2.2.2.1) t9.2.2.2.2.1 t9.2.2.2.2.2.1 t9.2.2.2.2.2.2.1 t9.2.2.2.2.2.2.2)) hL ho00 Tryz.underlying189 rfl rfl rfl rfl hg4 ⟨_, rfl, ⟨_, _, _, _, _, rfl, ht9r0_5, ht9r0_6, ht9r0_7⟩⟩ (mput_perm _ _ ho00.nd) hg10 fun ew11 kw11 w hww11 hL => ⟨Sd.of hL ((Hle.refl _).trans hlet9) [0, 2] rfl, ?_⟩)
          refine dn <| then_n <| sr <| sv (r_move rfl) <| sv (r_nilCheck rfl) <| sv (r_fieldAddr fl_191_1 rfl) <| sv (r_load1 (hL.own 0 _ rfl) sc_3 rfl rfl) <| sv (r_add rfl rfl) <| sv (r_nilCheck rfl) <| sv (r_fieldAddr fl_191_1 rfl) ?_
          refine wl rfl (o_store1 (i := 0) hL sc_3 rfl rfl rfl rfl rfl (c' := _ :: _ :: _) rfl fun w hL => ?_)
          refine wt <| sr <| sv (r_assign rfl) <| wt <| wp_ret ?_
          obtain rfl := ends hm
          refine rt rfl (.tmp rfl .nil) ⟨_, _, rfl, hL.ext, ?_⟩
          have hL := hL.merge 0 1 rfl rfl rfl
          exact ⟨⟨go00, ew11, kw11⟩, ⟨rfl, hww11⟩, hL.give (i := 0) rfl⟩
      · cases hm

end Go.Proofs.YtcjphpenelnohaaGreatDoor
