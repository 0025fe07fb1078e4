/-
FnExactHatOf: for every number the law returns true. No conditions.
-/
import Derived.Test.YtmohalnfoljffaaWa
import Derived.Test.YtmohalnfoljffaaAvMore
import Derived.Test.YtmohalnfoljffaaRows
namespace Go.Proofs
open Go.Av

theorem sameF_refl (x : Nat) : sameF x x = true := by
  unfold sameF
  rw [fneq, feql, feql]
  cases num .f64 x <;> cases num .f64 0 <;> simp

theorem ifin_eq (x : Nat) : ifin x = isFin .f32 x := by
  unfold ifin
  rw [sub_self, fneq]
  cases h : isFin .f32 x <;> simp [num_nanOf, num_zero]
theorem sfin_eq (x : Nat) : sfin x = isFin .f32 x := by
  unfold sfin
  rw [sub_self, feql]
  cases h : isFin .f32 x <;> simp [num_nanOf, num_zero]

theorem num_half : num .f32 1056964608 = true := by decide +kernel
theorem num_one : num .f32 1065353216 = true := by decide +kernel
theorem key_half : key .f32 1056964608 = 1056964608 := by decide +kernel
theorem key_one : key .f32 1065353216 = 1065353216 := by decide +kernel

theorem hat_eq (x : Nat) : shat x = hat x := by
  unfold shat hat
  simp only [fgeq, fleq, fgtr, num_half, num_one, num_zero, key_half, key_one, key_zero]
  generalize key .f32 x = z
  cases num .f32 x
  · simp
  · simp only [Bool.true_and, Bool.and_true, Bool.and_eq_true, decide_eq_true_eq, Bool.not_eq_true']
    by_cases h0 : 0 ≤ z <;> by_cases h1 : z ≤ 1056964608 <;> by_cases h2 : z ≤ 1065353216 <;> simp [h0, h1, h2] <;> omega

theorem hatOf_eq (x : Nat) : sHatOf x = HatOf x := by
  unfold sHatOf HatOf
  rw [sfin_eq, ifin_eq, hat_eq]

attribute [local irreducible] Go.Av.V Go.Av.VL Go.Av.EvalOp Go.Av.fin Go.Av.sq Go.Av.blk Go.Av.Ct Go.Av.CtM Go.Av.OpThen Go.Av.fcmp Go.Av.fop Go.Av.widen Go.Av.narrow

theorem hatOf_true (x : Nat) (_ : CW x) : Ct Try.prog 3 [F32 x] (· = .v (.bool true)) := by
  have e1 : ∃ y b, HatOf x = fb y b := by unfold HatOf; split <;> exact ⟨_, _, rfl⟩
  obtain ⟨y, b, e1⟩ := e1
  have c1 := sHatOf_c x
  have c2 := HatOf_c x
  rw [hatOf_eq, e1] at c1
  rw [e1] at c2
  refine Ct.of_walk Try.func3 rfl rfl rfl fun G hG => ?_
  repeat' (first | refine V_draw mixed_t (by kernel_rfl) (by kernel_rfl) ?_ | refine V_seq ?_ | refine V_region_lit ?_ | refine V_ret ?_ | refine VL_nil ?_ | refine sq_normal ?_ | refine sq_ret ?_ | refine sq_exit ?_ | refine blk_normal ?_ | refine blk_ret ?_ | refine blk_hit ?_ | refine blk_miss rfl ?_ | refine again_exit ?_ | refine again_ret ?_ | (refine VL_stepE rfl ?_; (first | refine op_then E_move ?_ | refine op_then E_assign ?_ | refine op_then E_load_f ?_ | refine op_then E_load_o ?_ | refine op_then E_load_p ?_ | refine op_then E_load_oa ?_ | refine op_then E_load_i ?_ | refine op_then E_load_r ?_ | refine op_then E_field_p ?_ | refine op_then E_field_o ?_ | refine op_then E_index1 ?_ | refine op_then E_index1' ?_ | refine op_then E_index ?_ | refine op_then E_len ?_ | refine op_then E_len_nil ?_ | refine op_then E_len_o ?_ | refine op_then E_len_a ?_ | refine op_then E_nilCheck_p ?_ | refine op_then E_nilCheck_o ?_ | refine op_then E_lss_t ?_ | refine op_then E_lss_f ?_ | refine op_then E_lss ?_ | refine op_then E_leq_t ?_ | refine op_then E_leq_f ?_ | refine op_then E_leq ?_ | refine op_then E_gtr_t ?_ | refine op_then E_gtr_f ?_ | refine op_then E_gtr ?_ | refine op_then E_geq_t ?_ | refine op_then E_geq_f ?_ | refine op_then E_geq ?_ | refine op_then E_eql_t ?_ | refine op_then E_eql_f ?_ | refine op_then E_eql ?_ | refine op_then E_neq_t ?_ | refine op_then E_neq_f ?_ | refine op_then E_neq ?_ | refine op_then E_addi ?_ | refine op_then E_add ?_ | refine op_then E_subi ?_ | refine op_then E_sub ?_ | refine op_then E_muli ?_ | refine op_then E_mul ?_ | refine op_then E_quoi ?_ | refine op_then E_remi ?_ | refine op_then E_pick_true ?_ | refine op_then E_pick_false ?_ | refine op_then E_pick ?_ | refine op_then E_not ?_ | refine op_then E_extract ?_ | refine op_then E_fadd ?_ | refine op_then E_fsub ?_ | refine op_then E_fmul ?_ | refine op_then E_fquo ?_ | refine op_then E_flss ?_ | refine op_then E_fleq ?_ | refine op_then E_fgtr ?_ | refine op_then E_fgeq ?_ | refine op_then E_feql ?_ | refine op_then E_fneq ?_ | refine op_then E_fneg ?_ | refine op_then E_ineg ?_ | refine op_then E_beql ?_ | refine op_then E_bneq ?_ | refine op_then E_widen ?_ | refine op_then E_narrow ?_ | refine op_then E_ftof ?_ | refine op_then E_itof ?_ | refine op_then E_itoi64 ?_ | refine op_then E_itoi ?_ | refine op_then E_makeFunc ?_)) | refine VL_yes rfl rfl ?_ | refine VL_no rfl rfl rfl rfl ?_ | refine VL_undef rfl rfl rfl ?_ | refine VL_known rfl rfl rfl (by assumption) ?_ | refine VL_split rfl rfl rfl (fun _ => ?_) (fun _ => ?_) | refine V_cond_true rfl rfl ?_ | refine V_cond_false rfl rfl ?_ | refine V_cond rfl rfl (fun _ => ?_) (fun _ => ?_) | refine V_block ?_ | refine V_skip ?_ | refine V_exit ?_ | refine VL_box_agg rfl rfl rfl (fun _ => ?_) | refine VL_box_one rfl rfl rfl rfl (fun _ => ?_) | refine VL_alloc rfl (fun _ => ?_) | refine VL_store rfl rfl rfl rfl rfl rfl rfl ?_ | refine VL_store_agg rfl rfl rfl rfl rfl rfl rfl rfl ?_ | refine VL_lit2 rfl rfl rfl rfl rfl rfl rfl rfl rfl rfl ?_ | refine VL_lit0 rfl (fun _ => ?_) | refine VL_index_r1 rfl rfl rfl (by omega) rfl rfl rfl (fun _ _ => ?_) | refine VL_index_r rfl rfl rfl (by omega) rfl rfl rfl (fun _ _ => ?_) | refine VL_index_a1 rfl rfl rfl (by omega) rfl rfl rfl (fun _ _ _ _ => ?_) | refine VL_make rfl rfl rfl rfl (by omega) (by omega) rfl rfl rfl (fun _ => ?_) | refine VL_store_r rfl rfl (by assumption) (by first | omega | (rw [filled_length, fl_length]; omega) | (rw [filled_length, il_length]; omega) | (rw [List.length_replicate]; omega) | (rw [fl_length]; omega) | (rw [List.length_set]; omega)) rfl rfl rfl rfl ?_ | refine VL_store_a rfl rfl (by assumption) (by first | omega | (rw [filled_length, fl_length]; omega) | (rw [fl_length]; omega) | (rw [List.length_set]; omega)) rfl rfl rfl rfl ?_ | (refine VQ_opE rfl ?_; (first | refine op_then E_move ?_ | refine op_then E_assign ?_ | refine op_then E_load_f ?_ | refine op_then E_load_o ?_ | refine op_then E_load_p ?_ | refine op_then E_load_oa ?_ | refine op_then E_load_i ?_ | refine op_then E_load_r ?_ | refine op_then E_field_p ?_ | refine op_then E_field_o ?_ | refine op_then E_index1 ?_ | refine op_then E_index1' ?_ | refine op_then E_index ?_ | refine op_then E_len ?_ | refine op_then E_len_nil ?_ | refine op_then E_len_o ?_ | refine op_then E_len_a ?_ | refine op_then E_nilCheck_p ?_ | refine op_then E_nilCheck_o ?_ | refine op_then E_lss_t ?_ | refine op_then E_lss_f ?_ | refine op_then E_lss ?_ | refine op_then E_leq_t ?_ | refine op_then E_leq_f ?_ | refine op_then E_leq ?_ | refine op_then E_gtr_t ?_ | refine op_then E_gtr_f ?_ | refine op_then E_gtr ?_ | refine op_then E_geq_t ?_ | refine op_then E_geq_f ?_ | refine op_then E_geq ?_ | refine op_then E_eql_t ?_ | refine op_then E_eql_f ?_ | refine op_then E_eql ?_ | refine op_then E_neq_t ?_ | refine op_then E_neq_f ?_ | refine op_then E_neq ?_ | refine op_then E_addi ?_ | refine op_then E_add ?_ | refine op_then E_subi ?_ | refine op_then E_sub ?_ | refine op_then E_muli ?_ | refine op_then E_mul ?_ | refine op_then E_quoi ?_ | refine op_then E_remi ?_ | refine op_then E_pick_true ?_ | refine op_then E_pick_false ?_ | refine op_then E_pick ?_ | refine op_then E_not ?_ | refine op_then E_extract ?_ | refine op_then E_fadd ?_ | refine op_then E_fsub ?_ | refine op_then E_fmul ?_ | refine op_then E_fquo ?_ | refine op_then E_flss ?_ | refine op_then E_fleq ?_ | refine op_then E_fgtr ?_ | refine op_then E_fgeq ?_ | refine op_then E_feql ?_ | refine op_then E_fneq ?_ | refine op_then E_fneg ?_ | refine op_then E_ineg ?_ | refine op_then E_beql ?_ | refine op_then E_bneq ?_ | refine op_then E_widen ?_ | refine op_then E_narrow ?_ | refine op_then E_ftof ?_ | refine op_then E_itof ?_ | refine op_then E_itoi64 ?_ | refine op_then E_itoi ?_ | refine op_then E_makeFunc ?_)) | (refine VQ_yesE rfl rfl rfl ?_; (first | refine op_then E_move ?_ | refine op_then E_assign ?_ | refine op_then E_load_f ?_ | refine op_then E_load_o ?_ | refine op_then E_load_p ?_ | refine op_then E_load_oa ?_ | refine op_then E_load_i ?_ | refine op_then E_load_r ?_ | refine op_then E_field_p ?_ | refine op_then E_field_o ?_ | refine op_then E_index1 ?_ | refine op_then E_index1' ?_ | refine op_then E_index ?_ | refine op_then E_len ?_ | refine op_then E_len_nil ?_ | refine op_then E_len_o ?_ | refine op_then E_len_a ?_ | refine op_then E_nilCheck_p ?_ | refine op_then E_nilCheck_o ?_ | refine op_then E_lss_t ?_ | refine op_then E_lss_f ?_ | refine op_then E_lss ?_ | refine op_then E_leq_t ?_ | refine op_then E_leq_f ?_ | refine op_then E_leq ?_ | refine op_then E_gtr_t ?_ | refine op_then E_gtr_f ?_ | refine op_then E_gtr ?_ | refine op_then E_geq_t ?_ | refine op_then E_geq_f ?_ | refine op_then E_geq ?_ | refine op_then E_eql_t ?_ | refine op_then E_eql_f ?_ | refine op_then E_eql ?_ | refine op_then E_neq_t ?_ | refine op_then E_neq_f ?_ | refine op_then E_neq ?_ | refine op_then E_addi ?_ | refine op_then E_add ?_ | refine op_then E_subi ?_ | refine op_then E_sub ?_ | refine op_then E_muli ?_ | refine op_then E_mul ?_ | refine op_then E_quoi ?_ | refine op_then E_remi ?_ | refine op_then E_pick_true ?_ | refine op_then E_pick_false ?_ | refine op_then E_pick ?_ | refine op_then E_not ?_ | refine op_then E_extract ?_ | refine op_then E_fadd ?_ | refine op_then E_fsub ?_ | refine op_then E_fmul ?_ | refine op_then E_fquo ?_ | refine op_then E_flss ?_ | refine op_then E_fleq ?_ | refine op_then E_fgtr ?_ | refine op_then E_fgeq ?_ | refine op_then E_feql ?_ | refine op_then E_fneq ?_ | refine op_then E_fneg ?_ | refine op_then E_ineg ?_ | refine op_then E_beql ?_ | refine op_then E_bneq ?_ | refine op_then E_widen ?_ | refine op_then E_narrow ?_ | refine op_then E_ftof ?_ | refine op_then E_itof ?_ | refine op_then E_itoi64 ?_ | refine op_then E_itoi ?_ | refine op_then E_makeFunc ?_)) | refine VQ_no rfl rfl rfl rfl ?_ | refine VQ_undef rfl rfl rfl ?_ | refine VQ_known rfl rfl rfl (by assumption) ?_ | refine VQ_split rfl rfl rfl (fun _ => ?_) (fun _ => ?_) | refine VQ_nil ?_ | (refine VL_callZ (f := 19) rfl rfl (c1) rfl rfl rfl ?_; rintro _ rfl) | (refine VL_callZ (f := 20) rfl rfl (c2) rfl rfl rfl ?_; rintro _ rfl) | (refine VL_callZ (f := 21) rfl rfl (sameFloat_c _ _) rfl rfl rfl ?_; rintro _ rfl) | refine fin_b ?_ | refine fin_f ?_ | refine fin_i ?_ | refine fin_fb ?_ | refine fin_ib ?_ | refine fin_sl ?_)
  all_goals (show AVal.v (Value.bool _) = _; simp_all [sameF_refl])

end Go.Proofs
namespace Go.Proofs.Ytmohalnfoljffaa
open Go.Av
open Go.ChangeShapes Go.WideShapes Go.ChangeAt Go.RowKit
theorem Try_own : ownKnob Try.prog.godebug = none := by kernel_rfl
theorem Try_laidOut : laidOutB Try.prog = true := by kernel_rfl
def headSigns : List Char := [Char.ofNat 104, Char.ofNat 97, Char.ofNat 114, Char.ofNat 110, Char.ofNat 101, Char.ofNat 115, Char.ofNat 115, Char.ofNat 32, Char.ofNat 51, Char.ofNat 57, Char.ofNat 48, Char.ofNat 100,
  Char.ofNat 99, Char.ofNat 49, Char.ofNat 55, Char.ofNat 100, Char.ofNat 48, Char.ofNat 57, Char.ofNat 53, Char.ofNat 100, Char.ofNat 100, Char.ofNat 50, Char.ofNat 98, Char.ofNat 48,
  Char.ofNat 50, Char.ofNat 97, Char.ofNat 98, Char.ofNat 50, Char.ofNat 51, Char.ofNat 99, Char.ofNat 101, Char.ofNat 48, Char.ofNat 50, Char.ofNat 51, Char.ofNat 54, Char.ofNat 99,
  Char.ofNat 54, Char.ofNat 57, Char.ofNat 57, Char.ofNat 56, Char.ofNat 49, Char.ofNat 51, Char.ofNat 101, Char.ofNat 56, Char.ofNat 54, Char.ofNat 54, Char.ofNat 99, Char.ofNat 50,
  Char.ofNat 53, Char.ofNat 57, Char.ofNat 49, Char.ofNat 102, Char.ofNat 57, Char.ofNat 102, Char.ofNat 98, Char.ofNat 102, Char.ofNat 51, Char.ofNat 97, Char.ofNat 100, Char.ofNat 98,
  Char.ofNat 56, Char.ofNat 101, Char.ofNat 55, Char.ofNat 52, Char.ofNat 57, Char.ofNat 101, Char.ofNat 99, Char.ofNat 99, Char.ofNat 56, Char.ofNat 102, Char.ofNat 100, Char.ofNat 50,
  Char.ofNat 32, Char.ofNat 99, Char.ofNat 117, Char.ofNat 116, Char.ofNat 32, Char.ofNat 97, Char.ofNat 116, Char.ofNat 32, Char.ofNat 108, Char.ofNat 111, Char.ofNat 111, Char.ofNat 112,
  Char.ofNat 46, Char.ofNat 101, Char.ofNat 120, Char.ofNat 97, Char.ofNat 109, Char.ofNat 112, Char.ofNat 108, Char.ofNat 101, Char.ofNat 47, Char.ofNat 103, Char.ofNat 48, Char.ofNat 49,
  Char.ofNat 51, Char.ofNat 48, Char.ofNat 56, Char.ofNat 47, Char.ofNat 108, Char.ofNat 97, Char.ofNat 119, Char.ofNat 115, Char.ofNat 46, Char.ofNat 70, Char.ofNat 110, Char.ofNat 69,
  Char.ofNat 120, Char.ofNat 97, Char.ofNat 99, Char.ofNat 116, Char.ofNat 72, Char.ofNat 97, Char.ofNat 116, Char.ofNat 79, Char.ofNat 102, Char.ofNat 32, Char.ofNat 108, Char.ofNat 111,
  Char.ofNat 111, Char.ofNat 112, Char.ofNat 46, Char.ofNat 101, Char.ofNat 120, Char.ofNat 97, Char.ofNat 109, Char.ofNat 112, Char.ofNat 108, Char.ofNat 101, Char.ofNat 47, Char.ofNat 103,
  Char.ofNat 48, Char.ofNat 49, Char.ofNat 51, Char.ofNat 48, Char.ofNat 56, Char.ofNat 47, Char.ofNat 108, Char.ofNat 97, Char.ofNat 119, Char.ofNat 115, Char.ofNat 46, Char.ofNat 70,
  Char.ofNat 110, Char.ofNat 69, Char.ofNat 120, Char.ofNat 97, Char.ofNat 99, Char.ofNat 116, Char.ofNat 70, Char.ofNat 105, Char.ofNat 108, Char.ofNat 109, Char.ofNat 76, Char.ofNat 105,
  Char.ofNat 103, Char.ofNat 104, Char.ofNat 116, Char.ofNat 32, Char.ofNat 108, Char.ofNat 111, Char.ofNat 111, Char.ofNat 112, Char.ofNat 46, Char.ofNat 101, Char.ofNat 120, Char.ofNat 97,
  Char.ofNat 109, Char.ofNat 112, Char.ofNat 108, Char.ofNat 101, Char.ofNat 47, Char.ofNat 103, Char.ofNat 48, Char.ofNat 49, Char.ofNat 51, Char.ofNat 48, Char.ofNat 56, Char.ofNat 47,
  Char.ofNat 108, Char.ofNat 97, Char.ofNat 119, Char.ofNat 115, Char.ofNat 46, Char.ofNat 70, Char.ofNat 110, Char.ofNat 69, Char.ofNat 120, Char.ofNat 97, Char.ofNat 99, Char.ofNat 116,
  Char.ofNat 80, Char.ofNat 114, Char.ofNat 101, Char.ofNat 115, Char.ofNat 115, Char.ofNat 101, Char.ofNat 100, Char.ofNat 76, Char.ofNat 105, Char.ofNat 103, Char.ofNat 104, Char.ofNat 116,
  Char.ofNat 32, Char.ofNat 108, Char.ofNat 111, Char.ofNat 111, Char.ofNat 112, Char.ofNat 46, Char.ofNat 101, Char.ofNat 120, Char.ofNat 97, Char.ofNat 109, Char.ofNat 112, Char.ofNat 108,
  Char.ofNat 101, Char.ofNat 47, Char.ofNat 103, Char.ofNat 48, Char.ofNat 49, Char.ofNat 51, Char.ofNat 48, Char.ofNat 56, Char.ofNat 47, Char.ofNat 108, Char.ofNat 97, Char.ofNat 119,
  Char.ofNat 115, Char.ofNat 46, Char.ofNat 70, Char.ofNat 110, Char.ofNat 69, Char.ofNat 120, Char.ofNat 97, Char.ofNat 99, Char.ofNat 116, Char.ofNat 73, Char.ofNat 115, Char.ofNat 66,
  Char.ofNat 101, Char.ofNat 110, Char.ofNat 100, Char.ofNat 32, Char.ofNat 108, Char.ofNat 111, Char.ofNat 111, Char.ofNat 112, Char.ofNat 46, Char.ofNat 101, Char.ofNat 120, Char.ofNat 97,
  Char.ofNat 109, Char.ofNat 112, Char.ofNat 108, Char.ofNat 101, Char.ofNat 47, Char.ofNat 103, Char.ofNat 48, Char.ofNat 49, Char.ofNat 51, Char.ofNat 48, Char.ofNat 56, Char.ofNat 47,
  Char.ofNat 108, Char.ofNat 97, Char.ofNat 119, Char.ofNat 115, Char.ofNat 46, Char.ofNat 70, Char.ofNat 110, Char.ofNat 69, Char.ofNat 120, Char.ofNat 97, Char.ofNat 99, Char.ofNat 116,
  Char.ofNat 66, Char.ofNat 101, Char.ofNat 110, Char.ofNat 100, Char.ofNat 66, Char.ofNat 97, Char.ofNat 99, Char.ofNat 107, Char.ofNat 32, Char.ofNat 108, Char.ofNat 111, Char.ofNat 111,
  Char.ofNat 112, Char.ofNat 46, Char.ofNat 101, Char.ofNat 120, Char.ofNat 97, Char.ofNat 109, Char.ofNat 112, Char.ofNat 108, Char.ofNat 101, Char.ofNat 47, Char.ofNat 103, Char.ofNat 48,
  Char.ofNat 49, Char.ofNat 51, Char.ofNat 48, Char.ofNat 56, Char.ofNat 47, Char.ofNat 108, Char.ofNat 97, Char.ofNat 119, Char.ofNat 115, Char.ofNat 46, Char.ofNat 70, Char.ofNat 110,
  Char.ofNat 69, Char.ofNat 120, Char.ofNat 97, Char.ofNat 99, Char.ofNat 116, Char.ofNat 83, Char.ofNat 97, Char.ofNat 109, Char.ofNat 101, Char.ofNat 67, Char.ofNat 117, Char.ofNat 114,
  Char.ofNat 118, Char.ofNat 101, Char.ofNat 32, Char.ofNat 108, Char.ofNat 111, Char.ofNat 111, Char.ofNat 112, Char.ofNat 46, Char.ofNat 101, Char.ofNat 120, Char.ofNat 97, Char.ofNat 109,
  Char.ofNat 112, Char.ofNat 108, Char.ofNat 101, Char.ofNat 47, Char.ofNat 103, Char.ofNat 48, Char.ofNat 49, Char.ofNat 51, Char.ofNat 48, Char.ofNat 56, Char.ofNat 47, Char.ofNat 108,
  Char.ofNat 97, Char.ofNat 119, Char.ofNat 115, Char.ofNat 46, Char.ofNat 70, Char.ofNat 110, Char.ofNat 69, Char.ofNat 120, Char.ofNat 97, Char.ofNat 99, Char.ofNat 116, Char.ofNat 86,
  Char.ofNat 97, Char.ofNat 108, Char.ofNat 105, Char.ofNat 100, Char.ofNat 67, Char.ofNat 117, Char.ofNat 114, Char.ofNat 118, Char.ofNat 101, Char.ofNat 32, Char.ofNat 108, Char.ofNat 111,
  Char.ofNat 111, Char.ofNat 112, Char.ofNat 46, Char.ofNat 101, Char.ofNat 120, Char.ofNat 97, Char.ofNat 109, Char.ofNat 112, Char.ofNat 108, Char.ofNat 101, Char.ofNat 47, Char.ofNat 103,
  Char.ofNat 48, Char.ofNat 49, Char.ofNat 51, Char.ofNat 48, Char.ofNat 56, Char.ofNat 47, Char.ofNat 108, Char.ofNat 97, Char.ofNat 119, Char.ofNat 115, Char.ofNat 46, Char.ofNat 70,
  Char.ofNat 110, Char.ofNat 69, Char.ofNat 120, Char.ofNat 97, Char.ofNat 99, Char.ofNat 116, Char.ofNat 83, Char.ofNat 104, Char.ofNat 111, Char.ofNat 116, Char.ofNat 115, Char.ofNat 70,
  Char.ofNat 111, Char.ofNat 114, Char.ofNat 32, Char.ofNat 108, Char.ofNat 111, Char.ofNat 111, Char.ofNat 112, Char.ofNat 46, Char.ofNat 101, Char.ofNat 120, Char.ofNat 97, Char.ofNat 109,
  Char.ofNat 112, Char.ofNat 108, Char.ofNat 101, Char.ofNat 47, Char.ofNat 103, Char.ofNat 48, Char.ofNat 49, Char.ofNat 51, Char.ofNat 48, Char.ofNat 56, Char.ofNat 47, Char.ofNat 108,
  Char.ofNat 97, Char.ofNat 119, Char.ofNat 115, Char.ofNat 46, Char.ofNat 70, Char.ofNat 110, Char.ofNat 69, Char.ofNat 120, Char.ofNat 97, Char.ofNat 99, Char.ofNat 116, Char.ofNat 67,
  Char.ofNat 108, Char.ofNat 101, Char.ofNat 97, Char.ofNat 114, Char.ofNat 110, Char.ofNat 101, Char.ofNat 115, Char.ofNat 115, Char.ofNat 79, Char.ofNat 102, Char.ofNat 32, Char.ofNat 108,
  Char.ofNat 111, Char.ofNat 111, Char.ofNat 112, Char.ofNat 46, Char.ofNat 101, Char.ofNat 120, Char.ofNat 97, Char.ofNat 109, Char.ofNat 112, Char.ofNat 108, Char.ofNat 101, Char.ofNat 47,
  Char.ofNat 103, Char.ofNat 48, Char.ofNat 49, Char.ofNat 51, Char.ofNat 48, Char.ofNat 56, Char.ofNat 47, Char.ofNat 108, Char.ofNat 97, Char.ofNat 119, Char.ofNat 115, Char.ofNat 46,
  Char.ofNat 70, Char.ofNat 110, Char.ofNat 69, Char.ofNat 120, Char.ofNat 97, Char.ofNat 99, Char.ofNat 116, Char.ofNat 80, Char.ofNat 111, Char.ofNat 119, Char.ofNat 101, Char.ofNat 114,
  Char.ofNat 79, Char.ofNat 102, Char.ofNat 80, Char.ofNat 97, Char.ofNat 105, Char.ofNat 114, Char.ofNat 32, Char.ofNat 108, Char.ofNat 111, Char.ofNat 111, Char.ofNat 112, Char.ofNat 46,
  Char.ofNat 101, Char.ofNat 120, Char.ofNat 97, Char.ofNat 109, Char.ofNat 112, Char.ofNat 108, Char.ofNat 101, Char.ofNat 47, Char.ofNat 103, Char.ofNat 48, Char.ofNat 49, Char.ofNat 51,
  Char.ofNat 48, Char.ofNat 56, Char.ofNat 47, Char.ofNat 108, Char.ofNat 97, Char.ofNat 119, Char.ofNat 115, Char.ofNat 46, Char.ofNat 70, Char.ofNat 110, Char.ofNat 69, Char.ofNat 120,
  Char.ofNat 97, Char.ofNat 99, Char.ofNat 116, Char.ofNat 80, Char.ofNat 108, Char.ofNat 97, Char.ofNat 110, Char.ofNat 84, Char.ofNat 105, Char.ofNat 109, Char.ofNat 101, Char.ofNat 115,
  Char.ofNat 32, Char.ofNat 108, Char.ofNat 111, Char.ofNat 111, Char.ofNat 112, Char.ofNat 46, Char.ofNat 101, Char.ofNat 120, Char.ofNat 97, Char.ofNat 109, Char.ofNat 112, Char.ofNat 108,
  Char.ofNat 101, Char.ofNat 47, Char.ofNat 103, Char.ofNat 48, Char.ofNat 49, Char.ofNat 51, Char.ofNat 48, Char.ofNat 56, Char.ofNat 47, Char.ofNat 108, Char.ofNat 97, Char.ofNat 119,
  Char.ofNat 115, Char.ofNat 46, Char.ofNat 70, Char.ofNat 110, Char.ofNat 69, Char.ofNat 120, Char.ofNat 97, Char.ofNat 99, Char.ofNat 116, Char.ofNat 84, Char.ofNat 111, Char.ofNat 110,
  Char.ofNat 101, Char.ofNat 65, Char.ofNat 116, Char.ofNat 32, Char.ofNat 108, Char.ofNat 111, Char.ofNat 111, Char.ofNat 112, Char.ofNat 46, Char.ofNat 101, Char.ofNat 120, Char.ofNat 97,
  Char.ofNat 109, Char.ofNat 112, Char.ofNat 108, Char.ofNat 101, Char.ofNat 47, Char.ofNat 103, Char.ofNat 48, Char.ofNat 49, Char.ofNat 51, Char.ofNat 48, Char.ofNat 56, Char.ofNat 47,
  Char.ofNat 108, Char.ofNat 97, Char.ofNat 119, Char.ofNat 115, Char.ofNat 46, Char.ofNat 70, Char.ofNat 110, Char.ofNat 69, Char.ofNat 120, Char.ofNat 97, Char.ofNat 99, Char.ofNat 116,
  Char.ofNat 66, Char.ofNat 97, Char.ofNat 99, Char.ofNat 107, Char.ofNat 67, Char.ofNat 117, Char.ofNat 114, Char.ofNat 118, Char.ofNat 101, Char.ofNat 32, Char.ofNat 108, Char.ofNat 111,
  Char.ofNat 111, Char.ofNat 112, Char.ofNat 46, Char.ofNat 101, Char.ofNat 120, Char.ofNat 97, Char.ofNat 109, Char.ofNat 112, Char.ofNat 108, Char.ofNat 101, Char.ofNat 47, Char.ofNat 103,
  Char.ofNat 48, Char.ofNat 49, Char.ofNat 51, Char.ofNat 48, Char.ofNat 56, Char.ofNat 47, Char.ofNat 108, Char.ofNat 97, Char.ofNat 119, Char.ofNat 115, Char.ofNat 46, Char.ofNat 70,
  Char.ofNat 110, Char.ofNat 69, Char.ofNat 120, Char.ofNat 97, Char.ofNat 99, Char.ofNat 116, Char.ofNat 66, Char.ofNat 101, Char.ofNat 110, Char.ofNat 100, Char.ofNat 65, Char.ofNat 116,
  Char.ofNat 32, Char.ofNat 108, Char.ofNat 111, Char.ofNat 111, Char.ofNat 112, Char.ofNat 46, Char.ofNat 101, Char.ofNat 120, Char.ofNat 97, Char.ofNat 109, Char.ofNat 112, Char.ofNat 108,
  Char.ofNat 101, Char.ofNat 47, Char.ofNat 103, Char.ofNat 48, Char.ofNat 49, Char.ofNat 51, Char.ofNat 48, Char.ofNat 56, Char.ofNat 47, Char.ofNat 108, Char.ofNat 97, Char.ofNat 119,
  Char.ofNat 115, Char.ofNat 46, Char.ofNat 70, Char.ofNat 110, Char.ofNat 80, Char.ofNat 108, Char.ofNat 97, Char.ofNat 110, Char.ofNat 115, Char.ofNat 32, Char.ofNat 108, Char.ofNat 111,
  Char.ofNat 111, Char.ofNat 112, Char.ofNat 46, Char.ofNat 101, Char.ofNat 120, Char.ofNat 97, Char.ofNat 109, Char.ofNat 112, Char.ofNat 108, Char.ofNat 101, Char.ofNat 47, Char.ofNat 103,
  Char.ofNat 48, Char.ofNat 49, Char.ofNat 51, Char.ofNat 48, Char.ofNat 56, Char.ofNat 47, Char.ofNat 108, Char.ofNat 97, Char.ofNat 119, Char.ofNat 115, Char.ofNat 46, Char.ofNat 70,
  Char.ofNat 110, Char.ofNat 69, Char.ofNat 120, Char.ofNat 97, Char.ofNat 99, Char.ofNat 116, Char.ofNat 72, Char.ofNat 97, Char.ofNat 108, Char.ofNat 102, Char.ofNat 79, Char.ofNat 102]
set_option maxRecDepth 100000 in
theorem head_of : Try.prog.initOrder = String.ofList headSigns := by unfold headSigns; kernel_rfl
theorem head_toList : Try.prog.initOrder.toList = headSigns := by rw [head_of]; exact String.toList_ofList
theorem head_words' : behindMainWord (wordsSigns headSigns) = "cut".toList :: (behindMainWord (wordsSigns headSigns)).tail := by kernel_rfl
theorem head_words : behindMainWord (wordsSigns Try.prog.initOrder.toList) = "cut".toList :: (behindMainWord (wordsSigns headSigns)).tail := by rw [head_toList]; exact head_words'
theorem mayEnter_t : Try.prog.mayEnter = true := mayEnter_cut head_words (by kernel_rfl) (by kernel_rfl) (by kernel_rfl)
theorem liftsFinal_t : Try.prog.liftsFinal = false := liftsFinal_cut head_words
theorem make_t : Try.prog.make = some .cut := make_cut head_words

set_option maxRecDepth 100000 in
theorem fnExactHatOf_lifted (os : Os) (started : os.Started) (H : Type) (enc : TypeId × Value → H) :
    ReturnsInHanded {} Try.checked os 3 .any (Rows.fnExactHatOfSpec.pre6 enc Try.prog Try.f3 Rows.fnExactHatOfRow.domain false) (Rows.fnExactHatOfSpec.post enc Try.prog Try.f3 false true false false) := by
  refine lifted_of (C := Try.checked) (tb := 4) Try_own started (by kernel_rfl) Try.func3 (ChangeSpec.witness6 (enc := enc) (C := Try.checked) false ⟨#[], #[.float .f32 0], []⟩ 8 (by kernel_rfl) (by kernel_rfl) (by kernel_rfl) (by kernel_rfl)) Try_laidOut (by kernel_rfl) rfl (fun ds h => ?_) Try.underlying4 (by kernel_rfl) ?_
  · rw [Try.params3] at h
    match ds, h with
    | [_d0], _ => exact ⟨rfl, rfl, rfl⟩
  · intro W base args ds p hval hA
    rw [Try.params3] at hA hval
    obtain ⟨v0, vs0, d0, ds0, p0, q0, hargs, rfl, rfl, h0, r0⟩ := trodAll_cons hA
    obtain ⟨rfl, rfl, rfl⟩ := trodAll_nil r0
    obtain rfl : args = #[v0] := by cases args; simp_all
    obtain ⟨x0, hx0, g0⟩ := open_f32 (X := fun _ => False) (B := 0) (C := W.heap.size) Try.underlying22 (hval 0 22 v0 rfl rfl) h0
    exact ⟨_, rel_one g0, hatOf_true x0 hx0⟩

theorem fnExactHatOf_facts : joinedFacts Try.prog 3 Try.f3 Rows.fnExactHatOfSpec Rows.fnExactHatOfRow = true := by
  unfold joinedFacts
  rw [mayEnter_t, liftsFinal_t, make_t]
  kernel_rfl
/-- THE STATEMENT. -/
theorem fnExactHatOf_holds : Rows.FnExactHatOfSaid :=
  OpenClaim.holds_of_wide 3 Try.f3 rfl rfl rfl rfl rfl rfl rfl ⟨rfl, rfl, rfl, rfl, rfl⟩ rfl rfl rfl rfl rfl (by kernel_rfl) Try.func3 fnExactHatOf_facts
    (of_decide_eq_true (by kernel_rfl)) (by unfold Func.isWrapper; first | (rw [if_pos (by decide +kernel)]; kernel_rfl) | (rw [if_neg (by decide +kernel)]; exact ⟨rfl, rfl⟩))
    (fun os started H enc _ => fnExactHatOf_lifted os started H enc)
#print axioms fnExactHatOf_holds

end Go.Proofs.Ytmohalnfoljffaa
