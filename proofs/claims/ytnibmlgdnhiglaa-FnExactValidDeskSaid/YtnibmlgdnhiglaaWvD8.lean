/- The abstract machine: the set of rewriting rules by which single steps are done. No condition. -/
import Derived.Test.YtnibmlgdnhiglaaWvD7
namespace Go.Abs

attribute [push_cast] evOp eval_tmp eval_bool eval_int eval_float eval_string eval_nilp eval_nils eval_nilf eval_nili eval_func fget_cons fset_eq fkeep_cons fkeep_nil fput_some fput_none argFrame
  bin_flt bin_fle bin_fgt bin_fge bin_feq bin_fne bin_fadd bin_fsub bin_fmul bin_fquo bin_lss bin_leq bin_gtr bin_geq bin_eql bin_neq bin_add bin_sub bin_mul bin_quo bin_rem bin_and bin_or bin_xor bin_shl bin_shr bin_beq bin_bne bin_seq bin_sne
  un_not un_neg un_fneg pick_ len_str len_sl map_some wrap64 cond_true cond_false conv_wide conv_int conv_nearest conv_same
  alloc_app box_app load1_app loadN_app store_app make1_ok aFieldAddr aNilCheck aField1 aFieldN aExtract
  List.getElem?_cons_zero List.getElem?_cons_succ List.length_cons List.length_nil Nat.zero_add List.cons_append List.nil_append List.toList_toArray List.getElem?_toArray List.map_cons List.map_nil
  cells_agg cells_bool cells_int cells_float cells_string cells_slice cells_pointer cells_func cells_iface cells_nilf cells_nili List.all_cons List.all_nil
  const_bool const_int const_float const_string const_sl0 const_ptr const_nilf const_nili ok_bool ok_int ok_float ok_string ok_slice ok_pointer ok_func ok_iface ok_nilf ok_nili
  Bool.and_true Bool.true_and Bool.false_and Bool.and_false Bool.not_true Bool.not_false Bool.and_self true_and and_true and_self
  List.set_cons_zero List.set_cons_succ splice List.take_zero List.take_succ_cons List.drop_zero List.drop_succ_cons List.take_nil List.drop_nil Nat.le_refl
  resOf_one resOf_nil resOf_more resVal resVals Option.bind_some decide_true decide_false Int.toNat_natCast Int.lt_irrefl

end Go.Abs
