import PyProof.Rows.All
import Wide.All
import OpenK.AllK
import Wide.FinOn
import HandS.ForMost
import HandS.ForExc
import HandS.CallSlots
import HandS.Wide
import HandS.IsInst
import HandS.Style
import HandS.Conv
import HandS.More
import HandS.NoneIn
import HandS.Small
import HandS.SortRule
import KE.GoesMore
import KE.GoesZip
import HandS.Star
import HandS.SortInts
import HandS.TryOnly
import HandS.Property
import HandS.DictComp
import HandS.SetBool
import HandS.SetKeys
import HandS.Flow
import PySem.Challenge.RW_allcells_k20_opposites_of_statements
set_option Elab.async false
set_option linter.all false
set_option maxRecDepth 100000
set_option maxHeartbeats 4000000
set_option hygiene false
local macro_rules
  | `(tactic| dsimp! only [k1, $a,*]) => `(tactic| simp only [start_def, List.map_cons, List.map_nil, List.length_cons, List.length_nil, Nat.reduceAdd, Nat.reduceSub, List.replicate_succ, List.replicate_zero, List.cons_append, List.nil_append, Z1, Z2, z_bO0, z_bO1, z_for, z_lc, onV_v, onV_e, onS_v, onS_e, onB_v, onB_e, onBR_v, onBR_e, onA_v, onA_e, onVB_v, onVB_e, onVA_v, onVA_e, onAA_v, onAA_e, onAO_v, onAO_e, onBB_v, onBB_e, onO_n, onO_r, onO_b, onO_c, onO_e, onT_n, onT_c, onT_b, onT_r, onT_e, onR_n, onR_r, onR_e, okK_s, okK_n, wO_some, wR_some, wB_some, wA_some, z_lf, z_shr, w_c, w_var, z_op, z_un, z_tB1, z_truR, z_chain, z_andT, z_orT, z_notT, z_andV, z_orV, z_notV, z_if, w_nil, z_cons, z_lst, z_tup, w_dct0, z_call, z_bn, z_sm, z_sl, z_star, z_sh, z_set, z_asg, z_drop, z_ret, w_retV, w_retN, w_nx, z_seq, w_frz, z_ifS, z_app, z_put, z_items, z_it, g_add, g_sub, g_neg, g_mul, g_rep, g_fdiv, g_mod, g_pow, g_addS, g_addL, g_cmp0, g_eqI, g_eqS, g_eqB, g_lenL, g_lenT, g_lenR, g_lenS, g_int, g_intB, g_str, g_listL, g_listT, g_listM, g_tup, g_abs, g_max2, g_min2, gz_ixL, gz_ixT, gz_ixR, g_slL, gi_bool_non, gi_bool_bl, gi_bool_int, gi_bool_str, gi_bool_lst, gi_bool_tup, gi_bool_scr, gi_bool_dct, gi_int_non, gi_int_bl, gi_int_int, gi_int_str, gi_int_lst, gi_int_tup, gi_int_scr, gi_int_dct, gi_str_non, gi_str_bl, gi_str_int, gi_str_str, gi_str_lst, gi_str_tup, gi_str_scr, gi_str_dct, gi_list_non, gi_list_bl, gi_list_int, gi_list_str, gi_list_lst, gi_list_tup, gi_list_scr, gi_list_dct, gi_tuple_non, gi_tuple_bl, gi_tuple_int, gi_tuple_str, gi_tuple_lst, gi_tuple_tup, gi_tuple_scr, gi_tuple_dct, gi_dict_non, gi_dict_bl, gi_dict_int, gi_dict_str, gi_dict_lst, gi_dict_tup, gi_dict_scr, gi_dict_dct, tr_b, true_and, and_true, eq_self, exO_some, hTL_l, hTL_t, hName_e, hCons_c, hNil_n, bind_so, isIns_l, isIns_d, isIns_t, it_l, it_t, it_r, List.getElem?_cons_zero, List.getElem?_cons_succ, List.set_cons_zero, List.set_cons_succ, true_and, and_true, Nat.zero_le, snb, nnb, ex_some, dT, if_true, Bool.false_eq_true, if_false, wipeE, Int.reduceLT, List.length_nil, List.length_cons, Nat.reduceAdd, Nat.reduceLeDiff, Nat.reduceLT, $a,*])
local macro_rules
  | `(tactic| dsimp! only [k2, $a,*]) => `(tactic| simp only [Z1, Z2, z_bO0, z_bO1, z_for, z_lc, onV_v, onV_e, onS_v, onS_e, onB_v, onB_e, onBR_v, onBR_e, onA_v, onA_e, onVB_v, onVB_e, onVA_v, onVA_e, onAA_v, onAA_e, onAO_v, onAO_e, onBB_v, onBB_e, onO_n, onO_r, onO_b, onO_c, onO_e, onT_n, onT_c, onT_b, onT_r, onT_e, onR_n, onR_r, onR_e, okK_s, okK_n, wO_some, wR_some, wB_some, wA_some, z_lf, z_shr, w_c, w_var, z_op, z_un, z_tB1, z_truR, z_chain, z_andT, z_orT, z_notT, z_andV, z_orV, z_notV, z_if, w_nil, z_cons, z_lst, z_tup, w_dct0, z_call, z_bn, z_sm, z_sl, z_star, z_sh, z_set, z_asg, z_drop, z_ret, w_retV, w_retN, w_nx, z_seq, w_frz, z_ifS, z_app, z_put, z_items, z_it, g_add, g_sub, g_neg, g_mul, g_rep, g_fdiv, g_mod, g_pow, g_addS, g_addL, g_cmp0, g_eqI, g_eqS, g_eqB, g_lenL, g_lenT, g_lenR, g_lenS, g_int, g_intB, g_str, g_listL, g_listT, g_listM, g_tup, g_abs, g_max2, g_min2, gz_ixL, gz_ixT, gz_ixR, g_slL, gi_bool_non, gi_bool_bl, gi_bool_int, gi_bool_str, gi_bool_lst, gi_bool_tup, gi_bool_scr, gi_bool_dct, gi_int_non, gi_int_bl, gi_int_int, gi_int_str, gi_int_lst, gi_int_tup, gi_int_scr, gi_int_dct, gi_str_non, gi_str_bl, gi_str_int, gi_str_str, gi_str_lst, gi_str_tup, gi_str_scr, gi_str_dct, gi_list_non, gi_list_bl, gi_list_int, gi_list_str, gi_list_lst, gi_list_tup, gi_list_scr, gi_list_dct, gi_tuple_non, gi_tuple_bl, gi_tuple_int, gi_tuple_str, gi_tuple_lst, gi_tuple_tup, gi_tuple_scr, gi_tuple_dct, gi_dict_non, gi_dict_bl, gi_dict_int, gi_dict_str, gi_dict_lst, gi_dict_tup, gi_dict_scr, gi_dict_dct, tr_b, true_and, and_true, eq_self, exO_some, hTL_l, hTL_t, hName_e, hCons_c, hNil_n, bind_so, isIns_l, isIns_d, isIns_t, it_l, it_t, it_r, List.getElem?_cons_zero, List.getElem?_cons_succ, List.set_cons_zero, List.set_cons_succ, true_and, and_true, Nat.zero_le, snb, nnb, ex_some, dT, if_true, Bool.false_eq_true, if_false, wipeE, Int.reduceLT, List.length_nil, List.length_cons, Nat.reduceAdd, Nat.reduceLeDiff, Nat.reduceLT, $a,*])
local macro_rules
  | `(tactic| dsimp! only [k3, $a,*]) => `(tactic| simp only [start_def, List.map_cons, List.map_nil, List.length_cons, List.length_nil, Nat.reduceAdd, Nat.reduceSub, List.replicate_succ, List.replicate_zero, List.cons_append, List.nil_append, Z1, Z2, z_bO0, z_bO1, z_for, z_lc, onV_v, onV_e, onS_v, onS_e, onB_v, onB_e, onBR_v, onBR_e, onA_v, onA_e, onVB_v, onVB_e, onVA_v, onVA_e, onAA_v, onAA_e, onAO_v, onAO_e, onBB_v, onBB_e, onO_n, onO_r, onO_b, onO_c, onO_e, onT_n, onT_c, onT_b, onT_r, onT_e, onR_n, onR_r, onR_e, okK_s, okK_n, wO_some, wR_some, wB_some, wA_some, z_lf, z_shr, w_c, w_var, z_op, z_un, z_tB1, z_truR, z_chain, z_andT, z_orT, z_notT, z_andV, z_orV, z_notV, z_if, w_nil, z_cons, z_lst, z_tup, w_dct0, z_call, z_bn, z_sm, z_sl, z_star, z_sh, z_set, z_asg, z_drop, z_ret, w_retV, w_retN, w_nx, z_seq, w_frz, z_ifS, z_app, z_put, z_items, z_it, g_add, g_sub, g_neg, g_mul, g_rep, g_fdiv, g_mod, g_pow, g_addS, g_addL, g_cmp0, g_eqI, g_eqS, g_eqB, g_lenL, g_lenT, g_lenR, g_lenS, g_int, g_intB, g_str, g_listL, g_listT, g_listM, g_tup, g_abs, g_max2, g_min2, gz_ixL, gz_ixT, gz_ixR, g_slL, gi_bool_non, gi_bool_bl, gi_bool_int, gi_bool_str, gi_bool_lst, gi_bool_tup, gi_bool_scr, gi_bool_dct, gi_int_non, gi_int_bl, gi_int_int, gi_int_str, gi_int_lst, gi_int_tup, gi_int_scr, gi_int_dct, gi_str_non, gi_str_bl, gi_str_int, gi_str_str, gi_str_lst, gi_str_tup, gi_str_scr, gi_str_dct, gi_list_non, gi_list_bl, gi_list_int, gi_list_str, gi_list_lst, gi_list_tup, gi_list_scr, gi_list_dct, gi_tuple_non, gi_tuple_bl, gi_tuple_int, gi_tuple_str, gi_tuple_lst, gi_tuple_tup, gi_tuple_scr, gi_tuple_dct, gi_dict_non, gi_dict_bl, gi_dict_int, gi_dict_str, gi_dict_lst, gi_dict_tup, gi_dict_scr, gi_dict_dct, tr_b, true_and, and_true, eq_self, exO_some, hTL_l, hTL_t, hName_e, hCons_c, hNil_n, bind_so, isIns_l, isIns_d, isIns_t, it_l, it_t, it_r, List.getElem?_cons_zero, List.getElem?_cons_succ, List.set_cons_zero, List.set_cons_succ, true_and, and_true, Nat.zero_le, snb, nnb, ex_some, dT, if_true, Bool.false_eq_true, if_false, wipeE, Int.reduceLT, List.length_nil, List.length_cons, Nat.reduceAdd, Nat.reduceLeDiff, Nat.reduceLT, g_inS, g_ixS, g_slS, g_join, $a,*])
local macro_rules
  | `(tactic| dsimp! only [k4, $a,*]) => `(tactic| simp only [Z1, Z2, z_bO0, z_bO1, z_for, z_lc, onV_v, onV_e, onS_v, onS_e, onB_v, onB_e, onBR_v, onBR_e, onA_v, onA_e, onVB_v, onVB_e, onVA_v, onVA_e, onAA_v, onAA_e, onAO_v, onAO_e, onBB_v, onBB_e, onO_n, onO_r, onO_b, onO_c, onO_e, onT_n, onT_c, onT_b, onT_r, onT_e, onR_n, onR_r, onR_e, okK_s, okK_n, wO_some, wR_some, wB_some, wA_some, z_lf, z_shr, w_c, w_var, z_op, z_un, z_tB1, z_truR, z_chain, z_andT, z_orT, z_notT, z_andV, z_orV, z_notV, z_if, w_nil, z_cons, z_lst, z_tup, w_dct0, z_call, z_bn, z_sm, z_sl, z_star, z_sh, z_set, z_asg, z_drop, z_ret, w_retV, w_retN, w_nx, z_seq, w_frz, z_ifS, z_app, z_put, z_items, z_it, g_add, g_sub, g_neg, g_mul, g_rep, g_fdiv, g_mod, g_pow, g_addS, g_addL, g_cmp0, g_eqI, g_eqS, g_eqB, g_lenL, g_lenT, g_lenR, g_lenS, g_int, g_intB, g_str, g_listL, g_listT, g_listM, g_tup, g_abs, g_max2, g_min2, gz_ixL, gz_ixT, gz_ixR, g_slL, gi_bool_non, gi_bool_bl, gi_bool_int, gi_bool_str, gi_bool_lst, gi_bool_tup, gi_bool_scr, gi_bool_dct, gi_int_non, gi_int_bl, gi_int_int, gi_int_str, gi_int_lst, gi_int_tup, gi_int_scr, gi_int_dct, gi_str_non, gi_str_bl, gi_str_int, gi_str_str, gi_str_lst, gi_str_tup, gi_str_scr, gi_str_dct, gi_list_non, gi_list_bl, gi_list_int, gi_list_str, gi_list_lst, gi_list_tup, gi_list_scr, gi_list_dct, gi_tuple_non, gi_tuple_bl, gi_tuple_int, gi_tuple_str, gi_tuple_lst, gi_tuple_tup, gi_tuple_scr, gi_tuple_dct, gi_dict_non, gi_dict_bl, gi_dict_int, gi_dict_str, gi_dict_lst, gi_dict_tup, gi_dict_scr, gi_dict_dct, tr_b, true_and, and_true, eq_self, exO_some, hTL_l, hTL_t, hName_e, hCons_c, hNil_n, bind_so, isIns_l, isIns_d, isIns_t, it_l, it_t, it_r, List.getElem?_cons_zero, List.getElem?_cons_succ, List.set_cons_zero, List.set_cons_succ, true_and, and_true, Nat.zero_le, snb, nnb, ex_some, dT, if_true, Bool.false_eq_true, if_false, wipeE, Int.reduceLT, List.length_nil, List.length_cons, Nat.reduceAdd, Nat.reduceLeDiff, Nat.reduceLT, g_inS, g_ixS, g_slS, g_join, $a,*])
local macro_rules
  | `(tactic| dsimp! only [k5, $a,*]) => `(tactic| simp only [onS_v, onS_e, okK_s, okK_n, Z1, Z2, onO_n, List.set_cons_zero, List.set_cons_succ, $a,*])
local macro_rules
  | `(tactic| dsimp! only [k6, $a,*]) => `(tactic| simp only [Z1, Z2, z_bO0, z_bO1, z_for, z_lc, onV_v, onV_e, onS_v, onS_e, onB_v, onB_e, onBR_v, onBR_e, onA_v, onA_e, onVB_v, onVB_e, onVA_v, onVA_e, onAA_v, onAA_e, onAO_v, onAO_e, onBB_v, onBB_e, onO_n, onO_r, onO_b, onO_c, onO_e, onT_n, onT_c, onT_b, onT_r, onT_e, onR_n, onR_r, onR_e, okK_s, okK_n, wO_some, wR_some, wB_some, wA_some, z_lf, z_shr, w_c, w_var, z_op, z_un, z_tB1, z_truR, z_chain, z_andT, z_orT, z_notT, z_andV, z_orV, z_notV, z_if, w_nil, z_cons, z_lst, z_tup, w_dct0, z_call, z_bn, z_sm, z_sl, z_star, z_sh, z_set, z_asg, z_drop, z_ret, w_retV, w_retN, w_nx, z_seq, w_frz, z_ifS, z_app, z_put, z_items, z_it, g_add, g_sub, g_neg, g_mul, g_rep, g_fdiv, g_mod, g_pow, g_addS, g_addL, g_cmp0, g_eqI, g_eqS, g_eqB, g_lenL, g_lenT, g_lenR, g_lenS, g_int, g_intB, g_str, g_listL, g_listT, g_listM, g_tup, g_abs, g_max2, g_min2, gz_ixL, gz_ixT, gz_ixR, g_slL, gi_bool_non, gi_bool_bl, gi_bool_int, gi_bool_str, gi_bool_lst, gi_bool_tup, gi_bool_scr, gi_bool_dct, gi_int_non, gi_int_bl, gi_int_int, gi_int_str, gi_int_lst, gi_int_tup, gi_int_scr, gi_int_dct, gi_str_non, gi_str_bl, gi_str_int, gi_str_str, gi_str_lst, gi_str_tup, gi_str_scr, gi_str_dct, gi_list_non, gi_list_bl, gi_list_int, gi_list_str, gi_list_lst, gi_list_tup, gi_list_scr, gi_list_dct, gi_tuple_non, gi_tuple_bl, gi_tuple_int, gi_tuple_str, gi_tuple_lst, gi_tuple_tup, gi_tuple_scr, gi_tuple_dct, gi_dict_non, gi_dict_bl, gi_dict_int, gi_dict_str, gi_dict_lst, gi_dict_tup, gi_dict_scr, gi_dict_dct, tr_b, true_and, and_true, eq_self, exO_some, hTL_l, hTL_t, hName_e, hCons_c, hNil_n, bind_so, isIns_l, isIns_d, isIns_t, it_l, it_t, it_r, List.getElem?_cons_zero, List.getElem?_cons_succ, List.set_cons_zero, List.set_cons_succ, true_and, and_true, Nat.zero_le, snb, nnb, ex_some, dT, if_true, Bool.false_eq_true, if_false, wipeE, Int.reduceLT, List.length_nil, List.length_cons, Nat.reduceAdd, Nat.reduceLeDiff, Nat.reduceLT, g_inS, g_ixS, g_slS, g_join, frz_def, g_sort, g_rev, List.length_map, List.length_range, $a,*])
local macro_rules
  | `(tactic| dsimp! only [k7, $a,*]) => `(tactic| simp only [Z1, Z2, z_bO0, z_bO1, z_for, z_lc, onV_v, onV_e, onS_v, onS_e, onB_v, onB_e, onBR_v, onBR_e, onA_v, onA_e, onVB_v, onVB_e, onVA_v, onVA_e, onAA_v, onAA_e, onAO_v, onAO_e, onBB_v, onBB_e, onO_n, onO_r, onO_b, onO_c, onO_e, onT_n, onT_c, onT_b, onT_r, onT_e, onR_n, onR_r, onR_e, okK_s, okK_n, wO_some, wR_some, wB_some, wA_some, z_lf, z_shr, w_c, w_var, z_op, z_un, z_tB1, z_truR, z_chain, z_andT, z_orT, z_notT, z_andV, z_orV, z_notV, z_if, w_nil, z_cons, z_lst, z_tup, w_dct0, z_call, z_bn, z_sm, z_sl, z_star, z_sh, z_set, z_asg, z_drop, z_ret, w_retV, w_retN, w_nx, z_seq, w_frz, z_ifS, z_app, z_put, z_items, z_it, g_add, g_sub, g_neg, g_mul, g_rep, g_fdiv, g_mod, g_pow, g_addS, g_addL, g_cmp0, g_eqI, g_eqS, g_eqB, g_lenL, g_lenT, g_lenR, g_lenS, g_int, g_intB, g_str, g_listL, g_listT, g_listM, g_tup, g_abs, g_max2, g_min2, gz_ixL, gz_ixT, gz_ixR, g_slL, gi_bool_non, gi_bool_bl, gi_bool_int, gi_bool_str, gi_bool_lst, gi_bool_tup, gi_bool_scr, gi_bool_dct, gi_int_non, gi_int_bl, gi_int_int, gi_int_str, gi_int_lst, gi_int_tup, gi_int_scr, gi_int_dct, gi_str_non, gi_str_bl, gi_str_int, gi_str_str, gi_str_lst, gi_str_tup, gi_str_scr, gi_str_dct, gi_list_non, gi_list_bl, gi_list_int, gi_list_str, gi_list_lst, gi_list_tup, gi_list_scr, gi_list_dct, gi_tuple_non, gi_tuple_bl, gi_tuple_int, gi_tuple_str, gi_tuple_lst, gi_tuple_tup, gi_tuple_scr, gi_tuple_dct, gi_dict_non, gi_dict_bl, gi_dict_int, gi_dict_str, gi_dict_lst, gi_dict_tup, gi_dict_scr, gi_dict_dct, tr_b, true_and, and_true, eq_self, exO_some, hTL_l, hTL_t, hName_e, hCons_c, hNil_n, bind_so, isIns_l, isIns_d, isIns_t, it_l, it_t, it_r, List.getElem?_cons_zero, List.getElem?_cons_succ, List.set_cons_zero, List.set_cons_succ, true_and, and_true, Nat.zero_le, snb, nnb, ex_some, dT, if_true, Bool.false_eq_true, if_false, wipeE, Int.reduceLT, List.length_nil, List.length_cons, Nat.reduceAdd, Nat.reduceLeDiff, Nat.reduceLT, g_inS, g_ixS, g_slS, g_join, frz_def, g_sort, g_rev, List.length_map, List.length_range, atI_0, atI_1, atI_2, atI_3, atI_4, atI_5, atI_6, atI_7, atI_8, atI_9, atI_10, atI_11, atI_12, atI_13, atI_14, atI_15, atI_16, atI_17, atI_18, atI_19, atI_20, atI_21, atI_22, atI_23, atI_24, atI_25, atI_26, atI_27, atI_28, atI_29, atI_30, $a,*])
local macro_rules
  | `(tactic| dsimp! only [k8, $a,*]) => `(tactic| simp only [start_def, List.map_cons, List.map_nil, List.length_cons, List.length_nil, Nat.reduceAdd, Nat.reduceSub, List.replicate_succ, List.replicate_zero, List.cons_append, List.nil_append, Z1, Z2, z_bO0, z_bO1, z_for, z_lc, onV_v, onV_e, onS_v, onS_e, onB_v, onB_e, onBR_v, onBR_e, onA_v, onA_e, onVB_v, onVB_e, onVA_v, onVA_e, onAA_v, onAA_e, onAO_v, onAO_e, onBB_v, onBB_e, onO_n, onO_r, onO_b, onO_c, onO_e, onT_n, onT_c, onT_b, onT_r, onT_e, onR_n, onR_r, onR_e, okK_s, okK_n, wO_some, wR_some, wB_some, wA_some, z_lf, z_shr, w_c, w_var, z_op, z_un, z_tB1, z_truR, z_chain, z_andT, z_orT, z_notT, z_andV, z_orV, z_notV, z_if, w_nil, z_cons, z_lst, z_tup, w_dct0, z_call, z_bn, z_sm, z_sl, z_star, z_sh, z_set, z_asg, z_drop, z_ret, w_retV, w_retN, w_nx, z_seq, w_frz, z_ifS, z_app, z_put, z_items, z_it, g_add, g_sub, g_neg, g_mul, g_rep, g_fdiv, g_mod, g_pow, g_addS, g_addL, g_cmp0, g_eqI, g_eqS, g_eqB, g_lenL, g_lenT, g_lenR, g_lenS, g_int, g_intB, g_str, g_listL, g_listT, g_listM, g_tup, g_abs, g_max2, g_min2, gz_ixL, gz_ixT, gz_ixR, g_slL, gi_bool_non, gi_bool_bl, gi_bool_int, gi_bool_str, gi_bool_lst, gi_bool_tup, gi_bool_scr, gi_bool_dct, gi_int_non, gi_int_bl, gi_int_int, gi_int_str, gi_int_lst, gi_int_tup, gi_int_scr, gi_int_dct, gi_str_non, gi_str_bl, gi_str_int, gi_str_str, gi_str_lst, gi_str_tup, gi_str_scr, gi_str_dct, gi_list_non, gi_list_bl, gi_list_int, gi_list_str, gi_list_lst, gi_list_tup, gi_list_scr, gi_list_dct, gi_tuple_non, gi_tuple_bl, gi_tuple_int, gi_tuple_str, gi_tuple_lst, gi_tuple_tup, gi_tuple_scr, gi_tuple_dct, gi_dict_non, gi_dict_bl, gi_dict_int, gi_dict_str, gi_dict_lst, gi_dict_tup, gi_dict_scr, gi_dict_dct, tr_b, true_and, and_true, eq_self, exO_some, hTL_l, hTL_t, hName_e, hCons_c, hNil_n, bind_so, isIns_l, isIns_d, isIns_t, it_l, it_t, it_r, List.getElem?_cons_zero, List.getElem?_cons_succ, List.set_cons_zero, List.set_cons_succ, true_and, and_true, Nat.zero_le, snb, nnb, ex_some, dT, if_true, Bool.false_eq_true, if_false, wipeE, Int.reduceLT, List.length_nil, List.length_cons, Nat.reduceAdd, Nat.reduceLeDiff, Nat.reduceLT, g_inS, g_ixS, g_slS, g_join, frz_def, g_sort, g_rev, List.length_map, List.length_range, $a,*])
local macro_rules
  | `(tactic| dsimp! only [k9, $a,*]) => `(tactic| simp only [start_def, List.map_cons, List.map_nil, List.length_cons, List.length_nil, Nat.reduceAdd, Nat.reduceSub, List.replicate_succ, List.replicate_zero, List.cons_append, List.nil_append, Z1, Z2, z_bO0, z_bO1, z_for, z_lc, onV_v, onV_e, onS_v, onS_e, onB_v, onB_e, onBR_v, onBR_e, onA_v, onA_e, onVB_v, onVB_e, onVA_v, onVA_e, onAA_v, onAA_e, onAO_v, onAO_e, onBB_v, onBB_e, onO_n, onO_r, onO_b, onO_c, onO_e, onT_n, onT_c, onT_b, onT_r, onT_e, onR_n, onR_r, onR_e, okK_s, okK_n, wO_some, wR_some, wB_some, wA_some, z_lf, z_shr, w_c, w_var, z_op, z_un, z_tB1, z_truR, z_chain, z_andT, z_orT, z_notT, z_andV, z_orV, z_notV, z_if, w_nil, z_cons, z_lst, z_tup, w_dct0, z_call, z_bn, z_sm, z_sl, z_star, z_sh, z_set, z_asg, z_drop, z_ret, w_retV, w_retN, w_nx, z_seq, w_frz, z_ifS, z_app, z_put, z_items, z_it, g_add, g_sub, g_neg, g_mul, g_rep, g_fdiv, g_mod, g_pow, g_addS, g_addL, g_cmp0, g_eqI, g_eqS, g_eqB, g_lenL, g_lenT, g_lenR, g_lenS, g_int, g_intB, g_str, g_listL, g_listT, g_listM, g_tup, g_abs, g_max2, g_min2, gz_ixL, gz_ixT, gz_ixR, g_slL, gi_bool_non, gi_bool_bl, gi_bool_int, gi_bool_str, gi_bool_lst, gi_bool_tup, gi_bool_scr, gi_bool_dct, gi_int_non, gi_int_bl, gi_int_int, gi_int_str, gi_int_lst, gi_int_tup, gi_int_scr, gi_int_dct, gi_str_non, gi_str_bl, gi_str_int, gi_str_str, gi_str_lst, gi_str_tup, gi_str_scr, gi_str_dct, gi_list_non, gi_list_bl, gi_list_int, gi_list_str, gi_list_lst, gi_list_tup, gi_list_scr, gi_list_dct, gi_tuple_non, gi_tuple_bl, gi_tuple_int, gi_tuple_str, gi_tuple_lst, gi_tuple_tup, gi_tuple_scr, gi_tuple_dct, gi_dict_non, gi_dict_bl, gi_dict_int, gi_dict_str, gi_dict_lst, gi_dict_tup, gi_dict_scr, gi_dict_dct, tr_b, true_and, and_true, eq_self, exO_some, hTL_l, hTL_t, hName_e, hCons_c, hNil_n, bind_so, isIns_l, isIns_d, isIns_t, it_l, it_t, it_r, List.getElem?_cons_zero, List.getElem?_cons_succ, List.set_cons_zero, List.set_cons_succ, true_and, and_true, Nat.zero_le, snb, nnb, ex_some, dT, if_true, Bool.false_eq_true, if_false, wipeE, Int.reduceLT, List.length_nil, List.length_cons, Nat.reduceAdd, Nat.reduceLeDiff, Nat.reduceLT, g_inS, g_ixS, g_slS, g_join, frz_def, g_sort, g_rev, List.length_map, List.length_range, atI_0, atI_1, atI_2, atI_3, atI_4, atI_5, atI_6, atI_7, atI_8, atI_9, atI_10, atI_11, atI_12, atI_13, atI_14, atI_15, atI_16, atI_17, atI_18, atI_19, atI_20, atI_21, atI_22, atI_23, atI_24, atI_25, atI_26, atI_27, atI_28, atI_29, atI_30, $a,*])
local macro_rules
  | `(tactic| dsimp! only [k10, $a,*]) => `(tactic| simp only [start_def, List.map_cons, List.map_nil, List.length_cons, List.length_nil, Nat.reduceAdd, Nat.reduceSub, List.replicate_succ, List.replicate_zero, List.cons_append, List.nil_append, Z1, Z2, z_bO0, z_bO1, z_for, z_lc, onV_v, onV_e, onS_v, onS_e, onB_v, onB_e, onBR_v, onBR_e, onA_v, onA_e, onVB_v, onVB_e, onVA_v, onVA_e, onAA_v, onAA_e, onAO_v, onAO_e, onBB_v, onBB_e, onO_n, onO_r, onO_b, onO_c, onO_e, onT_n, onT_c, onT_b, onT_r, onT_e, onR_n, onR_r, onR_e, okK_s, okK_n, wO_some, wR_some, wB_some, wA_some, z_lf, z_shr, w_c, w_var, z_op, z_un, z_tB1, z_truR, z_chain, z_andT, z_orT, z_notT, z_andV, z_orV, z_notV, z_if, w_nil, z_cons, z_lst, z_tup, w_dct0, z_call, z_bn, z_sm, z_sl, z_star, z_sh, z_set, z_asg, z_drop, z_ret, w_retV, w_retN, w_nx, z_seq, w_frz, z_ifS, z_app, z_put, z_items, z_it, g_add, g_sub, g_neg, g_mul, g_rep, g_fdiv, g_mod, g_pow, g_addS, g_addL, g_cmp0, g_eqI, g_eqS, g_eqB, g_lenL, g_lenT, g_lenR, g_lenS, g_int, g_intB, g_str, g_listL, g_listT, g_listM, g_tup, g_abs, g_max2, g_min2, gz_ixL, gz_ixT, gz_ixR, g_slL, gi_bool_non, gi_bool_bl, gi_bool_int, gi_bool_str, gi_bool_lst, gi_bool_tup, gi_bool_scr, gi_bool_dct, gi_int_non, gi_int_bl, gi_int_int, gi_int_str, gi_int_lst, gi_int_tup, gi_int_scr, gi_int_dct, gi_str_non, gi_str_bl, gi_str_int, gi_str_str, gi_str_lst, gi_str_tup, gi_str_scr, gi_str_dct, gi_list_non, gi_list_bl, gi_list_int, gi_list_str, gi_list_lst, gi_list_tup, gi_list_scr, gi_list_dct, gi_tuple_non, gi_tuple_bl, gi_tuple_int, gi_tuple_str, gi_tuple_lst, gi_tuple_tup, gi_tuple_scr, gi_tuple_dct, gi_dict_non, gi_dict_bl, gi_dict_int, gi_dict_str, gi_dict_lst, gi_dict_tup, gi_dict_scr, gi_dict_dct, tr_b, true_and, and_true, eq_self, exO_some, hTL_l, hTL_t, hName_e, hCons_c, hNil_n, bind_so, isIns_l, isIns_d, isIns_t, it_l, it_t, it_r, List.getElem?_cons_zero, List.getElem?_cons_succ, List.set_cons_zero, List.set_cons_succ, true_and, and_true, Nat.zero_le, snb, nnb, ex_some, dT, if_true, Bool.false_eq_true, if_false, wipeE, Int.reduceLT, List.length_nil, List.length_cons, Nat.reduceAdd, Nat.reduceLeDiff, Nat.reduceLT, g_inS, g_ixS, g_slS, g_join, frz_def, g_sort, g_rev, List.length_map, List.length_range, atI_0, atI_1, atI_2, atI_3, atI_4, atI_5, atI_6, atI_7, atI_8, atI_9, atI_10, atI_11, atI_12, atI_13, atI_14, atI_15, atI_16, atI_17, atI_18, atI_19, atI_20, atI_21, atI_22, atI_23, atI_24, atI_25, atI_26, atI_27, atI_28, atI_29, atI_30, ne_place_value, ne_place_rising, ne_place_low, ne_place_high, ne_place_below, ne_place_same, ne_value_place, ne_value_rising, ne_value_low, ne_value_high, ne_value_below, ne_value_same, ne_rising_place, ne_rising_value, ne_rising_low, ne_rising_high, ne_rising_below, ne_rising_same, ne_low_place, ne_low_value, ne_low_rising, ne_low_high, ne_low_below, ne_low_same, ne_high_place, ne_high_value, ne_high_rising, ne_high_low, ne_high_below, ne_high_same, ne_below_place, ne_below_value, ne_below_rising, ne_below_low, ne_below_high, ne_below_same, ne_same_place, ne_same_value, ne_same_rising, ne_same_low, ne_same_high, ne_same_below, g_inT2, or_d, or_false, false_or, or_self, true_or, or_true, decide_true, decide_false, Bool.or_false, Bool.false_or, Bool.or_true, Bool.true_or, gi_int_op, gi_str_op, gi_int_tm, gi_str_tm, put_4, List.cons_append, List.nil_append, $a,*])
local macro_rules
  | `(tactic| dsimp! only [k11, $a,*]) => `(tactic| simp only [Z1, Z2, z_bO0, z_bO1, z_for, z_lc, onV_v, onV_e, onS_v, onS_e, onB_v, onB_e, onBR_v, onBR_e, onA_v, onA_e, onVB_v, onVB_e, onVA_v, onVA_e, onAA_v, onAA_e, onAO_v, onAO_e, onBB_v, onBB_e, onO_n, onO_r, onO_b, onO_c, onO_e, onT_n, onT_c, onT_b, onT_r, onT_e, onR_n, onR_r, onR_e, okK_s, okK_n, wO_some, wR_some, wB_some, wA_some, z_lf, z_shr, w_c, w_var, z_op, z_un, z_tB1, z_truR, z_chain, z_andT, z_orT, z_notT, z_andV, z_orV, z_notV, z_if, w_nil, z_cons, z_lst, z_tup, w_dct0, z_call, z_bn, z_sm, z_sl, z_star, z_sh, z_set, z_asg, z_drop, z_ret, w_retV, w_retN, w_nx, z_seq, w_frz, z_ifS, z_app, z_put, z_items, z_it, g_add, g_sub, g_neg, g_mul, g_rep, g_fdiv, g_mod, g_pow, g_addS, g_addL, g_cmp0, g_eqI, g_eqS, g_eqB, g_lenL, g_lenT, g_lenR, g_lenS, g_int, g_intB, g_str, g_listL, g_listT, g_listM, g_tup, g_abs, g_max2, g_min2, gz_ixL, gz_ixT, gz_ixR, g_slL, gi_bool_non, gi_bool_bl, gi_bool_int, gi_bool_str, gi_bool_lst, gi_bool_tup, gi_bool_scr, gi_bool_dct, gi_int_non, gi_int_bl, gi_int_int, gi_int_str, gi_int_lst, gi_int_tup, gi_int_scr, gi_int_dct, gi_str_non, gi_str_bl, gi_str_int, gi_str_str, gi_str_lst, gi_str_tup, gi_str_scr, gi_str_dct, gi_list_non, gi_list_bl, gi_list_int, gi_list_str, gi_list_lst, gi_list_tup, gi_list_scr, gi_list_dct, gi_tuple_non, gi_tuple_bl, gi_tuple_int, gi_tuple_str, gi_tuple_lst, gi_tuple_tup, gi_tuple_scr, gi_tuple_dct, gi_dict_non, gi_dict_bl, gi_dict_int, gi_dict_str, gi_dict_lst, gi_dict_tup, gi_dict_scr, gi_dict_dct, tr_b, true_and, and_true, eq_self, exO_some, hTL_l, hTL_t, hName_e, hCons_c, hNil_n, bind_so, isIns_l, isIns_d, isIns_t, it_l, it_t, it_r, List.getElem?_cons_zero, List.getElem?_cons_succ, List.set_cons_zero, List.set_cons_succ, true_and, and_true, Nat.zero_le, snb, nnb, ex_some, dT, if_true, Bool.false_eq_true, if_false, wipeE, Int.reduceLT, List.length_nil, List.length_cons, Nat.reduceAdd, Nat.reduceLeDiff, Nat.reduceLT, g_inS, g_ixS, g_slS, g_join, frz_def, g_sort, g_rev, List.length_map, List.length_range, atI_0, atI_1, atI_2, atI_3, atI_4, atI_5, atI_6, atI_7, atI_8, atI_9, atI_10, atI_11, atI_12, atI_13, atI_14, atI_15, atI_16, atI_17, atI_18, atI_19, atI_20, atI_21, atI_22, atI_23, atI_24, atI_25, atI_26, atI_27, atI_28, atI_29, atI_30, ne_place_value, ne_place_rising, ne_place_low, ne_place_high, ne_place_below, ne_place_same, ne_value_place, ne_value_rising, ne_value_low, ne_value_high, ne_value_below, ne_value_same, ne_rising_place, ne_rising_value, ne_rising_low, ne_rising_high, ne_rising_below, ne_rising_same, ne_low_place, ne_low_value, ne_low_rising, ne_low_high, ne_low_below, ne_low_same, ne_high_place, ne_high_value, ne_high_rising, ne_high_low, ne_high_below, ne_high_same, ne_below_place, ne_below_value, ne_below_rising, ne_below_low, ne_below_high, ne_below_same, ne_same_place, ne_same_value, ne_same_rising, ne_same_low, ne_same_high, ne_same_below, g_inT2, or_d, or_false, false_or, or_self, true_or, or_true, decide_true, decide_false, Bool.or_false, Bool.false_or, Bool.or_true, Bool.true_or, gi_int_op, gi_str_op, gi_int_tm, gi_str_tm, put_4, List.cons_append, List.nil_append, $a,*])
local macro_rules
  | `(tactic| dsimp! only [k12, $a,*]) => `(tactic| simp only [start_def, List.map_cons, List.map_nil, List.length_cons, List.length_nil, Nat.reduceAdd, Nat.reduceSub, List.replicate_succ, List.replicate_zero, List.cons_append, List.nil_append, Z1, Z2, z_bO0, z_bO1, z_for, z_lc, onV_v, onV_e, onS_v, onS_e, onB_v, onB_e, onBR_v, onBR_e, onA_v, onA_e, onVB_v, onVB_e, onVA_v, onVA_e, onAA_v, onAA_e, onAO_v, onAO_e, onBB_v, onBB_e, onO_n, onO_r, onO_b, onO_c, onO_e, onT_n, onT_c, onT_b, onT_r, onT_e, onR_n, onR_r, onR_e, okK_s, okK_n, wO_some, wR_some, wB_some, wA_some, z_lf, z_shr, w_c, w_var, z_op, z_un, z_tB1, z_truR, z_chain, z_andT, z_orT, z_notT, z_andV, z_orV, z_notV, z_if, w_nil, z_cons, z_lst, z_tup, w_dct0, z_call, z_bn, z_sm, z_sl, z_star, z_sh, z_set, z_asg, z_drop, z_ret, w_retV, w_retN, w_nx, z_seq, w_frz, z_ifS, z_app, z_put, z_items, z_it, g_add, g_sub, g_neg, g_mul, g_rep, g_fdiv, g_mod, g_pow, g_addS, g_addL, g_cmp0, g_eqI, g_eqS, g_eqB, g_lenL, g_lenT, g_lenR, g_lenS, g_int, g_intB, g_str, g_listL, g_listT, g_listM, g_tup, g_abs, g_max2, g_min2, gz_ixL, gz_ixT, gz_ixR, g_slL, gi_bool_non, gi_bool_bl, gi_bool_int, gi_bool_str, gi_bool_lst, gi_bool_tup, gi_bool_scr, gi_bool_dct, gi_int_non, gi_int_bl, gi_int_int, gi_int_str, gi_int_lst, gi_int_tup, gi_int_scr, gi_int_dct, gi_str_non, gi_str_bl, gi_str_int, gi_str_str, gi_str_lst, gi_str_tup, gi_str_scr, gi_str_dct, gi_list_non, gi_list_bl, gi_list_int, gi_list_str, gi_list_lst, gi_list_tup, gi_list_scr, gi_list_dct, gi_tuple_non, gi_tuple_bl, gi_tuple_int, gi_tuple_str, gi_tuple_lst, gi_tuple_tup, gi_tuple_scr, gi_tuple_dct, gi_dict_non, gi_dict_bl, gi_dict_int, gi_dict_str, gi_dict_lst, gi_dict_tup, gi_dict_scr, gi_dict_dct, tr_b, true_and, and_true, eq_self, exO_some, hTL_l, hTL_t, hName_e, hCons_c, hNil_n, bind_so, isIns_l, isIns_d, isIns_t, it_l, it_t, it_r, List.getElem?_cons_zero, List.getElem?_cons_succ, List.set_cons_zero, List.set_cons_succ, true_and, and_true, Nat.zero_le, snb, nnb, ex_some, dT, if_true, Bool.false_eq_true, if_false, wipeE, Int.reduceLT, List.length_nil, List.length_cons, Nat.reduceAdd, Nat.reduceLeDiff, Nat.reduceLT, g_inS, g_ixS, g_slS, g_join, frz_def, g_sort, g_rev, List.length_map, List.length_range, z_propV, z_methV, z_makeV, z_lsV, z_dcV, z_dispV, z_fldV, z_lc2, insK_i, onP_v, onM_v, onM_e, onI_n, onI_e, self_i, gz_fldV, g_lenD, g_dictD, prs_nil', prs_cons, eq_self, $a,*])
local macro_rules
  | `(tactic| dsimp! only [k13, $a,*]) => `(tactic| simp only [Z1, Z2, z_bO0, z_bO1, z_for, z_lc, onV_v, onV_e, onS_v, onS_e, onB_v, onB_e, onBR_v, onBR_e, onA_v, onA_e, onVB_v, onVB_e, onVA_v, onVA_e, onAA_v, onAA_e, onAO_v, onAO_e, onBB_v, onBB_e, onO_n, onO_r, onO_b, onO_c, onO_e, onT_n, onT_c, onT_b, onT_r, onT_e, onR_n, onR_r, onR_e, okK_s, okK_n, wO_some, wR_some, wB_some, wA_some, z_lf, z_shr, w_c, w_var, z_op, z_un, z_tB1, z_truR, z_chain, z_andT, z_orT, z_notT, z_andV, z_orV, z_notV, z_if, w_nil, z_cons, z_lst, z_tup, w_dct0, z_call, z_bn, z_sm, z_sl, z_star, z_sh, z_set, z_asg, z_drop, z_ret, w_retV, w_retN, w_nx, z_seq, w_frz, z_ifS, z_app, z_put, z_items, z_it, g_add, g_sub, g_neg, g_mul, g_rep, g_fdiv, g_mod, g_pow, g_addS, g_addL, g_cmp0, g_eqI, g_eqS, g_eqB, g_lenL, g_lenT, g_lenR, g_lenS, g_int, g_intB, g_str, g_listL, g_listT, g_listM, g_tup, g_abs, g_max2, g_min2, gz_ixL, gz_ixT, gz_ixR, g_slL, gi_bool_non, gi_bool_bl, gi_bool_int, gi_bool_str, gi_bool_lst, gi_bool_tup, gi_bool_scr, gi_bool_dct, gi_int_non, gi_int_bl, gi_int_int, gi_int_str, gi_int_lst, gi_int_tup, gi_int_scr, gi_int_dct, gi_str_non, gi_str_bl, gi_str_int, gi_str_str, gi_str_lst, gi_str_tup, gi_str_scr, gi_str_dct, gi_list_non, gi_list_bl, gi_list_int, gi_list_str, gi_list_lst, gi_list_tup, gi_list_scr, gi_list_dct, gi_tuple_non, gi_tuple_bl, gi_tuple_int, gi_tuple_str, gi_tuple_lst, gi_tuple_tup, gi_tuple_scr, gi_tuple_dct, gi_dict_non, gi_dict_bl, gi_dict_int, gi_dict_str, gi_dict_lst, gi_dict_tup, gi_dict_scr, gi_dict_dct, tr_b, true_and, and_true, eq_self, exO_some, hTL_l, hTL_t, hName_e, hCons_c, hNil_n, bind_so, isIns_l, isIns_d, isIns_t, it_l, it_t, it_r, List.getElem?_cons_zero, List.getElem?_cons_succ, List.set_cons_zero, List.set_cons_succ, true_and, and_true, Nat.zero_le, snb, nnb, ex_some, dT, if_true, Bool.false_eq_true, if_false, wipeE, Int.reduceLT, List.length_nil, List.length_cons, Nat.reduceAdd, Nat.reduceLeDiff, Nat.reduceLT, g_inS, g_ixS, g_slS, g_join, frz_def, g_sort, g_rev, List.length_map, List.length_range, z_propV, z_methV, z_makeV, z_lsV, z_dcV, z_dispV, z_fldV, z_lc2, insK_i, onP_v, onM_v, onM_e, onI_n, onI_e, self_i, gz_fldV, g_lenD, g_dictD, prs_nil', prs_cons, eq_self, $a,*])
local macro_rules
  | `(tactic| dsimp! only [k14, $a,*]) => `(tactic| simp only [Z1, Z2, z_bO0, z_bO1, z_for, z_lc, onV_v, onV_e, onS_v, onS_e, onB_v, onB_e, onBR_v, onBR_e, onA_v, onA_e, onVB_v, onVB_e, onVA_v, onVA_e, onAA_v, onAA_e, onAO_v, onAO_e, onBB_v, onBB_e, onO_n, onO_r, onO_b, onO_c, onO_e, onT_n, onT_c, onT_b, onT_r, onT_e, onR_n, onR_r, onR_e, okK_s, okK_n, wO_some, wR_some, wB_some, wA_some, z_lf, z_shr, w_c, w_var, z_op, z_un, z_tB1, z_truR, z_chain, z_andT, z_orT, z_notT, z_andV, z_orV, z_notV, z_if, w_nil, z_cons, z_lst, z_tup, w_dct0, z_call, z_bn, z_sm, z_sl, z_star, z_sh, z_set, z_asg, z_drop, z_ret, w_retV, w_retN, w_nx, z_seq, w_frz, z_ifS, z_app, z_put, z_items, z_it, g_add, g_sub, g_neg, g_mul, g_rep, g_fdiv, g_mod, g_pow, g_addS, g_addL, g_cmp0, g_eqI, g_eqS, g_eqB, g_lenL, g_lenT, g_lenR, g_lenS, g_int, g_intB, g_str, g_listL, g_listT, g_listM, g_tup, g_abs, g_max2, g_min2, gz_ixL, gz_ixT, gz_ixR, g_slL, gi_bool_non, gi_bool_bl, gi_bool_int, gi_bool_str, gi_bool_lst, gi_bool_tup, gi_bool_scr, gi_bool_dct, gi_int_non, gi_int_bl, gi_int_int, gi_int_str, gi_int_lst, gi_int_tup, gi_int_scr, gi_int_dct, gi_str_non, gi_str_bl, gi_str_int, gi_str_str, gi_str_lst, gi_str_tup, gi_str_scr, gi_str_dct, gi_list_non, gi_list_bl, gi_list_int, gi_list_str, gi_list_lst, gi_list_tup, gi_list_scr, gi_list_dct, gi_tuple_non, gi_tuple_bl, gi_tuple_int, gi_tuple_str, gi_tuple_lst, gi_tuple_tup, gi_tuple_scr, gi_tuple_dct, gi_dict_non, gi_dict_bl, gi_dict_int, gi_dict_str, gi_dict_lst, gi_dict_tup, gi_dict_scr, gi_dict_dct, tr_b, true_and, and_true, eq_self, exO_some, hTL_l, hTL_t, hName_e, hCons_c, hNil_n, bind_so, isIns_l, isIns_d, isIns_t, it_l, it_t, it_r, List.getElem?_cons_zero, List.getElem?_cons_succ, List.set_cons_zero, List.set_cons_succ, true_and, and_true, Nat.zero_le, snb, nnb, ex_some, dT, if_true, Bool.false_eq_true, if_false, wipeE, Int.reduceLT, List.length_nil, List.length_cons, Nat.reduceAdd, Nat.reduceLeDiff, Nat.reduceLT, g_inS, g_ixS, g_slS, g_join, frz_def, g_sort, g_rev, List.length_map, List.length_range, z_propV, z_methV, z_makeV, z_lsV, z_dcV, z_dispV, z_fldV, z_lc2, insK_i, onP_v, onM_v, onM_e, onI_n, onI_e, self_i, gz_fldV, g_lenD, g_dictD, prs_nil', prs_cons, eq_self, atI_0, atI_1, atI_2, atI_3, atI_4, atI_5, atI_6, atI_7, atI_8, atI_9, atI_10, atI_11, atI_12, atI_13, atI_14, atI_15, atI_16, atI_17, atI_18, atI_19, atI_20, atI_21, atI_22, atI_23, atI_24, atI_25, atI_26, atI_27, atI_28, atI_29, atI_30, $a,*])
local macro_rules
  | `(tactic| dsimp! only [k15, $a,*]) => `(tactic| simp only [start_def, List.map_cons, List.map_nil, List.length_cons, List.length_nil, Nat.reduceAdd, Nat.reduceSub, List.replicate_succ, List.replicate_zero, List.cons_append, List.nil_append, $a,*])
local macro_rules
  | `(tactic| dsimp! only [k16, $a,*]) => `(tactic| simp only [start_def, List.map_cons, List.map_nil, List.length_cons, List.length_nil, Nat.reduceAdd, Nat.reduceSub, List.replicate_succ, List.replicate_zero, List.cons_append, List.nil_append, Z1, Z2, z_bO0, z_bO1, z_for, z_lc, onV_v, onV_e, onS_v, onS_e, onB_v, onB_e, onBR_v, onBR_e, onA_v, onA_e, onVB_v, onVB_e, onVA_v, onVA_e, onAA_v, onAA_e, onAO_v, onAO_e, onBB_v, onBB_e, onO_n, onO_r, onO_b, onO_c, onO_e, onT_n, onT_c, onT_b, onT_r, onT_e, onR_n, onR_r, onR_e, okK_s, okK_n, wO_some, wR_some, wB_some, wA_some, z_lf, z_shr, w_c, w_var, z_op, z_un, z_tB1, z_truR, z_chain, z_andT, z_orT, z_notT, z_andV, z_orV, z_notV, z_if, w_nil, z_cons, z_lst, z_tup, w_dct0, z_call, z_bn, z_sm, z_sl, z_star, z_sh, z_set, z_asg, z_drop, z_ret, w_retV, w_retN, w_nx, z_seq, w_frz, z_ifS, z_app, z_put, z_items, z_it, g_add, g_sub, g_neg, g_mul, g_rep, g_fdiv, g_mod, g_pow, g_addS, g_addL, g_cmp0, g_eqI, g_eqS, g_eqB, g_lenL, g_lenT, g_lenR, g_lenS, g_int, g_intB, g_str, g_listL, g_listT, g_listM, g_tup, g_abs, g_max2, g_min2, gz_ixL, gz_ixT, gz_ixR, g_slL, gi_bool_non, gi_bool_bl, gi_bool_int, gi_bool_str, gi_bool_lst, gi_bool_tup, gi_bool_scr, gi_bool_dct, gi_int_non, gi_int_bl, gi_int_int, gi_int_str, gi_int_lst, gi_int_tup, gi_int_scr, gi_int_dct, gi_str_non, gi_str_bl, gi_str_int, gi_str_str, gi_str_lst, gi_str_tup, gi_str_scr, gi_str_dct, gi_list_non, gi_list_bl, gi_list_int, gi_list_str, gi_list_lst, gi_list_tup, gi_list_scr, gi_list_dct, gi_tuple_non, gi_tuple_bl, gi_tuple_int, gi_tuple_str, gi_tuple_lst, gi_tuple_tup, gi_tuple_scr, gi_tuple_dct, gi_dict_non, gi_dict_bl, gi_dict_int, gi_dict_str, gi_dict_lst, gi_dict_tup, gi_dict_scr, gi_dict_dct, tr_b, true_and, and_true, eq_self, exO_some, hTL_l, hTL_t, hName_e, hCons_c, hNil_n, bind_so, isIns_l, isIns_d, isIns_t, it_l, it_t, it_r, List.getElem?_cons_zero, List.getElem?_cons_succ, List.set_cons_zero, List.set_cons_succ, true_and, and_true, Nat.zero_le, snb, nnb, ex_some, dT, if_true, Bool.false_eq_true, if_false, wipeE, Int.reduceLT, List.length_nil, List.length_cons, Nat.reduceAdd, Nat.reduceLeDiff, Nat.reduceLT, g_inS, g_ixS, g_slS, g_join, frz_def, g_sort, g_rev, List.length_map, List.length_range, z_propV, z_methV, z_makeV, z_lsV, z_dcV, z_dispV, z_fldV, z_lc2, insK_i, onP_v, onM_v, onM_e, onI_n, onI_e, self_i, gz_fldV, g_lenD, g_dictD, prs_nil', prs_cons, eq_self, atI_0, atI_1, atI_2, atI_3, atI_4, atI_5, atI_6, atI_7, atI_8, atI_9, atI_10, atI_11, atI_12, atI_13, atI_14, atI_15, atI_16, atI_17, atI_18, atI_19, atI_20, atI_21, atI_22, atI_23, atI_24, atI_25, atI_26, atI_27, atI_28, atI_29, atI_30, $a,*])
local macro_rules
  | `(tactic| dsimp! only [k17, $a,*]) => `(tactic| simp only [Z1, Z2, z_bO0, z_bO1, z_for, z_lc, onV_v, onV_e, onS_v, onS_e, onB_v, onB_e, onBR_v, onBR_e, onA_v, onA_e, onVB_v, onVB_e, onVA_v, onVA_e, onAA_v, onAA_e, onAO_v, onAO_e, onBB_v, onBB_e, onO_n, onO_r, onO_b, onO_c, onO_e, onT_n, onT_c, onT_b, onT_r, onT_e, onR_n, onR_r, onR_e, okK_s, okK_n, wO_some, wR_some, wB_some, wA_some, z_lf, z_shr, w_c, w_var, z_op, z_un, z_tB1, z_truR, z_chain, z_andT, z_orT, z_notT, z_andV, z_orV, z_notV, z_if, w_nil, z_cons, z_lst, z_tup, w_dct0, z_call, z_bn, z_sm, z_sl, z_star, z_sh, z_set, z_asg, z_drop, z_ret, w_retV, w_retN, w_nx, z_seq, w_frz, z_ifS, z_app, z_put, z_items, z_it, g_add, g_sub, g_neg, g_mul, g_rep, g_fdiv, g_mod, g_pow, g_addS, g_addL, g_cmp0, g_eqI, g_eqS, g_eqB, g_lenL, g_lenT, g_lenR, g_lenS, g_int, g_intB, g_str, g_listL, g_listT, g_listM, g_tup, g_abs, g_max2, g_min2, gz_ixL, gz_ixT, gz_ixR, g_slL, gi_bool_non, gi_bool_bl, gi_bool_int, gi_bool_str, gi_bool_lst, gi_bool_tup, gi_bool_scr, gi_bool_dct, gi_int_non, gi_int_bl, gi_int_int, gi_int_str, gi_int_lst, gi_int_tup, gi_int_scr, gi_int_dct, gi_str_non, gi_str_bl, gi_str_int, gi_str_str, gi_str_lst, gi_str_tup, gi_str_scr, gi_str_dct, gi_list_non, gi_list_bl, gi_list_int, gi_list_str, gi_list_lst, gi_list_tup, gi_list_scr, gi_list_dct, gi_tuple_non, gi_tuple_bl, gi_tuple_int, gi_tuple_str, gi_tuple_lst, gi_tuple_tup, gi_tuple_scr, gi_tuple_dct, gi_dict_non, gi_dict_bl, gi_dict_int, gi_dict_str, gi_dict_lst, gi_dict_tup, gi_dict_scr, gi_dict_dct, tr_b, true_and, and_true, eq_self, exO_some, hTL_l, hTL_t, hName_e, hCons_c, hNil_n, bind_so, isIns_l, isIns_d, isIns_t, it_l, it_t, it_r, List.getElem?_cons_zero, List.getElem?_cons_succ, List.set_cons_zero, List.set_cons_succ, true_and, and_true, Nat.zero_le, snb, nnb, ex_some, dT, if_true, Bool.false_eq_true, if_false, wipeE, Int.reduceLT, List.length_nil, List.length_cons, Nat.reduceAdd, Nat.reduceLeDiff, Nat.reduceLT, g_inS, g_ixS, g_slS, g_join, frz_def, g_sort, g_rev, List.length_map, List.length_range, z_propV, z_methV, z_makeV, z_lsV, z_dcV, z_dispV, z_fldV, z_lc2, insK_i, onP_v, onM_v, onM_e, onI_n, onI_e, self_i, gz_fldV, g_lenD, g_dictD, prs_nil', prs_cons, eq_self, atI_0, atI_1, atI_2, atI_3, atI_4, atI_5, atI_6, atI_7, atI_8, atI_9, atI_10, atI_11, atI_12, atI_13, atI_14, atI_15, atI_16, atI_17, atI_18, atI_19, atI_20, atI_21, atI_22, atI_23, atI_24, atI_25, atI_26, atI_27, atI_28, atI_29, atI_30, ne_place_value, ne_place_rising, ne_place_low, ne_place_high, ne_place_below, ne_place_same, ne_value_place, ne_value_rising, ne_value_low, ne_value_high, ne_value_below, ne_value_same, ne_rising_place, ne_rising_value, ne_rising_low, ne_rising_high, ne_rising_below, ne_rising_same, ne_low_place, ne_low_value, ne_low_rising, ne_low_high, ne_low_below, ne_low_same, ne_high_place, ne_high_value, ne_high_rising, ne_high_low, ne_high_below, ne_high_same, ne_below_place, ne_below_value, ne_below_rising, ne_below_low, ne_below_high, ne_below_same, ne_same_place, ne_same_value, ne_same_rising, ne_same_low, ne_same_high, ne_same_below, g_inT2, or_d, or_false, false_or, or_self, true_or, or_true, decide_true, decide_false, Bool.or_false, Bool.false_or, Bool.or_true, Bool.true_or, gi_int_op, gi_str_op, gi_int_tm, gi_str_tm, put_4, List.cons_append, List.nil_append, $a,*])
local macro_rules
  | `(tactic| dsimp! only [k18, $a,*]) => `(tactic| simp only [start_def, List.map_cons, List.map_nil, List.length_cons, List.length_nil, Nat.reduceAdd, Nat.reduceSub, List.replicate_succ, List.replicate_zero, List.cons_append, List.nil_append, Z1, Z2, z_bO0, z_bO1, z_for, z_lc, onV_v, onV_e, onS_v, onS_e, onB_v, onB_e, onBR_v, onBR_e, onA_v, onA_e, onVB_v, onVB_e, onVA_v, onVA_e, onAA_v, onAA_e, onAO_v, onAO_e, onBB_v, onBB_e, onO_n, onO_r, onO_b, onO_c, onO_e, onT_n, onT_c, onT_b, onT_r, onT_e, onR_n, onR_r, onR_e, okK_s, okK_n, wO_some, wR_some, wB_some, wA_some, z_lf, z_shr, w_c, w_var, z_op, z_un, z_tB1, z_truR, z_chain, z_andT, z_orT, z_notT, z_andV, z_orV, z_notV, z_if, w_nil, z_cons, z_lst, z_tup, w_dct0, z_call, z_bn, z_sm, z_sl, z_star, z_sh, z_set, z_asg, z_drop, z_ret, w_retV, w_retN, w_nx, z_seq, w_frz, z_ifS, z_app, z_put, z_items, z_it, g_add, g_sub, g_neg, g_mul, g_rep, g_fdiv, g_mod, g_pow, g_addS, g_addL, g_cmp0, g_eqI, g_eqS, g_eqB, g_lenL, g_lenT, g_lenR, g_lenS, g_int, g_intB, g_str, g_listL, g_listT, g_listM, g_tup, g_abs, g_max2, g_min2, gz_ixL, gz_ixT, gz_ixR, g_slL, gi_bool_non, gi_bool_bl, gi_bool_int, gi_bool_str, gi_bool_lst, gi_bool_tup, gi_bool_scr, gi_bool_dct, gi_int_non, gi_int_bl, gi_int_int, gi_int_str, gi_int_lst, gi_int_tup, gi_int_scr, gi_int_dct, gi_str_non, gi_str_bl, gi_str_int, gi_str_str, gi_str_lst, gi_str_tup, gi_str_scr, gi_str_dct, gi_list_non, gi_list_bl, gi_list_int, gi_list_str, gi_list_lst, gi_list_tup, gi_list_scr, gi_list_dct, gi_tuple_non, gi_tuple_bl, gi_tuple_int, gi_tuple_str, gi_tuple_lst, gi_tuple_tup, gi_tuple_scr, gi_tuple_dct, gi_dict_non, gi_dict_bl, gi_dict_int, gi_dict_str, gi_dict_lst, gi_dict_tup, gi_dict_scr, gi_dict_dct, tr_b, true_and, and_true, eq_self, exO_some, hTL_l, hTL_t, hName_e, hCons_c, hNil_n, bind_so, isIns_l, isIns_d, isIns_t, it_l, it_t, it_r, List.getElem?_cons_zero, List.getElem?_cons_succ, List.set_cons_zero, List.set_cons_succ, true_and, and_true, Nat.zero_le, snb, nnb, ex_some, dT, if_true, Bool.false_eq_true, if_false, wipeE, Int.reduceLT, List.length_nil, List.length_cons, Nat.reduceAdd, Nat.reduceLeDiff, Nat.reduceLT, g_inS, g_ixS, g_slS, g_join, frz_def, g_sort, g_rev, List.length_map, List.length_range, z_propV, z_methV, z_makeV, z_lsV, z_dcV, z_dispV, z_fldV, z_lc2, insK_i, onP_v, onM_v, onM_e, onI_n, onI_e, self_i, gz_fldV, g_lenD, g_dictD, prs_nil', prs_cons, eq_self, atI_0, atI_1, atI_2, atI_3, atI_4, atI_5, atI_6, atI_7, atI_8, atI_9, atI_10, atI_11, atI_12, atI_13, atI_14, atI_15, atI_16, atI_17, atI_18, atI_19, atI_20, atI_21, atI_22, atI_23, atI_24, atI_25, atI_26, atI_27, atI_28, atI_29, atI_30, ne_place_value, ne_place_rising, ne_place_low, ne_place_high, ne_place_below, ne_place_same, ne_value_place, ne_value_rising, ne_value_low, ne_value_high, ne_value_below, ne_value_same, ne_rising_place, ne_rising_value, ne_rising_low, ne_rising_high, ne_rising_below, ne_rising_same, ne_low_place, ne_low_value, ne_low_rising, ne_low_high, ne_low_below, ne_low_same, ne_high_place, ne_high_value, ne_high_rising, ne_high_low, ne_high_below, ne_high_same, ne_below_place, ne_below_value, ne_below_rising, ne_below_low, ne_below_high, ne_below_same, ne_same_place, ne_same_value, ne_same_rising, ne_same_low, ne_same_high, ne_same_below, g_inT2, or_d, or_false, false_or, or_self, true_or, or_true, decide_true, decide_false, Bool.or_false, Bool.false_or, Bool.or_true, Bool.true_or, gi_int_op, gi_str_op, gi_int_tm, gi_str_tm, put_4, List.cons_append, List.nil_append, $a,*])
local macro_rules
  | `(tactic| dsimp! only [k19, $a,*]) => `(tactic| simp only [start_def, List.map_cons, List.map_nil, List.length_cons, List.length_nil, Nat.reduceAdd, Nat.reduceSub, List.replicate_succ, List.replicate_zero, List.cons_append, List.nil_append, Z1, Z2, z_bO0, z_bO1, z_for, z_lc, onV_v, onV_e, onS_v, onS_e, onB_v, onB_e, onBR_v, onBR_e, onA_v, onA_e, onVB_v, onVB_e, onVA_v, onVA_e, onAA_v, onAA_e, onAO_v, onAO_e, onBB_v, onBB_e, onO_n, onO_r, onO_b, onO_c, onO_e, onT_n, onT_c, onT_b, onT_r, onT_e, onR_n, onR_r, onR_e, okK_s, okK_n, wO_some, wR_some, wB_some, wA_some, z_lf, z_shr, w_c, w_var, z_op, z_un, z_tB1, z_truR, z_chain, z_andT, z_orT, z_notT, z_andV, z_orV, z_notV, z_if, w_nil, z_cons, z_lst, z_tup, w_dct0, z_call, z_bn, z_sm, z_sl, z_star, z_sh, z_set, z_asg, z_drop, z_ret, w_retV, w_retN, w_nx, z_seq, w_frz, z_ifS, z_app, z_put, z_items, z_it, g_add, g_sub, g_neg, g_mul, g_rep, g_fdiv, g_mod, g_pow, g_addS, g_addL, g_cmp0, g_eqI, g_eqS, g_eqB, g_lenL, g_lenT, g_lenR, g_lenS, g_int, g_intB, g_str, g_listL, g_listT, g_listM, g_tup, g_abs, g_max2, g_min2, gz_ixL, gz_ixT, gz_ixR, g_slL, gi_bool_non, gi_bool_bl, gi_bool_int, gi_bool_str, gi_bool_lst, gi_bool_tup, gi_bool_scr, gi_bool_dct, gi_int_non, gi_int_bl, gi_int_int, gi_int_str, gi_int_lst, gi_int_tup, gi_int_scr, gi_int_dct, gi_str_non, gi_str_bl, gi_str_int, gi_str_str, gi_str_lst, gi_str_tup, gi_str_scr, gi_str_dct, gi_list_non, gi_list_bl, gi_list_int, gi_list_str, gi_list_lst, gi_list_tup, gi_list_scr, gi_list_dct, gi_tuple_non, gi_tuple_bl, gi_tuple_int, gi_tuple_str, gi_tuple_lst, gi_tuple_tup, gi_tuple_scr, gi_tuple_dct, gi_dict_non, gi_dict_bl, gi_dict_int, gi_dict_str, gi_dict_lst, gi_dict_tup, gi_dict_scr, gi_dict_dct, tr_b, true_and, and_true, eq_self, exO_some, hTL_l, hTL_t, hName_e, hCons_c, hNil_n, bind_so, isIns_l, isIns_d, isIns_t, it_l, it_t, it_r, List.getElem?_cons_zero, List.getElem?_cons_succ, List.set_cons_zero, List.set_cons_succ, true_and, and_true, Nat.zero_le, snb, nnb, ex_some, dT, if_true, Bool.false_eq_true, if_false, wipeE, Int.reduceLT, List.length_nil, List.length_cons, Nat.reduceAdd, Nat.reduceLeDiff, Nat.reduceLT, g_inS, g_ixS, g_slS, g_join, frz_def, g_sort, g_rev, List.length_map, List.length_range, z_propV, z_methV, z_makeV, z_lsV, z_dcV, z_dispV, z_fldV, z_lc2, insK_i, onP_v, onM_v, onM_e, onI_n, onI_e, self_i, gz_fldV, g_lenD, g_dictD, prs_nil', prs_cons, eq_self, Z3, z_opS, z_unS, z_truS, z_cmpT, z_andTS, z_orTS, z_notTS, z_andVS, z_orVS, z_notVS, z_ifVS, z_consS, z_lstS, z_tupS, z_callS, z_bnS, z_mtS, z_mt0S, z_setS, z_asgS, z_dropS, z_retS, z_seqS, z_ifSS, z_putS, z_forS, z_itemsS, z_itS, z_lcS, z_raiseS, w_lftS, w_lftT, w_lftA, w_lftI, w_fZ, w_nilS, w_ofP, w_retNS, w_nxS, w_bkS, w_ctS, nV_v, nV_e, nVB_v, nVB_e, nVA_v, nVA_e, nVI_v, nVI_e, nVO_v, nVO_e, nB_v, nB_e, nBR_v, nBR_e, nBO_v, nBO_e, nA_v, nA_e, nAA_v, nAA_e, nAI_v, nAI_e, nAO_v, nAO_e, nI_v, nI_e, nIO_v, nIO_e, nO_n, nO_r, nO_b, nO_c, nO_e, nP_s, nP_n, nP_e, nPB_b, nPB_e, nPA_v, nPA_e, nPI_v, nPI_e, nK_s, nK_n, nSh_s, nSh_e, nSh_nf, nSh_nl, nSh_nd, sK_s, dr_non, dr_bl, dr_int, dr_str, dr_lst, dr_tup, dr_dct, dr_scr, dr_ins, atI_0, atI_1, atI_2, atI_3, atI_4, atI_5, atI_6, atI_7, atI_8, atI_9, atI_10, atI_11, atI_12, atI_13, atI_14, atI_15, atI_16, atI_17, atI_18, atI_19, atI_20, atI_21, atI_22, atI_23, atI_24, atI_25, atI_26, atI_27, atI_28, atI_29, atI_30, $a,*])
local macro_rules
  | `(tactic| dsimp! only [k20, $a,*]) => `(tactic| simp only [Z1, Z2, z_bO0, z_bO1, z_for, z_lc, onV_v, onV_e, onS_v, onS_e, onB_v, onB_e, onBR_v, onBR_e, onA_v, onA_e, onVB_v, onVB_e, onVA_v, onVA_e, onAA_v, onAA_e, onAO_v, onAO_e, onBB_v, onBB_e, onO_n, onO_r, onO_b, onO_c, onO_e, onT_n, onT_c, onT_b, onT_r, onT_e, onR_n, onR_r, onR_e, okK_s, okK_n, wO_some, wR_some, wB_some, wA_some, z_lf, z_shr, w_c, w_var, z_op, z_un, z_tB1, z_truR, z_chain, z_andT, z_orT, z_notT, z_andV, z_orV, z_notV, z_if, w_nil, z_cons, z_lst, z_tup, w_dct0, z_call, z_bn, z_sm, z_sl, z_star, z_sh, z_set, z_asg, z_drop, z_ret, w_retV, w_retN, w_nx, z_seq, w_frz, z_ifS, z_app, z_put, z_items, z_it, g_add, g_sub, g_neg, g_mul, g_rep, g_fdiv, g_mod, g_pow, g_addS, g_addL, g_cmp0, g_eqI, g_eqS, g_eqB, g_lenL, g_lenT, g_lenR, g_lenS, g_int, g_intB, g_str, g_listL, g_listT, g_listM, g_tup, g_abs, g_max2, g_min2, gz_ixL, gz_ixT, gz_ixR, g_slL, gi_bool_non, gi_bool_bl, gi_bool_int, gi_bool_str, gi_bool_lst, gi_bool_tup, gi_bool_scr, gi_bool_dct, gi_int_non, gi_int_bl, gi_int_int, gi_int_str, gi_int_lst, gi_int_tup, gi_int_scr, gi_int_dct, gi_str_non, gi_str_bl, gi_str_int, gi_str_str, gi_str_lst, gi_str_tup, gi_str_scr, gi_str_dct, gi_list_non, gi_list_bl, gi_list_int, gi_list_str, gi_list_lst, gi_list_tup, gi_list_scr, gi_list_dct, gi_tuple_non, gi_tuple_bl, gi_tuple_int, gi_tuple_str, gi_tuple_lst, gi_tuple_tup, gi_tuple_scr, gi_tuple_dct, gi_dict_non, gi_dict_bl, gi_dict_int, gi_dict_str, gi_dict_lst, gi_dict_tup, gi_dict_scr, gi_dict_dct, tr_b, true_and, and_true, eq_self, exO_some, hTL_l, hTL_t, hName_e, hCons_c, hNil_n, bind_so, isIns_l, isIns_d, isIns_t, it_l, it_t, it_r, List.getElem?_cons_zero, List.getElem?_cons_succ, List.set_cons_zero, List.set_cons_succ, true_and, and_true, Nat.zero_le, snb, nnb, ex_some, dT, if_true, Bool.false_eq_true, if_false, wipeE, Int.reduceLT, List.length_nil, List.length_cons, Nat.reduceAdd, Nat.reduceLeDiff, Nat.reduceLT, g_inS, g_ixS, g_slS, g_join, frz_def, g_sort, g_rev, List.length_map, List.length_range, z_propV, z_methV, z_makeV, z_lsV, z_dcV, z_dispV, z_fldV, z_lc2, insK_i, onP_v, onM_v, onM_e, onI_n, onI_e, self_i, gz_fldV, g_lenD, g_dictD, prs_nil', prs_cons, eq_self, Z3, z_opS, z_unS, z_truS, z_cmpT, z_andTS, z_orTS, z_notTS, z_andVS, z_orVS, z_notVS, z_ifVS, z_consS, z_lstS, z_tupS, z_callS, z_bnS, z_mtS, z_mt0S, z_setS, z_asgS, z_dropS, z_retS, z_seqS, z_ifSS, z_putS, z_forS, z_itemsS, z_itS, z_lcS, z_raiseS, w_lftS, w_lftT, w_lftA, w_lftI, w_fZ, w_nilS, w_ofP, w_retNS, w_nxS, w_bkS, w_ctS, nV_v, nV_e, nVB_v, nVB_e, nVA_v, nVA_e, nVI_v, nVI_e, nVO_v, nVO_e, nB_v, nB_e, nBR_v, nBR_e, nBO_v, nBO_e, nA_v, nA_e, nAA_v, nAA_e, nAI_v, nAI_e, nAO_v, nAO_e, nI_v, nI_e, nIO_v, nIO_e, nO_n, nO_r, nO_b, nO_c, nO_e, nP_s, nP_n, nP_e, nPB_b, nPB_e, nPA_v, nPA_e, nPI_v, nPI_e, nK_s, nK_n, nSh_s, nSh_e, nSh_nf, nSh_nl, nSh_nd, sK_s, dr_non, dr_bl, dr_int, dr_str, dr_lst, dr_tup, dr_dct, dr_scr, dr_ins, atI_0, atI_1, atI_2, atI_3, atI_4, atI_5, atI_6, atI_7, atI_8, atI_9, atI_10, atI_11, atI_12, atI_13, atI_14, atI_15, atI_16, atI_17, atI_18, atI_19, atI_20, atI_21, atI_22, atI_23, atI_24, atI_25, atI_26, atI_27, atI_28, atI_29, atI_30, $a,*])
local macro_rules
  | `(tactic| dsimp! only [k21, $a,*]) => `(tactic| simp only [start_def, List.map_cons, List.map_nil, List.length_cons, List.length_nil, Nat.reduceAdd, Nat.reduceSub, List.replicate_succ, List.replicate_zero, List.cons_append, List.nil_append, Z1, Z2, z_bO0, z_bO1, z_for, z_lc, onV_v, onV_e, onS_v, onS_e, onB_v, onB_e, onBR_v, onBR_e, onA_v, onA_e, onVB_v, onVB_e, onVA_v, onVA_e, onAA_v, onAA_e, onAO_v, onAO_e, onBB_v, onBB_e, onO_n, onO_r, onO_b, onO_c, onO_e, onT_n, onT_c, onT_b, onT_r, onT_e, onR_n, onR_r, onR_e, okK_s, okK_n, wO_some, wR_some, wB_some, wA_some, z_lf, z_shr, w_c, w_var, z_op, z_un, z_tB1, z_truR, z_chain, z_andT, z_orT, z_notT, z_andV, z_orV, z_notV, z_if, w_nil, z_cons, z_lst, z_tup, w_dct0, z_call, z_bn, z_sm, z_sl, z_star, z_sh, z_set, z_asg, z_drop, z_ret, w_retV, w_retN, w_nx, z_seq, w_frz, z_ifS, z_app, z_put, z_items, z_it, g_add, g_sub, g_neg, g_mul, g_rep, g_fdiv, g_mod, g_pow, g_addS, g_addL, g_cmp0, g_eqI, g_eqS, g_eqB, g_lenL, g_lenT, g_lenR, g_lenS, g_int, g_intB, g_str, g_listL, g_listT, g_listM, g_tup, g_abs, g_max2, g_min2, gz_ixL, gz_ixT, gz_ixR, g_slL, gi_bool_non, gi_bool_bl, gi_bool_int, gi_bool_str, gi_bool_lst, gi_bool_tup, gi_bool_scr, gi_bool_dct, gi_int_non, gi_int_bl, gi_int_int, gi_int_str, gi_int_lst, gi_int_tup, gi_int_scr, gi_int_dct, gi_str_non, gi_str_bl, gi_str_int, gi_str_str, gi_str_lst, gi_str_tup, gi_str_scr, gi_str_dct, gi_list_non, gi_list_bl, gi_list_int, gi_list_str, gi_list_lst, gi_list_tup, gi_list_scr, gi_list_dct, gi_tuple_non, gi_tuple_bl, gi_tuple_int, gi_tuple_str, gi_tuple_lst, gi_tuple_tup, gi_tuple_scr, gi_tuple_dct, gi_dict_non, gi_dict_bl, gi_dict_int, gi_dict_str, gi_dict_lst, gi_dict_tup, gi_dict_scr, gi_dict_dct, tr_b, true_and, and_true, eq_self, exO_some, hTL_l, hTL_t, hName_e, hCons_c, hNil_n, bind_so, isIns_l, isIns_d, isIns_t, it_l, it_t, it_r, List.getElem?_cons_zero, List.getElem?_cons_succ, List.set_cons_zero, List.set_cons_succ, true_and, and_true, Nat.zero_le, snb, nnb, ex_some, dT, if_true, Bool.false_eq_true, if_false, wipeE, Int.reduceLT, List.length_nil, List.length_cons, Nat.reduceAdd, Nat.reduceLeDiff, Nat.reduceLT, g_inS, g_ixS, g_slS, g_join, frz_def, g_sort, g_rev, List.length_map, List.length_range, z_propV, z_methV, z_makeV, z_lsV, z_dcV, z_dispV, z_fldV, z_lc2, insK_i, onP_v, onM_v, onM_e, onI_n, onI_e, self_i, gz_fldV, g_lenD, g_dictD, prs_nil', prs_cons, eq_self, Z3, z_opS, z_unS, z_truS, z_cmpT, z_andTS, z_orTS, z_notTS, z_andVS, z_orVS, z_notVS, z_ifVS, z_consS, z_lstS, z_tupS, z_callS, z_bnS, z_mtS, z_mt0S, z_setS, z_asgS, z_dropS, z_retS, z_seqS, z_ifSS, z_putS, z_forS, z_itemsS, z_itS, z_lcS, z_raiseS, w_lftS, w_lftT, w_lftA, w_lftI, w_fZ, w_nilS, w_ofP, w_retNS, w_nxS, w_bkS, w_ctS, nV_v, nV_e, nVB_v, nVB_e, nVA_v, nVA_e, nVI_v, nVI_e, nVO_v, nVO_e, nB_v, nB_e, nBR_v, nBR_e, nBO_v, nBO_e, nA_v, nA_e, nAA_v, nAA_e, nAI_v, nAI_e, nAO_v, nAO_e, nI_v, nI_e, nIO_v, nIO_e, nO_n, nO_r, nO_b, nO_c, nO_e, nP_s, nP_n, nP_e, nPB_b, nPB_e, nPA_v, nPA_e, nPI_v, nPI_e, nK_s, nK_n, nSh_s, nSh_e, nSh_nf, nSh_nl, nSh_nd, sK_s, dr_non, dr_bl, dr_int, dr_str, dr_lst, dr_tup, dr_dct, dr_scr, dr_ins, $a,*])
local macro_rules
  | `(tactic| dsimp! only [k22, $a,*]) => `(tactic| simp only [Z1, Z2, z_bO0, z_bO1, z_for, z_lc, onV_v, onV_e, onS_v, onS_e, onB_v, onB_e, onBR_v, onBR_e, onA_v, onA_e, onVB_v, onVB_e, onVA_v, onVA_e, onAA_v, onAA_e, onAO_v, onAO_e, onBB_v, onBB_e, onO_n, onO_r, onO_b, onO_c, onO_e, onT_n, onT_c, onT_b, onT_r, onT_e, onR_n, onR_r, onR_e, okK_s, okK_n, wO_some, wR_some, wB_some, wA_some, z_lf, z_shr, w_c, w_var, z_op, z_un, z_tB1, z_truR, z_chain, z_andT, z_orT, z_notT, z_andV, z_orV, z_notV, z_if, w_nil, z_cons, z_lst, z_tup, w_dct0, z_call, z_bn, z_sm, z_sl, z_star, z_sh, z_set, z_asg, z_drop, z_ret, w_retV, w_retN, w_nx, z_seq, w_frz, z_ifS, z_app, z_put, z_items, z_it, g_add, g_sub, g_neg, g_mul, g_rep, g_fdiv, g_mod, g_pow, g_addS, g_addL, g_cmp0, g_eqI, g_eqS, g_eqB, g_lenL, g_lenT, g_lenR, g_lenS, g_int, g_intB, g_str, g_listL, g_listT, g_listM, g_tup, g_abs, g_max2, g_min2, gz_ixL, gz_ixT, gz_ixR, g_slL, gi_bool_non, gi_bool_bl, gi_bool_int, gi_bool_str, gi_bool_lst, gi_bool_tup, gi_bool_scr, gi_bool_dct, gi_int_non, gi_int_bl, gi_int_int, gi_int_str, gi_int_lst, gi_int_tup, gi_int_scr, gi_int_dct, gi_str_non, gi_str_bl, gi_str_int, gi_str_str, gi_str_lst, gi_str_tup, gi_str_scr, gi_str_dct, gi_list_non, gi_list_bl, gi_list_int, gi_list_str, gi_list_lst, gi_list_tup, gi_list_scr, gi_list_dct, gi_tuple_non, gi_tuple_bl, gi_tuple_int, gi_tuple_str, gi_tuple_lst, gi_tuple_tup, gi_tuple_scr, gi_tuple_dct, gi_dict_non, gi_dict_bl, gi_dict_int, gi_dict_str, gi_dict_lst, gi_dict_tup, gi_dict_scr, gi_dict_dct, tr_b, true_and, and_true, eq_self, exO_some, hTL_l, hTL_t, hName_e, hCons_c, hNil_n, bind_so, isIns_l, isIns_d, isIns_t, it_l, it_t, it_r, List.getElem?_cons_zero, List.getElem?_cons_succ, List.set_cons_zero, List.set_cons_succ, true_and, and_true, Nat.zero_le, snb, nnb, ex_some, dT, if_true, Bool.false_eq_true, if_false, wipeE, Int.reduceLT, List.length_nil, List.length_cons, Nat.reduceAdd, Nat.reduceLeDiff, Nat.reduceLT, g_inS, g_ixS, g_slS, g_join, frz_def, g_sort, g_rev, List.length_map, List.length_range, z_propV, z_methV, z_makeV, z_lsV, z_dcV, z_dispV, z_fldV, z_lc2, insK_i, onP_v, onM_v, onM_e, onI_n, onI_e, self_i, gz_fldV, g_lenD, g_dictD, prs_nil', prs_cons, eq_self, Z3, z_opS, z_unS, z_truS, z_cmpT, z_andTS, z_orTS, z_notTS, z_andVS, z_orVS, z_notVS, z_ifVS, z_consS, z_lstS, z_tupS, z_callS, z_bnS, z_mtS, z_mt0S, z_setS, z_asgS, z_dropS, z_retS, z_seqS, z_ifSS, z_putS, z_forS, z_itemsS, z_itS, z_lcS, z_raiseS, w_lftS, w_lftT, w_lftA, w_lftI, w_fZ, w_nilS, w_ofP, w_retNS, w_nxS, w_bkS, w_ctS, nV_v, nV_e, nVB_v, nVB_e, nVA_v, nVA_e, nVI_v, nVI_e, nVO_v, nVO_e, nB_v, nB_e, nBR_v, nBR_e, nBO_v, nBO_e, nA_v, nA_e, nAA_v, nAA_e, nAI_v, nAI_e, nAO_v, nAO_e, nI_v, nI_e, nIO_v, nIO_e, nO_n, nO_r, nO_b, nO_c, nO_e, nP_s, nP_n, nP_e, nPB_b, nPB_e, nPA_v, nPA_e, nPI_v, nPI_e, nK_s, nK_n, nSh_s, nSh_e, nSh_nf, nSh_nl, nSh_nd, sK_s, dr_non, dr_bl, dr_int, dr_str, dr_lst, dr_tup, dr_dct, dr_scr, dr_ins, $a,*])
local macro_rules
  | `(tactic| dsimp! only [k23, $a,*]) => `(tactic| simp only [start_def, List.map_cons, List.map_nil, List.length_cons, List.length_nil, Nat.reduceAdd, Nat.reduceSub, List.replicate_succ, List.replicate_zero, List.cons_append, List.nil_append, Z1, Z2, z_bO0, z_bO1, z_for, z_lc, onV_v, onV_e, onS_v, onS_e, onB_v, onB_e, onBR_v, onBR_e, onA_v, onA_e, onVB_v, onVB_e, onVA_v, onVA_e, onAA_v, onAA_e, onAO_v, onAO_e, onBB_v, onBB_e, onO_n, onO_r, onO_b, onO_c, onO_e, onT_n, onT_c, onT_b, onT_r, onT_e, onR_n, onR_r, onR_e, okK_s, okK_n, wO_some, wR_some, wB_some, wA_some, z_lf, z_shr, w_c, w_var, z_op, z_un, z_tB1, z_truR, z_chain, z_andT, z_orT, z_notT, z_andV, z_orV, z_notV, z_if, w_nil, z_cons, z_lst, z_tup, w_dct0, z_call, z_bn, z_sm, z_sl, z_star, z_sh, z_set, z_asg, z_drop, z_ret, w_retV, w_retN, w_nx, z_seq, w_frz, z_ifS, z_app, z_put, z_items, z_it, g_add, g_sub, g_neg, g_mul, g_rep, g_fdiv, g_mod, g_pow, g_addS, g_addL, g_cmp0, g_eqI, g_eqS, g_eqB, g_lenL, g_lenT, g_lenR, g_lenS, g_int, g_intB, g_str, g_listL, g_listT, g_listM, g_tup, g_abs, g_max2, g_min2, gz_ixL, gz_ixT, gz_ixR, g_slL, gi_bool_non, gi_bool_bl, gi_bool_int, gi_bool_str, gi_bool_lst, gi_bool_tup, gi_bool_scr, gi_bool_dct, gi_int_non, gi_int_bl, gi_int_int, gi_int_str, gi_int_lst, gi_int_tup, gi_int_scr, gi_int_dct, gi_str_non, gi_str_bl, gi_str_int, gi_str_str, gi_str_lst, gi_str_tup, gi_str_scr, gi_str_dct, gi_list_non, gi_list_bl, gi_list_int, gi_list_str, gi_list_lst, gi_list_tup, gi_list_scr, gi_list_dct, gi_tuple_non, gi_tuple_bl, gi_tuple_int, gi_tuple_str, gi_tuple_lst, gi_tuple_tup, gi_tuple_scr, gi_tuple_dct, gi_dict_non, gi_dict_bl, gi_dict_int, gi_dict_str, gi_dict_lst, gi_dict_tup, gi_dict_scr, gi_dict_dct, tr_b, true_and, and_true, eq_self, exO_some, hTL_l, hTL_t, hName_e, hCons_c, hNil_n, bind_so, isIns_l, isIns_d, isIns_t, it_l, it_t, it_r, List.getElem?_cons_zero, List.getElem?_cons_succ, List.set_cons_zero, List.set_cons_succ, true_and, and_true, Nat.zero_le, snb, nnb, ex_some, dT, if_true, Bool.false_eq_true, if_false, wipeE, Int.reduceLT, List.length_nil, List.length_cons, Nat.reduceAdd, Nat.reduceLeDiff, Nat.reduceLT, g_inS, g_ixS, g_slS, g_join, frz_def, g_sort, g_rev, List.length_map, List.length_range, z_propV, z_methV, z_makeV, z_lsV, z_dcV, z_dispV, z_fldV, z_lc2, insK_i, onP_v, onM_v, onM_e, onI_n, onI_e, self_i, gz_fldV, g_lenD, g_dictD, prs_nil', prs_cons, eq_self, Z3, z_opS, z_unS, z_truS, z_cmpT, z_andTS, z_orTS, z_notTS, z_andVS, z_orVS, z_notVS, z_ifVS, z_consS, z_lstS, z_tupS, z_callS, z_bnS, z_mtS, z_mt0S, z_setS, z_asgS, z_dropS, z_retS, z_seqS, z_ifSS, z_putS, z_forS, z_itemsS, z_itS, z_lcS, z_raiseS, w_lftS, w_lftT, w_lftA, w_lftI, w_fZ, w_nilS, w_ofP, w_retNS, w_nxS, w_bkS, w_ctS, nV_v, nV_e, nVB_v, nVB_e, nVA_v, nVA_e, nVI_v, nVI_e, nVO_v, nVO_e, nB_v, nB_e, nBR_v, nBR_e, nBO_v, nBO_e, nA_v, nA_e, nAA_v, nAA_e, nAI_v, nAI_e, nAO_v, nAO_e, nI_v, nI_e, nIO_v, nIO_e, nO_n, nO_r, nO_b, nO_c, nO_e, nP_s, nP_n, nP_e, nPB_b, nPB_e, nPA_v, nPA_e, nPI_v, nPI_e, nK_s, nK_n, nSh_s, nSh_e, nSh_nf, nSh_nl, nSh_nd, sK_s, dr_non, dr_bl, dr_int, dr_str, dr_lst, dr_tup, dr_dct, dr_scr, dr_ins, atI_0, atI_1, atI_2, atI_3, atI_4, atI_5, atI_6, atI_7, atI_8, atI_9, atI_10, atI_11, atI_12, atI_13, atI_14, atI_15, atI_16, atI_17, atI_18, atI_19, atI_20, atI_21, atI_22, atI_23, atI_24, atI_25, atI_26, atI_27, atI_28, atI_29, atI_30, ne_place_value, ne_place_rising, ne_place_low, ne_place_high, ne_place_below, ne_place_same, ne_value_place, ne_value_rising, ne_value_low, ne_value_high, ne_value_below, ne_value_same, ne_rising_place, ne_rising_value, ne_rising_low, ne_rising_high, ne_rising_below, ne_rising_same, ne_low_place, ne_low_value, ne_low_rising, ne_low_high, ne_low_below, ne_low_same, ne_high_place, ne_high_value, ne_high_rising, ne_high_low, ne_high_below, ne_high_same, ne_below_place, ne_below_value, ne_below_rising, ne_below_low, ne_below_high, ne_below_same, ne_same_place, ne_same_value, ne_same_rising, ne_same_low, ne_same_high, ne_same_below, g_inT2, or_d, or_false, false_or, or_self, true_or, or_true, decide_true, decide_false, Bool.or_false, Bool.false_or, Bool.or_true, Bool.true_or, gi_int_op, gi_str_op, gi_int_tm, gi_str_tm, put_4, List.cons_append, List.nil_append, $a,*])
local macro_rules
  | `(tactic| dsimp! only [k24, $a,*]) => `(tactic| simp only [Z1, Z2, z_bO0, z_bO1, z_for, z_lc, onV_v, onV_e, onS_v, onS_e, onB_v, onB_e, onBR_v, onBR_e, onA_v, onA_e, onVB_v, onVB_e, onVA_v, onVA_e, onAA_v, onAA_e, onAO_v, onAO_e, onBB_v, onBB_e, onO_n, onO_r, onO_b, onO_c, onO_e, onT_n, onT_c, onT_b, onT_r, onT_e, onR_n, onR_r, onR_e, okK_s, okK_n, wO_some, wR_some, wB_some, wA_some, z_lf, z_shr, w_c, w_var, z_op, z_un, z_tB1, z_truR, z_chain, z_andT, z_orT, z_notT, z_andV, z_orV, z_notV, z_if, w_nil, z_cons, z_lst, z_tup, w_dct0, z_call, z_bn, z_sm, z_sl, z_star, z_sh, z_set, z_asg, z_drop, z_ret, w_retV, w_retN, w_nx, z_seq, w_frz, z_ifS, z_app, z_put, z_items, z_it, g_add, g_sub, g_neg, g_mul, g_rep, g_fdiv, g_mod, g_pow, g_addS, g_addL, g_cmp0, g_eqI, g_eqS, g_eqB, g_lenL, g_lenT, g_lenR, g_lenS, g_int, g_intB, g_str, g_listL, g_listT, g_listM, g_tup, g_abs, g_max2, g_min2, gz_ixL, gz_ixT, gz_ixR, g_slL, gi_bool_non, gi_bool_bl, gi_bool_int, gi_bool_str, gi_bool_lst, gi_bool_tup, gi_bool_scr, gi_bool_dct, gi_int_non, gi_int_bl, gi_int_int, gi_int_str, gi_int_lst, gi_int_tup, gi_int_scr, gi_int_dct, gi_str_non, gi_str_bl, gi_str_int, gi_str_str, gi_str_lst, gi_str_tup, gi_str_scr, gi_str_dct, gi_list_non, gi_list_bl, gi_list_int, gi_list_str, gi_list_lst, gi_list_tup, gi_list_scr, gi_list_dct, gi_tuple_non, gi_tuple_bl, gi_tuple_int, gi_tuple_str, gi_tuple_lst, gi_tuple_tup, gi_tuple_scr, gi_tuple_dct, gi_dict_non, gi_dict_bl, gi_dict_int, gi_dict_str, gi_dict_lst, gi_dict_tup, gi_dict_scr, gi_dict_dct, tr_b, true_and, and_true, eq_self, exO_some, hTL_l, hTL_t, hName_e, hCons_c, hNil_n, bind_so, isIns_l, isIns_d, isIns_t, it_l, it_t, it_r, List.getElem?_cons_zero, List.getElem?_cons_succ, List.set_cons_zero, List.set_cons_succ, true_and, and_true, Nat.zero_le, snb, nnb, ex_some, dT, if_true, Bool.false_eq_true, if_false, wipeE, Int.reduceLT, List.length_nil, List.length_cons, Nat.reduceAdd, Nat.reduceLeDiff, Nat.reduceLT, g_inS, g_ixS, g_slS, g_join, frz_def, g_sort, g_rev, List.length_map, List.length_range, z_propV, z_methV, z_makeV, z_lsV, z_dcV, z_dispV, z_fldV, z_lc2, insK_i, onP_v, onM_v, onM_e, onI_n, onI_e, self_i, gz_fldV, g_lenD, g_dictD, prs_nil', prs_cons, eq_self, Z3, z_opS, z_unS, z_truS, z_cmpT, z_andTS, z_orTS, z_notTS, z_andVS, z_orVS, z_notVS, z_ifVS, z_consS, z_lstS, z_tupS, z_callS, z_bnS, z_mtS, z_mt0S, z_setS, z_asgS, z_dropS, z_retS, z_seqS, z_ifSS, z_putS, z_forS, z_itemsS, z_itS, z_lcS, z_raiseS, w_lftS, w_lftT, w_lftA, w_lftI, w_fZ, w_nilS, w_ofP, w_retNS, w_nxS, w_bkS, w_ctS, nV_v, nV_e, nVB_v, nVB_e, nVA_v, nVA_e, nVI_v, nVI_e, nVO_v, nVO_e, nB_v, nB_e, nBR_v, nBR_e, nBO_v, nBO_e, nA_v, nA_e, nAA_v, nAA_e, nAI_v, nAI_e, nAO_v, nAO_e, nI_v, nI_e, nIO_v, nIO_e, nO_n, nO_r, nO_b, nO_c, nO_e, nP_s, nP_n, nP_e, nPB_b, nPB_e, nPA_v, nPA_e, nPI_v, nPI_e, nK_s, nK_n, nSh_s, nSh_e, nSh_nf, nSh_nl, nSh_nd, sK_s, dr_non, dr_bl, dr_int, dr_str, dr_lst, dr_tup, dr_dct, dr_scr, dr_ins, atI_0, atI_1, atI_2, atI_3, atI_4, atI_5, atI_6, atI_7, atI_8, atI_9, atI_10, atI_11, atI_12, atI_13, atI_14, atI_15, atI_16, atI_17, atI_18, atI_19, atI_20, atI_21, atI_22, atI_23, atI_24, atI_25, atI_26, atI_27, atI_28, atI_29, atI_30, ne_place_value, ne_place_rising, ne_place_low, ne_place_high, ne_place_below, ne_place_same, ne_value_place, ne_value_rising, ne_value_low, ne_value_high, ne_value_below, ne_value_same, ne_rising_place, ne_rising_value, ne_rising_low, ne_rising_high, ne_rising_below, ne_rising_same, ne_low_place, ne_low_value, ne_low_rising, ne_low_high, ne_low_below, ne_low_same, ne_high_place, ne_high_value, ne_high_rising, ne_high_low, ne_high_below, ne_high_same, ne_below_place, ne_below_value, ne_below_rising, ne_below_low, ne_below_high, ne_below_same, ne_same_place, ne_same_value, ne_same_rising, ne_same_low, ne_same_high, ne_same_below, g_inT2, or_d, or_false, false_or, or_self, true_or, or_true, decide_true, decide_false, Bool.or_false, Bool.false_or, Bool.or_true, Bool.true_or, gi_int_op, gi_str_op, gi_int_tm, gi_str_tm, put_4, List.cons_append, List.nil_append, $a,*])
/-! PD: pure data over the hand layer. Values are read as plain data; a def's promise is a plain function on data. -/
namespace PD
open PySem L2

/-- the addresses of the classes; of the places of the store -/
structure Cc where
  f : Nat → Addr
  /-- the exception that is handled -/
  x : Option Addr
instance : CoeFun Cc (fun _ => Nat → Addr) := ⟨Cc.f⟩
structure Cn where
  c : Cc
  l : List Addr
instance : CoeFun Cn (fun _ => Nat → Addr) := ⟨fun n => n.c.f⟩
/-- plain data; loc n: what stands at the n-th place of the store -/
inductive D where
  | non | bl (b : Bool) | int (i : Int) | str (x : Str) | ty (n : String) | cl (c : Nat) | loc (n : Nat)
  | scr (ns : List Int) | lst (xs : List D) | tup (xs : List D) | dct (kvs : List (Key × D)) | ins (c : Nat) (fs : List (Str × D))

mutual
/-- the value v in the heap G is the data d; cn: the addresses of the classes -/
inductive Dt (K : PySem.W.Frag) (cn : Cn) (G : Hp) : V → D → Prop
  | non : Dt K cn G .non .non
  | bl (b : Bool) : Dt K cn G (.bl b) (.bl b)
  | int (i : Int) : Dt K cn G (.int i) (.int i)
  | str (x : Str) : Dt K cn G (.str x) (.str x)
  | ty (n : String) : Dt K cn G (.ty n) (.ty n)
  | cl (c : Nat) : Dt K cn G (.ref (cn c)) (.cl c)
  | loc {n : Nat} {a : Addr} : cn.l[n]? = some a → Dt K cn G (.ref a) (.loc n)
  | scr {a : Addr} {ns : List Int} : SqL K G a (ns.map V.int) → Dt K cn G (.ref a) (.scr ns)
  | lst {a : Addr} {vs : List V} {ds : List D} : G a = some (.lst vs) → DtL K cn G vs ds → Dt K cn G (.ref a) (.lst ds)
  | tup {a : Addr} {vs : List V} {ds : List D} : G a = some (.tup vs) → DtL K cn G vs ds → Dt K cn G (.ref a) (.tup ds)
  | dct {a : Addr} {o : Obj} {kvs : List (Key × V)} {dks : List (Key × D)} : G a = some (.frz o (.dK kvs)) → kvs.map (·.1) = dks.map (·.1) → DtL K cn G (kvs.map (·.2)) (dks.map (·.2)) → Dt K cn G (.ref a) (.dct dks)
  | ins {a dx : Addr} {c : Nat} {fs : List (Str × V)} {dfs : List (Str × D)} : G a = some (.ins (cn c) dx fs) → fs.map (·.1) = dfs.map (·.1) → DtL K cn G (fs.map (·.2)) (dfs.map (·.2)) → Dt K cn G (.ref a) (.ins c dfs)
inductive DtL (K : PySem.W.Frag) (cn : Cn) (G : Hp) : List V → List D → Prop
  | nil : DtL K cn G [] []
  | cons {v : V} {vs : List V} {d : D} {ds : List D} : Dt K cn G v d → DtL K cn G vs ds → DtL K cn G (v :: vs) (d :: ds)
end

section
variable {K : PySem.W.Frag} {cn : Cn} {G G' : Hp}
theorem Rd.same {a : Addr} {u : HO} (e : Same G G') (h : Rd G a u) : Rd G' a u := by
  rcases h with h | ⟨o, h⟩
  · exact .inl (e _ _ h)
  · exact .inr ⟨o, e _ _ h⟩
theorem seqT {a : Addr} {xs : List V} (e : Same G G') (h : SqT K G a xs) : SqT K G' a xs := by
  rcases h with h | h
  · exact .inl (Rd.same e h)
  · exact .inr h
mutual
theorem Dt.same (e : Same G G') : ∀ {v : V} {d : D}, Dt K cn G v d → Dt K cn G' v d
  | _, _, .non => .non
  | _, _, .bl b => .bl b
  | _, _, .int i => .int i
  | _, _, .str x => .str x
  | _, _, .ty n => .ty n
  | _, _, .cl c => .cl c
  | _, _, .loc h => .loc h
  | _, _, .scr h => .scr (e.seq h)
  | _, _, .lst h t => .lst (e _ _ h) (DtL.same e t)
  | _, _, .tup h t => .tup (e _ _ h) (DtL.same e t)
  | _, _, .dct h k t => .dct (e _ _ h) k (DtL.same e t)
  | _, _, .ins h k t => .ins (e _ _ h) k (DtL.same e t)
theorem DtL.same (e : Same G G') : ∀ {vs : List V} {ds : List D}, DtL K cn G vs ds → DtL K cn G' vs ds
  | _, _, .nil => .nil
  | _, _, .cons h t => .cons (Dt.same e h) (DtL.same e t)
end
theorem DtL.length : ∀ {vs : List V} {ds : List D}, DtL K cn G vs ds → vs.length = ds.length
  | _, _, .nil => rfl
  | _, _, .cons _ t => congrArg (· + 1) (DtL.length t)
theorem DtL.get : ∀ {vs : List V} {ds : List D} {i : Nat} {d : D}, DtL K cn G vs ds → ds[i]? = some d → ∃ v, vs[i]? = some v ∧ Dt K cn G v d
  | _, _, _, _, .nil, e => by simp at e
  | _, _, 0, _, .cons h t, e => by simp at e; subst e; exact ⟨_, rfl, h⟩
  | _, _, i + 1, d, .cons h t, e => by
    obtain ⟨v, h1, h2⟩ := DtL.get (i := i) (d := d) t (by simpa using e)
    exact ⟨v, by simpa using h1, h2⟩
theorem DtL.append : ∀ {vs ws : List V} {ds es : List D}, DtL K cn G vs ds → DtL K cn G ws es → DtL K cn G (vs ++ ws) (ds ++ es)
  | _, _, _, _, .nil, h => h
  | _, _, _, _, .cons h t, h' => .cons h (DtL.append t h')
theorem DtL.take : ∀ {vs : List V} {ds : List D} (n : Nat), DtL K cn G vs ds → DtL K cn G (vs.take n) (ds.take n)
  | _, _, 0, _ => .nil
  | _, _, _ + 1, .nil => .nil
  | _, _, n + 1, .cons h t => .cons h (DtL.take n t)
theorem DtL.drop : ∀ {vs : List V} {ds : List D} (n : Nat), DtL K cn G vs ds → DtL K cn G (vs.drop n) (ds.drop n)
  | _, _, 0, h => h
  | _, _, _ + 1, .nil => .nil
  | _, _, n + 1, .cons h t => DtL.drop n t
theorem DtL.set : ∀ {vs : List V} {ds : List D} (n : Nat) {v : V} {d : D}, DtL K cn G vs ds → Dt K cn G v d → DtL K cn G (vs.set n v) (ds.set n d)
  | _, _, _, _, _, .nil, _ => .nil
  | _, _, 0, _, _, .cons _ t, h => .cons h t
  | _, _, n + 1, _, _, .cons h' t, h => .cons h' (DtL.set n t h)
theorem DtL.rev : ∀ {vs : List V} {ds : List D}, DtL K cn G vs ds → DtL K cn G vs.reverse ds.reverse
  | _, _, .nil => .nil
  | _, _, .cons h t => by
    rw [List.reverse_cons, List.reverse_cons]
    exact DtL.append (DtL.rev t) (.cons h .nil)
theorem DtL.one {v : V} {d : D} (h : Dt K cn G v d) : DtL K cn G [v] [d] := .cons h .nil
theorem DtL.ints : ∀ (ns : List Int), DtL K cn G (ns.map V.int) (ns.map D.int)
  | [] => .nil
  | n :: r => .cons (.int n) (DtL.ints r)
theorem DtL.strs : ∀ (ns : List Str), DtL K cn G (ns.map V.str) (ns.map D.str)
  | [] => .nil
  | n :: r => .cons (.str n) (DtL.strs r)
theorem DtL.ints_inv : ∀ {vs : List V} (ns : List Int), DtL K cn G vs (ns.map D.int) → vs = ns.map V.int
  | _, [], .nil => rfl
  | _, n :: r, .cons (.int _) t => by rw [DtL.ints_inv r t]; rfl
theorem DtL.strs_inv : ∀ {vs : List V} (ns : List Str), DtL K cn G vs (ns.map D.str) → vs = ns.map V.str
  | _, [], .nil => rfl
  | _, n :: r, .cons (.str _) t => by rw [DtL.strs_inv r t]; rfl
theorem DtL.bls_inv : ∀ {vs : List V} (ns : List Bool), DtL K cn G vs (ns.map D.bl) → vs = ns.map V.bl
  | _, [], .nil => rfl
  | _, n :: r, .cons (.bl _) t => by rw [DtL.bls_inv r t]; rfl

/-! ### steps: G what one sees, H the whole -/
structure Stp (G H G' H' : Hp) : Prop where
  g : Same G G'
  h : Same H H'
  sub : Same G' H'
  fr : ∀ a, G' a ≠ none → G a ≠ none ∨ H a = none
variable {H H' G'' H'' : Hp}
theorem Stp.refl (s : Same G H) : Stp G H G H := ⟨Same.refl _, Same.refl _, s, fun _ h => .inl h⟩
theorem Stp.trans (a : Stp G H G' H') (b : Stp G' H' G'' H'') : Stp G H G'' H'' :=
  ⟨a.g.trans b.g, a.h.trans b.h, b.sub, fun x h => by
    rcases b.fr x h with h | h
    · exact a.fr x h
    · exact .inr (a.h.free h)⟩
theorem same_upd {p : Addr} {o : HO} (h : H p = none) : Same H (upd H p o) := fun b x e => by
  rw [upd_ne (ne_of_none e h)]
  exact e
theorem same_upd2 {p : Addr} {o : HO} (s : Same G H) (h : G p = none) : Same G (upd H p o) := fun b x e => by
  rw [upd_ne (ne_of_none e h)]
  exact s b x e
/-- a new object that one sees -/
theorem Stp.new {p : Addr} {o : HO} (s : Same G H) (h : H p = none) : Stp G H (upd G p o) (upd H p o) :=
  ⟨same_upd (s.free h), same_upd h, fun b x e => by
    by_cases q : b = p
    · subst q; rw [upd_same] at e ⊢; exact e
    · rw [upd_ne q] at e ⊢; exact s b x e, fun a e => by
    by_cases q : a = p
    · subst q; exact .inr h
    · rw [upd_ne q] at e; exact .inl e⟩
/-- a new object that one does not see yet -/
theorem Stp.hid {p : Addr} {o : HO} (s : Same G H) (h : H p = none) : Stp G H G (upd H p o) :=
  ⟨Same.refl _, same_upd h, same_upd2 s (s.free h), fun _ h => .inl h⟩

/-- what stands at p: the top of the data d; the rest is seen -/
def Top (K : PySem.W.Frag) (cn : Cn) (G H : Hp) (p : Addr) : D → Prop
  | .lst ds => ∃ vs, H p = some (.lst vs) ∧ DtL K cn G vs ds
  | .tup ds => ∃ vs, H p = some (.tup vs) ∧ DtL K cn G vs ds
  | .dct dks => ∃ kvs, H p = some (.dK kvs) ∧ kvs.map (·.1) = dks.map (·.1) ∧ DtL K cn G (kvs.map (·.2)) (dks.map (·.2))
  | .ins c dfs => ∃ dx fs, H p = some (.ins (cn c) dx fs) ∧ fs.map (·.1) = dfs.map (·.1) ∧ DtL K cn G (fs.map (·.2)) (dfs.map (·.2))
  | _ => False
theorem Top.same {p : Addr} {d : D} (eg : Same G G') (eh : ∀ o, H p = some o → H' p = some o) (h : Top K cn G H p d) : Top K cn G' H' p d := by
  cases d with
  | lst ds => obtain ⟨vs, h1, h2⟩ := h; exact ⟨vs, eh _ h1, DtL.same eg h2⟩
  | tup ds => obtain ⟨vs, h1, h2⟩ := h; exact ⟨vs, eh _ h1, DtL.same eg h2⟩
  | dct dks => obtain ⟨vs, h1, k, h2⟩ := h; exact ⟨vs, eh _ h1, k, DtL.same eg h2⟩
  | ins c dfs => obtain ⟨dx, vs, h1, k, h2⟩ := h; exact ⟨dx, vs, eh _ h1, k, DtL.same eg h2⟩
  | _ => exact h.elim
theorem Top.some {p : Addr} {d : D} (h : Top K cn G H p d) : ∃ o, H p = Option.some o := by
  cases d with
  | lst ds => obtain ⟨vs, h1, h2⟩ := h; exact ⟨_, h1⟩
  | tup ds => obtain ⟨vs, h1, h2⟩ := h; exact ⟨_, h1⟩
  | dct dks => obtain ⟨vs, h1, k, h2⟩ := h; exact ⟨_, h1⟩
  | ins c dfs => obtain ⟨dx, vs, h1, k, h2⟩ := h; exact ⟨_, h1⟩
  | _ => exact h.elim
/-- a dict -/
def D.isDct : D → Bool
  | .dct _ => true
  | _ => false
theorem Top.dt {p : Addr} {d : D} (nd : d.isDct = false) (h : Top K cn G H p d) (s : Same G G') (e : ∀ o, H p = Option.some o → G' p = Option.some o) : Dt K cn G' (.ref p) d := by
  cases d with
  | lst ds => obtain ⟨vs, h1, h2⟩ := h; exact .lst (e _ h1) (h2.same s)
  | tup ds => obtain ⟨vs, h1, h2⟩ := h; exact .tup (e _ h1) (h2.same s)
  | dct dks => cases nd
  | ins c dfs => obtain ⟨dx, vs, h1, k, h2⟩ := h; exact .ins (e _ h1) k (h2.same s)
  | _ => exact h.elim

/-- .. for reading: a dict may be locked -/
def TopR (K : PySem.W.Frag) (cn : Cn) (G H : Hp) (p : Addr) : D → Prop
  | .lst ds => ∃ vs, H p = some (.lst vs) ∧ DtL K cn G vs ds
  | .tup ds => ∃ vs, H p = some (.tup vs) ∧ DtL K cn G vs ds
  | .dct dks => ∃ kvs, Rd H p (.dK kvs) ∧ kvs.map (·.1) = dks.map (·.1) ∧ DtL K cn G (kvs.map (·.2)) (dks.map (·.2))
  | .ins c dfs => ∃ dx fs, H p = some (.ins (cn c) dx fs) ∧ fs.map (·.1) = dfs.map (·.1) ∧ DtL K cn G (fs.map (·.2)) (dfs.map (·.2))
  | _ => False
theorem Top.r {p : Addr} {d : D} (h : Top K cn G H p d) : TopR K cn G H p d := by
  cases d with
  | dct dks => obtain ⟨vs, h1, k, h2⟩ := h; exact ⟨vs, .inl h1, k, h2⟩
  | _ => exact h
theorem TopR.same {p : Addr} {d : D} (eg : Same G G') (eh : ∀ o, H p = some o → H' p = some o) (h : TopR K cn G H p d) : TopR K cn G' H' p d := by
  cases d with
  | lst ds => obtain ⟨vs, h1, h2⟩ := h; exact ⟨vs, eh _ h1, DtL.same eg h2⟩
  | tup ds => obtain ⟨vs, h1, h2⟩ := h; exact ⟨vs, eh _ h1, DtL.same eg h2⟩
  | dct dks =>
    obtain ⟨vs, h1, k, h2⟩ := h
    refine ⟨vs, ?_, k, DtL.same eg h2⟩
    rcases h1 with h1 | ⟨o, h1⟩
    · exact .inl (eh _ h1)
    · exact .inr ⟨o, eh _ h1⟩
  | ins c dfs => obtain ⟨dx, vs, h1, k, h2⟩ := h; exact ⟨dx, vs, eh _ h1, k, DtL.same eg h2⟩
  | _ => exact h.elim
theorem TopR.some {p : Addr} {d : D} (h : TopR K cn G H p d) : ∃ o, H p = Option.some o := by
  cases d with
  | lst ds => obtain ⟨vs, h1, h2⟩ := h; exact ⟨_, h1⟩
  | tup ds => obtain ⟨vs, h1, h2⟩ := h; exact ⟨_, h1⟩
  | dct dks =>
    obtain ⟨vs, h1, k, h2⟩ := h
    rcases h1 with h1 | ⟨o, h1⟩
    · exact ⟨_, h1⟩
    · exact ⟨_, h1⟩
  | ins c dfs => obtain ⟨dx, vs, h1, k, h2⟩ := h; exact ⟨_, h1⟩
  | _ => exact h.elim
theorem TopR.dt {p : Addr} {d : D} (nd : d.isDct = false) (h : TopR K cn G H p d) (s : Same G G') (e : ∀ o, H p = Option.some o → G' p = Option.some o) : Dt K cn G' (.ref p) d := by
  cases d with
  | lst ds => obtain ⟨vs, h1, h2⟩ := h; exact .lst (e _ h1) (h2.same s)
  | tup ds => obtain ⟨vs, h1, h2⟩ := h; exact .tup (e _ h1) (h2.same s)
  | dct dks => cases nd
  | ins c dfs => obtain ⟨dx, vs, h1, k, h2⟩ := h; exact .ins (e _ h1) k (h2.same s)
  | _ => exact h.elim
/-- what may be read as d: seen, or its top is there -/
def DB (K : PySem.W.Frag) (cn : Cn) (G H : Hp) (v : V) (d : D) : Prop := Dt K cn G v d ∨ ∃ p, v = .ref p ∧ G p = none ∧ TopR K cn G H p d
/-- a thing that nobody else holds keeps its top -/
theorem own_step {p : Addr} {d : D} (s : Stp G H G' H') (n : G p = none) (t : Top K cn G H p d) : G' p = none ∧ Top K cn G' H' p d := by
  refine ⟨?_, t.same s.g fun o q => s.h _ _ q⟩
  cases q : G' p with
  | none => rfl
  | some o =>
    rcases s.fr p (by rw [q]; simp) with z | z
    · exact absurd n z
    · obtain ⟨o', e'⟩ := t.some
      rw [z] at e'; cases e'
theorem DB.step {v : V} {d : D} (s : Stp G H G' H') (h : DB K cn G H v d) : DB K cn G' H' v d := by
  rcases h with h | ⟨p, e, n, t⟩
  · exact .inl (h.same s.g)
  · refine .inr ⟨p, e, ?_, t.same s.g fun o q => s.h _ _ q⟩
    cases q : G' p with
    | none => rfl
    | some o =>
      rcases s.fr p (by rw [q]; simp) with z | z
      · exact absurd n z
      · obtain ⟨o', e'⟩ := t.some
        rw [z] at e'; cases e'

/-- shared (seen) | new (nobody else's) | borrowed (a local's own) -/
inductive Kd where
  | sh | nw | bo
  deriving DecidableEq
def VI (K : PySem.W.Frag) (cn : Cn) (H G' H' : Hp) : Kd → V → D → Prop
  | .sh, v, d => Dt K cn G' v d
  | .nw, v, d => ∃ p, v = .ref p ∧ H p = none ∧ G' p = none ∧ Top K cn G' H' p d
  | .bo, v, d => ∃ p, v = .ref p ∧ G' p = none ∧ Top K cn G' H' p d
theorem VI.db {k : Kd} {v : V} {d : D} (h : VI K cn H G' H' k v d) : DB K cn G' H' v d := by
  cases k with
  | sh => exact .inl h
  | nw => obtain ⟨p, e, _, n, t⟩ := h; exact .inr ⟨p, e, n, t.r⟩
  | bo => obtain ⟨p, e, n, t⟩ := h; exact .inr ⟨p, e, n, t.r⟩
/-- a new thing is shown -/
theorem VI.sh {v : V} {d : D} (nd : d.isDct = false) (s : Stp G H G' H') (h : VI K cn H G' H' .nw v d) : ∃ G2, Stp G H G2 H' ∧ Dt K cn G2 v d := by
  obtain ⟨p, rfl, hn, gn, t⟩ := h
  obtain ⟨o, ho⟩ := t.some
  have sg : Same G' (upd G' p o) := same_upd gn
  refine ⟨upd G' p o, ⟨s.g.trans sg, s.h, fun b x e => ?_, fun a e => ?_⟩, t.dt nd sg fun o' q => ?_⟩
  · by_cases q : b = p
    · subst q; rw [upd_same] at e; cases e; exact ho
    · rw [upd_ne q] at e; exact s.sub b x e
  · by_cases q : a = p
    · subst q; exact .inr hn
    · rw [upd_ne q] at e; exact s.fr a e
  · rw [upd_same, ← ho, q]
/-- a new dict is shown: locked for good -/
theorem VI.lk {v : V} {dks : List (Key × D)} (s : Stp G H G' H') (h : VI K cn H G' H' .nw v (.dct dks)) : ∃ p kvs, v = .ref p ∧ H' p = some (.dK kvs) ∧ ∀ od, ∃ G2, Stp G H G2 (upd H' p (.frz od (.dK kvs))) ∧ Dt K cn G2 v (.dct dks) := by
  obtain ⟨p, rfl, hn, gn, kvs, hp, hk, t⟩ := h
  refine ⟨p, kvs, rfl, hp, fun od => ?_⟩
  have sg : Same G' (upd G' p (.frz od (.dK kvs))) := same_upd gn
  refine ⟨upd G' p (.frz od (.dK kvs)), ⟨s.g.trans sg, fun b x e => ?_, fun b x e => ?_, fun a e => ?_⟩, .dct upd_same hk (t.same sg)⟩
  · by_cases q : b = p
    · subst q; rw [hn] at e; cases e
    · rw [upd_ne q]; exact s.h b x e
  · by_cases q : b = p
    · subst q; rw [upd_same] at e ⊢; exact e
    · rw [upd_ne q] at e ⊢; exact s.sub b x e
  · by_cases q : a = p
    · subst q; exact .inr hn
    · rw [upd_ne q] at e; exact s.fr a e

/-! ### what an expression gives -/
inductive R where
  | val (k : Kd) (d : D)
  | er (c : Nat) (d : D)
/-- a local's data: shared, or its own (a list, a dict, an instance that it alone holds) -/
inductive Sl where
  | sh (d : D)
  | ow (d : D)
  /-- the exception that is handled -/
  | exc
abbrev En := List (Option Sl)
def SlotR (K : PySem.W.Frag) (cn : Cn) (G H : Hp) (σ : L2.St) (i : Nat) : Sl → Prop
  | .sh d => ∃ v, σ[i]? = some (some v) ∧ Dt K cn G v d
  | .ow d => ∃ p, σ[i]? = some (some (.ref p)) ∧ G p = none ∧ Top K cn G H p d
  | .exc => ∃ a, σ[i]? = some (some (.ref a)) ∧ cn.c.x = some a
structure SR (K : PySem.W.Frag) (cn : Cn) (G H : Hp) (σ : L2.St) (en : En) : Prop where
  sub : Same G H
  sl : ∀ i s, en[i]? = some (some s) → SlotR K cn G H σ i s
  len : en.length = σ.length
theorem SlotR.step {σ : L2.St} {i : Nat} {x : Sl} (s : Stp G H G' H') (h : SlotR K cn G H σ i x) : SlotR K cn G' H' σ i x := by
  cases x with
  | sh d => obtain ⟨v, e, h⟩ := h; exact ⟨v, e, h.same s.g⟩
  | ow d =>
    obtain ⟨p, e, n, t⟩ := h
    obtain ⟨n', t'⟩ := own_step s n t
    exact ⟨p, e, n', t'⟩
  | exc => exact h
theorem SR.step {σ : L2.St} {en : En} (s : Stp G H G' H') (h : SR K cn G H σ en) : SR K cn G' H' σ en := ⟨s.sub, fun i x e => (h.sl i x e).step s, h.len⟩

/-- the wish of an exception of the class c with the value d -/
def Xd : Str := "value"
def RQ (K : PySem.W.Frag) (cn : Cn) (G H : Hp) (Q : VK) (W : XK) : R → Prop
  | .val k d => ∀ v G' H', Stp G H G' H' → VI K cn H G' H' k v d → Q v H'
  | .er c d => ∀ dx v G' H', Stp G H G' H' → H' dx = some (.xd [(Xd, v)]) → Dt K cn G' v d → W (.ref (cn c)) (some dx) H'
theorem RQ.step {Q : VK} {W : XK} {r : R} (s : Stp G H G' H') (hv : ∀ k v d G2 H2, VI K cn H' G2 H2 k v d → VI K cn H G2 H2 k v d) (h : RQ K cn G H Q W r) : RQ K cn G' H' Q W r := by
  cases r with
  | val k d => exact fun v G2 H2 s2 q => h v G2 H2 (s.trans s2) (hv _ _ _ _ _ q)
  | er c d => exact fun dx v G2 H2 s2 q1 q2 => h dx v G2 H2 (s.trans s2) q1 q2
theorem VI.back {k : Kd} {v : V} {d : D} {G2 H2 : Hp} (s : Same H H') (h : VI K cn H' G2 H2 k v d) : VI K cn H G2 H2 k v d := by
  cases k with
  | sh => exact h
  | nw => obtain ⟨p, e, hn, gn, t⟩ := h; exact ⟨p, e, s.free hn, gn, t⟩
  | bo => exact h
theorem RQ.on {Q : VK} {W : XK} {r : R} (s : Stp G H G' H') (h : RQ K cn G H Q W r) : RQ K cn G' H' Q W r := RQ.step s (fun _ _ _ _ _ q => q.back s.h) h
end

/-- the reading of an expression by its data function -/
def tD (K : PySem.W.Frag) (cn : Cn) (W : WX) (f : En → Option R) : TE := fun σ H Q => ∃ G en r, SR K cn G H σ en ∧ f en = some r ∧ RQ K cn G H Q (fun c d H' => W c d σ H') r
/-- a test -/
inductive RB where
  | b (b : Bool)
  | er (c : Nat) (d : D)
def BQ (K : PySem.W.Frag) (cn : Cn) (G H : Hp) (Q : Bool → Hp → Prop) (W : XK) : RB → Prop
  | .b b => ∀ G' H', Stp G H G' H' → Q b H'
  | .er c d => ∀ dx v G' H', Stp G H G' H' → H' dx = some (.xd [(Xd, v)]) → Dt K cn G' v d → W (.ref (cn c)) (some dx) H'
def tT (K : PySem.W.Frag) (cn : Cn) (W : WX) (f : En → Option RB) : TT := fun σ H Q => ∃ G en r, SR K cn G H σ en ∧ f en = some r ∧ BQ K cn G H Q (fun c d H' => W c d σ H') r
/-- arguments: all seen -/
inductive RA where
  | vals (ds : List D)
  | er (c : Nat) (d : D)
def AQ (K : PySem.W.Frag) (cn : Cn) (G H : Hp) (Q : List V → Hp → Prop) (W : XK) : RA → Prop
  | .vals ds => ∀ vs G' H', Stp G H G' H' → DtL K cn G' vs ds → Q vs H'
  | .er c d => ∀ dx v G' H', Stp G H G' H' → H' dx = some (.xd [(Xd, v)]) → Dt K cn G' v d → W (.ref (cn c)) (some dx) H'
def tA (K : PySem.W.Frag) (cn : Cn) (W : WX) (f : En → Option RA) : TA := fun σ H Q => ∃ G en r, SR K cn G H σ en ∧ f en = some r ∧ AQ K cn G H Q (fun c d H' => W c d σ H') r

/-- the judgements -/
abbrev DE (X : Cx) (cn : Cn) (W : WX) (e : Expr) (f : En → Option R) : Prop := PE X e (tD X.K cn W f)
abbrev DT (X : Cx) (cn : Cn) (W : WX) (e : Expr) (f : En → Option RB) : Prop := PT X e (tT X.K cn W f)
abbrev DW (X : Cx) (cn : Cn) (W : WX) (e : Expr) (f : En → Option RB) : Prop := PW X e (tT X.K cn W f)
abbrev DA (X : Cx) (cn : Cn) (W : WX) (es : List Expr) (f : En → Option RA) : Prop := PA X es (tA X.K cn W f)

theorem PE.imp {X : Cx} {e : Expr} {t u : TE} (h : PE X e t) (i : ∀ σ H Q, u σ H Q → t σ H Q) : PE X e u := ⟨fun pins s σ H Q I q => h.run pins s σ H Q I (i σ H Q q)⟩
theorem PT.imp {X : Cx} {e : Expr} {t u : TT} (h : PT X e t) (i : ∀ σ H Q, u σ H Q → t σ H Q) : PT X e u := ⟨fun pins s σ H Q I q => h.run pins s σ H Q I (i σ H Q q)⟩
theorem PW.imp {X : Cx} {e : Expr} {t u : TT} (h : PW X e t) (i : ∀ σ H Q, u σ H Q → t σ H Q) : PW X e u := ⟨fun wh pins s σ H Q I q => h.run wh pins s σ H Q I (i σ H Q q)⟩
theorem PA.imp {X : Cx} {es : List Expr} {t u : TA} (h : PA X es t) (i : ∀ σ H Q, u σ H Q → t σ H Q) : PA X es u := ⟨fun pos pins s σ H Q I q => h.run pos pins s σ H Q I (i σ H Q q)⟩
theorem PS.imp {X : Cx} {st : Stmt} {t u : TS} (h : PS X st t) (i : ∀ E σ H, u E σ H → t E σ H) : PS X st u := ⟨fun pins s σ H E I q => h.run pins s σ H E I (i E σ H q)⟩
theorem PSs.imp {X : Cx} {st : List Stmt} {t u : TS} (h : PSs X st t) (i : ∀ E σ H, u E σ H → t E σ H) : PSs X st u := ⟨fun pins s σ H E I q => h.run pins s σ H E I (i E σ H q)⟩
end PD
/-! PD2: expressions by their data functions: names, constants, operators, truth, displays. -/
namespace PD
open PySem L2

/-! ### reading data back -/
section
variable {K : PySem.W.Frag} {cn : Cn} {G H : Hp} {v : V}
theorem DB.non (h : DB K cn G H v .non) : v = .non := by
  rcases h with h | ⟨p, _, _, t⟩
  · cases h; rfl
  · exact t.elim
theorem DB.bl {b : Bool} (h : DB K cn G H v (.bl b)) : v = .bl b := by
  rcases h with h | ⟨p, _, _, t⟩
  · cases h; rfl
  · exact t.elim
theorem DB.int {b : Int} (h : DB K cn G H v (.int b)) : v = .int b := by
  rcases h with h | ⟨p, _, _, t⟩
  · cases h; rfl
  · exact t.elim
theorem DB.str {b : Str} (h : DB K cn G H v (.str b)) : v = .str b := by
  rcases h with h | ⟨p, _, _, t⟩
  · cases h; rfl
  · exact t.elim
theorem DB.ty {b : String} (h : DB K cn G H v (.ty b)) : v = .ty b := by
  rcases h with h | ⟨p, _, _, t⟩
  · cases h; rfl
  · exact t.elim
theorem DB.scr (s : Same G H) {ns : List Int} (h : DB K cn G H v (.scr ns)) : ∃ p, v = .ref p ∧ SqL K H p (ns.map V.int) := by
  rcases h with h | ⟨p, _, _, t⟩
  · cases h with
    | scr h => exact ⟨_, rfl, s.seq h⟩
  · exact t.elim
theorem DB.lst (s : Same G H) {ds : List D} (h : DB K cn G H v (.lst ds)) : ∃ p vs, v = .ref p ∧ H p = some (.lst vs) ∧ DtL K cn G vs ds := by
  rcases h with h | ⟨p, e, _, t⟩
  · cases h with
    | lst h t => exact ⟨_, _, rfl, s _ _ h, t⟩
  · obtain ⟨vs, h, t⟩ := t
    exact ⟨p, vs, e, h, t⟩
theorem DB.tupS (s : Same G H) {ds : List D} (h : DB K cn G H v (.tup ds)) : ∃ p vs, v = .ref p ∧ H p = some (.tup vs) ∧ DtL K cn G vs ds := by
  rcases h with h | ⟨p, e, _, t⟩
  · cases h with
    | tup h t => exact ⟨_, _, rfl, s _ _ h, t⟩
  · obtain ⟨vs, h, t⟩ := t
    exact ⟨p, vs, e, h, t⟩
theorem DB.tup (s : Same G H) {ds : List D} (h : DB K cn G H v (.tup ds)) : ∃ p vs, v = .ref p ∧ SqT K H p vs ∧ DtL K cn G vs ds :=
  let ⟨p, vs, e, h1, t⟩ := h.tupS s
  ⟨p, vs, e, SqT.of h1, t⟩
theorem DB.dct (s : Same G H) {dks : List (Key × D)} (h : DB K cn G H v (.dct dks)) : ∃ p kvs, v = .ref p ∧ Rd H p (.dK kvs) ∧ kvs.map (·.1) = dks.map (·.1) ∧ DtL K cn G (kvs.map (·.2)) (dks.map (·.2)) := by
  rcases h with h | ⟨p, e, _, t⟩
  · cases h with
    | dct h k t => exact ⟨_, _, rfl, .inr ⟨_, s _ _ h⟩, k, t⟩
  · obtain ⟨vs, h, k, t⟩ := t
    exact ⟨p, vs, e, h, k, t⟩
theorem DB.ins (s : Same G H) {c : Nat} {dfs : List (Str × D)} (h : DB K cn G H v (.ins c dfs)) : ∃ p dx fs, v = .ref p ∧ H p = some (.ins (cn c) dx fs) ∧ fs.map (·.1) = dfs.map (·.1) ∧ DtL K cn G (fs.map (·.2)) (dfs.map (·.2)) := by
  rcases h with h | ⟨p, e, _, t⟩
  · cases h with
    | ins h k t => exact ⟨_, _, _, rfl, s _ _ h, k, t⟩
  · obtain ⟨dx, vs, h, k, t⟩ := t
    exact ⟨p, dx, vs, e, h, k, t⟩
end

/-! ### results -/
def bR (a : Option R) (k : D → Option R) : Option R := match a with
  | some (.val _ d) => k d
  | some (.er c d) => some (.er c d)
  | none => none
/-- it must be seen afterwards: not a local's own -/
def shr : Option R → Option R
  | some (.val .bo _) => none
  | some (.val _ d) => some (.val .sh d)
  | some (.er c d) => some (.er c d)
  | none => none
section
variable {K : PySem.W.Frag} {cn : Cn} {W : WX} {G H : Hp} {σ : L2.St} {en : En} {f : En → Option R} {Q T : VK}
theorem ev_bind {k : D → Option R} {r : R} (sr : SR K cn G H σ en) (e : bR (f en) k = some r) (q : RQ K cn G H Q (fun c d H' => W c d σ H') r)
    (cont : ∀ v d G1 H1, Stp G H G1 H1 → SR K cn G1 H1 σ en → DB K cn G1 H1 v d → k d = some r → RQ K cn G1 H1 Q (fun c d H' => W c d σ H') r → T v H1) : tD K cn W f σ H T := by
  cases hf : f en with
  | none => rw [hf] at e; cases e
  | some a =>
    rw [hf] at e
    refine ⟨G, en, a, sr, hf, ?_⟩
    cases a with
    | val kd d => exact fun v G1 H1 st vi => cont v d G1 H1 st (sr.step st) vi.db e (q.on st)
    | er c d => cases e; exact q
/-- a value, shown (a new dict is locked for good) -/
def tZ (K : PySem.W.Frag) (cn : Cn) (W : WX) (f : En → Option R) : TE := fun σ H T => ∃ G en r, SR K cn G H σ en ∧ f en = some r ∧ match r with
  | .val .bo _ => False
  | .val _ d => ∀ v G1 H1, Stp G H G1 H1 → Dt K cn G1 v d → T v H1
  | .er c d => ∀ dx v G' H', Stp G H G' H' → H' dx = some (.xd [(Xd, v)]) → Dt K cn G' v d → W (.ref (cn c)) (some dx) σ H'
theorem de_z {X : Cx} {cn : Cn} {W : WX} {e : Expr} {f : En → Option R} (h : PE X e (tD X.K cn W f)) : PE X e (tZ X.K cn W f) := by
  refine ⟨fun pins s σ H T I hz => ?_⟩
  obtain ⟨G, en, r, sr, e1, q⟩ := hz
  refine thn (h.run pins s σ H (fun v H1 => T v H1 ∨ ∃ p kvs, v = .ref p ∧ H1 p = some (.dK kvs) ∧ ∀ od, T v (upd H1 p (.frz od (.dK kvs)))) I ⟨G, en, r, sr, e1, ?_⟩) fun u s1 ⟨x, H1, I1, rx, q1⟩ => ?_
  · cases r with
    | er c d => exact q
    | val k d =>
      cases k with
      | sh => exact fun v G1 H1 st vi => .inl (q v G1 H1 st vi)
      | bo => exact q.elim
      | nw =>
        intro v G1 H1 st vi
        cases hd : d.isDct with
        | false =>
          obtain ⟨G2, st2, h2⟩ := vi.sh hd st
          exact .inl (q v G2 H1 st2 h2)
        | true =>
          cases d with
          | dct dks =>
            obtain ⟨p, kvs, e2, hp, all⟩ := vi.lk st
            refine .inr ⟨p, kvs, e2, hp, fun od => ?_⟩
            obtain ⟨G2, st2, h2⟩ := all od
            exact q v G2 _ st2 h2
          | _ => cases hd
  · rcases q1 with q1 | ⟨p, kvs, ex, hp, q1⟩
    · exact ⟨x, H1, I1, rx, q1⟩
    · obtain ⟨od, I2⟩ := I1.lock hp True.intro
      exact ⟨x, _, I2, rx, q1 od⟩
/-- .. for tests, for arguments -/
def bB (a : Option R) (k : D → Option RB) : Option RB := match a with
  | some (.val _ d) => k d
  | some (.er c d) => some (.er c d)
  | none => none
end
theorem BQ.on {K : PySem.W.Frag} {cn : Cn} {G H G1 H1 : Hp} {Q : Bool → Hp → Prop} {W : XK} {r : RB} (st : Stp G H G1 H1) (q : BQ K cn G H Q W r) : BQ K cn G1 H1 Q W r := by
  cases r with
  | b b => exact fun G2 H2 s2 => q G2 H2 (st.trans s2)
  | er c d => exact fun dx v G2 H2 s2 => q dx v G2 H2 (st.trans s2)
theorem AQ.on {K : PySem.W.Frag} {cn : Cn} {G H G1 H1 : Hp} {Q : List V → Hp → Prop} {W : XK} {r : RA} (st : Stp G H G1 H1) (q : AQ K cn G H Q W r) : AQ K cn G1 H1 Q W r := by
  cases r with
  | vals ds => exact fun vs G2 H2 s2 => q vs G2 H2 (st.trans s2)
  | er c d => exact fun dx v G2 H2 s2 => q dx v G2 H2 (st.trans s2)

/-! ### names, constants -/
def fVar (i : Nat) : En → Option R := fun en => match en[i]? with
  | some (some (.sh d)) => some (.val .sh d)
  | some (some (.ow d)) => some (.val .bo d)
  | _ => none
def fC (d : D) : En → Option R := fun _ => some (.val .sh d)
section
variable {X : Cx} {cn : Cn} {W : WX} {a b c : Expr} {fa fb fc : En → Option R} {pos : Pos}
theorem de_var {i : Nat} {e : Expr} (h : PE X e (tVar i)) : DE X cn W e (fVar i) := PE.imp h fun σ H Q ⟨G, en, r, sr, e, q⟩ => by
  unfold fVar at e
  split at e
  · rename_i d hs
    cases e
    obtain ⟨v, e1, h1⟩ := sr.sl i _ hs
    exact ⟨v, e1, q v G H (Stp.refl sr.sub) h1⟩
  · rename_i d hs
    cases e
    obtain ⟨p, e1, h1, h2⟩ := sr.sl i _ hs
    exact ⟨.ref p, e1, q (.ref p) G H (Stp.refl sr.sub) ⟨p, rfl, h1, h2⟩⟩
  · cases e
theorem de_c {v : V} {d : D} {e : Expr} (h : PE X e (tC v)) (hd : ∀ G, Dt X.K cn G v d) : DE X cn W e (fC d) := PE.imp h fun σ H Q ⟨G, en, r, sr, e, q⟩ => by
  cases e
  exact q v G H (Stp.refl sr.sub) (hd G)
theorem de_int {i j} : DE X cn W (.Constant (.int i) j pos) (fC (.int i)) := de_c pe_int fun _ => .int i
theorem de_str {i j} : DE X cn W (.Constant (.str i) j pos) (fC (.str i)) := de_c pe_str fun _ => .str i
theorem de_bl {i j} : DE X cn W (.Constant (.bool i) j pos) (fC (.bl i)) := de_c pe_bl fun _ => .bl i
theorem de_non {j} : DE X cn W (.Constant .none j pos) (fC .non) := de_c pe_non fun _ => .non

/-! ### operators -/
def rD2 (K : PySem.W.Frag) (cn : Cn) (g : D → D → Option (Kd × D)) : R2 := fun x y H Q => ∃ G dx dy k d, Same G H ∧ DB K cn G H x dx ∧ DB K cn G H y dy ∧ g dx dy = some (k, d) ∧ ∀ v G' H', Stp G H G' H' → VI K cn H G' H' k v d → Q v H'
def rD1 (K : PySem.W.Frag) (cn : Cn) (g : D → Option (Kd × D)) : V → Hp → VK → Prop := fun x H Q => ∃ G dx k d, Same G H ∧ DB K cn G H x dx ∧ g dx = some (k, d) ∧ ∀ v G' H', Stp G H G' H' → VI K cn H G' H' k v d → Q v H'
def lf : Option (Kd × D) → Option R
  | some (k, d) => some (.val k d)
  | none => none
theorem lf_some {o : Option (Kd × D)} {r : R} (h : lf o = some r) : ∃ k d, o = some (k, d) ∧ r = .val k d := by
  unfold lf at h
  split at h
  · cases h; exact ⟨_, _, rfl, rfl⟩
  · cases h
def fOp (g : D → D → Option (Kd × D)) (fa fb : En → Option R) : En → Option R := fun en => bR (fa en) fun x => bR (fb en) fun y => lf (g x y)
def fUn (g : D → Option (Kd × D)) (fa : En → Option R) : En → Option R := fun en => bR (fa en) fun x => lf (g x)
theorem tOp_of {g : D → D → Option (Kd × D)} {σ : L2.St} {H : Hp} {Q : VK} (h : tD X.K cn W (fOp g fa fb) σ H Q) : tOp (rD2 X.K cn g) (tD X.K cn W fa) (tD X.K cn W fb) σ H Q := by
  obtain ⟨G, en, r, sr, e, q⟩ := h
  refine ev_bind sr e q fun x dx G1 H1 s1 sr1 hx e1 q1 => ?_
  refine ev_bind sr1 e1 q1 fun y dy G2 H2 s2 sr2 hy e2 q2 => ?_
  obtain ⟨k, d, e3, rfl⟩ := lf_some e2
  exact ⟨G2, dx, dy, k, d, sr2.sub, hx.step s2, hy, e3, q2⟩
theorem de_op {op : Operator} {g : D → D → Option (Kd × D)} (ho : OpR X (binaryOp op) (rD2 X.K cn g)) (ha : DE X cn W a fa) (hb : DE X cn W b fb) : DE X cn W (.BinOp a op b pos) (fOp g fa fb) :=
  PE.imp (pe_op ho ha hb) fun _ _ _ h => tOp_of h
theorem de_un {op : UnaryOp} {g : D → Option (Kd × D)} (ho : UnR X (unaryOp op) (rD1 X.K cn g)) (ha : DE X cn W a fa) : DE X cn W (.UnaryOp op a pos) (fUn g fa) :=
  PE.imp (pe_un ho ha) fun σ H Q ⟨G, en, r, sr, e, q⟩ => ev_bind sr e q fun x dx G1 H1 s1 sr1 hx e1 q1 => by
    obtain ⟨k, d, e3, rfl⟩ := lf_some e1
    exact ⟨G1, dx, k, d, sr1.sub, hx, e3, q1⟩
theorem de_cmp {op : CmpOp} {g : D → D → Option (Kd × D)} (ho : OpR X (compareOp op) (rD2 X.K cn g)) (ha : DE X cn W a fa) (hb : DE X cn W b fb) (hm : behindInMarks op b = false) : DE X cn W (.Compare a [op] [b] pos) (fOp g fa fb) :=
  PE.imp (pe_cmpR ho ha hb hm) fun _ _ _ h => tOp_of h
/-- a result that is a bool, as a test -/
def tB1 : Option R → Option RB
  | some (.val _ (.bl b)) => some (.b b)
  | some (.er c d) => some (.er c d)
  | _ => none
theorem tTest_of {f : En → Option R} {t : TE} {σ : L2.St} {H : Hp} {Q : Bool → Hp → Prop} (h : tT X.K cn W (fun en => tB1 (f en)) σ H Q) (i : ∀ Q, tD X.K cn W f σ H Q → t σ H Q) : tTest t σ H Q := by
  obtain ⟨G, en, r, sr, e, q⟩ := h
  replace e : tB1 (f en) = some r := e
  refine i _ ?_
  cases hf : f en with
  | none => rw [hf] at e; cases e
  | some a =>
    rw [hf] at e
    refine ⟨G, en, a, sr, hf, ?_⟩
    cases a with
    | val kd d =>
      cases d with
      | bl b =>
        cases e
        exact fun v G1 H1 st vi => ⟨b, (vi.db).bl, q G1 H1 st⟩
      | _ => cases e
    | er c d => cases e; exact q
theorem dt_cmp {op : CmpOp} {g : D → D → Option (Kd × D)} (ho : OpR X (compareOp op) (rD2 X.K cn g)) (ha : DE X cn W a fa) (hb : DE X cn W b fb) (hm : behindInMarks op b = false) : DT X cn W (.Compare a [op] [b] pos) (fun en => tB1 (fOp g fa fb en)) :=
  PT.imp (pt_cmpR ho ha hb hm) fun _ _ _ h => tTest_of h fun _ h => tOp_of h
/-- a < b < c -/
def fChain (g g' : D → D → Option (Kd × D)) (fa fb fc : En → Option R) : En → Option R := fun en => bR (fa en) fun x => bR (fb en) fun y => match g x y with
  | some (_, .bl true) => bR (fc en) fun z => lf (g' y z)
  | some (_, .bl false) => some (.val .sh (.bl false))
  | _ => none
end
end PD
/-! PD3: truth, and, or, not, if; arguments, displays, calls. -/
namespace PD
open PySem L2
section
variable {X : Cx} {cn : Cn} {W : WX} {a b c e : Expr} {fa fb fc f : En → Option R} {ta tb : En → Option RB} {pos : Pos} {rest es : List Expr}

/-! ### truth -/
def truD : D → Option Bool
  | .non => some false
  | .bl b => some b
  | .int i => some (i != 0)
  | .str x => if x.length ≤ 16777216 then some ((x.length : Int) != 0) else none
  | .lst xs => some (!xs.isEmpty)
  | .tup xs => some (!xs.isEmpty)
  | .scr xs => some (!xs.isEmpty)
  | _ => none
def truR : Option R → Option RB
  | some (.val _ d) => (truD d).map .b
  | some (.er c d) => some (.er c d)
  | none => none
theorem DtL.isEmpty {K : PySem.W.Frag} {G : Hp} {vs : List V} {ds : List D} (h : DtL K cn G vs ds) : vs.isEmpty = ds.isEmpty := by cases h <;> rfl
theorem tru_of {K : PySem.W.Frag} {G H : Hp} {v : V} {d : D} {b : Bool} (s : Same G H) (h : DB K cn G H v d) (e : truD d = some b) : TruV K v H b := by
  cases d with
  | non => cases e; rw [h.non]; rfl
  | bl _ => cases e; rw [h.bl]; rfl
  | int _ => cases e; rw [h.int]; rfl
  | str x =>
    rw [h.str]
    replace e : (if x.length ≤ 16777216 then some ((x.length : Int) != 0) else none) = some b := e
    split at e
    · cases e
      rename_i hl
      exact ⟨by rw [sizeLine_eq]; exact hl, rfl⟩
    · cases e
  | lst ds =>
    obtain ⟨p, vs, rfl, hp, t⟩ := h.lst s
    cases e
    exact .inl ⟨vs, SqL.of hp, by rw [t.isEmpty]⟩
  | tup ds =>
    obtain ⟨p, vs, rfl, hp, t⟩ := h.tup s
    cases e
    exact .inr (.inl ⟨vs, hp, by rw [t.isEmpty]⟩)
  | scr ns =>
    obtain ⟨p, rfl, hp⟩ := h.scr s
    cases e
    exact .inl ⟨_, hp, by cases ns <;> rfl⟩
  | _ => cases e
theorem dt_tru (ha : DE X cn W a fa) (he : ∀ whole, isTrue a X.env whole = (do let v ← whole; standAt a.pos; holding [v] (truthy v)) := by intro _; rfl) : DT X cn W a (fun en => truR (fa en)) := by
  refine PT.imp (pt_truth ha he) ?_
  rintro σ H Q ⟨G, en, r, sr, e, q⟩
  replace e : truR (fa en) = some r := e
  cases hf : fa en with
  | none => rw [hf] at e; cases e
  | some a =>
    rw [hf] at e
    refine ⟨G, en, a, sr, hf, ?_⟩
    cases a with
    | val kd d =>
      obtain ⟨b, hb, rfl⟩ := Option.map_eq_some_iff.mp e
      exact fun v G1 H1 st vi => ⟨b, tru_of st.sub vi.db hb, q G1 H1 st⟩
    | er c d => cases e; exact q

/-! ### and, or, not, if -/
def fAndT (ta tb : En → Option RB) : En → Option RB := fun en => match ta en with
  | some (.b true) => tb en
  | some (.b false) => some (.b false)
  | some (.er c d) => some (.er c d)
  | none => none
def fOrT (ta tb : En → Option RB) : En → Option RB := fun en => match ta en with
  | some (.b false) => tb en
  | some (.b true) => some (.b true)
  | some (.er c d) => some (.er c d)
  | none => none
def fNotT (ta : En → Option RB) : En → Option RB := fun en => match ta en with
  | some (.b b) => some (.b (!b))
  | some (.er c d) => some (.er c d)
  | none => none
theorem dw_and1 (ha : DT X cn W a ta) : DW X cn W (.BoolOp .And [a] pos) ta := pw_and1 ha
theorem dw_or1 (ha : DT X cn W a ta) : DW X cn W (.BoolOp .Or [a] pos) ta := pw_or1 ha
theorem dw_and (ha : DT X cn W a ta) (hb : DW X cn W (.BoolOp .And (b :: rest) pos) tb) : DW X cn W (.BoolOp .And (a :: b :: rest) pos) (fAndT ta tb) := by
  refine PW.imp (pw_and ha hb) ?_
  rintro σ H Q ⟨G, en, r, sr, e, q⟩
  unfold fAndT at e
  cases hf : ta en with
  | none => rw [hf] at e; cases e
  | some x =>
    rw [hf] at e
    refine ⟨G, en, x, sr, hf, ?_⟩
    cases x with
    | b k =>
      intro G1 H1 st
      cases k with
      | true => rw [if_pos rfl]; exact ⟨G1, en, r, sr.step st, e, q.on st⟩
      | false => rw [if_neg Bool.false_ne_true]; cases e; exact q G1 H1 st
    | er c d => cases e; exact q
theorem dw_or (ha : DT X cn W a ta) (hb : DW X cn W (.BoolOp .Or (b :: rest) pos) tb) : DW X cn W (.BoolOp .Or (a :: b :: rest) pos) (fOrT ta tb) := by
  refine PW.imp (pw_or ha hb) ?_
  rintro σ H Q ⟨G, en, r, sr, e, q⟩
  unfold fOrT at e
  cases hf : ta en with
  | none => rw [hf] at e; cases e
  | some x =>
    rw [hf] at e
    refine ⟨G, en, x, sr, hf, ?_⟩
    cases x with
    | b k =>
      intro G1 H1 st
      cases k with
      | false => rw [if_neg Bool.false_ne_true]; exact ⟨G1, en, r, sr.step st, e, q.on st⟩
      | true => rw [if_pos rfl]; cases e; exact q G1 H1 st
    | er c d => cases e; exact q
theorem dt_w (h : DW X cn W a ta) : DT X cn W a ta := h.pt
theorem dt_not (ha : DT X cn W a ta) : DT X cn W (.UnaryOp .Not a pos) (fNotT ta) := by
  refine PT.imp (pt_not ha) ?_
  rintro σ H Q ⟨G, en, r, sr, e, q⟩
  unfold fNotT at e
  cases hf : ta en with
  | none => rw [hf] at e; cases e
  | some x =>
    rw [hf] at e
    refine ⟨G, en, x, sr, hf, ?_⟩
    cases x with
    | b k => cases e; exact fun G1 H1 st => q G1 H1 st
    | er c d => cases e; exact q
/-- as values: all but the last give bools -/
def fAndV (fa fb : En → Option R) : En → Option R := fun en => match fa en with
  | some (.val _ (.bl true)) => fb en
  | some (.val _ (.bl false)) => some (.val .sh (.bl false))
  | some (.er c d) => some (.er c d)
  | _ => none
def fOrV (fa fb : En → Option R) : En → Option R := fun en => match fa en with
  | some (.val _ (.bl false)) => fb en
  | some (.val _ (.bl true)) => some (.val .sh (.bl true))
  | some (.er c d) => some (.er c d)
  | _ => none
def fNotV (fa : En → Option R) : En → Option R := fun en => match fa en with
  | some (.val _ (.bl b)) => some (.val .sh (.bl (!b)))
  | some (.er c d) => some (.er c d)
  | _ => none
theorem de_one {op} (h : DE X cn W a fa) : DE X cn W (.BoolOp op [a] pos) fa := pe_one h
theorem de_and (ha : DE X cn W a fa) (hb : DE X cn W (.BoolOp .And (b :: rest) pos) fb) : DE X cn W (.BoolOp .And (a :: b :: rest) pos) (fAndV fa fb) := by
  refine PE.imp (pe_and ha hb) ?_
  rintro σ H Q ⟨G, en, r, sr, e, q⟩
  unfold fAndV at e
  cases hf : fa en with
  | none => rw [hf] at e; cases e
  | some x =>
    rw [hf] at e
    refine ⟨G, en, x, sr, hf, ?_⟩
    cases x with
    | val kd d =>
      intro v G1 H1 st vi
      cases d with
      | bl k =>
        refine ⟨k, (vi.db).bl, ?_⟩
        cases k with
        | true => rw [if_pos rfl]; exact ⟨G1, en, r, sr.step st, e, q.on st⟩
        | false => rw [if_neg Bool.false_ne_true]; cases e; exact q _ G1 H1 st (.bl false)
      | _ => cases e
    | er c d => cases e; exact q
theorem de_or (ha : DE X cn W a fa) (hb : DE X cn W (.BoolOp .Or (b :: rest) pos) fb) : DE X cn W (.BoolOp .Or (a :: b :: rest) pos) (fOrV fa fb) := by
  refine PE.imp (pe_or ha hb) ?_
  rintro σ H Q ⟨G, en, r, sr, e, q⟩
  unfold fOrV at e
  cases hf : fa en with
  | none => rw [hf] at e; cases e
  | some x =>
    rw [hf] at e
    refine ⟨G, en, x, sr, hf, ?_⟩
    cases x with
    | val kd d =>
      intro v G1 H1 st vi
      cases d with
      | bl k =>
        refine ⟨k, (vi.db).bl, ?_⟩
        cases k with
        | false => rw [if_neg Bool.false_ne_true]; exact ⟨G1, en, r, sr.step st, e, q.on st⟩
        | true => rw [if_pos rfl]; cases e; exact q _ G1 H1 st (.bl true)
      | _ => cases e
    | er c d => cases e; exact q
theorem de_not (ha : DE X cn W a fa) : DE X cn W (.UnaryOp .Not a pos) (fNotV fa) := by
  refine PE.imp (pe_not ha) ?_
  rintro σ H Q ⟨G, en, r, sr, e, q⟩
  unfold fNotV at e
  cases hf : fa en with
  | none => rw [hf] at e; cases e
  | some x =>
    rw [hf] at e
    refine ⟨G, en, x, sr, hf, ?_⟩
    cases x with
    | val kd d =>
      intro v G1 H1 st vi
      cases d with
      | bl k => cases e; exact ⟨k, (vi.db).bl, q _ G1 H1 st (.bl _)⟩
      | _ => cases e
    | er c d => cases e; exact q
def fIf (t : En → Option RB) (fa fb : En → Option R) : En → Option R := fun en => match t en with
  | some (.b true) => fa en
  | some (.b false) => fb en
  | some (.er c d) => some (.er c d)
  | none => none
theorem de_if (hc : DT X cn W c ta) (ha : DE X cn W a fa) (hb : DE X cn W b fb) : DE X cn W (.IfExp c a b pos) (fIf ta fa fb) := by
  refine PE.imp (pe_ifExp hc ha hb) ?_
  rintro σ H Q ⟨G, en, r, sr, e, q⟩
  unfold fIf at e
  cases hf : ta en with
  | none => rw [hf] at e; cases e
  | some x =>
    rw [hf] at e
    refine ⟨G, en, x, sr, hf, ?_⟩
    cases x with
    | b k =>
      intro G1 H1 st
      cases k with
      | true => rw [if_pos rfl]; exact ⟨G1, en, r, sr.step st, e, q.on st⟩
      | false => rw [if_neg Bool.false_ne_true]; exact ⟨G1, en, r, sr.step st, e, q.on st⟩
    | er c d => cases e; exact q

/-! ### arguments -/
def bA (a : Option RA) (k : List D → Option R) : Option R := match a with
  | some (.vals ds) => k ds
  | some (.er c d) => some (.er c d)
  | none => none
def fNil : En → Option RA := fun _ => some (.vals [])
def fCons (f : En → Option R) (t : En → Option RA) : En → Option RA := fun en => match shr (f en) with
  | some (.val _ d) => (match t en with
    | some (.vals ds) => some (.vals (d :: ds))
    | x => x)
  | some (.er c d) => some (.er c d)
  | none => none
variable {t : En → Option RA}
theorem da_nil : DA X cn W [] fNil := PA.imp pa_nil fun σ H Q ⟨G, en, r, sr, e, q⟩ => by
  cases e
  exact q [] G H (Stp.refl sr.sub) .nil
theorem tCons_of {σ : L2.St} {H : Hp} {Q : List V → Hp → Prop} (h : tA X.K cn W (fCons f t) σ H Q) : tCons (tZ X.K cn W f) (tA X.K cn W t) σ H Q := by
  obtain ⟨G, en, r, sr, e, q⟩ := h
  unfold fCons at e
  -- the first argument, seen
  have go : ∀ v d G1 H1, Stp G H G1 H1 → Dt X.K cn G1 v d → (match t en with | some (.vals ds) => some (RA.vals (d :: ds)) | x => x) = some r → tA X.K cn W t σ H1 fun xs H2 => Q (v :: xs) H2 := fun v d G1 H1 st h e => by
    cases ht : t en with
    | none => rw [ht] at e; cases e
    | some y =>
      rw [ht] at e
      refine ⟨G1, en, y, sr.step st, ht, ?_⟩
      cases y with
      | vals ds => cases e; exact fun vs G2 H2 s2 h2 => q (v :: vs) G2 H2 (st.trans s2) (.cons (h.same s2.g) h2)
      | er c d => cases e; exact fun dx v' G2 H2 s2 => q dx v' G2 H2 (st.trans s2)
  cases hf : f en with
  | none => rw [hf] at e; cases e
  | some x =>
    rw [hf] at e
    refine ⟨G, en, x, sr, hf, ?_⟩
    cases x with
    | val kd d =>
      cases kd with
      | sh => exact fun v G1 H1 st vi => go v d G1 H1 st vi e
      | nw => exact fun v G1 H1 st vi => go v d G1 H1 st vi e
      | bo => cases e
    | er c d => cases e; exact q
theorem da_cons (ha : DE X cn W e f) (hr : DA X cn W es t) (hs : starEach (e :: es) X.env = (false, eval e X.env) :: starEach es X.env := by rfl) : DA X cn W (e :: es) (fCons f t) := PA.imp (pa_cons (de_z ha) hr hs) fun _ _ _ q => tCons_of q
theorem PK.imp {kws : List Keyword} {u u' : TA} (h : PK X kws u) (i : ∀ σ H Q, u' σ H Q → u σ H Q) : PK X kws u' := ⟨fun pos pins s σ H Q I q => h.run pos pins s σ H Q I (i σ H Q q)⟩
theorem ea_bind {k : List D → Option R} {r : R} {G H : Hp} {σ : L2.St} {en : En} {Q : VK} {T : List V → Hp → Prop} (sr : SR X.K cn G H σ en) (e : bA (t en) k = some r) (q : RQ X.K cn G H Q (fun c d H' => W c d σ H') r)
    (cont : ∀ vs ds G1 H1, Stp G H G1 H1 → SR X.K cn G1 H1 σ en → DtL X.K cn G1 vs ds → k ds = some r → RQ X.K cn G1 H1 Q (fun c d H' => W c d σ H') r → T vs H1) : tA X.K cn W t σ H T := by
  cases ht : t en with
  | none => rw [ht] at e; cases e
  | some y =>
    rw [ht] at e
    refine ⟨G, en, y, sr, ht, ?_⟩
    cases y with
    | vals ds => exact fun vs G1 H1 st h => cont vs ds G1 H1 st (sr.step st) h e (q.on st)
    | er c d => cases e; exact q

/-! ### displays -/
def fLst (t : En → Option RA) : En → Option R := fun en => bA (t en) fun ds => if ds.length ≤ 16777216 then some (.val .nw (.lst ds)) else none
def fTup (t : En → Option RA) : En → Option R := fun en => bA (t en) fun ds => if ds.length ≤ 16777216 then some (.val .sh (.tup ds)) else none
theorem de_lst (h : DA X cn W es t) : DE X cn W (.List es pos) (fLst t) := by
  refine PE.imp (pe_lst h) ?_
  rintro σ H Q ⟨G, en, r, sr, e, q⟩
  refine ea_bind sr e q fun vs ds G1 H1 st sr1 h1 e1 q1 => ?_
  split at e1
  · rename_i hl
    cases e1
    refine ⟨by rw [h1.length, sizeLine_eq]; exact hl, fun p hp => ?_⟩
    exact q1 (.ref p) G1 _ (Stp.hid sr1.sub hp) ⟨p, rfl, hp, sr1.sub.free hp, vs, upd_same, h1⟩
  · cases e1
theorem de_tup {x1} (h : DA X cn W es t) : DE X cn W (.Tuple es x1 pos) (fTup t) := by
  refine PE.imp (pe_tup h) ?_
  rintro σ H Q ⟨G, en, r, sr, e, q⟩
  refine ea_bind sr e q fun vs ds G1 H1 st sr1 h1 e1 q1 => ?_
  split at e1
  · rename_i hl
    cases e1
    refine ⟨by rw [h1.length, sizeLine_eq]; exact hl, fun p hp => ?_⟩
    exact q1 (.ref p) (upd G1 p (.tup vs)) _ (Stp.new sr1.sub hp) (.tup upd_same (h1.same (same_upd (sr1.sub.free hp))))
  · cases e1
def fDct0 : En → Option R := fun _ => some (.val .nw (.dct []))
theorem de_dct0 : DE X cn W (.Dict [] [] pos) fDct0 := PE.imp pe_dnewK fun σ H Q ⟨G, en, r, sr, e, q⟩ => by
  cases e
  exact fun p hp => q (.ref p) G _ (Stp.hid sr.sub hp) ⟨p, rfl, hp, sr.sub.free hp, [], upd_same, rfl, .nil⟩

/-! ### calls of defs -/
/-- the promise of a def by its data function (n: its parameters) -/
def spD (K : PySem.W.Frag) (cn : Cn) (n : Nat) (F : List D → Option R) : Sp := fun vs H Q E => ∃ G ds r, Same G H ∧ DtL K cn G vs ds ∧ ds.length = n ∧ F ds = some r ∧ RQ K cn G H Q E r
theorem spD_len {K : PySem.W.Frag} {n : Nat} {F : List D → Option R} (vs : List V) (H : Hp) (Q : VK) (E : XK) (h : spD K cn n F vs H Q E) : vs.length = n := by
  obtain ⟨G, ds, r, _, h1, h2, _⟩ := h
  rw [h1.length, h2]
def fCall (F : List D → Option R) (n : Nat) (t : En → Option RA) : En → Option R := fun en => bA (t en) fun ds => if ds.length = n then F ds else none
variable {k n : Nat} {g C : Addr} {fd : FuncData} {ps : List Str} {F : List D → Option R} {x : Str} {p : Pos}
theorem tCall_of {σ : L2.St} {H : Hp} {Q : VK} (h : tD X.K cn W (fCall F n t) σ H Q) : tA X.K cn W t σ H fun vs H1 => spD X.K cn n F vs H1 Q (WE W σ) := by
  obtain ⟨G, en, r, sr, e, q⟩ := h
  refine ea_bind sr e q fun vs ds G1 H1 st sr1 h1 e1 q1 => ?_
  split at e1
  · rename_i hn
    exact ⟨G1, ds, r, sr1.sub, h1, hn, e1, q1⟩
  · cases e1
theorem de_call (FO : FnOk X.prog X.w X.K X.mg X.base (L2.CX X.prog X.w) k g fd ps (spD X.K cn n F)) (hr : Room k X.A) (hg : Gl X x) (hm : X.mg x = some (.ref g)) (hk : PySem.W.keepIn X.K (.ref g) = true) (hb : Binds X.K fd ps []) (tk : Takes X W)
    (ha : DA X cn W (e :: es) t) (hdb : (x == ("__debug__" : Str)) = false := by decide) (he : starEach (e :: es) X.env = (false, eval e X.env) :: starEach es X.env := by rfl) (hpl : (backTo pos (starEach es X.env)).any (·.1) = false := by rfl) :
    DE X cn W (.Call (.Name x p) (e :: es) [] pos) (fCall F n t) :=
  PE.imp (pe_callSD FO hr hg hm hk hb .nil (fun σ => passAt tk σ) ha hdb he hpl) fun σ H Q h => by
    show tA X.K cn W t σ H fun vs H1 => spD X.K cn n F (vs ++ []) H1 Q (WE W σ)
    have h' := tCall_of h
    have e0 : (fun (vs : List V) (H1 : Hp) => spD X.K cn n F (vs ++ []) H1 Q (WE W σ)) = fun vs H1 => spD X.K cn n F vs H1 Q (WE W σ) := by
      funext vs H1
      rw [List.append_nil]
    rw [e0]
    exact h'

/-! ### calls of built-ins -/
def rB1 (K : PySem.W.Frag) (cn : Cn) (g : D → Option (Kd × D)) : List V → Hp → VK → Prop := fun xs H Q => ∃ x, xs = [x] ∧ rD1 K cn g x H Q
def rBn (K : PySem.W.Frag) (cn : Cn) (g : List D → Option (Kd × D)) : List V → Hp → VK → Prop := fun xs H Q => ∃ G ds k d, Same G H ∧ DtL K cn G xs ds ∧ g ds = some (k, d) ∧ ∀ v G' H', Stp G H G' H' → VI K cn H G' H' k v d → Q v H'
theorem tCB1_of {g : D → Option (Kd × D)} {σ : L2.St} {H : Hp} {Q : VK} (h : tD X.K cn W (fUn g fa) σ H Q) : tCB (rB1 X.K cn g) (tCons (tD X.K cn W fa) tNil) σ H Q := by
  obtain ⟨G, en, r, sr, e, q⟩ := h
  refine ev_bind sr e q fun x dx G1 H1 s1 sr1 hx e1 q1 => ?_
  obtain ⟨k, d, e3, rfl⟩ := lf_some e1
  exact ⟨x, rfl, G1, dx, k, d, sr1.sub, hx, e3, q1⟩
variable {id T : String}
/-- len(e), .. : one argument, which may be a local's own -/
theorem de_b1 {g : D → Option (Kd × D)} (hc : CallR X (.builtin id) (rB1 X.K cn g)) (hg : Gl X x) (hm : X.mg x = none) (hv : bootBuiltins x = some (.builtin id)) (ha : DE X cn W e fa) (hn : x ≠ "__name__" := by decide) (hdb : (x == ("__debug__" : Str)) = false := by decide)
    (hs : starEach [e] X.env = (false, eval e X.env) :: starEach [] X.env := by rfl) (he : starEach [e] X.env = (false, eval e X.env) :: starEach [] X.env := by rfl) (hpl : (backTo pos (starEach [] X.env)).any (·.1) = false := by rfl) :
    DE X cn W (.Call (.Name x p) [e] [] pos) (fUn g fa) :=
  PE.imp (pe_callB hc hg hm hv (pa_cons ha pa_nil hs) hn hdb he hpl) fun σ H Q h => tCB1_of h
theorem de_t1 {g : D → Option (Kd × D)} (hc : CallR X (.type T) (rB1 X.K cn g)) (hg : Gl X x) (hm : X.mg x = none) (hv : bootBuiltins x = some (.type T)) (ha : DE X cn W e fa) (hn : x ≠ "__name__" := by decide) (hdb : (x == ("__debug__" : Str)) = false := by decide)
    (hs : starEach [e] X.env = (false, eval e X.env) :: starEach [] X.env := by rfl) (he : starEach [e] X.env = (false, eval e X.env) :: starEach [] X.env := by rfl) (hpl : (backTo pos (starEach [] X.env)).any (·.1) = false := by rfl) :
    DE X cn W (.Call (.Name x p) [e] [] pos) (fUn g fa) :=
  PE.imp (pe_callTy hc hg hm hv (pa_cons ha pa_nil hs) hn hdb he hpl) fun σ H Q h => tCB1_of h
def fBn (g : List D → Option (Kd × D)) (t : En → Option RA) : En → Option R := fun en => bA (t en) fun ds => lf (g ds)
theorem tCBn_of {g : List D → Option (Kd × D)} {σ : L2.St} {H : Hp} {Q : VK} (h : tD X.K cn W (fBn g t) σ H Q) : tCB (rBn X.K cn g) (tA X.K cn W t) σ H Q := by
  obtain ⟨G, en, r, sr, e, q⟩ := h
  refine ea_bind sr e q fun vs ds G1 H1 st sr1 h1 e1 q1 => ?_
  obtain ⟨k, d, e3, rfl⟩ := lf_some e1
  exact ⟨G1, ds, k, d, sr1.sub, h1, e3, q1⟩
theorem de_bn {g : List D → Option (Kd × D)} (hc : CallR X (.builtin id) (rBn X.K cn g)) (hg : Gl X x) (hm : X.mg x = none) (hv : bootBuiltins x = some (.builtin id)) (ha : DA X cn W (e :: es) t) (hn : x ≠ "__name__" := by decide) (hdb : (x == ("__debug__" : Str)) = false := by decide)
    (he : starEach (e :: es) X.env = (false, eval e X.env) :: starEach es X.env := by rfl) (hpl : (backTo pos (starEach es X.env)).any (·.1) = false := by rfl) :
    DE X cn W (.Call (.Name x p) (e :: es) [] pos) (fBn g t) :=
  PE.imp (pe_callB hc hg hm hv ha hn hdb he hpl) fun σ H Q h => tCBn_of h
end
end PD
/-! PD4: the operations on data, and that the machine does them. -/
namespace PD
open PySem L2
section
variable {X : Cx} {cn : Cn}
theorem szl : (sizeLine : Nat) = 16777216 := sizeLine_eq

/-! ### sums, products, quotients -/
def addD : D → D → Option (Kd × D)
  | .int a, .int b => some (.sh, .int (a + b))
  | .str a, .str b => if a.length + b.length ≤ 16777216 then some (.sh, .str (a ++ b)) else none
  | .lst a, .lst b => if a.length + b.length ≤ 16777216 then some (.nw, .lst (a ++ b)) else none
  | .tup (x :: a), .tup (y :: b) => if (x :: a).length + (y :: b).length ≤ 16777216 then some (.sh, .tup ((x :: a) ++ (y :: b))) else none
  | _, _ => none
def subD : D → D → Option (Kd × D)
  | .int a, .int b => some (.sh, .int (a - b))
  | _, _ => none
def mulOk (i j : Int) : Bool := decide (-(2 ^ 64) < i ∧ i < 2 ^ 64) || decide (-(2 ^ 64) < j ∧ j < 2 ^ 64) || decide (i.natAbs.log2 + j.natAbs.log2 < 1000000)
def mulD : D → D → Option (Kd × D)
  | .int a, .int b => if mulOk a b = true then some (.sh, .int (a * b)) else none
  | .lst a, .int k => if -(2 ^ 63) ≤ k ∧ k < 2 ^ 63 ∧ a.length * k.toNat ≤ 16777216 then some (.nw, .lst (List.replicate k.toNat a).flatten) else none
  | _, _ => none
def fdivD : D → D → Option (Kd × D)
  | .int a, .int b => if 0 < b ∧ b.natAbs.log2 < 9000 then some (.sh, .int (a / b)) else none
  | _, _ => none
def modD : D → D → Option (Kd × D)
  | .int a, .int b => if 0 < b then some (.sh, .int (a % b)) else none
  | _, _ => none
def powD : D → D → Option (Kd × D)
  | .int a, .int b => if 0 ≤ b ∧ b ≤ 1000000 ∧ a.natAbs < 2 ^ 64 then some (.sh, .int (a ^ b.toNat)) else none
  | _, _ => none
def negD : D → Option (Kd × D)
  | .int a => some (.sh, .int (-a))
  | _ => none
theorem un_ok : UnR X (unaryOp .USub) (rD1 X.K cn negD) := by
  rintro pins s σ H x v Q I rx ⟨G, dx, k, d, sg, hx, e, q⟩
  cases dx with
  | int a =>
    cases e
    have h := hx.int; subst h
    exact un_neg pins s σ H _ v Q I rx ⟨a, rfl, q _ G H (Stp.refl sg) (.int _)⟩
  | _ => cases e
theorem sub_ok : OpR X (binaryOp .Sub) (rD2 X.K cn subD) := by
  rintro pins s σ H x y v u Q I rx ry ⟨G, dx, dy, k, d, sg, hx, hy, e, q⟩
  cases dx with
  | int a => cases dy with
    | int b =>
      cases e
      have h := hx.int; subst h
      have h := hy.int; subst h
      exact op_sub pins s σ H _ _ v u Q I rx ry ⟨a, b, rfl, rfl, q _ G H (Stp.refl sg) (.int _)⟩
    | _ => cases e
  | _ => cases e
theorem fdiv_ok : OpR X (binaryOp .FloorDiv) (rD2 X.K cn fdivD) := by
  rintro pins s σ H x y v u Q I rx ry ⟨G, dx, dy, k, d, sg, hx, hy, e, q⟩
  cases dx with
  | int a => cases dy with
    | int b =>
      replace e : (if 0 < b ∧ b.natAbs.log2 < 9000 then some (Kd.sh, D.int (a / b)) else none) = some (k, d) := e
      split at e
      · rename_i hc
        cases e
        have h := hx.int; subst h
        have h := hy.int; subst h
        exact op_fdivW pins s σ H _ _ v u Q I rx ry ⟨a, b, rfl, rfl, hc, q _ G H (Stp.refl sg) (.int _)⟩
      · cases e
    | _ => cases e
  | _ => cases e
theorem mod_ok : OpR X (binaryOp .Mod) (rD2 X.K cn modD) := by
  rintro pins s σ H x y v u Q I rx ry ⟨G, dx, dy, k, d, sg, hx, hy, e, q⟩
  cases dx with
  | int a => cases dy with
    | int b =>
      replace e : (if 0 < b then some (Kd.sh, D.int (a % b)) else none) = some (k, d) := e
      split at e
      · rename_i hc
        cases e
        have h := hx.int; subst h
        have h := hy.int; subst h
        exact op_mod pins s σ H _ _ v u Q I rx ry ⟨a, b, rfl, rfl, hc, q _ G H (Stp.refl sg) (.int _)⟩
      · cases e
    | _ => cases e
  | _ => cases e
theorem pow_ok : OpR X (binaryOp .Pow) (rD2 X.K cn powD) := by
  rintro pins s σ H x y v u Q I rx ry ⟨G, dx, dy, k, d, sg, hx, hy, e, q⟩
  cases dx with
  | int a => cases dy with
    | int b =>
      replace e : (if 0 ≤ b ∧ b ≤ 1000000 ∧ a.natAbs < 2 ^ 64 then some (Kd.sh, D.int (a ^ b.toNat)) else none) = some (k, d) := e
      split at e
      · rename_i hc
        cases e
        have h := hx.int; subst h
        have h := hy.int; subst h
        exact op_pow pins s σ H _ _ v u Q I rx ry ⟨a, b, rfl, rfl, hc, q _ G H (Stp.refl sg) (.int _)⟩
      · cases e
    | _ => cases e
  | _ => cases e
theorem DtL.flat {K : PySem.W.Frag} {G : Hp} {vs : List V} {ds : List D} (h : DtL K cn G vs ds) : ∀ n : Nat, DtL K cn G (List.replicate n vs).flatten (List.replicate n ds).flatten
  | 0 => .nil
  | n + 1 => by
    rw [List.replicate_succ, List.replicate_succ, List.flatten_cons, List.flatten_cons]
    exact h.append (DtL.flat h n)
theorem mul_ok : OpR X (binaryOp .Mult) (rD2 X.K cn mulD) := by
  rintro pins s σ H x y v u Q I rx ry ⟨G, dx, dy, k, d, sg, hx, hy, e, q⟩
  cases dx with
  | int a => cases dy with
    | int b =>
      replace e : (if mulOk a b = true then some (Kd.sh, D.int (a * b)) else none) = some (k, d) := e
      split at e
      · rename_i hc
        cases e
        have h := hx.int; subst h
        have h := hy.int; subst h
        have fin := q _ G H (Stp.refl sg) (.int _)
        unfold mulOk at hc
        rw [Bool.or_eq_true, Bool.or_eq_true, decide_eq_true_eq, decide_eq_true_eq, decide_eq_true_eq] at hc
        rcases hc with hc | hc
        · exact op_mul pins s σ H _ _ v u Q I rx ry ⟨a, b, rfl, rfl, hc, fin⟩
        · exact op_mulW pins s σ H _ _ v u Q I rx ry ⟨a, b, rfl, rfl, hc, fin⟩
      · cases e
    | _ => cases e
  | lst a => cases dy with
    | int n =>
      replace e : (if -(2 ^ 63) ≤ n ∧ n < 2 ^ 63 ∧ a.length * n.toNat ≤ 16777216 then some (Kd.nw, D.lst (List.replicate n.toNat a).flatten) else none) = some (k, d) := e
      split at e
      · rename_i hc
        cases e
        obtain ⟨p, vs, rfl, hp, t⟩ := hx.lst sg
        have h := hy.int; subst h
        refine op_rep pins s σ H _ _ v u Q I rx ry ⟨p, n, vs, rfl, rfl, hp, hc.1, hc.2.1, ?_, fun l hl => ?_⟩
        · rw [t.length, szl]; exact hc.2.2
        · exact q (.ref l) G _ (Stp.hid sg hl) ⟨l, rfl, hl, sg.free hl, _, upd_same, t.flat _⟩
      · cases e
    | _ => cases e
  | _ => cases e
theorem add_ok : OpR X (binaryOp .Add) (rD2 X.K cn addD) := by
  rintro pins s σ H x y v u Q I rx ry ⟨G, dx, dy, k, d, sg, hx, hy, e, q⟩
  cases dx with
  | int a => cases dy with
    | int b =>
      cases e
      have h := hx.int; subst h
      have h := hy.int; subst h
      exact op_add pins s σ H _ _ v u Q I rx ry ⟨a, b, rfl, rfl, q _ G H (Stp.refl sg) (.int _)⟩
    | _ => cases e
  | str a => cases dy with
    | str b =>
      replace e : (if a.length + b.length ≤ 16777216 then some (Kd.sh, D.str (a ++ b)) else none) = some (k, d) := e
      split at e
      · rename_i hc
        cases e
        have h := hx.str; subst h
        have h := hy.str; subst h
        exact op_add_str pins s σ H _ _ v u Q I rx ry ⟨a, b, rfl, rfl, by rw [szl]; exact hc, q _ G H (Stp.refl sg) (.str _)⟩
      · cases e
    | _ => cases e
  | lst a => cases dy with
    | lst b =>
      replace e : (if a.length + b.length ≤ 16777216 then some (Kd.nw, D.lst (a ++ b)) else none) = some (k, d) := e
      split at e
      · rename_i hc
        cases e
        obtain ⟨p, vs, rfl, hp, t⟩ := hx.lst sg
        obtain ⟨p', vs', rfl, hp', t'⟩ := hy.lst sg
        refine op_cat pins s σ H _ _ v u Q I rx ry ⟨p, p', vs, vs', rfl, rfl, hp, hp', ?_, fun l hl => ?_⟩
        · rw [t.length, t'.length, szl]; exact hc
        · exact q (.ref l) G _ (Stp.hid sg hl) ⟨l, rfl, hl, sg.free hl, _, upd_same, t.append t'⟩
      · cases e
    | _ => cases e
  | tup a => cases a with
    | nil => cases dy <;> cases e
    | cons a0 a => cases dy with
      | tup b => cases b with
        | nil => cases e
        | cons b0 b =>
          replace e : (if (a0 :: a).length + (b0 :: b).length ≤ 16777216 then some (Kd.sh, D.tup ((a0 :: a) ++ (b0 :: b))) else none) = some (k, d) := e
          split at e
          · rename_i hc
            cases e
            obtain ⟨p, vs, rfl, hp, t⟩ := hx.tup sg
            obtain ⟨p', vs', rfl, hp', t'⟩ := hy.tup sg
            cases t with
            | cons t0 tr =>
              cases t' with
              | cons t0' tr' =>
                refine op_catT pins s σ H _ _ v u Q I rx ry ⟨p, p', _, _, rfl, rfl, hp, hp', by simp, ?_, fun z => ?_, fun _ l hl => ?_⟩
                · have h1 := (DtL.cons t0 tr).length
                  have h2 := (DtL.cons t0' tr').length
                  rw [h1, h2, szl]; exact hc
                · cases z
                · exact q (.ref l) _ _ (Stp.new sg hl) (.tup upd_same (((DtL.cons t0 tr).append (DtL.cons t0' tr')).same (same_upd (sg.free hl))))
          · cases e
      | _ => cases e
  | _ => cases dy <;> cases e

def cmpI0 (f : Int → Int → Bool) : D → D → Option (Kd × D)
  | .int a, .int b => some (.sh, .bl (f a b))
  | _, _ => none
abbrev ltD := cmpI0 fun i j => decide (i < j)
abbrev leD := cmpI0 fun i j => decide (i ≤ j)
abbrev gtD := cmpI0 fun i j => decide (j < i)
abbrev geD := cmpI0 fun i j => decide (j ≤ i)
theorem cmp_ok {op : CmpOp} {f : Int → Int → Bool} (h0 : OpR X (compareOp op) (rI0 fun i j => .bl (f i j))) : OpR X (compareOp op) (rD2 X.K cn (cmpI0 f)) := by
  rintro pins s σ H x y v u Q I rx ry ⟨G, dx, dy, k, d, sg, hx, hy, e, q⟩
  cases dx with
  | int a => cases dy with
    | int b =>
      cases e
      have h := hx.int; subst h
      have h := hy.int; subst h
      exact h0 pins s σ H _ _ v u Q I rx ry ⟨a, b, rfl, rfl, q _ G H (Stp.refl sg) (.bl _)⟩
    | _ => cases e
  | _ => cases e
theorem lt_ok : OpR X (compareOp .Lt) (rD2 X.K cn ltD) := cmp_ok op_lt
theorem le_ok : OpR X (compareOp .LtE) (rD2 X.K cn leD) := cmp_ok op_le
theorem gt_ok : OpR X (compareOp .Gt) (rD2 X.K cn gtD) := cmp_ok op_gt
theorem ge_ok : OpR X (compareOp .GtE) (rD2 X.K cn geD) := cmp_ok op_ge
/-- x is None -/
def isND : D → D → Option (Kd × D)
  | .non, .non => some (.sh, .bl true)
  | .cl _, .non => none
  | _, .non => some (.sh, .bl false)
  | _, _ => none
def notND : D → D → Option (Kd × D)
  | .non, .non => some (.sh, .bl false)
  | .cl _, .non => none
  | _, .non => some (.sh, .bl true)
  | _, _ => none
theorem DB.nonIff {K : PySem.W.Frag} {G H : Hp} {v : V} {d : D} (h : DB K cn G H v d) : (d = .non ↔ v = .non) := by
  rcases h with h | ⟨p, e, _, t⟩
  · cases h <;> simp
  · subst e
    cases d <;> first | exact t.elim | simp
theorem is_ok : OpR X (compareOp .Is) (rD2 X.K cn isND) := by
  rintro pins s σ H x y v u Q I rx ry ⟨G, dx, dy, k, d, sg, hx, hy, e, q⟩
  cases dy with
  | non =>
    have h := hy.non; subst h
    have hi := hx.nonIff
    refine op_isN pins s σ H _ _ v u Q I rx ry ⟨rfl, ?_⟩
    cases dx with
    | non => cases e; rw [hi.mp rfl]; exact q _ G H (Stp.refl sg) (.bl _)
    | cl _ => cases e
    | _ =>
      cases e
      rw [decide_eq_false (fun z => by have := hi.mpr z; cases this)]
      exact q _ G H (Stp.refl sg) (.bl _)
  | _ => cases dx <;> cases e
theorem isnot_ok : OpR X (compareOp .IsNot) (rD2 X.K cn notND) := by
  rintro pins s σ H x y v u Q I rx ry ⟨G, dx, dy, k, d, sg, hx, hy, e, q⟩
  cases dy with
  | non =>
    have h := hy.non; subst h
    have hi := hx.nonIff
    refine op_notN pins s σ H _ _ v u Q I rx ry ⟨rfl, ?_⟩
    cases dx with
    | non => cases e; rw [hi.mp rfl]; exact q _ G H (Stp.refl sg) (.bl _)
    | cl _ => cases e
    | _ =>
      cases e
      rw [decide_eq_false (fun z => by have := hi.mpr z; cases this)]
      exact q _ G H (Stp.refl sg) (.bl _)
  | _ => cases dx <;> cases e

/-! ### equality -/
mutual
def toP : D → Option PyData
  | .non => some .none
  | .bl b => some (.bool b)
  | .int i => some (.int i)
  | .str x => some (.str x)
  | .lst xs => (toPs xs).map .list
  | .tup xs => (toPs xs).map .tuple
  | .scr ns => some (.list (ns.map .int))
  | _ => none
def toPs : List D → Option (List PyData)
  | [] => some []
  | x :: r => match toP x, toPs r with
    | some p, some q => some (p :: q)
    | _, _ => none
end
theorem dp_ints {K : PySem.W.Frag} {G : Hp} : ∀ ns : List Int, DpAll K G (ns.map V.int) (ns.map PyData.int)
  | [] => .nil
  | n :: r => .cons (.int n) (dp_ints r)
mutual
theorem dp_of {K : PySem.W.Frag} {G : Hp} : ∀ {v : V} {d : D} {p : PyData}, Dt K cn G v d → toP d = some p → Dp K G v p
  | _, _, _, .non, e => by simp only [toP, Option.some.injEq] at e; subst e; exact .non
  | _, _, _, .bl b, e => by simp only [toP, Option.some.injEq] at e; subst e; exact .bl b
  | _, _, _, .int b, e => by simp only [toP, Option.some.injEq] at e; subst e; exact .int b
  | _, _, _, .str b, e => by simp only [toP, Option.some.injEq] at e; subst e; exact .str b
  | _, _, _, .ty _, e => by simp [toP] at e
  | _, _, _, .cl _, e => by simp [toP] at e
  | _, _, _, .scr h, e => by simp only [toP, Option.some.injEq] at e; subst e; exact .lst h (dp_ints _)
  | _, _, _, .lst h t, e => by
    simp only [toP, Option.map_eq_some_iff] at e
    obtain ⟨ps, e1, rfl⟩ := e
    exact .lst (SqL.of h) (dps_of t e1)
  | _, _, _, .tup h t, e => by
    simp only [toP, Option.map_eq_some_iff] at e
    obtain ⟨ps, e1, rfl⟩ := e
    exact .tup (SqT.of h) (dps_of t e1)
  | _, _, _, .dct _ _ _, e => by simp [toP] at e
  | _, _, _, .ins _ _ _, e => by simp [toP] at e
theorem dps_of {K : PySem.W.Frag} {G : Hp} : ∀ {vs : List V} {ds : List D} {ps : List PyData}, DtL K cn G vs ds → toPs ds = some ps → DpAll K G vs ps
  | _, _, _, .nil, e => by simp only [toPs, Option.some.injEq] at e; subst e; exact .nil
  | _, _, _, .cons h t, e => by
    simp only [toPs] at e
    split at e
    · rename_i p q e1 e2
      cases e
      exact .cons (dp_of h e1) (dps_of t e2)
    · cases e
end
theorem dp_same {K : PySem.W.Frag} {G H : Hp} (sg : Same G H) : ∀ {v : V} {d : D} {p : PyData}, DB K cn G H v d → toP d = some p → Dp K H v p := by
  intro v d p h e
  rcases h with h | ⟨q, rfl, _, t⟩
  · exact dp_of (h.same sg) e
  · exact dp_of (TopR.dt (by cases d <;> first | rfl | (simp [toP] at e)) t sg fun _ x => x) e
def eqb (neg : Bool) (b : Bool) : Option (Kd × D) := some (.sh, .bl (if neg then !b else b))
def eqN (neg : Bool) : D → D → Option (Kd × D)
  | .int a, .int b => eqb neg (decide (a = b))
  | .str a, .str b => eqb neg (decide (a = b))
  | .bl a, .bl b => eqb neg (decide (a = b))
  | .non, .non => eqb neg true
  | .non, .int _ => eqb neg false
  | .int _, .non => eqb neg false
  | .non, .str _ => eqb neg false
  | .str _, .non => eqb neg false
  | .int _, .str _ => eqb neg false
  | .str _, .int _ => eqb neg false
  | x, y => match toP x, toP y with
    | some p, some q => if SeqAt.shaped p = true ∧ SeqAt.shaped q = true then eqb neg (PyData.eqv p q) else none
    | _, _ => none
abbrev eqD := eqN false
abbrev neD := eqN true
theorem eq_sc {neg : Bool} {op : CmpOp} {rs rd : R2} (h1 : OpR X (compareOp op) rs) (h2 : OpR X (compareOp op) rd)
    (e1 : ∀ x y H Q, scal x y = true → Q (.bl (if neg then !decide (x = y) else decide (x = y))) H → rs x y H Q)
    (e2 : ∀ x y H Q d e, Dp X.K H x d → Dp X.K H y e → SeqAt.shaped d = true → SeqAt.shaped e = true → Q (.bl (if neg then !PyData.eqv d e else PyData.eqv d e)) H → rd x y H Q) : OpR X (compareOp op) (rD2 X.K cn (eqN neg)) := by
  rintro pins s σ H x y v u Q I rx ry ⟨G, dx, dy, k, d, sg, hx, hy, e, q⟩
  have sc : ∀ b : Bool, scal x y = true → decide (x = y) = b → eqb neg b = some (k, d) → wpAny (model X.prog X.w) X.A (compareOp op v u) (EP X pins σ Q) X.xe s := fun b h0 hb e => by
    unfold eqb at e
    cases e
    subst hb
    exact h1 pins s σ H _ _ v u Q I rx ry (e1 _ _ _ _ h0 (q _ G H (Stp.refl sg) (.bl _)))
  have dp : (match toP dx, toP dy with | some p, some q => if SeqAt.shaped p = true ∧ SeqAt.shaped q = true then eqb neg (PyData.eqv p q) else none | _, _ => none) = some (k, d) → wpAny (model X.prog X.w) X.A (compareOp op v u) (EP X pins σ Q) X.xe s := fun e => by
    split at e
    · rename_i p p' ep ep'
      split at e
      · rename_i hs
        unfold eqb at e
        cases e
        exact h2 pins s σ H _ _ v u Q I rx ry (e2 _ _ _ _ _ _ (dp_same sg hx ep) (dp_same sg hy ep') hs.1 hs.2 (q _ G H (Stp.refl sg) (.bl _)))
      · cases e
    · cases e
  unfold eqN at e
  split at e
  · exact sc _ (by rw [hx.int, hy.int]; rfl) (by rw [hx.int, hy.int]; simp) e
  · exact sc _ (by rw [hx.str, hy.str]; rfl) (by rw [hx.str, hy.str]; simp) e
  · exact sc _ (by rw [hx.bl, hy.bl]; rfl) (by rw [hx.bl, hy.bl]; simp) e
  · exact sc _ (by rw [hx.non, hy.non]; rfl) (by rw [hx.non, hy.non]; simp) e
  · exact sc _ (by rw [hx.non, hy.int]; rfl) (by rw [hx.non, hy.int]; simp) e
  · exact sc _ (by rw [hx.int, hy.non]; rfl) (by rw [hx.int, hy.non]; simp) e
  · exact sc _ (by rw [hx.non, hy.str]; rfl) (by rw [hx.non, hy.str]; simp) e
  · exact sc _ (by rw [hx.str, hy.non]; rfl) (by rw [hx.str, hy.non]; simp) e
  · exact sc _ (by rw [hx.int, hy.str]; rfl) (by rw [hx.int, hy.str]; simp) e
  · exact sc _ (by rw [hx.str, hy.int]; rfl) (by rw [hx.str, hy.int]; simp) e
  · exact dp e
theorem eq_ok (hu : X.A.units + 64 < cLine) : OpR X (compareOp .Eq) (rD2 X.K cn eqD) := eq_sc op_eq (op_eqD hu) (fun _ _ _ _ h q => ⟨h, q⟩) fun _ _ _ _ d e h1 h2 h3 h4 q => ⟨d, e, h1, h2, h3, h4, q⟩
theorem ne_ok (hu : X.A.units + 64 < cLine) : OpR X (compareOp .NotEq) (rD2 X.K cn neD) := eq_sc op_ne (op_neD hu) (fun _ _ _ _ h q => ⟨h, q⟩) fun _ _ _ _ d e h1 h2 h3 h4 q => ⟨d, e, h1, h2, h3, h4, q⟩
end
end PD
/-! PD5: in, subscripts, slices, and the built-in functions on data. -/
namespace PD
open PySem PySem.Spec PyProof.Rows L2
section
variable {X : Cx} {cn : Cn}

/-! ### in -/
def flatD : D → Bool
  | .non => true
  | .bl _ => true
  | .int _ => true
  | .str _ => true
  | _ => false
def eqF : D → D → Bool
  | .non, .non => true
  | .bl a, .bl b => a == b
  | .bl a, .int b => (if a then 1 else 0) == b
  | .int a, .bl b => a == (if b then 1 else 0)
  | .int a, .int b => a == b
  | .str a, .str b => a == b
  | _, _ => false
def keyD : D → Option Key
  | .int i => some (.inl i)
  | .str x => some (.inr x)
  | _ => none
def lookD (dks : List (Key × D)) (k : Key) : Option D := (dks.find? fun kv => decide (kv.1 = k)).map (·.2)
def inN (neg : Bool) : D → D → Option (Kd × D)
  | .str x, .str z => match x.cps.toList with
    | [c] => eqb neg (decide (c ∈ z.cps.toList))
    | _ => none
  | x, .lst ds => if flatD x = true ∧ ds.all flatD = true then eqb neg (ds.any fun y => eqF y x) else none
  | x, .tup ds => if flatD x = true ∧ ds.all flatD = true then eqb neg (ds.any fun y => eqF y x) else none
  | x, .dct dks => match keyD x with
    | some k => eqb neg (lookD dks k).isSome
    | none => none
  | _, _ => none
abbrev inD := inN false
abbrev notInD := inN true
theorem flat_of {K : PySem.W.Frag} {G : Hp} : ∀ {v : V} {d : D}, Dt K cn G v d → flatD d = true → flatV v = true ∧ (∀ (w : V) (e : D), Dt K cn G w e → flatD e = true → eqV v w = eqF d e) := by
  intro v d h f
  cases h <;> first | exact absurd f Bool.false_ne_true | (refine ⟨rfl, fun w e h2 f2 => ?_⟩; cases h2 <;> first | exact absurd f2 Bool.false_ne_true | rfl)
theorem flats_of {K : PySem.W.Frag} {G : Hp} {w : V} {e : D} (he : Dt K cn G w e) (fe : flatD e = true) : ∀ {vs : List V} {ds : List D}, DtL K cn G vs ds → ds.all flatD = true → vs.all flatV = true ∧ inV w vs = ds.any fun y => eqF y e
  | _, _, .nil, _ => ⟨rfl, rfl⟩
  | _, _, .cons h t, f => by
    rw [List.all_cons, Bool.and_eq_true] at f
    obtain ⟨h1, h2⟩ := flat_of h f.1
    obtain ⟨h3, h4⟩ := flats_of he fe t f.2
    refine ⟨by rw [List.all_cons, h1, h3]; rfl, ?_⟩
    unfold inV at h4 ⊢
    rw [List.any_cons, List.any_cons, h4, h2 w e he fe]
theorem DB.flat {K : PySem.W.Frag} {G H : Hp} {v : V} {d : D} (h : DB K cn G H v d) (f : flatD d = true) : Dt K cn G v d := by
  rcases h with h | ⟨p, _, _, t⟩
  · exact h
  · cases d <;> first | exact absurd f Bool.false_ne_true | exact t.elim
theorem key_of_d {K : PySem.W.Frag} {G H : Hp} {v : V} {d : D} {k : Key} (h : DB K cn G H v d) (e : keyD d = some k) : v = kV k := by
  cases d with
  | int i => rw [h.int]; cases e; rfl
  | str i => rw [h.str]; cases e; rfl
  | _ => exact nomatch e
theorem look_of {K : PySem.W.Frag} {G : Hp} {k : Key} : ∀ {kvs : List (Key × V)} {dks : List (Key × D)}, kvs.map (·.1) = dks.map (·.1) → DtL K cn G (kvs.map (·.2)) (dks.map (·.2)) →
    (∀ d, lookD dks k = some d → ∃ v, valV kvs k = some v ∧ Dt K cn G v d) ∧ (lookD dks k = none → valV kvs k = none)
  | [], [], _, _ => ⟨fun d e => by simp [lookD] at e, fun _ => rfl⟩
  | (k1, v1) :: kvs, (k2, d2) :: dks, e, t => by
    simp only [List.map_cons, List.cons.injEq] at e
    obtain ⟨e1, e2⟩ := e
    subst e1
    simp only [List.map_cons] at t
    cases t with
    | cons h t =>
      obtain ⟨i1, i2⟩ := look_of (k := k) e2 t
      unfold lookD valV at *
      by_cases hk : k1 = k
      · simp only [List.find?_cons, decide_eq_true hk, Option.map_some, Option.some.injEq]
        exact ⟨fun d e => ⟨v1, rfl, e ▸ h⟩, fun e => by cases e⟩
      · simp only [List.find?_cons, decide_eq_false hk]
        exact ⟨i1, i2⟩
  | [], _ :: _, e, _ => by simp at e
  | _ :: _, [], e, _ => by simp at e
theorem some_iff {K : PySem.W.Frag} {G : Hp} {k : Key} {kvs : List (Key × V)} {dks : List (Key × D)} (e : kvs.map (·.1) = dks.map (·.1)) (t : DtL K cn G (kvs.map (·.2)) (dks.map (·.2))) : (valV kvs k).isSome = (lookD dks k).isSome := by
  obtain ⟨i1, i2⟩ := look_of (k := k) e t
  cases h : lookD dks k with
  | none => rw [i2 h]; rfl
  | some d =>
    obtain ⟨v, hv, _⟩ := i1 d h
    rw [hv]; rfl
theorem in_gen {neg : Bool} {op : CmpOp} (hs : OpR X (compareOp op) (fun x y H Q => ∃ (c : Nat) (z : Str), x = .str ⟨#[c]⟩ ∧ y = .str z ∧ Q (.bl (if neg then !decide (c ∈ z.cps.toList) else decide (c ∈ z.cps.toList))) H))
    (hq : OpR X (compareOp op) (rIn X.K neg)) (hd : OpR X (compareOp op) (fun x y H Q => ∃ a o, y = .ref a ∧ DGet H a x o ∧ Q (.bl (if neg then !o.isSome else o.isSome)) H)) : OpR X (compareOp op) (rD2 X.K cn (inN neg)) := by
  rintro pins s σ H x y v u Q I rx ry ⟨G, dx, dy, k, d, sg, hx, hy, e, q⟩
  unfold inN at e
  split at e
  · split at e
    · rename_i x' z _ c hc
      unfold eqb at e
      cases e
      refine hs pins s σ H _ _ v u Q I rx ry ⟨c, z, ?_, hy.str, q _ G H (Stp.refl sg) (.bl _)⟩
      rw [hx.str]
      congr 1
      obtain ⟨cps⟩ := x'
      congr 1
      exact Array.toList_inj.mp hc
    · cases e
  · split at e
    · rename_i ds hf
      unfold eqb at e
      cases e
      obtain ⟨p, vs, rfl, hp, t⟩ := hy.lst sg
      have hx' := hx.flat hf.1
      obtain ⟨f2, f3⟩ := flats_of hx' hf.1 t hf.2
      refine hq pins s σ H _ _ v u Q I rx ry ⟨p, vs, rfl, .inl (SqL.of hp), (flat_of hx' hf.1).1, f2, ?_⟩
      rw [f3]
      exact q _ G H (Stp.refl sg) (.bl _)
    · cases e
  · split at e
    · rename_i ds hf
      unfold eqb at e
      cases e
      obtain ⟨p, vs, rfl, hp, t⟩ := hy.tup sg
      have hx' := hx.flat hf.1
      obtain ⟨f2, f3⟩ := flats_of hx' hf.1 t hf.2
      refine hq pins s σ H _ _ v u Q I rx ry ⟨p, vs, rfl, .inr hp, (flat_of hx' hf.1).1, f2, ?_⟩
      rw [f3]
      exact q _ G H (Stp.refl sg) (.bl _)
    · cases e
  · split at e
    · rename_i dks k' hk
      unfold eqb at e
      cases e
      obtain ⟨p, kvs, rfl, hp, ek, t⟩ := hy.dct sg
      refine hd pins s σ H _ _ v u Q I rx ry ⟨p, valV kvs k', rfl, .inl ⟨kvs, k', hp, key_of_d hx hk, rfl⟩, ?_⟩
      rw [some_iff ek t]
      exact q _ G H (Stp.refl sg) (.bl _)
    · cases e
  · cases e
theorem in_ok (hu : X.A.units + 1 < cLine) : OpR X (compareOp .In) (rD2 X.K cn inD) := in_gen op_in_sign op_in_seq fun pins s σ H x y v u Q I rx ry ⟨a, o, ey, g, q⟩ => by
  subst ey
  obtain rfl : u = Value.ref a := ry
  exact d_in hu I g rx fun s3 I3 => ⟨.bl _, H, I3, rfl, q⟩
theorem notin_ok (hu : X.A.units + 1 < cLine) : OpR X (compareOp .NotIn) (rD2 X.K cn notInD) := in_gen op_notIn_sign op_notIn_seq fun pins s σ H x y v u Q I rx ry ⟨a, o, ey, g, q⟩ => by
  subst ey
  obtain rfl : u = Value.ref a := ry
  exact d_notIn hu I g rx fun s3 I3 => ⟨.bl _, H, I3, rfl, q⟩

/-! ### subscripts -/
def ixD : D → D → Option (Kd × D)
  | .lst ds, .int i => (atI ds i).map fun d => (.sh, d)
  | .tup ds, .int i => (atI ds i).map fun d => (.sh, d)
  | .scr ns, .int i => (atI ns i).map fun d => (.sh, .int d)
  | .str z, .int i => if z.length ≤ 16777216 then (atI z.cps.toList i).map fun c => (.sh, .str ⟨#[c]⟩) else none
  | .dct dks, y => match keyD y with
    | some k => (lookD dks k).map fun d => (.sh, d)
    | none => none
  | _, _ => none
theorem atI_of {K : PySem.W.Frag} {G : Hp} {vs : List V} {ds : List D} (t : DtL K cn G vs ds) {i : Int} {d : D} (h : atI ds i = some d) : ∃ v, atI vs i = some v ∧ Dt K cn G v d := by
  unfold atI at h ⊢
  rw [t.length]
  cases e : ixN ds.length i with
  | none => rw [e] at h; cases h
  | some j =>
    rw [e] at h
    exact t.get h
theorem ix_ok (hu : X.A.units + 1 < cLine) : IxR X (rD2 X.K cn ixD) := by
  rintro value slice pins s σ H x y v u Q I rx ry ⟨G, dx, dy, k, d, sg, hx, hy, e, q⟩ hsub
  unfold ixD at e
  split at e
  · obtain ⟨d', hd, e⟩ := Option.map_eq_some_iff.mp e
    cases e
    obtain ⟨p, vs, rfl, hp, t⟩ := hx.lst sg
    obtain ⟨w, hw, dw⟩ := atI_of t hd
    exact ix_list value slice pins s σ H _ _ v u Q I rx ry ⟨p, vs, _, w, rfl, hy.int, SqL.of hp, hw, q w G H (Stp.refl sg) dw⟩ hsub
  · obtain ⟨d', hd, e⟩ := Option.map_eq_some_iff.mp e
    cases e
    obtain ⟨p, vs, rfl, hp, t⟩ := hx.tup sg
    obtain ⟨w, hw, dw⟩ := atI_of t hd
    exact ix_tup value slice pins s σ H _ _ v u Q I rx ry ⟨p, vs, _, w, rfl, hy.int, hp, hw, q w G H (Stp.refl sg) dw⟩ hsub
  · obtain ⟨d', hd, e⟩ := Option.map_eq_some_iff.mp e
    cases e
    obtain ⟨p, rfl, hp⟩ := hx.scr sg
    refine ix_list value slice pins s σ H _ _ v u Q I rx ry ⟨p, _, _, .int d', rfl, hy.int, hp, ?_, q _ G H (Stp.refl sg) (.int _)⟩ hsub
    unfold atI at hd ⊢
    rw [List.length_map]
    cases e : ixN _ _ with
    | none => rw [e] at hd; cases hd
    | some j =>
      rw [e] at hd
      show (List.map V.int _)[j]? = some (V.int d')
      rw [List.getElem?_map]
      exact congrArg (Option.map V.int) hd
  · split at e
    · rename_i z i hz
      obtain ⟨c, hc, e⟩ := Option.map_eq_some_iff.mp e
      cases e
      exact ix_str value slice pins s σ H _ _ v u Q I rx ry ⟨z, i, c, hx.str, hy.int, by rw [szl]; exact hz, hc, q _ G H (Stp.refl sg) (.str _)⟩ hsub
    · cases e
  · split at e
    · rename_i dks y' k' hk
      obtain ⟨d', hd, e⟩ := Option.map_eq_some_iff.mp e
      cases e
      obtain ⟨p, kvs, rfl, hp, ek, t⟩ := hx.dct sg
      obtain ⟨w, hw, dw⟩ := (look_of ek t).1 _ hd
      have g : DGet H p y (some w) := .inl ⟨kvs, k', hp, key_of_d hy hk, hw.symm⟩
      obtain rfl : v = Value.ref p := rx
      have hT := dict_typeIs I g
      unfold subscriptTail
      refine wpAny_bind ?_
      rw [getitemInPython_of_ne hT.not_modules]
      refine wpAny_bind (wpAny_specialOf hT PySem.F.slot_dict_getitem.lookup ?_)
      have fin : wpAny (model X.prog X.w) X.A (subscripted slice false (.ref p) u) (fun r s₃ => wpAny (model X.prog X.w) X.A (letTemporaryGo value (.ref p) r >>= fun _ => pure r) (EP X pins σ Q) X.xe s₃) X.xe s := by
        rw [hsub]
        exact wpAny_operating (d_getItem hu I g ry fun w' s3 I3 rw' => wpAny_bind (wpAny_letTemporaryGo (wpAny_pure ⟨w, H, I3, rw', q w G H (Stp.refl sg) dw⟩)))
      first
        | exact wpAny_pure (wpAny_bind fin)
        | exact wpAny_bind (wpAny_pure (wpAny_bind fin))
        | exact wpAny_bind fin
    · cases e
  · cases e
variable {W : WX} {a b c e : Expr} {fa fb fc f : En → Option R} {pos p2 : Pos} {es : List Expr} {t : En → Option RA}
theorem de_ix (hu : X.A.units + 1 < cLine) (ha : DE X cn W a fa) (hb : DE X cn W b fb) (hs : PlainIx b := by intro _ _; rfl) : DE X cn W (.Subscript a b pos) (fOp ixD fa fb) :=
  PE.imp (pe_ix (ix_ok hu) ha hb hs) fun _ _ _ h => tOp_of h

/-! ### slices -/
def cutD {α : Type} (xs : List α) (lo hi : Option Int) : List α := (xs.drop (HT.sIx xs.length 0 lo)).take (HT.sIx xs.length xs.length hi - HT.sIx xs.length 0 lo)
def slD : D → Option Int → Option Int → Option (Kd × D)
  | .lst ds, lo, hi => some (.nw, .lst (cutD ds lo hi))
  | .scr ns, lo, hi => some (.nw, .lst ((cutD ns lo hi).map .int))
  | .tup ds, lo, hi => if HT.sIx ds.length 0 lo = 0 ∧ HT.sIx ds.length ds.length hi = ds.length then none else some (.sh, .tup (cutD ds lo hi))
  | .str z, lo, hi => if z.length ≤ 16777216 then some (.sh, .str (cutS z lo hi)) else none
  | _, _, _ => none
theorem cut_of {K : PySem.W.Frag} {G : Hp} {vs : List V} {ds : List D} (t : DtL K cn G vs ds) (lo hi : Option Int) : DtL K cn G (cutV vs lo hi) (cutD ds lo hi) := by
  unfold cutV cutD
  rw [t.length]
  exact (t.drop _).take _
theorem sl_ok : SlR X (fun x lo hi H Q => ∃ G dx k d, Same G H ∧ DB X.K cn G H x dx ∧ slD dx lo hi = some (k, d) ∧ ∀ v G' H', Stp G H G' H' → VI X.K cn H G' H' k v d → Q v H') := by
  rintro pins s σ H x v vl vu lo hi sl Q I rx hs pl pu ⟨G, dx, k, d, sg, hx, e, q⟩
  unfold slD at e
  split at e
  · cases e
    obtain ⟨p, vs, rfl, hp, t⟩ := hx.lst sg
    exact sl_list pins s σ H _ v vl vu lo hi sl Q I rx hs pl pu ⟨p, vs, rfl, SqL.of hp, fun l hl => q (.ref l) G _ (Stp.hid sg hl) ⟨l, rfl, hl, sg.free hl, _, upd_same, cut_of t lo hi⟩⟩
  · cases e
    obtain ⟨p, rfl, hp⟩ := hx.scr sg
    refine sl_list pins s σ H _ v vl vu lo hi sl Q I rx hs pl pu ⟨p, _, rfl, hp, fun l hl => q (.ref l) G _ (Stp.hid sg hl) ⟨l, rfl, hl, sg.free hl, _, upd_same, ?_⟩⟩
    have e0 : ∀ ns : List Int, cutV (ns.map V.int) lo hi = (cutD ns lo hi).map V.int := fun ns => by
      unfold cutV cutD
      rw [List.length_map, List.map_take, List.map_drop]
    rw [e0]
    exact .ints _
  · split at e
    · cases e
    · rename_i ds hw
      cases e
      obtain ⟨p, vs, rfl, hp, t⟩ := hx.tup sg
      exact sl_tup pins s σ H _ v vl vu lo hi sl Q I rx hs pl pu ⟨p, vs, rfl, hp, by rw [t.length]; exact hw, fun l hl => q (.ref l) _ _ (Stp.new sg hl) (.tup upd_same ((cut_of t lo hi).same (same_upd (sg.free hl))))⟩
  · split at e
    · rename_i z hz
      cases e
      exact sl_str pins s σ H _ v vl vu lo hi sl Q I rx hs pl pu ⟨z, hx.str, by rw [szl]; exact hz, q _ G H (Stp.refl sg) (.str _)⟩
    · cases e
  · cases e
def tO (K : PySem.W.Frag) (cn : Cn) (W : WX) : Option (En → Option R) → TO
  | none => tNoPart
  | some f => tPart (tD K cn W f)
theorem do_none : PO X none (tO X.K cn W none) := po_none
theorem do_some (h : DE X cn W e f) : PO X (some e) (tO X.K cn W (some f)) := po_some h
def bO (fo : Option (En → Option R)) (en : En) (k : Option Int → Option R) : Option R := match fo with
  | none => k none
  | some g => bR (g en) fun d => match d with
    | .int i => k (some i)
    | _ => none
theorem eo_bind {fo : Option (En → Option R)} {k : Option Int → Option R} {r : R} {G H : Hp} {σ : L2.St} {en : En} {Q : VK} {T : Option Int → Hp → Prop} (sr : SR X.K cn G H σ en) (e : bO fo en k = some r) (q : RQ X.K cn G H Q (fun c d H' => W c d σ H') r)
    (cont : ∀ o G1 H1, Stp G H G1 H1 → SR X.K cn G1 H1 σ en → k o = some r → RQ X.K cn G1 H1 Q (fun c d H' => W c d σ H') r → T o H1) : tO X.K cn W fo σ H T := by
  cases fo with
  | none => exact cont none G H (Stp.refl sr.sub) sr e q
  | some g =>
    refine ev_bind sr e q fun v d G1 H1 st sr1 hv e1 q1 => ?_
    cases d with
    | int i => exact ⟨i, hv.int, cont (some i) G1 H1 st sr1 e1 q1⟩
    | _ => cases e1
def fSl (fa : En → Option R) (lo hi : Option (En → Option R)) : En → Option R := fun en => bR (fa en) fun x => bO lo en fun l => bO hi en fun h => lf (slD x l h)
theorem de_sl {lo hi : Option Expr} {fl fh : Option (En → Option R)} (ha : DE X cn W a fa) (hl : PO X lo (tO X.K cn W fl)) (hh : PO X hi (tO X.K cn W fh)) : DE X cn W (.Subscript a (.Slice lo hi none p2) pos) (fSl fa fl fh) := by
  refine PE.imp (pe_slice (sl_ok (cn := cn)) ha hl hh) ?_
  rintro σ H Q ⟨G, en, r, sr, e, q⟩
  refine ev_bind sr e q fun x dx G1 H1 s1 sr1 hx e1 q1 => ?_
  refine eo_bind sr1 e1 q1 fun l G2 H2 s2 sr2 e2 q2 => ?_
  refine eo_bind sr2 e2 q2 fun h G3 H3 s3 sr3 e3 q3 => ?_
  obtain ⟨k, d, e4, rfl⟩ := lf_some e3
  exact ⟨G3, dx, k, d, sr3.sub, (hx.step s2).step s3, e4, q3⟩
/-- xs[::-1] -/
def revD : D → Option (Kd × D)
  | .lst ds => some (.nw, .lst ds.reverse)
  | .scr ns => some (.nw, .lst (ns.reverse.map .int))
  | _ => none
theorem de_rev {k : Nat} {p1 p2 p3 : Pos} (ha : DE X cn W a fa) : DE X cn W (.Subscript a (.Slice none none (some (.UnaryOp .USub (.Constant (.int 1) k p1) p2)) p3) pos) (fUn revD fa) := by
  refine PE.imp (pe_revL ha) ?_
  rintro σ H Q ⟨G, en, r, sr, e, q⟩
  refine ev_bind sr e q fun x dx G1 H1 s1 sr1 hx e1 q1 => ?_
  obtain ⟨k, d, e3, rfl⟩ := lf_some e1
  have sg := sr1.sub
  unfold revD at e3
  split at e3
  · cases e3
    obtain ⟨p, vs, rfl, hp, t⟩ := hx.lst sg
    exact ⟨p, vs, rfl, SqL.of hp, fun l hl => q1 (.ref l) G1 _ (Stp.hid sg hl) ⟨l, rfl, hl, sg.free hl, _, upd_same, t.rev⟩⟩
  · cases e3
    obtain ⟨p, rfl, hp⟩ := hx.scr sg
    refine ⟨p, _, rfl, hp, fun l hl => q1 (.ref l) G1 _ (Stp.hid sg hl) ⟨l, rfl, hl, sg.free hl, _, upd_same, ?_⟩⟩
    rw [← List.map_reverse]
    exact .ints _
  · cases e3

/-! ### len, int, list, tuple, str, max, min, abs -/
def lenD : D → Option (Kd × D)
  | .lst ds => some (.sh, .int ds.length)
  | .tup ds => some (.sh, .int ds.length)
  | .scr ns => some (.sh, .int ns.length)
  | .dct dks => some (.sh, .int dks.length)
  | .str z => if z.length ≤ 16777216 then some (.sh, .int z.length) else none
  | _ => none
theorem len_ok : CallR X (.builtin "len") (rB1 X.K cn lenD) := by
  rintro pins s σ H xs us Q I r ⟨x, rfl, G, dx, k, d, sg, hx, e, q⟩
  unfold lenD at e
  split at e
  · cases e
    obtain ⟨p, vs, rfl, hp, t⟩ := hx.lst sg
    refine call_len_seq pins s σ H _ us Q I r ⟨p, vs, rfl, .inl (SqL.of hp), ?_⟩
    rw [t.length]; exact q _ G H (Stp.refl sg) (.int _)
  · cases e
    obtain ⟨p, vs, rfl, hp, t⟩ := hx.tup sg
    refine call_len_seq pins s σ H _ us Q I r ⟨p, vs, rfl, .inr hp, ?_⟩
    rw [t.length]; exact q _ G H (Stp.refl sg) (.int _)
  · cases e
    obtain ⟨p, rfl, hp⟩ := hx.scr sg
    refine call_len_seq pins s σ H _ us Q I r ⟨p, _, rfl, .inl hp, ?_⟩
    rw [List.length_map]; exact q _ G H (Stp.refl sg) (.int _)
  · cases e
    obtain ⟨p, kvs, rfl, hp, hk, t⟩ := hx.dct sg
    obtain ⟨u, rfl, ru⟩ := vals1 r
    cases ru
    have hl := congrArg List.length hk
    rw [List.length_map, List.length_map] at hl
    refine d_len I hp fun t s' I' => ⟨.int kvs.length, H, I', ⟨t, rfl⟩, ?_⟩
    rw [hl]
    exact q _ G H (Stp.refl sg) (.int _)
  · split at e
    · rename_i z hz
      cases e
      have h := hx.str; subst h
      exact call_len_str pins s σ H _ us Q I r ⟨z, rfl, by rw [szl]; exact hz, q _ G H (Stp.refl sg) (.int _)⟩
    · cases e
  · cases e
def intD : D → Option (Kd × D)
  | .int i => some (.sh, .int i)
  | .bl b => some (.sh, .int (if b then 1 else 0))
  | _ => none
theorem int_ok : CallR X (.type "int") (rB1 X.K cn intD) := by
  rintro pins s σ H xs us Q I r ⟨x, rfl, G, dx, k, d, sg, hx, e, q⟩
  cases dx with
  | int i =>
    cases e
    have h := hx.int; subst h
    exact call_int1 pins s σ H _ us Q I r (.inl ⟨i, rfl, q _ G H (Stp.refl sg) (.int _)⟩)
  | bl i =>
    cases e
    have h := hx.bl; subst h
    exact call_int1 pins s σ H _ us Q I r (.inr ⟨i, rfl, q _ G H (Stp.refl sg) (.int _)⟩)
  | _ => cases e
def strD : D → Option (Kd × D)
  | .int i => if i.natAbs.log2 < 1920 then some (.sh, .str (toString i)) else none
  | _ => none
def kD : Key → D
  | .inl i => .int i
  | .inr x => .str x
theorem Dt.key {K : PySem.W.Frag} {cn : Cn} {G : Hp} (k : Key) : Dt K cn G (kV k) (kD k) := by
  cases k with
  | inl i => exact .int i
  | inr x => exact .str x
theorem DtL.keys {K : PySem.W.Frag} {cn : Cn} {G : Hp} : ∀ (ks : List Key), DtL K cn G (ks.map kV) (ks.map kD)
  | [] => .nil
  | k :: r => .cons (Dt.key k) (DtL.keys r)
def listD : D → Option (Kd × D)
  | .lst ds => some (.nw, .lst ds)
  | .tup ds => some (.nw, .lst ds)
  | .scr ns => some (.nw, .lst (ns.map .int))
  | .dct dks => some (.nw, .lst (dks.map fun kv => kD kv.1))
  | _ => none
theorem list_ok (hc : X.calm = true) : CallR X (.type "list") (rB1 X.K cn listD) := by
  rintro pins s σ H xs us Q I r ⟨x, rfl, G, dx, k, d, sg, hx, e, q⟩
  unfold listD at e
  split at e
  · cases e
    obtain ⟨p, vs, rfl, hp, t⟩ := hx.lst sg
    exact call_list_of pins s σ H _ us Q I r ⟨p, vs, rfl, .inl (SqL.of hp), fun l hl => q (.ref l) G _ (Stp.hid sg hl) ⟨l, rfl, hl, sg.free hl, _, upd_same, t⟩⟩
  · cases e
    obtain ⟨p, vs, rfl, hp, t⟩ := hx.tup sg
    exact call_list_of pins s σ H _ us Q I r ⟨p, vs, rfl, .inr hp, fun l hl => q (.ref l) G _ (Stp.hid sg hl) ⟨l, rfl, hl, sg.free hl, _, upd_same, t⟩⟩
  · cases e
    obtain ⟨p, rfl, hp⟩ := hx.scr sg
    exact call_list_of pins s σ H _ us Q I r ⟨p, _, rfl, .inl hp, fun l hl => q (.ref l) G _ (Stp.hid sg hl) ⟨l, rfl, hl, sg.free hl, _, upd_same, .ints _⟩⟩
  · cases e
    obtain ⟨p, kvs, rfl, hp, hk, t⟩ := hx.dct sg
    refine call_listD hc pins s σ H _ us Q I r ⟨p, kvs, rfl, hp, fun l hl => q (.ref l) G _ (Stp.hid sg hl) ⟨l, rfl, hl, sg.free hl, _, upd_same, ?_⟩⟩
    have e1 : kvs.map (fun kv => kV kv.1) = (kvs.map (·.1)).map kV := by rw [List.map_map]; rfl
    have e3 : kvs.map (fun kv => kV kv.1) = (kvs.map (·.1)).map kV := e1
    rw [e3, hk]
    have e4 : ∀ dks : List (Key × D), (dks.map fun kv => kD kv.1) = (dks.map (·.1)).map kD := fun dks => by rw [List.map_map]; rfl
    rw [e4]
    exact .keys _
  · cases e
def tupD : D → Option (Kd × D)
  | .lst ds => some (.sh, .tup ds)
  | .scr ns => some (.sh, .tup (ns.map .int))
  | _ => none
theorem tup_ok : CallR X (.type "tuple") (rB1 X.K cn tupD) := by
  rintro pins s σ H xs us Q I r ⟨x, rfl, G, dx, k, d, sg, hx, e, q⟩
  unfold tupD at e
  split at e
  · cases e
    obtain ⟨p, vs, rfl, hp, t⟩ := hx.lst sg
    exact call_tuple_of pins s σ H _ us Q I r ⟨p, vs, rfl, .inl ⟨SqL.of hp, fun l hl => q (.ref l) _ _ (Stp.new sg hl) (.tup upd_same (t.same (same_upd (sg.free hl))))⟩⟩
  · cases e
    obtain ⟨p, rfl, hp⟩ := hx.scr sg
    exact call_tuple_of pins s σ H _ us Q I r ⟨p, _, rfl, .inl ⟨hp, fun l hl => q (.ref l) _ _ (Stp.new sg hl) (.tup upd_same (.ints _))⟩⟩
  · cases e
def absD : D → Option (Kd × D)
  | .int i => some (.sh, .int (if i < 0 then -i else i))
  | _ => none
def max2D : List D → Option (Kd × D)
  | [.int i, .int j] => some (.sh, .int (if j > i then j else i))
  | _ => none
def min2D : List D → Option (Kd × D)
  | [.int i, .int j] => some (.sh, .int (if j < i then j else i))
  | _ => none
theorem DtL.two {K : PySem.W.Frag} {G : Hp} {vs : List V} {i j : Int} (h : DtL K cn G vs [.int i, .int j]) : vs = [.int i, .int j] := by
  cases h with
  | cons h t => cases h; cases t with
    | cons h t => cases h; cases t; rfl
theorem max2_ok (hc : X.calm = true) : CallR X (.builtin "max") (rBn X.K cn max2D) := by
  rintro pins s σ H xs us Q I r ⟨G, ds, k, d, sg, hx, e, q⟩
  unfold max2D at e
  split at e
  · cases e
    have h := hx.two; subst h
    exact call_max2 hc pins s σ H _ us Q I r ⟨_, _, rfl, q _ G H (Stp.refl sg) (.int _)⟩
  · cases e
theorem min2_ok (hc : X.calm = true) : CallR X (.builtin "min") (rBn X.K cn min2D) := by
  rintro pins s σ H xs us Q I r ⟨G, ds, k, d, sg, hx, e, q⟩
  unfold min2D at e
  split at e
  · cases e
    have h := hx.two; subst h
    exact call_min2 hc pins s σ H _ us Q I r ⟨_, _, rfl, q _ G H (Stp.refl sg) (.int _)⟩
  · cases e

/-! ### all, any, sum -/
def blsOf : List D → Option (List Bool)
  | [] => some []
  | .bl b :: r => (blsOf r).map (b :: ·)
  | _ => none
def intsOf : List D → Option (List Int)
  | [] => some []
  | .int b :: r => (intsOf r).map (b :: ·)
  | _ => none
def strsOf : List D → Option (List Str)
  | [] => some []
  | .str b :: r => (strsOf r).map (b :: ·)
  | _ => none
theorem blsOf_eq : ∀ {ds : List D} {bs : List Bool}, blsOf ds = some bs → ds = bs.map D.bl
  | [], _, e => by cases e; rfl
  | .bl b :: r, _, e => by
    obtain ⟨bs, h, rfl⟩ := Option.map_eq_some_iff.mp e
    rw [blsOf_eq h]; rfl
  | .non :: _, _, e | .int _ :: _, _, e | .str _ :: _, _, e | .ty _ :: _, _, e | .cl _ :: _, _, e | .scr _ :: _, _, e | .lst _ :: _, _, e | .tup _ :: _, _, e | .dct _ :: _, _, e | .ins _ _ :: _, _, e => by cases e
theorem intsOf_eq : ∀ {ds : List D} {bs : List Int}, intsOf ds = some bs → ds = bs.map D.int
  | [], _, e => by cases e; rfl
  | .int b :: r, _, e => by
    obtain ⟨bs, h, rfl⟩ := Option.map_eq_some_iff.mp e
    rw [intsOf_eq h]; rfl
  | .non :: _, _, e | .bl _ :: _, _, e | .str _ :: _, _, e | .ty _ :: _, _, e | .cl _ :: _, _, e | .scr _ :: _, _, e | .lst _ :: _, _, e | .tup _ :: _, _, e | .dct _ :: _, _, e | .ins _ _ :: _, _, e => by cases e
theorem strsOf_eq : ∀ {ds : List D} {bs : List Str}, strsOf ds = some bs → ds = bs.map D.str
  | [], _, e => by cases e; rfl
  | .str b :: r, _, e => by
    obtain ⟨bs, h, rfl⟩ := Option.map_eq_some_iff.mp e
    rw [strsOf_eq h]; rfl
  | .non :: _, _, e | .bl _ :: _, _, e | .int _ :: _, _, e | .ty _ :: _, _, e | .cl _ :: _, _, e | .scr _ :: _, _, e | .lst _ :: _, _, e | .tup _ :: _, _, e | .dct _ :: _, _, e | .ins _ _ :: _, _, e => by cases e
theorem intsOf_map (bs : List Int) : intsOf (bs.map D.int) = some bs := by
  induction bs with
  | nil => rfl
  | cons b r ih => show (intsOf (r.map D.int)).map (b :: ·) = _; rw [ih]; rfl
theorem strsOf_map (bs : List Str) : strsOf (bs.map D.str) = some bs := by
  induction bs with
  | nil => rfl
  | cons b r ih => show (strsOf (r.map D.str)).map (b :: ·) = _; rw [ih]; rfl
def allD : D → Option (Kd × D)
  | .lst ds => (blsOf ds).map fun bs => (.sh, .bl (bs.all id))
  | _ => none
theorem all_ok (hc : X.calm = true) : CallR X (.builtin "all") (rB1 X.K cn allD) := by
  rintro pins s σ H xs us Q I r ⟨x, rfl, G, dx, k, d, sg, hx, e, q⟩
  cases dx with
  | lst ds =>
    obtain ⟨bs, hb, e⟩ := Option.map_eq_some_iff.mp e
    cases e
    obtain ⟨p, vs, rfl, hp, t⟩ := hx.lst sg
    rw [blsOf_eq hb] at t
    have h := DtL.bls_inv bs t; subst h
    exact cr_all hc pins s σ H _ us Q I r ⟨p, bs, rfl, SqL.of hp, q _ G H (Stp.refl sg) (.bl _)⟩
  | _ => cases e
/-! ### isinstance -/
def tyD : D → Option String
  | .non => some "NoneType"
  | .bl _ => some "bool"
  | .int _ => some "int"
  | .str _ => some "str"
  | .lst _ => some "list"
  | .scr _ => some "list"
  | .tup _ => some "tuple"
  | .dct _ => some "dict"
  | _ => none
def subT (a b : String) : Bool := a == b || (a == "bool" && b == "int")
def isiD (T : String) : D → Option (Kd × D) := fun d => (tyD d).map fun a => (.sh, .bl (subT a T))
theorem kit_all : ∀ a ∈ ["NoneType", "bool", "int", "str", "list", "tuple", "dict"], ∀ b ∈ ["bool", "int", "str", "list", "tuple", "dict"], kitB a b = some (subT a b) := by decide +kernel
theorem ty_of {K : PySem.W.Frag} {G H : Hp} {v : V} {d : D} {a : String} (sg : Same G H) (h : DB K cn G H v d) (e : tyD d = some a) : TyX K H v (.type a) ∧ a ∈ ["NoneType", "bool", "int", "str", "list", "tuple", "dict"] := by
  cases d with
  | non => cases e; rw [h.non]; exact ⟨.base .non, by simp⟩
  | bl b => cases e; rw [h.bl]; exact ⟨.base (.bl _), by simp⟩
  | int b => cases e; rw [h.int]; exact ⟨.base (.int _), by simp⟩
  | str b => cases e; rw [h.str]; exact ⟨.base (.str _), by simp⟩
  | lst ds =>
    cases e
    obtain ⟨p, vs, rfl, hp, t⟩ := h.lst sg
    exact ⟨.base (.lst hp), by simp⟩
  | scr ns =>
    cases e
    obtain ⟨p, rfl, hp⟩ := h.scr sg
    refine ⟨?_, by simp⟩
    rcases hp with (hp | ⟨o, hp⟩) | ⟨o, its, n, h1, h2, _⟩
    · exact .base (.lst hp)
    · exact .base (.frz hp)
    · exact .kList h1 h2
  | tup ds =>
    cases e
    obtain ⟨p, vs, rfl, hp, t⟩ := h.tup sg
    refine ⟨?_, by simp⟩
    rcases hp with (hp | ⟨o, hp⟩) | ⟨o, its, n, h1, h2, _⟩
    · exact .base (.tup hp)
    · exact .fTuple hp
    · exact .kTuple h1 h2
  | dct ds =>
    cases e
    obtain ⟨p, kvs, rfl, hp, _, t⟩ := h.dct sg
    refine ⟨?_, by simp⟩
    rcases hp with hp | ⟨o, hp⟩
    · exact .base (.dK hp)
    · exact .fDict hp
  | _ => cases e
theorem de_isi {T : String} {p : Pos} (hT : T ∈ ["bool", "int", "str", "list", "tuple", "dict"]) (hg : Gl X "isinstance") (hm : X.mg "isinstance" = none) (ha : DE X cn W e f) (hb : PE X c (tC (.ty T)))
    (hs : starEach [e, c] X.env = (false, eval e X.env) :: starEach [c] X.env := by rfl) (hs2 : starEach [c] X.env = (false, eval c X.env) :: starEach [] X.env := by rfl) (hpl : (backTo pos (starEach [c] X.env)).any (·.1) = false := by rfl) :
    DE X cn W (.Call (.Name "isinstance" p) [e, c] [] pos) (fUn (isiD T) f) := by
  refine PE.imp (pe_callB call_isi hg hm (by decide +kernel) (pa_cons ha (pa_cons hb pa_nil hs2) hs) (by decide) (by decide) hs hpl) ?_
  rintro σ H Q ⟨G, en, r, sr, e, q⟩
  refine ev_bind sr e q fun x dx G1 H1 s1 sr1 hx e1 q1 => ?_
  obtain ⟨k, d, e3, rfl⟩ := lf_some e1
  obtain ⟨a, ea, e4⟩ := Option.map_eq_some_iff.mp e3
  cases e4
  obtain ⟨h1, h2⟩ := ty_of sr1.sub hx ea
  exact ⟨x, .ty T, _, _, subT a T, rfl, .ty T, h1, kit_ty (kit_all a h2 T hT), q1 _ G1 H1 (Stp.refl sr1.sub) (.bl _)⟩

/-! ### sep.join(xs) -/
def joinD (a : Str) : D → Option (Kd × D)
  | .lst ds => match strsOf ds with
    | some ys => if (ys.map (·.length)).sum + ys.length * a.length ≤ 16777216 then some (.sh, .str (Txt.join a ys)) else none
    | none => none
  | _ => none
/-- a method of a text with one argument -/
def fSm (g : Str → D → Option (Kd × D)) (fa fb : En → Option R) : En → Option R := fun en => bR (fa en) fun x => match x with
  | .str a => bR (fb en) fun y => lf (g a y)
  | _ => none
theorem de_join (h : PE X e (tM1 (fun x xs H Q => ∃ a p, ∃ ys : List Str, x = .str a ∧ xs = [.ref p] ∧ (SqL X.K H p (ys.map V.str) ∨ SqT X.K H p (ys.map V.str)) ∧
    (ys.map (·.length)).sum + ys.length * a.length ≤ 16777216 ∧ Q (.str (Txt.join a ys)) H) (tD X.K cn W fa) (tD X.K cn W fb))) : DE X cn W e (fSm joinD fa fb) := by
  refine PE.imp h ?_
  rintro σ H Q ⟨G, en, r, sr, e, q⟩
  refine ev_bind sr e q fun x dx G1 H1 s1 sr1 hx e1 q1 => ?_
  cases dx with
  | str a =>
    have hxs := hx.str
    refine ⟨⟨a, hxs⟩, ?_⟩
    refine ev_bind sr1 e1 q1 fun y dy G2 H2 s2 sr2 hy e2 q2 => ?_
    obtain ⟨k, d, e3, rfl⟩ := lf_some e2
    cases dy with
    | lst ds =>
      replace e3 : (match strsOf ds with | some ys => if (ys.map (·.length)).sum + ys.length * a.length ≤ 16777216 then some (Kd.sh, D.str (Txt.join a ys)) else none | none => none) = some (k, d) := e3
      split at e3
      · rename_i ys hy2
        split at e3
        · rename_i hc
          cases e3
          obtain ⟨p, vs, rfl, hp, t⟩ := hy.lst sr2.sub
          rw [strsOf_eq hy2] at t
          have h := DtL.strs_inv ys t; subst h
          exact ⟨a, p, ys, hxs, rfl, .inl (SqL.of hp), hc, q2 _ G2 H2 (Stp.refl sr2.sub) (.str _)⟩
        · cases e3
      · cases e3
    | _ => cases e3
  | _ => cases e1
end
end PD
/-! PD6: targets, what is walked, list comprehensions. -/
namespace PD
open PySem L2
section
variable {K : PySem.W.Frag} {cn : Cn}

/-! ### slots that are set -/
abbrev Ws := List (Nat × V × D)
def setE (en : En) (ws : Ws) : En := ws.foldl (fun en w => en.set w.1 (some (.sh w.2.2))) en
def setS (σ : L2.St) (ws : Ws) : L2.St := ws.foldl (fun σ w => σ.set w.1 (some w.2.1)) σ
theorem SR.set {G H : Hp} {σ : L2.St} {en : En} (s : SR K cn G H σ en) {i : Nat} {v : V} {d : D} (h : Dt K cn G v d) : SR K cn G H (σ.set i (some v)) (en.set i (some (.sh d))) := by
  refine ⟨s.sub, fun j x e => ?_, by rw [List.length_set, List.length_set, s.len]⟩
  by_cases q : i = j
  · subst q
    rw [List.getElem?_set] at e
    rw [if_pos rfl] at e
    split at e
    · rename_i hl
      cases e
      refine ⟨v, ?_, h⟩
      rw [List.getElem?_set_self (by rw [← s.len]; exact hl)]
    · cases e
  · rw [List.getElem?_set_ne q] at e
    have := s.sl j x e
    cases x with
    | sh d => obtain ⟨v', e1, h1⟩ := this; exact ⟨v', by rw [List.getElem?_set_ne q]; exact e1, h1⟩
    | ow d => obtain ⟨p, e1, h1⟩ := this; exact ⟨p, by rw [List.getElem?_set_ne q]; exact e1, h1⟩
    | exc => obtain ⟨p, e1, h1⟩ := this; exact ⟨p, by rw [List.getElem?_set_ne q]; exact e1, h1⟩
theorem SR.sets {G H : Hp} : ∀ (ws : Ws) {σ : L2.St} {en : En}, SR K cn G H σ en → (∀ w ∈ ws, Dt K cn G w.2.1 w.2.2) → SR K cn G H (setS σ ws) (setE en ws)
  | [], _, _, s, _ => s
  | w :: ws, _, _, s, h => SR.sets ws (s.set (i := w.1) (h w List.mem_cons_self)) fun x hx => h x (List.mem_cons_of_mem _ hx)

/-! ### targets -/
/-- the target g stores what h says at the places ix -/
def DG (K : PySem.W.Frag) (cn : Cn) (g : TG) (h : D → En → Option En) (ix : List Nat) : Prop := ∀ v d en en' σ G H (Q : L2.St → Hp → Prop), Same G H → Dt K cn G v d → h d en = some en' →
  (∀ ws : Ws, en' = setE en ws → ws.map (·.1) = ix → (∀ w ∈ ws, Dt K cn G w.2.1 w.2.2) → Q (setS σ ws) H) → g v σ H Q
def DGs (K : PySem.W.Frag) (cn : Cn) (g : TGs) (h : List D → En → Option En) (ix : List Nat) : Prop := ∀ vs ds en en' σ G H (Q : L2.St → Hp → Prop), Same G H → DtL K cn G vs ds → h ds en = some en' →
  (∀ ws : Ws, en' = setE en ws → ws.map (·.1) = ix → (∀ w ∈ ws, Dt K cn G w.2.1 w.2.2) → Q (setS σ ws) H) → g vs σ H Q
def hName (i : Nat) : D → En → Option En := fun d en => some (en.set i (some (.sh d)))
def hNil : List D → En → Option En := fun ds en => match ds with
  | [] => some en
  | _ => none
def hCons (h : D → En → Option En) (hs : List D → En → Option En) : List D → En → Option En := fun ds en => match ds with
  | d :: r => (h d en).bind fun en1 => hs r en1
  | [] => none
def hTup (n : Nat) (hs : List D → En → Option En) : D → En → Option En := fun d en => match d with
  | .tup ds => if ds.length = n then hs ds en else none
  | _ => none
theorem dg_name (i : Nat) : DG K cn (gName i) (hName i) [i] := fun v d en en' σ G H Q _ hd e k => by
  cases e
  exact k [(i, v, d)] rfl rfl fun w hw => by
    have : w = (i, v, d) := by simpa using hw
    subst this; exact hd
theorem dgs_nil : DGs K cn gNil hNil [] := fun vs ds en en' σ G H Q _ hd e k => by
  cases hd with
  | nil => cases e; exact ⟨rfl, k [] rfl rfl fun w hw => by cases hw⟩
  | cons _ _ => cases e
theorem dgs_cons {g : TG} {gs : TGs} {h : D → En → Option En} {hs : List D → En → Option En} {ix ixs : List Nat} (h1 : DG K cn g h ix) (h2 : DGs K cn gs hs ixs) : DGs K cn (gCons g gs) (hCons h hs) (ix ++ ixs) := fun vs ds en en' σ G H Q sg hd e k => by
  cases hd with
  | nil => cases e
  | cons d0 dr =>
    obtain ⟨en1, e1, e2⟩ := Option.bind_eq_some_iff.mp e
    refine ⟨_, _, rfl, h1 _ _ en en1 σ G H _ sg d0 e1 fun ws ew ei hw => ?_⟩
    subst ew
    refine h2 _ _ _ en' _ G H _ sg dr e2 fun ws2 ew2 ei2 hw2 => ?_
    have es : setS (setS σ ws) ws2 = setS σ (ws ++ ws2) := by unfold setS; rw [List.foldl_append]
    have ee : setE (setE en ws) ws2 = setE en (ws ++ ws2) := by unfold setE; rw [List.foldl_append]
    rw [es]
    refine k (ws ++ ws2) (by rw [ew2, ee]) (by rw [List.map_append, ei, ei2]) fun w hm => ?_
    rcases List.mem_append.mp hm with hm | hm
    · exact hw w hm
    · exact hw2 w hm
theorem dg_tup {n : Nat} {gs : TGs} {hs : List D → En → Option En} {ixs : List Nat} (h : DGs K cn gs hs ixs) : DG K cn (gTup K n gs) (hTup n hs) ixs := fun v d en en' σ G H Q sg hd e k => by
  unfold hTup at e
  split at e
  · split at e
    · rename_i ds hn
      cases hd with
      | tup hp t => exact ⟨_, _, rfl, SqT.of (sg _ _ hp), by rw [t.length]; exact hn, h _ _ en en' σ G H Q sg t e k⟩
    · cases e
  · cases e

/-! ### what is walked -/
def Gives (K : PySem.W.Frag) (cn : Cn) (J : It) (G : Hp) (ds : List D) : Prop := ∀ G' H', Same G G' → Same G' H' → ∀ i,
  (∀ d, ds[i]? = some d → J.go i H' ∧ ∀ x H2, J.yld i H' x H2 → ∃ G2, Stp G' H' G2 H2 ∧ Dt K cn G2 x d) ∧ (i = ds.length → J.stop i H')
theorem Gives.same {J : It} {G G1 : Hp} {ds : List D} (s : Same G G1) (h : Gives K cn J G ds) : Gives K cn J G1 ds := fun G' H' a b => h G' H' (s.trans a) b
def tI (K : PySem.W.Frag) (cn : Cn) (W : WX) (f : En → Option RA) : TI := fun σ H R => ∃ G en r, SR K cn G H σ en ∧ f en = some r ∧ match r with
  | .vals ds => ∀ J G' H', Stp G H G' H' → Gives K cn J G' ds → R J H'
  | .er c d => ∀ dx v G' H', Stp G H G' H' → H' dx = some (.xd [(Xd, v)]) → Dt K cn G' v d → W (.ref (cn c)) (some dx) σ H'
theorem PI.imp {X : Cx} {tg e : Expr} {t u : TI} (h : PI X tg e t) (i : ∀ σ H R, u σ H R → t σ H R) : PI X tg e u := ⟨fun pins s σ H R I q => h.run pins s σ H R I (i σ H R q)⟩
theorem PI.or {X : Cx} {tg e : Expr} {t u : TI} (h : PI X tg e t) (h2 : PI X tg e u) : PI X tg e (fun σ H R => t σ H R ∨ u σ H R) := ⟨fun pins s σ H R I q => q.elim (h.run pins s σ H R I) (h2.run pins s σ H R I)⟩
abbrev DI (X : Cx) (cn : Cn) (W : WX) (tg e : Expr) (f : En → Option RA) : Prop := PI X tg e (tI X.K cn W f)
def itemsD : D → Option (List D)
  | .lst ds => some ds
  | .tup ds => some ds
  | .scr ns => some (ns.map .int)
  | .str z => some (z.cps.toList.map fun c => .str ⟨#[c]⟩)
  | .dct dks => some (dks.map fun kv => kD kv.1)
  | _ => none
def fItems (f : En → Option R) : En → Option RA := fun en => match shr (f en) with
  | some (.val _ d) => (itemsD d).map .vals
  | some (.er c d) => some (.er c d)
  | none => none
theorem gives_list {a : Addr} {G : Hp} {vs : List V} {ds : List D} (h : SqL K G a vs) (t : DtL K cn G vs ds) : Gives K cn (Itl K a) G ds := fun G' H' s1 s2 i => by
  have h' : SqL K H' a vs := s2.seq (s1.seq h)
  refine ⟨fun d hd => ?_, fun hl => ⟨vs, h', by rw [t.length, hl]; exact Nat.le_refl _⟩⟩
  obtain ⟨v, hv, dv⟩ := t.get hd
  refine ⟨⟨vs, v, h', hv⟩, fun x H2 y => ?_⟩
  obtain ⟨rfl, hx⟩ := y
  have := hx vs h'
  rw [hv] at this; cases this
  exact ⟨G', Stp.refl s2, dv.same s1⟩
theorem gives_tup {a : Addr} {G : Hp} {vs : List V} {ds : List D} (h : SqT K G a vs) (t : DtL K cn G vs ds) : Gives K cn (Itt K a) G ds := fun G' H' s1 s2 i => by
  have h' : SqT K H' a vs := seqT s2 (seqT s1 h)
  refine ⟨fun d hd => ?_, fun hl => ⟨vs, h', by rw [t.length, hl]; exact Nat.le_refl _⟩⟩
  obtain ⟨v, hv, dv⟩ := t.get hd
  refine ⟨⟨vs, v, h', hv⟩, fun x H2 y => ?_⟩
  obtain ⟨rfl, hx⟩ := y
  have := hx vs h'
  rw [hv] at this; cases this
  exact ⟨G', Stp.refl s2, dv.same s1⟩
theorem gives_str {z : Str} {G : Hp} : Gives K cn (Its z) G (z.cps.toList.map fun c => D.str ⟨#[c]⟩) := fun G' H' s1 s2 i => by
  refine ⟨fun d hd => ?_, fun hl => ?_⟩
  · rw [List.getElem?_map] at hd
    obtain ⟨c, hc, rfl⟩ := Option.map_eq_some_iff.mp hd
    rw [Array.getElem?_toList] at hc
    refine ⟨(Array.getElem?_eq_some_iff.mp hc).1, fun x H2 y => ?_⟩
    obtain ⟨rfl, c', hc', rfl⟩ := y
    rw [hc] at hc'; cases hc'
    exact ⟨G', Stp.refl s2, .str _⟩
  · rw [List.length_map, Array.length_toList] at hl
    exact Nat.le_of_eq hl.symm
theorem gives_keys {K : PySem.W.Frag} {G : Hp} {a : Addr} {o : Obj} {kvs : List (Key × V)} {dks : List (Key × D)} (hp : G a = some (.frz o (.dK kvs))) (hk : kvs.map (·.1) = dks.map (·.1)) : Gives K cn (Itk a o kvs) G (dks.map fun kv => kD kv.1) := fun G' H' s1 s2 i => by
  have e := s2 _ _ (s1 _ _ hp)
  have hl : kvs.length = dks.length := by have := congrArg List.length hk; rwa [List.length_map, List.length_map] at this
  refine ⟨fun d hd => ?_, fun hi => ⟨e, by rw [hi, List.length_map, hl]; exact Nat.le_refl _⟩⟩
  rw [List.getElem?_map] at hd
  obtain ⟨kv, h1, rfl⟩ := Option.map_eq_some_iff.mp hd
  have h2 : i < dks.length := (List.getElem?_eq_some_iff.mp h1).1
  refine ⟨⟨e, by omega⟩, fun x H2 y => ?_⟩
  obtain ⟨rfl, k, v, h3, rfl⟩ := y
  have h4 := congrArg (·[i]?) hk
  simp only [List.getElem?_map, h3, h1, Option.map_some, Option.some.injEq] at h4
  rw [show k = kv.1 from h4]
  exact ⟨G', Stp.refl s2, Dt.key _⟩
theorem di_items {X : Cx} {W : WX} {tg e : Expr} {f : En → Option R} (h : DE X cn W e f) : DI X cn W tg e (fItems f) := by
  refine PI.imp (PI.or (pi_list (de_z h)) (PI.or (pi_tup (de_z h)) (PI.or (pi_str (de_z h)) (pi_keys (de_z h))))) ?_
  rintro σ H Rr ⟨G, en, r, sr, e, q⟩
  unfold fItems at e
  cases hf : f en with
  | none => rw [hf] at e; cases e
  | some x =>
    rw [hf] at e
    cases x with
    | er c d =>
      cases e
      exact .inl ⟨G, en, _, sr, hf, q⟩
    | val kd d =>
      have see : ∀ T : V → Hp → Prop, (kd ≠ .bo) → (∀ v G1 H1, Stp G H G1 H1 → Dt X.K cn G1 v d → T v H1) → tZ X.K cn W f σ H T := fun T hk k => by
        refine ⟨G, en, _, sr, hf, ?_⟩
        cases kd with
        | sh => exact fun v G1 H1 st vi => k v G1 H1 st vi
        | nw => exact fun v G1 H1 st vi => k v G1 H1 st vi
        | bo => exact absurd rfl hk
      have hk : kd ≠ .bo := by rintro rfl; cases e
      have e' : (itemsD d).map RA.vals = some r := by cases kd with
        | sh => exact e
        | nw => exact e
        | bo => exact absurd rfl hk
      obtain ⟨ds, hds, rfl⟩ := Option.map_eq_some_iff.mp e'
      cases d with
      | lst xs =>
        cases hds
        refine .inl (see _ hk fun v G1 H1 st dv => ?_)
        cases dv with
        | lst hp t => exact ⟨_, rfl, ⟨_, SqL.of (st.sub _ _ hp)⟩, q _ G1 H1 st (gives_list (SqL.of hp) t)⟩
      | scr ns =>
        cases hds
        refine .inl (see _ hk fun v G1 H1 st dv => ?_)
        cases dv with
        | scr hp => exact ⟨_, rfl, ⟨_, st.sub.seq hp⟩, q _ G1 H1 st (gives_list hp (.ints ns))⟩
      | tup xs =>
        cases hds
        refine .inr (.inl (see _ hk fun v G1 H1 st dv => ?_))
        cases dv with
        | tup hp t => exact ⟨_, rfl, ⟨_, SqT.of (st.sub _ _ hp)⟩, q _ G1 H1 st (gives_tup (SqT.of hp) t)⟩
      | str z =>
        cases hds
        refine .inr (.inr (.inl (see _ hk fun v G1 H1 st dv => ?_)))
        cases dv with
        | str => exact ⟨z, rfl, q _ G1 H1 st gives_str⟩
      | dct dks =>
        cases hds
        refine .inr (.inr (.inr (see _ hk fun v G1 H1 st dv => ?_)))
        cases dv with
        | dct hp hkk t => exact ⟨_, _, rfl, .inl ⟨_, st.sub _ _ hp, q _ G1 H1 st (gives_keys hp hkk)⟩⟩
      | _ => cases hds
section
variable {X : Cx} {cn : Cn} {W : WX} {tg e : Expr} {f : En → Option R} {t : En → Option RA} {pos p : Pos}
/-- range(n), range(a, b) -/
def rngL (lo : Int) (n : Nat) : List D := (List.range n).map fun (i : Nat) => D.int (lo + (i : Int))
def rng1D : List D → Option (List D)
  | [.int n] => if -(2 ^ 62) ≤ n ∧ n < 2 ^ 62 then some (rngL 0 n.toNat) else none
  | _ => none
def rng2D : List D → Option (List D)
  | [.int a, .int b] => if -(2 ^ 62) ≤ a ∧ a < 2 ^ 62 ∧ -(2 ^ 62) ≤ b ∧ b < 2 ^ 62 then some (rngL a (b - a).toNat) else none
  | _ => none
/-- the items by the arguments -/
def fIt (g : List D → Option (List D)) (t : En → Option RA) : En → Option RA := fun en => match t en with
  | some (.vals ds) => (g ds).map .vals
  | x => x
theorem gives_rng {lo : Int} {n : Nat} {K : PySem.W.Frag} {G : Hp} : Gives K cn (Itr lo n) G (rngL lo n) := fun G' H' s1 s2 i => by
  unfold rngL
  refine ⟨fun d hd => ?_, fun hl => by rw [List.length_map, List.length_range] at hl; exact Nat.le_of_eq hl.symm⟩
  rw [List.getElem?_map] at hd
  obtain ⟨c, hc, rfl⟩ := Option.map_eq_some_iff.mp hd
  obtain ⟨h1, h2⟩ := List.getElem?_eq_some_iff.mp hc
  rw [List.getElem_range] at h2
  subst h2
  rw [List.length_range] at h1
  refine ⟨h1, fun x H2 y => ?_⟩
  obtain ⟨rfl, rfl⟩ := y
  exact ⟨G', Stp.refl s2, .int _⟩
theorem tI_of {g : List D → Option (List D)} {σ : L2.St} {H : Hp} {Rr : It → Hp → Prop} {T : List V → Hp → Prop} (h : tI X.K cn W (fIt g t) σ H Rr)
    (k : ∀ vs ds xs G1 H1, Same G1 H1 → DtL X.K cn G1 vs ds → g ds = some xs → (∀ J, Gives X.K cn J G1 xs → Rr J H1) → T vs H1) : tA X.K cn W t σ H T := by
  obtain ⟨G, en, r, sr, e, q⟩ := h
  unfold fIt at e
  cases ht : t en with
  | none => rw [ht] at e; cases e
  | some y =>
    rw [ht] at e
    refine ⟨G, en, y, sr, ht, ?_⟩
    cases y with
    | er c d => cases e; exact q
    | vals ds =>
      obtain ⟨xs, hx, rfl⟩ := Option.map_eq_some_iff.mp e
      exact fun vs G1 H1 st hv => k vs ds xs G1 H1 st.sub hv hx fun J hJ => q J G1 H1 st hJ
theorem di_rng1 {a : Expr} (hg : Gl X "range") (hm : X.mg "range" = none) (ha : DA X cn W [a] t) (hs : starEach [a] X.env = [(false, eval a X.env)] := by rfl) : DI X cn W tg (.Call (.Name "range" p) [a] [] pos) (fIt rng1D t) := by
  refine PI.imp (pi_range1 hg hm ha hs) fun σ H Rr h => tI_of h fun vs ds xs G1 H1 sg hv hx q => ?_
  unfold rng1D at hx
  split at hx
  · split at hx
    · rename_i n hc
      cases hx
      cases hv with
      | cons h0 hr =>
        cases h0
        cases hr
        exact ⟨n, rfl, hc.1, hc.2, q _ gives_rng⟩
    · cases hx
  · cases hx
theorem di_rng2 {a b : Expr} (hg : Gl X "range") (hm : X.mg "range" = none) (ha : DA X cn W [a, b] t) (hs : starEach [a, b] X.env = [(false, eval a X.env), (false, eval b X.env)] := by rfl) (hs2 : starEach [b] X.env = [(false, eval b X.env)] := by rfl) :
    DI X cn W tg (.Call (.Name "range" p) [a, b] [] pos) (fIt rng2D t) := by
  refine PI.imp (pi_range2 hg hm ha hs hs2) fun σ H Rr h => tI_of h fun vs ds xs G1 H1 sg hv hx q => ?_
  unfold rng2D at hx
  split at hx
  · split at hx
    · rename_i a' b' hc
      cases hx
      have h := hv.two; subst h
      exact ⟨a', b', rfl, hc, q _ gives_rng⟩
    · cases hx
  · cases hx

/-! ### list comprehensions -/
def tgIf (tg : D → En → Option En) (tt : En → Option RB) (fe : En → Option R) (en : En) : List D → Option (List D)
  | [] => some []
  | d :: r => match tg d en with
    | none => none
    | some en1 => match tt en1 with
      | some (.b true) => (match shr (fe en1) with
        | some (.val _ x) => (tgIf tg tt fe en r).map (x :: ·)
        | _ => none)
      | some (.b false) => tgIf tg tt fe en r
      | _ => none
def wipeE (en : En) : List Nat → En
  | [] => en
  | v :: vs => (wipeE en vs).set v none
def fLc (it : En → Option RA) (tg : D → En → Option En) (tt : En → Option RB) (fe : En → Option R) (vs : List Nat) : En → Option R := fun en => match it en with
  | some (.vals ds) => if ds.length ≤ 16777216 then (tgIf tg tt fe (wipeE en vs) ds).map fun xs => .val .nw (.lst xs) else none
  | some (.er c d) => some (.er c d)
  | none => none
def fYes : En → Option RB := fun _ => some (.b true)
abbrev DTs (X : Cx) (cn : Cn) (W : WX) (ifs : List Expr) (f : En → Option RB) : Prop := PTs X ifs (tT X.K cn W f)
theorem dts_nil : DTs X cn W [] fYes := ⟨fun pins s σ H Q I ⟨G, en, r, sr, e, q⟩ => by
  cases e
  exact pts_nil.run pins s σ H Q I (q G H (Stp.refl sr.sub))⟩
theorem dts_one {c : Expr} {tt : En → Option RB} (h : DT X cn W c tt) : DTs X cn W [c] tt := pts_one h
theorem SR.wipe {K : PySem.W.Frag} {G H : Hp} {σ : L2.St} {en : En} (s : SR K cn G H σ en) : ∀ vs : List Nat, SR K cn G H (L2.wipe σ vs) (wipeE en vs)
  | [] => s
  | v :: vs => by
    have ih := SR.wipe s vs
    unfold L2.wipe wipeE
    refine ⟨ih.sub, fun j x e => ?_, by rw [List.length_set, List.length_set, ih.len]⟩
    by_cases q : v = j
    · subst q
      rw [List.getElem?_set, if_pos rfl] at e
      split at e <;> cases e
    · rw [List.getElem?_set_ne q] at e
      have h := ih.sl j x e
      cases x with
      | sh d => obtain ⟨v', e1, h1⟩ := h; exact ⟨v', by rw [List.getElem?_set_ne q]; exact e1, h1⟩
      | ow d => obtain ⟨p, e1, h1⟩ := h; exact ⟨p, by rw [List.getElem?_set_ne q]; exact e1, h1⟩
      | exc => obtain ⟨p, e1, h1⟩ := h; exact ⟨p, by rw [List.getElem?_set_ne q]; exact e1, h1⟩
theorem wipe_get (σ : L2.St) : ∀ (vs : List Nat) (i : Nat), (L2.wipe σ vs)[i]? = if i ∈ vs ∧ i < σ.length then some none else σ[i]?
  | [], i => by simp [L2.wipe]
  | v :: vs, i => by
    unfold L2.wipe
    have ih := wipe_get σ vs i
    have hl := L2.wipe_length σ vs
    rw [List.getElem?_set]
    by_cases q : v = i
    · subst q
      rw [if_pos rfl, hl]
      by_cases h : v < σ.length
      · simp [h]
      · simp [h]
    · rw [if_neg q, ih]
      have : (i ∈ v :: vs) ↔ i ∈ vs := by simp [Ne.symm q]
      simp only [this]
theorem setS_length : ∀ (ws : Ws) (σ : L2.St), (setS σ ws).length = σ.length
  | [], _ => rfl
  | w :: ws, σ => by
    show (setS (σ.set w.1 (some w.2.1)) ws).length = _
    rw [setS_length ws, List.length_set]
theorem setS_get : ∀ (ws : Ws) (σ : L2.St) (i : Nat), i ∉ ws.map (·.1) → (setS σ ws)[i]? = σ[i]?
  | [], _, _, _ => rfl
  | w :: ws, σ, i, h => by
    show (setS (σ.set w.1 (some w.2.1)) ws)[i]? = _
    simp only [List.map_cons, List.mem_cons, not_or] at h
    rw [setS_get ws _ i h.2, List.getElem?_set_ne (Ne.symm h.1)]
theorem wipe_setS (σ : L2.St) (ws : Ws) (vs : List Nat) (h : ∀ i ∈ ws.map (·.1), i ∈ vs) : L2.wipe (setS (L2.wipe σ vs) ws) vs = L2.wipe σ vs := by
  apply List.ext_getElem?
  intro i
  rw [wipe_get, wipe_get, setS_length, L2.wipe_length]
  by_cases hi : i ∈ vs ∧ i < σ.length
  · rw [if_pos hi, if_pos hi]
  · rw [if_neg hi, if_neg hi]
    by_cases hv : i ∈ vs
    · have hl : ¬ i < σ.length := fun z => hi ⟨hv, z⟩
      rw [List.getElem?_eq_none (by rw [setS_length, L2.wipe_length]; omega), List.getElem?_eq_none (by omega)]
    · rw [setS_get _ _ _ fun z => hv (h i z), wipe_get, if_neg (fun z => hv z.1)]
theorem tLc_of {it : En → Option RA} {g : TG} {tg : D → En → Option En} {ix : List Nat} {tt : En → Option RB} {fe : En → Option R} {vs : List Nat} {σ : L2.St} {H : Hp} {Q : VK} (hg : DG X.K cn g tg ix) (hix : ∀ i ∈ ix, i ∈ vs)
    (h : tD X.K cn W (fLc it tg tt fe vs) σ H Q) : tLc (tI X.K cn W it) g (tT X.K cn (fun _ _ _ _ => False) tt) (tZ X.K cn (fun _ _ _ _ => False) fe) vs σ H Q := by
  obtain ⟨G, en, r, sr, e, q⟩ := h
  unfold fLc at e
  cases ht : it en with
  | none => rw [ht] at e; cases e
  | some y =>
    rw [ht] at e
    refine ⟨G, en, y, sr, ht, ?_⟩
    cases y with
    | er c d => cases e; exact q
    | vals ds =>
      replace e : (if ds.length ≤ 16777216 then (tgIf tg tt fe (wipeE en vs) ds).map fun xs => R.val .nw (.lst xs) else none) = some r := e
      split at e
      · rename_i hlen
        obtain ⟨all, hall, rfl⟩ := Option.map_eq_some_iff.mp e
        intro J G1 H1 st hJ Dl hD
        have sr1 := (sr.step st).wipe vs
        -- the word: what is made so far and what is to come are all
        refine ⟨fun i m H' => m = ds.length - i ∧ ∃ G' acc out rest, Stp G1 H1 G' H' ∧ G' Dl = none ∧ H' Dl = some (.lst acc) ∧ DtL X.K cn G' acc out ∧ out.length ≤ i ∧ i ≤ ds.length ∧ tgIf tg tt fe (wipeE en vs) (ds.drop i) = some rest ∧ all = out ++ rest,
          ⟨ds.length, by simp, G1, [], [], all, Stp.hid st.sub hD, st.sub.free hD, upd_same, .nil, Nat.le_refl _, Nat.zero_le _, hall, rfl⟩, ?_⟩
        rintro i m H' ⟨rfl, G', acc, out, rest, s', gD, hDl, t', hoi, hid, hrest, hsum⟩
        obtain ⟨hgo, hstop⟩ := hJ G' H' s'.g s'.sub i
        by_cases hi : i < ds.length
        · obtain ⟨d, hd⟩ : ∃ d, ds[i]? = some d := ⟨ds[i], List.getElem?_eq_getElem hi⟩
          obtain ⟨h1, h2⟩ := hgo d hd
          have hdrop : ds.drop i = d :: ds.drop (i + 1) := by
            rw [List.drop_eq_getElem_cons hi]
            rw [List.getElem?_eq_getElem hi] at hd
            cases hd; rfl
          rw [hdrop] at hrest
          refine .inr ⟨h1, fun H'' => ∃ G'' acc' out' rest', Stp G1 H1 G'' H'' ∧ G'' Dl = none ∧ H'' Dl = some (.lst acc') ∧ DtL X.K cn G'' acc' out' ∧ out'.length ≤ i + 1 ∧ tgIf tg tt fe (wipeE en vs) (ds.drop (i + 1)) = some rest' ∧ all = out' ++ rest',
            fun H'' ⟨G'', acc', out', rest', a1, a2, a3, a4, a5, a6, a7⟩ => ⟨ds.length - (i + 1), by omega, rfl, G'', acc', out', rest', a1, a2, a3, a4, a5, hi, a6, a7⟩, fun x H2 y => ?_⟩
          obtain ⟨G2, s2, dx⟩ := h2 x H2 y
          unfold tgIf at hrest
          cases htg : tg d (wipeE en vs) with
          | none => rw [htg] at hrest; cases hrest
          | some en1 =>
            rw [htg] at hrest
            simp only at hrest
            have sr2 := sr1.step (s'.trans s2)
            refine hg x d (wipeE en vs) en1 (L2.wipe σ vs) G2 H2 _ sr2.sub dx htg fun ws hws hix2 hw => ?_
            refine ⟨wipe_setS σ ws vs fun j hj => hix j (by rw [hix2] at hj; exact hj), ?_⟩
            have sr3 : SR X.K cn G2 H2 (setS (L2.wipe σ vs) ws) en1 := by rw [hws]; exact sr2.sets ws hw
            have keepD : ∀ G3 H3, Stp G2 H2 G3 H3 → G3 Dl = none ∧ H3 Dl = some (.lst acc) := fun G3 H3 s3 => by
              have hs := s2.trans s3
              refine ⟨?_, hs.h _ _ hDl⟩
              cases z : G3 Dl with
              | none => rfl
              | some o =>
                rcases hs.fr Dl (by rw [z]; simp) with q1 | q1
                · exact absurd gD q1
                · rw [hDl] at q1; cases q1
            cases htt : tt en1 with
            | none => rw [htt] at hrest; cases hrest
            | some b =>
              rw [htt] at hrest
              refine ⟨G2, en1, b, sr3, htt, ?_⟩
              cases b with
              | er c d => cases hrest
              | b k =>
                intro G3 H3 s3
                cases k with
                | false =>
                  rw [if_neg Bool.false_ne_true]
                  obtain ⟨k1, k2⟩ := keepD G3 H3 s3
                  exact ⟨G3, acc, out, rest, s'.trans (s2.trans s3), k1, k2, t'.same (s2.trans s3).g, by omega, hrest, hsum⟩
                | true =>
                  rw [if_pos rfl]
                  simp only at hrest
                  cases hfe : fe en1 with
                  | none => rw [hfe] at hrest; cases hrest
                  | some z =>
                    rw [hfe] at hrest
                    refine ⟨G3, en1, z, sr3.step s3, hfe, ?_⟩
                    cases z with
                    | er c d => cases hrest
                    | val kd dz =>
                      have fin : ∀ v G4 H4, Stp G3 H3 G4 H4 → Dt X.K cn G4 v dz → (tgIf tg tt fe (wipeE en vs) (ds.drop (i + 1))).map (dz :: ·) = some rest →
                          ∃ acc1, H4 Dl = some (.lst acc1) ∧ acc1.length < sizeLine ∧ ∃ G'' acc' out' rest', Stp G1 H1 G'' (upd H4 Dl (.lst (acc1 ++ [v]))) ∧ G'' Dl = none ∧ (upd H4 Dl (.lst (acc1 ++ [v]))) Dl = some (.lst acc') ∧ DtL X.K cn G'' acc' out' ∧ out'.length ≤ i + 1 ∧ tgIf tg tt fe (wipeE en vs) (ds.drop (i + 1)) = some rest' ∧ all = out' ++ rest' := fun v G4 H4 s4 dv hr => by
                        obtain ⟨rest', hr', e3⟩ := Option.map_eq_some_iff.mp hr
                        obtain ⟨k1, k2⟩ := keepD G4 H4 (s3.trans s4)
                        have sall := s'.trans (s2.trans (s3.trans s4))
                        refine ⟨acc, k2, by rw [t'.length, szl]; omega, G4, acc ++ [v], out ++ [dz], rest', ⟨sall.g, same_upd2 sall.h hD, same_upd2 sall.sub k1, sall.fr⟩, k1, upd_same, (t'.same (s2.trans (s3.trans s4)).g).append (.one dv), ?_, hr', ?_⟩
                        · rw [List.length_append, List.length_singleton]; omega
                        · rw [hsum, ← e3, List.append_assoc]; rfl
                      cases kd with
                      | sh => exact fun v G4 H4 s4 vi => fin v G4 H4 s4 vi hrest
                      | nw => exact fun v G4 H4 s4 vi => fin v G4 H4 s4 vi hrest
                      | bo => cases hrest
        · have he : i = ds.length := by omega
          subst he
          rw [List.drop_length] at hrest
          cases hrest
          rw [List.append_nil] at hsum
          refine .inl ⟨hstop rfl, q (.ref Dl) G' H' (st.trans s') ⟨Dl, rfl, st.h.free hD, gD, acc, hDl, by rw [hsum]; exact t'⟩⟩
      · cases e
end
end
end PD
/-! PD7: statements, loops, defs. -/
namespace PD
open PySem L2

/-! ### the state in a def: G0, H0 at its entry -/
/-- a def's start: its heap, and the instance that it makes (an __init__'s self) -/
structure Bs where
  h : Hp
  me : Option Addr
instance : CoeFun Bs (fun _ => Addr → Option HO) := ⟨Bs.h⟩
instance : Coe Bs Hp := ⟨Bs.h⟩
def D.isIns : D → Bool
  | .ins _ _ => true
  | _ => false
structure S0 (K : PySem.W.Frag) (cn : Cn) (G0 : Hp) (H0 : Bs) (G H : Hp) (σ : L2.St) (en : En) : Prop where
  sr : SR K cn G H σ en
  g : Same G0 G
  h : Same H0 H
  fr : ∀ a, G a ≠ none → G0 a ≠ none ∨ H0 a = none
  ow : ∀ (i : Nat) (d : D) (p : Addr), en[i]? = some (some (.ow d)) → σ[i]? = some (some (.ref p)) → H0 p = none
  ap : ∀ (i j : Nat) (d e : D) (p : Addr), i ≠ j → en[i]? = some (some (.ow d)) → en[j]? = some (some (.ow e)) → σ[i]? = some (some (.ref p)) → σ[j]? = some (some (.ref p)) → False
  me : ∀ (i : Nat) (d : D) (p : Addr), en[i]? = some (some (.ow d)) → σ[i]? = some (some (.ref p)) → d.isIns = true → H0.me = some p
inductive Out where
  | nx (en : En)
  | rt (k : Kd) (d : D)
  | bk (en : En)
  | ct (en : En)
  | er (en : En) (c : Nat) (d : D)
def OQ (K : PySem.W.Frag) (cn : Cn) (W : WX) (G0 : Hp) (H0 : Bs) (G : Hp) (E : Ends) : Out → Prop
  | .nx en => ∀ σ G' H', Same G G' → S0 K cn G0 H0 G' H' σ en → E.nx σ H'
  | .bk en => ∀ σ G' H', Same G G' → S0 K cn G0 H0 G' H' σ en → E.bk σ H'
  | .ct en => ∀ σ G' H', Same G G' → S0 K cn G0 H0 G' H' σ en → E.ct σ H'
  | .rt k d => ∀ v G' H', Stp G0 H0 G' H' → VI K cn H0 G' H' k v d → E.rt v H'
  | .er en c d => ∀ σ dx v G' H', Same G G' → S0 K cn G0 H0 G' H' σ en → H' dx = some (.xd [(Xd, v)]) → Dt K cn G' v d → W (.ref (cn c)) (some dx) σ H'
theorem OQ.on {K : PySem.W.Frag} {cn : Cn} {W : WX} {G0 : Hp} {H0 : Bs} {G G1 : Hp} {E : Ends} {o : Out} (a : Same G G1) (h : OQ K cn W G0 H0 G E o) : OQ K cn W G0 H0 G1 E o := by
  cases o with
  | nx en => exact fun σ G' H' b => h σ G' H' (a.trans b)
  | bk en => exact fun σ G' H' b => h σ G' H' (a.trans b)
  | ct en => exact fun σ G' H' b => h σ G' H' (a.trans b)
  | rt k d => exact h
  | er en c d => exact fun σ dx v G' H' b => h σ dx v G' H' (a.trans b)
def tS (K : PySem.W.Frag) (cn : Cn) (W : WX) (G0 : Hp) (H0 : Bs) (F : En → Option Out) : TS := fun E σ H => ∃ G en o, S0 K cn G0 H0 G H σ en ∧ F en = some o ∧ OQ K cn W G0 H0 G E o
abbrev DS (X : Cx) (cn : Cn) (W : WX) (G0 : Hp) (H0 : Bs) (st : Stmt) (F : En → Option Out) : Prop := PS X st (tS X.K cn W G0 H0 F)
abbrev DSs (X : Cx) (cn : Cn) (W : WX) (G0 : Hp) (H0 : Bs) (st : List Stmt) (F : En → Option Out) : Prop := PSs X st (tS X.K cn W G0 H0 F)
section
variable {K : PySem.W.Frag} {cn : Cn} {W : WX} {G0 : Hp} {H0 : Bs} {G H G' H' : Hp} {σ : L2.St} {en : En} {E : Ends}
theorem S0.stp (s : S0 K cn G0 H0 G H σ en) : Stp G0 H0 G H := ⟨s.g, s.h, s.sr.sub, s.fr⟩
theorem S0.step (s : S0 K cn G0 H0 G H σ en) (st : Stp G H G' H') : S0 K cn G0 H0 G' H' σ en :=
  ⟨s.sr.step st, s.g.trans st.g, s.h.trans st.h, (s.stp.trans st).fr, s.ow, s.ap, s.me⟩
/-- a shared thing is stored -/
theorem S0.set (s : S0 K cn G0 H0 G H σ en) {i : Nat} {v : V} {d : D} (h : Dt K cn G v d) : S0 K cn G0 H0 G H (σ.set i (some v)) (en.set i (some (.sh d))) := by
  have key : ∀ (j : Nat) (x : D), (en.set i (some (.sh d)))[j]? = some (some (.ow x)) → j ≠ i ∧ en[j]? = some (some (.ow x)) := fun j x e => by
    by_cases q : i = j
    · subst q
      rw [List.getElem?_set, if_pos rfl] at e
      split at e <;> cases e
    · rw [List.getElem?_set_ne q] at e
      exact ⟨Ne.symm q, e⟩
  refine ⟨s.sr.set h, s.g, s.h, s.fr, fun j x p e1 e2 => ?_, fun j l x y p hne e1 e2 e3 e4 => ?_, fun j x p e1 e2 hi => by obtain ⟨n, e⟩ := key j x e1; rw [List.getElem?_set_ne n.symm] at e2; exact s.me j x p e e2 hi⟩
  · obtain ⟨n, e⟩ := key j x e1
    rw [List.getElem?_set_ne n.symm] at e2
    exact s.ow j x p e e2
  · obtain ⟨n, e⟩ := key j x e1
    obtain ⟨n', e'⟩ := key l y e2
    rw [List.getElem?_set_ne n.symm] at e3
    rw [List.getElem?_set_ne n'.symm] at e4
    exact s.ap j l x y p hne e e' e3 e4
theorem S0.sets : ∀ (ws : Ws) {σ : L2.St} {en : En}, S0 K cn G0 H0 G H σ en → (∀ w ∈ ws, Dt K cn G w.2.1 w.2.2) → S0 K cn G0 H0 G H (setS σ ws) (setE en ws)
  | [], _, _, s, _ => s
  | w :: ws, _, _, s, h => S0.sets ws (s.set (i := w.1) (h w List.mem_cons_self)) fun x hx => h x (List.mem_cons_of_mem _ hx)
/-- a new thing is stored: the local's own; H1: the heap before it was made -/
theorem S0.own {H1 : Hp} (s : S0 K cn G0 H0 G H σ en) {i : Nat} {p : Addr} {d : D} (ni : d.isIns = false) (h0 : H0 p = none) (hn : ∀ (j : Nat) (x : D) (q : Addr), en[j]? = some (some (.ow x)) → σ[j]? = some (some (.ref q)) → q ≠ p) (gn : G p = none) (t : Top K cn G H p d) :
    S0 K cn G0 H0 G H (σ.set i (some (.ref p))) (en.set i (some (.ow d))) := by
  have len := s.sr.len
  have at_i : ∀ x, (en.set i (some (.ow d)))[i]? = some (some x) → x = .ow d ∧ (σ.set i (some (V.ref p)))[i]? = some (some (.ref p)) := fun x e => by
    rw [List.getElem?_set, if_pos rfl] at e
    split at e
    · rename_i hl
      cases e
      exact ⟨rfl, List.getElem?_set_self (by rw [← len]; exact hl)⟩
    · cases e
  refine ⟨⟨s.sr.sub, fun j x e => ?_, by rw [List.length_set, List.length_set, len]⟩, s.g, s.h, s.fr, fun j x q e1 e2 => ?_, fun j l x y q hne e1 e2 e3 e4 => ?_, fun j x q e1 e2 hi => by
    by_cases z : i = j
    · subst z
      obtain ⟨e5, _⟩ := at_i _ e1
      cases e5
      rw [ni] at hi; cases hi
    · rw [List.getElem?_set_ne z] at e1 e2
      exact s.me j x q e1 e2 hi⟩
  · by_cases q : i = j
    · subst q
      obtain ⟨rfl, e2⟩ := at_i x e
      exact ⟨p, e2, gn, t⟩
    · rw [List.getElem?_set_ne q] at e
      have h := s.sr.sl j x e
      cases x with
      | sh d => obtain ⟨v', e1, h1⟩ := h; exact ⟨v', by rw [List.getElem?_set_ne q]; exact e1, h1⟩
      | ow d => obtain ⟨p, e1, h1⟩ := h; exact ⟨p, by rw [List.getElem?_set_ne q]; exact e1, h1⟩
      | exc => obtain ⟨p, e1, h1⟩ := h; exact ⟨p, by rw [List.getElem?_set_ne q]; exact e1, h1⟩
  · by_cases z : i = j
    · subst z
      obtain ⟨_, e3⟩ := at_i _ e1
      rw [e3] at e2
      cases e2
      exact h0
    · rw [List.getElem?_set_ne z] at e1 e2
      exact s.ow j x q e1 e2
  · by_cases z : i = j
    · subst z
      obtain ⟨_, e5⟩ := at_i _ e1
      rw [e5] at e3
      cases e3
      rw [List.getElem?_set_ne hne] at e2 e4
      exact hn l y _ e2 e4 rfl
    · rw [List.getElem?_set_ne z] at e1 e3
      by_cases z' : i = l
      · subst z'
        obtain ⟨_, e5⟩ := at_i _ e2
        rw [e5] at e4
        cases e4
        exact hn j x _ e1 e3 rfl
      · rw [List.getElem?_set_ne z'] at e2 e4
        exact s.ap j l x y q hne e1 e2 e3 e4
/-- a local's own thing is changed -/
theorem S0.mut (s : S0 K cn G0 H0 G H σ en) {i : Nat} {p : Addr} {d d' : D} {o : HO} (e : en[i]? = some (some (.ow d))) (es : σ[i]? = some (some (.ref p))) (hp : ∃ u, H p = some u) (gn : G p = none)
    (t : Top K cn G (upd H p o) p d') (ki : d'.isIns = true → d.isIns = true) : S0 K cn G0 H0 G (upd H p o) σ (en.set i (some (.ow d'))) := by
  have il : i < en.length := (List.getElem?_eq_some_iff.mp e).1
  have h0 := s.ow i d p e es
  have sub : Same G (upd H p o) := same_upd2 s.sr.sub gn
  refine ⟨⟨sub, fun j x ej => ?_, by rw [List.length_set, s.sr.len]⟩, s.g, same_upd2 s.h h0, s.fr, fun j x q e1 e2 => ?_, fun j l x y q hne e1 e2 e3 e4 => ?_, fun j x q e1 e2 hi => by
    by_cases z : i = j
    · subst z
      rw [List.getElem?_set_self il] at e1
      cases e1
      exact s.me i d q e e2 (ki hi)
    · rw [List.getElem?_set_ne z] at e1
      exact s.me j x q e1 e2 hi⟩
  · by_cases q : i = j
    · subst q
      rw [List.getElem?_set_self il] at ej
      cases ej
      exact ⟨p, es, gn, t⟩
    · rw [List.getElem?_set_ne q] at ej
      have h := s.sr.sl j x ej
      cases x with
      | sh d => exact h
      | exc => exact h
      | ow d2 =>
        obtain ⟨p2, e1, h1, t2⟩ := h
        refine ⟨p2, e1, h1, t2.same (Same.refl _) fun o' q2 => ?_⟩
        rw [upd_ne]
        · exact q2
        · rintro rfl
          exact s.ap i j d d2 _ q e ej es e1
  · by_cases z : i = j
    · subst z
      rw [List.getElem?_set_self il] at e1
      rw [es] at e2
      cases e2
      exact h0
    · rw [List.getElem?_set_ne z] at e1
      exact s.ow j x q e1 e2
  · by_cases z : i = j
    · subst z
      rw [List.getElem?_set_ne hne] at e2
      exact s.ap i l d y q hne e e2 e3 e4
    · rw [List.getElem?_set_ne z] at e1
      by_cases z' : i = l
      · subst z'
        exact s.ap j i x d q hne e1 e e3 e4
      · rw [List.getElem?_set_ne z'] at e2
        exact s.ap j l x y q hne e1 e2 e3 e4
/-- a local's own thing is shown: it may be shared from now on, and changes no more -/
def frzE (en : En) (i : Nat) : En := match en[i]? with
  | some (some (.ow d)) => en.set i (some (.sh d))
  | _ => en
/-- .. o2 stands there from now on (the thing itself, or the same locked) -/
theorem S0.show (s : S0 K cn G0 H0 G H σ en) {i : Nat} {d : D} {p : Addr} {o2 : HO} (e : en[i]? = some (some (.ow d))) (es : σ[i]? = some (some (.ref p))) (gn : G p = none) (dv : Dt K cn (upd G p o2) (.ref p) d) :
    Same G (upd G p o2) ∧ S0 K cn G0 H0 (upd G p o2) (upd H p o2) σ (frzE en i) := by
  have sg : Same G (upd G p o2) := same_upd gn
  have h0 := s.ow i d p e es
  have il : i < en.length := (List.getElem?_eq_some_iff.mp e).1
  have fe : frzE en i = en.set i (some (.sh d)) := by unfold frzE; rw [e]
  have sub : Same (upd G p o2) (upd H p o2) := fun b x q => by
    by_cases z : b = p
    · subst z; rw [upd_same] at q ⊢; exact q
    · rw [upd_ne z] at q ⊢; exact s.sr.sub b x q
  rw [fe]
  refine ⟨sg, ⟨sub, fun j x ej => ?_, by rw [List.length_set, s.sr.len]⟩, s.g.trans sg, fun b x q => ?_, fun a q => ?_, fun j x q e1 e2 => ?_, fun j l x y q hne e1 e2 e3 e4 => ?_, fun j x q e1 e2 hi => by
    by_cases z : i = j
    · subst z
      rw [List.getElem?_set_self il] at e1
      cases e1
    · rw [List.getElem?_set_ne z] at e1
      exact s.me j x q e1 e2 hi⟩
  · by_cases q : i = j
    · subst q
      rw [List.getElem?_set_self il] at ej
      cases ej
      exact ⟨_, es, dv⟩
    · rw [List.getElem?_set_ne q] at ej
      have h := s.sr.sl j x ej
      cases x with
      | sh d => obtain ⟨v', e1, h1⟩ := h; exact ⟨v', e1, h1.same sg⟩
      | exc => exact h
      | ow d2 =>
        obtain ⟨p2, e1, h1, t2⟩ := h
        have np : p2 ≠ p := by
          rintro rfl
          exact s.ap i j d d2 _ q e ej es e1
        exact ⟨p2, e1, by rw [upd_ne np]; exact h1, t2.same sg fun o q => by rw [upd_ne np]; exact q⟩
  · by_cases z : b = p
    · subst z; rw [h0] at q; cases q
    · rw [upd_ne z]; exact s.h b x q
  · by_cases z : a = p
    · subst z; exact .inr h0
    · rw [upd_ne z] at q; exact s.fr a q
  · by_cases z : i = j
    · subst z
      rw [List.getElem?_set_self il] at e1
      cases e1
    · rw [List.getElem?_set_ne z] at e1
      exact s.ow j x q e1 e2
  · by_cases z : i = j
    · subst z
      rw [List.getElem?_set_self il] at e1
      cases e1
    · rw [List.getElem?_set_ne z] at e1
      by_cases z' : i = l
      · subst z'
        rw [List.getElem?_set_self il] at e2
        cases e2
      · rw [List.getElem?_set_ne z'] at e2
        exact s.ap j l x y q hne e1 e2 e3 e4
theorem upd_self {H : Hp} {p : Addr} {o : HO} (h : H p = some o) : upd H p o = H := funext fun a => by
  by_cases z : a = p
  · subst z; rw [upd_same, h]
  · rw [upd_ne z]
theorem S0.freeze (s : S0 K cn G0 H0 G H σ en) (i : Nat) : (∃ G', Same G G' ∧ S0 K cn G0 H0 G' H σ (frzE en i)) ∨
    ∃ p u, H p = some u ∧ L2.Mut (some u) ∧ ∀ od, ∃ G', Same G G' ∧ S0 K cn G0 H0 G' (upd H p (.frz od u)) σ (frzE en i) := by
  cases he : en[i]? with
  | none => exact .inl ⟨G, Same.refl _, by unfold frzE; rw [he]; exact s⟩
  | some x =>
    cases x with
    | none => exact .inl ⟨G, Same.refl _, by unfold frzE; rw [he]; exact s⟩
    | some x =>
      cases x with
      | sh d => exact .inl ⟨G, Same.refl _, by unfold frzE; rw [he]; exact s⟩
      | exc => exact .inl ⟨G, Same.refl _, by unfold frzE; rw [he]; exact s⟩
      | ow d =>
        obtain ⟨p, es, gn, t⟩ := s.sr.sl i _ he
        obtain ⟨o, ho⟩ := t.some
        cases hd : d.isDct with
        | false =>
          have sg : Same G (upd G p o) := same_upd gn
          obtain ⟨a, b⟩ := s.show (o2 := o) he es gn (t.dt hd sg fun o' q => by rw [upd_same, ← ho, q])
          rw [upd_self ho] at b
          exact .inl ⟨_, a, b⟩
        | true =>
          cases d with
          | dct dks =>
            obtain ⟨kvs, hp, hk, tl⟩ := t
            refine .inr ⟨p, .dK kvs, hp, True.intro, fun od => ?_⟩
            have sg : Same G (upd G p (.frz od (.dK kvs))) := same_upd gn
            obtain ⟨a, b⟩ := s.show (o2 := .frz od (.dK kvs)) he es gn (.dct upd_same hk (tl.same sg))
            exact ⟨_, a, b⟩
          | _ => cases hd

/-! ### from expressions to statements -/
/-- the result, then the statement's end -/
def bS (a : Option R) (en : En) (k : Kd → D → Option Out) : Option Out := match a with
  | some (.val kd d) => k kd d
  | some (.er c d) => some (.er en c d)
  | none => none
theorem es_bind {f : En → Option R} {k : Kd → D → Option Out} {o : Out} {T : VK} (s : S0 K cn G0 H0 G H σ en) (e : bS (f en) en k = some o) (q : OQ K cn W G0 H0 G E o)
    (cont : ∀ v kd d G1 H1, Stp G H G1 H1 → S0 K cn G0 H0 G1 H1 σ en → VI K cn H G1 H1 kd v d → k kd d = some o → T v H1) : tD K cn W f σ H T := by
  cases hf : f en with
  | none => rw [hf] at e; cases e
  | some a =>
    rw [hf] at e
    refine ⟨G, en, a, s.sr, hf, ?_⟩
    cases a with
    | val kd d => exact fun v G1 H1 st vi => cont v kd d G1 H1 st (s.step st) vi e
    | er c d =>
      cases e
      exact fun dx v G1 H1 st h1 h2 => q σ dx v G1 H1 st.g (s.step st) h1 h2
/-- a new thing: nobody's yet -/
theorem new_ne {p : Addr} (s : S0 K cn G0 H0 G H σ en) (hn : H p = none) : ∀ (j : Nat) (x : D) (q : Addr), en[j]? = some (some (.ow x)) → σ[j]? = some (some (.ref q)) → q ≠ p := fun j x q e1 e2 z => by
  subst z
  obtain ⟨p', e3, _, t⟩ := s.sr.sl j _ e1
  rw [e2] at e3
  cases e3
  obtain ⟨o, ho⟩ := t.some
  rw [hn] at ho; cases ho
def stoE (en : En) (i : Nat) : Kd → D → Option En
  | .sh, d => some (en.set i (some (.sh d)))
  | .nw, d => if d.isIns = true then none else some (en.set i (some (.ow d)))
  | .bo, _ => none
theorem S0.sto {i : Nat} {kd : Kd} {v : V} {d : D} {en1 : En} {G1 H1 : Hp} (s0 : S0 K cn G0 H0 G H σ en) (st : Stp G H G1 H1) (vi : VI K cn H G1 H1 kd v d) (e : stoE en i kd d = some en1) : S0 K cn G0 H0 G1 H1 (σ.set i (some v)) en1 := by
  have s := s0.step st
  cases kd with
  | sh => cases e; exact s.set vi
  | nw =>
    have e' : (if d.isIns = true then none else some (en.set i (some (.ow d)))) = some en1 := e
    split at e'
    · cases e'
    · rename_i ni
      cases e'
      obtain ⟨p, rfl, hn, gn, t⟩ := vi
      exact s.own (H1 := H) (by simpa using ni) (s0.h.free hn) (new_ne s0 hn) gn t
  | bo => cases e
def fSet (i : Nat) (f : En → Option R) : En → Option Out := fun en => bS (f en) en fun kd d => (stoE en i kd d).map .nx
theorem tAsg_of {i : Nat} {f : En → Option R} {te : TE} (hi : ∀ σ H Q, tD K cn W f σ H Q → te σ H Q) (h : tS K cn W G0 H0 (fSet i f) E σ H) : tAsg te (gName i) E σ H := by
  obtain ⟨G, en, o, s, e, q⟩ := h
  refine hi σ H _ (es_bind s e q fun v kd d G1 H1 st s1 vi e1 => ?_)
  obtain ⟨en1, e2, rfl⟩ := Option.map_eq_some_iff.mp e1
  exact q _ G1 H1 st.g (s.sto st vi e2)
end
section
variable {X : Cx} {cn : Cn} {W : WX} {G0 : Hp} {H0 : Bs} {st : Stmt} {sts : List Stmt} {f : En → Option R} {F F1 F2 : En → Option Out} {e : Expr} {pos : Pos} {tt : En → Option RB} {c : Expr}
/-- x = e: h by ps_set or ps_setLc -/
theorem ds_set {i : Nat} (h : PS X st (tAsg (tD X.K cn W f) (gName i))) : DS X cn W G0 H0 st (fSet i f) := PS.imp h fun E σ H q => tAsg_of (fun _ _ _ h => h) q
theorem ds_setC {i : Nat} {te : TE} (hi : ∀ σ H Q, tD X.K cn W f σ H Q → te σ H Q) (h : PS X st (tAsg te (gName i))) : DS X cn W G0 H0 st (fSet i f) := PS.imp h fun E σ H q => tAsg_of hi q
/-- a target that is a tuple of names -/
def fAsg (tg : D → En → Option En) (f : En → Option R) : En → Option Out := fun en => bS (shr (f en)) en fun _ d => (tg d en).map .nx
theorem es_bindS {K : PySem.W.Frag} {G H : Hp} {σ : L2.St} {en : En} {E : Ends} {k : Kd → D → Option Out} {o : Out} {T : VK} (s : S0 K cn G0 H0 G H σ en) (e : bS (shr (f en)) en k = some o) (q : OQ K cn W G0 H0 G E o)
    (cont : ∀ v d G1 H1, Stp G H G1 H1 → S0 K cn G0 H0 G1 H1 σ en → Dt K cn G1 v d → k .sh d = some o → T v H1) : tZ K cn W f σ H T := by
  cases hf : f en with
  | none => rw [hf] at e; cases e
  | some a =>
    rw [hf] at e
    refine ⟨G, en, a, s.sr, hf, ?_⟩
    cases a with
    | val kd d =>
      cases kd with
      | sh => exact fun v G1 H1 st vi => cont v d G1 H1 st (s.step st) vi e
      | nw => exact fun v G1 H1 st vi => cont v d G1 H1 st (s.step st) vi e
      | bo => cases e
    | er c d =>
      cases e
      exact fun dx v G1 H1 st h1 h2 => q σ dx v G1 H1 st.g (s.step st) h1 h2
theorem ds_asg {g : TG} {tg : D → En → Option En} {ix : List Nat} (hg : DG X.K cn g tg ix) (h : PS X st (tAsg (tZ X.K cn W f) g)) : DS X cn W G0 H0 st (fAsg tg f) := by
  refine PS.imp h ?_
  rintro E σ H ⟨G, en, o, s, e, q⟩
  refine es_bindS s e q fun v d G1 H1 st s1 dv e1 => ?_
  obtain ⟨en1, e2, rfl⟩ := Option.map_eq_some_iff.mp e1
  refine hg v d en en1 σ G1 H1 _ s1.sr.sub dv e2 fun ws ew _ hw => ?_
  subst ew
  exact q _ G1 H1 st.g (s1.sets ws hw)
def fDrop (f : En → Option R) : En → Option Out := fun en => bS (f en) en fun _ _ => some (.nx en)
theorem ds_drop (h : PS X st (tDrop (tD X.K cn W f))) : DS X cn W G0 H0 st (fDrop f) := by
  refine PS.imp h ?_
  rintro E σ H ⟨G, en, o, s, e, q⟩
  refine es_bind s e q fun v kd d G1 H1 st s1 vi e1 => ?_
  cases e1
  exact q σ G1 H1 st.g s1
/-- return e -/
def rtK : Kd → D → Option Out
  | .bo, _ => none
  | k, d => some (.rt k d)
def fRet (f : En → Option R) : En → Option Out := fun en => bS (f en) en rtK
theorem ds_ret (he : DE X cn W e f) : DS X cn W G0 H0 (.Return (some e) pos) (fRet f) := by
  refine PS.imp (ps_ret he) ?_
  rintro E σ H ⟨G, en, o, s, e, q⟩
  refine es_bind s e q fun v kd d G1 H1 st s1 vi e1 => ?_
  cases kd with
  | sh => cases e1; exact q v G1 H1 s1.stp vi
  | nw =>
    cases e1
    obtain ⟨p, rfl, hn, gn, t⟩ := vi
    exact q _ G1 H1 s1.stp ⟨p, rfl, s.h.free hn, gn, t⟩
  | bo => cases e1
/-- return x: a local's own thing is handed on -/
def fRetV (i : Nat) : En → Option Out := fun en => match en[i]? with
  | some (some (.sh d)) => some (.rt .sh d)
  | some (some (.ow d)) => some (.rt .nw d)
  | _ => none
theorem ds_retV {i : Nat} (he : PE X e (tVar i)) : DS X cn W G0 H0 (.Return (some e) pos) (fRetV i) := by
  refine PS.imp (ps_ret he) ?_
  rintro E σ H ⟨G, en, o, s, e, q⟩
  unfold fRetV at e
  split at e
  · rename_i d hs
    cases e
    obtain ⟨v, e1, h1⟩ := s.sr.sl i _ hs
    exact ⟨v, e1, q v G H s.stp h1⟩
  · rename_i d hs
    cases e
    obtain ⟨p, e1, h1, h2⟩ := s.sr.sl i _ hs
    exact ⟨.ref p, e1, q (.ref p) G H s.stp ⟨p, rfl, s.ow i d p hs e1, h1, h2⟩⟩
  · cases e
def fRetN : En → Option Out := fun _ => some (.rt .sh .non)
def fNx : En → Option Out := fun en => some (.nx en)
theorem dss_nil : DSs X cn W G0 H0 [] fNx := PSs.imp pss_nil fun E σ H ⟨G, en, o, s, e, q⟩ => by
  cases e
  exact q σ G H (Same.refl _) s
def fSeq (F1 F2 : En → Option Out) : En → Option Out := fun en => match F1 en with
  | some (.nx en1) => F2 en1
  | o => o
theorem dss_cons (h1 : DS X cn W G0 H0 st F1) (h2 : DSs X cn W G0 H0 sts F2) : DSs X cn W G0 H0 (st :: sts) (fSeq F1 F2) := by
  refine PSs.imp (pss_cons h1 h2) ?_
  rintro E σ H ⟨G, en, o, s, e, q⟩
  unfold fSeq at e
  cases hf : F1 en with
  | none => rw [hf] at e; cases e
  | some o1 =>
    rw [hf] at e
    refine ⟨G, en, o1, s, hf, ?_⟩
    cases o1 with
    | nx en1 => exact fun σ1 G1 H1 sg s1 => ⟨G1, en1, o, s1, e, q.on sg⟩
    | rt k d => cases e; exact q
    | bk en1 => cases e; exact q
    | ct en1 => cases e; exact q
    | er en1 c d => cases e; exact q
theorem dss_one (h : DS X cn W G0 H0 st F) : DSs X cn W G0 H0 [st] F := pss_one h
/-- a thing is locked for good; the slot i is shown from here on -/
theorem pss_lk {t : TS} (h : PSs X sts t) : PSs X sts (fun E σ H => t E σ H ∨ ∃ p u, H p = some u ∧ L2.Mut (some u) ∧ ∀ od, t E σ (upd H p (.frz od u))) := ⟨fun pins s σ H E I q => by
  rcases q with q | ⟨p, u, hp, mu, q⟩
  · exact h.run pins s σ H E I q
  · obtain ⟨od, I2⟩ := I.lock hp mu
    exact h.run pins s σ _ E I2 (q od)⟩
theorem dss_frz {i : Nat} (h : DSs X cn W G0 H0 sts F) : DSs X cn W G0 H0 sts (fun en => F (frzE en i)) := PSs.imp (pss_lk h) fun E σ H ⟨G, en, o, s, e, q⟩ => by
  rcases s.freeze i with ⟨G1, sg, s1⟩ | ⟨p, u, hp, mu, all⟩
  · exact .inl ⟨G1, _, o, s1, e, q.on sg⟩
  · refine .inr ⟨p, u, hp, mu, fun od => ?_⟩
    obtain ⟨G1, sg, s1⟩ := all od
    exact ⟨G1, _, o, s1, e, q.on sg⟩
def fIfS (tt : En → Option RB) (F1 F2 : En → Option Out) : En → Option Out := fun en => match tt en with
  | some (.b true) => F1 en
  | some (.b false) => F2 en
  | some (.er c d) => some (.er en c d)
  | none => none
theorem ds_if {a b : List Stmt} (hc : DT X cn W c tt) (ha : DSs X cn W G0 H0 a F1) (hb : DSs X cn W G0 H0 b F2) : DS X cn W G0 H0 (.If c a b pos) (fIfS tt F1 F2) := by
  refine PS.imp (ps_if hc ha hb) ?_
  rintro E σ H ⟨G, en, o, s, e, q⟩
  unfold fIfS at e
  cases ht : tt en with
  | none => rw [ht] at e; cases e
  | some x =>
    rw [ht] at e
    refine ⟨G, en, x, s.sr, ht, ?_⟩
    cases x with
    | b k =>
      intro G1 H1 st
      cases k with
      | true => rw [if_pos rfl]; exact ⟨G1, en, o, s.step st, e, q.on st.g⟩
      | false => rw [if_neg Bool.false_ne_true]; exact ⟨G1, en, o, s.step st, e, q.on st.g⟩
    | er c d =>
      cases e
      exact fun dx v G1 H1 st h1 h2 => q σ dx v G1 H1 st.g (s.step st) h1 h2

/-! ### for -/
def forD (tg : D → En → Option En) (F : En → Option Out) : List D → En → Option Out
  | [], en => some (.nx en)
  | d :: r, en => match tg d en with
    | none => none
    | some en1 => match F en1 with
      | some (.nx en2) => forD tg F r en2
      | some (.ct en2) => forD tg F r en2
      | some (.bk en2) => some (.nx en2)
      | o => o
def fFor (it : En → Option RA) (tg : D → En → Option En) (F : En → Option Out) : En → Option Out := fun en => match it en with
  | some (.vals ds) => forD tg F ds en
  | some (.er c d) => some (.er en c d)
  | none => none
theorem ds_for {tgt iter : Expr} {body : List Stmt} {it : En → Option RA} {g : TG} {tg : D → En → Option En} {ix : List Nat} (hp : PassesOwn (model X.prog X.w) X.A X.env X.xe) (hc : X.calm = true) (hi : DI X cn W tgt iter it) (hg : PG X tgt g) (hd : DG X.K cn g tg ix) (hb : DSs X cn W G0 H0 body F)
    (hs : ∀ x, foldedSetIterable iter X.env x = pure x := by intro _; rfl) : DS X cn W G0 H0 (.For tgt iter body [] pos) (fFor it tg F) := by
  refine PS.imp (ps_for hp hc hi hg hb hs) ?_
  rintro E σ H ⟨G, en, o, s, e, q⟩
  unfold fFor at e
  cases ht : it en with
  | none => rw [ht] at e; cases e
  | some y =>
    rw [ht] at e
    refine ⟨G, en, y, s.sr, ht, ?_⟩
    cases y with
    | er c d => cases e; exact fun dx v G1 H1 st h1 h2 => q σ dx v G1 H1 st.g (s.step st) h1 h2
    | vals ds =>
      intro J G1 H1 st hJ
      refine ⟨fun i m σ' H' => m = ds.length - i ∧ ∃ G' en', S0 X.K cn G0 H0 G' H' σ' en' ∧ Same G1 G' ∧ forD tg F (ds.drop i) en' = some o ∧ i ≤ ds.length,
        ⟨ds.length, by simp, G1, en, s.step st, Same.refl _, e, Nat.zero_le _⟩, ?_⟩
      rintro i m σ' H' ⟨rfl, G', en', s', sg, hf, hid⟩
      obtain ⟨hgo, hstop⟩ := hJ G' H' sg s'.sr.sub i
      by_cases hi : i < ds.length
      · obtain ⟨d, hd'⟩ : ∃ d, ds[i]? = some d := ⟨ds[i], List.getElem?_eq_getElem hi⟩
        obtain ⟨h1, h2⟩ := hgo d hd'
        have hdrop : ds.drop i = d :: ds.drop (i + 1) := by
          rw [List.drop_eq_getElem_cons hi]
          rw [List.getElem?_eq_getElem hi] at hd'
          cases hd'; rfl
        rw [hdrop] at hf
        unfold forD at hf
        refine .inr ⟨h1, fun σ2 H2 => ∃ G2 en2, S0 X.K cn G0 H0 G2 H2 σ2 en2 ∧ Same G1 G2 ∧ forD tg F (ds.drop (i + 1)) en2 = some o,
          fun σ2 H2 ⟨G2, en2, a1, a2, a3⟩ => ⟨ds.length - (i + 1), by omega, rfl, G2, en2, a1, a2, a3, hi⟩, fun x H2 y => ?_⟩
        obtain ⟨G2, s2, dx⟩ := h2 x H2 y
        cases htg : tg d en' with
        | none => rw [htg] at hf; cases hf
        | some en1 =>
          rw [htg] at hf
          simp only at hf
          have s3 := s'.step s2
          refine hd x d en' en1 σ' G2 H2 _ s3.sr.sub dx htg fun ws hws _ hw => ?_
          have s4 : S0 X.K cn G0 H0 G2 H2 (setS σ' ws) en1 := by rw [hws]; exact s3.sets ws hw
          have sg2 : Same G1 G2 := sg.trans s2.g
          cases hF : F en1 with
          | none => rw [hF] at hf; cases hf
          | some o1 =>
            rw [hF] at hf
            refine ⟨G2, en1, o1, s4, hF, ?_⟩
            cases o1 with
            | nx en2 => exact fun σ5 G5 H5 b s5 => ⟨G5, en2, s5, sg2.trans b, hf⟩
            | ct en2 => exact fun σ5 G5 H5 b s5 => ⟨G5, en2, s5, sg2.trans b, hf⟩
            | bk en2 => cases hf; exact fun σ5 G5 H5 b s5 => q σ5 G5 H5 (st.g.trans (sg2.trans b)) s5
            | rt k d => cases hf; exact q
            | er en2 c d => cases hf; exact q.on (st.g.trans sg2)
      · have he : i = ds.length := by omega
        subst he
        rw [List.drop_length] at hf
        cases hf
        exact .inl ⟨hstop rfl, q σ' G' H' (st.g.trans sg) s'⟩
end
end PD
/-! PD8: stores into a local's own things; defs by their data functions. -/
namespace PD
open PySem PySem.Spec PyProof.Rows L2
section
variable {X : Cx} {cn : Cn} {W : WX} {G0 : Hp} {H0 : Bs} {st : Stmt} {sts : List Stmt} {f fk : En → Option R} {F F1 F2 : En → Option Out} {e : Expr} {pos : Pos}

/-! ### comprehensions, calls -/
theorem de_lc {elt tg iter : Expr} {ifs : List Expr} {scope : Scope} {own : List (Str × Nat)} {it : En → Option RA} {g : TG} {h : D → En → Option En} {ix : List Nat} {tt : En → Option RB} {fe : En → Option R} (hc : X.calm = true) (hN : X.N.Nodup) (hi : DI X cn W tg iter it)
    (ok : BlkOk X.N X.env.scope scope own) (hd : DG X.K cn g h ix) (hix : ∀ i ∈ ix, i ∈ own.map (·.2)) (hg : ∀ (s : Shared) (H : Hp) (C : Addr) (cl : List (Str × Addr)) (fp : List Addr), PG (X.blk s H scope (compEnvC scope cl C X.env) fp) tg g)
    (ht : ∀ (s : Shared) (H : Hp) (C : Addr) (cl : List (Str × Addr)) (fp : List Addr), DTs (X.blk s H scope (compEnvC scope cl C X.env) fp) cn (fun _ _ _ _ => False) ifs tt)
    (he : ∀ (s : Shared) (H : Hp) (C : Addr) (cl : List (Str × Addr)) (fp : List Addr), DE (X.blk s H scope (compEnvC scope cl C X.env) fp) cn (fun _ _ _ _ => False) elt fe) (hs : ∀ x, foldedSetIterable iter X.env x = pure x := by intro _; rfl) :
    DE X cn W (.ListComp elt [⟨tg, iter, ifs, 0⟩] scope pos) (fLc it h tt fe (own.map (·.2))) := PE.imp (pe_lc hc hN hi ok hg ht (fun s H C cl fp => de_z (he s H C cl fp)) hs) fun _ _ _ q => tLc_of hd hix q
/-- y = [..] -/
theorem ds_lc {i : Nat} {it : En → Option RA} {g : TG} {h : D → En → Option En} {ix : List Nat} {tt : En → Option RB} {fe : En → Option R} {vs : List Nat} (hd : DG X.K cn g h ix) (hix : ∀ i ∈ ix, i ∈ vs)
    (hp : PS X st (tAsg (tLc (tI X.K cn W it) g (tT X.K cn (fun _ _ _ _ => False) tt) (tZ X.K cn (fun _ _ _ _ => False) fe) vs) (gName i))) : DS X cn W G0 H0 st (fSet i (fLc it h tt fe vs)) := ds_setC (fun _ _ _ q => tLc_of hd hix q) hp

/-! ### stores into a local's own list, dict -/
def fApp (i : Nat) (f : En → Option R) : En → Option Out := fun en => match en[i]? with
  | some (some (.ow (.lst ds))) => bS (shr (f en)) en fun _ d => if ds.length < 16777216 then some (.nx (en.set i (some (.ow (.lst (ds ++ [d])))))) else none
  | _ => none
theorem ds_app {i : Nat} (h : PS X st (tDrop (tBM X.K "list" rAppend (tVar i) (tCons (tZ X.K cn W f) tNil)))) : DS X cn W G0 H0 st (fApp i f) := by
  refine PS.imp h ?_
  rintro E σ H ⟨G, en, o, s, e, q⟩
  unfold fApp at e
  split at e
  · rename_i ds hs
    obtain ⟨p, e1, gn, vs, hp, t⟩ := s.sr.sl i _ hs
    refine ⟨.ref p, e1, .inl ⟨rfl, vs, SqL.of hp⟩, ?_⟩
    refine es_bindS s e q fun v d G1 H1 st s1 dv e2 => ?_
    split at e2
    · rename_i hl
      cases e2
      have hp1 := st.h _ _ hp
      obtain ⟨p', e1', gn', _⟩ := s1.sr.sl i _ hs
      rw [e1] at e1'; cases e1'
      exact ⟨p, vs, v, rfl, rfl, hp1, by rw [t.length, szl]; exact hl, q σ G1 _ st.g (s1.mut hs e1 ⟨_, hp1⟩ gn' ⟨_, upd_same, (t.same st.g).append (.one dv)⟩ (by intro z; cases z))⟩
    · cases e2
  · cases e
/-- o[i] = v, by values: a list's or a dict's -/
theorem PSet.or {t u : TSet} (h : PSet X t) (h2 : PSet X u) : PSet X (fun o i v H Q => t o i v H Q ∨ u o i v H Q) := fun pins s σ H o i v ov iv uv Q I r1 r2 r3 q => q.elim (h pins s σ H o i v ov iv uv Q I r1 r2 r3) (h2 pins s σ H o i v ov iv uv Q I r1 r2 r3)
def rSet : V → V → V → Hp → (Hp → Prop) → Prop := fun o i v H Q => rSetL o i v H Q ∨ rSetD o i v H Q
theorem set_any (hu : X.A.units + 1 < cLine) : PSet X rSet := PSet.or set_list (set_dict hu)
def putD (dks : List (Key × D)) (k : Key) (d : D) : List (Key × D) :=
  if (dks.any fun kv => decide (kv.1 = k)) = true then dks.map (fun kv => if kv.1 = k then (kv.1, d) else kv) else dks ++ [(k, d)]
def putO (v : D) : D → D → Option D
  | .lst ds, .int i => (ixN ds.length i).map fun j => .lst (ds.set j v)
  | .dct dks, k => if dks.length < 16777216 then (keyD k).map fun k => .dct (putD dks k v) else none
  | _, _ => none
/-- x[k] = e: e first, then k -/
def fPut (i : Nat) (fk f : En → Option R) : En → Option Out := fun en => match en[i]? with
  | some (some (.ow x)) => bS (shr (f en)) en fun _ v => bS (fk en) en fun _ k => (putO v x k).map fun y => .nx (en.set i (some (.ow y)))
  | _ => none
theorem any_keys {k : Key} : ∀ {kvs : List (Key × V)} {dks : List (Key × D)}, kvs.map (·.1) = dks.map (·.1) → (kvs.any fun kv => decide (kv.1 = k)) = dks.any fun kv => decide (kv.1 = k)
  | [], [], _ => rfl
  | a :: r, b :: r', e => by
    simp only [List.map_cons, List.cons.injEq] at e
    rw [List.any_cons, List.any_cons, e.1, any_keys e.2]
  | [], _ :: _, e => by simp at e
  | _ :: _, [], e => by simp at e
theorem put_map {K : PySem.W.Frag} {G : Hp} {k : Key} {v : V} {d : D} (hv : Dt K cn G v d) : ∀ {kvs : List (Key × V)} {dks : List (Key × D)}, kvs.map (·.1) = dks.map (·.1) → DtL K cn G (kvs.map (·.2)) (dks.map (·.2)) →
    (kvs.map fun kv => if kv.1 = k then (kv.1, v) else kv).map (·.1) = (dks.map fun kv => if kv.1 = k then (kv.1, d) else kv).map (·.1) ∧ DtL K cn G ((kvs.map fun kv => if kv.1 = k then (kv.1, v) else kv).map (·.2)) ((dks.map fun kv => if kv.1 = k then (kv.1, d) else kv).map (·.2))
  | [], [], _, _ => ⟨rfl, .nil⟩
  | (a, x) :: r, (b, y) :: r', e, t => by
    simp only [List.map_cons, List.cons.injEq] at e
    obtain ⟨e1, e2⟩ := e
    subst e1
    simp only [List.map_cons] at t
    cases t with
    | cons h t =>
      obtain ⟨i1, i2⟩ := put_map (k := k) hv e2 t
      simp only [List.map_cons]
      by_cases q : a = k
      · rw [if_pos q, if_pos q]
        exact ⟨by rw [i1], .cons hv i2⟩
      · rw [if_neg q, if_neg q]
        exact ⟨by rw [i1], .cons h i2⟩
  | [], _ :: _, e, _ => by simp at e
  | _ :: _, [], e, _ => by simp at e
theorem putK_of {K : PySem.W.Frag} {G : Hp} {k : Key} {v : V} {d : D} (hv : Dt K cn G v d) {kvs : List (Key × V)} {dks : List (Key × D)} (e : kvs.map (·.1) = dks.map (·.1)) (t : DtL K cn G (kvs.map (·.2)) (dks.map (·.2))) :
    (putK kvs k v).map (·.1) = (putD dks k d).map (·.1) ∧ DtL K cn G ((putK kvs k v).map (·.2)) ((putD dks k d).map (·.2)) := by
  unfold putK putD
  rw [any_keys e]
  split
  · exact put_map hv e t
  · rw [List.map_append, List.map_append, List.map_append, List.map_append, e]
    exact ⟨rfl, t.append (.one hv)⟩
theorem ds_put {i : Nat} (h : PS X st (tAsg (tZ X.K cn W f) (gSub (tVar i) (tD X.K cn W fk) rSet))) : DS X cn W G0 H0 st (fPut i fk f) := by
  refine PS.imp h ?_
  rintro E σ H ⟨G, en, o, s, e, q⟩
  unfold fPut at e
  split at e
  · rename_i x hs
    refine es_bindS s e q fun v d G1 H1 st s1 dv e1 => ?_
    obtain ⟨p, ep, gn, t⟩ := s1.sr.sl i _ hs
    refine ⟨.ref p, ep, ?_⟩
    refine es_bind s1 e1 (q.on st.g) fun y kd dk G2 H2 st2 s2 vi e2 => ?_
    obtain ⟨z, hz, rfl⟩ := Option.map_eq_some_iff.mp e2
    obtain ⟨p', ep', gn', t'⟩ := s2.sr.sl i _ hs
    rw [ep] at ep'; cases ep'
    have hv := dv.same st2.g
    unfold putO at hz
    split at hz
    · obtain ⟨m, hm, rfl⟩ := Option.map_eq_some_iff.mp hz
      obtain ⟨vs, hp, tl⟩ := t'
      have hy := vi.db.int
      refine .inl ⟨p, vs, _, m, rfl, hy, hp, by rw [tl.length]; exact hm, ?_⟩
      exact q σ G2 _ (st.g.trans st2.g) (s2.mut hs ep ⟨_, hp⟩ gn' ⟨_, upd_same, tl.set m hv⟩ (by intro z; cases z))
    · split at hz
      · rename_i kd2 dks hl
        obtain ⟨k', hk, rfl⟩ := Option.map_eq_some_iff.mp hz
        obtain ⟨kvs, hp, ek, tl⟩ := t'
        have hy := key_of_d vi.db hk
        obtain ⟨b1, b2⟩ := putK_of (k := k') hv ek tl
        have hlen : kvs.length = dks.length := by
          have := congrArg List.length ek
          rw [List.length_map, List.length_map] at this
          exact this
        refine .inr ⟨p, _, rfl, .inl ⟨kvs, k', hp, hy, by rw [hlen, szl]; exact hl, rfl⟩, ?_⟩
        exact q σ G2 _ (st.g.trans st2.g) (s2.mut hs ep ⟨_, hp⟩ gn' ⟨_, upd_same, b1, b2⟩ (by intro z; cases z))
      · cases hz
    · cases hz
  · cases e

/-! ### a list taken apart -/
def hUnl (n : Nat) (hs : List D → En → Option En) : D → En → Option En := fun d en => match d with
  | .lst ds => if ds.length = n then hs ds en else none
  | _ => none
theorem dg_unl {K : PySem.W.Frag} {n : Nat} {gs : TGs} {hs : List D → En → Option En} {ixs : List Nat} (h : DGs K cn gs hs ixs) : DG K cn (gUnl K n gs) (hUnl n hs) ixs := fun v d en en' σ G H Q sg hd e k => by
  unfold hUnl at e
  split at e
  · split at e
    · rename_i ds hn
      cases hd with
      | lst hp t => exact ⟨_, _, rfl, SqL.of (sg _ _ hp), by rw [t.length]; exact hn, h _ _ en en' σ G H Q sg t e k⟩
    · cases e
  · cases e
/-- a tuple or a list -/
def hTL (n : Nat) (hs : List D → En → Option En) : D → En → Option En := fun d en => match d with
  | .tup ds => if ds.length = n then hs ds en else none
  | .lst ds => if ds.length = n then hs ds en else none
  | _ => none
theorem PG.or {tg : Expr} {t u : TG} (h : PG X tg t) (h2 : PG X tg u) : PG X tg (fun v σ H Q => t v σ H Q ∨ u v σ H Q) := ⟨fun pins s σ H v w Q I r q => q.elim (h.run pins s σ H v w Q I r) (h2.run pins s σ H v w Q I r)⟩
theorem dg_tl {K : PySem.W.Frag} {n : Nat} {gs : TGs} {hs : List D → En → Option En} {ixs : List Nat} (h : DGs K cn gs hs ixs) : DG K cn (fun v σ H Q => gTup K n gs v σ H Q ∨ gUnl K n gs v σ H Q) (hTL n hs) ixs := fun v d en en' σ G H Q sg hd e k => by
  cases d with
  | tup ds => exact .inl (dg_tup h v _ en en' σ G H Q sg hd e k)
  | lst ds => exact .inr (dg_unl h v _ en en' σ G H Q sg hd e k)
  | _ => cases e

/-! ### defs -/
def startE (m : Nat) (ds : List D) : En := ds.map (fun d => some (.sh d)) ++ List.replicate (m - ds.length) none
def runF (F : En → Option Out) (m : Nat) (ds : List D) : Option R := match F (startE m ds) with
  | some (.nx _) => some (.val .sh .non)
  | some (.rt k d) => some (.val k d)
  | some (.er _ c d) => some (.er c d)
  | _ => none
theorem start_sr {K : PySem.W.Frag} {G H : Hp} {N : List Str} {vs : List V} {ds : List D} (s : Same G H) (h : DtL K cn G vs ds) (hl : vs.length ≤ N.length) : SR K cn G H (L2.start N vs) (startE N.length ds) := by
  have e0 := h.length
  refine ⟨s, fun i x e => ?_, ?_⟩
  · unfold startE at e
    by_cases hi : i < ds.length
    · rw [List.getElem?_append_left (by simpa using hi), List.getElem?_map] at e
      obtain ⟨d, hd, e⟩ := Option.map_eq_some_iff.mp e
      cases e
      obtain ⟨v, hv, dv⟩ := h.get hd
      refine ⟨v, ?_, dv⟩
      unfold L2.start
      rw [List.getElem?_append_left (by simpa [e0] using hi), List.getElem?_map, hv]
      rfl
    · rw [List.getElem?_append_right (by simpa using hi), List.getElem?_replicate] at e
      split at e <;> cases e
  · unfold startE L2.start
    simp [e0]
theorem start_no (m : Nat) (ds : List D) (i : Nat) (x : D) : (startE m ds)[i]? ≠ some (some (.ow x)) := fun e => by
  unfold startE at e
  by_cases hi : i < ds.length
  · rw [List.getElem?_append_left (by simpa using hi), List.getElem?_map] at e
    obtain ⟨d, _, e⟩ := Option.map_eq_some_iff.mp e
    cases e
  · rw [List.getElem?_append_right (by simpa using hi), List.getElem?_replicate] at e
    split at e <;> cases e
/-- THE RULE of a def -/
theorem fn_D {P : Program} {w : World} {K : PySem.W.Frag} {mg : Str → Option Value} {base : Heap} {x qual : Str} {fst : Stmt} {fa : Addr} {fd : FuncData} {N ps : List Str} {k n : Nat} {Fd : List D → Option R} {FB : En → Option Out} (Fn : Fun K x qual fst fa fd) (S : FnScope N ps (defScope fst)) (hn : ps.length = n)
    (hbody : ∀ (cdv : Value) (A : Around) (outer : List Env) (s : Shared) (H : Hp) (E : XK) (G0 : Hp), Room k (A.deeper (envOfC qual (defScope fst) s.heap.objs.size fa cdv)) →
      Takes (cxOf (L2.CX P w) P w K mg base N qual (defScope fst) fa cdv A outer s H E) (fun c d _ H => E c d H) →
      DSs (cxOf (L2.CX P w) P w K mg base N qual (defScope fst) fa cdv A outer s H E) cn (fun c d _ H => E c d H) G0 ⟨H, none⟩ (defBody fst) FB)
    (hF : ∀ ds r, ds.length = n → Fd ds = some r → runF FB N.length ds = some r) : FnOk P w K mg base (L2.CX P w) (k + 1) fa fd ps (spD K cn n Fd) := by
  refine Fn.okX S (fun vs H Q E h => by rw [spD_len vs H Q E h, hn]) fun cdv A outer s H vs Q E hr h => ?_
  obtain ⟨G, ds, r, sg, hv, hl, e, q⟩ := h
  refine ⟨_, hbody cdv A outer s H E G hr (takes_of rfl rfl rfl rfl), ?_⟩
  have hpl : ps.length ≤ N.length := by have := congrArg List.length S.pre; rw [List.length_take] at this; omega
  have e2 := hF ds r hl e
  unfold runF at e2
  cases hb : FB (startE N.length ds) with
  | none => rw [hb] at e2; cases e2
  | some o =>
    rw [hb] at e2
    refine ⟨G, startE N.length ds, o, ⟨start_sr sg hv (by rw [hv.length, hl, ← hn]; exact hpl), Same.refl _, Same.refl _, fun _ h => .inl h, fun i d p e => absurd e (start_no _ _ _ _), fun i j d d' p _ e => absurd e (start_no _ _ _ _), fun i d p e => absurd e (start_no _ _ _ _)⟩, hb, ?_⟩
    cases o with
    | nx en => cases e2; exact fun σ G' H' _ s' => q .non G' H' s'.stp .non
    | rt k d => cases e2; exact fun v G' H' s' vi => q v G' H' s' vi
    | er en c d => cases e2; exact fun σ dx v G' H' _ s' h1 h2 => q dx v G' H' s'.stp h1 h2
    | bk en => cases e2
    | ct en => cases e2
/-- x = e, x never changed in place -/
def fSh (i : Nat) (f : En → Option R) : En → Option Out := fun en => bS (shr (f en)) en fun _ d => some (.nx (en.set i (some (.sh d))))
theorem ds_shC {i : Nat} {te : TE} (hi : ∀ σ H Q, tZ X.K cn W f σ H Q → te σ H Q) (h : PS X st (tAsg te (gName i))) : DS X cn W G0 H0 st (fSh i f) := by
  refine PS.imp h ?_
  rintro E σ H ⟨G, en, o, s, e, q⟩
  refine hi σ H _ (es_bindS s e q fun v d G1 H1 st s1 dv e1 => ?_)
  cases e1
  exact q _ G1 H1 st.g (s1.set dv)
theorem ds_sh {i : Nat} (h : PS X st (tAsg (tZ X.K cn W f) (gName i))) : DS X cn W G0 H0 st (fSh i f) := ds_shC (fun _ _ _ h => h) h
/-- a new list's showing needs no lock -/
theorem tD_of_tZ {K : PySem.W.Frag} {σ : L2.St} {H : Hp} {Q : VK} {it : En → Option RA} {h : D → En → Option En} {tt : En → Option RB} {fe : En → Option R} {vs : List Nat} (q : tZ K cn W (fLc it h tt fe vs) σ H Q) : tD K cn W (fLc it h tt fe vs) σ H Q := by
  obtain ⟨G, en, r, sr, e, q⟩ := q
  refine ⟨G, en, r, sr, e, ?_⟩
  unfold fLc at e
  cases ht : it en with
  | none => rw [ht] at e; cases e
  | some y =>
    rw [ht] at e
    cases y with
    | er c d => cases e; exact q
    | vals ds =>
      replace e : (if ds.length ≤ 16777216 then (tgIf h tt fe (wipeE en vs) ds).map fun xs => R.val .nw (.lst xs) else none) = some r := e
      split at e
      · obtain ⟨xs, _, rfl⟩ := Option.map_eq_some_iff.mp e
        intro v G1 H1 st vi
        obtain ⟨G2, st2, h2⟩ := vi.sh rfl st
        exact q v G2 H1 st2 h2
      · cases e
theorem ds_shLc {i : Nat} {it : En → Option RA} {g : TG} {h : D → En → Option En} {ix : List Nat} {tt : En → Option RB} {fe : En → Option R} {vs : List Nat} (hd : DG X.K cn g h ix) (hix : ∀ i ∈ ix, i ∈ vs)
    (hp : PS X st (tAsg (tLc (tI X.K cn W it) g (tT X.K cn (fun _ _ _ _ => False) tt) (tZ X.K cn (fun _ _ _ _ => False) fe) vs) (gName i))) : DS X cn W G0 H0 st (fSh i (fLc it h tt fe vs)) := ds_shC (fun _ _ _ q => tLc_of hd hix (tD_of_tZ q)) hp
def fFrz (i : Nat) (F : En → Option Out) : En → Option Out := fun en => F (frzE en i)
theorem dss_fr {i : Nat} (h : DSs X cn W G0 H0 sts F) : DSs X cn W G0 H0 sts (fFrz i F) := dss_frz h

/-! ### calls with keywords: the parameters' last names, in their order -/
def KB (K : PySem.W.Frag) (fd : FuncData) (ps : List Str) (n : Nat) (ks : List Str) : Prop := ∀ (s : Shared) (us ws : List Value), K.In s.heap → us.length = n → ws.length = ks.length → BindsTo s fd ⟨us, ks.zip ws⟩ (ps.zip (us ++ ws))
variable {k n : Nat} {g : Addr} {fd : FuncData} {ps ks : List Str} {Fd : List D → Option R} {x : Str} {p : Pos} {t tk0 : En → Option RA} {es : List Expr} {kws : List Keyword}
end
end PD
/-! PD8S: sorted of texts, of pairs of ints, of a dict's texts; dict(d); walks over dicts. -/
namespace PD
open PySem PySem.Spec PyProof.Rows L2
/-! ### texts in order -/
def leS (a b : Str) : Prop := a.cps.toList ≤ b.cps.toList
instance (a b : Str) : Decidable (leS a b) := inferInstanceAs (Decidable (a.cps.toList ≤ b.cps.toList))
theorem leS_antisymm {a b : Str} (h1 : leS a b) (h2 : leS b a) : a = b := by
  have e : a.cps.toList = b.cps.toList := List.le_antisymm h1 h2
  cases a; cases b
  congr 1
  exact Array.toList_inj.mp e
theorem leS_trans {a b c : Str} (h1 : leS a b) (h2 : leS b c) : leS a c := List.le_trans h1 h2
theorem leS_total (a b : Str) : leS a b ∨ leS b a := List.le_total _ _
def sortS (ss : List Str) : List Str := ss.mergeSort fun a b => decide (leS a b)
theorem sortS_perm (ss : List Str) : (sortS ss).Perm ss := List.mergeSort_perm _ _
theorem sortS_pw (ss : List Str) : (sortS ss).Pairwise leS := by
  have h := List.pairwise_mergeSort (le := fun a b : Str => decide (leS a b)) (fun a b c h1 h2 => decide_eq_true (leS_trans (of_decide_eq_true h1) (of_decide_eq_true h2))) (fun a b => by
    rcases leS_total a b with h | h
    · simp [h]
    · simp [h]) ss
  exact h.imp fun h => of_decide_eq_true h
theorem not_lt_le {a b : Str} (h : ltCps b.cps.toList a.cps.toList = false) : leS a b := by
  rw [ltCps_eq] at h
  exact of_decide_eq_false h
theorem rising_pw : ∀ (r : List Str) (x : Str), risingS x r = true → (x :: r).Pairwise leS
  | [], x, _ => by simp
  | y :: r, x, h => by
    have h' : (!ltCps y.cps.toList x.cps.toList && risingS y r) = true := h
    rw [Bool.and_eq_true] at h'
    have h1 : leS x y := not_lt_le (by simpa using h'.1)
    have ih := rising_pw r y h'.2
    refine List.pairwise_cons.mpr ⟨fun z hz => ?_, ih⟩
    rcases List.mem_cons.mp hz with rfl | hz
    · exact h1
    · exact leS_trans h1 ((List.pairwise_cons.mp ih).1 z hz)
theorem sorted_pw {ys : List Str} (h : sortedS ys = true) : ys.Pairwise leS := by
  cases ys with
  | nil => exact List.Pairwise.nil
  | cons x r => exact rising_pw r x h
theorem sortS_eq {ys ss : List Str} (hp : ys.Perm ss) (hs : sortedS ys = true) : ys = sortS ss :=
  (hp.trans (sortS_perm ss).symm).eq_of_pairwise (fun a b _ _ h1 h2 => leS_antisymm h1 h2) (sorted_pw hs) (sortS_pw ss)
/-! ### pairs in order -/
def leP (a b : Int × Int) : Prop := a.1 < b.1 ∨ (a.1 = b.1 ∧ a.2 ≤ b.2)
instance (a b : Int × Int) : Decidable (leP a b) := inferInstanceAs (Decidable (_ ∨ _))
def sortP (ps : List (Int × Int)) : List (Int × Int) := ps.mergeSort fun a b => decide (leP a b)
theorem sortP_perm (ps : List (Int × Int)) : (sortP ps).Perm ps := List.mergeSort_perm _ _
theorem sortP_pw (ps : List (Int × Int)) : (sortP ps).Pairwise leP := by
  have h := List.pairwise_mergeSort (le := fun a b : Int × Int => decide (leP a b)) (fun a b c h1 h2 => by
    have h1 := of_decide_eq_true h1
    have h2 := of_decide_eq_true h2
    refine decide_eq_true ?_
    unfold leP at *
    omega) (fun a b => by
    by_cases h : leP a b
    · simp [h]
    · have : leP b a := by unfold leP at *; omega
      simp [this]) ps
  exact h.imp fun h => of_decide_eq_true h
theorem sortP_eq {ys ps : List (Int × Int)} (hp : ys.Perm ps) (hs : ys.Pairwise leP) : ys = sortP ps :=
  (hp.trans (sortP_perm ps).symm).eq_of_pairwise (fun a b _ _ h1 h2 => by
    unfold leP at *
    have e1 : a.1 = b.1 := by omega
    have e2 : a.2 = b.2 := by omega
    exact Prod.ext e1 e2) hs (sortP_pw ps)
def pairsOfD : List D → Option (List (Int × Int))
  | [] => some []
  | .tup [.int a, .int b] :: r => (pairsOfD r).map ((a, b) :: ·)
  | _ => none
def pD (p : Int × Int) : D := .tup [.int p.1, .int p.2]
end PD
/-! PD9: zip over texts, tuples and lists; stars; sorted. -/
namespace PD
open PySem PySem.Spec PyProof.Rows L2

/-! ### zip of two sequences of any kind -/
inductive Src where
  | ls (a : Addr) | tp (a : Addr) | tx (x : Str) (t : Tok)
def Src.val : Src → Value
  | .ls a => .ref a
  | .tp a => .ref a
  | .tx x t => .str x t
def Src.at : Src → Hp → List V → Prop
  | .ls a, H, vs => H a = some (.lst vs)
  | .tp a, H, vs => H a = some (.tup vs)
  | .tx x _, _, vs => vs = x.cps.toList.map fun c => V.str ⟨#[c]⟩
/-- the iterator's own state -/
def Src.it : Src → Addr → Nat → Heap → Prop
  | .ls a, i, n, h => h.IsListIter i a n
  | .tp a, i, n, h => h.IsTupleIter i a n
  | .tx x t, i, n, h => h.IsStrIter i (strIterType x) x t n
def Src.obj : Src → Obj
  | .ls a => { cls := .type "list_iterator", data := .fields #[.ref a, .int 0 0] }
  | .tp a => { cls := .type "tuple_iterator", data := .fields #[.ref a, .int 0 0] }
  | .tx x t => { cls := .type (strIterType x), data := .fields #[.str x t, .int 0 0] }
section
variable {X : Cx} {pins : List (Addr × Obj)} {σ : L2.St} {H : Hp} {s : Shared}
theorem Src.it0 (S : Src) {i : Addr} {h : Heap} (e : h.get? i = some S.obj) : S.it i 0 h := by
  cases S with
  | ls a => exact ⟨_, e, rfl, rfl⟩
  | tp a => exact ⟨_, e, rfl, rfl⟩
  | tx x t => exact ⟨_, e, rfl, rfl⟩
theorem Src.it_at (S : Src) {i : Addr} {n : Nat} {h h' : Heap} (x : S.it i n h) (k : ∀ o, h.get? i = some o → h'.get? i = some o) : S.it i n h' := by
  cases S with
  | ls a => exact x.at k
  | tp a => exact x.at k
  | tx y t => obtain ⟨o, e, c⟩ := x; exact ⟨o, k o e, c⟩
theorem Src.it_obj (S : Src) {i : Addr} {n : Nat} {h : Heap} (x : S.it i n h) : ∃ o, h.get? i = some o ∧ ∀ v, o.data ≠ .cell v := by
  cases S with
  | ls a => obtain ⟨o, e, c, d⟩ := x; exact ⟨o, e, fun v z => by rw [d] at z; cases z⟩
  | tp a => obtain ⟨o, e, c, d⟩ := x; exact ⟨o, e, fun v z => by rw [d] at z; cases z⟩
  | tx y t => obtain ⟨o, e, c, d⟩ := x; exact ⟨o, e, fun v z => by rw [d] at z; cases z⟩
/-- the source's own address, where it has one -/
def Src.ad : Src → Option Addr
  | .ls a => some a
  | .tp a => some a
  | .tx _ _ => none
theorem Src.ad_some (S : Src) {vs : List V} (h : S.at H vs) : ∀ b, S.ad = some b → ∃ o, H b = some o := by
  intro b e
  cases S with
  | ls a => cases e; exact ⟨_, h⟩
  | tp a => cases e; exact ⟨_, h⟩
  | tx x t => cases e
structure SrcD (P : Program) (w : World) (A : Around) (S : Src) (i : Addr) (vs : List V) (fp : List Addr) (Pn : Nat → Value → Prop) (St : Nat → Heap → Prop) : Prop where
  d : Draws P w A i fp vs.length Pn St
  out : ∀ n h, St n h → S.it i n h
  mem : i ∈ fp
  fps : ∀ b ∈ fp, b = i ∨ S.ad = some b
  val : ∀ n u, Pn n u → ∃ v, vs[n]? = some v ∧ RelV v u
theorem Src.draws (S : Src) {i : Addr} {vs : List V} {A : Around} (I : L2.Inv X pins σ H s) (h : S.at H vs) (hA : A.handled = none) (hne : ∀ a, S.ad = some a → a ≠ i) :
    ∃ fp Pn St, SrcD X.prog X.w A S i vs fp Pn St ∧ ∀ n, S.it i n s.heap → St n s.heap := by
  cases S with
  | ls a =>
    obtain ⟨its, r, p, _⟩ := I.list (SqL.of h)
    have hl := r.length
    refine ⟨[i, a], (fun n v => its.toArray[n]? = some v), (fun n h => h.IsListIter i a n ∧ h.IsList a its.toArray), ⟨?_, fun n h x => x.1, by simp, fun b hb => ?_, ?_⟩, fun n x => ⟨x, p.isList⟩⟩
    · have D := Draws.list (prog := X.prog) (w := X.w) (A := A) hA i a (hne a rfl) its.toArray
      rw [List.size_toArray, ← hl] at D
      exact D
    · have : b = i ∨ b = a := by simpa using hb
      exact this.imp id fun e => by rw [e]; rfl
    · intro n u e
      have e' : its[n]? = some u := by simpa using e
      have : n < vs.length := by rw [hl]; exact (List.getElem?_eq_some_iff.mp e').1
      obtain ⟨u', e2, r2⟩ := r.get (List.getElem?_eq_getElem this)
      rw [e'] at e2; cases e2
      exact ⟨_, List.getElem?_eq_getElem this, r2⟩
  | tp a =>
    obtain ⟨its, r, p, _⟩ := I.tuple (SqT.of h)
    have hl := r.length
    refine ⟨[i, a], (fun n v => its.toArray[n]? = some v), (fun n h => h.IsTupleIter i a n ∧ h.IsTuple a its.toArray), ⟨?_, fun n h x => x.1, by simp, fun b hb => ?_, ?_⟩, fun n x => ⟨x, (show s.heap.IsTuple a its.toArray from p)⟩⟩
    · have D := Draws.tuple (prog := X.prog) (w := X.w) (A := A) hA i a (hne a rfl) its.toArray
      rw [List.size_toArray, ← hl] at D
      exact D
    · have : b = i ∨ b = a := by simpa using hb
      exact this.imp id fun e => by rw [e]; rfl
    · intro n u e
      have e' : its[n]? = some u := by simpa using e
      have : n < vs.length := by rw [hl]; exact (List.getElem?_eq_some_iff.mp e').1
      obtain ⟨u', e2, r2⟩ := r.get (List.getElem?_eq_getElem this)
      rw [e'] at e2; cases e2
      exact ⟨_, List.getElem?_eq_getElem this, r2⟩
  | tx x t =>
    have hv : vs = x.cps.toList.map fun c => V.str ⟨#[c]⟩ := h
    subst hv
    refine ⟨[i], (fun n v => ∃ c u, x.cps[n]? = some c ∧ v = .str ⟨#[c]⟩ u), (fun n h => h.IsStrIter i (strIterType x) x t n), ⟨?_, fun n h y => y, by simp, fun b hb => .inl (by simpa using hb), ?_⟩, fun n y => y⟩
    · have D := Draws.text (prog := X.prog) (w := X.w) (A := A) hA i x t
      have e : (x.cps.toList.map fun c => V.str ⟨#[c]⟩).length = x.cps.size := by simp
      rw [e]
      exact D
    · rintro n u ⟨c, t', e, rfl⟩
      refine ⟨.str ⟨#[c]⟩, ?_, t', rfl⟩
      rw [List.getElem?_map, Array.getElem?_toList, e]
      rfl
/-- the pairs of two sources -/
def Itg (S1 S2 : Src) : It :=
  ⟨fun n H => ∃ vs ws x y, S1.at H vs ∧ S2.at H ws ∧ vs[n]? = some x ∧ ws[n]? = some y,
    fun n H v H' => ∃ T x y, v = .ref T ∧ H T = none ∧ H' = upd H T (.tup [x, y]) ∧ ∃ vs ws, S1.at H vs ∧ S2.at H ws ∧ vs[n]? = some x ∧ ws[n]? = some y,
    fun n H => ∃ vs ws, S1.at H vs ∧ S2.at H ws ∧ n ≤ vs.length ∧ n ≤ ws.length ∧ (n = vs.length ∨ n = ws.length)⟩
structure Apart (z TI TO i1 i2 : Addr) : Prop where
  a : TI ≠ z
  b : TO ≠ z
  c : TI ≠ TO
  d : TI ≠ i1
  e : TI ≠ i2
  f : z ≠ i1
  g : z ≠ i2
  h : TO ≠ i1
  i : TO ≠ i2
  j : i1 ≠ i2
theorem turn_zipG {P : Program} {w : World} {K : PySem.W.Frag} {elts : List Expr} {kk : Nat} {tpos : Pos} {S1 S2 : Src} {z TI TO i1 i2 : Addr} (D : Apart z TI TO i1 i2) :
    Turn P w K (.Tuple elts kk tpos) (Itg S1 S2) [z, TI, TO, i1, i2] z (fun n h => IsZip h z TI TO .none ∧ IsTupOf2 h TI (.ref i1) (.ref i2) ∧ (∃ x y, IsTupOf2 h TO x y) ∧ S1.it i1 n h ∧ S2.it i2 n h) where
  mem := by simp
  obj := fun n h st c hc => by
    obtain ⟨hz, hTI, ⟨x, y, hTO⟩, h1, h2⟩ := st
    have e' : c = z ∨ c = TI ∨ c = TO ∨ c = i1 ∨ c = i2 := by simpa using hc
    rcases e' with q | q | q | q | q <;> subst q
    · exact ⟨_, hz, fun v q => nomatch q⟩
    · exact ⟨_, hTI, fun v q => nomatch q⟩
    · exact ⟨_, hTO, fun v q => nomatch q⟩
    · exact S1.it_obj h1
    · exact S2.it_obj h2
  keep := fun n h h' st k => by
    obtain ⟨hz, hTI, ⟨x, y, hTO⟩, h1, h2⟩ := st
    exact ⟨k z (by simp) _ hz, k TI (by simp) _ hTI, ⟨x, y, k TO (by simp) _ hTO⟩, S1.it_at h1 fun o q => k i1 (by simp) o q, S2.it_at h2 fun o q => k i2 (by simp) o q⟩
  item := by
    intro X hP hw hK hc n pins s σ H E I hf st hg
    subst hP hw hK
    obtain ⟨hz, hTI, ⟨x0, y0, hTO⟩, h1, h2⟩ := st
    obtain ⟨vs, ws, x, y, q1, q2, hx, hy⟩ := hg
    have hA : X.A.in1.handled = none := I.ok.hd hc
    have no : ∀ b ∈ [z, TI, TO, i1, i2], H b = none := fun b hb => (hf b hb).1
    have ne1 : ∀ b ∈ [z, TI, TO, i1, i2], ∀ a, S1.ad = some a → a ≠ b := fun b hb a ea z => by
      obtain ⟨o, e⟩ := S1.ad_some q1 a ea
      rw [z, no b hb] at e; cases e
    have ne2 : ∀ b ∈ [z, TI, TO, i1, i2], ∀ a, S2.ad = some a → a ≠ b := fun b hb a ea z => by
      obtain ⟨o, e⟩ := S2.ad_some q2 a ea
      rw [z, no b hb] at e; cases e
    obtain ⟨fp1, P1, St1, d1, s1⟩ := S1.draws I q1 hA (ne1 i1 (by simp))
    obtain ⟨fp2, P2, St2, d2, s2⟩ := S2.draws I q2 hA (ne2 i2 (by simp))
    have out1 : ∀ b ∈ [z, TI, TO, i1, i2], b ≠ i1 → b ∉ fp1 := fun b hb hn hm => by
      rcases d1.fps b hm with e | e
      · exact hn e
      · exact ne1 b hb b e rfl
    have out2 : ∀ b ∈ [z, TI, TO, i1, i2], b ≠ i2 → b ∉ fp2 := fun b hb hn hm => by
      rcases d2.fps b hm with e | e
      · exact hn e
      · exact ne2 b hb b e rfl
    have SZ : ZipSep2 z TI TO i1 i2 fp1 fp2 := ⟨D.a, D.b, D.c, D.d, d1.mem, out1 z (by simp) D.f, out1 TO (by simp) D.h, D.e, d2.mem, out2 z (by simp) D.g, out2 TO (by simp) D.i, out2 i1 (by simp) D.j, out1 i2 (by simp) (Ne.symm D.j)⟩
    refine wpAny_pyNext_zipD2_item SZ d1.d d2.d hz hTI hTO (s1 n h1) (s2 n h2) (List.getElem?_eq_some_iff.mp hx).1 (List.getElem?_eq_some_iff.mp hy).1 fun u1 u2 h' tk p1 p2 z' TO' t1 t2 hT hsz hk => ?_
    obtain ⟨x', ex, rx⟩ := d1.val n u1 p1
    obtain ⟨y', ey, ry⟩ := d2.val n u2 p2
    rw [hx] at ex; cases ex
    rw [hy] at ey; cases ey
    have hzl : z < s.heap.objs.size := Heap.lt_size hz
    refine ⟨_, rfl, wpAny_letOwnedTupleGo_zip (s := { s with heap := h', toks := tk }) z' fun h'' z'' sb => ?_⟩
    have hT2 : h''.get? s.heap.objs.size = some { cls := .type "tuple", data := .seq #[u1, u2] } := (sb.2 _ (Nat.ne_of_gt hzl)).trans hT
    have new : ObjOk X.prog X.w (upd H s.heap.objs.size (.tup [x, y])) h'' s.heap.objs.size (.tup [x, y]) :=
      ⟨by show 2 ≤ sizeLine; decide, [u1, u2], .cons rx (.cons ry .nil), ⟨_, hT2, rfl, _, rfl⟩⟩
    have ho : ∀ c o, c ∉ [z, TI, TO, i1, i2] → s.heap.get? c = some o → h''.get? c = some o := fun c o hb q =>
      (sb.2 c (fun e => hb (by simp [e]))).trans (hk c o (fun e => hb (by simp [e])) (fun e => hb (by simp [e])) (fun e => hb (by simp [e])) (fun e => hb (by simp [e])) q)
    have I1 : L2.Inv X pins σ (upd H s.heap.objs.size (.tup [x, y])) { s with heap := h'', toks := tk } := I.turnedNew (t' := tk) (ch := [z, TI, TO, i1, i2]) ho hf (Nat.le_refl _) new
    refine ⟨.ref s.heap.objs.size, _, I1, rfl, ⟨_, x, y, rfl, I.hok.fresh (Nat.le_refl _), rfl, vs, ws, q1, q2, hx, hy⟩, ⟨z'', ?_, ⟨u1, u2, ?_⟩, ?_, ?_⟩, fun c hcm => ?_⟩
    · exact (sb.2 _ D.a).trans (hk _ _ D.a D.c D.d D.e hTI)
    · exact (sb.2 _ D.b).trans TO'
    · exact S1.it_at (d1.out _ _ t1) fun o q => (sb.2 _ (Ne.symm D.f)).trans q
    · exact S2.it_at (d2.out _ _ t2) fun o q => (sb.2 _ (Ne.symm D.g)).trans q
    · have hlt : c < s.heap.objs.size := by
        have e' : c = z ∨ c = TI ∨ c = TO ∨ c = i1 ∨ c = i2 := by simpa using hcm
        rcases e' with q | q | q | q | q <;> subst q
        · exact hzl
        · exact Heap.lt_size hTI
        · exact Heap.lt_size hTO
        · obtain ⟨_, e1, _⟩ := S1.it_obj h1; exact Heap.lt_size e1
        · obtain ⟨_, e2, _⟩ := S2.it_obj h2; exact Heap.lt_size e2
      rw [upd_ne (Nat.ne_of_lt hlt)]
      exact (hf c hcm).1
  done := by
    intro X hP hw hK hc n pins s σ H E I hf st hg
    subst hP hw hK
    obtain ⟨hz, hTI, ⟨x0, y0, hTO⟩, h1, h2⟩ := st
    obtain ⟨vs, ws, q1, q2, l1, l2, hend⟩ := hg
    have hA : X.A.in1.handled = none := I.ok.hd hc
    have no : ∀ b ∈ [z, TI, TO, i1, i2], H b = none := fun b hb => (hf b hb).1
    have ne1 : ∀ b ∈ [z, TI, TO, i1, i2], ∀ a, S1.ad = some a → a ≠ b := fun b hb a ea z => by
      obtain ⟨o, e⟩ := S1.ad_some q1 a ea
      rw [z, no b hb] at e; cases e
    have ne2 : ∀ b ∈ [z, TI, TO, i1, i2], ∀ a, S2.ad = some a → a ≠ b := fun b hb a ea z => by
      obtain ⟨o, e⟩ := S2.ad_some q2 a ea
      rw [z, no b hb] at e; cases e
    obtain ⟨fp1, P1, St1, d1, s1⟩ := S1.draws I q1 hA (ne1 i1 (by simp))
    obtain ⟨fp2, P2, St2, d2, s2⟩ := S2.draws I q2 hA (ne2 i2 (by simp))
    have out1 : ∀ b ∈ [z, TI, TO, i1, i2], b ≠ i1 → b ∉ fp1 := fun b hb hn hm => by
      rcases d1.fps b hm with e | e
      · exact hn e
      · exact ne1 b hb b e rfl
    have out2 : ∀ b ∈ [z, TI, TO, i1, i2], b ≠ i2 → b ∉ fp2 := fun b hb hn hm => by
      rcases d2.fps b hm with e | e
      · exact hn e
      · exact ne2 b hb b e rfl
    have SZ : ZipSep2 z TI TO i1 i2 fp1 fp2 := ⟨D.a, D.b, D.c, D.d, d1.mem, out1 z (by simp) D.f, out1 TO (by simp) D.h, D.e, d2.mem, out2 z (by simp) D.g, out2 TO (by simp) D.i, out2 i1 (by simp) D.j, out1 i2 (by simp) (Ne.symm D.j)⟩
    refine wpAny_pyNext_zipD2_end SZ d1.d d2.d hz hTI hTO (s1 n h1) (s2 n h2) l1 l2 hend fun h' tk hk => ⟨rfl, ?_⟩
    exact I.turnedL (t' := tk) (ch := [z, TI, TO, i1, i2]) (fun c o hb q => hk c o (fun e => hb (by simp [e])) (fun e => hb (by simp [e])) (fun e => hb (by simp [e])) (fun e => hb (by simp [e])) q) hf
  self := fun A n s Q E st h => wpAny_pyIter_zip st.1 h
/-- how a source begins -/
def Src.ok (S : Src) (h : Heap) : Prop := match S with
  | .ls a => ∃ its, h.IsList a its
  | .tp a => ∃ its, h.IsTuple a its
  | .tx _ _ => True
theorem Src.begins (S : Src) {h : Heap} (x : S.ok h) : ∃ Hp, Begins S.val S.obj Hp ∧ Hp h := by
  cases S with
  | ls a => obtain ⟨its, e⟩ := x; exact ⟨_, begins_list a its, e⟩
  | tp a => obtain ⟨its, e⟩ := x; exact ⟨_, begins_tuple a its, e⟩
  | tx y t => exact ⟨_, begins_text y t, trivial⟩
theorem Src.ok_of (S : Src) {vs : List V} (I : L2.Inv X pins σ H s) (h : S.at H vs) : S.ok s.heap := by
  cases S with
  | ls a =>
    obtain ⟨its, r, p, _⟩ := I.list (SqL.of h)
    exact ⟨_, p.isList⟩
  | tp a =>
    obtain ⟨its, r, p, _⟩ := I.tuple (SqT.of h)
    exact ⟨_, p⟩
  | tx y t => exact trivial
theorem apart_new (n : Nat) : Apart (n + 4) (n + 2) (n + 3) n (n + 1) := by
  refine ⟨?_, ?_, ?_, ?_, ?_, ?_, ?_, ?_, ?_, ?_⟩ <;> (intro z; have z' : (_ : Nat) = _ := z; omega)
end
section
variable {X : Cx} {cn : Cn} {W : WX} {e e2 : Expr} {f : En → Option R} {t : En → Option RA} {p pos tpos : Pos} {elts : List Expr} {kk : Nat}
def seqD : D → Option (List D)
  | .lst ds => some ds
  | .tup ds => some ds
  | .str z => some (z.cps.toList.map fun c => .str ⟨#[c]⟩)
  | _ => none
def zipW : List D → List D → List D
  | a :: r, b :: r' => .tup [a, b] :: zipW r r'
  | _, _ => []
theorem zipW_get : ∀ (xs ys : List D) (i : Nat) (d : D), (zipW xs ys)[i]? = some d → ∃ a b, xs[i]? = some a ∧ ys[i]? = some b ∧ d = .tup [a, b]
  | [], _, _, _, h => by simp [zipW] at h
  | _ :: _, [], _, _, h => by simp [zipW] at h
  | a :: r, b :: r', 0, d, h => by simp [zipW] at h; exact ⟨a, b, rfl, rfl, h.symm⟩
  | a :: r, b :: r', i + 1, d, h => by
    obtain ⟨x, y, h1, h2, h3⟩ := zipW_get r r' i d (by simpa [zipW] using h)
    exact ⟨x, y, by simpa using h1, by simpa using h2, h3⟩
theorem zipW_len : ∀ (xs ys : List D), (zipW xs ys).length = min xs.length ys.length
  | [], _ => by simp [zipW]
  | _ :: _, [] => by simp [zipW]
  | a :: r, b :: r' => by simp only [zipW, List.length_cons, zipW_len r r']; omega
def zipD : List D → Option (List D)
  | [x, y] => match seqD x, seqD y with
    | some xs, some ys => some (zipW xs ys)
    | _, _ => none
  | _ => none
/-- a value that is a source -/
theorem src_of {K : PySem.W.Frag} {G : Hp} {v : V} {u : Value} {d : D} {ds : List D} (h : Dt K cn G v d) (e : seqD d = some ds) (r : RelV v u) : ∃ (S : Src) (vs : List V), u = S.val ∧ S.at G vs ∧ DtL K cn G vs ds ∧ ∀ H', Same G H' → S.at H' vs := by
  cases h with
  | lst hp t => cases e; cases r; exact ⟨.ls _, _, rfl, hp, t, fun H' s => s _ _ hp⟩
  | tup hp t => cases e; cases r; exact ⟨.tp _, _, rfl, hp, t, fun H' s => s _ _ hp⟩
  | str z =>
    cases e
    obtain ⟨t, rfl⟩ := r
    refine ⟨.tx z t, _, rfl, rfl, ?_, fun _ _ => rfl⟩
    have : ∀ l : List Nat, DtL K cn G (l.map fun c => V.str ⟨#[c]⟩) (l.map fun c => D.str ⟨#[c]⟩) := fun l => by
      induction l with
      | nil => exact .nil
      | cons c l ih => exact .cons (.str _) ih
    exact this _
  | _ => cases e
theorem src_at_inj {H : Hp} {S : Src} {vs ws : List V} (a : S.at H vs) (b : S.at H ws) : vs = ws := by
  cases S with
  | ls _ => have a' : H _ = _ := a; rw [show H _ = _ from b] at a'; cases a'; rfl
  | tp _ => have a' : H _ = _ := a; rw [show H _ = _ from b] at a'; cases a'; rfl
  | tx x t => exact (show vs = _ from a).trans (show ws = _ from b).symm
theorem gives_zip {K : PySem.W.Frag} {G : Hp} {S1 S2 : Src} {vs ws : List V} {ds es : List D} (h1 : ∀ H', Same G H' → S1.at H' vs) (h2 : ∀ H', Same G H' → S2.at H' ws) (t1 : DtL K cn G vs ds) (t2 : DtL K cn G ws es) : Gives K cn (Itg S1 S2) G (zipW ds es) := fun G' H' s1 s2 i => by
  have a1 := h1 H' (s1.trans s2)
  have a2 := h2 H' (s1.trans s2)
  refine ⟨fun d hd => ?_, fun hl => ?_⟩
  · obtain ⟨x, y, hx, hy, rfl⟩ := zipW_get _ _ _ _ hd
    obtain ⟨v, hv, dv⟩ := t1.get hx
    obtain ⟨w, hw, dw⟩ := t2.get hy
    refine ⟨⟨vs, ws, v, w, a1, a2, hv, hw⟩, fun x0 H2 y0 => ?_⟩
    obtain ⟨T, v', w', rfl, hT, rfl, vs', ws', b1, b2, e1, e2⟩ := y0
    have q1 := src_at_inj a1 b1; subst q1
    have q2 := src_at_inj a2 b2; subst q2
    rw [hv] at e1; cases e1
    rw [hw] at e2; cases e2
    have gT := s2.free hT
    exact ⟨_, Stp.new s2 hT, .tup upd_same (.cons (dv.same (s1.trans (same_upd gT))) (.one (dw.same (s1.trans (same_upd gT)))))⟩
  · rw [zipW_len] at hl
    have e1 := t1.length
    have e2 := t2.length
    exact ⟨vs, ws, a1, a2, by omega, by omega, by omega⟩
theorem di_zip (hg : Gl X "zip") (hm : X.mg "zip" = none) (ha : DA X cn W [e, e2] t)
    (hs : starEach [e, e2] X.env = (false, eval e X.env) :: starEach [e2] X.env := by rfl) (hpl : (backTo pos (starEach [e2] X.env)).any (·.1) = false := by rfl) :
    DI X cn W (.Tuple elts kk tpos) (.Call (.Name "zip" p) [e, e2] [] pos) (fIt zipD t) := by
  refine ⟨fun pins s σ H Rr I h => ?_⟩
  have h2 : tA X.K cn W t σ H (fun vs H1 => ∃ G1 ds xs, Same G1 H1 ∧ DtL X.K cn G1 vs ds ∧ zipD ds = some xs ∧ ∀ J, Gives X.K cn J G1 xs → Rr J H1) := tI_of h fun vs ds xs G1 H1 sg hv hx q => ⟨G1, ds, xs, sg, hv, hx, q⟩
  refine Call_ (ld_blt I hg hm PyProof.Rows.boot_zip (PyProof.Rows.callWith_type1 (thn (ha.run pos pins s σ H _ I h2) fun us s1 ⟨vs, H1, I1, r1, G1, ds, xs, sg, hv, hx, q⟩ => ?_) hs hpl))
  unfold zipD at hx
  split at hx
  · rename_i x y
    split at hx
    · rename_i as bs e1 e2'
      cases hx
      cases hv with
      | cons hv1 hv =>
        cases hv with
        | cons hv2 hv =>
          cases hv
          cases r1 with
          | cons ra rr =>
            cases rr with
            | cons rb rr =>
              cases rr
              obtain ⟨S1, v1, rfl, a1, t1, k1⟩ := src_of hv1 e1 ra
              obtain ⟨S2, v2, rfl, a2, t2, k2⟩ := src_of hv2 e2' rb
              obtain ⟨P1, B1, b1⟩ := S1.begins (S1.ok_of I1 (k1 _ sg))
              obtain ⟨P2, B2, b2⟩ := S2.begins (S2.ok_of I1 (k2 _ sg))
              refine zip_begins2 B1 B2 b1 b2 fun h' hz hTI hTO o1 o2 hsz hk => wpAny_pyIter_zip hz ?_
              have I2 : L2.Inv X pins σ H1 { s1 with heap := h' } := I1.kept (t' := s1.toks) hk
              refine ⟨s1.heap.objs.size + 4, [s1.heap.objs.size + 4, s1.heap.objs.size + 2, s1.heap.objs.size + 3, s1.heap.objs.size, s1.heap.objs.size + 1], _, _, H1, rfl, I2, turn_zipG (apart_new _), ⟨hz, hTI, ⟨_, _, hTO⟩, S1.it0 o1, S2.it0 o2⟩, fun c hcm => ?_, q _ (gives_zip k1 k2 t1 t2)⟩
              have hle : s1.heap.objs.size ≤ c := by
                have e' : c = s1.heap.objs.size + 4 ∨ c = s1.heap.objs.size + 2 ∨ c = s1.heap.objs.size + 3 ∨ c = s1.heap.objs.size ∨ c = s1.heap.objs.size + 1 := by simpa using hcm
                rcases e' with z | z | z | z | z <;> (rw [z]; first | exact Nat.le_add_right _ _ | exact Nat.le_refl _)
              exact I1.fpOk hle (I1.hok.fresh hle)
    · cases hx
  · cases hx

/-! ### *e in a display -/
def fStar (f : En → Option R) (t : En → Option RA) : En → Option RA := fun en => match f en with
  | some (.val _ (.lst ds)) => (match t en with
    | some (.vals es) => some (.vals (ds ++ es))
    | x => x)
  | some (.val _ (.tup ds)) => (match t en with
    | some (.vals es) => some (.vals (ds ++ es))
    | x => x)
  | some (.er c d) => some (.er c d)
  | _ => none
theorem da_star {es : List Expr} (he : DE X cn W e f) (hr : DA X cn W es t) (hs : starEach (.Starred e p :: es) X.env = (true, eval e X.env) :: starEach es X.env := by rfl) : DA X cn W (.Starred e p :: es) (fStar f t) := by
  refine PA.imp (StX.pa_star he hr hs) ?_
  rintro σ H Q ⟨G, en, r, sr, e, q⟩
  unfold fStar at e
  have go : ∀ (ds : List D) (vs : List V) (G1 H1 : Hp), Stp G H G1 H1 → DtL X.K cn G1 vs ds → (match t en with | some (.vals es) => some (RA.vals (ds ++ es)) | x => x) = some r → tA X.K cn W t σ H1 fun ys H2 => Q (vs ++ ys) H2 := fun ds vs G1 H1 st h e => by
    cases ht : t en with
    | none => rw [ht] at e; cases e
    | some y =>
      rw [ht] at e
      refine ⟨G1, en, y, sr.step st, ht, ?_⟩
      cases y with
      | vals es => cases e; exact fun ws G2 H2 s2 h2 => q (vs ++ ws) G2 H2 (st.trans s2) ((h.same s2.g).append h2)
      | er c d => cases e; exact fun dx v' G2 H2 s2 => q dx v' G2 H2 (st.trans s2)
  cases hf : f en with
  | none => rw [hf] at e; cases e
  | some x =>
    rw [hf] at e
    refine ⟨G, en, x, sr, hf, ?_⟩
    cases x with
    | er c d => cases e; exact q
    | val kd d =>
      intro v G1 H1 st vi
      cases d with
      | lst ds =>
        obtain ⟨p, vs, rfl, hp, tl⟩ := (vi.db).lst st.sub
        exact ⟨p, vs, rfl, .inr (SqL.of hp), go ds vs G1 H1 st tl e⟩
      | tup ds =>
        obtain ⟨p, vs, rfl, hp, tl⟩ := (vi.db).tup st.sub
        exact ⟨p, vs, rfl, .inl hp, go ds vs G1 H1 st tl e⟩
      | _ => cases e

/-! ### sorted -/
def sortI (ns : List Int) : List Int := ns.mergeSort fun a b => decide (a ≤ b)
theorem sortI_perm (ns : List Int) : (sortI ns).Perm ns := List.mergeSort_perm _ _
theorem sortI_pw (ns : List Int) : (sortI ns).Pairwise (· ≤ ·) := by
  have h := List.pairwise_mergeSort (le := fun a b : Int => decide (a ≤ b)) (fun a b c h1 h2 => by simp at h1 h2 ⊢; omega) (fun a b => by simp; omega) ns
  exact h.imp fun h => by simpa using h
theorem sortI_eq {ns ms : List Int} (hp : ms.Perm ns) (hs : ms.Pairwise (· ≤ ·)) : ms = sortI ns := (hp.trans (sortI_perm ns).symm).eq_of_pairwise (fun x y _ _ h1 h2 => Int.le_antisymm h1 h2) hs (sortI_pw ns)
/-- a dict's keys, all texts -/
def textsOf : List (Key × D) → Option (List Str)
  | [] => some []
  | (.inr z, _) :: r => (textsOf r).map (z :: ·)
  | _ => none
theorem textsOf_eq : ∀ {dks : List (Key × D)} {ks : List Str}, textsOf dks = some ks → dks.map (·.1) = ks.map Sum.inr
  | [], _, e => by cases e; rfl
  | (.inr z, _) :: r, _, e => by
    obtain ⟨ks, h, rfl⟩ := Option.map_eq_some_iff.mp e
    rw [List.map_cons, List.map_cons, textsOf_eq h]
  | (.inl _, _) :: _, _, e => by cases e
def intsOfK : List (Key × D) → Option (List Int)
  | [] => some []
  | (.inl z, _) :: r => (intsOfK r).map (z :: ·)
  | _ => none
theorem intsOfK_eq : ∀ {dks : List (Key × D)} {ks : List Int}, intsOfK dks = some ks → dks.map (·.1) = ks.map Sum.inl
  | [], _, e => by cases e; rfl
  | (.inl z, _) :: r, _, e => by
    obtain ⟨ks, h, rfl⟩ := Option.map_eq_some_iff.mp e
    rw [List.map_cons, List.map_cons, intsOfK_eq h]
  | (.inr _, _) :: _, _, e => by cases e
theorem pairsOfD_eq : ∀ (ds : List D) {ps : List (Int × Int)}, pairsOfD ds = some ps → ds = ps.map pD := by
  intro ds
  induction ds with
  | nil => intro ps e; cases e; rfl
  | cons d r ih =>
    intro ps e
    unfold pairsOfD at e
    split at e
    · rename_i heq; cases heq
    · rename_i a b r' heq
      cases heq
      obtain ⟨qs, h, rfl⟩ := Option.map_eq_some_iff.mp e
      rw [ih h]
      rfl
    · cases e
def sortL (ds : List D) : Option (List D) := match intsOf ds with
  | some ns => some ((sortI ns).map .int)
  | none => match strsOf ds with
    | some ss => if ss.length < 64 then some ((sortS ss).map .str) else none
    | none => (pairsOfD ds).map fun ps => (sortP ps).map pD
def sortD : D → Option (Kd × D)
  | .lst ds => (sortL ds).map fun xs => (.nw, .lst xs)
  | .dct dks => match textsOf dks with
    | some ks => if ks.length < 64 then some (.nw, .lst ((sortS ks).map .str)) else none
    | none => match intsOfK dks with
      | some ks => if ks.length < 64 then some (.nw, .lst ((sortI ks).map .int)) else none
      | none => none
  | _ => none
/-- the pair of ints that stands at a value -/
def pairAt (H : Hp) : V → Int × Int
  | .ref t => match H t with
    | some (.tup [.int a, .int b]) => (a, b)
    | _ => (0, 0)
  | _ => (0, 0)
theorem pairAt_of {K : PySem.W.Frag} {G H : Hp} (sg : Same G H) {v : V} {p : Int × Int} (h : Dt K cn G v (pD p)) : ∃ t, v = .ref t ∧ H t = some (.tup [.int p.1, .int p.2]) ∧ pairAt H v = p := by
  cases h with
  | tup hp t =>
    have e := t.two
    subst e
    have e2 := sg _ _ hp
    exact ⟨_, rfl, e2, by unfold pairAt; simp only [e2]⟩
theorem pairs_all {K : PySem.W.Frag} {G H : Hp} (sg : Same G H) : ∀ {vs : List V} {ps : List (Int × Int)}, DtL K cn G vs (ps.map pD) → vs.map (pairAt H) = ps ∧ ∀ x ∈ vs, (∃ t, x = V.ref t ∧ H t = some (.tup [.int (pairAt H x).1, .int (pairAt H x).2])) ∧ Dt K cn G x (pD (pairAt H x))
  | [], [], _ => ⟨rfl, fun x h => by cases h⟩
  | v :: r, p :: q, .cons h t => by
    obtain ⟨e, all⟩ := pairs_all sg t
    obtain ⟨tt, h1, h2, h3⟩ := pairAt_of sg h
    refine ⟨by rw [List.map_cons, h3, e], fun x hx => ?_⟩
    rcases List.mem_cons.mp hx with rfl | hx
    · rw [h3]
      exact ⟨⟨tt, h1, h2⟩, h⟩
    · exact all x hx
theorem dtl_map {K : PySem.W.Frag} {G : Hp} {f : V → D} : ∀ {ys : List V}, (∀ y ∈ ys, Dt K cn G y (f y)) → DtL K cn G ys (ys.map f)
  | [], _ => .nil
  | y :: r, h => .cons (h y List.mem_cons_self) (dtl_map fun z hz => h z (List.mem_cons_of_mem _ hz))
theorem sort_ok (hc : X.calm = true) : CallR X (.builtin "sorted") (rB1 X.K cn sortD) := by
  rintro pins s σ H xs us Q I r ⟨x, rfl, G, dx, k, d, sg, hx, e, q⟩
  cases dx with
  | lst ds =>
    obtain ⟨out, hb, e⟩ := Option.map_eq_some_iff.mp e
    cases e
    obtain ⟨p, vs, rfl, hp, t⟩ := hx.lst sg
    unfold sortL at hb
    split at hb
    · rename_i ns hn
      cases hb
      rw [intsOf_eq hn] at t
      have h := DtL.ints_inv ns t; subst h
      refine cr_sortedI pins s σ H _ us Q I r ⟨p, ns, rfl, SqL.of hp, fun ms l h1 h2 hl => ?_⟩
      rw [sortI_eq h1 h2]
      exact q (.ref l) G _ (Stp.hid sg hl) ⟨l, rfl, hl, sg.free hl, _, upd_same, .ints _⟩
    · split at hb
      · rename_i ss hs
        split at hb
        · rename_i h64
          cases hb
          rw [strsOf_eq hs] at t
          have h := DtL.strs_inv ss t; subst h
          refine cr_sortedS pins s σ H _ us Q I r ⟨p, ss, rfl, SqL.of hp, h64, fun ys l h1 h2 hl => ?_⟩
          rw [sortS_eq h1 h2]
          exact q (.ref l) G _ (Stp.hid sg hl) ⟨l, rfl, hl, sg.free hl, _, upd_same, .strs _⟩
        · cases hb
      · obtain ⟨ps, hps, rfl⟩ := Option.map_eq_some_iff.mp hb
        rw [pairsOfD_eq ds hps] at t
        obtain ⟨e1, all⟩ := pairs_all sg t
        refine cr_sortedPO pins s σ H _ us Q I r ⟨p, vs, pairAt H, rfl, SqL.of hp, fun x hx => (all x hx).1, fun ys l h1 h2 hl => ?_⟩
        have e2 : ys.map (pairAt H) = sortP ps := by
          refine sortP_eq ?_ ?_
          · rw [← e1]
            exact h2.perm.map _
          · refine List.pairwise_map.mpr (List.Pairwise.imp (fun {x y} hxy => ?_) h1)
            have := SrtO.lexB_no.mp hxy
            unfold leP
            omega
        have e3 : DtL X.K cn G ys ((sortP ps).map pD) := by
          rw [← e2, List.map_map]
          exact dtl_map fun y hy => (all y (h2.perm.mem_iff.mp hy)).2
        exact q (.ref l) G _ (Stp.hid sg hl) ⟨l, rfl, hl, sg.free hl, _, upd_same, e3⟩
  | dct dks =>
    have e' : (match textsOf dks with | some ks => if ks.length < 64 then some (Kd.nw, D.lst ((sortS ks).map .str)) else none | none => match intsOfK dks with | some ks => if ks.length < 64 then some (Kd.nw, D.lst ((sortI ks).map .int)) else none | none => none) = some (k, d) := e
    split at e'
    · rename_i ks hk
      split at e'
      · rename_i h64
        cases e'
        obtain ⟨p, kvs, rfl, hp, hkk, t⟩ := hx.dct sg
        refine call_sortedD hc pins s σ H _ us Q I r ⟨p, kvs, ks, rfl, hp, hkk.trans (textsOf_eq hk), h64, fun ys l h1 h2 hl => ?_⟩
        rw [sortS_eq h1 h2]
        exact q (.ref l) G _ (Stp.hid sg hl) ⟨l, rfl, hl, sg.free hl, _, upd_same, .strs _⟩
      · cases e'
    · split at e'
      · rename_i ks hk
        split at e'
        · rename_i h64
          cases e'
          obtain ⟨p, kvs, rfl, hp, hkk, t⟩ := hx.dct sg
          refine call_sortedDI hc pins s σ H _ us Q I r ⟨p, kvs, ks, rfl, hp, hkk.trans (intsOfK_eq hk), h64, fun ys l h1 h2 hl => ?_⟩
          rw [sortI_eq h1 h2]
          exact q (.ref l) G _ (Stp.hid sg hl) ⟨l, rfl, hl, sg.free hl, _, upd_same, .ints _⟩
        · cases e'
      · cases e'
  | _ => cases e

/-! ### dict(d): a copy -/
def kvsD : List D → Option (List (Key × D))
  | [] => some []
  | .tup [k, v] :: r => match keyD k, kvsD r with
    | some c, some s => some ((c, v) :: s)
    | _, _ => none
  | _ => none
def mergeD (acc r : List (Key × D)) : List (Key × D) := r.foldl (fun a kv => putD a kv.1 kv.2) acc
def dictD : D → Option (Kd × D)
  | .dct dks => some (.nw, .dct dks)
  | .lst ds => (kvsD ds).map fun kvs => (.nw, .dct (mergeD [] kvs))
  | _ => none
theorem key_of {K : PySem.W.Frag} {cn : Cn} {G : Hp} {v : V} {d : D} {k : Key} (h : Dt K cn G v d) (e : keyD d = some k) : v = kV k := by
  cases h with
  | int i => cases e; rfl
  | str x => cases e; rfl
  | _ => cases e
theorem kvs_of {K : PySem.W.Frag} {cn : Cn} {G H : Hp} (sg : Same G H) : ∀ {vs : List V} {ds : List D} {dks : List (Key × D)}, DtL K cn G vs ds → kvsD ds = some dks →
    ∃ (ps : List Addr) (kvs : List (Key × V)), vs = ps.map V.ref ∧ Paired (fun p kv => SqT K H p [kV kv.1, kv.2]) ps kvs ∧ kvs.map (·.1) = dks.map (·.1) ∧ DtL K cn G (kvs.map (·.2)) (dks.map (·.2))
  | [], [], dks, _, e => by
    cases e
    exact ⟨[], [], rfl, .nil, rfl, .nil⟩
  | v :: vs, d :: ds, dks, .cons h t, e => by
    unfold kvsD at e
    split at e
    · rename_i e0; cases e0
    · rename_i k x r e0
      cases e0
      split at e
      · rename_i c s hk hs
        cases e
        obtain ⟨ps, kvs, rfl, hp, h1, h2⟩ := kvs_of sg t hs
        cases h with
        | tup ha ht =>
          cases ht with
          | cons hk1 ht =>
            cases ht with
            | cons hx ht =>
              cases ht
              have := key_of hk1 hk
              subst this
              exact ⟨_ :: ps, (c, _) :: kvs, rfl, .cons (.inl (.inl (sg _ _ ha))) hp, by rw [List.map_cons, List.map_cons, h1], .cons hx h2⟩
      · cases e
    · cases e
theorem merge_of {K : PySem.W.Frag} {cn : Cn} {G : Hp} : ∀ {kvs : List (Key × V)} {dks : List (Key × D)} {acc : List (Key × V)} {ad : List (Key × D)}, kvs.map (·.1) = dks.map (·.1) → DtL K cn G (kvs.map (·.2)) (dks.map (·.2)) → acc.map (·.1) = ad.map (·.1) → DtL K cn G (acc.map (·.2)) (ad.map (·.2)) →
    (mergeK acc kvs).map (·.1) = (mergeD ad dks).map (·.1) ∧ DtL K cn G ((mergeK acc kvs).map (·.2)) ((mergeD ad dks).map (·.2))
  | [], [], acc, ad, _, _, h1, h2 => ⟨h1, h2⟩
  | [], _ :: _, _, _, h, _, _, _ => by simp at h
  | _ :: _, [], _, _, h, _, _, _ => by simp at h
  | kv :: kvs, dk :: dks, acc, ad, h, t, h1, h2 => by
    rw [List.map_cons, List.map_cons] at h t
    cases t with
    | cons tv tt =>
      obtain ⟨e1, e2⟩ := List.cons.inj h
      have hp := putK_of (k := dk.1) tv h1 h2
      show (mergeK (putK acc kv.1 kv.2) kvs).map _ = (mergeD (putD ad dk.1 dk.2) dks).map _ ∧ DtL K cn G ((mergeK (putK acc kv.1 kv.2) kvs).map _) ((mergeD (putD ad dk.1 dk.2) dks).map _)
      rw [e1]
      exact merge_of e2 tt hp.1 hp.2
theorem dict_ok (hc : X.calm = true) : CallR X (.type "dict") (rB1 X.K cn dictD) := by
  rintro pins s σ H xs us Q I r ⟨x, rfl, G, dx, k, d, sg, hx, e, q⟩
  cases dx with
  | dct dks =>
    cases e
    obtain ⟨p, kvs, rfl, hp, hk, t⟩ := hx.dct sg
    exact call_dictD pins s σ H _ us Q I r ⟨p, kvs, rfl, hp, fun l hl => q (.ref l) G _ (Stp.hid sg hl) ⟨l, rfl, hl, sg.free hl, _, upd_same, hk, t⟩⟩
  | lst ds =>
    obtain ⟨dks, hb, e⟩ := Option.map_eq_some_iff.mp e
    cases e
    obtain ⟨p, vs, rfl, hp, t⟩ := hx.lst sg
    obtain ⟨ps, kvs, rfl, hpr, hk, tk⟩ := kvs_of sg t hb
    have hm := merge_of (acc := []) (ad := []) hk tk rfl .nil
    exact call_dictP hc pins s σ H _ us Q I r ⟨p, ps, kvs, rfl, SqL.of hp, hpr, fun l hl => q (.ref l) G _ (Stp.hid sg hl) ⟨l, rfl, hl, sg.free hl, _, upd_same, hm.1, hm.2⟩⟩
  | _ => cases e

/-! ### a written dict of texts -/
def tabD (tab : List (Str × Str)) : D → Option (Kd × D)
  | .str z => (tab.lookup z).map fun v => (.sh, .str v)
  | _ => none
theorem look_all {K : PySem.W.Frag} {w : World} {pd : Addr} : ∀ {tab : List (Str × Str)}, (∀ p ∈ tab, KDct K w pd p.1 (.str p.2)) → ∀ z v, tab.lookup z = some v → KDct K w pd z (.str v)
  | [], _, z, v, e => by cases e
  | (a, b) :: r, h, z, v, e => by
    rw [List.lookup_cons] at e
    split at e
    · rename_i hz
      cases e
      rw [eq_of_beq hz]
      exact h (a, _) List.mem_cons_self
    · exact look_all (fun p hp => h p (List.mem_cons_of_mem _ hp)) z v e
end
end PD
/-! PD10: own exceptions with a field "value" (the block of skel/42, for a class that may inherit its __init__), raise, try. -/
namespace PySem
namespace OwnX
open PySem.W PySem.Calls PyProof.Rows PySem.HandSPX
def iA (p1 p2 : Pos) : Arguments := { posonlyargs := [], args := [{ arg := "self", annotation := none, pos := p1 }, { arg := "value", annotation := none, pos := p2 }], vararg := none, kwonlyargs := [], kw_defaults := [], kwarg := none, defaults := [] }
def iB (q1 q2 q3 q4 : Pos) : List Stmt := [.Assign [.Attribute (.Name "self" q1) "value" q2] (.Name "value" q3) q4]
def iS : Scope := { kind := .function, names := [(PySem.Str.ofString "self", .local), (PySem.Str.ofString "value", .local)], isGenerator := false, isCoroutine := false, more := [] }
structure OwnTxt (nm : Str) (K : Frag) (mg : Str → Option Value) (C fI : Addr) : Prop where
  gC : mg nm = some (.ref C)
  gD : (nm == ("__debug__" : Str)) = false
  cls : ∃ nm q N bs bm sn sub ab col dd k0 k1 k2 k3 k5, K.lookup C = some (excClassObj nm q C N bs bm true sn sub ab col dd k0 k1 k2 k3 k5 "ValueError.__new__") ∧ refsVE bm = true
  sa : findIn K (.ref C) "__setattr__" = some (some (.builtin "object.__setattr__"))
  ga : findIn K (.ref C) "__getattribute__" = some (some (.builtin "BaseException.__getattribute__"))
  gg : findIn K (.ref C) "__getattr__" = some none
  noN : findIn K (.ref C) "value" = some none
  iC : findIn K (.ref C) "__init__" = some (some (.ref fI))
  tC : typeIn K (.ref fI) = some (.type "function")
  kC : keepIn K (.ref C) = true
  exC : subIn K (.ref C) (.type "BaseException") = some true
  tyC : typeIn K (.ref C) = some (.type "type")
  hdC : hasDictIn K C = true
  fn : ∃ (oc : Value) (od : Option Addr) (doc pm : Value) (an : Option Addr) (cdv ct : Value) (osl : Array (Option Value)) (p1 p2 q1 q2 q3 q4 : Pos),
    K.lookup fI = some ⟨oc, od, .func (fnOf "__init__" "CellError.__init__" (iA p1 p2) (iB q1 q2 q3 q4) iS .none .none doc pm an cdv ct), osl⟩ ∧ codeIn K cdv "CellError.__init__" = true
theorem one_size (v : Value) : [v].length ≤ sizeLine := by
  rw [sizeLine_eq]
  exact (by decide : 1 ≤ 16777216)
theorem ldC {M : Model} {s : Shared} {name : Str} {scope : Scope} {L a : Addr} {cd : Value} {m : Str → Option Value} {x : Str} {pos : Pos} {v : Value} {Q : Value → Shared → Prop} {A : Around} {E : Value → Shared → Prop} (hn : s.heap.Ns L m) (hv : m x = some v) (h : Q v s)
    (hk : scope.kind = .function := by rfl) (hl : (envOfC name scope L a cd).kindOf x = some .local := by rfl) (hd : (x == ("__debug__" : Str)) = false := by decide) :
    wpAny M A (eval (.Name x pos) (envOfC name scope L a cd)) Q E s := wpAny_Name (wpAny_loadName_local hk hl hn hv h) hd
structure InitEnd (h h' : Heap) (x C dx t1 : Addr) (v : Value) : Prop where
  keep : ∀ b o, b ≠ x → h.get? b = some o → h'.get? b = some o
  obj : h'.get? x = some { cls := .ref C, dict := some dx, data := .fields #[.ref t1, .none, .none, .none, .bool false, .none] }
  dbig : h.objs.size ≤ dx
  dne : dx ≠ x
  ns : h'.Ns1 dx (fun y => if y = "value" then some v else none)
structure MadeX (h h' : Heap) (e C d : Addr) (v : Value) : Prop where
  keep : ∀ b o, h.get? b = some o → h'.get? b = some o
  new : h.objs.size ≤ e
  obj : ∃ oe vs, h'.get? e = some oe ∧ oe.cls = .ref C ∧ oe.dict = some d ∧ oe.data = .fields vs ∧ vs[1]? = some .none
  dbig : h.objs.size ≤ d
  dne : d ≠ e
  ns : h'.Ns1 d (fun y => if y = "value" then some v else none)
section
variable {nm : Str} {prog : Program} {w : World} {A : Around} {E : Value → Shared → Prop} {R : Result → Shared → Prop} {s : Shared} {K : Frag} {mg : Str → Option Value} {C fI : Addr}
theorem own_init (T : OwnTxt nm K mg C fI) {x t0 : Addr} {v : Value} (X : K.In s.heap) (hlim : s.heap.NoLimit) (hx : s.heap.get? x = some (excO C t0)) (hnx : K.lookup x = none) (hroom : A.depth < recursionLimit)
    (hq : ∀ h' tk dx, InitEnd s.heap h' x C dx t0 v → R (.ok (.ret .none)) { s with heap := h', toks := tk }) :
    codeAny (model prog w) A (.call (.ref fI) ⟨[.ref x, v], []⟩) R s := by
  obtain ⟨oc, od, doc, pm, an, cdv, ct, osl, p1, p2, q1, q2, q3, q4, ho, hcd⟩ := T.fn
  obtain ⟨nm, q, N, bs, bm, sn, sub, ab, col, dd, k0, k1, k2, k3, k5, hC, hbm⟩ := T.cls
  have hcl : clsIn K C = some { name := nm, bases := bs, mro := .ref C :: bm, ns := N, qualname := q, hasDict := true, slotNames := sn, subclasses := sub, abstract := ab, collection := col, hasDel := false } := by unfold clsIn; rw [hC] <;> rfl
  refine Att.call_fn (binds := [("self", .ref x), ("value", v)]) X hlim ho hcd hroom (BindsTo.of_eq (by first | rfl | with_unfolding_all rfl)) (by first | rfl | decide | with_unfolding_all rfl) (fun s₁ IC => ?_) rfl rfl rfl
  obtain ⟨h₁, tk₁, rfl⟩ := IC.toInCall.same
  have k : ∀ b o, s.heap.get? b = some o → h₁.get? b = some o := IC.toInCall.keep
  have hn := IC.toInCall.ns
  have hxL : s.heap.objs.size ≠ x := Nat.ne_of_gt (Heap.lt_size hx)
  have X₁ : K.In h₁ := X.keeps k
  have hx₁ := k _ _ hx
  show wpAny _ _ (execs _ _) _ _ _
  refine wpAny_execs_cons (plainObj_wpAny_Assign_Attribute ?_)
  refine ldC (v := v) hn (by first | rfl | with_unfolding_all rfl | kernel_rfl) (ldC (v := .ref x) hn (by first | rfl | with_unfolding_all rfl | kernel_rfl) ?_)
  refine set_plain X₁ (ox := excO C t0) (od := none) ⟨hx₁, rfl, rfl, trivial⟩ T.sa ?_
  refine exc_osa X₁ hx₁ hcl (show refsVE (.ref C :: bm) = true from hbm) rfl T.noN (fun h₃ tk₃ dx k₃ dn dne hx₃ hn₃ => ?_)
  show wpAny _ _ (execs _ _) _ _ _
  have z : s.heap.objs.size < h₁.objs.size := hn.lt
  exact wpAny_execs_nil (hq h₃ tk₃ dx ⟨fun b o hb e => k₃ b o hb (k b o e), hx₃, Nat.le_of_lt (Nat.lt_of_lt_of_le z dn), dne, hn₃⟩)
theorem own_made (T : OwnTxt nm K mg C fI) {v : Value} (X : K.In s.heap) (hlim : s.heap.NoLimit) (hroom : A.depth + 1 < recursionLimit)
    (hq : ∀ h' tk e d, MadeX s.heap h' e C d v → R (.ok (.ret (.ref e))) { s with heap := h', toks := tk }) :
    codeAny (model prog w) A (.call (.ref C) ⟨[v], []⟩) R s := by
  obtain ⟨nm, q, N, bs, bm, sn, sub, ab, col, dd, k0, k1, k2, k3, k5, hC, hbm⟩ := T.cls
  obtain ⟨hp, g, dr, tk, os⟩ := s
  have k : ∀ b o, hp.get? b = some o → ((hp.push (kdv_tup [v])).push (excO C hp.objs.size)).get? b = some o := fun b o e => Heap.get?_push_of_some _ (Heap.get?_push_of_some _ e)
  have hget : ((hp.push (kdv_tup [v])).push (excO C hp.objs.size)).get? (hp.objs.size + 1) = some (excO C hp.objs.size) := by heap_get
  have hnx : K.lookup (hp.objs.size + 1) = none := by
    cases e : K.lookup (hp.objs.size + 1) with
    | none => rfl
    | some o =>
      have z : hp.get? (hp.objs.size + 1) = some o := X _ _ e
      exact absurd (Nat.lt_of_succ_lt (Heap.lt_size z)) (Nat.lt_irrefl _)
  refine call_own F.excBase_ValueError (fun X => refsVE_contains X bm hbm) (X _ _ hC) (looks_findIn X T.iC) (fun self => bind_fn X self T.tC) (one_size v) ?_
  refine own_init (s := ⟨(hp.push (kdv_tup [v])).push (excO C hp.objs.size), g, dr, tk, os⟩) T (X.keeps k) (hlim.keeps k) hget hnx ?_ fun h' tk' dx ⟨k', hx, dn, dne, hns⟩ => ?_
  · show A.depth + 1 < recursionLimit
    exact hroom
  · have old : ∀ b o, hp.get? b = some o → h'.get? b = some o := fun b o e => k' b o (Nat.ne_of_lt (Nat.lt_succ_of_lt (Heap.lt_size e))) (k b o e)
    have z : hp.objs.size + 1 + 1 ≤ dx := by
      first
        | (simpa only [Heap.size_push] using dn)
        | exact dn
        | (have q := dn; rw [Heap.size_push, Heap.size_push] at q; exact q)
    exact ⟨rfl, hq h' tk' (hp.objs.size + 1) dx ⟨old, Nat.le_succ _, ⟨_, _, hx, rfl, rfl, rfl, rfl⟩, Nat.le_trans (Nat.le_trans (Nat.le_succ _) (Nat.le_succ _)) z, dne, hns⟩⟩
end
end OwnX
end PySem
namespace L2
open PySem PySem.Spec PyProof.Rows
theorem relO_ownV {v : V} {v' : Value} (r : RelV v v') (f : Str) : RelO (List.lookup f [(("value" : Str), v)]) (if f = "value" then some v' else none) := by
  by_cases hw : f = "value"
  · subst hw
    rw [if_pos rfl]
    have q : List.lookup ("value" : Str) [(("value" : Str), v)] = some v := by simp [List.lookup]
    rw [q]
    exact r
  · rw [if_neg hw]
    have qw : (f == ("value" : Str)) = false := by simpa using hw
    have q2 : List.lookup f [(("value" : Str), v)] = none := by simp [List.lookup, qw]
    rw [q2]
    trivial
section
variable {nm : Str} {X : Cx} {C fI : Addr}
def tMkV (C : Addr) (ta : TA) : St → Hp → XK → Prop := fun σ H Q => ta σ H fun vs H1 => ∃ v, vs = [v] ∧ ∀ d, H1 d = none → Q (.ref C) (some d) (upd H1 d (.xd [(("value" : Str), v)]))
theorem pmk_ownV {a : Expr} {ta : TA} {p pos : Pos} {k : Nat} (T : PySem.OwnX.OwnTxt nm X.K X.mg C fI) (hr : Room k X.A) (ha : PA X [a] ta) (hg : Gl X nm := by rfl)
    (he : starEach (a :: []) X.env = (false, eval a X.env) :: starEach [] X.env := by rfl) (hpl : (backTo pos (starEach [] X.env)).any (·.1) = false := by rfl) :
    PMk X (.Call (.Name nm p) [a] [] pos) (tMkV C ta) := by
  intro pins s σ H Q I h
  refine wpAny_Call_Name_kw (ld_glob (hd := T.gD) I hg T.gC ?_)
  refine PySem.W.callWith_K (h₀ := X.base) I.ok.mod.kin T.kC (thn (ha.run pos pins s σ H _ I h) fun us s1 hh => ?_) he hpl
  obtain ⟨vs, H1, I1, r1, v, ev, q1⟩ := hh
  subst ev
  refine ⟨I1.kIn, ?_⟩
  cases r1 with
  | cons rv rn =>
    rename_i v' us'
    cases rn
    show wpAny _ _ (call (.ref C) [v']) _ _ _
    have hlim := I1.nolimit
    obtain ⟨hp, g, dr, tk, os⟩ := s1
    refine wpAny_call (PySem.OwnX.own_made T I1.kIn hlim (by have := hr.dp; omega) fun h' tk' e d M => ?_)
    show MkP X pins σ Q (.ref e) ⟨h', g, dr, tk', os⟩
    obtain ⟨oe, fv, hoe, hc, hd, hdat, h1⟩ := M.obj
    have hns := M.ns
    obtain ⟨G', g1, g2⟩ := restrict h' fun b => decide (b ≠ e)
    have gk : ∀ b, b ≠ e → G'.get? b = h'.get? b := fun b hb => g1 b (decide_eq_true hb)
    have ge : G'.get? e = none := g2 e (by simp)
    have old : ∀ b o, hp.get? b = some o → G'.get? b = some o := fun b o q => (gk b (Nat.ne_of_lt (Nat.lt_of_lt_of_le (Heap.lt_size q) M.new))).trans (M.keep b o q)
    have ob : ObjOk X.prog X.w (upd H1 d (.xd [(("value" : Str), v)])) G' d (.xd [(("value" : Str), v)]) :=
      ⟨_, hns.at (fun o q => (gk d M.dne).trans q), fun f => relO_ownV rv f⟩
    have J : Inv X pins σ (upd H1 d (.xd [(("value" : Str), v)])) ⟨G', g, dr, tk', os⟩ := I1.laid (t' := tk') old M.dbig ob
    refine ⟨e, oe, fv, ⟨G', g, dr, tk', os⟩, _, .ref C, some d, rfl, J, fun b o q => ?_, ge, hoe, ⟨hc, hd⟩, hdat, h1, ?_, rfl, I1.bare, raises_own T.exC T.tyC, q1 d (I1.hok.fresh M.dbig)⟩
    · by_cases hb : b = e
      · have q' : G'.get? b = some o := q
        rw [hb, ge] at q'; cases q'
      · exact (gk b hb).symm.trans q
    · rw [upd_ne (Ne.symm M.dne)]
      exact I1.hok.fresh M.new
def tRaiseV (C : Addr) (W : WX) (ta : TA) : TS := fun _ σ H => tMkV C ta σ H fun cls d H' => W cls d σ H'
theorem ps_raiseV {a : Expr} {ta : TA} {W : WX} {p pos pos2 : Pos} {k : Nat} (hc : X.calm = true) (T : PySem.OwnX.OwnTxt nm X.K X.mg C fI) (hr : Room k X.A) (tk : Takes X W) (ha : PA X [a] ta) (hg : Gl X nm := by rfl)
    (he : starEach (a :: []) X.env = (false, eval a X.env) :: starEach [] X.env := by rfl) (hpl : (backTo pos (starEach [] X.env)).any (·.1) = false := by rfl) :
    PS X (.Raise (some (.Call (.Name nm p) [a] [] pos)) none pos2) (tRaiseV C W ta) := ps_raise hc tk (pmk_ownV T hr ha hg he hpl)
end
end L2

namespace PD
open PySem PySem.Spec PyProof.Rows L2
section
variable {X : Cx} {cn : Cn} {W : WX} {G0 : Hp} {H0 : Bs} {st : Stmt} {sts : List Stmt} {F F1 F2 : En → Option Out}
/-- raise X(e), X the class of number c -/
def fRaise (c : Nat) (t : En → Option RA) : En → Option Out := fun en => match t en with
  | some (.vals [d]) => some (.er en c d)
  | some (.er c' d) => some (.er en c' d)
  | _ => none
theorem ds_raise {c : Nat} {t : En → Option RA} (h : PS X st (tRaiseV (cn c) W (tA X.K cn W t))) : DS X cn W G0 H0 st (fRaise c t) := by
  refine PS.imp h ?_
  rintro E σ H ⟨G, en, o, s, e, q⟩
  unfold fRaise at e
  cases ht : t en with
  | none => rw [ht] at e; cases e
  | some x =>
    rw [ht] at e
    refine ⟨G, en, x, s.sr, ht, ?_⟩
    cases x with
    | er c' d =>
      cases e
      exact fun dx v G' H' stp hx dv => q σ dx v G' H' stp.g (s.step stp) hx dv
    | vals ds =>
      match ds, e with
      | [d], e =>
        cases e
        intro vs G1 H1 stp tv
        cases tv with
        | cons dv r =>
          cases r
          refine ⟨_, rfl, fun dd hd => ?_⟩
          have s1 := s.step stp
          exact q σ dd _ G1 _ stp.g (s1.step (Stp.hid s1.sr.sub hd)) upd_same dv
end
end PD
namespace PD
open PySem PySem.Spec PyProof.Rows L2
section
variable {X : Cx} {cn : Cn} {W : WX}
/-- FORMS.get(e, f), FORMS a written dict of texts; the key is there -/
def tabG (tab : List (Str × Str)) : D → D → Option (Kd × D)
  | .str z, _ => (tab.lookup z).map fun v => (.sh, .str v)
  | _, _ => none
def tKGet (K : PySem.W.Frag) (w : World) (td ty tx : TE) : TE := fun σ H Q => td σ H fun x H1 => ∃ a, x = .ref a ∧ (a == sysModules) = false ∧ (∃ es n, K.lookup a = some ⟨.type "dict", none, .dict es n, #[]⟩ ∧ PySem.W.KeysLit w.params es.toList) ∧
  ty σ H1 fun y H2 => tx σ H2 fun _ H3 => ∃ z v, y = .str z ∧ KDct K w a z v ∧ Q v H3
theorem pe_kget {o e f : Expr} {apos cpos : Pos} {td ty tx : TE} (ho : PE X o td) (he : PE X e ty) (hf : PE X f tx) (m : M2 X o "get" apos e f cpos) : PE X (.Call (.Attribute o "get" apos) [e, f] [] cpos) (tKGet X.K X.w td ty tx) := by
  refine ⟨fun pins s σ H Q I h => ?_⟩
  refine wpAny_Call_method m.base m.few m.line PySem.F.plainAttrs_dict PySem.F.slot_dict_get PySem.F.type_dict_get (thn (ho.run pins s σ H _ I h) fun u s1 ⟨x, H1, I1, rx, a, ex, low, ⟨es, n, hl, hk⟩, q1⟩ => ?_)
  subst ex
  obtain rfl : u = Value.ref a := rx
  have hm := PySem.W.mapOf_K (prog := X.prog) (w := X.w) I1.kIn hl hk
  refine ⟨hm.typeIs, fun b q => ?_, ?_⟩
  · cases q
    exact ⟨_, I1.kIn _ _ hl, rfl⟩
  rw [m.trees]
  refine Calls.callWith_builtin rfl (Calls.evalArgs_plain (Calls.spliced_cons (thn (he.run pins s1 σ H1 _ I1 q1) fun iv s2 ⟨y, H2, I2, ry, q2⟩ =>
    Calls.spliced_cons (thn (hf.run pins s2 σ H2 _ I2 q2) fun fv s3 ⟨z, H3, I3, rz, zz, v, ey, ⟨es', n', u0, hl', hk', e0, ru⟩, q3⟩ => Calls.spliced_nil ?_))))
  subst ey
  obtain ⟨t, rfl⟩ := (show ∃ t, iv = Value.str zz t from ry)
  have hm3 := PySem.W.mapOf_K (prog := X.prog) (w := X.w) I3.kIn hl' hk'
  refine call_meetsIn PySem.F.slot_dict_get hm3.typeIs PySem.F.entry_dict_get (PySem.F.args_dict_get_3 _ _ _) (meets_dict_get_default (PySem.strKind X.prog X.w) a (strKind_is X.prog X.w zz t) low fv) ⟨_, hm3, ?_⟩
  rw [PySem.W.find_K hl' e0]
  exact ⟨v, H3, I3.tok _, ru, q3⟩
theorem de_tabG {a b c : Expr} {fb fc : En → Option R} {pd : Addr} {tab : List (Str × Str)} {apos cpos : Pos} (hm : PE X a (tC (.ref pd))) (hl : (pd == sysModules) = false) (hd : ∃ es n, X.K.lookup pd = some ⟨.type "dict", none, .dict es n, #[]⟩ ∧ PySem.W.KeysLit X.w.params es.toList)
    (hk : ∀ z v, tab.lookup z = some v → KDct X.K X.w pd z (.str v)) (hb : DE X cn W b fb) (hc : DE X cn W c fc) (m : M2 X a "get" apos b c cpos) : DE X cn W (.Call (.Attribute a "get" apos) [b, c] [] cpos) (fOp (tabG tab) fb fc) :=
  PE.imp (pe_kget hm hb hc m) fun σ H Q ⟨G, en, r, sr, e, q⟩ => by
  refine ⟨pd, rfl, hl, hd, ?_⟩
  refine ev_bind sr e q fun x dx G1 H1 s1 sr1 hx e1 q1 => ?_
  refine ev_bind sr1 e1 q1 fun y dy G2 H2 s2 sr2 hy e2 q2 => ?_
  obtain ⟨k, d, e3, rfl⟩ := lf_some e2
  cases dx with
  | str z =>
    obtain ⟨v, hv, e4⟩ := Option.map_eq_some_iff.mp e3
    cases e4
    exact ⟨z, .str v, hx.str, hk z v hv, q2 _ G2 H2 (Stp.refl sr2.sub) (.str _)⟩
  | _ => cases e3
end
end PD
/-! PD11: instances: fields, properties. -/
namespace PD
open PySem PySem.Spec PyProof.Rows L2
section
variable {X : Cx} {cn : Cn} {W : WX} {e : Expr} {fa : En → Option R} {pos : Pos}
/-- o.f, o of the class c0 -/
def fldD (c0 : Nat) (f : Str) : D → Option (Kd × D)
  | .ins c fs => if c = c0 then (fs.lookup f).map fun d => (.sh, d) else none
  | _ => none
/-- o.f, a property whose getter is the def with the data function Fd -/
def fProp (c0 : Nat) (Fd : List D → Option R) (fa : En → Option R) : En → Option R := fun en => bR (shr (fa en)) fun x => match x with
  | .ins c fs => if c = c0 then (match Fd [.ins c fs] with | some (.val k d) => some (.val k d) | _ => none) else none
  | _ => none
end
end PD
namespace PD
open PySem PySem.Spec PyProof.Rows L2
section
variable {X : Cx} {cn : Cn} {W : WX} {o e : Expr} {es : List Expr} {fa : En → Option R} {t : En → Option RA} {apos pos : Pos} {m : Str} {k n : Nat} {g : Addr} {fd : FuncData} {ps : List Str} {Fd : List D → Option R}
/-- a def's run behind its arguments; what it raises passes by W -/
theorem run_at {pins : List (Addr × Obj)} {σ : L2.St} {H : Hp} {s : Shared} {Q : VK} {us : List Value} {vs : List V} {E : XK} {sp : Sp} (FO : FnOk X.prog X.w X.K X.mg X.base (L2.CX X.prog X.w) k g fd ps sp) (hr : Room k X.A) (hb : Binds X.K fd ps [])
    (hx : PassesAt (L2.CX X.prog X.w) X σ E) (I : L2.Inv X pins σ H s) (r : Vals vs us) (h : sp vs H Q E) : wpAny (model X.prog X.w) X.A (call (.ref g) us []) (EP X pins σ Q) X.xe s := by
  have hl : us.length = ps.length := by rw [← r.length]; exact FO.len _ _ _ _ h
  have hb' := hb s us I.kIn (by rw [List.append_nil]; exact hl)
  rw [List.append_nil] at hb'
  refine wpAny_call (codeAny_mono (FO.run X.A X.stack s H ⟨us, []⟩ us vs Q E hr I.env0 hb' r h) fun rr s' hq => ?_)
  cases rr with
  | error x => exact hx pins H s x s' I hq
  | ok fl =>
    cases fl with
    | ret u => exact I.after hq
    | next => exact hq.elim
    | brk => exact hq.elim
    | cont => exact hq.elim
def fMeth (c0 : Nat) (m : Str) (n : Nat) (Fd : List D → Option R) (fa : En → Option R) (t : En → Option RA) : En → Option R := fun en => bR (shr (fa en)) fun x => match x with
  | .ins c fs => if c = c0 ∧ (fs.lookup m).isNone then bA (t en) fun ds => if (D.ins c fs :: ds).length = n then Fd (.ins c fs :: ds) else none else none
  | _ => none
/-! ### self.f = e, self a local's own instance -/
def putFD (f : Str) (d : D) : List (Str × D) → List (Str × D)
  | [] => [(f, d)]
  | (g, x) :: r => if g = f then (g, d) :: r else (g, x) :: putFD f d r
def fFld (c0 i : Nat) (f : Str) (fe : En → Option R) : En → Option Out := fun en => match en[i]? with
  | some (some (.ow (.ins c fs))) => if c = c0 ∧ fs.length < 1000 then bS (shr (fe en)) en fun _ d => some (.nx (en.set i (some (.ow (.ins c (putFD f d fs)))))) else none
  | _ => none
variable {G0 : Hp} {H0 : Bs} {st : Stmt} {fe : En → Option R}
end
end PD
namespace PD
open PySem PySem.Spec PyProof.Rows L2
/-! ### __init__ -/
/-- the instance that a body leaves in slot 0 -/
def selfOf (en : En) : Option R := match en[0]? with
  | some (some (Sl.ow (D.ins c fs))) => some (.val .nw (.ins c fs))
  | _ => none
section
variable {cn : Cn}
end
end PD
namespace PD
open PySem PySem.Spec PyProof.Rows L2
/-! ### C(..) -/
section
variable {X : Cx} {cn : Cn} {W : WX} {x : Str} {e : Expr} {es : List Expr} {t : En → Option RA} {p pos : Pos} {k n : Nat} {g : Addr} {fd : FuncData} {ps : List Str} {Fd : List D → Option R}
def mkR : Option R → Option R
  | some (.val .nw (.ins c fs)) => some (.val .nw (.ins c fs))
  | some (.er c d) => some (.er c d)
  | _ => none
def fMake (n : Nat) (Fd : List D → Option R) (t : En → Option RA) : En → Option R := fun en => bA (t en) fun ds => if ds.length = n then mkR (Fd ds) else none
end
end PD
/-! PD13: dict comprehensions. -/
namespace PD
open PySem PySem.Spec PyProof.Rows L2
/-- the dict that is made so far, item by item -/
def dcIf (tg : D → En → Option En) (tt : En → Option RB) (fk fe : En → Option R) (en : En) : List D → List (Key × D) → Option (List (Key × D))
  | [], acc => some acc
  | d :: r, acc => match tg d en with
    | none => none
    | some en1 => match tt en1 with
      | some (.b false) => dcIf tg tt fk fe en r acc
      | some (.b true) => match fk en1, shr (fe en1) with
        | some (.val _ kd), some (.val _ x) => match keyD kd with
          | some k => dcIf tg tt fk fe en r (putD acc k x)
          | none => none
        | _, _ => none
      | _ => none
def fDc (it : En → Option RA) (tg : D → En → Option En) (tt : En → Option RB) (fk fe : En → Option R) (vs : List Nat) : En → Option R := fun en => match it en with
  | some (.vals ds) => if ds.length ≤ 16777216 then (dcIf tg tt fk fe (wipeE en vs) ds []).map fun xs => .val .nw (.dct xs) else none
  | some (.er c d) => some (.er c d)
  | none => none
/-- a new dict grows: the ground stays -/
theorem Stp.grow {G H G' H' : Hp} {D : Addr} {o : HO} (s : Stp G H G' H') (h : H D = none) (g : G' D = none) : Stp G H G' (upd H' D o) := ⟨s.g, same_upd2 s.h h, same_upd2 s.sub g, s.fr⟩
section
variable {X : Cx} {cn : Cn} {W : WX} {it : En → Option RA} {g : TG} {tg : D → En → Option En} {ix : List Nat} {tt : En → Option RB} {fk fe : En → Option R} {vs : List Nat}
end
end PD
/-! PD14: sets of ints and texts by a comprehension. -/
namespace PD
open PySem PySem.Spec PyProof.Rows L2
section
variable {X : Cx}
/-! ### the data: how many different keys -/
/-- a key among keys; one key more -/
def kin (j : Key) (ks : List Key) : Bool := ks.any fun i => decide (j = i)
def putS (ks : List Key) (k : Key) : List Key := if kin k ks = true then ks else ks ++ [k]
def scIf (tg : D → En → Option En) (tt : En → Option RB) (fe : En → Option R) (en : En) : List D → List Key → Option (List Key)
  | [], acc => some acc
  | d :: r, acc => match tg d en with
    | none => none
    | some en1 => match tt en1 with
      | some (.b false) => scIf tg tt fe en r acc
      | some (.b true) => match fe en1 with
        | some (.val _ kd) => match keyD kd with
          | some k => scIf tg tt fe en r (putS acc k)
          | none => none
        | _ => none
      | _ => none
def fLs (it : En → Option RA) (tg : D → En → Option En) (tt : En → Option RB) (fe : En → Option R) (vs : List Nat) : En → Option R := fun en => match it en with
  | some (.vals ds) => if ds.length < 4096 then (scIf tg tt fe (wipeE en vs) ds []).map fun ks => .val .sh (.int ks.length) else none
  | some (.er c d) => some (.er c d)
  | none => none
variable {cn : Cn} {W : WX} {it : En → Option RA} {g : TG} {tg : D → En → Option En} {ix : List Nat} {tt : En → Option RB} {fe : En → Option R} {vs : List Nat}
variable {x : Str} {p pos : Pos}
end
end PD
/-! PD15: dict displays; calls of methods and of classes with keywords. -/
namespace PD
open PySem PySem.Spec PyProof.Rows L2
section
variable {X : Cx} {cn : Cn} {W : WX}
/-! ### {k: v, ..} -/
def fPrs : List ((En → Option R) × (En → Option R)) → En → Option RA
  | [] => fNil
  | (a, b) :: r => fCons a (fCons b (fPrs r))
def dispD : List D → List (Key × D) → Option (List (Key × D))
  | [], acc => some acc
  | k :: v :: r, acc => match keyD k with
    | some c => dispD r (putD acc c v)
    | none => none
  | _, _ => none
def fDisp (t : En → Option RA) : En → Option R := fun en => bA (t en) fun ds => if ds.length ≤ 30 then (dispD ds []).map fun xs => .val .nw (.dct xs) else none
def flat : List (V × V) → List V
  | [] => []
  | (a, b) :: r => a :: b :: flat r
theorem flat_len : ∀ (ps : List (V × V)), (flat ps).length = 2 * ps.length
  | [] => rfl
  | (a, b) :: r => by
    show (flat r).length + 1 + 1 = 2 * (r.length + 1)
    rw [flat_len r]; omega
/-! ### keywords in any order -/
def permD {α : Type} (pm : List Nat) (xs : List α) : List α := pm.filterMap fun i => xs[i]?
theorem permD_len {α : Type} {xs : List α} : ∀ {pm : List Nat}, (∀ i ∈ pm, i < xs.length) → (permD pm xs).length = pm.length
  | [], _ => rfl
  | i :: r, h => by
    have ih := permD_len (xs := xs) (pm := r) fun j hj => h j (List.mem_cons_of_mem _ hj)
    unfold permD at ih ⊢
    rw [List.filterMap_cons, List.getElem?_eq_getElem (h i List.mem_cons_self)]
    show _ + 1 = _ + 1
    rw [ih]
theorem vals_get : ∀ {vs : List V} {us : List Value} (i : Nat), Vals vs us → (vs[i]? = none ∧ us[i]? = none) ∨ ∃ v u, vs[i]? = some v ∧ us[i]? = some u ∧ RelV v u
  | _, _, i, .nil => .inl ⟨rfl, rfl⟩
  | _, _, 0, .cons h t => .inr ⟨_, _, rfl, rfl, h⟩
  | _, _, i + 1, .cons h t => vals_get i t
theorem vals_perm {vs : List V} {us : List Value} (h : Vals vs us) : ∀ pm : List Nat, Vals (permD pm vs) (permD pm us)
  | [] => .nil
  | i :: r => by
    have ih := vals_perm h r
    unfold permD at ih ⊢
    rw [List.filterMap_cons, List.filterMap_cons]
    rcases vals_get i h with ⟨e1, e2⟩ | ⟨v, u, e1, e2, hr⟩
    · rw [e1, e2]; exact ih
    · rw [e1, e2]; exact .cons hr ih
theorem dtl_perm {K : PySem.W.Frag} {G : Hp} {vs : List V} {ds : List D} (h : DtL K cn G vs ds) : ∀ pm : List Nat, DtL K cn G (permD pm vs) (permD pm ds)
  | [] => .nil
  | i :: r => by
    have ih := dtl_perm h r
    unfold permD at ih ⊢
    rw [List.filterMap_cons, List.filterMap_cons]
    cases e1 : ds[i]? with
    | none =>
      have e2 : vs[i]? = none := by rw [List.getElem?_eq_none_iff, h.length]; exact List.getElem?_eq_none_iff.mp e1
      rw [e2]; exact ih
    | some d =>
      obtain ⟨v, e2, hv⟩ := h.get e1
      rw [e2]; exact .cons hv ih
/-- its keywords' order: the parameters behind the first us are permD pm of the keywords' values -/
def KP (K : PySem.W.Frag) (fd : FuncData) (ps : List Str) (n : Nat) (ks : List Str) (pm : List Nat) : Prop := ∀ (s : Shared) (us ws : List Value), K.In s.heap → us.length = n → ws.length = ks.length → BindsTo s fd ⟨us, ks.zip ws⟩ (ps.zip (us ++ permD pm ws))
variable {k n : Nat} {g : Addr} {fd : FuncData} {ps ks : List Str} {pm : List Nat} {Fd : List D → Option R} {x m : Str} {p pos apos : Pos} {o : Expr} {fa : En → Option R} {tk0 : En → Option RA} {kws : List Keyword}
theorem run_fnP {pins : List (Addr × Obj)} {σ : L2.St} {H : Hp} {s : Shared} {Q : VK} {us ws : List Value} {vs : List V} {E : XK} {sp : Sp} (FO : FnOk X.prog X.w X.K X.mg X.base (L2.CX X.prog X.w) k g fd ps sp) (hr : Room k X.A) (hb : BindsTo s fd ⟨us, ks.zip ws⟩ (ps.zip (us ++ permD pm ws)))
    (hx : PassesAt (L2.CX X.prog X.w) X σ E) (I : L2.Inv X pins σ H s) (r : Vals vs (us ++ permD pm ws)) (h : sp vs H Q E) : wpAny (model X.prog X.w) X.A (call (.ref g) us (ks.zip ws)) (EP X pins σ Q) X.xe s := by
  refine wpAny_call (codeAny_mono (FO.run X.A X.stack s H ⟨us, ks.zip ws⟩ (us ++ permD pm ws) vs Q E hr I.env0 hb r h) fun r s' hq => ?_)
  cases r with
  | error e => exact hx pins H s e s' I hq
  | ok fl =>
    cases fl with
    | ret u => exact I.after hq
    | next => exact False.elim hq
    | brk => exact False.elim hq
    | cont => exact False.elim hq
end
end PD
/-! PD16: methods and classes called with keywords; a property whose object is not named. -/
namespace PD
open PySem PySem.Spec PyProof.Rows L2
section
variable {X : Cx} {cn : Cn} {W : WX} {k n : Nat} {g : Addr} {fd : FuncData} {ps ks : List Str} {pm : List Nat} {Fd : List D → Option R} {x m f : Str} {p pos apos : Pos} {o e : Expr} {fa : En → Option R} {tk0 : En → Option RA} {kws : List Keyword}
end
end PD
/-! PD17: what is never reached; d.pop(k, z). -/
namespace PD
open PySem PySem.Spec PyProof.Rows L2
section
variable {X : Cx} {cn : Cn} {W : WX} {e : Expr} {s : Stmt} {G0 : Hp} {H0 : Bs}
end
end PD
/-! PD18: max and min of a list of integers. -/
namespace PD
open PySem PySem.Spec PyProof.Rows L2
section
variable {X : Cx} {cn : Cn}
def mxI : List Int → Option Int
  | [] => none
  | a :: r => some (r.foldl (fun x y => if x < y then y else x) a)
def mnI : List Int → Option Int
  | [] => none
  | a :: r => some (r.foldl (fun x y => if y < x then y else x) a)
theorem mxF : ∀ (r : List Int) (a : Int), a ≤ r.foldl (fun x y => if x < y then y else x) a ∧ (∀ y ∈ r, y ≤ r.foldl (fun x y => if x < y then y else x) a) ∧ (r.foldl (fun x y => if x < y then y else x) a = a ∨ r.foldl (fun x y => if x < y then y else x) a ∈ r)
  | [], a => ⟨Int.le_refl _, fun y h => by simp at h, .inl rfl⟩
  | b :: r, a => by
    obtain ⟨h1, h2, h3⟩ := mxF r (if a < b then b else a)
    rw [List.foldl_cons]
    generalize r.foldl (fun x y => if x < y then y else x) (if a < b then b else a) = m at *
    refine ⟨by split at h1 <;> omega, fun y hy => ?_, ?_⟩
    · rcases List.mem_cons.mp hy with rfl | hy
      · split at h1 <;> omega
      · exact h2 y hy
    · rcases h3 with h3 | h3
      · split at h3
        · exact .inr (List.mem_cons.mpr (.inl h3))
        · exact .inl h3
      · exact .inr (List.mem_cons_of_mem _ h3)
theorem mnF : ∀ (r : List Int) (a : Int), r.foldl (fun x y => if y < x then y else x) a ≤ a ∧ (∀ y ∈ r, r.foldl (fun x y => if y < x then y else x) a ≤ y) ∧ (r.foldl (fun x y => if y < x then y else x) a = a ∨ r.foldl (fun x y => if y < x then y else x) a ∈ r)
  | [], a => ⟨Int.le_refl _, fun y h => by simp at h, .inl rfl⟩
  | b :: r, a => by
    obtain ⟨h1, h2, h3⟩ := mnF r (if b < a then b else a)
    rw [List.foldl_cons]
    generalize r.foldl (fun x y => if y < x then y else x) (if b < a then b else a) = m at *
    refine ⟨by split at h1 <;> omega, fun y hy => ?_, ?_⟩
    · rcases List.mem_cons.mp hy with rfl | hy
      · split at h1 <;> omega
      · exact h2 y hy
    · rcases h3 with h3 | h3
      · split at h3
        · exact .inr (List.mem_cons.mpr (.inl h3))
        · exact .inl h3
      · exact .inr (List.mem_cons_of_mem _ h3)
theorem mx_spec {ns : List Int} {m : Int} (h : mxI ns = some m) : m ∈ ns ∧ ∀ y ∈ ns, y ≤ m := by
  cases ns with
  | nil => cases h
  | cons a r =>
    cases h
    obtain ⟨h1, h2, h3⟩ := mxF r a
    refine ⟨?_, fun y hy => ?_⟩
    · rcases h3 with h3 | h3
      · rw [h3]; exact List.mem_cons_self
      · exact List.mem_cons_of_mem _ h3
    · rcases List.mem_cons.mp hy with rfl | hy
      · exact h1
      · exact h2 y hy
theorem mn_spec {ns : List Int} {m : Int} (h : mnI ns = some m) : m ∈ ns ∧ ∀ y ∈ ns, m ≤ y := by
  cases ns with
  | nil => cases h
  | cons a r =>
    cases h
    obtain ⟨h1, h2, h3⟩ := mnF r a
    refine ⟨?_, fun y hy => ?_⟩
    · rcases h3 with h3 | h3
      · rw [h3]; exact List.mem_cons_self
      · exact List.mem_cons_of_mem _ h3
    · rcases List.mem_cons.mp hy with rfl | hy
      · exact h1
      · exact h2 y hy
def maxLD : D → Option (Kd × D)
  | .lst ds => match intsOf ds with
    | some ns => (mxI ns).map fun m => (.sh, .int m)
    | none => none
  | _ => none
def minLD : D → Option (Kd × D)
  | .lst ds => match intsOf ds with
    | some ns => (mnI ns).map fun m => (.sh, .int m)
    | none => none
  | _ => none
end
end PD
/-! PD19: comprehensions with two fors. -/
namespace PD
open PySem PySem.Spec PyProof.Rows L2
section
variable {X : Cx} {cn : Cn} {W : WX}
def noH (H : Hp) (D : Addr) : Hp := fun a => if a = D then none else H a
theorem Stp.cut {G H G' H' : Hp} {D : Addr} (s : Stp G H G' H') (hD : H D = none) (gD : G' D = none) : Stp G H G' (noH H' D) :=
  ⟨s.g, fun a o e => by
    have := s.h a o e
    unfold noH
    rw [if_neg (by rintro rfl; rw [hD] at e; cases e)]
    exact this, fun a o e => by
    have := s.sub a o e
    unfold noH
    rw [if_neg (by rintro rfl; rw [gD] at e; cases e)]
    exact this, s.fr⟩
def tgIf2 (tg : D → En → Option En) (tt : En → Option RB) (it1 : En → Option RA) (tg1 : D → En → Option En) (tt1 : En → Option RB) (fe : En → Option R) (vs1 : List Nat) (en : En) : List D → Option (List D)
  | [] => some []
  | d :: r => match tg d en with
    | none => none
    | some en1 => match tt en1 with
      | some (.b true) => (match it1 en1 with
        | some (.vals ds1) => (match tgIf tg1 tt1 fe (wipeE en1 vs1) ds1 with
          | some xs => (tgIf2 tg tt it1 tg1 tt1 fe vs1 en r).map (xs ++ ·)
          | none => none)
        | _ => none)
      | some (.b false) => tgIf2 tg tt it1 tg1 tt1 fe vs1 en r
      | _ => none
def fLc2 (it : En → Option RA) (tg : D → En → Option En) (tt : En → Option RB) (it1 : En → Option RA) (tg1 : D → En → Option En) (tt1 : En → Option RB) (fe : En → Option R) (vs vs1 : List Nat) : En → Option R := fun en => match it en with
  | some (.vals ds) => (match tgIf2 tg tt it1 tg1 tt1 fe vs1 (wipeE en vs) ds with
    | some xs => if xs.length ≤ 16777216 then some (.val .nw (.lst xs)) else none
    | none => none)
  | some (.er c d) => some (.er c d)
  | none => none
end
end PD
/-! PD20: while, plainly. -/
namespace PD
open PySem PySem.Spec PyProof.Rows L2
section
variable {X : Cx} {cn : Cn} {W : WX} {G0 : Hp} {H0 : Bs} {pos : Pos}
end
end PD
/-! PD21: y = {k: v for ..}, a statement of its own. -/
namespace PD
open PySem PySem.Spec PyProof.Rows L2
section
variable {X : Cx} {cn : Cn} {W : WX}
end
end PD
/-! PE1: a store of things that change: lists, dicts, instances that several names may hold. -/
namespace PD
open PySem PySem.Spec PyProof.Rows L2

/-- what stands at a place of the store; lk: a dict while a loop walks it; dead: a thing that changes no more, and is plain data from then on -/
inductive Cl where
  | lst (ds : List D) | dct (kvs : List (Key × D)) | lk (kvs : List (Key × D)) | ins (c : Nat) (fs : List (Str × D)) | dead
abbrev So := List Cl
section
variable {K : PySem.W.Frag}
def CR (K : PySem.W.Frag) (cn : Cn) (G H : Hp) (p : Addr) : Cl → Prop
  | .lst ds => G p = none ∧ ∃ vs, H p = some (.lst vs) ∧ DtL K cn G vs ds
  | .dct dks => G p = none ∧ ∃ kvs, H p = some (.dK kvs) ∧ kvs.map (·.1) = dks.map (·.1) ∧ DtL K cn G (kvs.map (·.2)) (dks.map (·.2))
  | .lk dks => G p = none ∧ ∃ od kvs, H p = some (.frz od (.dK kvs)) ∧ kvs.map (·.1) = dks.map (·.1) ∧ DtL K cn G (kvs.map (·.2)) (dks.map (·.2))
  | .ins c dfs => G p = none ∧ ∃ dx fs, H p = some (.ins (cn c) dx fs) ∧ fs.map (·.1) = dfs.map (·.1) ∧ DtL K cn G (fs.map (·.2)) (dfs.map (·.2))
  | .dead => H p ≠ none
structure StR (K : PySem.W.Frag) (cn : Cn) (G H : Hp) (S : So) : Prop where
  len : cn.l.length = S.length
  nd : cn.l.Nodup
  at_ : ∀ (n : Nat) (p : Addr) (z : Cl), cn.l[n]? = some p → S[n]? = some z → CR K cn G H p z

/-! ### more places -/
mutual
theorem Dt.ext {c : Cc} {l m : List Addr} {G : Hp} : ∀ {v : V} {d : D}, Dt K ⟨c, l⟩ G v d → Dt K ⟨c, l ++ m⟩ G v d
  | _, _, .non => .non
  | _, _, .bl b => .bl b
  | _, _, .int i => .int i
  | _, _, .str x => .str x
  | _, _, .ty n => .ty n
  | _, _, .cl c => .cl c
  | _, _, .loc h => .loc (by
      obtain ⟨h1, h2⟩ := List.getElem?_eq_some_iff.mp h
      rw [List.getElem?_append_left h1]; exact h)
  | _, _, .scr h => .scr h
  | _, _, .lst h t => .lst h (DtL.ext t)
  | _, _, .tup h t => .tup h (DtL.ext t)
  | _, _, .dct h k t => .dct h k (DtL.ext t)
  | _, _, .ins h k t => .ins h k (DtL.ext t)
theorem DtL.ext {c : Cc} {l m : List Addr} {G : Hp} : ∀ {vs : List V} {ds : List D}, DtL K ⟨c, l⟩ G vs ds → DtL K ⟨c, l ++ m⟩ G vs ds
  | _, _, .nil => .nil
  | _, _, .cons h t => .cons (Dt.ext h) (DtL.ext t)
end
theorem Top.ext {c : Cc} {l m : List Addr} {G H : Hp} {p : Addr} {d : D} (h : Top K ⟨c, l⟩ G H p d) : Top K ⟨c, l ++ m⟩ G H p d := by
  cases d with
  | lst ds => obtain ⟨vs, h1, h2⟩ := h; exact ⟨vs, h1, h2.ext⟩
  | tup ds => obtain ⟨vs, h1, h2⟩ := h; exact ⟨vs, h1, h2.ext⟩
  | dct dks => obtain ⟨vs, h1, k, h2⟩ := h; exact ⟨vs, h1, k, h2.ext⟩
  | ins c dfs => obtain ⟨dx, vs, h1, k, h2⟩ := h; exact ⟨dx, vs, h1, k, h2.ext⟩
  | _ => exact h.elim
theorem CR.ext {c : Cc} {l m : List Addr} {G H : Hp} {p : Addr} {z : Cl} (h : CR K ⟨c, l⟩ G H p z) : CR K ⟨c, l ++ m⟩ G H p z := by
  cases z with
  | lst ds => obtain ⟨g, vs, h1, h2⟩ := h; exact ⟨g, vs, h1, h2.ext⟩
  | dct dks => obtain ⟨g, vs, h1, k, h2⟩ := h; exact ⟨g, vs, h1, k, h2.ext⟩
  | lk dks => obtain ⟨g, od, vs, h1, k, h2⟩ := h; exact ⟨g, od, vs, h1, k, h2.ext⟩
  | ins c dfs => obtain ⟨g, dx, vs, h1, k, h2⟩ := h; exact ⟨g, dx, vs, h1, k, h2.ext⟩
  | dead => exact h
theorem CR.ne {cn : Cn} {G H : Hp} {p : Addr} {z : Cl} (h : CR K cn G H p z) : H p ≠ none := by
  cases z with
  | lst ds => obtain ⟨g, vs, h1, h2⟩ := h; rw [h1]; simp
  | dct dks => obtain ⟨g, vs, h1, k, h2⟩ := h; rw [h1]; simp
  | lk dks => obtain ⟨g, od, vs, h1, k, h2⟩ := h; rw [h1]; simp
  | ins c dfs => obtain ⟨g, dx, vs, h1, k, h2⟩ := h; rw [h1]; simp
  | dead => exact h
/-- what the rest sees may grow -/
theorem CR.same {cn : Cn} {G H G' H' : Hp} {p : Addr} {z : Cl} (s : Same G G') (hg : G p = none → H p ≠ none → G' p = none) (hh : ∀ o, H p = some o → H' p = some o) (h : CR K cn G H p z) : CR K cn G' H' p z := by
  have hn := h.ne
  cases z with
  | lst ds => obtain ⟨g, vs, h1, h2⟩ := h; exact ⟨hg g hn, vs, hh _ h1, h2.same s⟩
  | dct dks => obtain ⟨g, vs, h1, k, h2⟩ := h; exact ⟨hg g hn, vs, hh _ h1, k, h2.same s⟩
  | lk dks => obtain ⟨g, od, vs, h1, k, h2⟩ := h; exact ⟨hg g hn, od, vs, hh _ h1, k, h2.same s⟩
  | ins c dfs => obtain ⟨g, dx, vs, h1, k, h2⟩ := h; exact ⟨hg g hn, dx, vs, hh _ h1, k, h2.same s⟩
  | dead =>
    cases e : H p with
    | none => exact absurd e hn
    | some o => show H' p ≠ none; rw [hh o e]; simp

/-! ### steps that may change what stands at the places -/
structure Sp5 (l : List Addr) (G H : Hp) (l' : List Addr) (G' H' : Hp) : Prop where
  g : Same G G'
  h : ∀ a o, H a = some o → a ∉ l → H' a = some o
  al : ∀ a, H a ≠ none → H' a ≠ none
  sub : Same G' H'
  fr : ∀ a, G' a ≠ none → G a ≠ none ∨ H a = none ∨ a ∈ l
  lx : ∃ m, l' = l ++ m
  lf : ∀ a ∈ l', a ∈ l ∨ H a = none
  fz : ∀ a od u, H a = some (.frz od u) → H' a = some (.frz od u)
variable {c : Cc} {l l1 l2 : List Addr} {G H G1 H1 G2 H2 : Hp} {S S1 S2 : So}
theorem Sp5.refl (s : Same G H) : Sp5 l G H l G H := ⟨Same.refl _, fun _ _ h _ => h, fun _ h => h, s, fun _ h => .inl h, ⟨[], by simp⟩, fun _ h => .inl h, fun _ _ _ h => h⟩
theorem Sp5.trans (a : Sp5 l G H l1 G1 H1) (b : Sp5 l1 G1 H1 l2 G2 H2) : Sp5 l G H l2 G2 H2 where
  g := a.g.trans b.g
  h := fun x o e n => b.h x o (a.h x o e n) fun m => by
    rcases a.lf x m with z | z
    · exact n z
    · rw [z] at e; cases e
  al := fun x n => b.al x (a.al x n)
  sub := b.sub
  fr := fun x n => by
    rcases b.fr x n with z | z | z
    · exact a.fr x z
    · refine .inr (.inl ?_)
      cases e : H x with
      | none => rfl
      | some o => exact absurd z (a.al x (by rw [e]; simp))
    · rcases a.lf x z with w | w
      · exact .inr (.inr w)
      · exact .inr (.inl w)
  lx := by
    obtain ⟨m, e⟩ := a.lx
    obtain ⟨m', e'⟩ := b.lx
    exact ⟨m ++ m', by rw [e', e, List.append_assoc]⟩
  lf := fun x n => by
    rcases b.lf x n with z | z
    · exact a.lf x z
    · refine .inr ?_
      cases e : H x with
      | none => rfl
      | some o => exact absurd z (a.al x (by rw [e]; simp))
  fz := fun x od u e => b.fz x od u (a.fz x od u e)
theorem Sp5.of (t : Stp G H G1 H1) : Sp5 l G H l G1 H1 :=
  ⟨t.g, fun a o e _ => t.h a o e, fun a n => by
    cases e : H a with
    | none => exact absurd e n
    | some o => rw [t.h a o e]; simp, t.sub, fun a n => by
    rcases t.fr a n with z | z
    · exact .inl z
    · exact .inr (.inl z), ⟨[], by simp⟩, fun _ h => .inl h, fun a od u e => t.h a _ e⟩
theorem StR.stp (s : StR K ⟨c, l⟩ G H S) (t : Stp G H G1 H1) : StR K ⟨c, l⟩ G1 H1 S :=
  ⟨s.len, s.nd, fun n p z e1 e2 => (s.at_ n p z e1 e2).same t.g (fun g n => by
    cases e : G1 p with
    | none => rfl
    | some o =>
      rcases t.fr p (by rw [e]; simp) with w | w
      · exact absurd g w
      · exact absurd w n) fun o e => t.h p o e⟩
/-- a place and its address -/
theorem StR.get (s : StR K ⟨c, l⟩ G H S) {n : Nat} {z : Cl} (h : S[n]? = some z) : ∃ p, l[n]? = some p ∧ CR K ⟨c, l⟩ G H p z := by
  have h1 : n < l.length := by rw [show l.length = S.length from s.len]; exact (List.getElem?_eq_some_iff.mp h).1
  exact ⟨l[n], List.getElem?_eq_getElem h1, s.at_ n _ z (List.getElem?_eq_getElem h1) h⟩
theorem StR.mem (s : StR K ⟨c, l⟩ G H S) {a : Addr} (h : a ∈ l) : H a ≠ none := by
  obtain ⟨n, hn, rfl⟩ := List.getElem_of_mem h
  have h2 : n < S.length := by rw [← s.len]; exact hn
  exact (s.at_ n _ _ (List.getElem?_eq_getElem hn) (List.getElem?_eq_getElem h2)).ne
theorem StR.loc (s : StR K ⟨c, l⟩ G H S) {v : V} {n : Nat} {z : Cl} (h : Dt K ⟨c, l⟩ G v (.loc n)) (e : S[n]? = some z) : ∃ p, v = .ref p ∧ l[n]? = some p ∧ CR K ⟨c, l⟩ G H p z := by
  cases h with
  | loc h1 => exact ⟨_, rfl, h1, s.at_ n _ z h1 e⟩

/-! ### the slots -/
structure SRS (K : PySem.W.Frag) (c : Cc) (l : List Addr) (G H : Hp) (σ : L2.St) (en : En) (S : So) : Prop where
  sr : SR K ⟨c, l⟩ G H σ en
  st : StR K ⟨c, l⟩ G H S
  no : ∀ (i : Nat) (d : D), en[i]? ≠ some (some (Sl.ow d))
variable {σ : L2.St} {en : En}
theorem SRS.step (s : SRS K c l G H σ en S) (t : Sp5 l G H l1 G1 H1) (st1 : StR K ⟨c, l1⟩ G1 H1 S1) : SRS K c l1 G1 H1 σ en S1 := by
  obtain ⟨m, rfl⟩ := t.lx
  refine ⟨⟨t.sub, fun i x e => ?_, s.sr.len⟩, st1, s.no⟩
  have h := s.sr.sl i x e
  cases x with
  | sh d => obtain ⟨v, e1, h1⟩ := h; exact ⟨v, e1, (h1.same t.g).ext⟩
  | exc => exact h
  | ow d => exact absurd e (s.no i d)

/-! ### what an expression gives -/
def VS (K : PySem.W.Frag) (c : Cc) (l : List Addr) (H G' H' : Hp) : Kd → V → D → Prop
  | .sh, v, d => Dt K ⟨c, l⟩ G' v d
  | .nw, v, d => ∃ p, v = .ref p ∧ H p = none ∧ G' p = none ∧ p ∉ l ∧ Top K ⟨c, l⟩ G' H' p d
  | .bo, _, _ => False
theorem VS.back {k : Kd} {v : V} {d : D} (t : Sp5 l G H l1 G1 H1) (h : VS K c l2 H1 G2 H2 k v d) : VS K c l2 H G2 H2 k v d := by
  cases k with
  | sh => exact h
  | nw =>
    obtain ⟨p, e, hn, gn, hl, tp⟩ := h
    refine ⟨p, e, ?_, gn, hl, tp⟩
    cases z : H p with
    | none => rfl
    | some o => exact absurd hn (t.al p (by rw [z]; simp))
  | bo => exact h.elim
def JQ (K : PySem.W.Frag) (c : Cc) (W : XK) (l : List Addr) (G H : Hp) (Q : VK) (S' : So) : R → Prop
  | .val k d => ∀ v l' G' H', Sp5 l G H l' G' H' → StR K ⟨c, l'⟩ G' H' S' → VS K c l' H G' H' k v d → Q v H'
  | .er cl d => ∀ dx v l' G' H', Sp5 l G H l' G' H' → StR K ⟨c, l'⟩ G' H' S' → H' dx = some (.xd [(Xd, v)]) → Dt K ⟨c, l'⟩ G' v d → W (.ref (c cl)) (some dx) H'
theorem JQ.on {W : XK} {Q : VK} {r : R} {S' : So} (t : Sp5 l G H l1 G1 H1) (q : JQ K c W l G H Q S' r) : JQ K c W l1 G1 H1 Q S' r := by
  cases r with
  | val k d => exact fun v l' G' H' t' s' h => q v l' G' H' (t.trans t') s' (h.back t)
  | er cl d => exact fun dx v l' G' H' t' s' h1 h2 => q dx v l' G' H' (t.trans t') s' h1 h2
abbrev FE := En → So → Option (R × So)
def jD (K : PySem.W.Frag) (c : Cc) (W : WX) (f : FE) : TE := fun σ H Q => ∃ l G en S r S', SRS K c l G H σ en S ∧ f en S = some (r, S') ∧ JQ K c (fun x d H' => W x d σ H') l G H Q S' r
end
abbrev JE (X : Cx) (c : Cc) (W : WX) (e : Expr) (f : FE) : Prop := PE X e (jD X.K c W f)

/-! ### plain expressions -/
def lft (f : En → Option R) : FE := fun en S => match f en with
  | some (.val .bo _) => none
  | some r => some (r, S)
  | none => none
section
variable {X : Cx} {c : Cc} {W : WX} {e : Expr} {l : List Addr} {G H : Hp} {S : So} {σ : L2.St} {en : En}
theorem je_lft {f : En → Option R} (h : ∀ l, DE X ⟨c, l⟩ W e f) : JE X c W e (lft f) := by
  refine ⟨fun pins s σ H Q I ⟨l, G, en, S, r, S', sr, e1, q⟩ => (h l).run pins s σ H Q I ⟨G, en, ?_⟩⟩
  unfold lft at e1
  split at e1
  · cases e1
  · rename_i r' hb hf
    cases e1
    refine ⟨_, sr.sr, hf, ?_⟩
    cases r with
    | val k d =>
      cases k with
      | bo => exact absurd rfl (hb d)
      | sh => exact fun v G1 H1 st vi => q v l G1 H1 (.of st) (sr.st.stp st) vi
      | nw =>
        intro v G1 H1 st vi
        obtain ⟨p, rfl, hn, gn, t⟩ := vi
        exact q _ l G1 H1 (.of st) (sr.st.stp st) ⟨p, rfl, hn, gn, fun m => sr.st.mem m hn, t⟩
    | er cl d => exact fun dx v G1 H1 st h1 h2 => q dx v l G1 H1 (.of st) (sr.st.stp st) h1 h2
  · cases e1

/-! ### one after the other -/
def bJ (a : Option (R × So)) (k : Kd → D → So → Option (R × So)) : Option (R × So) := match a with
  | some (.val kd d, S) => k kd d S
  | some (.er cl d, S) => some (.er cl d, S)
  | none => none
theorem jv_bind {f : FE} {k : Kd → D → So → Option (R × So)} {r : R} {S' : So} {Q T : VK} (s : SRS X.K c l G H σ en S) (e : bJ (f en S) k = some (r, S')) (q : JQ X.K c (fun x d H' => W x d σ H') l G H Q S' r)
    (cont : ∀ v kd d l1 G1 H1 S1, Sp5 l G H l1 G1 H1 → SRS X.K c l1 G1 H1 σ en S1 → VS X.K c l1 H G1 H1 kd v d → k kd d S1 = some (r, S') → JQ X.K c (fun x d H' => W x d σ H') l1 G1 H1 Q S' r → T v H1) : jD X.K c W f σ H T := by
  cases hf : f en S with
  | none => rw [hf] at e; cases e
  | some a =>
    obtain ⟨a, S1⟩ := a
    rw [hf] at e
    refine ⟨l, G, en, S, a, S1, s, hf, ?_⟩
    cases a with
    | val kd d => exact fun v l1 G1 H1 t s1 vi => cont v kd d l1 G1 H1 S1 t (s.step t s1) vi e (q.on t)
    | er cl d => cases e; exact q
/-- a new thing is shown: it gets a place (pm), or changes no more -/
def clOf : D → Option Cl
  | .lst ds => some (.lst ds)
  | .dct k => some (.dct k)
  | .ins c fs => some (.ins c fs)
  | _ => none
def shS (pm : Bool) : Option (R × So) → Option (R × So)
  | some (.val .nw d, S) => if pm = true then (clOf d).map fun z => (.val .sh (.loc S.length), S ++ [z]) else some (.val .sh d, S)
  | x => x
def fZ (pm : Bool) (f : FE) : FE := fun en S => shS pm (f en S)
def jZ (K : PySem.W.Frag) (c : Cc) (W : WX) (f : FE) : TE := fun σ H T => ∃ l G en S r S', SRS K c l G H σ en S ∧ f en S = some (r, S') ∧ match r with
  | .val .sh d => ∀ v l' G' H', Sp5 l G H l' G' H' → StR K ⟨c, l'⟩ G' H' S' → Dt K ⟨c, l'⟩ G' v d → T v H'
  | .val _ _ => False
  | .er cl d => ∀ dx v l' G' H', Sp5 l G H l' G' H' → StR K ⟨c, l'⟩ G' H' S' → H' dx = some (.xd [(Xd, v)]) → Dt K ⟨c, l'⟩ G' v d → W (.ref (c cl)) (some dx) σ H'
/-- a new place -/
theorem StR.push {K : PySem.W.Frag} {p : Addr} {d : D} {z : Cl} (s : StR K ⟨c, l⟩ G H S) (e : clOf d = some z) (hp : p ∉ l) (gn : G p = none) (t : Top K ⟨c, l⟩ G H p d) : StR K ⟨c, l ++ [p]⟩ G H (S ++ [z]) := by
  have hl : l.length = S.length := s.len
  refine ⟨by show (l ++ [p]).length = (S ++ [z]).length; simp [hl], ?_, fun n q y e1 e2 => ?_⟩
  · show (l ++ [p]).Nodup
    rw [List.nodup_append]
    refine ⟨s.nd, by simp, fun a ha b hb => ?_⟩
    rw [List.mem_singleton] at hb
    rintro rfl
    subst hb
    exact hp ha
  · have e1' : (l ++ [p])[n]? = some q := e1
    by_cases hn : n < l.length
    · rw [List.getElem?_append_left hn] at e1'
      rw [List.getElem?_append_left (by omega)] at e2
      exact (s.at_ n q y e1' e2).ext
    · rw [List.getElem?_append_right (by omega)] at e1'
      rw [List.getElem?_append_right (by omega)] at e2
      have hz : n - l.length = 0 := by
        have := (List.getElem?_eq_some_iff.mp e1').1
        simp at this; omega
      rw [hz] at e1'
      rw [show n - S.length = 0 by omega] at e2
      cases e1'
      cases e2
      have t' := t.ext (m := [p])
      cases d with
      | lst ds => cases e; obtain ⟨vs, h1, h2⟩ := t'; exact ⟨gn, vs, h1, h2⟩
      | dct ds => cases e; obtain ⟨vs, h1, k, h2⟩ := t'; exact ⟨gn, vs, h1, k, h2⟩
      | ins c ds => cases e; obtain ⟨dx, vs, h1, k, h2⟩ := t'; exact ⟨gn, dx, vs, h1, k, h2⟩
      | _ => cases e
theorem Sp5.push {p : Addr} {l1 : List Addr} {G1 H1 : Hp} (t : Sp5 l G H l1 G1 H1) (hn : H p = none) : Sp5 l G H (l1 ++ [p]) G1 H1 :=
  ⟨t.g, t.h, t.al, t.sub, t.fr, by
    obtain ⟨m, e⟩ := t.lx
    exact ⟨m ++ [p], by rw [e, List.append_assoc]⟩, fun a m => by
    rcases List.mem_append.mp m with m | m
    · exact t.lf a m
    · rw [List.mem_singleton] at m; subst m; exact .inr hn, t.fz⟩
/-- a new thing changes no more; o2 stands there -/
theorem Sp5.froze {p : Addr} {o2 : HO} {l1 : List Addr} {G1 H1 : Hp} (t : Sp5 l G H l1 G1 H1) (hn : H p = none) (gn : G1 p = none) (hl : p ∉ l1) : Sp5 l G H l1 (upd G1 p o2) (upd H1 p o2) := by
  refine ⟨t.g.trans (same_upd gn), fun a o e n => ?_, fun a n => ?_, fun b x e => ?_, fun a n => ?_, t.lx, t.lf, fun a od u e => by rw [upd_ne (by rintro rfl; rw [hn] at e; cases e)]; exact t.fz a od u e⟩
  · rw [upd_ne (by rintro rfl; rw [hn] at e; cases e)]; exact t.h a o e n
  · by_cases q : a = p
    · subst q; rw [upd_same]; simp
    · rw [upd_ne q]; exact t.al a n
  · by_cases q : b = p
    · subst q; rw [upd_same] at e ⊢; exact e
    · rw [upd_ne q] at e ⊢; exact t.sub b x e
  · by_cases q : a = p
    · subst q; exact .inr (.inl hn)
    · rw [upd_ne q] at n; exact t.fr a n
theorem StR.froze {K : PySem.W.Frag} {p : Addr} {o2 : HO} (s : StR K ⟨c, l⟩ G H S) (gn : G p = none) (hl : p ∉ l) : StR K ⟨c, l⟩ (upd G p o2) (upd H p o2) S :=
  ⟨s.len, s.nd, fun n q z e1 e2 => by
    have hne : q ≠ p := by rintro rfl; exact hl (List.mem_of_getElem? e1)
    exact (s.at_ n q z e1 e2).same (same_upd gn) (fun g _ => by rw [upd_ne hne]; exact g) fun o e => by rw [upd_ne hne]; exact e⟩
theorem je_z (pm : Bool) {f : FE} (h : JE X c W e f) : PE X e (jZ X.K c W (fZ pm f)) := by
  refine ⟨fun pins s σ H T I hz => ?_⟩
  obtain ⟨l, G, en, S, r, S', sr, e1, q⟩ := hz
  unfold fZ at e1
  cases hf : f en S with
  | none => rw [hf] at e1; cases e1
  | some a =>
    obtain ⟨a, S1⟩ := a
    rw [hf] at e1
    refine thn (h.run pins s σ H (fun v H1 => T v H1 ∨ ∃ p kvs, v = .ref p ∧ H1 p = some (.dK kvs) ∧ ∀ od, T v (upd H1 p (.frz od (.dK kvs)))) I ⟨l, G, en, S, a, S1, sr, hf, ?_⟩) fun u s1 ⟨x, H1, I1, rx, q1⟩ => ?_
    · cases a with
      | er c d => cases e1; exact q
      | val k d =>
        cases k with
        | bo => exact fun v l1 G1 H1 t s1 vi => vi.elim
        | sh => cases e1; exact fun v l1 G1 H1 t s1 vi => .inl (q v l1 G1 H1 t s1 vi)
        | nw =>
          intro v l1 G1 H1 t s1 vi
          obtain ⟨p, rfl, hn, gn, hl, tp⟩ := vi
          replace e1 : (if pm = true then (clOf d).map fun z => (R.val .sh (.loc S1.length), S1 ++ [z]) else some (R.val .sh d, S1)) = some (r, S') := e1
          split at e1
          · obtain ⟨z, hz, e2⟩ := Option.map_eq_some_iff.mp e1
            cases e2
            refine .inl (q _ (l1 ++ [p]) G1 H1 (t.push hn) (s1.push hz hl gn tp) (.loc ?_))
            show (l1 ++ [p])[S1.length]? = some p
            rw [← show l1.length = S1.length from s1.len, List.getElem?_append_right (Nat.le_refl _)]
            simp
          · cases e1
            obtain ⟨o, ho⟩ := tp.some
            cases hd : d.isDct with
            | false =>
              have sg : Same G1 (upd G1 p o) := same_upd gn
              have t2 := t.froze (o2 := o) hn gn hl
              have s2 := s1.froze (o2 := o) gn hl
              rw [upd_self ho] at t2 s2
              exact .inl (q _ l1 _ H1 t2 s2 (tp.dt hd sg fun o' q => by rw [upd_same, ← ho, q]))
            | true =>
              cases d with
              | dct dks =>
                obtain ⟨kvs, hp, hk, tl⟩ := tp
                refine .inr ⟨p, kvs, rfl, hp, fun od => ?_⟩
                have sg : Same G1 (upd G1 p (.frz od (.dK kvs))) := same_upd gn
                exact q _ l1 _ _ (t.froze (o2 := .frz od (.dK kvs)) hn gn hl) (s1.froze (o2 := .frz od (.dK kvs)) gn hl) (.dct upd_same hk (tl.same sg))
              | _ => cases hd
    · rcases q1 with q1 | ⟨p, kvs, ex, hp, q1⟩
      · exact ⟨x, H1, I1, rx, q1⟩
      · obtain ⟨od, I2⟩ := I1.lock hp True.intro
        exact ⟨x, _, I2, rx, q1 od⟩
/-- reading: what stands at a place -/
def drD (S : So) : D → D
  | .loc n => match S[n]? with
    | some (.lst ds) => .lst ds
    | some (.dct k) => .dct k
    | some (.lk k) => .dct k
    | some (.ins c fs) => .ins c fs
    | _ => .loc n
  | d => d
theorem db_dr {K : PySem.W.Frag} {v : V} {d : D} (s : StR K ⟨c, l⟩ G H S) (h : Dt K ⟨c, l⟩ G v d) : DB K ⟨c, l⟩ G H v (drD S d) := by
  cases d with
  | loc n =>
    cases e : S[n]? with
    | none => simp only [drD, e]; exact .inl h
    | some z =>
      obtain ⟨p, rfl, hl, cr⟩ := s.loc h e
      cases z with
      | lst ds => simp only [drD, e]; exact .inr ⟨p, rfl, cr.1, cr.2⟩
      | dct ds => simp only [drD, e]; obtain ⟨g, kv, h1, h2, h3⟩ := cr; exact .inr ⟨p, rfl, g, kv, .inl h1, h2, h3⟩
      | lk ds => simp only [drD, e]; obtain ⟨g, od, kv, h1, h2, h3⟩ := cr; exact .inr ⟨p, rfl, g, kv, .inr ⟨od, h1⟩, h2, h3⟩
      | ins c' ds => simp only [drD, e]; exact .inr ⟨p, rfl, cr.1, cr.2⟩
      | dead => simp only [drD, e]; exact .inl h
  | _ => exact .inl h
/-- a value, shown or new, as it may be read -/
theorem db_vs {K : PySem.W.Frag} {H0 : Hp} {k : Kd} {v : V} {d : D} (s : StR K ⟨c, l⟩ G H S) (h : VS K c l H0 G H k v d) : DB K ⟨c, l⟩ G H v (drD S d) := by
  cases k with
  | sh => exact db_dr s h
  | nw =>
    obtain ⟨p, e, _, gn, _, t⟩ := h
    cases d with
    | loc n => exact t.elim
    | _ => exact .inr ⟨p, e, gn, t.r⟩
  | bo => exact h.elim
/-- .. carried over a step -/
theorem VS.step {K : PySem.W.Frag} {H0 : Hp} {k : Kd} {v : V} {d : D} {l1 : List Addr} {G1 H1 : Hp} (t : Sp5 l G H l1 G1 H1) (h : VS K c l H0 G H k v d) : VS K c l1 H0 G1 H1 k v d := by
  obtain ⟨m, e⟩ := t.lx
  subst e
  cases k with
  | sh => exact (Dt.same t.g h).ext
  | nw =>
    obtain ⟨p, e, hn, gn, hl, tp⟩ := h
    obtain ⟨o, ho⟩ := tp.some
    refine ⟨p, e, hn, ?_, fun m => ?_, (tp.same t.g fun o q => t.h p o q hl).ext⟩
    · cases z : G1 p with
      | none => rfl
      | some o' =>
        rcases t.fr p (by rw [z]; simp) with w | w | w
        · exact absurd gn w
        · rw [ho] at w; cases w
        · exact absurd w hl
    · rcases t.lf p m with w | w
      · exact hl w
      · rw [ho] at w; cases w
  | bo => exact h.elim

/-! ### operators -/
def lfS (o : Option (Kd × D)) (S : So) : Option (R × So) := match o with
  | some (.sh, d) => some (.val .sh d, S)
  | some (.nw, d) => some (.val .nw d, S)
  | _ => none
theorem lfS_some {o : Option (Kd × D)} {S S' : So} {r : R} (h : lfS o S = some (r, S')) : ∃ k d, o = some (k, d) ∧ r = .val k d ∧ S' = S ∧ k ≠ .bo := by
  unfold lfS at h
  split at h
  · cases h; exact ⟨_, _, rfl, rfl, rfl, by simp⟩
  · cases h; exact ⟨_, _, rfl, rfl, rfl, by simp⟩
  · cases h
theorem vs_vi {K : PySem.W.Frag} {k : Kd} {v : V} {d : D} {G1 H1 : Hp} (hk : k ≠ .bo) (s : StR K ⟨c, l⟩ G H S) (h : VI K ⟨c, l⟩ H G1 H1 k v d) : VS K c l H G1 H1 k v d := by
  cases k with
  | sh => exact h
  | nw => obtain ⟨p, e, hn, gn, t⟩ := h; exact ⟨p, e, hn, gn, fun m => s.mem m hn, t⟩
  | bo => exact absurd rfl hk
variable {a b : Expr} {fa fb : FE} {pos : Pos}
def fOpS (g : D → D → Option (Kd × D)) (fa fb : FE) : FE := fun en S => bJ (fa en S) fun _ x S1 => bJ (fb en S1) fun _ y S2 => lfS (g (drD S2 x) (drD S2 y)) S2
def fUnS (g : D → Option (Kd × D)) (fa : FE) : FE := fun en S => bJ (fa en S) fun _ x S1 => lfS (g (drD S1 x)) S1
def rJ2 (K : PySem.W.Frag) (c : Cc) (g : D → D → Option (Kd × D)) : R2 := fun x y H Q => ∃ l, rD2 K ⟨c, l⟩ g x y H Q
theorem tOpS_of {g : D → D → Option (Kd × D)} {σ : L2.St} {H : Hp} {Q : VK} (h : jD X.K c W (fOpS g fa fb) σ H Q) : tOp (rJ2 X.K c g) (jD X.K c W fa) (jD X.K c W fb) σ H Q := by
  obtain ⟨l, G, en, S, r, S', sr, e, q⟩ := h
  refine jv_bind sr e q fun x kx dx l1 G1 H1 S1 t1 sr1 hx e1 q1 => ?_
  refine jv_bind sr1 e1 q1 fun y ky dy l2 G2 H2 S2 t2 sr2 hy e2 q2 => ?_
  obtain ⟨k, d, e3, rfl, rfl, hk⟩ := lfS_some e2
  exact ⟨l2, G2, _, _, k, d, sr2.sr.sub, db_vs sr2.st (hx.step t2), db_vs sr2.st hy, e3, fun v G3 H3 st vi => q2 v l2 G3 H3 (.of st) (sr2.st.stp st) (vs_vi hk sr2.st vi)⟩
end
end PD
/-! PE2: with a store: tests, arguments, displays, calls. -/
namespace PD
open PySem PySem.Spec PyProof.Rows L2
section
variable {K : PySem.W.Frag} {c : Cc} {l l1 l2 : List Addr} {G H G1 H1 G2 H2 : Hp} {S S1 S2 : So} {σ : L2.St} {en : En}
/-! ### tests -/
abbrev FT := En → So → Option (RB × So)
def JB (K : PySem.W.Frag) (c : Cc) (W : XK) (l : List Addr) (G H : Hp) (Q : Bool → Hp → Prop) (S' : So) : RB → Prop
  | .b b => ∀ l' G' H', Sp5 l G H l' G' H' → StR K ⟨c, l'⟩ G' H' S' → Q b H'
  | .er cl d => ∀ dx v l' G' H', Sp5 l G H l' G' H' → StR K ⟨c, l'⟩ G' H' S' → H' dx = some (.xd [(Xd, v)]) → Dt K ⟨c, l'⟩ G' v d → W (.ref (c cl)) (some dx) H'
theorem JB.on {W : XK} {Q : Bool → Hp → Prop} {r : RB} {S' : So} (t : Sp5 l G H l1 G1 H1) (q : JB K c W l G H Q S' r) : JB K c W l1 G1 H1 Q S' r := by
  cases r with
  | b b => exact fun l' G' H' t' => q l' G' H' (t.trans t')
  | er cl d => exact fun dx v l' G' H' t' => q dx v l' G' H' (t.trans t')
def jT (K : PySem.W.Frag) (c : Cc) (W : WX) (f : FT) : TT := fun σ H Q => ∃ l G en S r S', SRS K c l G H σ en S ∧ f en S = some (r, S') ∧ JB K c (fun x d H' => W x d σ H') l G H Q S' r
end
abbrev JT (X : Cx) (c : Cc) (W : WX) (e : Expr) (f : FT) : Prop := PT X e (jT X.K c W f)
def lftT (f : En → Option RB) : FT := fun en S => (f en).map fun r => (r, S)
section
variable {X : Cx} {c : Cc} {W : WX} {e a b : Expr} {l : List Addr} {G H : Hp} {S : So} {σ : L2.St} {en : En} {fa fb : FE} {ta tb : FT} {pos : Pos} {rest es : List Expr}
theorem jt_lft {f : En → Option RB} (h : ∀ l, DT X ⟨c, l⟩ W e f) : JT X c W e (lftT f) := by
  refine ⟨fun pins s σ H Q I ⟨l, G, en, S, r, S', sr, e1, q⟩ => (h l).run pins s σ H Q I ?_⟩
  obtain ⟨r', hf, e2⟩ := Option.map_eq_some_iff.mp e1
  cases e2
  refine ⟨G, en, _, sr.sr, hf, ?_⟩
  cases r with
  | b b => exact fun G1 H1 st => q l G1 H1 (.of st) (sr.st.stp st)
  | er cl d => exact fun dx v G1 H1 st => q dx v l G1 H1 (.of st) (sr.st.stp st)
def bT (a : Option (R × So)) (k : D → So → Option (RB × So)) : Option (RB × So) := match a with
  | some (.val _ d, S) => k d S
  | some (.er cl d, S) => some (.er cl d, S)
  | none => none
def truS (f : FE) : FT := fun en S => bT (f en S) fun d S1 => (truD (drD S1 d)).map fun b => (.b b, S1)
theorem jt_tru (ha : JE X c W a fa) (he : ∀ whole, isTrue a X.env whole = (do let v ← whole; standAt a.pos; holding [v] (truthy v)) := by intro _; rfl) : JT X c W a (truS fa) := by
  refine PT.imp (pt_truth ha he) ?_
  rintro σ H Q ⟨l, G, en, S, r, S', sr, e, q⟩
  unfold truS at e
  cases hf : fa en S with
  | none => rw [hf] at e; cases e
  | some a =>
    obtain ⟨a, S1⟩ := a
    rw [hf] at e
    refine ⟨l, G, en, S, a, S1, sr, hf, ?_⟩
    cases a with
    | val kd d =>
      obtain ⟨b, hb, e2⟩ := Option.map_eq_some_iff.mp e
      cases e2
      exact fun v l1 G1 H1 t s1 vi => ⟨b, tru_of t.sub (db_vs s1 vi) hb, q l1 G1 H1 t s1⟩
    | er cl d => cases e; exact q
def fCmpT (g : D → D → Option (Kd × D)) (fa fb : FE) : FT := fun en S => bT (fOpS g fa fb en S) fun d S1 => match d with
  | .bl b => some (.b b, S1)
  | _ => none
def bTT (a : Option (RB × So)) (k : Bool → So → Option (RB × So)) : Option (RB × So) := match a with
  | some (.b b, S) => k b S
  | x => x
def fAndTS (ta tb : FT) : FT := fun en S => bTT (ta en S) fun b S1 => if b = true then tb en S1 else some (.b false, S1)
def fOrTS (ta tb : FT) : FT := fun en S => bTT (ta en S) fun b S1 => if b = true then some (.b true, S1) else tb en S1
def fNotTS (ta : FT) : FT := fun en S => bTT (ta en S) fun b S1 => some (.b (!b), S1)
theorem jt_bind {f : FT} {k : Bool → So → Option (RB × So)} {r : RB} {S' : So} {Q : Bool → Hp → Prop} {T : Bool → Hp → Prop} (s : SRS X.K c l G H σ en S) (e : bTT (f en S) k = some (r, S')) (q : JB X.K c (fun x d H' => W x d σ H') l G H Q S' r)
    (cont : ∀ b l1 G1 H1 S1, Sp5 l G H l1 G1 H1 → SRS X.K c l1 G1 H1 σ en S1 → k b S1 = some (r, S') → JB X.K c (fun x d H' => W x d σ H') l1 G1 H1 Q S' r → T b H1) : jT X.K c W f σ H T := by
  cases hf : f en S with
  | none => rw [hf] at e; cases e
  | some a =>
    obtain ⟨a, S1⟩ := a
    rw [hf] at e
    refine ⟨l, G, en, S, a, S1, s, hf, ?_⟩
    cases a with
    | b b => exact fun l1 G1 H1 t s1 => cont b l1 G1 H1 S1 t (s.step t s1) e (q.on t)
    | er cl d => cases e; exact q
theorem jt_not (ha : JT X c W a ta) : JT X c W (.UnaryOp .Not a pos) (fNotTS ta) := by
  refine PT.imp (pt_not ha) ?_
  rintro σ H Q ⟨l, G, en, S, r, S', sr, e, q⟩
  refine jt_bind sr e q fun b l1 G1 H1 S1 t1 sr1 e1 q1 => ?_
  cases e1
  exact q1 l1 G1 H1 (.refl sr1.sr.sub) sr1.st
/-! ### and, or, not, if as values -/
def isBl (k : Bool → So → Option (R × So)) : D → So → Option (R × So) := fun d S => match d with
  | .bl b => k b S
  | _ => none
def fAndVS (fa fb : FE) : FE := fun en S => bJ (fa en S) fun _ d S1 => isBl (fun b S1 => if b = true then fb en S1 else some (.val .sh (.bl false), S1)) d S1
def fOrVS (fa fb : FE) : FE := fun en S => bJ (fa en S) fun _ d S1 => isBl (fun b S1 => if b = true then some (.val .sh (.bl true), S1) else fb en S1) d S1
def fNotVS (fa : FE) : FE := fun en S => bJ (fa en S) fun _ d S1 => isBl (fun b S1 => some (.val .sh (.bl (!b)), S1)) d S1
def fIfVS (t : FT) (fa fb : FE) : FE := fun en S => match t en S with
  | some (.b true, S1) => fa en S1
  | some (.b false, S1) => fb en S1
  | some (.er cl d, S1) => some (.er cl d, S1)
  | none => none
/-! ### index, unary -/
theorem ixj {g : D → D → Option (Kd × D)} (h : ∀ l, IxR X (rD2 X.K ⟨c, l⟩ g)) : IxR X (rJ2 X.K c g) := by
  rintro value slice pins s σ H x y v u Q I rx ry ⟨l, h2⟩ e
  exact h l value slice pins s σ H x y v u Q I rx ry h2 e
theorem je_ix (hu : X.A.units + 1 < cLine) (ha : JE X c W a fa) (hb : JE X c W b fb) (hs : PlainIx b := by intro _ _; rfl) : JE X c W (.Subscript a b pos) (fOpS ixD fa fb) :=
  PE.imp (pe_ix (ixj fun l => ix_ok hu) ha hb hs) fun _ _ _ h => tOpS_of h
/-! ### arguments -/
abbrev FA := En → So → Option (RA × So)
def JAq (K : PySem.W.Frag) (c : Cc) (W : XK) (l : List Addr) (G H : Hp) (Q : List V → Hp → Prop) (S' : So) : RA → Prop
  | .vals ds => ∀ vs l' G' H', Sp5 l G H l' G' H' → StR K ⟨c, l'⟩ G' H' S' → DtL K ⟨c, l'⟩ G' vs ds → Q vs H'
  | .er cl d => ∀ dx v l' G' H', Sp5 l G H l' G' H' → StR K ⟨c, l'⟩ G' H' S' → H' dx = some (.xd [(Xd, v)]) → Dt K ⟨c, l'⟩ G' v d → W (.ref (c cl)) (some dx) H'
def jA (K : PySem.W.Frag) (c : Cc) (W : WX) (f : FA) : TA := fun σ H Q => ∃ l G en S r S', SRS K c l G H σ en S ∧ f en S = some (r, S') ∧ JAq K c (fun x d H' => W x d σ H') l G H Q S' r
abbrev JA (X : Cx) (c : Cc) (W : WX) (es : List Expr) (f : FA) : Prop := PA X es (jA X.K c W f)
abbrev JK (X : Cx) (c : Cc) (W : WX) (kws : List Keyword) (f : FA) : Prop := PK X kws (jA X.K c W f)
def fNilS : FA := fun _ S => some (.vals [], S)
def fConsS (pm : Bool) (f : FE) (t : FA) : FA := fun en S => match fZ pm f en S with
  | some (.val .sh d, S1) => (match t en S1 with
    | some (.vals ds, S2) => some (.vals (d :: ds), S2)
    | x => x)
  | some (.val _ _, _) => none
  | some (.er cl d, S1) => some (.er cl d, S1)
  | none => none
theorem ja_nil : JA X c W [] fNilS := PA.imp pa_nil fun σ H Q ⟨l, G, en, S, r, S', sr, e, q⟩ => by
  cases e
  exact q [] l G H (.refl sr.sr.sub) sr.st .nil
theorem DtL.on {K : PySem.W.Frag} {l l1 : List Addr} {G H G1 H1 : Hp} {vs : List V} {ds : List D} (t : Sp5 l G H l1 G1 H1) (h : DtL K ⟨c, l⟩ G vs ds) : DtL K ⟨c, l1⟩ G1 vs ds := by
  obtain ⟨m, e⟩ := t.lx
  subst e
  exact (h.same t.g).ext
theorem Dt.on {K : PySem.W.Frag} {l l1 : List Addr} {G H G1 H1 : Hp} {v : V} {d : D} (t : Sp5 l G H l1 G1 H1) (h : Dt K ⟨c, l⟩ G v d) : Dt K ⟨c, l1⟩ G1 v d := by
  obtain ⟨m, e⟩ := t.lx
  subst e
  exact (h.same t.g).ext
theorem tConsS_of {pm : Bool} {t : FA} {σ : L2.St} {H : Hp} {Q : List V → Hp → Prop} (h : jA X.K c W (fConsS pm fa t) σ H Q) : tCons (jZ X.K c W (fZ pm fa)) (jA X.K c W t) σ H Q := by
  obtain ⟨l, G, en, S, r, S', sr, e, q⟩ := h
  unfold fConsS at e
  cases hf : fZ pm fa en S with
  | none => rw [hf] at e; cases e
  | some x =>
    obtain ⟨x, S1⟩ := x
    rw [hf] at e
    refine ⟨l, G, en, S, x, S1, sr, hf, ?_⟩
    cases x with
    | er cl d => cases e; exact q
    | val kd d =>
      cases kd with
      | nw => cases e
      | bo => cases e
      | sh =>
        intro v l1 G1 H1 t1 s1 dv
        replace e : (match t en S1 with | some (.vals ds, S2) => some (RA.vals (d :: ds), S2) | x => x) = some (r, S') := e
        cases ht : t en S1 with
        | none => rw [ht] at e; cases e
        | some y =>
          obtain ⟨y, S2⟩ := y
          rw [ht] at e
          refine ⟨l1, G1, en, S1, y, S2, sr.step t1 s1, ht, ?_⟩
          cases y with
          | vals ds => cases e; exact fun vs l2 G2 H2 t2 s2 h2 => q (v :: vs) l2 G2 H2 (t1.trans t2) s2 (.cons (dv.on t2) h2)
          | er cl d => cases e; exact fun dx v' l2 G2 H2 t2 => q dx v' l2 G2 H2 (t1.trans t2)
theorem ja_cons (pm : Bool) {t : FA} (ha : JE X c W e fa) (hr : JA X c W es t) (hs : starEach (e :: es) X.env = (false, eval e X.env) :: starEach es X.env := by rfl) : JA X c W (e :: es) (fConsS pm fa t) := PA.imp (pa_cons (je_z pm ha) hr hs) fun _ _ _ q => tConsS_of q
theorem jk_nil : JK X c W [] fNilS := PK.imp pk_nil fun σ H Q ⟨l, G, en, S, r, S', sr, e, q⟩ => by
  cases e
  exact q [] l G H (.refl sr.sr.sub) sr.st .nil
theorem jk_cons (pm : Bool) {t : FA} {kws : List Keyword} {nm : Option Str} {kpos : Pos} (ha : JE X c W e fa) (hr : JK X c W kws t) : JK X c W (⟨nm, e, kpos⟩ :: kws) (fConsS pm fa t) := PK.imp (pk_cons (je_z pm ha) hr) fun _ _ _ q => tConsS_of q
/-- plain arguments -/
def lftA (f : En → Option RA) : FA := fun en S => (f en).map fun r => (r, S)
def bAS (a : Option (RA × So)) (k : List D → So → Option (R × So)) : Option (R × So) := match a with
  | some (.vals ds, S) => k ds S
  | some (.er cl d, S) => some (.er cl d, S)
  | none => none
theorem ja_bind {t : FA} {k : List D → So → Option (R × So)} {r : R} {S' : So} {Q : VK} {T : List V → Hp → Prop} (s : SRS X.K c l G H σ en S) (e : bAS (t en S) k = some (r, S')) (q : JQ X.K c (fun x d H' => W x d σ H') l G H Q S' r)
    (cont : ∀ vs ds l1 G1 H1 S1, Sp5 l G H l1 G1 H1 → SRS X.K c l1 G1 H1 σ en S1 → DtL X.K ⟨c, l1⟩ G1 vs ds → k ds S1 = some (r, S') → JQ X.K c (fun x d H' => W x d σ H') l1 G1 H1 Q S' r → T vs H1) : jA X.K c W t σ H T := by
  cases ht : t en S with
  | none => rw [ht] at e; cases e
  | some y =>
    obtain ⟨y, S1⟩ := y
    rw [ht] at e
    refine ⟨l, G, en, S, y, S1, s, ht, ?_⟩
    cases y with
    | vals ds => exact fun vs l1 G1 H1 t1 s1 h => cont vs ds l1 G1 H1 S1 t1 (s.step t1 s1) h e (q.on t1)
    | er cl d => cases e; exact q

/-! ### displays -/
def fLstS (t : FA) : FE := fun en S => bAS (t en S) fun ds S1 => if ds.length ≤ 16777216 then some (.val .nw (.lst ds), S1) else none
def fTupS (t : FA) : FE := fun en S => bAS (t en S) fun ds S1 => if ds.length ≤ 16777216 then some (.val .sh (.tup ds), S1) else none
theorem je_lst {t : FA} (h : JA X c W es t) : JE X c W (.List es pos) (fLstS t) := by
  refine PE.imp (pe_lst h) ?_
  rintro σ H Q ⟨l, G, en, S, r, S', sr, e, q⟩
  refine ja_bind sr e q fun vs ds l1 G1 H1 S1 t1 sr1 h1 e1 q1 => ?_
  split at e1
  · rename_i hl
    cases e1
    refine ⟨by rw [h1.length, sizeLine_eq]; exact hl, fun p hp => ?_⟩
    have st := Stp.hid (o := .lst vs) sr1.sr.sub hp
    exact q1 (.ref p) l1 G1 _ (.of st) (sr1.st.stp st) ⟨p, rfl, hp, sr1.sr.sub.free hp, fun m => sr1.st.mem m hp, vs, upd_same, h1⟩
  · cases e1
theorem je_tup {t : FA} {x1} (h : JA X c W es t) : JE X c W (.Tuple es x1 pos) (fTupS t) := by
  refine PE.imp (pe_tup h) ?_
  rintro σ H Q ⟨l, G, en, S, r, S', sr, e, q⟩
  refine ja_bind sr e q fun vs ds l1 G1 H1 S1 t1 sr1 h1 e1 q1 => ?_
  split at e1
  · rename_i hl
    cases e1
    refine ⟨by rw [h1.length, sizeLine_eq]; exact hl, fun p hp => ?_⟩
    have st := Stp.new (o := .tup vs) sr1.sr.sub hp
    exact q1 (.ref p) l1 (upd G1 p (.tup vs)) _ (.of st) (sr1.st.stp st) (.tup upd_same (h1.same (same_upd (sr1.sr.sub.free hp))))
  · cases e1

/-! ### calls -/
abbrev FF := List D → So → Option (R × So)
/-- the promise of a def that changes the store -/
def spS (K : PySem.W.Frag) (c : Cc) (n : Nat) (F : FF) : Sp := fun vs H Q E => ∃ l G S ds r S', Same G H ∧ StR K ⟨c, l⟩ G H S ∧ DtL K ⟨c, l⟩ G vs ds ∧ ds.length = n ∧ F ds S = some (r, S') ∧ JQ K c E l G H Q S' r
theorem spS_len {K : PySem.W.Frag} {n : Nat} {F : FF} (vs : List V) (H : Hp) (Q : VK) (E : XK) (h : spS K c n F vs H Q E) : vs.length = n := by
  obtain ⟨l, G, S, ds, r, S', _, _, h1, h2, _⟩ := h
  rw [h1.length, h2]
def fCallS (F : FF) (n : Nat) (t : FA) : FE := fun en S => bAS (t en S) fun ds S1 => if ds.length = n then F ds S1 else none
/-- a plain def: it changes nothing -/
def ofP (F : List D → Option R) : FF := fun ds S => match F ds with
  | some (.val .bo _) => none
  | some r => some (r, S)
  | none => none
variable {k n : Nat} {g : Addr} {fd : FuncData} {ps : List Str} {F : FF} {x : Str} {p : Pos}
theorem tCallS_of {t : FA} {σ : L2.St} {H : Hp} {Q : VK} (h : jD X.K c W (fCallS F n t) σ H Q) : jA X.K c W t σ H fun vs H1 => spS X.K c n F vs H1 Q (WE W σ) := by
  obtain ⟨l, G, en, S, r, S', sr, e, q⟩ := h
  refine ja_bind sr e q fun vs ds l1 G1 H1 S1 t1 sr1 h1 e1 q1 => ?_
  split at e1
  · rename_i hn
    exact ⟨l1, G1, S1, ds, r, S', sr1.sr.sub, sr1.st, h1, hn, e1, q1⟩
  · cases e1
theorem je_call {t : FA} (FO : FnOk X.prog X.w X.K X.mg X.base (L2.CX X.prog X.w) k g fd ps (spS X.K c n F)) (hr : Room k X.A) (hg : Gl X x) (hm : X.mg x = some (.ref g)) (hk : PySem.W.keepIn X.K (.ref g) = true) (hb : Binds X.K fd ps []) (tk : Takes X W)
    (ha : JA X c W (e :: es) t) (hdb : (x == ("__debug__" : Str)) = false := by decide) (he : starEach (e :: es) X.env = (false, eval e X.env) :: starEach es X.env := by rfl) (hpl : (backTo pos (starEach es X.env)).any (·.1) = false := by rfl) :
    JE X c W (.Call (.Name x p) (e :: es) [] pos) (fCallS F n t) :=
  PE.imp (pe_callSD FO hr hg hm hk hb .nil (fun σ => passAt tk σ) ha hdb he hpl) fun σ H Q h => by
    show jA X.K c W t σ H fun vs H1 => spS X.K c n F (vs ++ []) H1 Q (WE W σ)
    have h' := tCallS_of h
    have e0 : (fun (vs : List V) (H1 : Hp) => spS X.K c n F (vs ++ []) H1 Q (WE W σ)) = fun vs H1 => spS X.K c n F vs H1 Q (WE W σ) := by
      funext vs H1
      rw [List.append_nil]
    rw [e0]
    exact h'

variable {id T : String}
def fBnS (g : List D → Option (Kd × D)) (t : FA) : FE := fun en S => bAS (t en S) fun ds S1 => lfS (g ds) S1
end
end PD
/-! PE3: with a store: what is walked, list comprehensions. -/
namespace PD
open PySem PySem.Spec PyProof.Rows L2
section
variable {K : PySem.W.Frag} {c : Cc} {l l1 l2 : List Addr} {G H G1 H1 G2 H2 : Hp} {S S1 S2 : So} {σ : L2.St} {en : En}
/-- such a thing through a step -/
theorem Sp5.keep {p : Addr} {o : HO} (t : Sp5 l G H l1 G1 H1) (hl : p ∉ l) (gn : G p = none) (hp : H p = some o) : p ∉ l1 ∧ G1 p = none ∧ H1 p = some o := by
  refine ⟨fun m => ?_, ?_, t.h p o hp hl⟩
  · rcases t.lf p m with z | z
    · exact hl z
    · rw [hp] at z; cases z
  · cases e : G1 p with
    | none => rfl
    | some x =>
      rcases t.fr p (by rw [e]; simp) with w | w | w
      · exact absurd gn w
      · rw [hp] at w; cases w
      · exact absurd w hl
/-! ### what is walked -/
abbrev Wk := So → Nat → Option (Option D)
def GivesS (K : PySem.W.Frag) (c : Cc) (J : It) (l1 : List Addr) (G1 H1 : Hp) (it : Wk) : Prop := ∀ l2 G2 H2 S2, Sp5 l1 G1 H1 l2 G2 H2 → StR K ⟨c, l2⟩ G2 H2 S2 → ∀ i,
  (∀ d, it S2 i = some (some d) → J.go i H2 ∧ ∀ x H3, J.yld i H2 x H3 → ∃ G3, Stp G2 H2 G3 H3 ∧ Dt K ⟨c, l2⟩ G3 x d) ∧ (it S2 i = some none → J.stop i H2)
inductive RI where
  | its (it : Wk) (n : Nat)
  | er (c : Nat) (d : D)
abbrev FI := En → So → Option (RI × So)
def tIS (K : PySem.W.Frag) (c : Cc) (W : WX) (f : FI) : TI := fun σ H R => ∃ l G en S r S', SRS K c l G H σ en S ∧ f en S = some (r, S') ∧ match r with
  | .its it n => ∀ J l1 G1 H1, Sp5 l G H l1 G1 H1 → StR K ⟨c, l1⟩ G1 H1 S' → GivesS K c J l1 G1 H1 it → R J H1
  | .er cl d => ∀ dx v l' G' H', Sp5 l G H l' G' H' → StR K ⟨c, l'⟩ G' H' S' → H' dx = some (.xd [(Xd, v)]) → Dt K ⟨c, l'⟩ G' v d → W (.ref (c cl)) (some dx) σ H'
def itL (ds : List D) : Wk := fun _ i => if i ≤ ds.length then some ds[i]? else none
theorem GivesS.of {J : It} {ds : List D} (h : Gives K ⟨c, l1⟩ J G1 ds) : GivesS K c J l1 G1 H1 (itL ds) := fun l2 G2 H2 S2 t s i => by
  obtain ⟨h1, h2⟩ := h G2 H2 t.g t.sub i
  obtain ⟨m, e⟩ := t.lx
  subst e
  unfold itL
  refine ⟨fun d hd => ?_, fun hd => ?_⟩
  · split at hd
    · cases hz : ds[i]? with
      | none => rw [hz] at hd; cases hd
      | some d' =>
        rw [hz] at hd; cases hd
        obtain ⟨a, b⟩ := h1 _ hz
        exact ⟨a, fun x H3 y => by obtain ⟨G3, s3, dx⟩ := b x H3 y; exact ⟨G3, s3, dx.ext⟩⟩
    · cases hd
  · split at hd
    · rename_i hi
      have := List.getElem?_eq_none_iff.mp (Option.some.inj hd)
      exact h2 (by omega)
    · cases hd
end
abbrev JI (X : Cx) (c : Cc) (W : WX) (tg e : Expr) (f : FI) : Prop := PI X tg e (tIS X.K c W f)
def lftI (f : En → Option RA) : FI := fun en S => match f en with
  | some (.vals ds) => some (.its (itL ds) ds.length, S)
  | some (.er cl d) => some (.er cl d, S)
  | none => none
section
variable {X : Cx} {c : Cc} {W : WX} {e tg : Expr} {l : List Addr} {G H : Hp} {S : So} {σ : L2.St} {en : En} {fa fb : FE} {pos p : Pos}
theorem ji_lft {f : En → Option RA} (h : ∀ l, DI X ⟨c, l⟩ W tg e f) : JI X c W tg e (lftI f) := by
  refine ⟨fun pins s σ H R I ⟨l, G, en, S, r, S', sr, e1, q⟩ => (h l).run pins s σ H R I ?_⟩
  unfold lftI at e1
  split at e1
  · rename_i ds hf
    cases e1
    exact ⟨G, en, _, sr.sr, hf, fun J G1 H1 st hJ => q J l G1 H1 (.of st) (sr.st.stp st) (.of hJ)⟩
  · rename_i cl d hf
    cases e1
    exact ⟨G, en, _, sr.sr, hf, fun dx v G1 H1 st => q dx v l G1 H1 (.of st) (sr.st.stp st)⟩
  · cases e1
/-- for x in e: a value, shown; a list at a place is read anew at each turn -/
def itLoc (n : Nat) : Wk := fun S i => match S[n]? with
  | some (.lst ds) => some ds[i]?
  | _ => none
def itKey (n : Nat) : Wk := fun S i => match S[n]? with
  | some (.lk dks) => some (dks[i]?.map fun kv => kD kv.1)
  | _ => none
def itVn (S : So) (n : Nat) : Option (Wk × Nat) := match S[n]? with
  | some (.lst ds) => some (itLoc n, ds.length)
  | some (.lk dks) => some (itKey n, dks.length)
  | _ => none
def itV (S : So) : D → Option (Wk × Nat)
  | .loc n => itVn S n
  | d => (itemsD d).map fun ds => (itL ds, ds.length)
def fItemsS (f : FE) : FI := fun en S => match fZ false f en S with
  | some (.val .sh d, S1) => (itV S1 d).map fun w => (.its w.1 w.2, S1)
  | some (.val _ _, _) => none
  | some (.er cl d, S1) => some (.er cl d, S1)
  | none => none
/-- range, zip, enumerate of plain things by arguments with a store -/
def fItS (g : List D → Option (List D)) (t : FA) : FI := fun en S => match t en S with
  | some (.vals ds, S1) => (g ds).map fun xs => (.its (itL xs) xs.length, S1)
  | some (.er cl d, S1) => some (.er cl d, S1)
  | none => none
/-! ### list comprehensions -/
def tgS (tg : D → En → Option En) (tt : FT) (fe : FE) (en : En) (it : Wk) : Nat → Nat → So → Option (List D × So)
  | 0, i, S => match it S i with
    | some none => some ([], S)
    | _ => none
  | k + 1, i, S => match it S i with
    | some none => some ([], S)
    | some (some d) => (match tg d en with
      | none => none
      | some en1 => match tt en1 S with
        | some (.b true, S1) => (match fe en1 S1 with
          | some (.val .sh x, S2) => (tgS tg tt fe en it k (i + 1) S2).map fun y => (x :: y.1, y.2)
          | _ => none)
        | some (.b false, S1) => tgS tg tt fe en it k (i + 1) S1
        | _ => none)
    | none => none
def fLcS (it : FI) (tg : D → En → Option En) (tt : FT) (fe : FE) (vs : List Nat) : FE := fun en S => match it en S with
  | some (.its w n, S1) => if n ≤ 16777216 then (tgS tg tt fe (wipeE en vs) w n 0 S1).map fun y => (.val .nw (.lst y.1), y.2) else none
  | some (.er cl d, S1) => some (.er cl d, S1)
  | none => none
theorem SRS.wipe {K : PySem.W.Frag} (s : SRS K c l G H σ en S) (vs : List Nat) : SRS K c l G H (L2.wipe σ vs) (wipeE en vs) S :=
  ⟨s.sr.wipe vs, s.st, fun i d => wipe_no vs s.no i d⟩
where wipe_no {en : En} : ∀ (vs : List Nat), (∀ (i : Nat) (d : D), en[i]? ≠ some (some (Sl.ow d))) → ∀ (i : Nat) (d : D), (wipeE en vs)[i]? ≠ some (some (Sl.ow d))
  | [], h => h
  | v :: vs, h => fun i d => by
    unfold wipeE
    rw [List.getElem?_set]
    split
    · split <;> simp
    · exact wipe_no vs h i d
theorem SRS.sets {K : PySem.W.Frag} (s : SRS K c l G H σ en S) (ws : Ws) (h : ∀ w ∈ ws, Dt K ⟨c, l⟩ G w.2.1 w.2.2) : SRS K c l G H (setS σ ws) (setE en ws) S :=
  ⟨s.sr.sets ws h, s.st, setE_no ws s.no⟩
where setE_no : ∀ (ws : Ws) {en : En}, (∀ (i : Nat) (d : D), en[i]? ≠ some (some (Sl.ow d))) → ∀ (i : Nat) (d : D), (setE en ws)[i]? ≠ some (some (Sl.ow d))
  | [], _, h => h
  | w :: ws, en, h => setE_no ws (en := en.set w.1 (some (.sh w.2.2))) fun i d => by
    rw [List.getElem?_set]
    split
    · split <;> simp
    · exact h i d
end
end PD
/-! PE4: with a store: statements, loops, defs. -/
namespace PD
open PySem PySem.Spec PyProof.Rows L2
abbrev FS := En → So → Option (Out × So)
section
variable {K : PySem.W.Frag} {c : Cc} {W : WX} {l l1 l2 : List Addr} {G H G1 H1 G2 H2 : Hp} {S S1 S2 S' : So} {σ : L2.St} {en : En} {E : Ends}
def OQS (K : PySem.W.Frag) (c : Cc) (W : WX) (l : List Addr) (G H : Hp) (E : Ends) (S' : So) : Out → Prop
  | .nx en => ∀ σ l' G' H', Sp5 l G H l' G' H' → SRS K c l' G' H' σ en S' → E.nx σ H'
  | .bk en => ∀ σ l' G' H', Sp5 l G H l' G' H' → SRS K c l' G' H' σ en S' → E.bk σ H'
  | .ct en => ∀ σ l' G' H', Sp5 l G H l' G' H' → SRS K c l' G' H' σ en S' → E.ct σ H'
  | .rt k d => ∀ v l' G' H', Sp5 l G H l' G' H' → StR K ⟨c, l'⟩ G' H' S' → VS K c l' H G' H' k v d → E.rt v H'
  | .er en cl d => ∀ σ dx v l' G' H', Sp5 l G H l' G' H' → SRS K c l' G' H' σ en S' → H' dx = some (.xd [(Xd, v)]) → Dt K ⟨c, l'⟩ G' v d → W (.ref (c cl)) (some dx) σ H'
theorem OQS.on {o : Out} (t : Sp5 l G H l1 G1 H1) (h : OQS K c W l G H E S' o) : OQS K c W l1 G1 H1 E S' o := by
  cases o with
  | nx en => exact fun σ l' G' H' b => h σ l' G' H' (t.trans b)
  | bk en => exact fun σ l' G' H' b => h σ l' G' H' (t.trans b)
  | ct en => exact fun σ l' G' H' b => h σ l' G' H' (t.trans b)
  | rt k d => exact fun v l' G' H' b s q => h v l' G' H' (t.trans b) s (q.back t)
  | er en cl d => exact fun σ dx v l' G' H' b => h σ dx v l' G' H' (t.trans b)
def jS (K : PySem.W.Frag) (c : Cc) (W : WX) (F : FS) : TS := fun E σ H => ∃ l G en S o S', SRS K c l G H σ en S ∧ F en S = some (o, S') ∧ OQS K c W l G H E S' o
end
abbrev JS (X : Cx) (c : Cc) (W : WX) (st : Stmt) (F : FS) : Prop := PS X st (jS X.K c W F)
abbrev JSs (X : Cx) (c : Cc) (W : WX) (st : List Stmt) (F : FS) : Prop := PSs X st (jS X.K c W F)
section
variable {X : Cx} {c : Cc} {W : WX} {l : List Addr} {G H : Hp} {S S' : So} {σ : L2.St} {en : En} {E : Ends} {st : Stmt} {sts : List Stmt} {f : FE} {F F1 F2 : FS} {e : Expr} {pos : Pos} {tt : FT} {cc : Expr}
/-- the result, then the statement's end -/
def bOS (a : Option (R × So)) (en : En) (k : Kd → D → So → Option (Out × So)) : Option (Out × So) := match a with
  | some (.val kd d, S) => k kd d S
  | some (.er cl d, S) => some (.er en cl d, S)
  | none => none
theorem js_bind {k : Kd → D → So → Option (Out × So)} {o : Out} {T : VK} (s : SRS X.K c l G H σ en S) (e : bOS (f en S) en k = some (o, S')) (q : OQS X.K c W l G H E S' o)
    (cont : ∀ v kd d l1 G1 H1 S1, Sp5 l G H l1 G1 H1 → SRS X.K c l1 G1 H1 σ en S1 → VS X.K c l1 H G1 H1 kd v d → k kd d S1 = some (o, S') → OQS X.K c W l1 G1 H1 E S' o → T v H1) : jD X.K c W f σ H T := by
  cases hf : f en S with
  | none => rw [hf] at e; cases e
  | some a =>
    obtain ⟨a, S1⟩ := a
    rw [hf] at e
    refine ⟨l, G, en, S, a, S1, s, hf, ?_⟩
    cases a with
    | val kd d => exact fun v l1 G1 H1 t s1 vi => cont v kd d l1 G1 H1 S1 t (s.step t s1) vi e (q.on t)
    | er cl d => cases e; exact fun dx v l1 G1 H1 t s1 h1 h2 => q σ dx v l1 G1 H1 t (s.step t s1) h1 h2
def shO (k : D → So → Option (Out × So)) : Kd → D → So → Option (Out × So)
  | .sh, d, S => k d S
  | _, _, _ => none
theorem jsz_bind {k : D → So → Option (Out × So)} {o : Out} {T : VK} (s : SRS X.K c l G H σ en S) (e : bOS (f en S) en (shO k) = some (o, S')) (q : OQS X.K c W l G H E S' o)
    (cont : ∀ v d l1 G1 H1 S1, Sp5 l G H l1 G1 H1 → SRS X.K c l1 G1 H1 σ en S1 → Dt X.K ⟨c, l1⟩ G1 v d → k d S1 = some (o, S') → OQS X.K c W l1 G1 H1 E S' o → T v H1) : jZ X.K c W f σ H T := by
  cases hf : f en S with
  | none => rw [hf] at e; cases e
  | some a =>
    obtain ⟨a, S1⟩ := a
    rw [hf] at e
    refine ⟨l, G, en, S, a, S1, s, hf, ?_⟩
    cases a with
    | val kd d =>
      cases kd with
      | sh => exact fun v l1 G1 H1 t s1 vi => cont v d l1 G1 H1 S1 t (s.step t s1) vi e (q.on t)
      | nw => cases e
      | bo => cases e
    | er cl d => cases e; exact fun dx v l1 G1 H1 t s1 h1 h2 => q σ dx v l1 G1 H1 t (s.step t s1) h1 h2
theorem SRS.set {K : PySem.W.Frag} (s : SRS K c l G H σ en S) {i : Nat} {v : V} {d : D} (h : Dt K ⟨c, l⟩ G v d) : SRS K c l G H (σ.set i (some v)) (en.set i (some (.sh d))) S :=
  s.sets [(i, v, d)] fun w hw => by
    have : w = (i, v, d) := by simpa using hw
    subst this; exact h
/-- x = e -/
def fSetS (i : Nat) (f : FE) : FS := fun en S => bOS (f en S) en (shO fun d S1 => some (.nx (en.set i (some (.sh d))), S1))
theorem js_set {i : Nat} (h : PS X st (tAsg (jZ X.K c W f) (gName i))) : JS X c W st (fSetS i f) := by
  refine PS.imp h ?_
  rintro E σ H ⟨l, G, en, S, o, S', s, e, q⟩
  refine jsz_bind s e q fun v d l1 G1 H1 S1 t s1 dv e1 q1 => ?_
  cases e1
  exact q1 _ l1 G1 H1 (.refl s1.sr.sub) (s1.set dv)
def fAsgS (tg : D → En → Option En) (f : FE) : FS := fun en S => bOS (f en S) en (shO fun d S1 => (tg d en).map fun en1 => (.nx en1, S1))
theorem js_asg {g : TG} {tg : D → En → Option En} {ix : List Nat} (hg : ∀ l, DG X.K ⟨c, l⟩ g tg ix) (h : PS X st (tAsg (jZ X.K c W f) g)) : JS X c W st (fAsgS tg f) := by
  refine PS.imp h ?_
  rintro E σ H ⟨l, G, en, S, o, S', s, e, q⟩
  refine jsz_bind s e q fun v d l1 G1 H1 S1 t s1 dv e1 q1 => ?_
  obtain ⟨en1, e2, e3⟩ := Option.map_eq_some_iff.mp e1
  cases e3
  refine hg l1 v d en en1 σ G1 H1 _ s1.sr.sub dv e2 fun ws ew _ hw => ?_
  subst ew
  exact q1 _ l1 G1 H1 (.refl s1.sr.sub) (s1.sets ws hw)
def fDropS (f : FE) : FS := fun en S => bOS (f en S) en fun _ _ S1 => some (.nx en, S1)
theorem js_drop (h : PS X st (tDrop (jD X.K c W f))) : JS X c W st (fDropS f) := by
  refine PS.imp h ?_
  rintro E σ H ⟨l, G, en, S, o, S', s, e, q⟩
  refine js_bind s e q fun v kd d l1 G1 H1 S1 t s1 vi e1 q1 => ?_
  cases e1
  exact q1 σ l1 G1 H1 (.refl s1.sr.sub) s1
def fRetS (f : FE) : FS := fun en S => bOS (f en S) en fun kd d S1 => some (.rt kd d, S1)
theorem js_ret (he : JE X c W e f) : JS X c W (.Return (some e) pos) (fRetS f) := by
  refine PS.imp (ps_ret he) ?_
  rintro E σ H ⟨l, G, en, S, o, S', s, e, q⟩
  refine js_bind s e (q) fun v kd d l1 G1 H1 S1 t s1 vi e1 q1 => ?_
  cases e1
  exact q v l1 G1 H1 t s1.st vi
def fRetNS : FS := fun _ S => some (.rt .sh .non, S)
def fNxS : FS := fun en S => some (.nx en, S)
theorem jss_nil : JSs X c W [] fNxS := PSs.imp pss_nil fun E σ H ⟨l, G, en, S, o, S', s, e, q⟩ => by
  cases e
  exact q σ l G H (.refl s.sr.sub) s
def fBkS : FS := fun en S => some (.bk en, S)
def fCtS : FS := fun en S => some (.ct en, S)
def fSeqS (F1 F2 : FS) : FS := fun en S => match F1 en S with
  | some (.nx en1, S1) => F2 en1 S1
  | o => o
theorem jss_cons (h1 : JS X c W st F1) (h2 : JSs X c W sts F2) : JSs X c W (st :: sts) (fSeqS F1 F2) := by
  refine PSs.imp (pss_cons h1 h2) ?_
  rintro E σ H ⟨l, G, en, S, o, S', s, e, q⟩
  unfold fSeqS at e
  cases hf : F1 en S with
  | none => rw [hf] at e; cases e
  | some o1 =>
    obtain ⟨o1, S1⟩ := o1
    rw [hf] at e
    refine ⟨l, G, en, S, o1, S1, s, hf, ?_⟩
    cases o1 with
    | nx en1 => exact fun σ1 l1 G1 H1 t s1 => ⟨l1, G1, en1, S1, o, S', s1, e, q.on t⟩
    | rt k d => cases e; exact q
    | bk en1 => cases e; exact q
    | ct en1 => cases e; exact q
    | er en1 cl d => cases e; exact q
theorem jss_one (h : JS X c W st F) : JSs X c W [st] F := pss_one h
def fIfSS (tt : FT) (F1 F2 : FS) : FS := fun en S => match tt en S with
  | some (.b true, S1) => F1 en S1
  | some (.b false, S1) => F2 en S1
  | some (.er cl d, S1) => some (.er en cl d, S1)
  | none => none
theorem js_if {a b : List Stmt} (hc : JT X c W cc tt) (ha : JSs X c W a F1) (hb : JSs X c W b F2) : JS X c W (.If cc a b pos) (fIfSS tt F1 F2) := by
  refine PS.imp (ps_if hc ha hb) ?_
  rintro E σ H ⟨l, G, en, S, o, S', s, e, q⟩
  unfold fIfSS at e
  cases ht : tt en S with
  | none => rw [ht] at e; cases e
  | some x =>
    obtain ⟨x, S1⟩ := x
    rw [ht] at e
    refine ⟨l, G, en, S, x, S1, s, ht, ?_⟩
    cases x with
    | b k =>
      intro l1 G1 H1 t s1
      cases k with
      | true => rw [if_pos rfl]; exact ⟨l1, G1, en, S1, o, S', s.step t s1, e, q.on t⟩
      | false => rw [if_neg Bool.false_ne_true]; exact ⟨l1, G1, en, S1, o, S', s.step t s1, e, q.on t⟩
    | er cl d => cases e; exact fun dx v l1 G1 H1 t s1 h1 h2 => q σ dx v l1 G1 H1 t (s.step t s1) h1 h2

/-! ### for -/
def forS (tg : D → En → Option En) (F : FS) (it : Wk) : Nat → Nat → En → So → Option (Out × So)
  | 0, i, en, S => match it S i with
    | some none => some (.nx en, S)
    | _ => none
  | k + 1, i, en, S => match it S i with
    | some none => some (.nx en, S)
    | some (some d) => (match tg d en with
      | none => none
      | some en1 => match F en1 S with
        | some (.nx en2, S2) => forS tg F it k (i + 1) en2 S2
        | some (.ct en2, S2) => forS tg F it k (i + 1) en2 S2
        | some (.bk en2, S2) => some (.nx en2, S2)
        | o => o)
    | none => none
def fForS (it : FI) (tg : D → En → Option En) (F : FS) : FS := fun en S => match it en S with
  | some (.its w n, S1) => forS tg F w n 0 en S1
  | some (.er cl d, S1) => some (.er en cl d, S1)
  | none => none
theorem forS_turn {tg : D → En → Option En} {F : FS} {it : Wk} {k i : Nat} {en : En} {S : So} {y : Out × So} (h : forS tg F it k i en S = some y) :
    (it S i = some none ∧ y = (.nx en, S)) ∨ ∃ d en1 o1 S1 k', k = k' + 1 ∧ it S i = some (some d) ∧ tg d en = some en1 ∧ F en1 S = some (o1, S1) ∧
      (match o1 with
        | .nx en2 => forS tg F it k' (i + 1) en2 S1 = some y
        | .ct en2 => forS tg F it k' (i + 1) en2 S1 = some y
        | .bk en2 => y = (.nx en2, S1)
        | o => y = (o, S1)) := by
  cases k with
  | zero =>
    unfold forS at h
    split at h
    · rename_i hz; cases h; exact .inl ⟨hz, rfl⟩
    · cases h
  | succ k =>
    unfold forS at h
    split at h
    · rename_i hz; cases h; exact .inl ⟨hz, rfl⟩
    · rename_i d hz
      split at h
      · cases h
      · rename_i en1 htg
        refine .inr ⟨d, en1, ?_⟩
        cases hF : F en1 S with
        | none => rw [hF] at h; cases h
        | some o1 =>
          obtain ⟨o1, S1⟩ := o1
          rw [hF] at h
          refine ⟨o1, S1, k, rfl, hz, htg, rfl, ?_⟩
          cases o1 with
          | nx en2 => exact h
          | ct en2 => exact h
          | bk en2 => cases h; rfl
          | rt kd d => cases h; rfl
          | er en2 cl d => cases h; rfl
    · cases h
/-- the loop itself, from the walk's start -/
theorem for_of {g : TG} {tg : D → En → Option En} {ix : List Nat} {w : Wk} {n : Nat} {J : It} {o : Out} (hd : ∀ l, DG X.K ⟨c, l⟩ g tg ix) (s : SRS X.K c l G H σ en S) (hJ : GivesS X.K c J l G H w) (e : forS tg F w n 0 en S = some (o, S')) (q : OQS X.K c W l G H E S' o) :
    ∃ Wd : Nat → Nat → L2.St → Hp → Prop, (∃ m, Wd 0 m σ H) ∧ ∀ i m σ H, Wd i m σ H →
      (J.stop i H ∧ E.nx σ H) ∨ (J.go i H ∧ ∃ N : L2.St → Hp → Prop, (∀ σ' H', N σ' H' → ∃ m', m' < m ∧ Wd (i + 1) m' σ' H') ∧ ∀ x H', J.yld i H x H' → g x σ H' fun σ2 H2 => jS X.K c W F { E with nx := N, ct := N, bk := E.nx } σ2 H2) := by
  refine ⟨fun i m σ' H' => ∃ l' G' en' S2, Sp5 l G H l' G' H' ∧ SRS X.K c l' G' H' σ' en' S2 ∧ forS tg F w m i en' S2 = some (o, S'), ⟨n, l, G, en, S, .refl s.sr.sub, s, e⟩, ?_⟩
  rintro i m σ' H' ⟨l', G', en', S2, t', s', hf⟩
  obtain ⟨hgo, hstop⟩ := hJ l' G' H' S2 t' s'.st i
  rcases forS_turn hf with ⟨hz, ey⟩ | ⟨d, en1, o1, S3, m', rfl, hz, htg, hF, hy⟩
  · cases ey
    exact .inl ⟨hstop hz, q σ' l' G' H' t' s'⟩
  · obtain ⟨h1, h2⟩ := hgo d hz
    refine .inr ⟨h1, fun σ2 H2 => ∃ l2 G2 en2 S4, Sp5 l G H l2 G2 H2 ∧ SRS X.K c l2 G2 H2 σ2 en2 S4 ∧ forS tg F w m' (i + 1) en2 S4 = some (o, S'),
      fun σ2 H2 ⟨l2, G2, en2, S4, a1, a2, a3⟩ => ⟨m', by omega, l2, G2, en2, S4, a1, a2, a3⟩, fun x H2 y => ?_⟩
    obtain ⟨G2, st2, dx⟩ := h2 x H2 y
    have t2 : Sp5 l' G' H' l' G2 H2 := .of st2
    have s2 := s'.step t2 (s'.st.stp st2)
    refine hd l' x d en' en1 σ' G2 H2 _ t2.sub dx htg fun ws hws _ hw => ?_
    have s3 : SRS X.K c l' G2 H2 (setS σ' ws) en1 S2 := by rw [hws]; exact s2.sets ws hw
    refine ⟨l', G2, en1, S2, o1, S3, s3, hF, ?_⟩
    have t3 := t'.trans t2
    cases o1 with
    | nx en2 => exact fun σ5 l5 G5 H5 b s5 => ⟨l5, G5, en2, S3, t3.trans b, s5, hy⟩
    | ct en2 => exact fun σ5 l5 G5 H5 b s5 => ⟨l5, G5, en2, S3, t3.trans b, s5, hy⟩
    | bk en2 => cases hy; exact fun σ5 l5 G5 H5 b s5 => q σ5 l5 G5 H5 (t3.trans b) s5
    | rt k d => cases hy; exact q.on t3
    | er en2 cl d => cases hy; exact q.on t3
theorem js_for {tgt iter : Expr} {body : List Stmt} {it : FI} {g : TG} {tg : D → En → Option En} {ix : List Nat} (hp : PassesOwn (model X.prog X.w) X.A X.env X.xe) (hc : X.calm = true) (hi : JI X c W tgt iter it) (hg : PG X tgt g) (hd : ∀ l, DG X.K ⟨c, l⟩ g tg ix) (hb : JSs X c W body F)
    (hs : ∀ x, foldedSetIterable iter X.env x = pure x := by intro _; rfl) : JS X c W (.For tgt iter body [] pos) (fForS it tg F) := by
  refine PS.imp (ps_for hp hc hi hg hb hs) ?_
  rintro E σ H ⟨l, G, en, S, o, S', s, e, q⟩
  unfold fForS at e
  cases ht : it en S with
  | none => rw [ht] at e; cases e
  | some y =>
    obtain ⟨y, S1⟩ := y
    rw [ht] at e
    refine ⟨l, G, en, S, y, S1, s, ht, ?_⟩
    cases y with
    | er cl d => cases e; exact fun dx v l1 G1 H1 t s1 h1 h2 => q σ dx v l1 G1 H1 t (s.step t s1) h1 h2
    | its w n => exact fun J l1 G1 H1 t s1 hJ => for_of hd (s.step t s1) hJ e (q.on t)

/-! ### what stands at a place is changed -/
/-- one place is written -/
theorem StR.put {K : PySem.W.Frag} {n : Nat} {p : Addr} {o : HO} {z : Cl} (s : StR K ⟨c, l⟩ G H S) (hl : l[n]? = some p) (cr : CR K ⟨c, l⟩ G (upd H p o) p z) : StR K ⟨c, l⟩ G (upd H p o) (S.set n z) := by
  refine ⟨by rw [List.length_set]; exact s.len, s.nd, fun m q y e1 e2 => ?_⟩
  have e1' : l[m]? = some q := e1
  by_cases h : n = m
  · subst h
    rw [hl] at e1'; cases e1'
    rw [List.getElem?_set_self (by rw [← show l.length = S.length from s.len]; exact (List.getElem?_eq_some_iff.mp hl).1)] at e2
    cases e2
    exact cr
  · rw [List.getElem?_set_ne h] at e2
    have hne : q ≠ p := by
      rintro rfl
      exact h ((List.getElem?_inj (List.getElem?_eq_some_iff.mp hl).1 s.nd).mp (hl.trans e1'.symm))
    exact (s.at_ m q y e1 e2).same (Same.refl _) (fun g _ => g) fun o' e => by rw [upd_ne hne]; exact e
theorem Sp5.put {p : Addr} {o u : HO} (sub : Same G H) (hl : p ∈ l) (gn : G p = none) (hp : H p = some u) (hu : ∀ od w, u ≠ .frz od w) : Sp5 l G H l G (upd H p o) :=
  ⟨Same.refl _, fun a x e n => by rw [upd_ne (by rintro rfl; exact n hl)]; exact e, fun a n => by
    by_cases q : a = p
    · subst q; rw [upd_same]; simp
    · rw [upd_ne q]; exact n, same_upd2 sub gn, fun _ h => .inl h, ⟨[], by simp⟩, fun _ h => .inl h, fun a od w e => by
    by_cases q : a = p
    · subst q; rw [hp] at e; cases e; exact absurd rfl (hu od w)
    · rw [upd_ne q]; exact e⟩
def lstAt {α : Type} (S : So) (x : D) (k : Nat → List D → Option α) : Option α := match x with
  | .loc n => (match S[n]? with
    | some (.lst xs) => k n xs
    | _ => none)
  | _ => none
theorem lstAt_some {α : Type} {S : So} {x : D} {k : Nat → List D → Option α} {y : α} (h : lstAt S x k = some y) : ∃ n xs, x = .loc n ∧ S[n]? = some (.lst xs) ∧ k n xs = some y := by
  unfold lstAt at h
  split at h
  · split at h
    · rename_i hz; exact ⟨_, _, rfl, hz, h⟩
    · cases h
  · cases h
/-- a method of a list at a place: by the list's data and the arguments', the new data and the result -/
def fMtS (op : List D → List D → Option (List D × D)) (fa : FE) (t : FA) : FE := fun en S => bJ (fa en S) fun _ x S1 => lstAt S1 x fun n _ => bAS (t en S1) fun ds S2 => lstAt S2 x fun n xs => (op xs ds).map fun y => (.val .sh y.2, S2.set n (.lst y.1))
def MtOp (r : V → List V → Hp → VK → Prop) (op : List D → List D → Option (List D × D)) : Prop := ∀ {K : PySem.W.Frag} {cn : Cn} {G H : Hp} {p : Addr} {vs us : List V} {xs ds ys : List D} {d : D} {Q : VK}, Same G H → H p = some (.lst vs) → DtL K cn G vs xs → DtL K cn G us ds → op xs ds = some (ys, d) →
  (∀ vs' v, DtL K cn G vs' ys → Dt K cn G v d → Q v (upd H p (.lst vs'))) → r (.ref p) us H Q
theorem vs_loc {K : PySem.W.Frag} {k : Kd} {H0 : Hp} {v : V} {n : Nat} (h : VS K c l H0 G H k v (.loc n)) : Dt K ⟨c, l⟩ G v (.loc n) := by
  cases k with
  | sh => exact h
  | nw => obtain ⟨_, _, _, _, _, tp⟩ := h; exact tp.elim
  | bo => exact h.elim
theorem mtS_of {r : V → List V → Hp → VK → Prop} {op : List D → List D → Option (List D × D)} (hm : MtOp r op) {fa : FE} {t : FA} {σ : L2.St} {H : Hp} {Q : VK} (h : jD X.K c W (fMtS op fa t) σ H Q) : tBM X.K "list" r (jD X.K c W fa) (jA X.K c W t) σ H Q := by
  obtain ⟨l, G, en, S, r', S', sr, e, q⟩ := h
  refine jv_bind sr e q fun x kx dx l1 G1 H1 S1 t1 sr1 hx e1 q1 => ?_
  obtain ⟨n, xs, rfl, hz, e2⟩ := lstAt_some e1
  have hsh := vs_loc hx
  obtain ⟨p, rfl, hl, g, vs, hv, tl⟩ := sr1.st.loc hsh hz
  refine ⟨.inl ⟨rfl, vs, SqL.of hv⟩, ja_bind sr1 e2 q1 fun us ds l2 G2 H2 S2 t2 sr2 hu e3 q2 => ?_⟩
  obtain ⟨n', xs', en', hz', e4⟩ := lstAt_some e3
  cases en'
  obtain ⟨y, hy, e5⟩ := Option.map_eq_some_iff.mp e4
  cases e5
  obtain ⟨p', ep, hl', g', vs', hv', tl'⟩ := sr2.st.loc (hsh.on t2) hz'
  cases ep
  obtain ⟨ys, d⟩ := y
  refine hm sr2.sr.sub hv' tl' hu hy fun vs2 v t3 dv => ?_
  have cr : CR X.K ⟨c, l2⟩ G2 (upd H2 p (.lst vs2)) p (.lst ys) := ⟨g', vs2, upd_same, t3⟩
  exact q2 v l2 G2 _ (.put sr2.sr.sub (List.mem_of_getElem? hl') g' hv' (fun _ _ z => by cases z)) (sr2.st.put hl' cr) dv
theorem je_mt {id : String} {name : Str} {r : V → List V → Hp → VK → Prop} {op : List D → List D → Option (List D × D)} (hm : MtOp r op) {o : Expr} {es : List Expr} {fa : FE} {t : FA} {apos cpos : Pos} (h : PE X (.Call (.Attribute o name apos) (e :: es) [] cpos) (tBM X.K "list" r (jD X.K c W fa) (jA X.K c W t))) : JE X c W (.Call (.Attribute o name apos) (e :: es) [] cpos) (fMtS op fa t) :=
  PE.imp h fun _ _ _ q => mtS_of hm q
def fMt0S (op : List D → List D → Option (List D × D)) (fa : FE) : FE := fun en S => bJ (fa en S) fun _ x S1 => lstAt S1 x fun n xs => (op xs []).map fun y => (.val .sh y.2, S1.set n (.lst y.1))
def opApp : List D → List D → Option (List D × D)
  | xs, [d] => if xs.length < 16777216 then some (xs ++ [d], .non) else none
  | _, _ => none
theorem mo_app : MtOp rAppend opApp := fun {K cn G H p vs us xs ds ys d Q} sub hp t u e k => by
  unfold opApp at e
  split at e
  · rename_i d'
    split at e
    · rename_i hl
      cases e
      cases u with
      | cons h r =>
        cases r
        exact ⟨p, vs, _, rfl, rfl, hp, by rw [t.length, szl]; exact hl, k _ _ (t.append (.one h)) .non⟩
    · cases e
  · cases e
/-! ### a[k] = e -/
def putC (v : D) (k : D) : Cl → Option Cl
  | .lst ds => (match k with
    | .int i => (ixN ds.length i).map fun j => .lst (ds.set j v)
    | _ => none)
  | .dct dks => if dks.length < 16777216 then (keyD k).map fun k => .dct (putD dks k v) else none
  | _ => none
def locC (S : So) (x : D) (k : Nat → Cl → Option (Out × So)) : Option (Out × So) := match x with
  | .loc n => (match S[n]? with
    | some z => k n z
    | none => none)
  | _ => none
theorem locC_some {S : So} {x : D} {k : Nat → Cl → Option (Out × So)} {y : Out × So} (h : locC S x k = some y) : ∃ n z, x = .loc n ∧ S[n]? = some z ∧ k n z = some y := by
  unfold locC at h
  split at h
  · split at h
    · rename_i hz; exact ⟨_, _, rfl, hz, h⟩
    · cases h
  · cases h
/-- e first, then a, then k -/
def fPutS (fa fk f : FE) : FS := fun en S => bOS (f en S) en (shO fun v S1 => bOS (fa en S1) en fun _ x S2 => bOS (fk en S2) en fun _ k S3 => locC S3 x fun n z => (putC v k z).map fun z' => (.nx en, S3.set n z'))
theorem js_put {fa fk : FE} (h : PS X st (tAsg (jZ X.K c W f) (gSub (jD X.K c W fa) (jD X.K c W fk) rSet))) : JS X c W st (fPutS fa fk f) := by
  refine PS.imp h ?_
  rintro E σ H ⟨l, G, en, S, o, S', s, e, q⟩
  refine jsz_bind s e q fun v d l1 G1 H1 S1 t1 s1 dv e1 q1 => ?_
  refine js_bind s1 e1 q1 fun x kx dx l2 G2 H2 S2 t2 s2 vx e2 q2 => ?_
  refine js_bind s2 e2 q2 fun y ky dy l3 G3 H3 S3 t3 s3 vy e3 q3 => ?_
  obtain ⟨n, z, rfl, hz, e4⟩ := locC_some e3
  obtain ⟨z', hz', e5⟩ := Option.map_eq_some_iff.mp e4
  cases e5
  have hx := (vs_loc vx).on t3
  have hv := dv.on (t2.trans t3)
  have hy0 : ∀ k, keyD dy = some k → y = kV k := fun k hk => key_of_d (db_vs s3.st vy) (by
    cases dy with
    | loc n => cases hk
    | _ => exact hk)
  obtain ⟨p, rfl, hl, cr⟩ := s3.st.loc hx hz
  have hmem := List.mem_of_getElem? hl
  unfold putC at hz'
  cases z with
  | lst ds =>
    obtain ⟨g, vs, hp, tl⟩ := cr
    cases dy with
    | int i =>
      obtain ⟨m, hm, rfl⟩ := Option.map_eq_some_iff.mp hz'
      have hy : y = .int i := (db_vs (d := .int i) s3.st vy).int
      refine .inl ⟨p, vs, _, m, rfl, hy, hp, by rw [tl.length]; exact hm, ?_⟩
      have cr : CR X.K ⟨c, l3⟩ G3 (upd H3 p (.lst (vs.set m v))) p (.lst (ds.set m d)) := ⟨g, _, upd_same, tl.set m hv⟩
      have t4 : Sp5 l3 G3 H3 l3 G3 (upd H3 p (.lst (vs.set m v))) := .put s3.sr.sub hmem g hp (fun _ _ z => by cases z)
      exact q3 σ l3 G3 _ t4 (s3.step t4 (s3.st.put hl cr))
    | _ => cases hz'
  | dct dks =>
    obtain ⟨g, kvs, hp, ek, tl⟩ := cr
    replace hz' : (if dks.length < 16777216 then (keyD dy).map fun k => Cl.dct (putD dks k d) else none) = some z' := hz'
    split at hz'
    · rename_i hlen
      obtain ⟨k', hk, rfl⟩ := Option.map_eq_some_iff.mp hz'
      have hy := hy0 k' hk
      obtain ⟨b1, b2⟩ := putK_of (k := k') hv ek tl
      have hlen2 : kvs.length = dks.length := by
        have := congrArg List.length ek
        rw [List.length_map, List.length_map] at this
        exact this
      refine .inr ⟨p, _, rfl, .inl ⟨kvs, k', hp, hy, by rw [hlen2, szl]; exact hlen, rfl⟩, ?_⟩
      have cr : CR X.K ⟨c, l3⟩ G3 (upd H3 p (.dK (putK kvs k' v))) p (.dct (putD dks k' d)) := ⟨g, _, upd_same, b1, b2⟩
      have t4 : Sp5 l3 G3 H3 l3 G3 (upd H3 p (.dK (putK kvs k' v))) := .put s3.sr.sub hmem g hp (fun _ _ z => by cases z)
      exact q3 σ l3 G3 _ t4 (s3.step t4 (s3.st.put hl cr))
    · cases hz'
  | _ => cases hz'

/-! ### defs -/
def runS (F : FS) (m : Nat) (ds : List D) (S : So) : Option (R × So) := match F (startE m ds) S with
  | some (.nx _, S1) => some (.val .sh .non, S1)
  | some (.rt k d, S1) => some (.val k d, S1)
  | some (.er _ cl d, S1) => some (.er cl d, S1)
  | _ => none
/-- THE RULE of a def that changes the store -/
theorem fn_S {P : Program} {w : World} {K : PySem.W.Frag} {mg : Str → Option Value} {base : Heap} {x qual : Str} {fst : Stmt} {fa : Addr} {fd : FuncData} {N ps : List Str} {k n : Nat} {Fd : FF} {FB : FS} (Fn : Fun K x qual fst fa fd) (Sc : FnScope N ps (defScope fst)) (hn : ps.length = n)
    (hbody : ∀ (cdv : Value) (A : Around) (outer : List Env) (s : Shared) (H : Hp) (E : XK), Room k (A.deeper (envOfC qual (defScope fst) s.heap.objs.size fa cdv)) →
      Takes (cxOf (L2.CX P w) P w K mg base N qual (defScope fst) fa cdv A outer s H E) (fun c d _ H => E c d H) →
      JSs (cxOf (L2.CX P w) P w K mg base N qual (defScope fst) fa cdv A outer s H E) c (fun c d _ H => E c d H) (defBody fst) FB)
    (hF : ∀ ds S r, ds.length = n → Fd ds S = some r → runS FB N.length ds S = some r) : FnOk P w K mg base (L2.CX P w) (k + 1) fa fd ps (spS K c n Fd) := by
  refine Fn.okX Sc (fun vs H Q E h => by rw [spS_len vs H Q E h, hn]) fun cdv A outer s H vs Q E hr h => ?_
  obtain ⟨l, G, S, ds, r, S', sg, st, hv, hl, e, q⟩ := h
  refine ⟨_, hbody cdv A outer s H E hr (takes_of rfl rfl rfl rfl), ?_⟩
  have hpl : ps.length ≤ N.length := by have := congrArg List.length Sc.pre; rw [List.length_take] at this; omega
  have e2 := hF ds S _ hl e
  unfold runS at e2
  have s0 : SRS K c l G H (L2.start N vs) (startE N.length ds) S := ⟨start_sr sg hv (by rw [hv.length, hl, ← hn]; exact hpl), st, fun i d => start_no _ _ _ _⟩
  cases hb : FB (startE N.length ds) S with
  | none => rw [hb] at e2; cases e2
  | some o =>
    obtain ⟨o, S1⟩ := o
    rw [hb] at e2
    refine ⟨l, G, startE N.length ds, S, o, S1, s0, hb, ?_⟩
    cases o with
    | nx en => cases e2; exact fun σ l' G' H' t s' => q .non l' G' H' t s'.st .non
    | rt k d => cases e2; exact fun v l' G' H' t s' vi => q v l' G' H' t s' vi
    | er en c d => cases e2; exact fun σ dx v l' G' H' t s' h1 h2 => q dx v l' G' H' t s'.st h1 h2
    | bk en => cases e2
    | ct en => cases e2
end
end PD
/-! PE5: plain expressions over the store as it stands: all that is reached is read as plain data, a plain value comes out. -/
namespace PD
open PySem PySem.Spec PyProof.Rows L2
mutual
def snapD (r : Nat → Option D) : D → Option D
  | .loc n => r n
  | .lst xs => (snapL r xs).map .lst
  | .tup xs => (snapL r xs).map .tup
  | .dct kvs => (snapK r kvs).map .dct
  | .ins c fs => (snapF r fs).map (.ins c)
  | .non => some .non
  | .bl b => some (.bl b)
  | .int i => some (.int i)
  | .str x => some (.str x)
  | .ty n => some (.ty n)
  | .cl c => some (.cl c)
  | .scr ns => some (.scr ns)
def snapL (r : Nat → Option D) : List D → Option (List D)
  | [] => some []
  | d :: t => match snapD r d with
    | some x => (snapL r t).map (x :: ·)
    | none => none
def snapK (r : Nat → Option D) : List (Key × D) → Option (List (Key × D))
  | [] => some []
  | (k, d) :: t => match snapD r d with
    | some x => (snapK r t).map ((k, x) :: ·)
    | none => none
def snapF (r : Nat → Option D) : List (Str × D) → Option (List (Str × D))
  | [] => some []
  | (k, d) :: t => match snapD r d with
    | some x => (snapF r t).map ((k, x) :: ·)
    | none => none
end
def snapC (r : Nat → Option D) : Cl → Option D
  | .lst ds => (snapL r ds).map .lst
  | .dct kvs => (snapK r kvs).map .dct
  | .lk kvs => (snapK r kvs).map .dct
  | .ins c fs => (snapF r fs).map (.ins c)
  | .dead => none
def snapN (S : So) : Nat → Nat → Option D
  | 0, _ => none
  | k + 1, n => match S[n]? with
    | some z => snapC (snapN S k) z
    | none => none
def snapE (fu : Nat) (S : So) (en : En) : En := en.map fun o => match o with
  | some (.sh d) => (snapD (snapN S fu) d).map .sh
  | _ => none
theorem snapK_split {r : Nat → Option D} : ∀ {kvs kvs' : List (Key × D)}, snapK r kvs = some kvs' → kvs'.map (·.1) = kvs.map (·.1) ∧ snapL r (kvs.map (·.2)) = some (kvs'.map (·.2))
  | [], _, e => by unfold snapK at e; cases e; exact ⟨rfl, by rw [List.map_nil]; unfold snapL; rfl⟩
  | (k, d) :: t, kvs', e => by
    unfold snapK at e
    split at e
    · rename_i x hx
      obtain ⟨t', ht, rfl⟩ := Option.map_eq_some_iff.mp e
      obtain ⟨h1, h2⟩ := snapK_split ht
      refine ⟨by simp [h1], ?_⟩
      rw [List.map_cons, List.map_cons]
      unfold snapL
      rw [hx, h2]
      rfl
    · cases e
theorem snapF_split {r : Nat → Option D} : ∀ {kvs kvs' : List (Str × D)}, snapF r kvs = some kvs' → kvs'.map (·.1) = kvs.map (·.1) ∧ snapL r (kvs.map (·.2)) = some (kvs'.map (·.2))
  | [], _, e => by unfold snapF at e; cases e; exact ⟨rfl, by rw [List.map_nil]; unfold snapL; rfl⟩
  | (k, d) :: t, kvs', e => by
    unfold snapF at e
    split at e
    · rename_i x hx
      obtain ⟨t', ht, rfl⟩ := Option.map_eq_some_iff.mp e
      obtain ⟨h1, h2⟩ := snapF_split ht
      refine ⟨by simp [h1], ?_⟩
      rw [List.map_cons, List.map_cons]
      unfold snapL
      rw [hx, h2]
      rfl
    · cases e
section
variable {K : PySem.W.Frag} {c : Cc} {l : List Addr} {G G' H : Hp} {S : So} {r : Nat → Option D}
mutual
theorem snap_dt (sg : Same G G') (hr : ∀ n a d', l[n]? = some a → r n = some d' → Dt K ⟨c, l⟩ G' (.ref a) d') : ∀ {v : V} {d d' : D}, Dt K ⟨c, l⟩ G v d → snapD r d = some d' → Dt K ⟨c, l⟩ G' v d'
  | _, _, _, .non, e => by unfold snapD at e; cases e; exact .non
  | _, _, _, .bl b, e => by unfold snapD at e; cases e; exact .bl b
  | _, _, _, .int i, e => by unfold snapD at e; cases e; exact .int i
  | _, _, _, .str x, e => by unfold snapD at e; cases e; exact .str x
  | _, _, _, .ty n, e => by unfold snapD at e; cases e; exact .ty n
  | _, _, _, .cl n, e => by unfold snapD at e; cases e; exact .cl n
  | _, _, _, .loc h, e => by unfold snapD at e; exact hr _ _ _ h e
  | _, _, _, .scr h, e => by unfold snapD at e; cases e; exact .scr (sg.seq h)
  | _, _, _, .lst h t, e => by
    unfold snapD at e
    obtain ⟨x, h1, rfl⟩ := Option.map_eq_some_iff.mp e
    exact .lst (sg _ _ h) (snap_dtl sg hr t h1)
  | _, _, _, .tup h t, e => by
    unfold snapD at e
    obtain ⟨x, h1, rfl⟩ := Option.map_eq_some_iff.mp e
    exact .tup (sg _ _ h) (snap_dtl sg hr t h1)
  | _, _, _, .dct h k t, e => by
    unfold snapD at e
    obtain ⟨x, h1, rfl⟩ := Option.map_eq_some_iff.mp e
    obtain ⟨h2, h3⟩ := snapK_split h1
    exact .dct (sg _ _ h) (by rw [k, h2]) (snap_dtl sg hr t h3)
  | _, _, _, .ins h k t, e => by
    unfold snapD at e
    obtain ⟨x, h1, rfl⟩ := Option.map_eq_some_iff.mp e
    obtain ⟨h2, h3⟩ := snapF_split h1
    exact .ins (sg _ _ h) (by rw [k, h2]) (snap_dtl sg hr t h3)
theorem snap_dtl (sg : Same G G') (hr : ∀ n a d', l[n]? = some a → r n = some d' → Dt K ⟨c, l⟩ G' (.ref a) d') : ∀ {vs : List V} {ds ds' : List D}, DtL K ⟨c, l⟩ G vs ds → snapL r ds = some ds' → DtL K ⟨c, l⟩ G' vs ds'
  | _, _, _, .nil, e => by unfold snapL at e; cases e; exact .nil
  | _, _, _, .cons h t, e => by
    unfold snapL at e
    split at e
    · rename_i x hx
      obtain ⟨y, hy, rfl⟩ := Option.map_eq_some_iff.mp e
      exact .cons (snap_dt sg hr h hx) (snap_dtl sg hr t hy)
    · cases e
end
/-- all that stands at the places is seen as it stands -/
def seeAll (l : List Addr) (G H : Hp) : Hp := fun a => if a ∈ l then H a else G a
theorem see_g (s : Same G H) : Same G (seeAll l G H) := fun a o e => by
  unfold seeAll
  split
  · exact s a o e
  · exact e
theorem see_h (s : Same G H) : Same (seeAll l G H) H := fun a o e => by
  unfold seeAll at e
  split at e
  · exact e
  · exact s a o e
theorem see_at {a : Addr} (h : a ∈ l) : seeAll l G H a = H a := by unfold seeAll; rw [if_pos h]
theorem snap_loc (s : StR K ⟨c, l⟩ G H S) (sub : Same G H) (nod : ∀ (n : Nat) (dks : List (Key × D)), S[n]? ≠ some (.dct dks)) : ∀ (k n : Nat) (a : Addr) (d' : D), l[n]? = some a → snapN S k n = some d' → Dt K ⟨c, l⟩ (seeAll l G H) (.ref a) d'
  | 0, n, a, d', hl, e => by unfold snapN at e; cases e
  | k + 1, n, a, d', hl, e => by
    unfold snapN at e
    have ih := snap_loc s sub nod k
    have hm := List.mem_of_getElem? hl
    split at e
    · rename_i z hz
      have cr := s.at_ n a z hl hz
      unfold snapC at e
      cases z with
      | lst ds =>
        obtain ⟨x, h1, rfl⟩ := Option.map_eq_some_iff.mp e
        obtain ⟨g, vs, hv, t⟩ := cr
        exact .lst (by rw [see_at hm]; exact hv) (snap_dtl (see_g sub) ih t h1)
      | dct ds => exact absurd hz (nod n ds)
      | lk ds =>
        obtain ⟨x, h1, rfl⟩ := Option.map_eq_some_iff.mp e
        obtain ⟨g, od, vs, hv, hk, t⟩ := cr
        obtain ⟨h2, h3⟩ := snapK_split h1
        exact .dct (by rw [see_at hm]; exact hv) (by rw [hk, h2]) (snap_dtl (see_g sub) ih t h3)
      | ins ci ds =>
        obtain ⟨x, h1, rfl⟩ := Option.map_eq_some_iff.mp e
        obtain ⟨g, dx, vs, hv, hk, t⟩ := cr
        obtain ⟨h2, h3⟩ := snapF_split h1
        exact .ins (by rw [see_at hm]; exact hv) (by rw [hk, h2]) (snap_dtl (see_g sub) ih t h3)
      | dead => cases e
    · cases e
theorem snap_sr {σ : L2.St} {en : En} (fu : Nat) (s : SRS K c l G H σ en S) (nod : ∀ (n : Nat) (dks : List (Key × D)), S[n]? ≠ some (.dct dks)) : SR K ⟨c, l⟩ (seeAll l G H) H σ (snapE fu S en) := by
  refine ⟨see_h s.sr.sub, fun i x e => ?_, by unfold snapE; rw [List.length_map]; exact s.sr.len⟩
  unfold snapE at e
  rw [List.getElem?_map] at e
  obtain ⟨o, ho, e2⟩ := Option.map_eq_some_iff.mp e
  split at e2
  · rename_i d
    obtain ⟨d', hd, e3⟩ := Option.map_eq_some_iff.mp e2
    cases e3
    obtain ⟨v, e1, h1⟩ := s.sr.sl i _ ho
    exact ⟨v, e1, snap_dt (see_g s.sr.sub) (snap_loc s.st s.sr.sub nod fu) h1 hd⟩
  · cases e2
/-- locking a dict changes nothing of what is read -/
theorem snapN_lk {n : Nat} {dks : List (Key × D)} (h : S[n]? = some (.dct dks)) : ∀ k m : Nat, snapN (S.set n (.lk dks)) k m = snapN S k m
  | 0, m => by unfold snapN; rfl
  | k + 1, m => by
    unfold snapN
    have ih : snapN (S.set n (.lk dks)) k = snapN S k := funext fun j => snapN_lk h k j
    rw [ih]
    by_cases q : n = m
    · subst q
      rw [List.getElem?_set_self (List.getElem?_eq_some_iff.mp h).1, h]
      rfl
    · rw [List.getElem?_set_ne q]
theorem snapE_lk {n : Nat} {dks : List (Key × D)} {fu : Nat} {en : En} (h : S[n]? = some (.dct dks)) : snapE fu (S.set n (.lk dks)) en = snapE fu S en := by
  unfold snapE
  rw [show snapN (S.set n (.lk dks)) fu = snapN S fu from funext fun j => snapN_lk h fu j]
end
/-! ### all dicts of the store locked, for one expression -/
def lockN : Nat → TE → TE
  | 0, t => t
  | n + 1, t => tLockE (lockN n t)
theorem pe_lockN {X : Cx} {e : Expr} {t : TE} (h : PE X e t) : ∀ n, PE X e (lockN n t)
  | 0 => h
  | n + 1 => pe_lock (pe_lockN h n)
def cntD (S : So) : Nat → Nat
  | 0 => 0
  | k + 1 => match S[k]? with
    | some (.dct _) => cntD S k + 1
    | _ => cntD S k
theorem cntD_succ (S : So) (k : Nat) : cntD S (k + 1) = match S[k]? with
    | some (.dct _) => cntD S k + 1
    | _ => cntD S k := rfl
theorem cntD_set {S : So} {n : Nat} {z : Cl} : ∀ k, k ≤ n → cntD (S.set n z) k = cntD S k
  | 0, _ => rfl
  | k + 1, h => by
    unfold cntD
    rw [List.getElem?_set_ne (by omega : n ≠ k), cntD_set k (by omega)]
/-- a plain value, not a thing -/
def gdD : D → Bool
  | .non => true
  | .bl _ => true
  | .int _ => true
  | .str _ => true
  | _ => false
theorem gd_any {K : PySem.W.Frag} {cn cn' : Cn} {G H H' G2 : Hp} {k : Kd} {v : V} {d : D} (g : gdD d = true) (h : VI K cn H G H' k v d) : Dt K cn' G2 v d := by
  have h := h.db
  cases d with
  | non => rw [h.non]; exact .non
  | bl b => rw [h.bl]; exact .bl b
  | int i => rw [h.int]; exact .int i
  | str x => rw [h.str]; exact .str x
  | _ => cases g
def fSnap (fu : Nat) (f : En → Option R) : FE := fun en S => match f (snapE fu S en) with
  | some (.val _ d) => if gdD d = true then some (.val .sh d, S) else none
  | _ => none
section
variable {X : Cx} {c : Cc} {W : WX} {e : Expr} {l : List Addr} {G H : Hp} {S : So} {σ : L2.St} {en : En}
/-- a locked place -/
theorem StR.lock {K : PySem.W.Frag} {n : Nat} {p : Addr} {od : Obj} {dks : List (Key × D)} {kvs : List (Key × V)} (s : StR K ⟨c, l⟩ G H S) (hl : l[n]? = some p) (gn : G p = none) (hk : kvs.map (·.1) = dks.map (·.1)) (t : DtL K ⟨c, l⟩ G (kvs.map (·.2)) (dks.map (·.2))) :
    StR K ⟨c, l⟩ G (upd H p (.frz od (.dK kvs))) (S.set n (.lk dks)) := s.put hl ⟨gn, od, kvs, upd_same, hk, t⟩
theorem snap_core {f : En → Option R} {fu : Nat} {k0 : Kd} {d : D} (gd : gdD d = true) : ∀ (k : Nat) {S : So} {H : Hp} {Q : VK}, (∀ n, k ≤ n → ∀ dks, S[n]? ≠ some (.dct dks)) → SRS X.K c l G H σ en S → f (snapE fu S en) = some (.val k0 d) →
    (∀ v H', Same H H' → Same G H' → (∀ G2 cn, Dt X.K cn G2 v d) → Q v H') → lockN (cntD S k) (tD X.K ⟨c, l⟩ W f) σ H Q
  | 0, S, H, Q, nod, s, e, q => ⟨seeAll l G H, snapE fu S en, _, snap_sr fu s fun n dks => nod n (Nat.zero_le _) dks, e, fun v G1 H1 st vi => q v H1 st.h (s.sr.sub.trans st.h) fun G2 cn => gd_any gd vi⟩
  | k + 1, S, H, Q, nod, s, e, q => by
    cases hz : S[k]? with
    | none =>
      have : cntD S (k + 1) = cntD S k := by rw [cntD_succ S k, hz]
      rw [this]
      refine snap_core gd k (fun n hn dks => ?_) s e q
      by_cases h : n = k
      · subst h; rw [hz]; simp
      · exact nod n (by omega) dks
    | some z =>
      by_cases hd : ∃ dks, z = .dct dks
      · obtain ⟨dks, rfl⟩ := hd
        have : cntD S (k + 1) = cntD S k + 1 := by rw [cntD_succ S k, hz]
        rw [this]
        obtain ⟨p, hl, g, kvs, hp, hk, t⟩ := s.st.get hz
        refine ⟨p, .dK kvs, hp, True.intro, fun od => ?_⟩
        have hmem := List.mem_of_getElem? hl
        have t1 : Sp5 l G H l G (upd H p (.frz od (.dK kvs))) := .put s.sr.sub hmem g hp (fun _ _ z => by cases z)
        have s1 : SRS X.K c l G (upd H p (.frz od (.dK kvs))) σ en (S.set k (.lk dks)) := s.step t1 (s.st.lock hl g hk t)
        rw [← cntD_set (S := S) (z := .lk dks) k (Nat.le_refl _)]
        refine snap_core gd k (fun n hn dks' => ?_) s1 (by rw [snapE_lk hz]; exact e) fun v H' sh sg dv => ?_
        · by_cases h : n = k
          · subst h
            rw [List.getElem?_set_self (List.getElem?_eq_some_iff.mp hz).1]
            simp
          · rw [List.getElem?_set_ne (Ne.symm h)]; exact nod n (by omega) dks'
        · refine ⟨sh _ _ upd_same, q v _ (fun b x ex => ?_) (fun b x ex => ?_) dv⟩
          · by_cases h : b = p
            · subst h; rw [hp] at ex; cases ex; rw [upd_same]
            · rw [upd_ne h]; exact sh b x (by rw [upd_ne h]; exact ex)
          · rw [upd_ne (by rintro rfl; rw [g] at ex; cases ex)]; exact sg b x ex
      · have : cntD S (k + 1) = cntD S k := by
          rw [cntD_succ S k, hz]
          cases z with
          | dct dks => exact absurd ⟨dks, rfl⟩ hd
          | _ => rfl
        rw [this]
        refine snap_core gd k (fun n hn dks => ?_) s e q
        by_cases h : n = k
        · subst h
          rw [hz]
          rintro ⟨⟩
          exact hd ⟨_, rfl⟩
        · exact nod n (by omega) dks
theorem je_snap {f : En → Option R} (fu : Nat) (h : ∀ l, DE X ⟨c, l⟩ W e f) : JE X c W e (fSnap fu f) := by
  refine ⟨fun pins s σ H Q I ⟨l, G, en, S, r, S', sr, e1, q⟩ => ?_⟩
  unfold fSnap at e1
  split at e1
  · rename_i k0 d hf
    split at e1
    · rename_i gd
      cases e1
      refine (pe_lockN (h l) (cntD S S.length)).run pins s σ H Q I (snap_core gd S.length (fun n hn dks => by rw [List.getElem?_eq_none hn]; simp) sr hf fun v H' sh sg dv => ?_)
      have t : Stp G H G H' := ⟨Same.refl _, sh, sg, fun _ h => .inl h⟩
      exact q v l G H' (.of t) (sr.st.stp t) (dv G ⟨c, l⟩)
    · cases e1
  · cases e1
end
end PD
/-! PE6: with a store: things that change no more, walks over dicts, fields, methods, instances made, raise, try. -/
namespace PD
open PySem PySem.Spec PyProof.Rows L2
section
variable {X : Cx} {c : Cc} {W : WX} {l l1 : List Addr} {G H G1 H1 : Hp} {S S' S1 : So} {σ : L2.St} {en : En} {E : Ends} {st : Stmt} {sts : List Stmt} {f fa fe : FE} {F F1 F2 : FS} {e o : Expr} {es : List Expr} {pos apos : Pos}
/-! ### a thing changes no more -/
theorem Sp5.dead {p : Addr} {u o2 : HO} (sub : Same G H) (hl : p ∈ l) (gn : G p = none) (hp : H p = some u) (hu : ∀ od w, u ≠ .frz od w) : Sp5 l G H l (upd G p o2) (upd H p o2) :=
  ⟨same_upd gn, fun a x e n => by rw [upd_ne (by rintro rfl; exact n hl)]; exact e, fun a n => by
    by_cases q : a = p
    · subst q; rw [upd_same]; simp
    · rw [upd_ne q]; exact n, fun b x e => by
    by_cases q : b = p
    · subst q; rw [upd_same] at e ⊢; exact e
    · rw [upd_ne q] at e ⊢; exact sub b x e, fun a n => by
    by_cases q : a = p
    · subst q; exact .inr (.inr hl)
    · rw [upd_ne q] at n; exact .inl n, ⟨[], by simp⟩, fun _ h => .inl h, fun a od w e => by
    by_cases q : a = p
    · subst q; rw [hp] at e; cases e; exact absurd rfl (hu od w)
    · rw [upd_ne q]; exact e⟩
theorem StR.dead {K : PySem.W.Frag} {n : Nat} {p : Addr} {o2 : HO} (s : StR K ⟨c, l⟩ G H S) (hl : l[n]? = some p) (gn : G p = none) : StR K ⟨c, l⟩ (upd G p o2) (upd H p o2) (S.set n .dead) := by
  refine ⟨by rw [List.length_set]; exact s.len, s.nd, fun m q y e1 e2 => ?_⟩
  have e1' : l[m]? = some q := e1
  by_cases h : n = m
  · subst h
    rw [hl] at e1'; cases e1'
    rw [List.getElem?_set_self (by rw [← show l.length = S.length from s.len]; exact (List.getElem?_eq_some_iff.mp hl).1)] at e2
    cases e2
    show upd H p o2 p ≠ none
    rw [upd_same]; simp
  · rw [List.getElem?_set_ne h] at e2
    have hne : q ≠ p := by
      rintro rfl
      exact h ((List.getElem?_inj (List.getElem?_eq_some_iff.mp hl).1 s.nd).mp (hl.trans e1'.symm))
    exact (s.at_ m q y e1 e2).same (same_upd gn) (fun g _ => by rw [upd_ne hne]; exact g) fun o' e => by rw [upd_ne hne]; exact e
/-! ### methods, properties, instances -/
variable {m x : Str} {k n : Nat} {g : Addr} {fd : FuncData} {ps : List Str} {Fd : FF} {t : FA} {p : Pos}
/-- a property: it raises nothing -/
def okR : Option (R × So) → Option (R × So)
  | some (.val k d, S) => some (.val k d, S)
  | _ => none
/-! ### raise, try -/
def fRaiseS (ci : Nat) (t : FA) : FS := fun en S => match t en S with
  | some (.vals [d], S1) => some (.er en ci d, S1)
  | some (.er c' d, S1) => some (.er en c' d, S1)
  | _ => none
end
end PD
/-! PE7: with a store: x = [comprehension]; calls with keywords. -/
namespace PD
open PySem PySem.Spec PyProof.Rows L2
section
variable {X : Cx} {c : Cc} {W : WX} {st : Stmt} {pm : Bool}
/-! ### f(k = v, ..) -/
variable {k n : Nat} {g : Addr} {fd : FuncData} {ps ks : List Str} {pm2 : List Nat} {F : FF} {x : Str} {p pos : Pos} {tk0 : FA} {kws : List Keyword}
theorem je_callP (FO : FnOk X.prog X.w X.K X.mg X.base (L2.CX X.prog X.w) k g fd ps (spS X.K c n F)) (hr : Room k X.A) (hg : Gl X x) (hm : X.mg x = some (.ref g)) (hk : PySem.W.keepIn X.K (.ref g) = true) (hb : KP X.K fd ps 0 ks pm2) (hps : ks.length = n) (hpm : pm2.length = n) (hlt : ∀ i ∈ pm2, i < n) (tk : Takes X W)
    (hkw : JK X c W kws tk0) (hall : (backToKw pos (keywordEach kws X.env)).all (·.1.isSome) = true := by rfl) (hks : (backToKw pos (keywordEach kws X.env)).filterMap (·.1) = ks := by rfl) (hdb : (x == ("__debug__" : Str)) = false := by decide)
    (hpl : ((backTo pos (starEach [] X.env)).any (·.1) || (backToKw pos (keywordEach kws X.env)).any (·.1.isNone)) = false := by rfl) :
    JE X c W (.Call (.Name x p) [] kws pos) (fCallS (fun ds S => F (permD pm2 ds) S) n tk0) := by
  refine ⟨fun pins s σ H Q I h => ?_⟩
  refine wpAny_Call_Name_kw (ld_glob I hg hm ?_ hdb)
  refine PySem.W.callWith_KW0 (h₀ := X.base) I.ok.mod.kin hk hall ?_ hpl
  refine thn (hkw.run pos pins s σ H _ I (tCallS_of h)) fun ws s2 ⟨zs, H2, I2, rz, q2⟩ => ⟨I2.kIn, ?_⟩
  rw [hks]
  have hl : ws.length = ks.length := by rw [← rz.length, spS_len _ _ _ _ q2, hps]
  refine run_fnP (us := []) FO hr (hb s2 [] ws I2.kIn rfl hl) (passAt tk σ) I2 (vals_perm rz pm2) ?_
  obtain ⟨l, G, S, ds, r, S', s1, st, h1, h2, h3, h4⟩ := q2
  refine ⟨l, G, S, permD pm2 ds, r, S', s1, st, dtl_perm h1 pm2, ?_, h3, h4⟩
  rw [← hpm]
  exact permD_len (fun i hi => by rw [h2]; exact hlt i hi)
/-- the keywords' order is the parameters' -/
theorem KB.toP {K : PySem.W.Frag} (h : KP K fd ps n ks pm2) : KP K fd ps n ks pm2 := h
end
end PD
/-! PE8: all that stands at the places changes no more; a def that changes its own store only, as a plain def. -/
namespace PD
open PySem PySem.Spec PyProof.Rows L2
def lkN : Nat → TS → TS
  | 0, t => t
  | n + 1, t => fun E σ H => ∃ p u, H p = some u ∧ L2.Mut (some u) ∧ ∀ od, lkN n t E σ (upd H p (.frz od u))
theorem pss_lkN {X : Cx} {sts : List Stmt} {t : TS} (h : PSs X sts t) : ∀ n, PSs X sts (lkN n t)
  | 0 => h
  | n + 1 => PSs.imp (pss_lk (pss_lkN h n)) fun _ _ _ q => .inr q
def deadS (S : So) : So := S.map fun _ => .dead
theorem deadS_set {S : So} {k : Nat} {z : Cl} : deadS (S.set k z) = deadS S := by
  unfold deadS
  rw [List.map_set]
  apply List.ext_getElem?
  intro i
  rw [List.getElem?_set]
  split
  · rename_i h
    subst h
    split
    · rename_i hl
      rw [List.getElem?_eq_getElem hl]
      simp
    · rename_i hl
      rw [List.getElem?_eq_none (by omega)]
  · rfl
section
variable {X : Cx} {c : Cc} {W : WX} {l : List Addr} {G H : Hp} {S S' : So} {σ : L2.St} {en : En} {E : Ends} {sts : List Stmt} {F : FS} {o : Out}
theorem see_sp (s : Same G H) : Sp5 l G H l (seeAll l G H) H :=
  ⟨see_g s, fun _ _ h _ => h, fun _ h => h, see_h s, fun a n => by
    unfold seeAll at n
    split at n
    · rename_i h; exact .inr (.inr h)
    · exact .inl n, ⟨[], by simp⟩, fun _ h => .inl h, fun _ _ _ h => h⟩
theorem dead_st {K : PySem.W.Frag} {G' : Hp} (s : StR K ⟨c, l⟩ G H S) : StR K ⟨c, l⟩ G' H (deadS S) :=
  ⟨by unfold deadS; rw [List.length_map]; exact s.len, s.nd, fun n p z e1 e2 => by
    unfold deadS at e2
    rw [List.getElem?_map] at e2
    obtain ⟨y, hy, rfl⟩ := Option.map_eq_some_iff.mp e2
    exact (s.at_ n p y e1 hy).ne⟩
theorem frzA_core {fu : Nat} : ∀ (k : Nat) {S : So} {H : Hp}, (∀ n, k ≤ n → ∀ dks, S[n]? ≠ some (.dct dks)) → SRS X.K c l G H σ en S → F (snapE fu S en) (deadS S) = some (o, S') → OQS X.K c W l G H E S' o → lkN (cntD S k) (jS X.K c W F) E σ H
  | 0, S, H, nod, s, e, q => by
    have t := see_sp (l := l) s.sr.sub
    refine ⟨l, seeAll l G H, snapE fu S en, deadS S, o, S', ⟨snap_sr fu s fun n dks => nod n (Nat.zero_le _) dks, dead_st s.st, fun i d h => ?_⟩, e, q.on t⟩
    unfold snapE at h
    rw [List.getElem?_map] at h
    obtain ⟨y, hy, e2⟩ := Option.map_eq_some_iff.mp h
    split at e2
    · obtain ⟨_, _, e3⟩ := Option.map_eq_some_iff.mp e2
      cases e3
    · cases e2
  | k + 1, S, H, nod, s, e, q => by
    have skip : (∀ dks, S[k]? ≠ some (.dct dks)) → cntD S (k + 1) = cntD S k → lkN (cntD S (k + 1)) (jS X.K c W F) E σ H := fun hk hc => by
      rw [hc]
      refine frzA_core k (fun n hn dks => ?_) s e q
      by_cases h : n = k
      · subst h; exact hk dks
      · exact nod n (by omega) dks
    cases hz : S[k]? with
    | none => exact skip (fun dks => by rw [hz]; simp) (by rw [cntD_succ S k, hz])
    | some z =>
      by_cases hd : ∃ dks, z = .dct dks
      · obtain ⟨dks, rfl⟩ := hd
        rw [show cntD S (k + 1) = cntD S k + 1 by rw [cntD_succ S k, hz]]
        obtain ⟨p, hl, g, kvs, hp, hk, t⟩ := s.st.get hz
        refine ⟨p, .dK kvs, hp, True.intro, fun od => ?_⟩
        have t1 : Sp5 l G H l G (upd H p (.frz od (.dK kvs))) := .put s.sr.sub (List.mem_of_getElem? hl) g hp (fun _ _ z => by cases z)
        have s1 : SRS X.K c l G (upd H p (.frz od (.dK kvs))) σ en (S.set k (.lk dks)) := s.step t1 (s.st.lock hl g hk t)
        rw [← cntD_set (S := S) (z := .lk dks) k (Nat.le_refl _)]
        refine frzA_core k (fun n hn dks' => ?_) s1 (by rw [snapE_lk hz, deadS_set]; exact e) (q.on t1)
        by_cases h : n = k
        · subst h
          rw [List.getElem?_set_self (List.getElem?_eq_some_iff.mp hz).1]
          simp
        · rw [List.getElem?_set_ne (Ne.symm h)]; exact nod n (by omega) dks'
      · refine skip (fun dks e => ?_) ?_
        · rw [hz] at e; cases e; exact hd ⟨_, rfl⟩
        · rw [cntD_succ S k, hz]
          cases z with
          | dct dks => exact absurd ⟨dks, rfl⟩ hd
          | _ => rfl
/-- all things of the store are plain data from here on -/
def fFrzA (fu : Nat) (F : FS) : FS := fun en S => F (snapE fu S en) (deadS S)
theorem jss_frzA (fu : Nat) (h : JSs X c W sts F) : JSs X c W sts (fFrzA fu F) :=
  ⟨fun pins s σ H E I ⟨l, G, en, S, o, S', sr, e, q⟩ => (pss_lkN h (cntD S S.length)).run pins s σ H E I (frzA_core S.length (fun n hn dks => by rw [List.getElem?_eq_none hn]; simp) sr e q)⟩
end

/-! ### a def with its own store only -/
section
variable {K : PySem.W.Frag} {c : Cc} {l l2 : List Addr} {G : Hp}
mutual
theorem noloc_dt : ∀ {v : V} {d d' : D}, Dt K ⟨c, l⟩ G v d → snapD (fun _ => none) d = some d' → Dt K ⟨c, l2⟩ G v d'
  | _, _, _, .non, e => by unfold snapD at e; cases e; exact .non
  | _, _, _, .bl b, e => by unfold snapD at e; cases e; exact .bl b
  | _, _, _, .int i, e => by unfold snapD at e; cases e; exact .int i
  | _, _, _, .str x, e => by unfold snapD at e; cases e; exact .str x
  | _, _, _, .ty n, e => by unfold snapD at e; cases e; exact .ty n
  | _, _, _, .cl n, e => by unfold snapD at e; cases e; exact .cl n
  | _, _, _, .loc h, e => by unfold snapD at e; cases e
  | _, _, _, .scr h, e => by unfold snapD at e; cases e; exact .scr h
  | _, _, _, .lst h t, e => by
    unfold snapD at e
    obtain ⟨x, h1, rfl⟩ := Option.map_eq_some_iff.mp e
    exact .lst h (noloc_dtl t h1)
  | _, _, _, .tup h t, e => by
    unfold snapD at e
    obtain ⟨x, h1, rfl⟩ := Option.map_eq_some_iff.mp e
    exact .tup h (noloc_dtl t h1)
  | _, _, _, .dct h k t, e => by
    unfold snapD at e
    obtain ⟨x, h1, rfl⟩ := Option.map_eq_some_iff.mp e
    obtain ⟨h2, h3⟩ := snapK_split h1
    exact .dct h (by rw [k, h2]) (noloc_dtl t h3)
  | _, _, _, .ins h k t, e => by
    unfold snapD at e
    obtain ⟨x, h1, rfl⟩ := Option.map_eq_some_iff.mp e
    obtain ⟨h2, h3⟩ := snapF_split h1
    exact .ins h (by rw [k, h2]) (noloc_dtl t h3)
theorem noloc_dtl : ∀ {vs : List V} {ds ds' : List D}, DtL K ⟨c, l⟩ G vs ds → snapL (fun _ => none) ds = some ds' → DtL K ⟨c, l2⟩ G vs ds'
  | _, _, _, .nil, e => by unfold snapL at e; cases e; exact .nil
  | _, _, _, .cons h t, e => by
    unfold snapL at e
    split at e
    · rename_i x hx
      obtain ⟨y, hy, rfl⟩ := Option.map_eq_some_iff.mp e
      exact .cons (noloc_dt h hx) (noloc_dtl t hy)
    · cases e
end
end
end PD
/-! PE9: a plain def called with things of the store, read as plain data; a plain value comes out. -/
namespace PD
open PySem PySem.Spec PyProof.Rows L2
section
variable {X : Cx} {c : Cc} {W : WX} {l : List Addr} {G H : Hp} {S : So} {σ : L2.St} {en : En} {E : XK}
theorem snapc_core {F : List D → Option R} {fu n : Nat} {k0 : Kd} {d : D} {vs : List V} {ds ds' : List D} (gd : gdD d = true) (hl : ds'.length = n) (e : F ds' = some (.val k0 d)) : ∀ (k : Nat) {S : So} {H : Hp} {Q : VK}, (∀ n, k ≤ n → ∀ dks, S[n]? ≠ some (.dct dks)) → Same G H → StR X.K ⟨c, l⟩ G H S → DtL X.K ⟨c, l⟩ G vs ds → snapL (snapN S fu) ds = some ds' →
    (∀ v H', Same H H' → Same G H' → (∀ G2 cn, Dt X.K cn G2 v d) → Q v H') → lockN (cntD S k) (fun _ H Q => spD X.K ⟨c, l⟩ n F vs H Q E) σ H Q
  | 0, S, H, Q, nod, sg, s, hv, hs, q => ⟨seeAll l G H, ds', _, see_h sg, snap_dtl (see_g sg) (snap_loc s sg (fun n dks => nod n (Nat.zero_le _) dks) fu) hv hs, hl, e, fun v G1 H1 st vi => q v H1 st.h (sg.trans st.h) fun G2 cn => gd_any gd vi⟩
  | k + 1, S, H, Q, nod, sg, s, hv, hs, q => by
    have skip : (∀ dks, S[k]? ≠ some (.dct dks)) → cntD S (k + 1) = cntD S k → lockN (cntD S (k + 1)) (fun _ H Q => spD X.K ⟨c, l⟩ n F vs H Q E) σ H Q := fun hk hc => by
      rw [hc]
      refine snapc_core gd hl e k (fun n hn dks => ?_) sg s hv hs q
      by_cases h : n = k
      · subst h; exact hk dks
      · exact nod n (by omega) dks
    cases hz : S[k]? with
    | none => exact skip (fun dks => by rw [hz]; simp) (by rw [cntD_succ S k, hz])
    | some z =>
      by_cases hd : ∃ dks, z = .dct dks
      · obtain ⟨dks, rfl⟩ := hd
        rw [show cntD S (k + 1) = cntD S k + 1 by rw [cntD_succ S k, hz]]
        obtain ⟨p, hlp, g, kvs, hp, hk, t⟩ := s.get hz
        refine ⟨p, .dK kvs, hp, True.intro, fun od => ?_⟩
        have t1 : Sp5 l G H l G (upd H p (.frz od (.dK kvs))) := .put sg (List.mem_of_getElem? hlp) g hp (fun _ _ z => by cases z)
        rw [← cntD_set (S := S) (z := .lk dks) k (Nat.le_refl _)]
        refine snapc_core gd hl e k (fun n hn dks' => ?_) t1.sub (s.lock hlp g hk t) hv (by rw [show snapN (S.set k (.lk dks)) fu = snapN S fu from funext fun j => snapN_lk hz fu j]; exact hs) fun v H' sh sg' dv => ?_
        · by_cases h : n = k
          · subst h
            rw [List.getElem?_set_self (List.getElem?_eq_some_iff.mp hz).1]
            simp
          · rw [List.getElem?_set_ne (Ne.symm h)]; exact nod n (by omega) dks'
        · refine ⟨sh _ _ upd_same, q v _ (fun b x ex => ?_) (fun b x ex => ?_) dv⟩
          · by_cases h : b = p
            · subst h; rw [hp] at ex; cases ex; rw [upd_same]
            · rw [upd_ne h]; exact sh b x (by rw [upd_ne h]; exact ex)
          · rw [upd_ne (by rintro rfl; rw [g] at ex; cases ex)]; exact sg' b x ex
      · refine skip (fun dks e => ?_) ?_
        · rw [hz] at e; cases e; exact hd ⟨_, rfl⟩
        · rw [cntD_succ S k, hz]
          cases z with
          | dct dks => exact absurd ⟨dks, rfl⟩ hd
          | _ => rfl
theorem run_lockN {pins : List (Addr × Obj)} {s : Shared} {m : Sem Value} {t : TE} (hm : ∀ H Q, Inv X pins σ H s → t σ H Q → wpAny (model X.prog X.w) X.A m (EP X pins σ Q) X.xe s) : ∀ (n : Nat) {H : Hp} {Q : VK}, Inv X pins σ H s → lockN n t σ H Q → wpAny (model X.prog X.w) X.A m (EP X pins σ Q) X.xe s
  | 0, H, Q, I, h => hm H Q I h
  | n + 1, H, Q, I, ⟨d, u, hd, mu, hw⟩ => by
    obtain ⟨od, I1⟩ := I.lock hd mu
    refine thn (run_lockN hm n I1 (hw od)) fun v s1 ⟨x, H1, I2, r, e2, q⟩ => ?_
    exact ⟨x, _, I2.unlock e2 (I.nofrz hd mu), r, q⟩
theorem snapL_len {r : Nat → Option D} : ∀ {ds ds' : List D}, snapL r ds = some ds' → ds'.length = ds.length
  | [], _, e => by unfold snapL at e; cases e; rfl
  | d :: t, _, e => by
    unfold snapL at e
    split at e
    · obtain ⟨y, hy, rfl⟩ := Option.map_eq_some_iff.mp e
      rw [List.length_cons, List.length_cons, snapL_len hy]
    · cases e
/-- the arguments as plain data, a plain value -/
def ofG (fu : Nat) (F : List D → Option R) : FF := fun ds S => match snapL (snapN S fu) ds with
  | some ds' => (match F ds' with
    | some (.val _ d) => if gdD d = true then some (.val .sh d, S) else none
    | _ => none)
  | none => none
variable {k n : Nat} {g : Addr} {fd : FuncData} {ps : List Str} {F : List D → Option R} {x : Str} {p pos : Pos} {e : Expr} {es : List Expr} {t : FA}
theorem je_callG (fu : Nat) (FO : ∀ l, FnOk X.prog X.w X.K X.mg X.base (L2.CX X.prog X.w) k g fd ps (spD X.K ⟨c, l⟩ n F)) (hr : Room k X.A) (hg : Gl X x) (hm : X.mg x = some (.ref g)) (hk : PySem.W.keepIn X.K (.ref g) = true) (hb : Binds X.K fd ps []) (tk : Takes X W)
    (ha : JA X c W (e :: es) t) (hdb : (x == ("__debug__" : Str)) = false := by decide) (he : starEach (e :: es) X.env = (false, eval e X.env) :: starEach es X.env := by rfl) (hpl : (backTo pos (starEach es X.env)).any (·.1) = false := by rfl) :
    JE X c W (.Call (.Name x p) (e :: es) [] pos) (fCallS (ofG fu F) n t) := by
  refine ⟨fun pins s σ H Q I hw => wpAny_Call_Name_kw (ld_glob I hg hm ?_ hdb)⟩
  refine PySem.W.callWith_K (h₀ := X.base) I.ok.mod.kin hk (thn (ha.run pos pins s σ H _ I (tCallS_of hw)) fun us s1 hy => ?_) he hpl
  obtain ⟨vs, H1, I1, rv, l, G, S, ds, r, S', sg, st, hv, hl, hF, q⟩ := hy
  refine ⟨I1.kIn, ?_⟩
  show wpAny _ _ (call (.ref g) us []) _ _ _
  unfold ofG at hF
  split at hF
  · rename_i ds' hs
    split at hF
    · rename_i k0 d hd
      split at hF
      · rename_i gd
        cases hF
        have hl' : ds'.length = n := by rw [snapL_len hs, hl]
        refine run_lockN (t := fun _ H Q => spD X.K ⟨c, l⟩ n F vs H Q (WE W σ)) (fun H2 Q2 I2 h2 => run_at (FO l) hr hb (passAt tk σ) I2 rv h2) (cntD S S.length) I1 (snapc_core gd hl' hd S.length (fun n hn dks => by rw [List.getElem?_eq_none hn]; simp) sg st hv hs fun v H' sh sg' dv => ?_)
        have t : Stp G H1 G H' := ⟨Same.refl _, sh, sg', fun _ h => .inl h⟩
        exact q v l G H' (.of t) (st.stp t) (dv G ⟨c, l⟩)
      · cases hF
    · cases hF
  · cases hF
end
end PD
/-! PD22: enumerate, list methods on a local's own list. -/
namespace PD
open PySem PySem.Spec PyProof.Rows L2
section
variable {X : Cx} {cn : Cn} {W : WX} {G0 : Hp} {H0 : Bs} {e : Expr} {f : En → Option R} {t : En → Option RA} {p pos tpos : Pos} {elts : List Expr} {kk : Nat} {st : Stmt}
variable {a b : Expr} {rest : List Expr} {fa fb : En → Option R}
end
end PD
/-! PD23: own lists lent for the time of an expression whose result is flat (a call that reads them). -/
namespace PD
open PySem PySem.Spec PyProof.Rows L2
section
variable {X : Cx} {cn : Cn} {W : WX} {e : Expr} {f : En → Option R}
end
end PD
/-! PD24: x, y = a, b on one line. -/
namespace PD
open PySem PySem.Spec PyProof.Rows L2
section
variable {X : Cx} {cn : Cn} {W : WX} {G0 : Hp} {H0 : Bs} {st : Stmt} {t : En → Option RA}
end
end PD
namespace C
open PySem L2 PD
abbrev t_FORMS : List (Str × Str) := [("place", "pp"), ("value", "vv"), ("rising", "aee"), ("low", "aeev"), ("high", "aeev"), ("below", "aeeaeek"), ("same", "aaeek")]
def b_Lfigure : En → Option Out := fSeq (fSh 2 (fC (.int 0))) (fSeq (fIfS (fun en => tB1 ((fOp ltD (fVar 1) (fUn lenD (fVar 0))) en)) (fSh 2 (fOp ixD (fVar 0) (fVar 1))) (fNx)) (fSeq (fIfS (fun en => tB1 ((fOp ltD (fVar 2) (fC (.int 0))) en)) (fSh 2 (fOp subD (fUn negD (fC (.int 1))) (fOp mulD (fC (.int 2)) (fVar 2)))) (fNx)) (fRet (fOp modD (fUn intD (fVar 2)) (fOp mulD (fOp mulD (fOp powD (fC (.int 10)) (fC (.int 60))) (fOp powD (fC (.int 10)) (fC (.int 60)))) (fOp powD (fC (.int 10)) (fC (.int 60))))))))
def F_Lfigure : List D → Option R := runF b_Lfigure 3
def b_Ldraws : En → Option Out := fSeq (fSh 3 (fCall F_Lfigure 2 (fCons (fVar 0) (fCons (fVar 1) (fNil))))) (fSeq (fSh 4 (fOp subD (fVar 3) (fOp powD (fC (.int 10)) (fC (.int 18))))) (fSeq (fSet 5 (fLst (fNil))) (fSeq (fFor (fIt rng1D (fCons (fUn lenD (fVar 2)) (fNil))) (hName 6) (fSeq (fSh 7 (fOp modD (fUn intD (fOp addD (fOp addD (fOp mulD (fVar 3) (fOp addD (fC (.int 30011)) (fOp mulD (fOp mulD (fC (.int 2)) (fVar 6)) (fVar 6)))) (fOp mulD (fOp addD (fVar 6) (fC (.int 5))) (fC (.int 86028121)))) (fOp mulD (fVar 1) (fC (.int 15485863))))) (fC (.int 2147483587)))) (fSeq (fSh 7 (fOp fdivD (fOp modD (fUn intD (fOp addD (fOp addD (fOp mulD (fVar 7) (fVar 7)) (fOp mulD (fC (.int 611953)) (fVar 6))) (fVar 3))) (fC (.int 2147483549))) (fC (.int 11)))) (fSeq (fIfS (fun en => tB1 ((fOp geD (fVar 3) (fOp powD (fC (.int 10)) (fC (.int 18)))) en)) (fSeq (fSh 7 (fVar 4)) (fSh 4 (fOp fdivD (fVar 4) (fOp ixD (fVar 2) (fVar 6))))) (fNx)) (fApp 5 (fOp modD (fUn intD (fVar 7)) (fOp ixD (fVar 2) (fVar 6)))))))) (fRetV 5))))
def F_Ldraws : List D → Option R := runF b_Ldraws 8
def b_Lnames : En → Option Out := fSeq (fSh 3 (fC (.str "abcdefghijklmnopqrstuvwxyz"))) (fSeq (fSh 4 (fCall F_Ldraws 3 (fCons (fVar 0) (fCons (fVar 1) (fCons (fOp addD (fLst (fCons (fC (.int 4)) (fNil))) (fOp mulD (fLst (fCons (fC (.int 6)) (fCons (fC (.int 26)) (fCons (fC (.int 26)) (fCons (fC (.int 26)) (fCons (fC (.int 26)) (fCons (fC (.int 26)) (fCons (fC (.int 26)) (fNil))))))))) (fVar 2))) (fNil)))))) (fSeq (fSet 5 (fLst (fNil))) (fSeq (fFor (fIt rng1D (fCons (fVar 2) (fNil))) (hName 6) (fSeq (fSh 7 (fSl (fVar 4) (some (fOp addD (fC (.int 2)) (fOp mulD (fC (.int 7)) (fVar 6)))) (some (fOp addD (fOp addD (fC (.int 3)) (fOp mulD (fC (.int 7)) (fVar 6))) (fOp ixD (fVar 4) (fOp addD (fC (.int 1)) (fOp mulD (fC (.int 7)) (fVar 6)))))))) (fSeq (fIfS (fun en => tB1 ((fOp eqD (fOp ixD (fVar 4) (fC (.int 0))) (fC (.int 1))) en)) (fSh 7 (fLc (fItems (fVar 7)) (hName 10) (fYes) (fOp modD (fUn intD (fVar 10)) (fC (.int 2))) [10])) (fNx)) (fSeq (fSh 8 (fSm joinD (fC (.str "")) (fLc (fItems (fVar 7)) (hName 10) (fYes) (fOp ixD (fVar 3) (fVar 10)) [10]))) (fSeq (fFor (fIt rng1D (fCons (fC (.int 26)) (fNil))) (hName 9) (fIfS (fun en => tB1 ((fOp inD (fVar 8) (fVar 5)) en)) (fSh 8 (fOp addD (fOp ixD (fVar 3) (fOp modD (fUn intD (fOp addD (fOp addD (fOp ixD (fVar 7) (fC (.int 0))) (fVar 9)) (fC (.int 1)))) (fC (.int 26)))) (fSl (fVar 8) (some (fC (.int 1))) none))) (fNx))) (fApp 5 (fVar 8))))))) (fRetV 5))))
def F_Lnames : List D → Option R := runF b_Lnames 11
def b_Lrow : En → Option Out := fSeq (fSh 5 (fCall F_Ldraws 3 (fCons (fVar 0) (fCons (fVar 1) (fCons (fOp addD (fLst (fCons (fC (.int 4)) (fCons (fVar 3) (fCons (fVar 4) (fNil))))) (fOp mulD (fLst (fCons (fC (.int 2)) (fCons (fVar 4) (fNil)))) (fVar 3))) (fNil)))))) (fSeq (fSh 6 (fLc (fIt rng1D (fCons (fVar 3) (fNil))) (hName 8) (fun en => tB1 ((fOp eqD (fOp ixD (fVar 5) (fOp addD (fC (.int 3)) (fOp mulD (fC (.int 2)) (fVar 8)))) (fC (.int 1))) en)) (fTup (fCons (fOp addD (fVar 2) (fVar 8)) (fCons (fOp ixD (fVar 5) (fOp addD (fC (.int 4)) (fOp mulD (fC (.int 2)) (fVar 8)))) (fNil)))) [8])) (fSeq (fIfS (fun en => tB1 ((fOp eqD (fVar 6) (fLst (fNil))) en)) (fSh 6 (fLst (fCons (fTup (fCons (fOp addD (fVar 2) (fOp ixD (fVar 5) (fC (.int 1)))) (fCons (fOp ixD (fVar 5) (fC (.int 2))) (fNil)))) (fNil)))) (fNx)) (fSeq (fIfS (fun en => tB1 ((fOp eqD (fOp ixD (fVar 5) (fC (.int 0))) (fC (.int 1))) en)) (fSh 6 (fUn revD (fVar 6))) (fNx)) (fSeq (fIfS (fun en => tB1 ((fOp eqD (fOp ixD (fVar 5) (fC (.int 0))) (fC (.int 2))) en)) (fSh 6 (fOp addD (fSl (fVar 6) (some (fC (.int 1))) none) (fSl (fVar 6) none (some (fC (.int 1)))))) (fNx)) (fSeq (fIfS (fun en => tB1 ((fOp eqD (fOp ixD (fVar 5) (fC (.int 0))) (fC (.int 3))) en)) (fSeq (fSh 7 (fUn sortD (fLc (fItems (fVar 6)) (hName 9) (fYes) (fOp ixD (fVar 9) (fC (.int 1))) [9]))) (fSh 6 (fLc (fIt rng1D (fCons (fUn lenD (fVar 6)) (fNil))) (hName 8) (fYes) (fTup (fCons (fOp ixD (fOp ixD (fVar 6) (fVar 8)) (fC (.int 0))) (fCons (fOp ixD (fVar 7) (fVar 8)) (fNil)))) [8]))) (fNx)) (fRetV 6))))))
def F_Lrow : List D → Option R := runF b_Lrow 10
def b_Lparts : En → Option Out := fSeq (fSh 2 (fCall F_Ldraws 3 (fCons (fVar 0) (fCons (fVar 1) (fCons (fOp addD (fOp addD (fLst (fCons (fC (.int 4)) (fCons (fC (.int 3)) (fCons (fC (.int 4)) (fCons (fC (.int 2)) (fCons (fC (.int 3)) (fNil))))))) (fOp mulD (fLst (fCons (fC (.int 11)) (fNil))) (fC (.int 3)))) (fOp mulD (fLst (fCons (fC (.int 9)) (fNil))) (fC (.int 2)))) (fNil)))))) (fSeq (fSh 3 (fCall F_Lnames 3 (fCons (fVar 0) (fCons (fOp addD (fVar 1) (fC (.int 1))) (fCons (fC (.int 8)) (fNil)))))) (fSeq (fSet 4 (fDct0)) (fSeq (fFor (fIt rng1D (fCons (fOp ixD (fVar 2) (fC (.int 0))) (fNil))) (hName 5) (fPut 4 (fOp ixD (fVar 3) (fVar 5)) (fOp subD (fOp ixD (fVar 2) (fOp addD (fC (.int 5)) (fVar 5))) (fC (.int 4))))) (fSeq (fSet 6 (fDct0)) (fSeq (fFor (fIt rng1D (fCons (fOp ixD (fVar 2) (fC (.int 1))) (fNil))) (hName 5) (fPut 6 (fOp ixD (fVar 3) (fOp addD (fC (.int 3)) (fVar 5))) (fOp subD (fOp ixD (fVar 2) (fOp addD (fC (.int 8)) (fVar 5))) (fC (.int 2))))) (fSeq (fSet 7 (fDct0)) (fSeq (fFor (fIt rng1D (fCons (fOp ixD (fVar 2) (fC (.int 2))) (fNil))) (hName 5) (fPut 7 (fOp ixD (fVar 3) (fOp addD (fC (.int 5)) (fVar 5))) (fCall F_Lrow 5 (fCons (fVar 0) (fCons (fOp addD (fOp addD (fVar 1) (fC (.int 2))) (fVar 5)) (fCons (fUn negD (fC (.int 6))) (fCons (fC (.int 15)) (fCons (fOp subD (fC (.int 4)) (fOp ixD (fVar 2) (fC (.int 3)))) (fNil))))))))) (fSeq (fIfS (fAndT (fun en => tB1 ((fOp gtD (fOp ixD (fVar 2) (fC (.int 2))) (fC (.int 1))) en)) (fun en => tB1 ((fOp eqD (fOp ixD (fVar 2) (fC (.int 3))) (fC (.int 1))) en))) (fSeq (fSet 8 (fLc (fItems (fOp ixD (fVar 7) (fOp ixD (fVar 3) (fC (.int 5))))) (hTL 2 (hCons (hName 10) (hCons (hName 11) (hNil)))) (fYes) (fTup (fCons (fVar 10) (fCons (fOp addD (fVar 11) (fOp ixD (fVar 2) (fC (.int 4)))) (fNil)))) [10, 11])) (fSeq (fPut 8 (fOp modD (fUn intD (fOp ixD (fVar 2) (fC (.int 5)))) (fUn lenD (fVar 8))) (fOp ixD (fOp ixD (fVar 7) (fOp ixD (fVar 3) (fC (.int 6)))) (fC (.int 0)))) (fFrz 8 (fSeq (fSh 9 (fLc (fItems (fVar 8)) (hName 12) (fYes) (fOp ixD (fVar 12) (fC (.int 0))) [12])) (fPut 7 (fOp ixD (fVar 3) (fC (.int 6))) (fLc (fIt rng1D (fCons (fUn lenD (fVar 8)) (fNil))) (hName 5) (fun en => tB1 ((fOp notInD (fOp ixD (fOp ixD (fVar 8) (fVar 5)) (fC (.int 0))) (fSl (fVar 9) none (some (fVar 5)))) en)) (fOp ixD (fVar 8) (fVar 5)) [5])))))) (fNx)) (fFrz 4 (fFrz 6 (fFrz 7 (fRet (fTup (fCons (fVar 4) (fCons (fVar 6) (fCons (fVar 7) (fNil)))))))))))))))))
def F_Lparts : List D → Option R := runF b_Lparts 13
def b_Llong : En → Option Out := fSeq (fSh 3 (fCall F_Ldraws 3 (fCons (fVar 0) (fCons (fVar 1) (fCons (fOp mulD (fLst (fCons (fC (.int 31)) (fCons (fC (.int 2)) (fCons (fOp powD (fC (.int 10)) (fC (.int 8))) (fCons (fOp powD (fC (.int 10)) (fC (.int 8))) (fCons (fOp powD (fC (.int 10)) (fC (.int 8))) (fCons (fOp powD (fC (.int 10)) (fC (.int 8))) (fNil)))))))) (fVar 2)) (fNil)))))) (fSeq (fSet 4 (fLst (fNil))) (fSeq (fFor (fIt rng1D (fCons (fVar 2) (fNil))) (hName 5) (fSeq (fSh 6 (fC (.int 1))) (fSeq (fFor (fIt rng1D (fCons (fOp ixD (fVar 3) (fOp mulD (fC (.int 6)) (fVar 5))) (fNil))) (hName 7) (fSh 6 (fOp mulD (fVar 6) (fC (.int 10))))) (fSeq (fSh 8 (fC (.int 0))) (fSeq (fFor (fItems (fSl (fVar 3) (some (fOp addD (fOp mulD (fC (.int 6)) (fVar 5)) (fC (.int 2)))) (some (fOp addD (fOp mulD (fC (.int 6)) (fVar 5)) (fC (.int 6)))))) (hName 9) (fSh 8 (fOp addD (fOp mulD (fVar 8) (fOp powD (fC (.int 10)) (fC (.int 8)))) (fVar 9)))) (fSeq (fSh 8 (fOp modD (fUn intD (fVar 8)) (fVar 6))) (fApp 4 (fIf (fun en => tB1 ((fOp eqD (fOp ixD (fVar 3) (fOp addD (fOp mulD (fC (.int 6)) (fVar 5)) (fC (.int 1)))) (fC (.int 1))) en)) (fUn negD (fVar 8)) (fVar 8))))))))) (fRetV 4)))
def F_Llong : List D → Option R := runF b_Llong 10
def b_Lscale : En → Option Out := fSeq (fSh 2 (fCall F_Ldraws 3 (fCons (fVar 0) (fCons (fVar 1) (fCons (fLst (fCons (fC (.int 4)) (fCons (fOp powD (fC (.int 10)) (fC (.int 8))) (fCons (fOp powD (fC (.int 10)) (fC (.int 6))) (fCons (fOp powD (fC (.int 10)) (fC (.int 8))) (fCons (fOp powD (fC (.int 10)) (fC (.int 6))) (fNil))))))) (fNil)))))) (fSeq (fSh 3 (fCall F_Llong 3 (fCons (fVar 0) (fCons (fOp addD (fVar 1) (fC (.int 1))) (fCons (fC (.int 2)) (fNil)))))) (fSeq (fIfS (fun en => tB1 ((fOp eqD (fOp ixD (fVar 2) (fC (.int 0))) (fC (.int 0))) en)) (fRet (fTup (fCons (fC (.int 1)) (fCons (fC (.int 0)) (fCons (fC (.int 1)) (fCons (fC (.int 0)) (fNil))))))) (fNx)) (fSeq (fIfS (fun en => tB1 ((fOp eqD (fOp ixD (fVar 2) (fC (.int 0))) (fC (.int 1))) en)) (fRet (fTup (fCons (fC (.int 1)) (fCons (fOp fdivD (fOp ixD (fVar 3) (fC (.int 0))) (fC (.int 10))) (fCons (fC (.int 1)) (fCons (fOp fdivD (fOp ixD (fVar 3) (fC (.int 1))) (fC (.int 10))) (fNil))))))) (fNx)) (fRet (fTup (fCons (fOp addD (fC (.int 1)) (fOp mulD (fOp ixD (fVar 2) (fC (.int 1))) (fOp ixD (fVar 2) (fC (.int 2))))) (fCons (fOp fdivD (fOp ixD (fVar 3) (fC (.int 0))) (fC (.int 10))) (fCons (fOp addD (fC (.int 1)) (fOp mulD (fOp ixD (fVar 2) (fC (.int 3))) (fOp ixD (fVar 2) (fC (.int 4))))) (fCons (fOp fdivD (fOp ixD (fVar 3) (fC (.int 1))) (fC (.int 10))) (fNil))))))))))
def F_Lscale : List D → Option R := runF b_Lscale 4
def b_Lsums : En → Option Out := fSeq (fSet 4 (fLst (fNil))) (fSeq (fFor (fIt rng1D (fCons (fC (.int 2)) (fNil))) (hName 5) (fSeq (fSh 6 (fOp addD (fLst (fCons (fC (.str "")) (fNil))) (fVar 2))) (fSeq (fAsg (hTL 5 (hCons (hName 8) (hCons (hName 9) (hCons (hName 10) (hCons (hName 11) (hCons (hName 12) (hNil))))))) (fSl (fVar 0) (some (fOp mulD (fC (.int 5)) (fVar 5))) (some (fOp addD (fOp mulD (fC (.int 5)) (fVar 5)) (fC (.int 5)))))) (fSeq (fSh 7 (fTup (fCons (fOp ixD (fVar 6) (fOp modD (fUn intD (fVar 9)) (fUn lenD (fVar 6)))) (fCons (fOp subD (fVar 10) (fC (.int 4))) (fNil))))) (fSeq (fIfS (fAndT (fun en => tB1 ((fOp eqD (fVar 8) (fC (.int 1))) en)) (fun en => tB1 ((fOp gtD (fUn lenD (fVar 3)) (fC (.int 0))) en))) (fSh 7 (fTup (fCons (fOp ixD (fVar 3) (fOp modD (fUn intD (fVar 9)) (fUn lenD (fVar 3)))) (fCons (fTup (fCons (fOp ixD (fVar 1) (fOp modD (fUn intD (fVar 11)) (fUn lenD (fVar 1)))) (fCons (fOp subD (fVar 12) (fC (.int 4))) (fNil)))) (fCons (fOp subD (fVar 10) (fC (.int 4))) (fNil)))))) (fNx)) (fApp 4 (fVar 7))))))) (fRetV 4))
def F_Lsums : List D → Option R := runF b_Lsums 13
def b_Lsaying : En → Option Out := fSeq (fAsg (hTL 3 (hCons (hName 12) (hCons (hName 13) (hCons (hName 14) (hNil))))) (fLc (fItems (fVar 2)) (hName 15) (fYes) (fUn listD (fVar 15)) [15])) (fSeq (fSh 3 (fCall F_Ldraws 3 (fCons (fVar 0) (fCons (fVar 1) (fCons (fOp addD (fOp addD (fOp addD (fLst (fCons (fC (.int 7)) (fNil))) (fOp mulD (fLst (fCons (fC (.int 12)) (fCons (fC (.int 9)) (fCons (fC (.int 5)) (fNil))))) (fC (.int 4)))) (fOp mulD (fLst (fCons (fC (.int 2)) (fCons (fC (.int 12)) (fCons (fC (.int 9)) (fCons (fC (.int 12)) (fCons (fC (.int 9)) (fNil))))))) (fC (.int 2)))) (fLst (fCons (fC (.int 6)) (fCons (fC (.int 6)) (fCons (fC (.int 9)) (fNil)))))) (fNil)))))) (fSeq (fSh 4 (fOp addD (fLst (fCons (fC (.str "")) (fNil))) (fVar 12))) (fSeq (fSh 5 (fLc (fIt rng1D (fCons (fC (.int 4)) (fNil))) (hName 16) (fYes) (fTup (fCons (fOp ixD (fVar 4) (fOp modD (fUn intD (fOp ixD (fVar 3) (fOp addD (fC (.int 1)) (fOp mulD (fC (.int 3)) (fVar 16))))) (fUn lenD (fVar 4)))) (fCons (fOp subD (fOp ixD (fVar 3) (fOp addD (fC (.int 2)) (fOp mulD (fC (.int 3)) (fVar 16)))) (fC (.int 4))) (fNil)))) [16])) (fSeq (fSh 6 (fLc (fIt rng1D (fCons (fC (.int 4)) (fNil))) (hName 16) (fYes) (fIf (fun en => tB1 ((fOp eqD (fOp ixD (fVar 3) (fOp addD (fC (.int 3)) (fOp mulD (fC (.int 3)) (fVar 16)))) (fC (.int 0))) en)) (fC .non) (fOp ixD (fVar 5) (fVar 16))) [16])) (fSeq (fSh 7 (fCall F_Lsums 4 (fCons (fSl (fVar 3) (some (fC (.int 13))) (some (fC (.int 23)))) (fCons (fVar 4) (fCons (fVar 13) (fCons (fVar 14) (fNil))))))) (fSeq (fSh 8 (fLst (fCons (fTup (fCons (fC (.str "place")) (fCons (fOp ixD (fVar 5) (fC (.int 0))) (fCons (fOp ixD (fVar 5) (fC (.int 1))) (fNil))))) (fCons (fTup (fCons (fC (.str "value")) (fCons (fOp ixD (fVar 7) (fC (.int 0))) (fCons (fOp ixD (fVar 7) (fC (.int 1))) (fNil))))) (fNil))))) (fSeq (fIfS (fun en => tB1 ((fOp eqD (fUn lenD (fVar 14)) (fC (.int 0))) en)) (fRet (fOp ixD (fVar 8) (fOp modD (fUn intD (fOp ixD (fVar 3) (fC (.int 0)))) (fC (.int 2))))) (fNx)) (fSeq (fSh 9 (fOp ixD (fVar 14) (fOp modD (fUn intD (fOp ixD (fVar 3) (fC (.int 23)))) (fUn lenD (fVar 14))))) (fSeq (fSh 10 (fOp ixD (fVar 14) (fOp modD (fUn intD (fOp ixD (fVar 3) (fC (.int 24)))) (fUn lenD (fVar 14))))) (fSeq (fSh 11 (fOp addD (fVar 8) (fLst (fCons (fTup (fCons (fC (.str "rising")) (fCons (fVar 9) (fCons (fOp ixD (fVar 6) (fC (.int 0))) (fCons (fOp ixD (fVar 6) (fC (.int 1))) (fNil)))))) (fNil))))) (fSeq (fSh 11 (fOp addD (fVar 11) (fLst (fCons (fTup (fCons (fC (.str "low")) (fCons (fVar 9) (fCons (fOp ixD (fVar 6) (fC (.int 0))) (fCons (fOp ixD (fVar 6) (fC (.int 1))) (fCons (fOp ixD (fVar 7) (fC (.int 0))) (fNil))))))) (fCons (fTup (fCons (fC (.str "high")) (fCons (fVar 9) (fCons (fOp ixD (fVar 6) (fC (.int 0))) (fCons (fOp ixD (fVar 6) (fC (.int 1))) (fCons (fOp ixD (fVar 7) (fC (.int 0))) (fNil))))))) (fNil)))))) (fSeq (fSh 11 (fOp addD (fVar 11) (fLst (fCons (fTup (fCons (fC (.str "below")) (fCons (fVar 9) (fCons (fOp ixD (fVar 6) (fC (.int 0))) (fCons (fOp ixD (fVar 6) (fC (.int 1))) (fCons (fVar 10) (fCons (fOp ixD (fVar 6) (fC (.int 2))) (fCons (fOp ixD (fVar 6) (fC (.int 3))) (fCons (fOp subD (fOp ixD (fVar 3) (fC (.int 25))) (fC (.int 4))) (fNil)))))))))) (fNil))))) (fSeq (fSh 11 (fOp addD (fVar 11) (fLst (fCons (fTup (fCons (fC (.str "same")) (fCons (fVar 9) (fCons (fVar 10) (fCons (fOp ixD (fVar 6) (fC (.int 0))) (fCons (fOp ixD (fVar 6) (fC (.int 1))) (fCons (fOp subD (fOp ixD (fVar 3) (fC (.int 25))) (fC (.int 4))) (fNil)))))))) (fNil))))) (fRet (fOp ixD (fVar 11) (fOp ixD (fVar 3) (fC (.int 0))))))))))))))))))
def F_Lsaying : List D → Option R := runF b_Lsaying 17
def b_Lscaled_term (F_Lscaled_term : List D → Option R) : En → Option Out := fSeq (fIfS (fun en => tB1 ((fOp isND (fVar 0) (fC .non)) en)) (fRet (fC .non)) (fNx)) (fSeq (fIfS (fun en => tB1 ((fOp eqD (fUn lenD (fVar 0)) (fC (.int 3))) en)) (fRet (fTup (fCons (fOp ixD (fVar 0) (fC (.int 0))) (fCons (fCall F_Lscaled_term 3 (fCons (fOp ixD (fVar 0) (fC (.int 1))) (fCons (fVar 1) (fCons (fC (.int 0)) (fNil))))) (fCons (fOp mulD (fOp ixD (fVar 0) (fC (.int 2))) (fOp ixD (fVar 1) (fC (.int 2)))) (fNil)))))) (fNx)) (fSeq (fSh 3 (fOp mulD (fOp ixD (fVar 0) (fC (.int 1))) (fOp ixD (fVar 1) (fOp mulD (fC (.int 2)) (fVar 2))))) (fSeq (fIfS (fun en => tB1 ((fOp eqD (fOp ixD (fVar 0) (fC (.int 0))) (fC (.str ""))) en)) (fSh 3 (fOp addD (fVar 3) (fOp ixD (fVar 1) (fOp addD (fOp mulD (fC (.int 2)) (fVar 2)) (fC (.int 1)))))) (fNx)) (fRet (fTup (fCons (fOp ixD (fVar 0) (fC (.int 0))) (fCons (fVar 3) (fNil))))))))
def G_Lscaled_term : Nat → List D → Option R
  | 0 => fun _ => none
  | n + 1 => runF (b_Lscaled_term (G_Lscaled_term n)) 4
def F_Lscaled_term : List D → Option R := G_Lscaled_term 8
def b_Lscaled_saying : En → Option Out := fSeq (fIfS (fun en => tB1 ((fOp eqD (fOp ixD (fVar 0) (fC (.int 0))) (fC (.str "place"))) en)) (fRet (fTup (fCons (fC (.str "place")) (fCons (fCall F_Lscaled_term 3 (fCons (fOp ixD (fVar 0) (fC (.int 1))) (fCons (fVar 1) (fCons (fC (.int 0)) (fNil))))) (fCons (fCall F_Lscaled_term 3 (fCons (fOp ixD (fVar 0) (fC (.int 2))) (fCons (fVar 1) (fCons (fC (.int 0)) (fNil))))) (fNil)))))) (fNx)) (fSeq (fIfS (fun en => tB1 ((fOp eqD (fOp ixD (fVar 0) (fC (.int 0))) (fC (.str "value"))) en)) (fRet (fTup (fCons (fC (.str "value")) (fCons (fCall F_Lscaled_term 3 (fCons (fOp ixD (fVar 0) (fC (.int 1))) (fCons (fVar 1) (fCons (fC (.int 1)) (fNil))))) (fCons (fCall F_Lscaled_term 3 (fCons (fOp ixD (fVar 0) (fC (.int 2))) (fCons (fVar 1) (fCons (fC (.int 1)) (fNil))))) (fNil)))))) (fNx)) (fSeq (fSet 2 (fLst (fNil))) (fSeq (fFor (fItems (fVar 0)) (hName 3) (fIfS (fun en => truR ((fUn (isiD "int") (fVar 3)) en)) (fApp 2 (fOp mulD (fVar 3) (fOp ixD (fVar 1) (fC (.int 2))))) (fIfS (fun en => truR ((fUn (isiD "str") (fVar 3)) en)) (fApp 2 (fVar 3)) (fApp 2 (fCall F_Lscaled_term 3 (fCons (fVar 3) (fCons (fVar 1) (fCons (fC (.int 0)) (fNil))))))))) (fSeq (fIfS (fun en => tB1 ((fOp inD (fOp ixD (fVar 0) (fC (.int 0))) (fTup (fCons (fC (.str "low")) (fCons (fC (.str "high")) (fNil))))) en)) (fPut 2 (fC (.int 4)) (fCall F_Lscaled_term 3 (fCons (fOp ixD (fVar 0) (fC (.int 4))) (fCons (fVar 1) (fCons (fC (.int 1)) (fNil)))))) (fNx)) (fRet (fUn tupD (fVar 2)))))))
def F_Lscaled_saying : List D → Option R := runF b_Lscaled_saying 4
def b_Lsame (F_Lsame : List D → Option R) : En → Option Out := fSeq (fIfS (fun en => tB1 ((fOp isND (fVar 1) (fC .non)) en)) (fRet (fOp isND (fVar 0) (fC .non))) (fNx)) (fSeq (fIfS (fOrT (fun en => truR ((fUn (isiD "bool") (fVar 1)) en)) (fun en => truR ((fUn (isiD "bool") (fVar 0)) en))) (fRet (fAndV (fUn (isiD "bool") (fVar 1)) (fAndV (fUn (isiD "bool") (fVar 0)) (fOp eqD (fVar 0) (fVar 1))))) (fNx)) (fSeq (fIfS (fun en => truR ((fUn (isiD "int") (fVar 1)) en)) (fRet (fAndV (fUn (isiD "int") (fVar 0)) (fOp eqD (fVar 0) (fVar 1)))) (fNx)) (fSeq (fIfS (fun en => truR ((fUn (isiD "str") (fVar 1)) en)) (fRet (fAndV (fUn (isiD "str") (fVar 0)) (fOp eqD (fVar 0) (fVar 1)))) (fNx)) (fSeq (fIfS (fun en => truR ((fUn (isiD "dict") (fVar 1)) en)) (fSeq (fIfS (fOrT (fNotT (fun en => truR ((fUn (isiD "dict") (fVar 0)) en))) (fun en => tB1 ((fOp neD (fUn lenD (fVar 0)) (fUn lenD (fVar 1))) en))) (fRet (fC (.bl false))) (fNx)) (fRet (fUn allD (fLc (fItems (fVar 1)) (hName 2) (fYes) (fAndV (fOp inD (fVar 2) (fVar 0)) (fCall F_Lsame 2 (fCons (fOp ixD (fVar 0) (fVar 2)) (fCons (fOp ixD (fVar 1) (fVar 2)) (fNil))))) [2])))) (fNx)) (fSeq (fIfS (fOrT (fun en => tB1 ((fOp neD (fUn (isiD "list") (fVar 1)) (fUn (isiD "list") (fVar 0))) en)) (fun en => tB1 ((fOp neD (fUn (isiD "tuple") (fVar 1)) (fUn (isiD "tuple") (fVar 0))) en))) (fRet (fC (.bl false))) (fNx)) (fSeq (fIfS (fun en => tB1 ((fOp neD (fUn lenD (fVar 0)) (fUn lenD (fVar 1))) en)) (fRet (fC (.bl false))) (fNx)) (fRet (fUn allD (fLc (fIt rng1D (fCons (fUn lenD (fVar 1)) (fNil))) (hName 3) (fYes) (fCall F_Lsame 2 (fCons (fOp ixD (fVar 0) (fVar 3)) (fCons (fOp ixD (fVar 1) (fVar 3)) (fNil)))) [3])))))))))
def G_Lsame : Nat → List D → Option R
  | 0 => fun _ => none
  | n + 1 => runF (b_Lsame (G_Lsame n)) 4
def F_Lsame : List D → Option R := G_Lsame 8
def b_is_whole : En → Option Out := fRet (fAndV (fUn (isiD "int") (fVar 0)) (fNotV (fUn (isiD "bool") (fVar 0))))
def F_is_whole : List D → Option R := runF b_is_whole 1
def b_is_name : En → Option Out := fSeq (fIfS (fOrT (fNotT (fun en => truR ((fUn (isiD "str") (fVar 0)) en))) (fOrT (fun en => tB1 ((fOp eqD (fVar 0) (fC (.str ""))) en)) (fun en => tB1 ((fOp gtD (fUn lenD (fVar 0)) (fC (.int 6))) en)))) (fRet (fC (.bl false))) (fNx)) (fSeq (fFor (fItems (fVar 0)) (hName 1) (fIfS (fun en => tB1 ((fOp notInD (fVar 1) (fC (.str "abcdefghijklmnopqrstuvwxyz"))) en)) (fRet (fC (.bl false))) (fNx))) (fRet (fC (.bl true))))
def F_is_name : List D → Option R := runF b_is_name 2
def b_is_place_term : En → Option Out := fSeq (fIfS (fOrT (fNotT (fun en => truR ((fUn (isiD "tuple") (fVar 0)) en))) (fun en => tB1 ((fOp neD (fUn lenD (fVar 0)) (fC (.int 2))) en))) (fRet (fC (.bl false))) (fNx)) (fRet (fAndV (fOrV (fOp eqD (fOp ixD (fVar 0) (fC (.int 0))) (fC (.str ""))) (fCall F_is_name 1 (fCons (fOp ixD (fVar 0) (fC (.int 0))) (fNil)))) (fCall F_is_whole 1 (fCons (fOp ixD (fVar 0) (fC (.int 1))) (fNil)))))
def F_is_place_term : List D → Option R := runF b_is_place_term 1
def b_copied (F_copied : List D → Option R) : En → Option Out := fSeq (fIfS (fun en => truR ((fUn (isiD "list") (fVar 0)) en)) (fRet (fLc (fItems (fVar 0)) (hName 1) (fYes) (fCall F_copied 1 (fCons (fVar 1) (fNil))) [1])) (fNx)) (fSeq (fIfS (fun en => truR ((fUn (isiD "tuple") (fVar 0)) en)) (fRet (fUn tupD (fLc (fItems (fVar 0)) (hName 1) (fYes) (fCall F_copied 1 (fCons (fVar 1) (fNil))) [1]))) (fNx)) (fRetV 0))
def G_copied : Nat → List D → Option R
  | 0 => fun _ => none
  | n + 1 => runF (b_copied (G_copied n)) 2
def F_copied : List D → Option R := G_copied 8
def b_check_place_term : En → Option Out := fIfS (fNotT (fun en => truR ((fCall F_is_place_term 1 (fCons (fVar 0) (fNil))) en))) (fRaise 2 (fCons (fCall F_copied 1 (fCons (fVar 0) (fNil))) (fNil))) (fNx)
def F_check_place_term : List D → Option R := runF b_check_place_term 1
def b_is_value_term : En → Option Out := fSeq (fIfS (fOrT (fNotT (fun en => truR ((fUn (isiD "tuple") (fVar 0)) en))) (fun en => tB1 ((fOp neD (fUn lenD (fVar 0)) (fC (.int 3))) en))) (fRet (fCall F_is_place_term 1 (fCons (fVar 0) (fNil)))) (fNx)) (fRet (fAndV (fCall F_is_name 1 (fCons (fOp ixD (fVar 0) (fC (.int 0))) (fNil))) (fAndV (fCall F_is_place_term 1 (fCons (fOp ixD (fVar 0) (fC (.int 1))) (fNil))) (fCall F_is_whole 1 (fCons (fOp ixD (fVar 0) (fC (.int 2))) (fNil))))))
def F_is_value_term : List D → Option R := runF b_is_value_term 1
def b_check_value_term : En → Option Out := fSeq (fIfS (fAndT (fun en => truR ((fUn (isiD "tuple") (fVar 0)) en)) (fun en => tB1 ((fOp eqD (fUn lenD (fVar 0)) (fC (.int 3))) en))) (fDrop (fCall F_check_place_term 1 (fCons (fOp ixD (fVar 0) (fC (.int 1))) (fNil)))) (fNx)) (fIfS (fNotT (fun en => truR ((fCall F_is_value_term 1 (fCons (fVar 0) (fNil))) en))) (fRaise 2 (fCons (fCall F_copied 1 (fCons (fVar 0) (fNil))) (fNil))) (fNx))
def F_check_value_term : List D → Option R := runF b_check_value_term 1
def b_check_part : En → Option Out := fSeq (fIfS (fOrT (fun en => tB1 ((fOp eqD (fVar 0) (fC (.str "p"))) en)) (fAndT (fun en => tB1 ((fOp eqD (fVar 0) (fC (.str "e"))) en)) (fun en => tB1 ((fOp notND (fVar 1) (fC .non)) en)))) (fDrop (fCall F_check_place_term 1 (fCons (fVar 1) (fNil)))) (fNx)) (fSeq (fIfS (fun en => tB1 ((fOp eqD (fVar 0) (fC (.str "v"))) en)) (fDrop (fCall F_check_value_term 1 (fCons (fVar 1) (fNil)))) (fNx)) (fIfS (fAndT (fun en => tB1 ((fOp eqD (fVar 0) (fC (.str "a"))) en)) (fNotT (fun en => truR ((fCall F_is_name 1 (fCons (fVar 1) (fNil))) en)))) (fRaise 1 (fCons (fCall F_copied 1 (fCons (fVar 1) (fNil))) (fNil))) (fNx)))
def F_check_part : List D → Option R := runF b_check_part 2
def b_checked : En → Option Out := fSeq (fIfS (fOrT (fNotT (fun en => truR ((fUn (isiD "tuple") (fVar 0)) en))) (fOrT (fun en => tB1 ((fOp eqD (fVar 0) (fTup (fNil))) en)) (fNotT (fun en => truR ((fUn (isiD "str") (fOp ixD (fVar 0) (fC (.int 0)))) en))))) (fRaise 3 (fCons (fCall F_copied 1 (fCons (fVar 0) (fNil))) (fNil))) (fNx)) (fSeq (fSh 1 (fOp (tabG t_FORMS) (fOp ixD (fVar 0) (fC (.int 0))) (fC (.str "")))) (fSeq (fIfS (fOrT (fun en => tB1 ((fOp eqD (fVar 1) (fC (.str ""))) en)) (fun en => tB1 ((fOp neD (fUn lenD (fVar 0)) (fOp addD (fC (.int 1)) (fUn lenD (fVar 1)))) en))) (fRaise 3 (fCons (fCall F_copied 1 (fCons (fVar 0) (fNil))) (fNil))) (fNx)) (fSeq (fIfS (fAndT (fun en => tB1 ((fOp eqD (fOp ixD (fVar 1) (fUn negD (fC (.int 1)))) (fC (.str "k"))) en)) (fNotT (fun en => truR ((fCall F_is_whole 1 (fCons (fOp ixD (fVar 0) (fUn negD (fC (.int 1)))) (fNil))) en)))) (fRaise 3 (fCons (fCall F_copied 1 (fCons (fVar 0) (fNil))) (fNil))) (fNx)) (fSeq (fFor (fIt zipD (fCons (fVar 1) (fCons (fSl (fVar 0) (some (fC (.int 1))) none) (fNil)))) (hTL 2 (hCons (hName 2) (hCons (hName 3) (hNil)))) (fDrop (fCall F_check_part 2 (fCons (fVar 2) (fCons (fVar 3) (fNil)))))) (fRetV 0)))))
def F_checked : List D → Option R := runF b_checked 4
def b_State_arrays : En → Option Out := fRet (fDc (fItems (fUn (fldD 20 "rows") (fVar 0))) (hName 1) (fYes) (fVar 1) (fUn listD (fOp ixD (fUn (fldD 20 "rows") (fVar 0)) (fVar 1))) [1])
def F_State_arrays : List D → Option R := runF b_State_arrays 2
def b_State_place_of : En → Option Out := fSeq (fAsg (hTL 2 (hCons (hName 2) (hCons (hName 3) (hNil)))) (fVar 1)) (fSeq (fIfS (fun en => tB1 ((fOp eqD (fVar 2) (fC (.str ""))) en)) (fRetV 3) (fNx)) (fSeq (fIfS (fun en => tB1 ((fOp notInD (fVar 2) (fUn (fldD 20 "spots") (fVar 0))) en)) (fRaise 5 (fCons (fVar 2) (fNil))) (fNx)) (fRet (fOp addD (fOp ixD (fUn (fldD 20 "spots") (fVar 0)) (fVar 2)) (fVar 3)))))
def F_State_place_of : List D → Option R := runF b_State_place_of 4
def b_cell_at : En → Option Out := fSeq (fSh 2 (fOp ixD (fOp ixD (fVar 0) (fC (.int 0))) (fC (.int 1)))) (fSeq (fFor (fItems (fVar 0)) (hTL 2 (hCons (hName 3) (hCons (hName 4) (hNil)))) (fSeq (fIfS (fun en => tB1 ((fOp gtD (fVar 3) (fVar 1)) en)) ((fun en => some (.bk en))) (fNx)) (fSh 2 (fVar 4)))) (fRetV 2))
def F_cell_at : List D → Option R := runF b_cell_at 5
def b_State_value_of : En → Option Out := fSeq (fIfS (fun en => tB1 ((fOp eqD (fUn lenD (fVar 1)) (fC (.int 3))) en)) (fSeq (fAsg (hTL 3 (hCons (hName 4) (hCons (hName 5) (hCons (hName 3) (hNil))))) (fVar 1)) (fSeq (fIfS (fun en => tB1 ((fOp notInD (fVar 4) (fUn (fldD 20 "rows") (fVar 0))) en)) (fRaise 5 (fCons (fVar 4) (fNil))) (fNx)) (fRet (fOp addD (fCall F_cell_at 2 (fCons (fOp ixD (fUn (fldD 20 "rows") (fVar 0)) (fVar 4)) (fCons (fMeth 20 "place_of" 2 F_State_place_of (fVar 0) (fCons (fVar 5) (fNil))) (fNil)))) (fVar 3))))) (fNx)) (fSeq (fAsg (hTL 2 (hCons (hName 2) (hCons (hName 3) (hNil)))) (fVar 1)) (fSeq (fIfS (fun en => tB1 ((fOp eqD (fVar 2) (fC (.str ""))) en)) (fRetV 3) (fNx)) (fSeq (fIfS (fun en => tB1 ((fOp notInD (fVar 2) (fUn (fldD 20 "amounts") (fVar 0))) en)) (fRaise 5 (fCons (fVar 2) (fNil))) (fNx)) (fRet (fOp addD (fOp ixD (fUn (fldD 20 "amounts") (fVar 0)) (fVar 2)) (fVar 3))))))
def F_State_value_of : List D → Option R := runF b_State_value_of 6
def b_Lcopies_2 : FS := fSeqS (fSetS 1 (fZ true (lft (fDct0)))) (fSeqS (fForS (lftI (fItems (fOp ixD (fVar 0) (fC (.int 2))))) (hName 2) (fPutS (lft (fVar 1)) (lft (fVar 2)) (fZ false (lft (fUn listD (fOp ixD (fOp ixD (fVar 0) (fC (.int 2))) (fVar 2))))))) (fRetS (fTupS (fConsS false (lft (fUn dictD (fOp ixD (fVar 0) (fC (.int 0))))) (fConsS false (lft (fUn dictD (fOp ixD (fVar 0) (fC (.int 1))))) (fConsS false (lft (fVar 1)) (fNilS)))))))
def F_Lcopies_2 : FF := runS b_Lcopies_2 3
def b_Lrich_parts : FS := fSeqS (fSetS 2 (fZ false (fCallS (F_Lcopies_2) 1 (fConsS false (lft (fCall F_Lparts 2 (fCons (fVar 0) (fCons (fVar 1) (fNil))))) (fNilS))))) (fSeqS (fSetS 3 (fZ false (lft (fCall F_Lnames 3 (fCons (fVar 0) (fCons (fOp addD (fVar 1) (fC (.int 1))) (fCons (fC (.int 10)) (fNil)))))))) (fSeqS (fSetS 4 (fZ false (fOpS ixD (lft (fVar 2)) (lft (fC (.int 2)))))) (fSeqS (fPutS (lft (fVar 4)) (lft (fOp ixD (fVar 3) (fC (.int 8)))) (fZ false (lft (fCall F_Lrow 5 (fCons (fVar 0) (fCons (fOp addD (fVar 1) (fC (.int 6))) (fCons (fUn negD (fC (.int 6))) (fCons (fC (.int 15)) (fCons (fC (.int 4)) (fNil)))))))))) (fFrzA 9 (fRetS (lft (fVar 2)))))))
def F_Lrich_parts : FF := runS b_Lrich_parts 5
def b_parts_of : En → Option Out := fSeq (fSh 2 (fUn (tabD t_FORMS) (fOp ixD (fVar 0) (fC (.int 0))))) (fRet (fLc (fIt zipD (fCons (fVar 2) (fCons (fSl (fVar 0) (some (fC (.int 1))) none) (fNil)))) (hTL 2 (hCons (hName 3) (hCons (hName 4) (hNil)))) (fAndT (fun en => tB1 ((fOp inD (fVar 3) (fVar 1)) en)) (fun en => tB1 ((fOp notND (fVar 4) (fC .non)) en))) (fVar 4) [3, 4]))
def F_parts_of : List D → Option R := runF b_parts_of 5
def b_spots_of : En → Option Out := fSeq (fSh 2 (fProp 20 F_State_arrays (fVar 1))) (fSeq (fSet 3 (fDc (fItems (fCall F_parts_of 2 (fCons (fVar 0) (fCons (fC (.str "e")) (fNil))))) (hName 6) (fYes) (fMeth 20 "place_of" 2 F_State_place_of (fVar 1) (fCons (fVar 6) (fNil))) (fC (.bl true)) [6])) (fSeq (fFor (fItems (fCall F_parts_of 2 (fCons (fVar 0) (fCons (fC (.str "a")) (fNil))))) (hName 4) (fFor (fItems (fOp ixD (fVar 2) (fVar 4))) (hName 5) (fPut 3 (fOp ixD (fVar 5) (fC (.int 0))) (fC (.bl true))))) (fRet (fUn sortD (fVar 3)))))
def F_spots_of : List D → Option R := runF b_spots_of 7
def b_end_of : En → Option Out := fSeq (fIfS (fun en => tB1 ((fOp isND (fVar 1) (fC .non)) en)) (fRetV 2) (fNx)) (fRet (fMeth 20 "place_of" 2 F_State_place_of (fVar 0) (fCons (fVar 1) (fNil))))
def F_end_of : List D → Option R := runF b_end_of 3
def b_cells_on : En → Option Out := fSeq (fSh 5 (fOp ixD (fProp 20 F_State_arrays (fVar 0)) (fVar 1))) (fSeq (fSh 6 (fCall F_end_of 3 (fCons (fVar 0) (fCons (fVar 3) (fCons (fUn minLD (fVar 2)) (fNil)))))) (fSeq (fSh 7 (fCall F_end_of 3 (fCons (fVar 0) (fCons (fVar 4) (fCons (fUn maxLD (fVar 2)) (fNil)))))) (fRet (fLc (fItems (fVar 2)) (hName 8) (fun en => tB1 ((fChain leD leD (fVar 6) (fVar 8) (fVar 7)) en)) (fTup (fCons (fVar 8) (fCons (fCall F_cell_at 2 (fCons (fVar 5) (fCons (fVar 8) (fNil)))) (fNil)))) [8]))))
def F_cells_on : List D → Option R := runF b_cells_on 9
def b_false_places : En → Option Out := fSeq (fSh 2 (fOp ixD (fVar 0) (fC (.int 0)))) (fSeq (fSh 3 (fCall F_spots_of 2 (fCons (fVar 0) (fCons (fVar 1) (fNil))))) (fSeq (fIfS (fun en => tB1 ((fOp eqD (fVar 2) (fC (.str "same"))) en)) (fSeq (fAsg (hTL 5 (hCons (hName 6) (hCons (hName 7) (hCons (hName 8) (hCons (hName 9) (hCons (hName 10) (hNil))))))) (fSl (fVar 0) (some (fC (.int 1))) none)) (fSeq (fSh 4 (fCall F_cells_on 5 (fCons (fVar 1) (fCons (fVar 6) (fCons (fVar 3) (fCons (fVar 8) (fCons (fVar 9) (fNil)))))))) (fSeq (fSh 5 (fCall F_cells_on 5 (fCons (fVar 1) (fCons (fVar 7) (fCons (fVar 3) (fCons (fVar 8) (fCons (fVar 9) (fNil)))))))) (fRet (fLc (fIt zipD (fCons (fVar 4) (fCons (fVar 5) (fNil)))) (hTL 2 (hCons (hName 11) (hCons (hName 12) (hNil)))) (fun en => tB1 ((fOp neD (fOp addD (fOp ixD (fVar 11) (fC (.int 1))) (fVar 10)) (fOp ixD (fVar 12) (fC (.int 1)))) en)) (fOp ixD (fVar 11) (fC (.int 0))) [11, 12]))))) (fNx)) (fSeq (fSh 4 (fCall F_cells_on 5 (fCons (fVar 1) (fCons (fOp ixD (fVar 0) (fC (.int 1))) (fCons (fVar 3) (fCons (fOp ixD (fVar 0) (fC (.int 2))) (fCons (fOp ixD (fVar 0) (fC (.int 3))) (fNil)))))))) (fSeq (fIfS (fun en => tB1 ((fOp eqD (fVar 2) (fC (.str "low"))) en)) (fRet (fLc (fItems (fVar 4)) (hTL 2 (hCons (hName 13) (hCons (hName 14) (hNil)))) (fun en => tB1 ((fOp ltD (fVar 14) (fMeth 20 "value_of" 2 F_State_value_of (fVar 1) (fCons (fOp ixD (fVar 0) (fC (.int 4))) (fNil)))) en)) (fVar 13) [13, 14])) (fNx)) (fSeq (fIfS (fun en => tB1 ((fOp eqD (fVar 2) (fC (.str "high"))) en)) (fRet (fLc (fItems (fVar 4)) (hTL 2 (hCons (hName 13) (hCons (hName 14) (hNil)))) (fun en => tB1 ((fOp gtD (fVar 14) (fMeth 20 "value_of" 2 F_State_value_of (fVar 1) (fCons (fOp ixD (fVar 0) (fC (.int 4))) (fNil)))) en)) (fVar 13) [13, 14])) (fNx)) (fSeq (fIfS (fun en => tB1 ((fOp eqD (fVar 2) (fC (.str "rising"))) en)) (fRet (fLc2 (fItems (fVar 4)) (hTL 2 (hCons (hName 15) (hCons (hName 11) (hNil)))) (fYes) (fItems (fVar 4)) (hTL 2 (hCons (hName 16) (hCons (hName 12) (hNil)))) (fAndT (fun en => tB1 ((fOp ltD (fVar 15) (fVar 16)) en)) (fun en => tB1 ((fOp gtD (fVar 11) (fVar 12)) en))) (fTup (fCons (fVar 15) (fCons (fVar 16) (fNil)))) [15, 11, 16, 12] [16, 12])) (fNx)) (fSeq (fSh 5 (fCall F_cells_on 5 (fCons (fVar 1) (fCons (fOp ixD (fVar 0) (fC (.int 4))) (fCons (fVar 3) (fCons (fOp ixD (fVar 0) (fC (.int 5))) (fCons (fOp ixD (fVar 0) (fC (.int 6))) (fNil)))))))) (fRet (fLc2 (fItems (fVar 4)) (hTL 2 (hCons (hName 15) (hCons (hName 11) (hNil)))) (fYes) (fItems (fVar 5)) (hTL 2 (hCons (hName 16) (hCons (hName 12) (hNil)))) (fun en => tB1 ((fOp gtD (fOp addD (fVar 11) (fOp ixD (fVar 0) (fC (.int 7)))) (fVar 12)) en)) (fTup (fCons (fVar 15) (fCons (fVar 16) (fNil)))) [15, 11, 16, 12] [16, 12])))))))))
def F_false_places : List D → Option R := runF b_false_places 17
def b_holds_in : En → Option Out := fSeq (fIfS (fun en => tB1 ((fOp eqD (fOp ixD (fVar 0) (fC (.int 0))) (fC (.str "place"))) en)) (fRet (fOp leD (fMeth 20 "place_of" 2 F_State_place_of (fVar 1) (fCons (fOp ixD (fVar 0) (fC (.int 1))) (fNil))) (fMeth 20 "place_of" 2 F_State_place_of (fVar 1) (fCons (fOp ixD (fVar 0) (fC (.int 2))) (fNil))))) (fNx)) (fSeq (fIfS (fun en => tB1 ((fOp eqD (fOp ixD (fVar 0) (fC (.int 0))) (fC (.str "value"))) en)) (fRet (fOp leD (fMeth 20 "value_of" 2 F_State_value_of (fVar 1) (fCons (fOp ixD (fVar 0) (fC (.int 1))) (fNil))) (fMeth 20 "value_of" 2 F_State_value_of (fVar 1) (fCons (fOp ixD (fVar 0) (fC (.int 2))) (fNil))))) (fNx)) (fRet (fOp eqD (fCall F_false_places 2 (fCons (fVar 0) (fCons (fVar 1) (fNil)))) (fLst (fNil)))))
def F_holds_in : List D → Option R := runF b_holds_in 2
end C
namespace C
open PySem L2 PD
end C
/-! PDM: reckoning with data functions: what they yield, step by step. -/
namespace PD
open PySem L2

def wR (r : Option R) (Q : R → Prop) : Prop := ∃ x, r = some x ∧ Q x
def wB (r : Option RB) (Q : RB → Prop) : Prop := ∃ x, r = some x ∧ Q x
def wA (r : Option RA) (Q : RA → Prop) : Prop := ∃ x, r = some x ∧ Q x
def wO (r : Option Out) (Q : Out → Prop) : Prop := ∃ x, r = some x ∧ Q x
def wG (r : Option (Kd × D)) (Q : Kd → D → Prop) : Prop := ∃ k d, r = some (k, d) ∧ Q k d
/-- a value, or the same error -/
def onV (Q : R → Prop) (K : Kd → D → Prop) : R → Prop
  | .val k d => K k d
  | .er c d => Q (.er c d)
/-- .. in a statement -/
def onS (en : En) (Q : Out → Prop) (K : Kd → D → Prop) : R → Prop
  | .val k d => K k d
  | .er c d => Q (.er en c d)
def onB (en : En) (Q : Out → Prop) (K : Bool → Prop) : RB → Prop
  | .b b => K b
  | .er c d => Q (.er en c d)
def onBR (Q : R → Prop) (K : Bool → Prop) : RB → Prop
  | .b b => K b
  | .er c d => Q (.er c d)
def onA (Q : R → Prop) (K : List D → Prop) : RA → Prop
  | .vals ds => K ds
  | .er c d => Q (.er c d)
def onVB (Q : RB → Prop) (K : Kd → D → Prop) : R → Prop
  | .val k d => K k d
  | .er c d => Q (.er c d)
def onVA (Q : RA → Prop) (K : Kd → D → Prop) : R → Prop
  | .val k d => K k d
  | .er c d => Q (.er c d)
def onAA (Q : RA → Prop) (K : List D → Prop) : RA → Prop
  | .vals ds => K ds
  | .er c d => Q (.er c d)
def onAO (en : En) (Q : Out → Prop) (K : List D → Prop) : RA → Prop
  | .vals ds => K ds
  | .er c d => Q (.er en c d)
def onBB (Q : RB → Prop) (K : Bool → Prop) : RB → Prop
  | .b b => K b
  | .er c d => Q (.er c d)
/-- behind a statement -/
def onO (Q : Out → Prop) (K : En → Prop) : Out → Prop
  | .nx en => K en
  | o => Q o
theorem onV_v {Q K k d} : onV Q K (.val k d) = K k d := rfl
theorem onV_e {Q K c d} : onV Q K (.er c d) = Q (.er c d) := rfl
theorem onS_v {en Q K k d} : onS en Q K (.val k d) = K k d := rfl
theorem onS_e {en Q K c d} : onS en Q K (.er c d) = Q (.er en c d) := rfl
theorem onB_v {en Q K b} : onB en Q K (.b b) = K b := rfl
theorem onB_e {en Q K c d} : onB en Q K (.er c d) = Q (.er en c d) := rfl
theorem onBR_v {Q K b} : onBR Q K (.b b) = K b := rfl
theorem onBR_e {Q K c d} : onBR Q K (.er c d) = Q (.er c d) := rfl
theorem onA_v {Q K ds} : onA Q K (.vals ds) = K ds := rfl
theorem onA_e {Q K c d} : onA Q K (.er c d) = Q (.er c d) := rfl
theorem onVB_v {Q K k d} : onVB Q K (.val k d) = K k d := rfl
theorem onVB_e {Q K c d} : onVB Q K (.er c d) = Q (.er c d) := rfl
theorem onVA_v {Q K k d} : onVA Q K (.val k d) = K k d := rfl
theorem onVA_e {Q K c d} : onVA Q K (.er c d) = Q (.er c d) := rfl
theorem onAA_v {Q K ds} : onAA Q K (.vals ds) = K ds := rfl
theorem onAA_e {Q K c d} : onAA Q K (.er c d) = Q (.er c d) := rfl
theorem onAO_v {en Q K ds} : onAO en Q K (.vals ds) = K ds := rfl
theorem onAO_e {en Q K c d} : onAO en Q K (.er c d) = Q (.er en c d) := rfl
theorem onBB_v {Q K b} : onBB Q K (.b b) = K b := rfl
theorem onBB_e {Q K c d} : onBB Q K (.er c d) = Q (.er c d) := rfl
theorem onO_n {Q K en} : onO Q K (.nx en) = K en := rfl
theorem onO_r {Q K k d} : onO Q K (.rt k d) = Q (.rt k d) := rfl
theorem onO_b {Q K en} : onO Q K (.bk en) = Q (.bk en) := rfl
theorem onO_c {Q K en} : onO Q K (.ct en) = Q (.ct en) := rfl
theorem onO_e {Q K en c d} : onO Q K (.er en c d) = Q (.er en c d) := rfl

theorem wR.mono {r : Option R} {P Q : R → Prop} (h : wR r P) (i : ∀ x, P x → Q x) : wR r Q := let ⟨x, e, p⟩ := h; ⟨x, e, i x p⟩
theorem wB.mono {r : Option RB} {P Q : RB → Prop} (h : wB r P) (i : ∀ x, P x → Q x) : wB r Q := let ⟨x, e, p⟩ := h; ⟨x, e, i x p⟩
theorem wA.mono {r : Option RA} {P Q : RA → Prop} (h : wA r P) (i : ∀ x, P x → Q x) : wA r Q := let ⟨x, e, p⟩ := h; ⟨x, e, i x p⟩
theorem wO.mono {r : Option Out} {P Q : Out → Prop} (h : wO r P) (i : ∀ x, P x → Q x) : wO r Q := let ⟨x, e, p⟩ := h; ⟨x, e, i x p⟩
theorem wR_some {x : R} {Q} : wR (some x) Q = Q x := propext ⟨fun ⟨_, e, q⟩ => by cases e; exact q, fun q => ⟨_, rfl, q⟩⟩
theorem wB_some {x : RB} {Q} : wB (some x) Q = Q x := propext ⟨fun ⟨_, e, q⟩ => by cases e; exact q, fun q => ⟨_, rfl, q⟩⟩
theorem wA_some {x : RA} {Q} : wA (some x) Q = Q x := propext ⟨fun ⟨_, e, q⟩ => by cases e; exact q, fun q => ⟨_, rfl, q⟩⟩
theorem wO_some {x : Out} {Q} : wO (some x) Q = Q x := propext ⟨fun ⟨_, e, q⟩ => by cases e; exact q, fun q => ⟨_, rfl, q⟩⟩
theorem wG_some {k d} {Q} : wG (some (k, d)) Q = Q k d := propext ⟨fun ⟨_, _, e, q⟩ => by cases e; exact q, fun q => ⟨_, _, rfl, q⟩⟩
theorem wR_none {Q : R → Prop} : wR none Q = False := propext ⟨fun ⟨_, e, q⟩ => (by cases e), fun q => False.elim q⟩
theorem wO_none {Q : Out → Prop} : wO none Q = False := propext ⟨fun ⟨_, e, q⟩ => (by cases e), fun q => False.elim q⟩
theorem wG_none {Q : Kd → D → Prop} : wG none Q = False := propext ⟨fun ⟨_, _, e, q⟩ => (by cases e), fun q => False.elim q⟩

section
variable {en : En} {f fa fb fc : En → Option R} {tt ta tb : En → Option RB} {t : En → Option RA} {F F1 F2 : En → Option Out} {Q : R → Prop} {QB : RB → Prop} {QA : RA → Prop} {QO : Out → Prop}
theorem w_bR {a : Option R} {k : D → Option R} : wR (bR a k) Q = wR a (onV Q fun _ d => wR (k d) Q) := by
  apply propext
  unfold bR wR
  constructor
  · rintro ⟨x, e, q⟩
    cases a with
    | none => cases e
    | some a =>
      cases a with
      | val k d => exact ⟨_, rfl, x, e, q⟩
      | er c d => cases e; exact ⟨_, rfl, q⟩
  · rintro ⟨a, rfl, q⟩
    cases a with
    | val k d => exact q
    | er c d => exact ⟨_, rfl, q⟩
theorem w_bA {a : Option RA} {k : List D → Option R} : wR (bA a k) Q = wA a (onA Q fun d => wR (k d) Q) := by
  apply propext
  unfold bA wR wA
  constructor
  · rintro ⟨x, e, q⟩
    cases a with
    | none => cases e
    | some a =>
      cases a with
      | vals d => exact ⟨_, rfl, x, e, q⟩
      | er c d => cases e; exact ⟨_, rfl, q⟩
  · rintro ⟨a, rfl, q⟩
    cases a with
    | vals d => exact q
    | er c d => exact ⟨_, rfl, q⟩
theorem w_lf {g : Option (Kd × D)} : wR (lf g) Q = wG g fun k d => Q (.val k d) := by
  apply propext
  constructor
  · rintro ⟨x, e, q⟩
    obtain ⟨k, d, rfl, rfl⟩ := lf_some e
    exact ⟨k, d, rfl, q⟩
  · rintro ⟨k, d, rfl, q⟩
    exact ⟨_, rfl, q⟩
def okK (K : Kd → D → Prop) : Kd → D → Prop := fun k d => k ≠ .bo ∧ K .sh d
theorem w_shr {a : Option R} : wR (shr a) Q = wR a (onV Q (okK fun k d => Q (.val k d))) := by
  apply propext
  unfold shr wR
  constructor
  · rintro ⟨x, e, q⟩
    cases a with
    | none => cases e
    | some a =>
      cases a with
      | val k d =>
        cases k with
        | sh => cases e; exact ⟨_, rfl, by simp, q⟩
        | nw => cases e; exact ⟨_, rfl, by simp, q⟩
        | bo => cases e
      | er c d => cases e; exact ⟨_, rfl, q⟩
  · rintro ⟨a, rfl, q⟩
    cases a with
    | val k d =>
      obtain ⟨h, q⟩ := q
      cases k with
      | sh => exact ⟨_, rfl, q⟩
      | nw => exact ⟨_, rfl, q⟩
      | bo => exact absurd rfl h
    | er c d => exact ⟨_, rfl, q⟩
theorem okK_s {K d} : okK K .sh d = K .sh d := propext ⟨fun h => h.2, fun h => ⟨by simp, h⟩⟩
theorem okK_n {K d} : okK K .nw d = K .sh d := propext ⟨fun h => h.2, fun h => ⟨by simp, h⟩⟩
theorem w_c {d} : wR (fC d en) Q = Q (.val .sh d) := wR_some
theorem w_var {i} : wR (fVar i en) Q = (match en[i]? with | some (some (.sh d)) => Q (.val .sh d) | some (some (.ow d)) => Q (.val .bo d) | _ => False) := by
  unfold fVar
  generalize en[i]? = o
  rcases o with _ | _ | _ | _ <;> first | exact wR_some | exact wR_none
theorem w_op {g} : wR (fOp g fa fb en) Q = wR (fa en) (onV Q fun _ x => wR (fb en) (onV Q fun _ y => wG (g x y) fun k d => Q (.val k d))) := by
  unfold fOp
  simp only [w_bR, w_lf]
theorem w_un {g} : wR (fUn g fa en) Q = wR (fa en) (onV Q fun _ x => wG (g x) fun k d => Q (.val k d)) := by
  unfold fUn
  simp only [w_bR, w_lf]
theorem w_tB1 {r : Option R} : wB (tB1 r) QB = wR r (onVB QB fun _ d => match d with | .bl b => QB (.b b) | _ => False) := by
  apply propext
  unfold tB1 wB wR
  constructor
  · rintro ⟨x, e, q⟩
    cases r with
    | none => cases e
    | some a =>
      cases a with
      | val k d =>
        cases d with
        | bl b => cases e; exact ⟨_, rfl, q⟩
        | _ => cases e
      | er c d => cases e; exact ⟨_, rfl, q⟩
  · rintro ⟨a, rfl, q⟩
    cases a with
    | val k d =>
      cases d with
      | bl b => exact ⟨_, rfl, q⟩
      | _ => exact q.elim
    | er c d => exact ⟨_, rfl, q⟩
theorem w_truR {r : Option R} : wB (truR r) QB = wR r (onVB QB fun _ d => ∃ b, truD d = some b ∧ QB (.b b)) := by
  apply propext
  unfold truR wB wR
  constructor
  · rintro ⟨x, e, q⟩
    cases r with
    | none => cases e
    | some a =>
      cases a with
      | val k d =>
        obtain ⟨b, hb, rfl⟩ := Option.map_eq_some_iff.mp e
        exact ⟨_, rfl, b, hb, q⟩
      | er c d => cases e; exact ⟨_, rfl, q⟩
  · rintro ⟨a, rfl, q⟩
    cases a with
    | val k d =>
      obtain ⟨b, hb, q⟩ := q
      exact ⟨.b b, by simp [hb], q⟩
    | er c d => exact ⟨_, rfl, q⟩
theorem w_chain {g g'} : wR (fChain g g' fa fb fc en) Q = wR (fa en) (onV Q fun _ x => wR (fb en) (onV Q fun _ y => wG (g x y) fun _ d => match d with
    | .bl true => wR (fc en) (onV Q fun _ z => wG (g' y z) fun k d => Q (.val k d))
    | .bl false => Q (.val .sh (.bl false))
    | _ => False)) := by
  unfold fChain
  simp only [w_bR]
  congr 1
  funext r
  cases r with
  | er c d => rfl
  | val k x =>
    simp only [onV_v]
    congr 1
    funext r
    cases r with
    | er c d => rfl
    | val k y =>
      simp only [onV_v]
      cases hg : g x y with
      | none => simp only [wR_none, wG_none]
      | some kd =>
        obtain ⟨k, d⟩ := kd
        simp only [wG_some]
        cases d with
        | bl b => cases b <;> simp only [w_bR, w_lf, wR_some]
        | _ => simp only [wR_none]
theorem w_andT : wB (fAndT ta tb en) QB = wB (ta en) (onBB QB fun b => if b = true then wB (tb en) QB else QB (.b false)) := by
  apply propext
  unfold fAndT wB
  constructor
  · rintro ⟨x, e, q⟩
    cases h : ta en with
    | none => rw [h] at e; cases e
    | some a =>
      rw [h] at e
      cases a with
      | b k => cases k with
        | true => exact ⟨_, rfl, by simp only [onBB_v, if_true]; exact ⟨x, e, q⟩⟩
        | false => cases e; exact ⟨_, rfl, by simp only [onBB_v]; exact q⟩
      | er c d => cases e; exact ⟨_, rfl, q⟩
  · rintro ⟨a, h, q⟩
    rw [h]
    cases a with
    | b k => cases k with
      | true => simp only [onBB_v, if_true] at q; exact q
      | false => exact ⟨_, rfl, by simpa [onBB_v] using q⟩
    | er c d => exact ⟨_, rfl, q⟩
theorem w_orT : wB (fOrT ta tb en) QB = wB (ta en) (onBB QB fun b => if b = true then QB (.b true) else wB (tb en) QB) := by
  apply propext
  unfold fOrT wB
  constructor
  · rintro ⟨x, e, q⟩
    cases h : ta en with
    | none => rw [h] at e; cases e
    | some a =>
      rw [h] at e
      cases a with
      | b k => cases k with
        | false => exact ⟨_, rfl, by simp only [onBB_v]; exact ⟨x, e, q⟩⟩
        | true => cases e; exact ⟨_, rfl, by simp only [onBB_v, if_true]; exact q⟩
      | er c d => cases e; exact ⟨_, rfl, q⟩
  · rintro ⟨a, h, q⟩
    rw [h]
    cases a with
    | b k => cases k with
      | false => simp only [onBB_v] at q; exact q
      | true => exact ⟨_, rfl, by simpa [onBB_v] using q⟩
    | er c d => exact ⟨_, rfl, q⟩
theorem w_notT : wB (fNotT ta en) QB = wB (ta en) (onBB QB fun b => QB (.b (!b))) := by
  apply propext
  unfold fNotT wB
  constructor
  · rintro ⟨x, e, q⟩
    cases h : ta en with
    | none => rw [h] at e; cases e
    | some a =>
      rw [h] at e
      cases a with
      | b k => cases e; exact ⟨_, rfl, q⟩
      | er c d => cases e; exact ⟨_, rfl, q⟩
  · rintro ⟨a, h, q⟩
    rw [h]
    cases a with
    | b k => exact ⟨_, rfl, q⟩
    | er c d => exact ⟨_, rfl, q⟩
theorem w_andV : wR (fAndV fa fb en) Q = wR (fa en) (onV Q fun _ d => match d with | .bl true => wR (fb en) Q | .bl false => Q (.val .sh (.bl false)) | _ => False) := by
  apply propext
  unfold fAndV wR
  constructor
  · rintro ⟨x, e, q⟩
    cases h : fa en with
    | none => rw [h] at e; cases e
    | some a =>
      rw [h] at e
      cases a with
      | val k d => cases d with
        | bl b => cases b with
          | true => exact ⟨_, rfl, x, e, q⟩
          | false => cases e; exact ⟨_, rfl, q⟩
        | _ => cases e
      | er c d => cases e; exact ⟨_, rfl, q⟩
  · rintro ⟨a, h, q⟩
    rw [h]
    cases a with
    | val k d => cases d with
      | bl b => cases b with
        | true => exact q
        | false => exact ⟨_, rfl, q⟩
      | _ => exact q.elim
    | er c d => exact ⟨_, rfl, q⟩
theorem w_orV : wR (fOrV fa fb en) Q = wR (fa en) (onV Q fun _ d => match d with | .bl false => wR (fb en) Q | .bl true => Q (.val .sh (.bl true)) | _ => False) := by
  apply propext
  unfold fOrV wR
  constructor
  · rintro ⟨x, e, q⟩
    cases h : fa en with
    | none => rw [h] at e; cases e
    | some a =>
      rw [h] at e
      cases a with
      | val k d => cases d with
        | bl b => cases b with
          | false => exact ⟨_, rfl, x, e, q⟩
          | true => cases e; exact ⟨_, rfl, q⟩
        | _ => cases e
      | er c d => cases e; exact ⟨_, rfl, q⟩
  · rintro ⟨a, h, q⟩
    rw [h]
    cases a with
    | val k d => cases d with
      | bl b => cases b with
        | false => exact q
        | true => exact ⟨_, rfl, q⟩
      | _ => exact q.elim
    | er c d => exact ⟨_, rfl, q⟩
theorem w_notV : wR (fNotV fa en) Q = wR (fa en) (onV Q fun _ d => match d with | .bl b => Q (.val .sh (.bl (!b))) | _ => False) := by
  apply propext
  unfold fNotV wR
  constructor
  · rintro ⟨x, e, q⟩
    cases h : fa en with
    | none => rw [h] at e; cases e
    | some a =>
      rw [h] at e
      cases a with
      | val k d => cases d with
        | bl b => cases e; exact ⟨_, rfl, q⟩
        | _ => cases e
      | er c d => cases e; exact ⟨_, rfl, q⟩
  · rintro ⟨a, h, q⟩
    rw [h]
    cases a with
    | val k d => cases d with
      | bl b => exact ⟨_, rfl, q⟩
      | _ => exact q.elim
    | er c d => exact ⟨_, rfl, q⟩
theorem w_if : wR (fIf tt fa fb en) Q = wB (tt en) (onBR Q fun b => if b = true then wR (fa en) Q else wR (fb en) Q) := by
  apply propext
  unfold fIf wR wB
  constructor
  · rintro ⟨x, e, q⟩
    cases h : tt en with
    | none => rw [h] at e; cases e
    | some a =>
      rw [h] at e
      cases a with
      | b k => cases k with
        | true => exact ⟨_, rfl, by simp only [onBR_v, if_true]; exact ⟨x, e, q⟩⟩
        | false => exact ⟨_, rfl, by simp only [onBR_v]; exact ⟨x, e, q⟩⟩
      | er c d => cases e; exact ⟨_, rfl, q⟩
  · rintro ⟨a, h, q⟩
    rw [h]
    cases a with
    | b k => cases k with
      | true => simp only [onBR_v, if_true] at q; exact q
      | false => simp only [onBR_v] at q; exact q
    | er c d => exact ⟨_, rfl, q⟩
theorem w_nil : wA (fNil en) QA = QA (.vals []) := wA_some
theorem w_cons : wA (fCons f t en) QA = wR (f en) (onVA QA (okK fun _ d => wA (t en) (onAA QA fun ds => QA (.vals (d :: ds))))) := by
  apply propext
  unfold fCons
  constructor
  · rintro ⟨x, e, q⟩
    cases h : f en with
    | none => rw [h] at e; cases e
    | some a =>
      rw [h] at e
      have go : ∀ d, (match t en with | some (.vals ds) => some (RA.vals (d :: ds)) | x => x) = some x → wA (t en) (onAA QA fun ds => QA (.vals (d :: ds))) := fun d e => by
        cases ht : t en with
        | none => rw [ht] at e; cases e
        | some b =>
          rw [ht] at e
          cases b with
          | vals ds => cases e; exact ⟨_, rfl, q⟩
          | er c d => cases e; exact ⟨_, rfl, q⟩
      cases a with
      | val k d =>
        cases k with
        | sh => exact ⟨_, rfl, by simp, go d e⟩
        | nw => exact ⟨_, rfl, by simp, go d e⟩
        | bo => cases e
      | er c d => cases e; exact ⟨_, rfl, q⟩
  · rintro ⟨a, h, q⟩
    rw [h]
    cases a with
    | val k d =>
      obtain ⟨hk, b, hb, q⟩ := q
      have go : ∃ x, (match t en with | some (.vals ds) => some (RA.vals (d :: ds)) | x => x) = some x ∧ QA x := by
        rw [hb]
        cases b with
        | vals ds => exact ⟨_, rfl, q⟩
        | er c d => exact ⟨_, rfl, q⟩
      cases k with
      | sh => exact go
      | nw => exact go
      | bo => exact absurd rfl hk
    | er c d => exact ⟨_, rfl, q⟩
theorem w_lst : wR (fLst t en) Q = wA (t en) (onA Q fun ds => ds.length ≤ 16777216 ∧ Q (.val .nw (.lst ds))) := by
  unfold fLst
  rw [w_bA]
  congr 1
  funext r
  cases r with
  | vals ds => simp only [onA_v]; split <;> simp [*, wR_some, wR_none]
  | er c d => rfl
theorem w_tup : wR (fTup t en) Q = wA (t en) (onA Q fun ds => ds.length ≤ 16777216 ∧ Q (.val .sh (.tup ds))) := by
  unfold fTup
  rw [w_bA]
  congr 1
  funext r
  cases r with
  | vals ds => simp only [onA_v]; split <;> simp [*, wR_some, wR_none]
  | er c d => rfl
theorem w_dct0 : wR (fDct0 en) Q = Q (.val .nw (.dct [])) := wR_some
theorem w_call {Fd n} : wR (fCall Fd n t en) Q = wA (t en) (onA Q fun ds => ds.length = n ∧ wR (Fd ds) Q) := by
  unfold fCall
  rw [w_bA]
  congr 1
  funext r
  cases r with
  | vals ds => simp only [onA_v]; split <;> simp [*, wR_none]
  | er c d => rfl
theorem w_bn {g} : wR (fBn g t en) Q = wA (t en) (onA Q fun ds => wG (g ds) fun k d => Q (.val k d)) := by
  unfold fBn
  simp only [w_bA, w_lf]
theorem w_sm {g} : wR (fSm g fa fb en) Q = wR (fa en) (onV Q fun _ x => match x with | .str a => wR (fb en) (onV Q fun _ y => wG (g a y) fun k d => Q (.val k d)) | _ => False) := by
  unfold fSm
  rw [w_bR]
  congr 1
  funext r
  cases r with
  | val k d => cases d <;> simp only [onV_v, w_bR, w_lf, wR_none]
  | er c d => rfl
theorem w_bO {fo} {k : Option Int → Option R} : wR (bO fo en k) Q = (match fo with | none => wR (k none) Q | some g => wR (g en) (onV Q fun _ d => match d with | .int i => wR (k (some i)) Q | _ => False)) := by
  cases fo with
  | none => rfl
  | some g =>
    simp only [bO]
    rw [w_bR]
    congr 1
    funext r
    cases r with
    | val k d => cases d <;> simp only [onV_v, wR_none]
    | er c d => rfl
theorem w_sl {lo hi} : wR (fSl fa lo hi en) Q = wR (fa en) (onV Q fun _ x => wR (bO lo en fun l => bO hi en fun h => lf (slD x l h)) Q) := by
  unfold fSl
  simp only [w_bR]
theorem w_star : wA (fStar f t en) QA = wR (f en) (onVA QA fun _ d => match d with
    | .lst ds => wA (t en) (onAA QA fun es => QA (.vals (ds ++ es)))
    | .tup ds => wA (t en) (onAA QA fun es => QA (.vals (ds ++ es)))
    | _ => False) := by
  apply propext
  unfold fStar wA wR
  constructor
  · rintro ⟨x, e, q⟩
    cases h : f en with
    | none => rw [h] at e; cases e
    | some a =>
      rw [h] at e
      cases a with
      | val k d => cases d with
        | lst ds =>
          refine ⟨_, rfl, ?_⟩
          cases ht : t en with
          | none => simp only [ht] at e; cases e
          | some b =>
            simp only [ht] at e
            cases b with
            | vals es => cases e; exact ⟨_, rfl, q⟩
            | er c d => cases e; exact ⟨_, rfl, q⟩
        | tup ds =>
          refine ⟨_, rfl, ?_⟩
          cases ht : t en with
          | none => simp only [ht] at e; cases e
          | some b =>
            simp only [ht] at e
            cases b with
            | vals es => cases e; exact ⟨_, rfl, q⟩
            | er c d => cases e; exact ⟨_, rfl, q⟩
        | _ => cases e
      | er c d => cases e; exact ⟨_, rfl, q⟩
  · rintro ⟨a, h, q⟩
    rw [h]
    cases a with
    | val k d => cases d with
      | lst ds =>
        obtain ⟨b, hb, q⟩ := q
        simp only [hb]
        cases b with
        | vals es => exact ⟨_, rfl, q⟩
        | er c d => exact ⟨_, rfl, q⟩
      | tup ds =>
        obtain ⟨b, hb, q⟩ := q
        simp only [hb]
        cases b with
        | vals es => exact ⟨_, rfl, q⟩
        | er c d => exact ⟨_, rfl, q⟩
      | _ => exact q.elim
    | er c d => exact ⟨_, rfl, q⟩

/-! ### statements -/
theorem w_bS {a : Option R} {k : Kd → D → Option Out} : wO (bS a en k) QO = wR a (onS en QO fun kd d => wO (k kd d) QO) := by
  apply propext
  unfold bS wR wO
  constructor
  · rintro ⟨x, e, q⟩
    cases a with
    | none => cases e
    | some a =>
      cases a with
      | val k d => exact ⟨_, rfl, x, e, q⟩
      | er c d => cases e; exact ⟨_, rfl, q⟩
  · rintro ⟨a, rfl, q⟩
    cases a with
    | val k d => exact q
    | er c d => exact ⟨_, rfl, q⟩
theorem w_shrS {a : Option R} {K : Kd → D → Prop} : wR (shr a) (onS en QO K) = wR a (onS en QO (okK K)) := by
  rw [w_shr]
  congr 1
theorem w_sh {i} : wO (fSh i f en) QO = wR (f en) (onS en QO (okK fun _ d => QO (.nx (en.set i (some (.sh d)))))) := by
  unfold fSh
  rw [w_bS, w_shrS]
  simp only [wO_some]
theorem w_set {i} : wO (fSet i f en) QO = wR (f en) (onS en QO fun k d => match k with | .sh => QO (.nx (en.set i (some (.sh d)))) | .nw => d.isIns = false ∧ QO (.nx (en.set i (some (.ow d)))) | .bo => False) := by
  unfold fSet
  rw [w_bS]
  congr 1
  funext r
  cases r with
  | val k d =>
    cases k
    · simp [onS_v, stoE, wO]
    · simp only [onS_v, stoE]
      cases d.isIns <;> simp [wO]
    · simp [onS_v, stoE, wO]
  | er c d => rfl
theorem w_omap {α : Type} {o : Option α} {g : α → Out} : wO (o.map g) QO = ∃ y, o = some y ∧ QO (g y) := by
  apply propext
  constructor
  · rintro ⟨x, e, q⟩
    obtain ⟨y, rfl, rfl⟩ := Option.map_eq_some_iff.mp e
    exact ⟨y, rfl, q⟩
  · rintro ⟨y, rfl, q⟩
    exact ⟨_, rfl, q⟩
theorem w_asg {tg} : wO (fAsg tg f en) QO = wR (f en) (onS en QO (okK fun _ d => ∃ en1, tg d en = some en1 ∧ QO (.nx en1))) := by
  unfold fAsg
  rw [w_bS, w_shrS]
  congr 1
  funext r
  cases r with
  | val k d =>
    simp only [onS_v, okK]
    congr 1
    exact w_omap
  | er c d => rfl
theorem w_drop : wO (fDrop f en) QO = wR (f en) (onS en QO fun _ _ => QO (.nx en)) := by
  unfold fDrop
  rw [w_bS]
  simp only [wO_some]
theorem w_ret : wO (fRet f en) QO = wR (f en) (onS en QO fun k d => k ≠ .bo ∧ QO (.rt k d)) := by
  unfold fRet
  rw [w_bS]
  congr 1
  funext r
  cases r with
  | val k d => cases k <;> simp [onS_v, rtK, wO]
  | er c d => rfl
theorem w_retV {i} : wO (fRetV i en) QO = (match en[i]? with | some (some (.sh d)) => QO (.rt .sh d) | some (some (.ow d)) => QO (.rt .nw d) | _ => False) := by
  unfold fRetV
  generalize en[i]? = o
  rcases o with _ | _ | _ | _ <;> first | exact wO_some | exact wO_none
theorem w_retN : wO (fRetN en) QO = QO (.rt .sh .non) := wO_some
theorem w_nx : wO (fNx en) QO = QO (.nx en) := wO_some
theorem w_seq : wO (fSeq F1 F2 en) QO = wO (F1 en) (onO QO fun en1 => wO (F2 en1) QO) := by
  apply propext
  unfold fSeq wO
  constructor
  · rintro ⟨x, e, q⟩
    cases h : F1 en with
    | none => rw [h] at e; cases e
    | some a =>
      rw [h] at e
      cases a with
      | nx en1 => exact ⟨_, rfl, x, e, q⟩
      | _ => cases e; exact ⟨_, rfl, q⟩
  · rintro ⟨a, h, q⟩
    rw [h]
    cases a with
    | nx en1 => exact q
    | _ => exact ⟨_, rfl, q⟩
theorem w_frz {i} : wO (fFrz i F en) QO = wO (F (frzE en i)) QO := rfl
theorem w_ifS : wO (fIfS tt F1 F2 en) QO = wB (tt en) (onB en QO fun b => if b = true then wO (F1 en) QO else wO (F2 en) QO) := by
  apply propext
  unfold fIfS wO wB
  constructor
  · rintro ⟨x, e, q⟩
    cases h : tt en with
    | none => rw [h] at e; cases e
    | some a =>
      rw [h] at e
      cases a with
      | b k => cases k with
        | true => exact ⟨_, rfl, by simp only [onB_v, if_true]; exact ⟨x, e, q⟩⟩
        | false => exact ⟨_, rfl, by simp only [onB_v]; exact ⟨x, e, q⟩⟩
      | er c d => cases e; exact ⟨_, rfl, q⟩
  · rintro ⟨a, h, q⟩
    rw [h]
    cases a with
    | b k => cases k with
      | true => simp only [onB_v, if_true] at q; exact q
      | false => simp only [onB_v] at q; exact q
    | er c d => exact ⟨_, rfl, q⟩
theorem w_app {i} : wO (fApp i f en) QO = (match en[i]? with | some (some (.ow (.lst ds))) => wR (f en) (onS en QO (okK fun _ d => ds.length < 16777216 ∧ QO (.nx (en.set i (some (.ow (.lst (ds ++ [d])))))))) | _ => False) := by
  unfold fApp
  generalize en[i]? = o
  rcases o with _ | _ | _ | x | _
  · exact wO_none
  · exact wO_none
  · exact wO_none
  · cases x with
    | lst ds =>
      simp only []
      rw [w_bS, w_shrS]
      congr 1
      funext r
      cases r with
      | val k d =>
        simp only [onS_v, okK]
        split <;> simp [*, wO]
      | er c d => rfl
    | _ => exact wO_none
  · exact wO_none
theorem w_put {i fk} : wO (fPut i fk f en) QO = (match en[i]? with | some (some (.ow x)) => wR (f en) (onS en QO (okK fun _ v => wR (fk en) (onS en QO fun _ k => ∃ y, putO v x k = some y ∧ QO (.nx (en.set i (some (.ow y))))))) | _ => False) := by
  unfold fPut
  generalize en[i]? = o
  rcases o with _ | _ | _ | x | _
  · exact wO_none
  · exact wO_none
  · exact wO_none
  · simp only []
    rw [w_bS, w_shrS]
    congr 1
    funext r
    cases r with
    | val k d =>
      simp only [onS_v, okK]
      congr 1
      rw [w_bS]
      congr 1
      funext r
      cases r with
      | val k d => simp only [onS_v]; exact w_omap
      | er c d => rfl
    | er c d => rfl
  · exact wO_none

/-! ### walks and loops -/

theorem w_items : wA (fItems f en) QA = wR (f en) (onVA QA (okK fun _ d => ∃ ds, itemsD d = some ds ∧ QA (.vals ds))) := by
  apply propext
  unfold fItems
  constructor
  · rintro ⟨x, e, q⟩
    cases h : f en with
    | none => rw [h] at e; cases e
    | some a =>
      rw [h] at e
      cases a with
      | val k d =>
        cases k with
        | sh => obtain ⟨ds, h1, rfl⟩ := Option.map_eq_some_iff.mp e; exact ⟨_, rfl, by simp, ds, h1, q⟩
        | nw => obtain ⟨ds, h1, rfl⟩ := Option.map_eq_some_iff.mp e; exact ⟨_, rfl, by simp, ds, h1, q⟩
        | bo => cases e
      | er c d => cases e; exact ⟨_, rfl, q⟩
  · rintro ⟨a, h, q⟩
    rw [h]
    cases a with
    | val k d =>
      obtain ⟨hk, ds, h1, q⟩ := q
      cases k with
      | sh => exact ⟨.vals ds, by simp [shr, h1], q⟩
      | nw => exact ⟨.vals ds, by simp [shr, h1], q⟩
      | bo => exact absurd rfl hk
    | er c d => exact ⟨_, rfl, q⟩
theorem w_it {g} : wA (fIt g t en) QA = wA (t en) (onAA QA fun ds => ∃ xs, g ds = some xs ∧ QA (.vals xs)) := by
  apply propext
  unfold fIt
  constructor
  · rintro ⟨x, e, q⟩
    cases h : t en with
    | none => rw [h] at e; cases e
    | some a =>
      rw [h] at e
      cases a with
      | vals ds => obtain ⟨xs, h1, rfl⟩ := Option.map_eq_some_iff.mp e; exact ⟨_, rfl, xs, h1, q⟩
      | er c d => cases e; exact ⟨_, rfl, q⟩
  · rintro ⟨a, h, q⟩
    rw [h]
    cases a with
    | vals ds => obtain ⟨xs, h1, q⟩ := q; exact ⟨.vals xs, by simp [h1], q⟩
    | er c d => exact ⟨_, rfl, q⟩
theorem w_for {it tg} : wO (fFor it tg F en) QO = wA (it en) (onAO en QO fun ds => wO (forD tg F ds en) QO) := by
  apply propext
  unfold fFor wO wA
  constructor
  · rintro ⟨x, e, q⟩
    cases h : it en with
    | none => rw [h] at e; cases e
    | some a =>
      rw [h] at e
      cases a with
      | vals ds => exact ⟨_, rfl, x, e, q⟩
      | er c d => cases e; exact ⟨_, rfl, q⟩
  · rintro ⟨a, h, q⟩
    rw [h]
    cases a with
    | vals ds => exact q
    | er c d => exact ⟨_, rfl, q⟩
/-- a turn's end -/
def onT (Q : Out → Prop) (K : En → Prop) : Out → Prop
  | .nx en => K en
  | .ct en => K en
  | .bk en => Q (.nx en)
  | o => Q o
theorem forD_inv {tg : D → En → Option En} {F : En → Option Out} {QO : Out → Prop} : ∀ (ds : List D) (I : Nat → En → Prop) (en : En), I 0 en →
    (∀ i d en, ds[i]? = some d → I i en → ∃ en1, tg d en = some en1 ∧ wO (F en1) (onT QO (I (i + 1)))) → (∀ en, I ds.length en → QO (.nx en)) → wO (forD tg F ds en) QO
  | [], I, en, h0, _, hd => ⟨_, rfl, hd en h0⟩
  | d :: r, I, en, h0, hs, hd => by
    obtain ⟨en1, e1, o, e2, q⟩ := hs 0 d en rfl h0
    unfold forD
    simp only [e1, e2]
    have rest : ∀ en2, I 1 en2 → wO (forD tg F r en2) QO := fun en2 h => forD_inv r (fun i => I (i + 1)) en2 h (fun i x en' hx h' => hs (i + 1) x en' (by simpa using hx) h') fun en' h' => hd en' h'
    cases o with
    | nx en2 => exact rest en2 q
    | ct en2 => exact rest en2 q
    | bk en2 => exact ⟨_, rfl, q⟩
    | rt k d => exact ⟨_, rfl, q⟩
    | er en2 c d => exact ⟨_, rfl, q⟩
theorem onT_n {Q K en} : onT Q K (.nx en) = K en := rfl
theorem onT_c {Q K en} : onT Q K (.ct en) = K en := rfl
theorem onT_b {Q K en} : onT Q K (.bk en) = Q (.nx en) := rfl
theorem onT_r {Q K k d} : onT Q K (.rt k d) = Q (.rt k d) := rfl
theorem onT_e {Q K en c d} : onT Q K (.er en c d) = Q (.er en c d) := rfl
theorem w_lc {it tg fe vs} : wR (fLc it tg tt fe vs en) Q = wA (it en) (onA Q fun ds => ds.length ≤ 16777216 ∧ ∃ xs, tgIf tg tt fe (wipeE en vs) ds = some xs ∧ Q (.val .nw (.lst xs))) := by
  apply propext
  unfold fLc wA wR
  constructor
  · rintro ⟨x, e, q⟩
    cases h : it en with
    | none => rw [h] at e; cases e
    | some a =>
      rw [h] at e
      cases a with
      | vals ds =>
        refine ⟨_, rfl, ?_⟩
        replace e : (if ds.length ≤ 16777216 then (tgIf tg tt fe (wipeE en vs) ds).map fun xs => R.val .nw (.lst xs) else none) = some x := e
        split at e
        · obtain ⟨xs, h1, rfl⟩ := Option.map_eq_some_iff.mp e
          exact ⟨by assumption, xs, h1, q⟩
        · cases e
      | er c d => cases e; exact ⟨_, rfl, q⟩
  · rintro ⟨a, h, q⟩
    rw [h]
    cases a with
    | vals ds =>
      obtain ⟨hl, xs, h1, q⟩ := q
      exact ⟨_, by simp [hl, h1], q⟩
    | er c d => exact ⟨_, rfl, q⟩
/-! ### defs -/
def onR (Q : R → Prop) : Out → Prop
  | .nx _ => Q (.val .sh .non)
  | .rt k d => Q (.val k d)
  | .er _ c d => Q (.er c d)
  | _ => False
theorem w_run {m ds} : wR (runF F m ds) Q = wO (F (startE m ds)) (onR Q) := by
  apply propext
  unfold runF wO wR
  constructor
  · rintro ⟨x, e, q⟩
    cases h : F (startE m ds) with
    | none => rw [h] at e; cases e
    | some a =>
      rw [h] at e
      cases a <;> first | (cases e; exact ⟨_, rfl, q⟩) | cases e
  · rintro ⟨a, h, q⟩
    rw [h]
    cases a <;> first | exact ⟨_, rfl, q⟩ | exact q.elim
theorem onR_n {Q en} : onR Q (.nx en) = Q (.val .sh .non) := rfl
theorem onR_r {Q k d} : onR Q (.rt k d) = Q (.val k d) := rfl
theorem onR_e {Q en c d} : onR Q (.er en c d) = Q (.er c d) := rfl

/-! ### operations -/
variable {QG : Kd → D → Prop}
theorem g_add {a b : Int} : wG (addD (.int a) (.int b)) QG = QG .sh (.int (a + b)) := wG_some
theorem g_sub {a b : Int} : wG (subD (.int a) (.int b)) QG = QG .sh (.int (a - b)) := wG_some
theorem g_neg {a : Int} : wG (negD (.int a)) QG = QG .sh (.int (-a)) := wG_some
theorem wG_if {c : Prop} [Decidable c] {k d} : wG (if c then some (k, d) else none) QG = (c ∧ QG k d) := by
  split <;> simp [*, wG_some, wG_none]
theorem g_mul {a b : Int} : wG (mulD (.int a) (.int b)) QG = (mulOk a b = true ∧ QG .sh (.int (a * b))) := wG_if
theorem g_rep {a : List D} {b : Int} : wG (mulD (.lst a) (.int b)) QG = ((-(2 ^ 63) ≤ b ∧ b < 2 ^ 63 ∧ a.length * b.toNat ≤ 16777216) ∧ QG .nw (.lst (List.replicate b.toNat a).flatten)) := wG_if
theorem g_fdiv {a b : Int} : wG (fdivD (.int a) (.int b)) QG = ((0 < b ∧ b.natAbs.log2 < 9000) ∧ QG .sh (.int (a / b))) := wG_if
theorem g_mod {a b : Int} : wG (modD (.int a) (.int b)) QG = (0 < b ∧ QG .sh (.int (a % b))) := wG_if
theorem g_pow {a b : Int} : wG (powD (.int a) (.int b)) QG = ((0 ≤ b ∧ b ≤ 1000000 ∧ a.natAbs < 2 ^ 64) ∧ QG .sh (.int (a ^ b.toNat))) := wG_if
theorem g_addS {a b : Str} : wG (addD (.str a) (.str b)) QG = (a.length + b.length ≤ 16777216 ∧ QG .sh (.str (a ++ b))) := wG_if
theorem g_addL {a b : List D} : wG (addD (.lst a) (.lst b)) QG = (a.length + b.length ≤ 16777216 ∧ QG .nw (.lst (a ++ b))) := wG_if
theorem g_cmp0 {f : Int → Int → Bool} {a b : Int} : wG (cmpI0 f (.int a) (.int b)) QG = QG .sh (.bl (f a b)) := wG_some
theorem g_eqI {n} {a b : Int} : wG (eqN n (.int a) (.int b)) QG = QG .sh (.bl (if n then !decide (a = b) else decide (a = b))) := wG_some
theorem g_eqS {n} {a b : Str} : wG (eqN n (.str a) (.str b)) QG = QG .sh (.bl (if n then !decide (a = b) else decide (a = b))) := wG_some
theorem g_eqB {n} {a b : Bool} : wG (eqN n (.bl a) (.bl b)) QG = QG .sh (.bl (if n then !decide (a = b) else decide (a = b))) := wG_some
theorem g_lenL {a : List D} : wG (lenD (.lst a)) QG = QG .sh (.int a.length) := wG_some
theorem g_lenT {a : List D} : wG (lenD (.tup a)) QG = QG .sh (.int a.length) := wG_some
theorem g_lenR {a : List Int} : wG (lenD (.scr a)) QG = QG .sh (.int a.length) := wG_some
theorem g_lenS {a : Str} : wG (lenD (.str a)) QG = (a.length ≤ 16777216 ∧ QG .sh (.int a.length)) := wG_if
theorem g_int {a : Int} : wG (intD (.int a)) QG = QG .sh (.int a) := wG_some
theorem g_intB {a : Bool} : wG (intD (.bl a)) QG = QG .sh (.int (if a then 1 else 0)) := wG_some
theorem g_str {a : Int} : wG (strD (.int a)) QG = (a.natAbs.log2 < 1920 ∧ QG .sh (.str (toString a))) := wG_if
theorem g_listL {a : List D} : wG (listD (.lst a)) QG = QG .nw (.lst a) := wG_some
theorem g_listT {a : List D} : wG (listD (.tup a)) QG = QG .nw (.lst a) := wG_some
theorem g_listM {a : List (Key × D)} : wG (listD (.dct a)) QG = QG .nw (.lst (a.map fun kv => kD kv.1)) := wG_some
theorem g_tup {a : List D} : wG (tupD (.lst a)) QG = QG .sh (.tup a) := wG_some
theorem g_abs {a : Int} : wG (absD (.int a)) QG = QG .sh (.int (if a < 0 then -a else a)) := wG_some
theorem g_max2 {a b : Int} : wG (max2D [.int a, .int b]) QG = QG .sh (.int (if b > a then b else a)) := wG_some
theorem g_min2 {a b : Int} : wG (min2D [.int a, .int b]) QG = QG .sh (.int (if b < a then b else a)) := wG_some
theorem wG_map {α : Type} {o : Option α} {g : α → Kd × D} : wG (o.map g) QG = ∃ x, o = some x ∧ QG (g x).1 (g x).2 := by
  apply propext
  constructor
  · rintro ⟨k, d, e, q⟩
    obtain ⟨x, rfl, e2⟩ := Option.map_eq_some_iff.mp e
    exact ⟨x, rfl, by rw [e2]; exact q⟩
  · rintro ⟨x, rfl, q⟩
    exact ⟨_, _, rfl, q⟩
theorem g_slL {ds : List D} {l h} : wG (slD (.lst ds) l h) QG = QG .nw (.lst (cutD ds l h)) := wG_some
end
theorem start_def (m : Nat) (ds : List D) : startE m ds = ds.map (fun d => some (Sl.sh d)) ++ List.replicate (m - ds.length) none := rfl
end PD
/-! PDT: reckoning: instances, dict displays and comprehensions, number of different things. -/
namespace PD
open PySem L2
/-- of a property: a value -/
def onP (Q : R → Prop) : R → Prop
  | .val k d => Q (.val k d)
  | .er _ _ => False
/-- of a class: its new instance -/
def onM (Q : R → Prop) : R → Prop
  | .val .nw (.ins c fs) => Q (.val .nw (.ins c fs))
  | .er c d => Q (.er c d)
  | _ => False
def onI (Q : R → Prop) : Out → Prop
  | .nx en => wR (selfOf en) Q
  | .er _ c d => Q (.er c d)
  | _ => False
/-- an instance of the class -/
def insK (c0 : Nat) (K : List (Str × D) → Prop) : Kd → D → Prop := fun _ x => match x with
  | .ins c fs => c = c0 ∧ K fs
  | _ => False
section
variable {en : En} {f fa fe : En → Option R} {tt : En → Option RB} {t it : En → Option RA} {F : En → Option Out} {Q : R → Prop} {QO : Out → Prop} {QG : Kd → D → Prop}
theorem onP_v {k d} : onP Q (.val k d) = Q (.val k d) := rfl
theorem onM_v {c fs} : onM Q (.val .nw (.ins c fs)) = Q (.val .nw (.ins c fs)) := rfl
theorem onM_e {c d} : onM Q (.er c d) = Q (.er c d) := rfl
theorem onI_n {en} : onI Q (.nx en) = wR (selfOf en) Q := rfl
theorem onI_e {en c d} : onI Q (.er en c d) = Q (.er c d) := rfl
theorem insK_i {c0 c fs K k} : insK c0 K k (.ins c fs) = (c = c0 ∧ K fs) := rfl
theorem self_i {c fs r} : wR (selfOf (some (.ow (.ins c fs)) :: r)) Q = Q (.val .nw (.ins c fs)) := wR_some
theorem v_bRshr {a : Option R} {k : D → Option R} : wR (bR (shr a) k) Q = wR a (onV Q (okK fun _ d => wR (k d) Q)) := by
  rw [w_bR, w_shr]
  congr 1
theorem w_propV {c0 : Nat} {Fd : List D → Option R} : wR (fProp c0 Fd fa en) Q = wR (fa en) (onV Q (okK fun k x => insK c0 (fun fs => wR (Fd [.ins c0 fs]) (onP Q)) k x)) := by
  unfold fProp
  rw [v_bRshr]
  congr 1
  funext r
  cases r with
  | er c d => rfl
  | val k d =>
    simp only [onV_v]
    congr 1
    funext k' d'
    cases d' with
    | ins c fs =>
      show wR (if c = c0 then _ else none) Q = (c = c0 ∧ _)
      by_cases h : c = c0
      · subst h
        rw [if_pos rfl]
        show _ = (c = c ∧ wR (Fd [.ins c fs]) (onP Q))
        cases hF : Fd [.ins c fs] with
        | none => exact propext ⟨fun ⟨_, e, _⟩ => (by cases e), fun ⟨_, _, e, _⟩ => (by cases e)⟩
        | some r =>
          rw [show wR (some r) (onP Q) = onP Q r from wR_some]
          cases r with
          | val k d => exact wR_some.trans (propext ⟨fun q => ⟨rfl, q⟩, fun q => q.2⟩)
          | er c d => exact propext ⟨fun ⟨_, e, _⟩ => (by cases e), fun q => q.2.elim⟩
      · rw [if_neg h]
        exact propext ⟨fun ⟨_, e, _⟩ => (by cases e), fun q => absurd q.1 h⟩
    | _ => exact wR_none
theorem w_methV {c0 n : Nat} {m : Str} {Fd : List D → Option R} : wR (fMeth c0 m n Fd fa t en) Q = wR (fa en) (onV Q (okK fun k x => insK c0 (fun fs => (fs.lookup m).isNone = true ∧ wA (t en) (onA Q fun ds => (D.ins c0 fs :: ds).length = n ∧ wR (Fd (.ins c0 fs :: ds)) Q)) k x)) := by
  unfold fMeth
  rw [v_bRshr]
  congr 1
  funext r
  cases r with
  | er c d => rfl
  | val k d =>
    simp only [onV_v]
    congr 1
    funext k' d'
    cases d' with
    | ins c fs =>
      show wR (if c = c0 ∧ (fs.lookup m).isNone = true then _ else none) Q = (c = c0 ∧ _)
      by_cases h : c = c0
      · subst h
        by_cases h2 : (fs.lookup m).isNone = true
        · rw [if_pos ⟨rfl, h2⟩, w_bA]
          have : (wA (t en) (onA Q fun ds => wR (if (D.ins c fs :: ds).length = n then Fd (D.ins c fs :: ds) else none) Q)) = wA (t en) (onA Q fun ds => (D.ins c fs :: ds).length = n ∧ wR (Fd (.ins c fs :: ds)) Q) := by
            congr 1
            funext r
            cases r with
            | er c d => rfl
            | vals ds =>
              show wR (if _ then _ else _) Q = (_ ∧ _)
              split
              · rename_i hl; exact propext ⟨fun q => ⟨hl, q⟩, fun q => q.2⟩
              · rename_i hl; exact propext ⟨fun ⟨_, e, _⟩ => (by cases e), fun q => absurd q.1 hl⟩
          rw [this]
          exact propext ⟨fun q => ⟨rfl, h2, q⟩, fun q => q.2.2⟩
        · rw [if_neg fun z => h2 z.2]
          exact propext ⟨fun ⟨_, e, _⟩ => (by cases e), fun q => absurd q.2.1 h2⟩
      · rw [if_neg fun z => h z.1]
        exact propext ⟨fun ⟨_, e, _⟩ => (by cases e), fun q => absurd q.1 h⟩
    | _ => exact wR_none
theorem w_makeV {n : Nat} {Fd : List D → Option R} : wR (fMake n Fd t en) Q = wA (t en) (onA Q fun ds => ds.length = n ∧ wR (Fd ds) (onM Q)) := by
  unfold fMake
  rw [w_bA]
  congr 1
  funext r
  cases r with
  | er c d => rfl
  | vals ds =>
    show wR (if _ then _ else _) Q = (_ ∧ _)
    split
    · rename_i hl
      have : wR (mkR (Fd ds)) Q = wR (Fd ds) (onM Q) := by
        cases Fd ds with
        | none => exact wR_none.trans wR_none.symm
        | some r =>
          rw [wR_some]
          cases r with
          | er c d => exact wR_some
          | val k d => cases k with
            | nw => cases d <;> first | exact wR_some | exact wR_none
            | _ => exact wR_none
      rw [this]
      exact propext ⟨fun q => ⟨hl, q⟩, fun q => q.2⟩
    · rename_i hl; exact propext ⟨fun ⟨_, e, _⟩ => (by cases e), fun q => absurd q.1 hl⟩
theorem w_fldV {c0 i fl} : wO (fFld c0 i fl fe en) QO = (match en[i]? with | some (some (.ow (.ins c fs))) => (c = c0 ∧ fs.length < 1000) ∧ wR (fe en) (onS en QO (okK fun _ d => QO (.nx (en.set i (some (.ow (.ins c (putFD fl d fs)))))))) | _ => False) := by
  unfold fFld
  generalize en[i]? = o
  rcases o with _ | _ | _ | x | _
  · exact wO_none
  · exact wO_none
  · exact wO_none
  · cases x with
    | ins c fs =>
      simp only []
      by_cases h : c = c0 ∧ fs.length < 1000
      · rw [if_pos h, w_bS, w_shrS]
        have : (wR (fe en) (onS en QO (okK fun k d => wO (some (Out.nx (en.set i (some (.ow (.ins c (putFD fl d fs))))))) QO))) = wR (fe en) (onS en QO (okK fun _ d => QO (.nx (en.set i (some (.ow (.ins c (putFD fl d fs)))))))) := by
          congr 1
          funext r
          cases r with
          | er c d => rfl
          | val k d => simp only [onS_v, okK, wO_some]
        rw [this]
        exact propext ⟨fun q => ⟨h, q⟩, fun q => q.2⟩
      · rw [if_neg h]
        exact propext ⟨fun ⟨_, e, _⟩ => (by cases e), fun q => absurd q.1 h⟩
    | _ => exact wO_none
  · exact wO_none
theorem w_lsV {tg vs} : wR (fLs it tg tt fe vs en) Q = wA (it en) (onA Q fun ds => ds.length < 4096 ∧ ∃ ks, scIf tg tt fe (wipeE en vs) ds [] = some ks ∧ Q (.val .sh (.int ks.length))) := by
  unfold fLs
  cases h : it en with
  | none => exact wR_none.trans (propext ⟨False.elim, fun ⟨_, e, _⟩ => (by cases e)⟩)
  | some r =>
    rw [wA_some]
    cases r with
    | er c d => exact wR_some
    | vals ds =>
      show wR (if _ then _ else _) Q = (_ ∧ _)
      split
      · rename_i hl
        cases scIf tg tt fe (wipeE en vs) ds [] with
        | none => exact wR_none.trans (propext ⟨False.elim, fun ⟨_, _, e, _⟩ => (by cases e)⟩)
        | some ks => exact wR_some.trans (propext ⟨fun q => ⟨hl, ks, rfl, q⟩, fun ⟨_, _, e, q⟩ => by cases e; exact q⟩)
      · rename_i hl; exact propext ⟨fun ⟨_, e, _⟩ => (by cases e), fun q => absurd q.1 hl⟩
theorem w_dcV {tg vs} {fk : En → Option R} : wR (fDc it tg tt fk fe vs en) Q = wA (it en) (onA Q fun ds => ds.length ≤ 16777216 ∧ ∃ xs, dcIf tg tt fk fe (wipeE en vs) ds [] = some xs ∧ Q (.val .nw (.dct xs))) := by
  unfold fDc
  cases h : it en with
  | none => exact wR_none.trans (propext ⟨False.elim, fun ⟨_, e, _⟩ => (by cases e)⟩)
  | some r =>
    rw [wA_some]
    cases r with
    | er c d => exact wR_some
    | vals ds =>
      show wR (if _ then _ else _) Q = (_ ∧ _)
      split
      · rename_i hl
        cases dcIf tg tt fk fe (wipeE en vs) ds [] with
        | none => exact wR_none.trans (propext ⟨False.elim, fun ⟨_, _, e, _⟩ => (by cases e)⟩)
        | some ks => exact wR_some.trans (propext ⟨fun q => ⟨hl, ks, rfl, q⟩, fun ⟨_, _, e, q⟩ => by cases e; exact q⟩)
      · rename_i hl; exact propext ⟨fun ⟨_, e, _⟩ => (by cases e), fun q => absurd q.1 hl⟩
theorem w_dispV : wR (fDisp t en) Q = wA (t en) (onA Q fun ds => ds.length ≤ 30 ∧ ∃ xs, dispD ds [] = some xs ∧ Q (.val .nw (.dct xs))) := by
  unfold fDisp
  rw [w_bA]
  congr 1
  funext r
  cases r with
  | er c d => rfl
  | vals ds =>
    show wR (if _ then _ else _) Q = (_ ∧ _)
    split
    · rename_i hl
      cases dispD ds [] with
      | none => exact wR_none.trans (propext ⟨False.elim, fun ⟨_, _, e, _⟩ => (by cases e)⟩)
      | some ks => exact wR_some.trans (propext ⟨fun q => ⟨hl, ks, rfl, q⟩, fun ⟨_, _, e, q⟩ => by cases e; exact q⟩)
    · rename_i hl; exact propext ⟨fun ⟨_, e, _⟩ => (by cases e), fun q => absurd q.1 hl⟩
theorem prs_cons {a b : En → Option R} {r} : fPrs ((a, b) :: r) = fCons a (fCons b (fPrs r)) := rfl
theorem prs_nil' : fPrs [] = fNil := rfl
/-- o.f -/
theorem g_fldV {c0 : Nat} {fl : Str} {fs : List (Str × D)} : wG (fldD c0 fl (.ins c0 fs)) QG = ∃ d, fs.lookup fl = some d ∧ QG .sh d := by
  show wG (if c0 = c0 then (fs.lookup fl).map fun d => (Kd.sh, d) else none) QG = _
  rw [if_pos rfl]
  cases fs.lookup fl with
  | none => exact wG_none.trans (propext ⟨False.elim, fun ⟨_, e, _⟩ => (by cases e)⟩)
  | some d => exact wG_some.trans (propext ⟨fun q => ⟨d, rfl, q⟩, fun ⟨_, e, q⟩ => by cases e; exact q⟩)
theorem g_lenD {dks : List (Key × D)} : wG (lenD (.dct dks)) QG = QG .sh (.int dks.length) := wG_some
theorem g_dictD {dks : List (Key × D)} : wG (dictD (.dct dks)) QG = QG .nw (.dct dks) := wG_some
theorem w_lc2 {it : En → Option RA} {tg tg1 : D → En → Option En} {tt tt1 : En → Option RB} {it1 : En → Option RA} {fe : En → Option R} {vs vs1 : List Nat} {Q : R → Prop} : wR (fLc2 it tg tt it1 tg1 tt1 fe vs vs1 en) Q = wA (it en) (onA Q fun ds => ∃ xs, tgIf2 tg tt it1 tg1 tt1 fe vs1 (wipeE en vs) ds = some xs ∧ (xs.length ≤ 16777216 ∧ Q (.val .nw (.lst xs)))) := by
  apply propext
  unfold fLc2 wA wR
  constructor
  · rintro ⟨x, e, q⟩
    cases h : it en with
    | none => rw [h] at e; cases e
    | some a =>
      rw [h] at e
      cases a with
      | vals ds =>
        refine ⟨_, rfl, ?_⟩
        replace e : (match tgIf2 tg tt it1 tg1 tt1 fe vs1 (wipeE en vs) ds with
          | some xs => if xs.length ≤ 16777216 then some (R.val .nw (.lst xs)) else none
          | none => none) = some x := e
        split at e
        · rename_i xs hx
          split at e
          · cases e
            exact ⟨xs, hx, by assumption, q⟩
          · cases e
        · cases e
      | er c d => cases e; exact ⟨_, rfl, q⟩
  · rintro ⟨a, h, q⟩
    rw [h]
    cases a with
    | vals ds =>
      obtain ⟨xs, hx, hl, q⟩ := q
      exact ⟨_, by simp only [hx, if_pos hl], q⟩
    | er c d => exact ⟨_, rfl, q⟩
end
end PD
/-! PDS: reckoning with a store. -/
namespace PD
open PySem L2
def vR (r : Option (R × So)) (Q : R → So → Prop) : Prop := ∃ x S, r = some (x, S) ∧ Q x S
def vB (r : Option (RB × So)) (Q : RB → So → Prop) : Prop := ∃ x S, r = some (x, S) ∧ Q x S
def vA (r : Option (RA × So)) (Q : RA → So → Prop) : Prop := ∃ x S, r = some (x, S) ∧ Q x S
def vI (r : Option (RI × So)) (Q : RI → So → Prop) : Prop := ∃ x S, r = some (x, S) ∧ Q x S
def vO (r : Option (Out × So)) (Q : Out → So → Prop) : Prop := ∃ x S, r = some (x, S) ∧ Q x S
theorem vR.mono {r : Option (R × So)} {P Q : R → So → Prop} (h : vR r P) (i : ∀ x S, P x S → Q x S) : vR r Q := let ⟨x, S, e, p⟩ := h; ⟨x, S, e, i x S p⟩
theorem vO.mono {r : Option (Out × So)} {P Q : Out → So → Prop} (h : vO r P) (i : ∀ x S, P x S → Q x S) : vO r Q := let ⟨x, S, e, p⟩ := h; ⟨x, S, e, i x S p⟩
theorem vR_some {x : R} {S : So} {Q} : vR (some (x, S)) Q = Q x S := propext ⟨fun ⟨_, _, e, q⟩ => by cases e; exact q, fun q => ⟨_, _, rfl, q⟩⟩
theorem vB_some {x : RB} {S : So} {Q} : vB (some (x, S)) Q = Q x S := propext ⟨fun ⟨_, _, e, q⟩ => by cases e; exact q, fun q => ⟨_, _, rfl, q⟩⟩
theorem vA_some {x : RA} {S : So} {Q} : vA (some (x, S)) Q = Q x S := propext ⟨fun ⟨_, _, e, q⟩ => by cases e; exact q, fun q => ⟨_, _, rfl, q⟩⟩
theorem vI_some {x : RI} {S : So} {Q} : vI (some (x, S)) Q = Q x S := propext ⟨fun ⟨_, _, e, q⟩ => by cases e; exact q, fun q => ⟨_, _, rfl, q⟩⟩
theorem vO_some {x : Out} {S : So} {Q} : vO (some (x, S)) Q = Q x S := propext ⟨fun ⟨_, _, e, q⟩ => by cases e; exact q, fun q => ⟨_, _, rfl, q⟩⟩
theorem vR_none {Q : R → So → Prop} : vR none Q = False := propext ⟨fun ⟨_, _, e, _⟩ => (by cases e), False.elim⟩
theorem vB_none {Q : RB → So → Prop} : vB none Q = False := propext ⟨fun ⟨_, _, e, _⟩ => (by cases e), False.elim⟩
theorem vA_none {Q : RA → So → Prop} : vA none Q = False := propext ⟨fun ⟨_, _, e, _⟩ => (by cases e), False.elim⟩
theorem vI_none {Q : RI → So → Prop} : vI none Q = False := propext ⟨fun ⟨_, _, e, _⟩ => (by cases e), False.elim⟩
theorem vO_none {Q : Out → So → Prop} : vO none Q = False := propext ⟨fun ⟨_, _, e, _⟩ => (by cases e), False.elim⟩
theorem vR_eq {x : R} {S : So} {Q : R → So → Prop} {P : Prop} (h : Q x S = P) : vR (some (x, S)) Q = P := vR_some.trans h
theorem vB_eq {x : RB} {S : So} {Q : RB → So → Prop} {P : Prop} (h : Q x S = P) : vB (some (x, S)) Q = P := vB_some.trans h
theorem vA_eq {x : RA} {S : So} {Q : RA → So → Prop} {P : Prop} (h : Q x S = P) : vA (some (x, S)) Q = P := vA_some.trans h
theorem vI_eq {x : RI} {S : So} {Q : RI → So → Prop} {P : Prop} (h : Q x S = P) : vI (some (x, S)) Q = P := vI_some.trans h
theorem vO_eq {x : Out} {S : So} {Q : Out → So → Prop} {P : Prop} (h : Q x S = P) : vO (some (x, S)) Q = P := vO_some.trans h
theorem vR_qe {x : R} {S : So} {Q : R → So → Prop} {P : Prop} (h : P = Q x S) : P = vR (some (x, S)) Q := h.trans vR_some.symm
theorem vB_qe {x : RB} {S : So} {Q : RB → So → Prop} {P : Prop} (h : P = Q x S) : P = vB (some (x, S)) Q := h.trans vB_some.symm
theorem vA_qe {x : RA} {S : So} {Q : RA → So → Prop} {P : Prop} (h : P = Q x S) : P = vA (some (x, S)) Q := h.trans vA_some.symm
theorem vI_qe {x : RI} {S : So} {Q : RI → So → Prop} {P : Prop} (h : P = Q x S) : P = vI (some (x, S)) Q := h.trans vI_some.symm
theorem wG_qe {k d} {Q : Kd → D → Prop} {P : Prop} (h : P = Q k d) : P = wG (some (k, d)) Q := h.trans wG_some.symm
/-- what comes next -/
def nV (Q : R → So → Prop) (K : Kd → D → So → Prop) : R → So → Prop
  | .val k d, S => K k d S
  | .er c d, S => Q (.er c d) S
def nVB (Q : RB → So → Prop) (K : Kd → D → So → Prop) : R → So → Prop
  | .val k d, S => K k d S
  | .er c d, S => Q (.er c d) S
def nVA (Q : RA → So → Prop) (K : Kd → D → So → Prop) : R → So → Prop
  | .val k d, S => K k d S
  | .er c d, S => Q (.er c d) S
def nVI (Q : RI → So → Prop) (K : Kd → D → So → Prop) : R → So → Prop
  | .val k d, S => K k d S
  | .er c d, S => Q (.er c d) S
def nVO (en : En) (Q : Out → So → Prop) (K : Kd → D → So → Prop) : R → So → Prop
  | .val k d, S => K k d S
  | .er c d, S => Q (.er en c d) S
def nB (Q : RB → So → Prop) (K : Bool → So → Prop) : RB → So → Prop
  | .b b, S => K b S
  | .er c d, S => Q (.er c d) S
def nBR (Q : R → So → Prop) (K : Bool → So → Prop) : RB → So → Prop
  | .b b, S => K b S
  | .er c d, S => Q (.er c d) S
def nBO (en : En) (Q : Out → So → Prop) (K : Bool → So → Prop) : RB → So → Prop
  | .b b, S => K b S
  | .er c d, S => Q (.er en c d) S
def nA (Q : R → So → Prop) (K : List D → So → Prop) : RA → So → Prop
  | .vals ds, S => K ds S
  | .er c d, S => Q (.er c d) S
def nAA (Q : RA → So → Prop) (K : List D → So → Prop) : RA → So → Prop
  | .vals ds, S => K ds S
  | .er c d, S => Q (.er c d) S
def nAI (Q : RI → So → Prop) (K : List D → So → Prop) : RA → So → Prop
  | .vals ds, S => K ds S
  | .er c d, S => Q (.er c d) S
def nAO (en : En) (Q : Out → So → Prop) (K : List D → So → Prop) : RA → So → Prop
  | .vals ds, S => K ds S
  | .er c d, S => Q (.er en c d) S
def nI (Q : R → So → Prop) (K : Wk → Nat → So → Prop) : RI → So → Prop
  | .its w n, S => K w n S
  | .er c d, S => Q (.er c d) S
def nIO (en : En) (Q : Out → So → Prop) (K : Wk → Nat → So → Prop) : RI → So → Prop
  | .its w n, S => K w n S
  | .er c d, S => Q (.er en c d) S
def nO (Q : Out → So → Prop) (K : En → So → Prop) : Out → So → Prop
  | .nx en, S => K en S
  | o, S => Q o S
/-- a plain part -/
def nP (S : So) (Q : R → So → Prop) : R → Prop
  | .val .bo _ => False
  | r => Q r S
def nPB (S : So) (Q : RB → So → Prop) : RB → Prop := fun r => Q r S
def nPA (S : So) (Q : RA → So → Prop) : RA → Prop := fun r => Q r S
def nPI (S : So) (Q : RI → So → Prop) : RA → Prop
  | .vals ds => Q (.its (itL ds) ds.length) S
  | .er c d => Q (.er c d) S
/-- an operator's result -/
def nK (S : So) (Q : R → So → Prop) : Kd → D → Prop
  | .bo, _ => False
  | k, d => Q (.val k d) S
/-- shown -/
def nSh (pm : Bool) (Q : R → So → Prop) : R → So → Prop
  | .val .nw d, S => if pm = true then (match clOf d with | some z => Q (.val .sh (.loc S.length)) (S ++ [z]) | none => False) else Q (.val .sh d) S
  | r, S => Q r S
/-- a list at a place -/
def atL (S : So) (x : D) (K : Nat → List D → Prop) : Prop := match x with
  | .loc n => (match S[n]? with
    | some (.lst xs) => K n xs
    | _ => False)
  | _ => False
theorem atL_l {S : So} {n : Nat} {xs : List D} {K : Nat → List D → Prop} (h : S[n]? = some (.lst xs)) : atL S (.loc n) K = K n xs := by simp only [atL, h]
/-- a place -/
def atC (S : So) (x : D) (K : Nat → Cl → Prop) : Prop := match x with
  | .loc n => (match S[n]? with
    | some z => K n z
    | none => False)
  | _ => False
theorem atC_l {S : So} {n : Nat} {z : Cl} {K : Nat → Cl → Prop} (h : S[n]? = some z) : atC S (.loc n) K = K n z := by simp only [atC, h]
def sK (K : D → So → Prop) : Kd → D → So → Prop
  | .sh, d, S => K d S
  | _, _, _ => False
section
variable {en : En} {S : So} {Q : R → So → Prop} {QB : RB → So → Prop} {QA : RA → So → Prop} {QI : RI → So → Prop} {QO : Out → So → Prop} {f fa fb : FE} {tt ta tb : FT} {t : FA} {F F1 F2 : FS} {it : FI}
theorem nV_v {K k d} : nV Q K (.val k d) S = K k d S := rfl
theorem nV_e {K c d} : nV Q K (.er c d) S = Q (.er c d) S := rfl
theorem nVB_v {K k d} : nVB QB K (.val k d) S = K k d S := rfl
theorem nVB_e {K c d} : nVB QB K (.er c d) S = QB (.er c d) S := rfl
theorem nVA_v {K k d} : nVA QA K (.val k d) S = K k d S := rfl
theorem nVA_e {K c d} : nVA QA K (.er c d) S = QA (.er c d) S := rfl
theorem nVI_v {K k d} : nVI QI K (.val k d) S = K k d S := rfl
theorem nVI_e {K c d} : nVI QI K (.er c d) S = QI (.er c d) S := rfl
theorem nVO_v {K k d} : nVO en QO K (.val k d) S = K k d S := rfl
theorem nVO_e {K c d} : nVO en QO K (.er c d) S = QO (.er en c d) S := rfl
theorem nB_v {K b} : nB QB K (.b b) S = K b S := rfl
theorem nB_e {K c d} : nB QB K (.er c d) S = QB (.er c d) S := rfl
theorem nBR_v {K b} : nBR Q K (.b b) S = K b S := rfl
theorem nBR_e {K c d} : nBR Q K (.er c d) S = Q (.er c d) S := rfl
theorem nBO_v {K b} : nBO en QO K (.b b) S = K b S := rfl
theorem nBO_e {K c d} : nBO en QO K (.er c d) S = QO (.er en c d) S := rfl
theorem nA_v {K ds} : nA Q K (.vals ds) S = K ds S := rfl
theorem nA_e {K c d} : nA Q K (.er c d) S = Q (.er c d) S := rfl
theorem nAA_v {K ds} : nAA QA K (.vals ds) S = K ds S := rfl
theorem nAA_e {K c d} : nAA QA K (.er c d) S = QA (.er c d) S := rfl
theorem nAI_v {K ds} : nAI QI K (.vals ds) S = K ds S := rfl
theorem nAI_e {K c d} : nAI QI K (.er c d) S = QI (.er c d) S := rfl
theorem nAO_v {K ds} : nAO en QO K (.vals ds) S = K ds S := rfl
theorem nAO_e {K c d} : nAO en QO K (.er c d) S = QO (.er en c d) S := rfl
theorem nI_v {K w n} : nI Q K (.its w n) S = K w n S := rfl
theorem nI_e {K c d} : nI Q K (.er c d) S = Q (.er c d) S := rfl
theorem nIO_v {K w n} : nIO en QO K (.its w n) S = K w n S := rfl
theorem nIO_e {K c d} : nIO en QO K (.er c d) S = QO (.er en c d) S := rfl
theorem nO_n {K} : nO QO K (.nx en) S = K en S := rfl
theorem nO_r {K k d} : nO QO K (.rt k d) S = QO (.rt k d) S := rfl
theorem nO_b {K} : nO QO K (.bk en) S = QO (.bk en) S := rfl
theorem nO_c {K} : nO QO K (.ct en) S = QO (.ct en) S := rfl
theorem nO_e {K c d} : nO QO K (.er en c d) S = QO (.er en c d) S := rfl
theorem nP_s {d} : nP S Q (.val .sh d) = Q (.val .sh d) S := rfl
theorem nP_n {d} : nP S Q (.val .nw d) = Q (.val .nw d) S := rfl
theorem nP_e {c d} : nP S Q (.er c d) = Q (.er c d) S := rfl
theorem nPB_b {b} : nPB S QB (.b b) = QB (.b b) S := rfl
theorem nPB_e {c d} : nPB S QB (.er c d) = QB (.er c d) S := rfl
theorem nPA_v {ds} : nPA S QA (.vals ds) = QA (.vals ds) S := rfl
theorem nPA_e {c d} : nPA S QA (.er c d) = QA (.er c d) S := rfl
theorem nPI_v {ds} : nPI S QI (.vals ds) = QI (.its (itL ds) ds.length) S := rfl
theorem nPI_e {c d} : nPI S QI (.er c d) = QI (.er c d) S := rfl
theorem nK_s {d} : nK S Q .sh d = Q (.val .sh d) S := rfl
theorem nK_n {d} : nK S Q .nw d = Q (.val .nw d) S := rfl
theorem nSh_s {pm d} : nSh pm Q (.val .sh d) S = Q (.val .sh d) S := rfl
theorem nSh_e {pm c d} : nSh pm Q (.er c d) S = Q (.er c d) S := rfl
theorem nSh_nf {d} : nSh false Q (.val .nw d) S = Q (.val .sh d) S := rfl
theorem nSh_nl {ds} : nSh true Q (.val .nw (.lst ds)) S = Q (.val .sh (.loc S.length)) (S ++ [.lst ds]) := rfl
theorem nSh_nd {ds} : nSh true Q (.val .nw (.dct ds)) S = Q (.val .sh (.loc S.length)) (S ++ [.dct ds]) := rfl
theorem sK_s {K d} : sK K .sh d S = K d S := rfl
theorem dr_non : drD S .non = .non := rfl
theorem dr_bl {b} : drD S (.bl b) = .bl b := rfl
theorem dr_int {b} : drD S (.int b) = .int b := rfl
theorem dr_str {b} : drD S (.str b) = .str b := rfl
theorem dr_lst {b} : drD S (.lst b) = .lst b := rfl
theorem dr_tup {b} : drD S (.tup b) = .tup b := rfl
theorem dr_dct {b} : drD S (.dct b) = .dct b := rfl
theorem dr_scr {b} : drD S (.scr b) = .scr b := rfl
theorem dr_ins {c fs} : drD S (.ins c fs) = .ins c fs := rfl
theorem dr_locl {n ds} (h : S[n]? = some (.lst ds)) : drD S (.loc n) = .lst ds := by simp only [drD, h]
theorem vB_map {o : Option Bool} : vB (o.map fun b => (RB.b b, S)) QB = ∃ b, o = some b ∧ QB (.b b) S := by
  cases o with
  | none => exact vB_none.trans (propext ⟨False.elim, fun ⟨_, e, _⟩ => by cases e⟩)
  | some b => exact vB_some.trans (propext ⟨fun q => ⟨b, rfl, q⟩, fun ⟨_, e, q⟩ => by cases e; exact q⟩)
theorem vR_ite {p : Prop} [Decidable p] {r : R} : vR (if p then some (r, S) else none) Q = (p ∧ Q r S) := by
  by_cases h : p
  · rw [if_pos h, vR_some]; exact propext ⟨fun q => ⟨h, q⟩, fun q => q.2⟩
  · rw [if_neg h, vR_none]; exact propext ⟨False.elim, fun q => h q.1⟩
theorem vR_iteF {p : Prop} [Decidable p] {r : Option (R × So)} : vR (if p then r else none) Q = (p ∧ vR r Q) := by
  by_cases h : p
  · rw [if_pos h]; exact propext ⟨fun q => ⟨h, q⟩, fun q => q.2⟩
  · rw [if_neg h, vR_none]; exact propext ⟨False.elim, fun q => h q.1⟩
/-! ### the rules -/
theorem v_bJ {a : Option (R × So)} {k : Kd → D → So → Option (R × So)} : vR (bJ a k) Q = vR a (nV Q fun kd d S => vR (k kd d S) Q) := by
  rcases a with _ | ⟨_ | _, S⟩
  · exact vR_none.trans vR_none.symm
  · exact vR_qe rfl
  · exact vR_qe (vR_eq rfl)
theorem v_bT {a : Option (R × So)} {k : D → So → Option (RB × So)} : vB (bT a k) QB = vR a (nVB QB fun _ d S => vB (k d S) QB) := by
  rcases a with _ | ⟨_ | _, S⟩
  · exact vB_none.trans vR_none.symm
  · exact vR_qe rfl
  · exact vR_qe (vB_eq rfl)
theorem v_bTT {a : Option (RB × So)} {k : Bool → So → Option (RB × So)} : vB (bTT a k) QB = vB a (nB QB fun b S => vB (k b S) QB) := by
  rcases a with _ | ⟨_ | _, S⟩
  · exact vB_none.trans vB_none.symm
  · exact vB_qe rfl
  · exact vB_qe (vB_eq rfl)
theorem v_bAS {a : Option (RA × So)} {k : List D → So → Option (R × So)} : vR (bAS a k) Q = vA a (nA Q fun ds S => vR (k ds S) Q) := by
  rcases a with _ | ⟨_ | _, S⟩
  · exact vR_none.trans vA_none.symm
  · exact vA_qe rfl
  · exact vA_qe (vR_eq rfl)
theorem v_bOS {a : Option (R × So)} {k : Kd → D → So → Option (Out × So)} : vO (bOS a en k) QO = vR a (nVO en QO fun kd d S => vO (k kd d S) QO) := by
  rcases a with _ | ⟨_ | _, S⟩
  · exact vO_none.trans vR_none.symm
  · exact vR_qe rfl
  · exact vR_qe (vO_eq rfl)
theorem v_lfS {g : Option (Kd × D)} : vR (lfS g S) Q = wG g (nK S Q) := by
  rcases g with _ | ⟨_ | _ | _, d⟩
  · exact vR_none.trans wG_none.symm
  · exact wG_qe (vR_eq rfl)
  · exact wG_qe (vR_eq rfl)
  · exact wG_qe vR_none
theorem w_lftS {g : En → Option R} : vR (lft g en S) Q = wR (g en) (nP S Q) := by
  unfold lft
  cases h : g en with
  | none => exact vR_none.trans wR_none.symm
  | some r =>
    rw [wR_some]
    cases r with
    | val k d => cases k with
      | sh => exact vR_some
      | nw => exact vR_some
      | bo => exact vR_none
    | er c d => exact vR_some
theorem w_lftT {g : En → Option RB} : vB (lftT g en S) QB = wB (g en) (nPB S QB) := by
  unfold lftT
  cases h : g en with
  | none => exact vB_none.trans (propext ⟨False.elim, fun ⟨_, e, _⟩ => by cases e⟩)
  | some r => rw [wB_some]; exact vB_some
theorem w_lftA {g : En → Option RA} : vA (lftA g en S) QA = wA (g en) (nPA S QA) := by
  unfold lftA
  cases h : g en with
  | none => exact vA_none.trans (propext ⟨False.elim, fun ⟨_, e, _⟩ => by cases e⟩)
  | some r => rw [wA_some]; exact vA_some
theorem w_lftI {g : En → Option RA} : vI (lftI g en S) QI = wA (g en) (nPI S QI) := by
  unfold lftI
  cases h : g en with
  | none => exact vI_none.trans (propext ⟨False.elim, fun ⟨_, e, _⟩ => by cases e⟩)
  | some r =>
    rw [wA_some]
    cases r <;> exact vI_some
theorem w_fZ {pm} : vR (fZ pm f en S) Q = vR (f en S) (nSh pm Q) := by
  unfold fZ
  rcases h : f en S with _ | ⟨_ | _, S1⟩
  · exact vR_none.trans vR_none.symm
  · rename_i k d
    rw [vR_some]
    cases k with
    | nw =>
      cases pm with
      | true =>
        show vR ((clOf d).map fun z => (R.val .sh (.loc S1.length), S1 ++ [z])) Q = match clOf d with | some z => Q (.val .sh (.loc S1.length)) (S1 ++ [z]) | none => False
        cases clOf d with
        | none => exact vR_none
        | some z => exact vR_some
      | false => exact vR_some
    | sh => exact vR_some
    | bo => exact vR_some
  · exact vR_qe (vR_eq rfl)
theorem w_opS {g} : vR (fOpS g fa fb en S) Q = vR (fa en S) (nV Q fun _ x S1 => vR (fb en S1) (nV Q fun _ y S2 => wG (g (drD S2 x) (drD S2 y)) (nK S2 Q))) := by
  unfold fOpS
  simp only [v_bJ, v_lfS]
theorem w_unS {g} : vR (fUnS g fa en S) Q = vR (fa en S) (nV Q fun _ x S1 => wG (g (drD S1 x)) (nK S1 Q)) := by
  unfold fUnS
  simp only [v_bJ, v_lfS]
theorem w_truS : vB (truS f en S) QB = vR (f en S) (nVB QB fun _ d S1 => ∃ b, truD (drD S1 d) = some b ∧ QB (.b b) S1) := by
  unfold truS
  rw [v_bT]
  congr 1
  funext r S1
  cases r with
  | er c d => rfl
  | val k d =>
    exact vB_map
theorem w_cmpT {g} : vB (fCmpT g fa fb en S) QB = vR (fa en S) (nVB QB fun _ x S1 => vR (fb en S1) (nVB QB fun _ y S2 => wG (g (drD S2 x) (drD S2 y)) fun k d => match k, d with
    | .bo, _ => False
    | _, .bl b => QB (.b b) S2
    | _, _ => False)) := by
  unfold fCmpT
  rw [v_bT]
  unfold fOpS
  rw [v_bJ]
  congr 1
  funext r S1
  cases r with
  | er c d => rfl
  | val k x =>
    show vR (bJ _ _) _ = _
    rw [v_bJ]
    congr 1
    funext r S2
    cases r with
    | er c d => rfl
    | val k y =>
      show vR (lfS _ _) _ = _
      rw [v_lfS]
      congr 1
      funext k d
      cases k with
      | bo => rfl
      | sh => cases d <;> first | exact vB_some | exact vB_none
      | nw => cases d <;> first | exact vB_some | exact vB_none
theorem w_andTS : vB (fAndTS ta tb en S) QB = vB (ta en S) (nB QB fun b S1 => if b = true then vB (tb en S1) QB else QB (.b false) S1) := by
  unfold fAndTS
  rw [v_bTT]
  congr 1
  funext r S1
  cases r with
  | er c d => rfl
  | b b => cases b with
    | true => rfl
    | false => exact vB_some
theorem w_orTS : vB (fOrTS ta tb en S) QB = vB (ta en S) (nB QB fun b S1 => if b = true then QB (.b true) S1 else vB (tb en S1) QB) := by
  unfold fOrTS
  rw [v_bTT]
  congr 1
  funext r S1
  cases r with
  | er c d => rfl
  | b b => cases b with
    | true => exact vB_some
    | false => rfl
theorem w_notTS : vB (fNotTS ta en S) QB = vB (ta en S) (nB QB fun b S1 => QB (.b (!b)) S1) := by
  unfold fNotTS
  rw [v_bTT]
  congr 1
  funext r S1
  cases r with
  | er c d => rfl
  | b b => exact vB_some
theorem w_andVS : vR (fAndVS fa fb en S) Q = vR (fa en S) (nV Q fun _ d S1 => match d with | .bl b => if b = true then vR (fb en S1) Q else Q (.val .sh (.bl false)) S1 | _ => False) := by
  unfold fAndVS
  rw [v_bJ]
  congr 1
  funext r S1
  cases r with
  | er c d => rfl
  | val k d => cases d with
    | bl b => cases b with
      | true => rfl
      | false => exact vR_some
    | _ => exact vR_none
theorem w_orVS : vR (fOrVS fa fb en S) Q = vR (fa en S) (nV Q fun _ d S1 => match d with | .bl b => if b = true then Q (.val .sh (.bl true)) S1 else vR (fb en S1) Q | _ => False) := by
  unfold fOrVS
  rw [v_bJ]
  congr 1
  funext r S1
  cases r with
  | er c d => rfl
  | val k d => cases d with
    | bl b => cases b with
      | true => exact vR_some
      | false => rfl
    | _ => exact vR_none
theorem w_notVS : vR (fNotVS fa en S) Q = vR (fa en S) (nV Q fun _ d S1 => match d with | .bl b => Q (.val .sh (.bl (!b))) S1 | _ => False) := by
  unfold fNotVS
  rw [v_bJ]
  congr 1
  funext r S1
  cases r with
  | er c d => rfl
  | val k d => cases d with
    | bl b => exact vR_some
    | _ => exact vR_none
theorem w_ifVS : vR (fIfVS ta fa fb en S) Q = vB (ta en S) (nBR Q fun b S1 => if b = true then vR (fa en S1) Q else vR (fb en S1) Q) := by
  unfold fIfVS
  rcases h : ta en S with _ | ⟨_ | _, S1⟩
  · exact vR_none.trans vB_none.symm
  · rename_i b
    rw [vB_some]
    cases b with
    | true => rfl
    | false => rfl
  · exact vB_qe (vR_eq rfl)
theorem w_nilS : vA (fNilS en S) QA = QA (.vals []) S := vA_some
theorem w_consS {pm} : vA (fConsS pm f t en S) QA = vR (f en S) (nSh pm (nVA QA (sK fun d S1 => vA (t en S1) (nAA QA fun ds S2 => QA (.vals (d :: ds)) S2)))) := by
  have e : vR (f en S) (nSh pm (nVA QA (sK fun d S1 => vA (t en S1) (nAA QA fun ds S2 => QA (.vals (d :: ds)) S2)))) = vR (fZ pm f en S) (nVA QA (sK fun d S1 => vA (t en S1) (nAA QA fun ds S2 => QA (.vals (d :: ds)) S2))) := w_fZ.symm
  rw [e]
  unfold fConsS
  rcases h : fZ pm f en S with _ | ⟨_ | _, S1⟩
  · exact vA_none.trans vR_none.symm
  · rename_i k d
    rw [vR_some]
    cases k with
    | nw => exact vA_none
    | bo => exact vA_none
    | sh =>
      show vA (match t en S1 with | some (.vals ds, S2) => some (RA.vals (d :: ds), S2) | x => x) QA = vA (t en S1) _
      rcases h2 : t en S1 with _ | ⟨_ | _, S2⟩
      · exact vA_none.trans vA_none.symm
      · exact vA_qe (vA_eq rfl)
      · exact vA_qe (vA_eq rfl)
  · exact vR_qe (vA_eq rfl)
theorem w_lstS : vR (fLstS t en S) Q = vA (t en S) (nA Q fun ds S1 => ds.length ≤ 16777216 ∧ Q (.val .nw (.lst ds)) S1) := by
  unfold fLstS
  rw [v_bAS]
  congr 1
  funext r S1
  cases r with
  | er c d => rfl
  | vals ds => exact vR_ite
theorem w_tupS : vR (fTupS t en S) Q = vA (t en S) (nA Q fun ds S1 => ds.length ≤ 16777216 ∧ Q (.val .sh (.tup ds)) S1) := by
  unfold fTupS
  rw [v_bAS]
  congr 1
  funext r S1
  cases r with
  | er c d => rfl
  | vals ds => exact vR_ite
theorem w_callS {Fd : FF} {n : Nat} : vR (fCallS Fd n t en S) Q = vA (t en S) (nA Q fun ds S1 => ds.length = n ∧ vR (Fd ds S1) Q) := by
  unfold fCallS
  rw [v_bAS]
  congr 1
  funext r S1
  cases r with
  | er c d => rfl
  | vals ds => exact vR_iteF
theorem w_ofP {Fd : List D → Option R} {ds : List D} : vR (ofP Fd ds S) Q = wR (Fd ds) (nP S Q) := by
  unfold ofP
  cases h : Fd ds with
  | none => exact vR_none.trans wR_none.symm
  | some r =>
    rw [wR_some]
    cases r with
    | val k d => cases k with
      | sh => exact vR_some
      | nw => exact vR_some
      | bo => exact vR_none
    | er c d => exact vR_some
theorem w_bnS {g} : vR (fBnS g t en S) Q = vA (t en S) (nA Q fun ds S1 => wG (g ds) (nK S1 Q)) := by
  unfold fBnS
  simp only [v_bAS, v_lfS]
theorem w_snap {fu} {g : En → Option R} : vR (fSnap fu g en S) Q = wR (g (snapE fu S en)) (fun r => match r with | .val _ d => gdD d = true ∧ Q (.val .sh d) S | .er _ _ => False) := by
  unfold fSnap
  cases h : g (snapE fu S en) with
  | none => exact vR_none.trans wR_none.symm
  | some r =>
    rw [wR_some]
    cases r with
    | val k d => exact vR_ite
    | er c d => exact vR_none
theorem v_lstAt {x : D} {k : Nat → List D → Option (R × So)} : vR (lstAt S x k) Q = atL S x fun n xs => vR (k n xs) Q := by
  cases x with
  | loc n =>
    simp only [lstAt, atL]
    cases S[n]? with
    | none => exact vR_none
    | some z => cases z <;> first | rfl | exact vR_none
  | _ => exact vR_none
theorem v_omap {α : Type} {o : Option α} {g : α → R × So} : vR (o.map g) Q = ∃ y, o = some y ∧ Q (g y).1 (g y).2 := by
  cases o with
  | none => exact vR_none.trans (propext ⟨False.elim, fun ⟨_, e, _⟩ => by cases e⟩)
  | some y => exact vR_some.trans (propext ⟨fun q => ⟨y, rfl, q⟩, fun ⟨_, e, q⟩ => by cases e; exact q⟩)
theorem w_mtS {op : List D → List D → Option (List D × D)} : vR (fMtS op fa t en S) Q = vR (fa en S) (nV Q fun _ x S1 => atL S1 x fun _ _ => vA (t en S1) (nA Q fun ds S2 => atL S2 x fun n xs => ∃ y, op xs ds = some y ∧ Q (.val .sh y.2) (S2.set n (.lst y.1)))) := by
  unfold fMtS
  simp only [v_bJ, v_lstAt, v_bAS, v_omap]
theorem w_mt0S {op : List D → List D → Option (List D × D)} : vR (fMt0S op fa en S) Q = vR (fa en S) (nV Q fun _ x S1 => atL S1 x fun n xs => ∃ y, op xs [] = some y ∧ Q (.val .sh y.2) (S1.set n (.lst y.1))) := by
  unfold fMt0S
  simp only [v_bJ, v_lstAt, v_omap]
theorem w_setS {i} : vO (fSetS i f en S) QO = vR (f en S) (nVO en QO (sK fun d S1 => QO (.nx (en.set i (some (.sh d)))) S1)) := by
  unfold fSetS
  rw [v_bOS]
  congr 1
  funext r S1
  cases r with
  | er c d => rfl
  | val k d => cases k with
    | sh => exact vO_some
    | nw => exact vO_none
    | bo => exact vO_none
theorem w_asgS {tg : D → En → Option En} : vO (fAsgS tg f en S) QO = vR (f en S) (nVO en QO (sK fun d S1 => ∃ en1, tg d en = some en1 ∧ QO (.nx en1) S1)) := by
  unfold fAsgS
  rw [v_bOS]
  congr 1
  funext r S1
  cases r with
  | er c d => rfl
  | val k d => cases k with
    | sh =>
      show vO (Option.map _ (tg d en)) _ = ∃ _, _
      cases tg d en with
      | none => exact vO_none.trans (propext ⟨False.elim, fun ⟨_, e, _⟩ => by cases e⟩)
      | some en1 => exact vO_some.trans (propext ⟨fun q => ⟨en1, rfl, q⟩, fun ⟨_, e, q⟩ => by cases e; exact q⟩)
    | nw => exact vO_none
    | bo => exact vO_none
theorem w_dropS : vO (fDropS f en S) QO = vR (f en S) (nVO en QO fun _ _ S1 => QO (.nx en) S1) := by
  unfold fDropS
  rw [v_bOS]
  congr 1
  funext r S1
  cases r with
  | er c d => rfl
  | val k d => exact vO_some
theorem w_retS : vO (fRetS f en S) QO = vR (f en S) (nVO en QO fun k d S1 => QO (.rt k d) S1) := by
  unfold fRetS
  rw [v_bOS]
  congr 1
  funext r S1
  cases r with
  | er c d => rfl
  | val k d => exact vO_some
theorem w_retNS : vO (fRetNS en S) QO = QO (.rt .sh .non) S := vO_some
theorem w_nxS : vO (fNxS en S) QO = QO (.nx en) S := vO_some
theorem w_bkS : vO (fBkS en S) QO = QO (.bk en) S := vO_some
theorem w_ctS : vO (fCtS en S) QO = QO (.ct en) S := vO_some
theorem w_seqS : vO (fSeqS F1 F2 en S) QO = vO (F1 en S) (nO QO fun en1 S1 => vO (F2 en1 S1) QO) := by
  unfold fSeqS
  rcases h : F1 en S with _ | ⟨o, S1⟩
  · exact vO_none.trans vO_none.symm
  · rw [vO_some]
    cases o with
    | nx en1 => rfl
    | _ => exact vO_some
theorem w_ifSS : vO (fIfSS tt F1 F2 en S) QO = vB (tt en S) (nBO en QO fun b S1 => if b = true then vO (F1 en S1) QO else vO (F2 en S1) QO) := by
  unfold fIfSS
  rcases h : tt en S with _ | ⟨_ | _, S1⟩
  · exact vO_none.trans vB_none.symm
  · rename_i b
    rw [vB_some]
    cases b with
    | true => rfl
    | false => rfl
  · exact vB_qe (vO_eq rfl)
theorem v_locC {x : D} {k : Nat → Cl → Option (Out × So)} : vO (locC S x k) QO = atC S x fun n z => vO (k n z) QO := by
  cases x with
  | loc n =>
    simp only [locC, atC]
    cases S[n]? with
    | none => exact vO_none
    | some z => rfl
  | _ => exact vO_none
theorem v_shO {k : D → So → Option (Out × So)} {kd : Kd} {d : D} : vO (shO k kd d S) QO = sK (fun d S1 => vO (k d S1) QO) kd d S := by
  cases kd with
  | sh => rfl
  | nw => exact vO_none
  | bo => exact vO_none
theorem v_omapO {α : Type} {o : Option α} {g : α → Out × So} : vO (o.map g) QO = ∃ y, o = some y ∧ QO (g y).1 (g y).2 := by
  cases o with
  | none => exact vO_none.trans (propext ⟨False.elim, fun ⟨_, e, _⟩ => by cases e⟩)
  | some y => exact vO_some.trans (propext ⟨fun q => ⟨y, rfl, q⟩, fun ⟨_, e, q⟩ => by cases e; exact q⟩)
theorem w_putS {fk} : vO (fPutS fa fk f en S) QO = vR (f en S) (nVO en QO fun k v S1 => sK (fun v S1 => vR (fa en S1) (nVO en QO fun _ x S2 => vR (fk en S2) (nVO en QO fun _ k S3 => atC S3 x fun n z => ∃ z', putC v k z = some z' ∧ QO (.nx en) (S3.set n z')))) k v S1) := by
  unfold fPutS
  simp only [v_bOS, v_shO, v_locC, v_omapO]
theorem w_forS {tg : D → En → Option En} : vO (fForS it tg F en S) QO = vI (it en S) (nIO en QO fun w n S1 => vO (forS tg F w n 0 en S1) QO) := by
  unfold fForS
  rcases h : it en S with _ | ⟨_ | _, S1⟩
  · exact vO_none.trans vI_none.symm
  · exact vI_qe rfl
  · exact vI_qe (vO_eq rfl)
theorem w_itemsS : vI (fItemsS f en S) QI = vR (f en S) (nSh false (nVI QI (sK fun d S1 => ∃ w, itV S1 d = some w ∧ QI (.its w.1 w.2) S1))) := by
  have e : vR (f en S) (nSh false (nVI QI (sK fun d S1 => ∃ w, itV S1 d = some w ∧ QI (.its w.1 w.2) S1))) = vR (fZ false f en S) (nVI QI (sK fun d S1 => ∃ w, itV S1 d = some w ∧ QI (.its w.1 w.2) S1)) := w_fZ.symm
  rw [e]
  unfold fItemsS
  rcases h : fZ false f en S with _ | ⟨_ | _, S1⟩
  · exact vI_none.trans vR_none.symm
  · rename_i k d
    rw [vR_some]
    cases k with
    | nw => exact vI_none
    | bo => exact vI_none
    | sh =>
      show vI (Option.map _ (itV S1 d)) _ = ∃ _, _
      cases itV S1 d with
      | none => exact vI_none.trans (propext ⟨False.elim, fun ⟨_, e, _⟩ => by cases e⟩)
      | some w => exact vI_some.trans (propext ⟨fun q => ⟨w, rfl, q⟩, fun ⟨_, e, q⟩ => by cases e; exact q⟩)
  · exact vR_qe (vI_eq rfl)
theorem w_itS {g} : vI (fItS g t en S) QI = vA (t en S) (nAI QI fun ds S1 => ∃ xs, g ds = some xs ∧ QI (.its (itL xs) xs.length) S1) := by
  unfold fItS
  rcases h : t en S with _ | ⟨_ | _, S1⟩
  · exact vI_none.trans vA_none.symm
  · rename_i ds
    rw [vA_some]
    show vI (Option.map _ (g ds)) _ = ∃ _, _
    cases g ds with
    | none => exact vI_none.trans (propext ⟨False.elim, fun ⟨_, e, _⟩ => by cases e⟩)
    | some w => exact vI_some.trans (propext ⟨fun q => ⟨w, rfl, q⟩, fun ⟨_, e, q⟩ => by cases e; exact q⟩)
  · exact vA_qe (vI_eq rfl)
theorem w_lcS {tg : D → En → Option En} {fe : FE} {vs : List Nat} : vR (fLcS it tg tt fe vs en S) Q = vI (it en S) (nI Q fun w n S1 => n ≤ 16777216 ∧ ∃ y, tgS tg tt fe (wipeE en vs) w n 0 S1 = some y ∧ Q (.val .nw (.lst y.1)) y.2) := by
  unfold fLcS
  rcases h : it en S with _ | ⟨_ | _, S1⟩
  · exact vR_none.trans vI_none.symm
  · rename_i w n
    rw [vI_some]
    show vR (if _ then _ else _) _ = (_ ∧ _)
    split
    · rename_i hn
      cases tgS tg tt fe (wipeE en vs) w n 0 S1 with
      | none => exact vR_none.trans (propext ⟨False.elim, fun ⟨_, _, e, _⟩ => by cases e⟩)
      | some y => exact vR_some.trans (propext ⟨fun q => ⟨hn, y, rfl, q⟩, fun ⟨_, _, e, q⟩ => by cases e; exact q⟩)
    · rename_i hn
      exact vR_none.trans (propext ⟨False.elim, fun ⟨h, _⟩ => hn h⟩)
  · exact vI_qe (vR_eq rfl)
theorem w_raiseS {ci : Nat} : vO (fRaiseS ci t en S) QO = vA (t en S) (nAO en QO fun ds S1 => match ds with | [d] => QO (.er en ci d) S1 | _ => False) := by
  unfold fRaiseS
  rcases h : t en S with _ | ⟨_ | _, S1⟩
  · exact vO_none.trans vA_none.symm
  · rename_i ds
    rw [vA_some]
    match ds with
    | [] => exact vO_none
    | [d] => exact vO_some
    | _ :: _ :: _ => exact vO_none
  · exact vA_qe (vO_eq rfl)
theorem w_runS {m : Nat} {ds : List D} : vR (runS F m ds S) Q = vO (F (startE m ds) S) (fun o S1 => match o with | .nx _ => Q (.val .sh .non) S1 | .rt k d => Q (.val k d) S1 | .er _ c d => Q (.er c d) S1 | _ => False) := by
  unfold runS
  rcases h : F (startE m ds) S with _ | ⟨o, S1⟩
  · exact vR_none.trans vO_none.symm
  · rw [vO_some]
    cases o with
    | nx en => exact vR_some
    | rt k d => exact vR_some
    | er en c d => exact vR_some
    | bk en => exact vR_none
    | ct en => exact vR_none
end
end PD
/-! PDZ: the lazy rules (printed by mkz.py). -/
namespace PD
open PySem L2
structure Tg {α : Type} (f : α) : Type where
/-- a continuation, shut -/
def Z {α : Type} (f : α) (_ : Tg f) : α := f
theorem Z1 {α : Type} {β : Type} {f : α → β} {t : Tg f} {x : α} : Z f t x = f x := rfl
theorem Z2 {α α2 : Type} {β : Type} {f : α → α2 → β} {t : Tg f} {x : α} {y : α2} : Z f t x y = f x y := rfl
theorem Z3 {α α2 α3 : Type} {β : Type} {f : α → α2 → α3 → β} {t : Tg f} {x : α} {y : α2} {z : α3} : Z f t x y z = f x y z := rfl
/-- a value that is there -/
def exO {α : Type} (o : Option α) (P : α → Prop) : Prop := ∃ y, o = some y ∧ P y
theorem exO_some {α : Type} {x : α} {P : α → Prop} : exO (some x) P = P x := propext ⟨fun ⟨_, e, p⟩ => by cases e; exact p, fun p => ⟨_, rfl, p⟩⟩
theorem hTL_l {n : Nat} {hs : List D → En → Option En} {ds : List D} {en : En} : hTL n hs (.lst ds) en = if ds.length = n then hs ds en else none := rfl
theorem hTL_t {n : Nat} {hs : List D → En → Option En} {ds : List D} {en : En} : hTL n hs (.tup ds) en = if ds.length = n then hs ds en else none := rfl
theorem hName_e {i : Nat} {d : D} {en : En} : hName i d en = some (en.set i (some (.sh d))) := rfl
theorem hCons_c {h : D → En → Option En} {hs : List D → En → Option En} {d : D} {r : List D} {en : En} : hCons h hs (d :: r) en = (h d en).bind (fun en1 => hs r en1) := rfl
theorem hNil_n {en : En} : hNil [] en = some en := rfl
theorem bind_so {α β : Type} {x : α} {f : α → Option β} : (some x).bind f = f x := rfl
theorem isIns_l {ds : List D} : D.isIns (.lst ds) = false := rfl
theorem isIns_d {ds : List (Key × D)} : D.isIns (.dct ds) = false := rfl
theorem isIns_t {ds : List D} : D.isIns (.tup ds) = false := rfl
theorem it_l {ds : List D} : itemsD (.lst ds) = some ds := rfl
theorem it_t {ds : List D} : itemsD (.tup ds) = some ds := rfl
theorem it_r {ds : List Int} : itemsD (.scr ds) = some (ds.map .int) := rfl
section
variable {en : En} {f fa fb fc : En → Option R} {tt ta tb : En → Option RB} {t : En → Option RA} {F F1 F2 : En → Option Out} {Q : R → Prop} {QB : RB → Prop} {QA : RA → Prop} {QO : Out → Prop}
theorem z_lf {g : Option (Kd × D)} : wR (lf g) Q = wG g (Z (fun k d => Q (.val k d)) ⟨⟩) := w_lf
theorem z_shr {a : Option R} : wR (shr a) Q = wR a (onV Q (okK (Z (fun k d => Q (.val k d)) ⟨⟩))) := w_shr
theorem z_op {g} : wR (fOp g fa fb en) Q = wR (fa en) (onV Q (Z (fun _ x => wR (fb en) (onV Q (Z (fun _ y => wG (g x y) (Z (fun k d => Q (.val k d)) ⟨⟩)) ⟨⟩))) ⟨⟩)) := w_op
theorem z_un {g} : wR (fUn g fa en) Q = wR (fa en) (onV Q (Z (fun _ x => wG (g x) (Z (fun k d => Q (.val k d)) ⟨⟩)) ⟨⟩)) := w_un
theorem z_tB1 {r : Option R} : wB (tB1 r) QB = wR r (onVB QB (Z (fun _ d => match d with | .bl b => QB (.b b) | _ => False) ⟨⟩)) := w_tB1
theorem z_truR {r : Option R} : wB (truR r) QB = wR r (onVB QB (Z (fun _ d => exO (truD d) ((Z (fun b => QB (.b b)) ⟨⟩))) ⟨⟩)) := w_truR
theorem z_chain {g g'} : wR (fChain g g' fa fb fc en) Q = wR (fa en) (onV Q (Z (fun _ x => wR (fb en) (onV Q (Z (fun _ y => wG (g x y) (Z (fun _ d => match d with
    | .bl true => wR (fc en) (onV Q (Z (fun _ z => wG (g' y z) (Z (fun k d => Q (.val k d)) ⟨⟩)) ⟨⟩))
    | .bl false => Q (.val .sh (.bl false))
    | _ => False) ⟨⟩)) ⟨⟩))) ⟨⟩)) := w_chain
theorem z_andT : wB (fAndT ta tb en) QB = wB (ta en) (onBB QB (Z (fun b => if b = true then wB (tb en) QB else QB (.b false)) ⟨⟩)) := w_andT
theorem z_orT : wB (fOrT ta tb en) QB = wB (ta en) (onBB QB (Z (fun b => if b = true then QB (.b true) else wB (tb en) QB) ⟨⟩)) := w_orT
theorem z_notT : wB (fNotT ta en) QB = wB (ta en) (onBB QB (Z (fun b => QB (.b (!b))) ⟨⟩)) := w_notT
theorem z_andV : wR (fAndV fa fb en) Q = wR (fa en) (onV Q (Z (fun _ d => match d with | .bl true => wR (fb en) Q | .bl false => Q (.val .sh (.bl false)) | _ => False) ⟨⟩)) := w_andV
theorem z_orV : wR (fOrV fa fb en) Q = wR (fa en) (onV Q (Z (fun _ d => match d with | .bl false => wR (fb en) Q | .bl true => Q (.val .sh (.bl true)) | _ => False) ⟨⟩)) := w_orV
theorem z_notV : wR (fNotV fa en) Q = wR (fa en) (onV Q (Z (fun _ d => match d with | .bl b => Q (.val .sh (.bl (!b))) | _ => False) ⟨⟩)) := w_notV
theorem z_if : wR (fIf tt fa fb en) Q = wB (tt en) (onBR Q (Z (fun b => if b = true then wR (fa en) Q else wR (fb en) Q) ⟨⟩)) := w_if
theorem z_cons : wA (fCons f t en) QA = wR (f en) (onVA QA (okK (Z (fun _ d => wA (t en) (onAA QA (Z (fun ds => QA (.vals (d :: ds))) ⟨⟩))) ⟨⟩))) := w_cons
theorem z_lst : wR (fLst t en) Q = wA (t en) (onA Q (Z (fun ds => ds.length ≤ 16777216 ∧ Q (.val .nw (.lst ds))) ⟨⟩)) := w_lst
theorem z_tup : wR (fTup t en) Q = wA (t en) (onA Q (Z (fun ds => ds.length ≤ 16777216 ∧ Q (.val .sh (.tup ds))) ⟨⟩)) := w_tup
theorem z_call {Fd n} : wR (fCall Fd n t en) Q = wA (t en) (onA Q (Z (fun ds => ds.length = n ∧ wR (Fd ds) Q) ⟨⟩)) := w_call
theorem z_bn {g} : wR (fBn g t en) Q = wA (t en) (onA Q (Z (fun ds => wG (g ds) (Z (fun k d => Q (.val k d)) ⟨⟩)) ⟨⟩)) := w_bn
theorem z_sm {g} : wR (fSm g fa fb en) Q = wR (fa en) (onV Q (Z (fun _ x => match x with | .str a => wR (fb en) (onV Q (Z (fun _ y => wG (g a y) (Z (fun k d => Q (.val k d)) ⟨⟩)) ⟨⟩)) | _ => False) ⟨⟩)) := w_sm
theorem z_sl {lo hi} : wR (fSl fa lo hi en) Q = wR (fa en) (onV Q (Z (fun _ x => wR (bO lo en (Z (fun l => bO hi en (Z (fun h => lf (slD x l h)) ⟨⟩)) ⟨⟩)) Q) ⟨⟩)) := w_sl
theorem z_star : wA (fStar f t en) QA = wR (f en) (onVA QA (Z (fun _ d => match d with
    | .lst ds => wA (t en) (onAA QA (Z (fun es => QA (.vals (ds ++ es))) ⟨⟩))
    | .tup ds => wA (t en) (onAA QA (Z (fun es => QA (.vals (ds ++ es))) ⟨⟩))
    | _ => False) ⟨⟩)) := w_star
theorem z_sh {i} : wO (fSh i f en) QO = wR (f en) (onS en QO (okK (Z (fun _ d => QO (.nx (en.set i (some (.sh d))))) ⟨⟩))) := w_sh
theorem z_set {i} : wO (fSet i f en) QO = wR (f en) (onS en QO (Z (fun k d => match k with | .sh => QO (.nx (en.set i (some (.sh d)))) | .nw => d.isIns = false ∧ QO (.nx (en.set i (some (.ow d)))) | .bo => False) ⟨⟩)) := w_set
theorem z_asg {tg} : wO (fAsg tg f en) QO = wR (f en) (onS en QO (okK (Z (fun _ d => exO (tg d en) ((Z (fun en1 => QO (.nx en1)) ⟨⟩))) ⟨⟩))) := w_asg
theorem z_drop : wO (fDrop f en) QO = wR (f en) (onS en QO (Z (fun _ _ => QO (.nx en)) ⟨⟩)) := w_drop
theorem z_ret : wO (fRet f en) QO = wR (f en) (onS en QO (Z (fun k d => k ≠ .bo ∧ QO (.rt k d)) ⟨⟩)) := w_ret
theorem z_seq : wO (fSeq F1 F2 en) QO = wO (F1 en) (onO QO (Z (fun en1 => wO (F2 en1) QO) ⟨⟩)) := w_seq
theorem z_ifS : wO (fIfS tt F1 F2 en) QO = wB (tt en) (onB en QO (Z (fun b => if b = true then wO (F1 en) QO else wO (F2 en) QO) ⟨⟩)) := w_ifS
theorem z_app {i} : wO (fApp i f en) QO = (match en[i]? with | some (some (.ow (.lst ds))) => wR (f en) (onS en QO (okK (Z (fun _ d => ds.length < 16777216 ∧ QO (.nx (en.set i (some (.ow (.lst (ds ++ [d]))))))) ⟨⟩))) | _ => False) := w_app
theorem z_put {i fk} : wO (fPut i fk f en) QO = (match en[i]? with | some (some (.ow x)) => wR (f en) (onS en QO (okK (Z (fun _ v => wR (fk en) (onS en QO (Z (fun _ k => exO (putO v x k) ((Z (fun y => QO (.nx (en.set i (some (.ow y))))) ⟨⟩))) ⟨⟩))) ⟨⟩))) | _ => False) := w_put
theorem z_items : wA (fItems f en) QA = wR (f en) (onVA QA (okK (Z (fun _ d => exO (itemsD d) ((Z (fun ds => QA (.vals ds)) ⟨⟩))) ⟨⟩))) := w_items
theorem z_it {g} : wA (fIt g t en) QA = wA (t en) (onAA QA (Z (fun ds => exO (g ds) ((Z (fun xs => QA (.vals xs)) ⟨⟩))) ⟨⟩)) := w_it
theorem z_for {it tg} : wO (fFor it tg F en) QO = wA (it en) (onAO en QO (Z (fun ds => wO (forD tg F ds en) QO) ⟨⟩)) := w_for
theorem z_lc {it tg fe vs} : wR (fLc it tg tt fe vs en) Q = wA (it en) (onA Q (Z (fun ds => ds.length ≤ 16777216 ∧ exO (tgIf tg tt fe (wipeE en vs) ds) ((Z (fun xs => Q (.val .nw (.lst xs))) ⟨⟩))) ⟨⟩)) := w_lc
theorem z_bO0 {k : Option Int → Option R} : wR (bO none en k) Q = wR (k none) Q := rfl
theorem z_bO1 {g : En → Option R} {k : Option Int → Option R} : wR (bO (some g) en k) Q = wR (g en) (onV Q (Z (fun _ d => match d with | .int i => wR (k (some i)) Q | _ => False) ⟨⟩)) := w_bO
variable {QG : Kd → D → Prop}
theorem gz_ixL {ds : List D} {i : Int} : wG (ixD (.lst ds) (.int i)) QG = exO (atI ds i) (Z (fun x => QG .sh x) ⟨⟩) := wG_map
theorem gz_ixT {ds : List D} {i : Int} : wG (ixD (.tup ds) (.int i)) QG = exO (atI ds i) (Z (fun x => QG .sh x) ⟨⟩) := wG_map
theorem gz_ixR {ds : List Int} {i : Int} : wG (ixD (.scr ds) (.int i)) QG = exO (atI ds i) (Z (fun x => QG .sh (.int x)) ⟨⟩) := wG_map
theorem gi_bool_non  : wG (isiD "bool" .non) QG = QG .sh (.bl false) := by
  show wG (some (Kd.sh, D.bl (subT "NoneType" "bool"))) QG = _
  rw [show subT "NoneType" "bool" = false by decide]
  exact wG_some
theorem gi_bool_bl {b : Bool} : wG (isiD "bool" (.bl b)) QG = QG .sh (.bl true) := by
  show wG (some (Kd.sh, D.bl (subT "bool" "bool"))) QG = _
  rw [show subT "bool" "bool" = true by decide]
  exact wG_some
theorem gi_bool_int {i : Int} : wG (isiD "bool" (.int i)) QG = QG .sh (.bl false) := by
  show wG (some (Kd.sh, D.bl (subT "int" "bool"))) QG = _
  rw [show subT "int" "bool" = false by decide]
  exact wG_some
theorem gi_bool_str {x : Str} : wG (isiD "bool" (.str x)) QG = QG .sh (.bl false) := by
  show wG (some (Kd.sh, D.bl (subT "str" "bool"))) QG = _
  rw [show subT "str" "bool" = false by decide]
  exact wG_some
theorem gi_bool_lst {ds : List D} : wG (isiD "bool" (.lst ds)) QG = QG .sh (.bl false) := by
  show wG (some (Kd.sh, D.bl (subT "list" "bool"))) QG = _
  rw [show subT "list" "bool" = false by decide]
  exact wG_some
theorem gi_bool_tup {ds : List D} : wG (isiD "bool" (.tup ds)) QG = QG .sh (.bl false) := by
  show wG (some (Kd.sh, D.bl (subT "tuple" "bool"))) QG = _
  rw [show subT "tuple" "bool" = false by decide]
  exact wG_some
theorem gi_bool_scr {ds : List Int} : wG (isiD "bool" (.scr ds)) QG = QG .sh (.bl false) := by
  show wG (some (Kd.sh, D.bl (subT "list" "bool"))) QG = _
  rw [show subT "list" "bool" = false by decide]
  exact wG_some
theorem gi_bool_dct {ds : List (Key × D)} : wG (isiD "bool" (.dct ds)) QG = QG .sh (.bl false) := by
  show wG (some (Kd.sh, D.bl (subT "dict" "bool"))) QG = _
  rw [show subT "dict" "bool" = false by decide]
  exact wG_some
theorem gi_int_non  : wG (isiD "int" .non) QG = QG .sh (.bl false) := by
  show wG (some (Kd.sh, D.bl (subT "NoneType" "int"))) QG = _
  rw [show subT "NoneType" "int" = false by decide]
  exact wG_some
theorem gi_int_bl {b : Bool} : wG (isiD "int" (.bl b)) QG = QG .sh (.bl true) := by
  show wG (some (Kd.sh, D.bl (subT "bool" "int"))) QG = _
  rw [show subT "bool" "int" = true by decide]
  exact wG_some
theorem gi_int_int {i : Int} : wG (isiD "int" (.int i)) QG = QG .sh (.bl true) := by
  show wG (some (Kd.sh, D.bl (subT "int" "int"))) QG = _
  rw [show subT "int" "int" = true by decide]
  exact wG_some
theorem gi_int_str {x : Str} : wG (isiD "int" (.str x)) QG = QG .sh (.bl false) := by
  show wG (some (Kd.sh, D.bl (subT "str" "int"))) QG = _
  rw [show subT "str" "int" = false by decide]
  exact wG_some
theorem gi_int_lst {ds : List D} : wG (isiD "int" (.lst ds)) QG = QG .sh (.bl false) := by
  show wG (some (Kd.sh, D.bl (subT "list" "int"))) QG = _
  rw [show subT "list" "int" = false by decide]
  exact wG_some
theorem gi_int_tup {ds : List D} : wG (isiD "int" (.tup ds)) QG = QG .sh (.bl false) := by
  show wG (some (Kd.sh, D.bl (subT "tuple" "int"))) QG = _
  rw [show subT "tuple" "int" = false by decide]
  exact wG_some
theorem gi_int_scr {ds : List Int} : wG (isiD "int" (.scr ds)) QG = QG .sh (.bl false) := by
  show wG (some (Kd.sh, D.bl (subT "list" "int"))) QG = _
  rw [show subT "list" "int" = false by decide]
  exact wG_some
theorem gi_int_dct {ds : List (Key × D)} : wG (isiD "int" (.dct ds)) QG = QG .sh (.bl false) := by
  show wG (some (Kd.sh, D.bl (subT "dict" "int"))) QG = _
  rw [show subT "dict" "int" = false by decide]
  exact wG_some
theorem gi_str_non  : wG (isiD "str" .non) QG = QG .sh (.bl false) := by
  show wG (some (Kd.sh, D.bl (subT "NoneType" "str"))) QG = _
  rw [show subT "NoneType" "str" = false by decide]
  exact wG_some
theorem gi_str_bl {b : Bool} : wG (isiD "str" (.bl b)) QG = QG .sh (.bl false) := by
  show wG (some (Kd.sh, D.bl (subT "bool" "str"))) QG = _
  rw [show subT "bool" "str" = false by decide]
  exact wG_some
theorem gi_str_int {i : Int} : wG (isiD "str" (.int i)) QG = QG .sh (.bl false) := by
  show wG (some (Kd.sh, D.bl (subT "int" "str"))) QG = _
  rw [show subT "int" "str" = false by decide]
  exact wG_some
theorem gi_str_str {x : Str} : wG (isiD "str" (.str x)) QG = QG .sh (.bl true) := by
  show wG (some (Kd.sh, D.bl (subT "str" "str"))) QG = _
  rw [show subT "str" "str" = true by decide]
  exact wG_some
theorem gi_str_lst {ds : List D} : wG (isiD "str" (.lst ds)) QG = QG .sh (.bl false) := by
  show wG (some (Kd.sh, D.bl (subT "list" "str"))) QG = _
  rw [show subT "list" "str" = false by decide]
  exact wG_some
theorem gi_str_tup {ds : List D} : wG (isiD "str" (.tup ds)) QG = QG .sh (.bl false) := by
  show wG (some (Kd.sh, D.bl (subT "tuple" "str"))) QG = _
  rw [show subT "tuple" "str" = false by decide]
  exact wG_some
theorem gi_str_scr {ds : List Int} : wG (isiD "str" (.scr ds)) QG = QG .sh (.bl false) := by
  show wG (some (Kd.sh, D.bl (subT "list" "str"))) QG = _
  rw [show subT "list" "str" = false by decide]
  exact wG_some
theorem gi_str_dct {ds : List (Key × D)} : wG (isiD "str" (.dct ds)) QG = QG .sh (.bl false) := by
  show wG (some (Kd.sh, D.bl (subT "dict" "str"))) QG = _
  rw [show subT "dict" "str" = false by decide]
  exact wG_some
theorem gi_list_non  : wG (isiD "list" .non) QG = QG .sh (.bl false) := by
  show wG (some (Kd.sh, D.bl (subT "NoneType" "list"))) QG = _
  rw [show subT "NoneType" "list" = false by decide]
  exact wG_some
theorem gi_list_bl {b : Bool} : wG (isiD "list" (.bl b)) QG = QG .sh (.bl false) := by
  show wG (some (Kd.sh, D.bl (subT "bool" "list"))) QG = _
  rw [show subT "bool" "list" = false by decide]
  exact wG_some
theorem gi_list_int {i : Int} : wG (isiD "list" (.int i)) QG = QG .sh (.bl false) := by
  show wG (some (Kd.sh, D.bl (subT "int" "list"))) QG = _
  rw [show subT "int" "list" = false by decide]
  exact wG_some
theorem gi_list_str {x : Str} : wG (isiD "list" (.str x)) QG = QG .sh (.bl false) := by
  show wG (some (Kd.sh, D.bl (subT "str" "list"))) QG = _
  rw [show subT "str" "list" = false by decide]
  exact wG_some
theorem gi_list_lst {ds : List D} : wG (isiD "list" (.lst ds)) QG = QG .sh (.bl true) := by
  show wG (some (Kd.sh, D.bl (subT "list" "list"))) QG = _
  rw [show subT "list" "list" = true by decide]
  exact wG_some
theorem gi_list_tup {ds : List D} : wG (isiD "list" (.tup ds)) QG = QG .sh (.bl false) := by
  show wG (some (Kd.sh, D.bl (subT "tuple" "list"))) QG = _
  rw [show subT "tuple" "list" = false by decide]
  exact wG_some
theorem gi_list_scr {ds : List Int} : wG (isiD "list" (.scr ds)) QG = QG .sh (.bl true) := by
  show wG (some (Kd.sh, D.bl (subT "list" "list"))) QG = _
  rw [show subT "list" "list" = true by decide]
  exact wG_some
theorem gi_list_dct {ds : List (Key × D)} : wG (isiD "list" (.dct ds)) QG = QG .sh (.bl false) := by
  show wG (some (Kd.sh, D.bl (subT "dict" "list"))) QG = _
  rw [show subT "dict" "list" = false by decide]
  exact wG_some
theorem gi_tuple_non  : wG (isiD "tuple" .non) QG = QG .sh (.bl false) := by
  show wG (some (Kd.sh, D.bl (subT "NoneType" "tuple"))) QG = _
  rw [show subT "NoneType" "tuple" = false by decide]
  exact wG_some
theorem gi_tuple_bl {b : Bool} : wG (isiD "tuple" (.bl b)) QG = QG .sh (.bl false) := by
  show wG (some (Kd.sh, D.bl (subT "bool" "tuple"))) QG = _
  rw [show subT "bool" "tuple" = false by decide]
  exact wG_some
theorem gi_tuple_int {i : Int} : wG (isiD "tuple" (.int i)) QG = QG .sh (.bl false) := by
  show wG (some (Kd.sh, D.bl (subT "int" "tuple"))) QG = _
  rw [show subT "int" "tuple" = false by decide]
  exact wG_some
theorem gi_tuple_str {x : Str} : wG (isiD "tuple" (.str x)) QG = QG .sh (.bl false) := by
  show wG (some (Kd.sh, D.bl (subT "str" "tuple"))) QG = _
  rw [show subT "str" "tuple" = false by decide]
  exact wG_some
theorem gi_tuple_lst {ds : List D} : wG (isiD "tuple" (.lst ds)) QG = QG .sh (.bl false) := by
  show wG (some (Kd.sh, D.bl (subT "list" "tuple"))) QG = _
  rw [show subT "list" "tuple" = false by decide]
  exact wG_some
theorem gi_tuple_tup {ds : List D} : wG (isiD "tuple" (.tup ds)) QG = QG .sh (.bl true) := by
  show wG (some (Kd.sh, D.bl (subT "tuple" "tuple"))) QG = _
  rw [show subT "tuple" "tuple" = true by decide]
  exact wG_some
theorem gi_tuple_scr {ds : List Int} : wG (isiD "tuple" (.scr ds)) QG = QG .sh (.bl false) := by
  show wG (some (Kd.sh, D.bl (subT "list" "tuple"))) QG = _
  rw [show subT "list" "tuple" = false by decide]
  exact wG_some
theorem gi_tuple_dct {ds : List (Key × D)} : wG (isiD "tuple" (.dct ds)) QG = QG .sh (.bl false) := by
  show wG (some (Kd.sh, D.bl (subT "dict" "tuple"))) QG = _
  rw [show subT "dict" "tuple" = false by decide]
  exact wG_some
theorem gi_dict_non  : wG (isiD "dict" .non) QG = QG .sh (.bl false) := by
  show wG (some (Kd.sh, D.bl (subT "NoneType" "dict"))) QG = _
  rw [show subT "NoneType" "dict" = false by decide]
  exact wG_some
theorem gi_dict_bl {b : Bool} : wG (isiD "dict" (.bl b)) QG = QG .sh (.bl false) := by
  show wG (some (Kd.sh, D.bl (subT "bool" "dict"))) QG = _
  rw [show subT "bool" "dict" = false by decide]
  exact wG_some
theorem gi_dict_int {i : Int} : wG (isiD "dict" (.int i)) QG = QG .sh (.bl false) := by
  show wG (some (Kd.sh, D.bl (subT "int" "dict"))) QG = _
  rw [show subT "int" "dict" = false by decide]
  exact wG_some
theorem gi_dict_str {x : Str} : wG (isiD "dict" (.str x)) QG = QG .sh (.bl false) := by
  show wG (some (Kd.sh, D.bl (subT "str" "dict"))) QG = _
  rw [show subT "str" "dict" = false by decide]
  exact wG_some
theorem gi_dict_lst {ds : List D} : wG (isiD "dict" (.lst ds)) QG = QG .sh (.bl false) := by
  show wG (some (Kd.sh, D.bl (subT "list" "dict"))) QG = _
  rw [show subT "list" "dict" = false by decide]
  exact wG_some
theorem gi_dict_tup {ds : List D} : wG (isiD "dict" (.tup ds)) QG = QG .sh (.bl false) := by
  show wG (some (Kd.sh, D.bl (subT "tuple" "dict"))) QG = _
  rw [show subT "tuple" "dict" = false by decide]
  exact wG_some
theorem gi_dict_scr {ds : List Int} : wG (isiD "dict" (.scr ds)) QG = QG .sh (.bl false) := by
  show wG (some (Kd.sh, D.bl (subT "list" "dict"))) QG = _
  rw [show subT "list" "dict" = false by decide]
  exact wG_some
theorem gi_dict_dct {ds : List (Key × D)} : wG (isiD "dict" (.dct ds)) QG = QG .sh (.bl true) := by
  show wG (some (Kd.sh, D.bl (subT "dict" "dict"))) QG = _
  rw [show subT "dict" "dict" = true by decide]
  exact wG_some
theorem tr_b {b : Bool} : truD (.bl b) = some b := rfl
end
section
variable {en : En} {f fa fe : En → Option R} {tt : En → Option RB} {t it : En → Option RA} {F : En → Option Out} {Q : R → Prop} {QO : Out → Prop} {QG : Kd → D → Prop}
theorem z_propV {c0 : Nat} {Fd : List D → Option R} : wR (fProp c0 Fd fa en) Q = wR (fa en) (onV Q (okK (Z (fun k x => insK c0 ((Z (fun fs => wR (Fd [.ins c0 fs]) (onP Q)) ⟨⟩)) k x) ⟨⟩))) := w_propV
theorem z_methV {c0 n : Nat} {m : Str} {Fd : List D → Option R} : wR (fMeth c0 m n Fd fa t en) Q = wR (fa en) (onV Q (okK (Z (fun k x => insK c0 ((Z (fun fs => (fs.lookup m).isNone = true ∧ wA (t en) (onA Q (Z (fun ds => (D.ins c0 fs :: ds).length = n ∧ wR (Fd (.ins c0 fs :: ds)) Q) ⟨⟩))) ⟨⟩)) k x) ⟨⟩))) := w_methV
theorem z_makeV {n : Nat} {Fd : List D → Option R} : wR (fMake n Fd t en) Q = wA (t en) (onA Q (Z (fun ds => ds.length = n ∧ wR (Fd ds) (onM Q)) ⟨⟩)) := w_makeV
theorem z_fldV {c0 i fl} : wO (fFld c0 i fl fe en) QO = (match en[i]? with | some (some (.ow (.ins c fs))) => (c = c0 ∧ fs.length < 1000) ∧ wR (fe en) (onS en QO (okK (Z (fun _ d => QO (.nx (en.set i (some (.ow (.ins c (putFD fl d fs))))))) ⟨⟩))) | _ => False) := w_fldV
theorem z_lsV {tg vs} : wR (fLs it tg tt fe vs en) Q = wA (it en) (onA Q (Z (fun ds => ds.length < 4096 ∧ exO (scIf tg tt fe (wipeE en vs) ds []) ((Z (fun ks => Q (.val .sh (.int ks.length))) ⟨⟩))) ⟨⟩)) := w_lsV
theorem z_dcV {tg vs} {fk : En → Option R} : wR (fDc it tg tt fk fe vs en) Q = wA (it en) (onA Q (Z (fun ds => ds.length ≤ 16777216 ∧ exO (dcIf tg tt fk fe (wipeE en vs) ds []) ((Z (fun xs => Q (.val .nw (.dct xs))) ⟨⟩))) ⟨⟩)) := w_dcV
theorem z_dispV : wR (fDisp t en) Q = wA (t en) (onA Q (Z (fun ds => ds.length ≤ 30 ∧ exO (dispD ds []) ((Z (fun xs => Q (.val .nw (.dct xs))) ⟨⟩))) ⟨⟩)) := w_dispV
theorem z_lc2 {it : En → Option RA} {tg tg1 : D → En → Option En} {tt tt1 : En → Option RB} {it1 : En → Option RA} {fe : En → Option R} {vs vs1 : List Nat} {Q : R → Prop} : wR (fLc2 it tg tt it1 tg1 tt1 fe vs vs1 en) Q = wA (it en) (onA Q (Z (fun ds => exO (tgIf2 tg tt it1 tg1 tt1 fe vs1 (wipeE en vs) ds) ((Z (fun xs => (xs.length ≤ 16777216 ∧ Q (.val .nw (.lst xs)))) ⟨⟩))) ⟨⟩)) := w_lc2
theorem gz_fldV {c0 : Nat} {fl : Str} {fs : List (Str × D)} : wG (fldD c0 fl (.ins c0 fs)) QG = exO (fs.lookup fl) (Z (fun d => QG .sh d) ⟨⟩) := g_fldV
end
section
variable {en : En} {S : So} {Q : R → So → Prop} {QB : RB → So → Prop} {QA : RA → So → Prop} {QI : RI → So → Prop} {QO : Out → So → Prop} {f fa fb : FE} {tt ta tb : FT} {t : FA} {F F1 F2 : FS} {it : FI}
theorem z_opS {g} : vR (fOpS g fa fb en S) Q = vR (fa en S) (nV Q (Z (fun _ x S1 => vR (fb en S1) (nV Q (Z (fun _ y S2 => wG (g (drD S2 x) (drD S2 y)) (nK S2 Q)) ⟨⟩))) ⟨⟩)) := w_opS
theorem z_unS {g} : vR (fUnS g fa en S) Q = vR (fa en S) (nV Q (Z (fun _ x S1 => wG (g (drD S1 x)) (nK S1 Q)) ⟨⟩)) := w_unS
theorem z_truS : vB (truS f en S) QB = vR (f en S) (nVB QB (Z (fun _ d S1 => exO (truD (drD S1 d)) ((Z (fun b => QB (.b b) S1) ⟨⟩))) ⟨⟩)) := w_truS
theorem z_cmpT {g} : vB (fCmpT g fa fb en S) QB = vR (fa en S) (nVB QB (Z (fun _ x S1 => vR (fb en S1) (nVB QB (Z (fun _ y S2 => wG (g (drD S2 x) (drD S2 y)) (Z (fun k d => match k, d with
    | .bo, _ => False
    | _, .bl b => QB (.b b) S2
    | _, _ => False) ⟨⟩)) ⟨⟩))) ⟨⟩)) := w_cmpT
theorem z_andTS : vB (fAndTS ta tb en S) QB = vB (ta en S) (nB QB (Z (fun b S1 => if b = true then vB (tb en S1) QB else QB (.b false) S1) ⟨⟩)) := w_andTS
theorem z_orTS : vB (fOrTS ta tb en S) QB = vB (ta en S) (nB QB (Z (fun b S1 => if b = true then QB (.b true) S1 else vB (tb en S1) QB) ⟨⟩)) := w_orTS
theorem z_notTS : vB (fNotTS ta en S) QB = vB (ta en S) (nB QB (Z (fun b S1 => QB (.b (!b)) S1) ⟨⟩)) := w_notTS
theorem z_andVS : vR (fAndVS fa fb en S) Q = vR (fa en S) (nV Q (Z (fun _ d S1 => match d with | .bl b => if b = true then vR (fb en S1) Q else Q (.val .sh (.bl false)) S1 | _ => False) ⟨⟩)) := w_andVS
theorem z_orVS : vR (fOrVS fa fb en S) Q = vR (fa en S) (nV Q (Z (fun _ d S1 => match d with | .bl b => if b = true then Q (.val .sh (.bl true)) S1 else vR (fb en S1) Q | _ => False) ⟨⟩)) := w_orVS
theorem z_notVS : vR (fNotVS fa en S) Q = vR (fa en S) (nV Q (Z (fun _ d S1 => match d with | .bl b => Q (.val .sh (.bl (!b))) S1 | _ => False) ⟨⟩)) := w_notVS
theorem z_ifVS : vR (fIfVS ta fa fb en S) Q = vB (ta en S) (nBR Q (Z (fun b S1 => if b = true then vR (fa en S1) Q else vR (fb en S1) Q) ⟨⟩)) := w_ifVS
theorem z_consS {pm} : vA (fConsS pm f t en S) QA = vR (f en S) (nSh pm (nVA QA (sK (Z (fun d S1 => vA (t en S1) (nAA QA (Z (fun ds S2 => QA (.vals (d :: ds)) S2) ⟨⟩))) ⟨⟩)))) := w_consS
theorem z_lstS : vR (fLstS t en S) Q = vA (t en S) (nA Q (Z (fun ds S1 => ds.length ≤ 16777216 ∧ Q (.val .nw (.lst ds)) S1) ⟨⟩)) := w_lstS
theorem z_tupS : vR (fTupS t en S) Q = vA (t en S) (nA Q (Z (fun ds S1 => ds.length ≤ 16777216 ∧ Q (.val .sh (.tup ds)) S1) ⟨⟩)) := w_tupS
theorem z_callS {Fd : FF} {n : Nat} : vR (fCallS Fd n t en S) Q = vA (t en S) (nA Q (Z (fun ds S1 => ds.length = n ∧ vR (Fd ds S1) Q) ⟨⟩)) := w_callS
theorem z_bnS {g} : vR (fBnS g t en S) Q = vA (t en S) (nA Q (Z (fun ds S1 => wG (g ds) (nK S1 Q)) ⟨⟩)) := w_bnS
theorem z_mtS {op : List D → List D → Option (List D × D)} : vR (fMtS op fa t en S) Q = vR (fa en S) (nV Q (Z (fun _ x S1 => atL S1 x (Z (fun _ _ => vA (t en S1) (nA Q (Z (fun ds S2 => atL S2 x (Z (fun n xs => exO (op xs ds) ((Z (fun y => Q (.val .sh y.2) (S2.set n (.lst y.1))) ⟨⟩))) ⟨⟩)) ⟨⟩))) ⟨⟩)) ⟨⟩)) := w_mtS
theorem z_mt0S {op : List D → List D → Option (List D × D)} : vR (fMt0S op fa en S) Q = vR (fa en S) (nV Q (Z (fun _ x S1 => atL S1 x (Z (fun n xs => exO (op xs []) ((Z (fun y => Q (.val .sh y.2) (S1.set n (.lst y.1))) ⟨⟩))) ⟨⟩)) ⟨⟩)) := w_mt0S
theorem z_setS {i} : vO (fSetS i f en S) QO = vR (f en S) (nVO en QO (sK (Z (fun d S1 => QO (.nx (en.set i (some (.sh d)))) S1) ⟨⟩))) := w_setS
theorem z_asgS {tg : D → En → Option En} : vO (fAsgS tg f en S) QO = vR (f en S) (nVO en QO (sK (Z (fun d S1 => exO (tg d en) ((Z (fun en1 => QO (.nx en1) S1) ⟨⟩))) ⟨⟩))) := w_asgS
theorem z_dropS : vO (fDropS f en S) QO = vR (f en S) (nVO en QO (Z (fun _ _ S1 => QO (.nx en) S1) ⟨⟩)) := w_dropS
theorem z_retS : vO (fRetS f en S) QO = vR (f en S) (nVO en QO (Z (fun k d S1 => QO (.rt k d) S1) ⟨⟩)) := w_retS
theorem z_seqS : vO (fSeqS F1 F2 en S) QO = vO (F1 en S) (nO QO (Z (fun en1 S1 => vO (F2 en1 S1) QO) ⟨⟩)) := w_seqS
theorem z_ifSS : vO (fIfSS tt F1 F2 en S) QO = vB (tt en S) (nBO en QO (Z (fun b S1 => if b = true then vO (F1 en S1) QO else vO (F2 en S1) QO) ⟨⟩)) := w_ifSS
theorem z_putS {fk} : vO (fPutS fa fk f en S) QO = vR (f en S) (nVO en QO (Z (fun k v S1 => sK ((Z (fun v S1 => vR (fa en S1) (nVO en QO (Z (fun _ x S2 => vR (fk en S2) (nVO en QO (Z (fun _ k S3 => atC S3 x (Z (fun n z => ∃ z', putC v k z = some z' ∧ QO (.nx en) (S3.set n z')) ⟨⟩)) ⟨⟩))) ⟨⟩))) ⟨⟩)) k v S1) ⟨⟩)) := w_putS
theorem z_forS {tg : D → En → Option En} : vO (fForS it tg F en S) QO = vI (it en S) (nIO en QO (Z (fun w n S1 => vO (forS tg F w n 0 en S1) QO) ⟨⟩)) := w_forS
theorem z_itemsS : vI (fItemsS f en S) QI = vR (f en S) (nSh false (nVI QI (sK (Z (fun d S1 => exO (itV S1 d) ((Z (fun w => QI (.its w.1 w.2) S1) ⟨⟩))) ⟨⟩)))) := w_itemsS
theorem z_itS {g} : vI (fItS g t en S) QI = vA (t en S) (nAI QI (Z (fun ds S1 => exO (g ds) ((Z (fun xs => QI (.its (itL xs) xs.length) S1) ⟨⟩))) ⟨⟩)) := w_itS
theorem z_lcS {tg : D → En → Option En} {fe : FE} {vs : List Nat} : vR (fLcS it tg tt fe vs en S) Q = vI (it en S) (nI Q (Z (fun w n S1 => n ≤ 16777216 ∧ exO (tgS tg tt fe (wipeE en vs) w n 0 S1) ((Z (fun y => Q (.val .nw (.lst y.1)) y.2) ⟨⟩))) ⟨⟩)) := w_lcS
theorem z_raiseS {ci : Nat} : vO (fRaiseS ci t en S) QO = vA (t en S) (nAO en QO (Z (fun ds S1 => match ds with | [d] => QO (.er en ci d) S1 | _ => False) ⟨⟩)) := w_raiseS
end
end PD
namespace C
open PySem L2 PD
theorem mulOk_r {i j : Int} (h1 : -(2 ^ 64) < j) (h2 : j < 2 ^ 64) : mulOk i j = true := by
  unfold mulOk
  rw [Bool.or_eq_true, Bool.or_eq_true]
  exact .inl (.inr (decide_eq_true ⟨h1, h2⟩))
theorem mulOk_l {i j : Int} (h1 : -(2 ^ 64) < i) (h2 : i < 2 ^ 64) : mulOk i j = true := by
  unfold mulOk
  rw [Bool.or_eq_true, Bool.or_eq_true]
  exact .inl (.inl (decide_eq_true ⟨h1, h2⟩))
theorem atI_nat {α : Type} {xs : List α} {k : Nat} : atI xs (k : Int) = xs[k]? := by
  unfold atI ixN
  rw [if_pos (by omega)]
  by_cases h : (k : Int) < xs.length
  · rw [if_pos h]; rfl
  · rw [if_neg h]
    exact (List.getElem?_eq_none (by omega)).symm
theorem atI_of_nat {α : Type} {xs : List α} {i : Int} {k : Nat} (h : i = (k : Int)) : atI xs i = xs[k]? := by subst h; exact atI_nat
theorem atI_some {α : Type} {xs : List α} {i : Int} (h0 : 0 ≤ i) (h1 : i < xs.length) : ∃ x, atI xs i = some x ∧ xs[i.toNat]? = some x := by
  refine ⟨xs[i.toNat]'(by omega), ?_, List.getElem?_eq_getElem (by omega)⟩
  rw [atI_of_nat (k := i.toNat) (by omega)]
  exact List.getElem?_eq_getElem (by omega)
theorem atI_map' {α β : Type} {f : α → β} {xs : List α} {i : Int} : atI (xs.map f) i = (atI xs i).map f := by
  unfold atI
  rw [List.length_map]
  cases ixN xs.length i with
  | none => rfl
  | some j => simp
theorem ex_some {α : Type} {x : α} {P : α → Prop} : (∃ y, some x = some y ∧ P y) = P x := propext ⟨fun ⟨_, e, p⟩ => by cases e; exact p, fun p => ⟨_, rfl, p⟩⟩
theorem dT {p : Prop} [Decidable p] : (decide p = true) = p := propext decide_eq_true_iff
theorem snb : (Kd.sh ≠ Kd.bo) = True := propext ⟨fun _ => trivial, fun _ => by simp⟩
theorem nnb : (Kd.nw ≠ Kd.bo) = True := propext ⟨fun _ => trivial, fun _ => by simp⟩
theorem rng1_ok {n : Nat} (h : n < 2 ^ 62) : rng1D [.int (n : Int)] = some (rngL 0 n) := by
  unfold rng1D
  dsimp only
  rw [if_pos (by omega), Int.toNat_natCast]
theorem rngL_get {n i : Nat} {d : D} : ((rngL 0 n)[i]? = some d) = (i < n ∧ d = .int i) := by
  unfold rngL
  apply propext
  rw [List.getElem?_map]
  by_cases h : i < n
  · rw [List.getElem?_range h]
    simp [h, eq_comm]
  · rw [List.getElem?_eq_none (by simp; omega)]
    simp [h]
theorem rngL_len {n : Nat} : (rngL 0 n).length = n := by simp [rngL]
theorem w_cut {F1 F2 : En → Option Out} {en : En} {QO : Out → Prop} (I : En → Prop) (h1 : wO (F1 en) (onO QO I)) (h2 : ∀ en1, I en1 → wO (F2 en1) QO) : wO (fSeq F1 F2 en) QO := by
  rw [w_seq]
  refine h1.mono fun o h => ?_
  cases o with
  | nx en1 => exact h2 en1 h
  | _ => exact h
/-- a comprehension without tests over a typed list -/
theorem lc_map {α : Type} {i : Nat} {fe : En → Option R} {en : En} {c g : α → D} : ∀ (ys : List α), (∀ y ∈ ys, wR (fe (en.set i (some (.sh (c y))))) fun r => ∃ k, r = .val k (g y) ∧ k ≠ .bo) → tgIf (hName i) fYes fe en (ys.map c) = some (ys.map g)
  | [], _ => rfl
  | y :: r, h => by
    obtain ⟨x, e, k, rfl, hk⟩ := h y List.mem_cons_self
    have ih := lc_map r fun z hz => h z (List.mem_cons_of_mem _ hz)
    rw [List.map_cons]
    unfold tgIf
    simp only [hName, fYes, e]
    cases k with
    | sh => simp only [shr, ih]; rfl
    | nw => simp only [shr, ih]; rfl
    | bo => exact absurd rfl hk
/-- a figure -/
theorem fig_pow : (10 ^ Int.toNat 60 * 10 ^ Int.toNat 60 * 10 ^ Int.toNat 60 : Int) = 10 ^ 180 := by decide +kernel
theorem figure_spec (ns : List Int) (i : Nat) : wR (F_Lfigure [.scr ns, .int i]) fun r => ∃ z : Int, r = .val .sh (.int z) ∧ 0 ≤ z ∧ z < 10 ^ 180 := by
  have c1 : (0 ≤ (60 : Int) ∧ (60 : Int) ≤ 1000000 ∧ Int.natAbs 10 < 2 ^ 64) = True := eq_true (by decide)
  have c2 : (mulOk (10 ^ Int.toNat 60) (10 ^ Int.toNat 60) = true) = True := eq_true (by decide +kernel)
  have c3 : (mulOk (10 ^ Int.toNat 60 * 10 ^ Int.toNat 60) (10 ^ Int.toNat 60) = true) = True := eq_true (by decide +kernel)
  have c4 : ((0 : Int) < 10 ^ 180) = True := eq_true (by decide +kernel)
  have c5 : ∀ x : Int, (∃ z, R.val Kd.sh (D.int (x % 10 ^ 180)) = R.val Kd.sh (D.int z) ∧ 0 ≤ z ∧ z < 10 ^ 180) = True := fun x => eq_true ⟨_, rfl, Int.emod_nonneg _ (by decide +kernel), Int.emod_lt_of_pos _ (by decide +kernel)⟩
  have c6 : ∀ x : Int, (mulOk 2 x = true) = True := fun x => eq_true (mulOk_l (by decide) (by decide))
  rw [F_Lfigure, w_run, b_Lfigure]
  by_cases h : (i : Int) < ns.length
  · obtain ⟨x, hx, _⟩ := atI_some (xs := ns) (i := i) (by omega) h
    dsimp! only [k1, eq_self, h, hx, c1, c2, c3, true_and, fig_pow, c4, c5, c6, snb, ite_self, and_true]
  · dsimp! only [k1, eq_self, h, c1, c2, c3, true_and, fig_pow, c4, c5, c6, snb, ite_self, and_true]
/-- drawn numbers lie below their limits -/
theorem log_of {l : Int} {m : Nat} (h0 : 0 < l) (h : l < 2 ^ m) : l.natAbs.log2 < m := by
  have e : l = (l.natAbs : Int) := by omega
  rw [e] at h
  have h2 : l.natAbs < 2 ^ m := by exact_mod_cast h
  exact (Nat.log2_lt (by omega)).mpr h2
theorem log_100 {l : Int} (h0 : 0 < l) (h : l ≤ 10 ^ 100) : l.natAbs.log2 < 9000 := log_of h0 (Int.lt_of_le_of_lt h (by decide +kernel))
theorem below_app {ds lim : List Int} {d l : Int} (h : ∀ (k : Nat) (d l : Int), ds[k]? = some d → lim[k]? = some l → 0 ≤ d ∧ d < l) (hl : lim[ds.length]? = some l) (hd : 0 ≤ d ∧ d < l) :
    ∀ (k : Nat) (x y : Int), (ds ++ [d])[k]? = some x → lim[k]? = some y → 0 ≤ x ∧ x < y := fun k x y hx hy => by
  by_cases hk : k < ds.length
  · rw [List.getElem?_append_left hk] at hx
    exact h k x y hx hy
  · by_cases e : k = ds.length
    · subst e
      rw [hl] at hy
      cases hy
      simp at hx
      subst hx
      exact hd
    · rw [List.getElem?_eq_none (by simp; omega)] at hx
      cases hx
/-- drawn numbers lie below their limits -/
def Below (ds lim : List Int) : Prop := ds.length = lim.length ∧ ∀ (k : Nat) (d l : Int), ds[k]? = some d → lim[k]? = some l → 0 ≤ d ∧ d < l
theorem draws_spec (ns : List Int) (i : Nat) (lim : List Int) (hl : lim.length < 10000) (hp : ∀ l ∈ lim, 0 < l ∧ l ≤ 10 ^ 100) :
    wR (F_Ldraws [.scr ns, .int i, .lst (lim.map .int)]) fun r => ∃ ds : List Int, r = .val .nw (.lst (ds.map .int)) ∧ Below ds lim := by
  rw [F_Ldraws, w_run, b_Ldraws]
  dsimp! only [k1, eq_self]
  refine (figure_spec ns i).mono ?_
  rintro r ⟨z, rfl, hz⟩
  dsimp! only [k2, eq_self]
  have c1 : (0 ≤ (18 : Int) ∧ (18 : Int) ≤ 1000000 ∧ Int.natAbs 10 < 2 ^ 64) = True := eq_true (by decide)
  simp only [c1, true_and]
  dsimp! only [k2, eq_self, List.length_map, rng1_ok (show lim.length < 2 ^ 62 by omega)]
  refine forD_inv _ (fun k en => ∃ (rest : Int) (ds : List Int) (o6 o7 : Option Sl), en = [some (Sl.sh (D.scr ns)), some (Sl.sh (D.int i)), some (Sl.sh (D.lst (lim.map .int))), some (Sl.sh (D.int z)), some (Sl.sh (D.int rest)), some (Sl.ow (D.lst (ds.map .int))), o6, o7] ∧ ds.length = k ∧ ∀ (k : Nat) (d l : Int), ds[k]? = some d → lim[k]? = some l → 0 ≤ d ∧ d < l) _
    ⟨_, [], none, none, rfl, rfl, fun k d l h => by simp at h⟩ ?_ ?_
  · rintro k d en hd ⟨rest, ds, o6, o7, rfl, hk, hb⟩
    rw [rngL_get] at hd
    obtain ⟨hk2, rfl⟩ := hd
    refine ⟨_, rfl, ?_⟩
    obtain ⟨l, h1⟩ : ∃ l, lim[k]? = some l := ⟨lim[k], List.getElem?_eq_getElem hk2⟩
    have hl2 := hp l (List.mem_of_getElem? h1)
    have h2 : atI (lim.map D.int) (k : Int) = some (.int l) := by rw [atI_map', atI_nat, h1]; rfl
    dsimp! only [k2, eq_self, c1, h2]
    have sm : -(2 ^ 64) < (k : Int) ∧ (k : Int) < 2 ^ 64 := by omega
    have hk3 : (k : Int) < 10000 := by omega
    have kk : (k : Int) * k ≤ 10000 * 10000 := Int.mul_le_mul (by omega) (by omega) (by omega) (by omega)
    have kk0 : 0 ≤ (k : Int) * k := Int.mul_nonneg (by omega) (by omega)
    have kk2 : 2 * (k : Int) * k = 2 * (k * k) := by rw [Int.mul_assoc]
    have dm : ∀ a : Int, 0 ≤ a % l ∧ a % l < l := fun a => ⟨Int.emod_nonneg _ (by omega), Int.emod_lt_of_pos _ hl2.1⟩
    have fin : ∀ (a r : Int) (p7 : Option Sl), ∃ rest_1 ds_1 o6 o7,
        [some (Sl.sh (D.scr ns)), some (Sl.sh (D.int ↑i)), some (Sl.sh (D.lst (List.map D.int lim))), some (Sl.sh (D.int z)), some (Sl.sh (D.int r)), some (Sl.ow (D.lst (List.map D.int ds ++ [D.int (a % l)]))), some (Sl.sh (D.int ↑k)), p7] =
          [some (Sl.sh (D.scr ns)), some (Sl.sh (D.int ↑i)), some (Sl.sh (D.lst (List.map D.int lim))), some (Sl.sh (D.int z)), some (Sl.sh (D.int rest_1)), some (Sl.ow (D.lst (List.map D.int ds_1))), o6, o7] ∧
        ds_1.length = k + 1 ∧ ∀ (k : Nat) (d l : Int), ds_1[k]? = some d → lim[k]? = some l → 0 ≤ d ∧ d < l := fun a r p7 =>
      ⟨r, ds ++ [a % l], _, _, by rw [List.map_append]; rfl, by rw [List.length_append, hk]; rfl, below_app hb (by rw [hk]; exact h1) (dm a)⟩
    refine ⟨mulOk_l (by decide) (by decide), mulOk_r (by omega) (by omega), mulOk_r (by omega) (by omega), mulOk_r (by decide) (by decide), mulOk_r (by decide) (by decide), mulOk_r ?_ ?_, mulOk_l (by decide) (by decide), by decide, ?_⟩
    · omega
    · omega
    · have lnt : (List.map D.int ds).length < 16777216 := by rw [List.length_map]; omega
      split
      · exact ⟨⟨hl2.1, log_100 hl2.1 hl2.2⟩, hl2.1, lnt, fin _ _ _⟩
      · exact ⟨hl2.1, lnt, fin _ _ _⟩
  · rintro en ⟨rest, ds, o6, o7, rfl, hk, hb⟩
    dsimp! only [k2, eq_self]
    exact ⟨ds, rfl, by rw [hk, rngL_len], hb⟩
end C
namespace C
open PySem L2 PD
/-! ### texts -/
theorem sl_app (a b : Str) : (a ++ b).length = a.length + b.length := by
  show (a.cps ++ b.cps).size = _
  rw [Array.size_append]
  rfl
theorem one_len (c : Nat) : (⟨#[c]⟩ : Str).length = 1 := rfl
theorem cut1_len (z : Str) (h : 1 ≤ z.length) : (cutS z (some 1) none).length = z.length - 1 := by
  have e : HT.sIx z.length 0 (some 1) = 1 := by rw [show (1 : Int) = ((1 : Nat) : Int) from rfl, HT.sIx_nat]; omega
  show (List.toArray _).size = _
  rw [e, HT.sIx_none, List.size_toArray, List.length_take, List.length_drop, Array.length_toList]
  show min (z.length - 1) (z.length - 1) = z.length - 1
  omega
theorem join0_len : ∀ ys : List Str, (Str.join ⟨#[]⟩ ys).length = (ys.map (·.length)).sum
  | [] => rfl
  | [y] => by simp [Str.join]
  | x :: z :: r => by
    have ih := join0_len (z :: r)
    show (x ++ ⟨#[]⟩ ++ Str.join ⟨#[]⟩ (z :: r)).length = _
    rw [sl_app, sl_app, ih]
    simp [show (⟨#[]⟩ : Str).length = 0 from rfl]
theorem sum_ones : ∀ ys : List Str, (∀ y ∈ ys, y.length = 1) → (ys.map (·.length)).sum = ys.length
  | [], _ => rfl
  | y :: r, h => by
    simp only [List.map_cons, List.sum_cons, List.length_cons]
    rw [h y List.mem_cons_self, sum_ones r fun z hz => h z (List.mem_cons_of_mem _ hz)]
    omega
theorem strsOf_map : ∀ ys : List Str, strsOf (ys.map .str) = some ys
  | [] => rfl
  | y :: r => by simp [strsOf, strsOf_map r]
theorem intsOf_map : ∀ ys : List Int, intsOf (ys.map .int) = some ys
  | [] => rfl
  | y :: r => by simp [intsOf, intsOf_map r]
theorem cutD_nat {α : Type} (xs : List α) (a b : Nat) (h : a ≤ xs.length) (h2 : b ≤ xs.length) : cutD xs (some (a : Int)) (some (b : Int)) = (xs.drop a).take (b - a) := by
  unfold cutD
  rw [HT.sIx_nat, HT.sIx_nat, Nat.min_eq_left h, Nat.min_eq_left h2]
theorem any_mem (x : Str) : ∀ ss : List Str, (ss.any fun y => y == x) = decide (x ∈ ss)
  | [] => rfl
  | a :: r => by
    rw [List.any_cons, any_mem x r]
    by_cases h : a = x
    · subst h; simp
    · have h' : x ≠ a := fun q => h q.symm
      simp [h, h']
theorem g_inS {x : Str} {ss : List Str} {QG : Kd → D → Prop} : wG (inD (.str x) (.lst (ss.map .str))) QG = QG .sh (.bl (decide (x ∈ ss))) := by
  have e : inD (.str x) (.lst (ss.map .str)) = some (.sh, .bl (decide (x ∈ ss))) := by
    have f : (ss.map D.str).all flatD = true := by rw [List.all_map]; exact List.all_eq_true.mpr fun _ _ => rfl
    show (if flatD (.str x) = true ∧ (ss.map D.str).all flatD = true then eqb false ((ss.map D.str).any fun y => eqF y (.str x)) else none) = _
    rw [if_pos ⟨rfl, f⟩, List.any_map]
    show some (Kd.sh, D.bl _) = _
    congr 3
    exact any_mem x ss
  rw [e, wG_some]
theorem g_ixS {z : Str} {i : Int} {QG : Kd → D → Prop} : wG (ixD (.str z) (.int i)) QG = (z.length ≤ 16777216 ∧ exO (atI z.cps.toList i) (Z (fun c => QG .sh (.str ⟨#[c]⟩)) ⟨⟩)) := by
  show wG (if z.length ≤ 16777216 then (atI z.cps.toList i).map fun c => (Kd.sh, D.str ⟨#[c]⟩) else none) QG = _
  split
  · simp only [*, true_and]; exact wG_map
  · simp [*, wG_none]
theorem g_slS {z : Str} {l h : Option Int} {QG : Kd → D → Prop} : wG (slD (.str z) l h) QG = (z.length ≤ 16777216 ∧ QG .sh (.str (cutS z l h))) := wG_if
theorem g_join {a : Str} {ys : List Str} {QG : Kd → D → Prop} : wG (joinD a (.lst (ys.map .str))) QG = ((ys.map (·.length)).sum + ys.length * a.length ≤ 16777216 ∧ QG .sh (.str (Str.join a ys))) := by
  show wG (match strsOf (ys.map .str) with | some ys => if (ys.map (·.length)).sum + ys.length * a.length ≤ 16777216 then some (Kd.sh, D.str (Txt.join a ys)) else none | none => none) QG = _
  rw [strsOf_map, ← TL.join_eq]
  exact wG_if
theorem str_mem_app {a b : Str} {c : Nat} : c ∈ (a ++ b).cps.toList ↔ c ∈ a.cps.toList ∨ c ∈ b.cps.toList := by
  show c ∈ (a.cps ++ b.cps).toList ↔ _
  rw [Array.toList_append, List.mem_append]
theorem join_mem {c : Nat} : ∀ ys : List Str, c ∈ (Str.join ⟨#[]⟩ ys).cps.toList → ∃ y ∈ ys, c ∈ y.cps.toList
  | [], h => by cases h
  | [y], h => ⟨y, by simp, h⟩
  | x :: z :: r, h => by
    have h' : c ∈ (x ++ ⟨#[]⟩ ++ Str.join ⟨#[]⟩ (z :: r)).cps.toList := h
    rw [str_mem_app, str_mem_app] at h'
    rcases h' with (h' | h') | h'
    · exact ⟨x, by simp, h'⟩
    · cases h'
    · obtain ⟨y, hy, hc⟩ := join_mem (z :: r) h'
      exact ⟨y, List.mem_cons_of_mem _ hy, hc⟩
theorem cut_mem {z : Str} {l h : Option Int} {c : Nat} (m : c ∈ (cutS z l h).cps.toList) : c ∈ z.cps.toList := List.mem_of_mem_drop (List.mem_of_mem_take m)
/-- letters only -/
def Lt (s : Str) : Prop := ∀ c ∈ s.cps.toList, 97 ≤ c ∧ c ≤ 122
def Nm (s : Str) : Prop := 1 ≤ s.length ∧ s.length ≤ 6 ∧ Lt s
/-- eight names -/
def Nms (ss : List Str) : Prop := ss.length = 8 ∧ ∀ s ∈ ss, Nm s
def limN : List Int := 4 :: (List.replicate 8 [6, 26, 26, 26, 26, 26, 26]).flatten
def enN (ns : List Int) (i : Nat) (A : Str) (ds : List Int) (ss : List Str) (k : Nat) (o7 o8 o9 o10 : Option Sl) : En := [some (Sl.sh (D.scr ns)), some (Sl.sh (D.int i)), some (Sl.sh (D.int 8)), some (Sl.sh (D.str A)), some (Sl.sh (D.lst (ds.map .int))), some (Sl.ow (D.lst (ss.map .str))), some (Sl.sh (D.int k)), o7, o8, o9, o10]
theorem names_spec (ns : List Int) (i : Nat) : wR (F_Lnames [.scr ns, .int i, .int 8]) fun r => ∃ ss : List Str, r = .val .nw (.lst (ss.map .str)) ∧ Nms ss := by
  have ix : ∀ k : Nat, k < 8 → limN[1 + 7 * k]? = some 6 ∧ ∀ j : Nat, j < 6 → limN[2 + 7 * k + j]? = some 26 := by decide
  have fl : (Str.ofString "abcdefghijklmnopqrstuvwxyz").length = 26 := by decide +kernel
  have e0 : Str.ofString "" = ⟨#[]⟩ := by decide +kernel
  have lA : ∀ c ∈ (Str.ofString "abcdefghijklmnopqrstuvwxyz").cps.toList, 97 ≤ c ∧ c ≤ 122 := by decide +kernel
  generalize hA : Str.ofString "abcdefghijklmnopqrstuvwxyz" = A at *
  rw [F_Lnames, w_run, b_Lnames]
  rw [hA, e0]
  dsimp! only [k3, eq_self]
  repeat (refine ⟨by first | decide | omega, ?_⟩)
  refine (draws_spec ns i limN (by decide) (by decide +kernel)).mono ?_
  rintro r ⟨ds, rfl, hl, hd⟩
  have hl : ds.length = 57 := hl
  dsimp! only [k4, eq_self, show rng1D [D.int 8] = some (rngL 0 8) from rng1_ok (n := 8) (by decide)]
  have at0 : ∀ j : Nat, j < 57 → ∃ x, ds[j]? = some x ∧ atI (ds.map D.int) (j : Int) = some (.int x) := fun j hj =>
    ⟨_, List.getElem?_eq_getElem (by omega), by rw [atI_map', atI_nat, List.getElem?_eq_getElem (by omega)]; rfl⟩
  refine forD_inv _ (fun k en => ∃ (ss : List Str) (o6 o7 o8 o9 o10 : Option Sl), en = [some (Sl.sh (D.scr ns)), some (Sl.sh (D.int i)), some (Sl.sh (D.int 8)), some (Sl.sh (D.str A)), some (Sl.sh (D.lst (ds.map .int))), some (Sl.ow (D.lst (ss.map .str))), o6, o7, o8, o9, o10] ∧ ss.length = k ∧ ∀ s ∈ ss, Nm s) _
    ⟨[], none, none, none, none, none, rfl, rfl, fun s h => by cases h⟩ ?_ ?_
  · rintro k d en hd0 ⟨ss, o6, o7, o8, o9, o10, rfl, hk, hb⟩
    rw [rngL_get] at hd0
    obtain ⟨hk2, rfl⟩ := hd0
    refine ⟨_, rfl, ?_⟩
    obtain ⟨x1, hx1, ha1⟩ := at0 (1 + 7 * k) (by omega)
    obtain ⟨x0, hx0, ha0⟩ := at0 0 (by omega)
    have b1 := hd _ _ _ hx1 (ix k hk2).1
    have c1 : cutD (ds.map D.int) (some (2 + 7 * (k : Int))) (some (3 + 7 * (k : Int) + x1)) = ((ds.drop (2 + 7 * k)).take (x1.toNat + 1)).map D.int := by
      have := cutD_nat (ds.map D.int) (2 + 7 * k) (3 + 7 * k + x1.toNat) (by rw [List.length_map]; omega) (by rw [List.length_map]; omega)
      rw [show (((2 + 7 * k : Nat) : Int)) = 2 + 7 * (k : Int) by omega, show (((3 + 7 * k + x1.toNat : Nat) : Int)) = 3 + 7 * (k : Int) + x1 by omega] at this
      rw [this, show 3 + 7 * k + x1.toNat - (2 + 7 * k) = x1.toNat + 1 by omega, List.map_take, List.map_drop]
    have ys26 : ∀ y ∈ (ds.drop (2 + 7 * k)).take (x1.toNat + 1), 0 ≤ y ∧ y < 26 := fun y hy => by
      obtain ⟨j, hj⟩ := List.getElem?_of_mem hy
      rw [List.getElem?_take] at hj
      split at hj
      · rw [List.getElem?_drop] at hj
        exact hd _ _ _ hj ((ix k hk2).2 j (by omega))
      · cases hj
    have ysl : ((ds.drop (2 + 7 * k)).take (x1.toNat + 1)).length = x1.toNat + 1 := by rw [List.length_take, List.length_drop]; omega
    generalize (ds.drop (2 + 7 * k)).take (x1.toNat + 1) = ys at *
    rw [show ((1 + 7 * k : Nat) : Int) = 1 + 7 * (k : Int) by omega] at ha1
    rw [show ((0 : Nat) : Int) = 0 from rfl] at ha0
    have m7 : (mulOk 7 (k : Int) = true) = True := eq_true (mulOk_l (by decide) (by decide))
    refine w_cut (fun en => ∃ (zs : List Int), en = enN ns i A ds ss k (some (Sl.sh (D.lst (zs.map .int)))) o8 o9 o10 ∧ zs.length = x1.toNat + 1 ∧ ∀ y ∈ zs, 0 ≤ y ∧ y < 26) ?_ ?_
    · dsimp! only [k4, eq_self, ha1, m7, c1]
      exact ⟨ys, rfl, ysl, ys26⟩
    rintro en1 ⟨ys1, rfl, ysl1, ys126⟩
    refine w_cut (fun en => ∃ (zs : List Int), en = enN ns i A ds ss k (some (Sl.sh (D.lst (zs.map .int)))) o8 o9 o10 ∧ zs.length = x1.toNat + 1 ∧ ∀ y ∈ zs, 0 ≤ y ∧ y < 26) ?_ ?_
    · dsimp! only [k4, eq_self, enN, ha0]
      split
      · dsimp! only [k4, eq_self, List.length_map, ysl1]
        rw [lc_map (g := fun y => D.int (y % 2)) ys1 fun y hy => by dsimp! only [k4, eq_self]; exact ⟨_, rfl, by simp⟩]
        dsimp! only [k4, eq_self]
        refine ⟨by omega, ys1.map (· % 2), by rw [List.map_map]; rfl, by rw [List.length_map, ysl1], fun y hy => ?_⟩
        obtain ⟨z, hz, rfl⟩ := List.mem_map.mp hy
        omega
      · exact ⟨ys1, rfl, ysl1, ys126⟩
    rintro en2 ⟨zs, rfl, zl, zb⟩
    have az : ∀ y : Int, 0 ≤ y → y < 26 → ∃ c, atI A.cps.toList y = some c ∧ 97 ≤ c ∧ c ≤ 122 := fun y h0 h1 => by
      obtain ⟨c, hc, hc2⟩ := atI_some (xs := A.cps.toList) h0 (by rw [Array.length_toList]; show y < (A.length : Int); omega)
      exact ⟨c, hc, lA c (List.mem_of_getElem? hc2)⟩
    have eA : A.length ≤ 16777216 := by omega
    refine w_cut (fun en => ∃ nm : Str, en = enN ns i A ds ss k (some (Sl.sh (D.lst (zs.map .int)))) (some (Sl.sh (D.str nm))) o9 o10 ∧ nm.length = x1.toNat + 1 ∧ Lt nm) ?_ ?_
    · dsimp! only [k4, eq_self, enN, List.length_map, zl]
      rw [lc_map (g := fun y => D.str ⟨#[(atI A.cps.toList y).getD 0]⟩) zs fun y hy => by
        obtain ⟨c, hc, _⟩ := az y (zb y hy).1 (zb y hy).2
        dsimp! only [k4, eq_self, wipeE, List.set_cons_zero, List.set_cons_succ, hc, eA]
        exact ⟨_, rfl, by simp⟩]
      dsimp! only [k4, eq_self]
      have em : zs.map (fun y => D.str ⟨#[(atI A.cps.toList y).getD 0]⟩) = (zs.map fun y => (⟨#[(atI A.cps.toList y).getD 0]⟩ : Str)).map D.str := by rw [List.map_map]; rfl
      have e1 : ((zs.map fun y => (⟨#[(atI A.cps.toList y).getD 0]⟩ : Str)).map (·.length)).sum = zs.length := by
        rw [sum_ones _ fun y hy => by obtain ⟨z, _, rfl⟩ := List.mem_map.mp hy; rfl, List.length_map]
      rw [em]
      dsimp! only [k4, eq_self]
      refine ⟨by omega, ?_, _, rfl, by rw [join0_len, e1, zl], fun c hc => ?_⟩
      · rw [e1, show (⟨#[]⟩ : Str).length = 0 from rfl]
        omega
      · obtain ⟨w, hw, hc⟩ := join_mem _ hc
        obtain ⟨y, hy, rfl⟩ := List.mem_map.mp hw
        obtain ⟨c0, hc0, b⟩ := az y (zb y hy).1 (zb y hy).2
        rw [hc0] at hc
        have : c = c0 := by simpa using hc
        subst this
        exact b
    rintro en3 ⟨nm, rfl, nl, nlt⟩
    refine w_cut (fun en => ∃ (nm : Str) (o9 : Option Sl), en = enN ns i A ds ss k (some (Sl.sh (D.lst (zs.map .int)))) (some (Sl.sh (D.str nm))) o9 o10 ∧ nm.length = x1.toNat + 1 ∧ Lt nm) ?_ ?_
    · dsimp! only [k4, eq_self, enN, show rng1D [D.int 26] = some (rngL 0 26) from rng1_ok (n := 26) (by decide)]
      refine forD_inv _ (fun _ en => ∃ (nm : Str) (o9 : Option Sl), en = enN ns i A ds ss k (some (Sl.sh (D.lst (zs.map .int)))) (some (Sl.sh (D.str nm))) o9 o10 ∧ nm.length = x1.toNat + 1 ∧ Lt nm) _ ⟨nm, _, rfl, nl, nlt⟩ ?_ ?_
      · rintro j d en hd1 ⟨nm, o9, rfl, nl, nlt⟩
        refine ⟨_, rfl, ?_⟩
        rw [rngL_get] at hd1
        obtain ⟨hj, rfl⟩ := hd1
        obtain ⟨z0, hz0⟩ : ∃ z0, zs[0]? = some z0 := ⟨_, List.getElem?_eq_getElem (by omega)⟩
        have a0 : atI (zs.map D.int) 0 = some (.int z0) := by rw [atI_map', show (0 : Int) = ((0 : Nat) : Int) from rfl, atI_nat, hz0]; rfl
        dsimp! only [k4, eq_self, enN, a0]
        split
        · obtain ⟨c, hc, cb⟩ := az ((z0 + (j : Int) + 1) % 26) (by omega) (by omega)
          dsimp! only [k4, eq_self, a0, hc, eA]
          have cl := cut1_len nm (by omega)
          refine ⟨by omega, ?_, _, _, rfl, ?_, fun x hx => ?_⟩
          · rw [one_len, cl]; omega
          · rw [sl_app, one_len, cl]; omega
          · rcases str_mem_app.mp hx with hx | hx
            · have : x = c := by simpa using hx
              subst this
              exact cb
            · exact nlt x (cut_mem hx)
        · exact ⟨nm, _, rfl, nl, nlt⟩
      · rintro en ⟨nm, o9, rfl, nl, nlt⟩
        dsimp! only [k4, eq_self]
        exact ⟨nm, o9, rfl, nl, nlt⟩
    rintro en4 ⟨nm, o9, rfl, nl, nlt⟩
    dsimp! only [k4, eq_self, enN]
    refine ⟨by rw [List.length_map]; omega, ss ++ [nm], _, _, _, _, _, by rw [List.map_append]; rfl, by rw [List.length_append, hk]; rfl, fun s hs => ?_⟩
    rcases List.mem_append.mp hs with hs | hs
    · exact hb s hs
    · have : s = nm := by simpa using hs
      subst this
      exact ⟨by omega, by omega, nlt⟩
  · rintro en ⟨ss, o6, o7, o8, o9, o10, rfl, hk, hb⟩
    dsimp! only [k4, eq_self]
    exact ⟨ss, rfl, by rw [hk, rngL_len], hb⟩
end C
namespace C
open PySem L2 PD
theorem frz_def (en : En) (i : Nat) : frzE en i = match en[i]? with
  | some (some (.ow d)) => en.set i (some (.sh d))
  | _ => en := rfl
/-! ### data that == reads -/
def okP (k : Nat) (d : D) : Prop := ∃ p, toP d = some p ∧ p.canLay0 = true ∧ p.depth ≤ k
def okPs (k : Nat) (ds : List D) : Prop := ∃ ps, toPs ds = some ps ∧ ps.length = ds.length ∧ PyData.canLayAll0 ps = true ∧ PyData.depthAll ps ≤ k
theorem okPs_of {k : Nat} : ∀ {ds : List D}, (∀ d ∈ ds, okP k d) → okPs k ds
  | [], _ => ⟨[], by simp [toPs], rfl, by simp [PyData.canLayAll0], by simp [PyData.depthAll]⟩
  | d :: r, h => by
    obtain ⟨p, h1, h2, h3⟩ := h d List.mem_cons_self
    obtain ⟨ps, h4, h0, h5, h6⟩ := okPs_of fun x hx => h x (List.mem_cons_of_mem _ hx)
    exact ⟨p :: ps, by simp only [toPs, h1, h4], by rw [List.length_cons, List.length_cons, h0], by simp only [PyData.canLayAll0, h2, h5]; rfl, by simp only [PyData.depthAll]; omega⟩
theorem okP_int {k : Nat} (i : Int) : okP k (.int i) := ⟨.int i, by simp [toP], by simp [PyData.canLay0], by simp [PyData.depth]⟩
theorem okP_tup {k : Nat} {ds : List D} (h : ∀ d ∈ ds, okP k d) : okP (k + 1) (.tup ds) := by
  obtain ⟨ps, h1, h0, h2, h3⟩ := okPs_of h
  exact ⟨.tuple ps, by simp [toP, h1], by simp only [PyData.canLay0, h2], by simp only [PyData.depth]; omega⟩
theorem okP_lst {k : Nat} {ds : List D} (h : ∀ d ∈ ds, okP k d) : okP (k + 1) (.lst ds) := by
  obtain ⟨ps, h1, h0, h2, h3⟩ := okPs_of h
  exact ⟨.list ps, by simp [toP, h1], by simp only [PyData.canLay0, h2], by simp only [PyData.depth]; omega⟩
theorem okP.shaped {k : Nat} {d : D} (h : okP k d) (hk : k ≤ 64) : ∃ p, toP d = some p ∧ SeqAt.shaped p = true ∧ p.canLay0 = true := by
  obtain ⟨p, h1, h2, h3⟩ := h
  exact ⟨p, h1, by show (p.canLay0 && decide (p.depth ≤ 64)) = true; rw [h2, decide_eq_true (by omega)]; rfl, h2⟩
theorem eq_lists {n : Bool} {xs ys : List D} {p q : PyData} (h1 : toP (.lst xs) = some p) (h2 : toP (.lst ys) = some q) (h3 : SeqAt.shaped p = true) (h4 : SeqAt.shaped q = true) : eqN n (.lst xs) (.lst ys) = eqb n (PyData.eqv p q) := by
  show (match toP (.lst xs), toP (.lst ys) with | some p, some q => if SeqAt.shaped p = true ∧ SeqAt.shaped q = true then eqb n (PyData.eqv p q) else none | _, _ => none) = _
  rw [h1, h2]
  simp only [h3, h4, and_self, if_true]
theorem g_eqNil {n : Bool} {xs : List D} {QG : Kd → D → Prop} {k : Nat} (hk : k < 64) (h : ∀ d ∈ xs, okP k d) : wG (eqN n (.lst xs) (.lst [])) QG = QG .sh (.bl (if n then !decide (xs = []) else decide (xs = []))) := by
  obtain ⟨ps, e1, e0, e2, e3⟩ := okPs_of h
  have e : eqN n (.lst xs) (.lst []) = eqb n (decide (xs = [])) := by
    rw [eq_lists (p := .list ps) (q := .list []) (by simp [toP, e1]) (by simp [toP, toPs]) ?_ ?_]
    · congr 1
      cases xs with
      | nil => cases ps with
        | nil => rfl
        | cons _ _ => simp at e0
      | cons x r => cases ps with
        | nil => simp at e0
        | cons _ _ => simp [PyData.eqv, PyData.eqvAll]
    · show (PyData.canLay0 (.list ps) && decide (PyData.depth (.list ps) ≤ 64)) = true
      rw [show PyData.canLay0 (.list ps) = true by simp only [PyData.canLay0, e2], decide_eq_true (by simp only [PyData.depth]; omega)]
      rfl
    · decide
  rw [e]
  exact wG_some
/-! ### places by literal -/
theorem atI_lit {α : Type} {xs : List α} {n : Nat} : atI xs (@OfNat.ofNat Int n instOfNat) = xs[n]? := atI_nat
theorem atI_0 {α : Type} {xs : List α} : atI xs 0 = xs[0]? := atI_lit
theorem atI_1 {α : Type} {xs : List α} : atI xs 1 = xs[1]? := atI_lit
theorem atI_2 {α : Type} {xs : List α} : atI xs 2 = xs[2]? := atI_lit
theorem atI_3 {α : Type} {xs : List α} : atI xs 3 = xs[3]? := atI_lit
theorem atI_4 {α : Type} {xs : List α} : atI xs 4 = xs[4]? := atI_lit
theorem atI_5 {α : Type} {xs : List α} : atI xs 5 = xs[5]? := atI_lit
theorem atI_6 {α : Type} {xs : List α} : atI xs 6 = xs[6]? := atI_lit
theorem atI_7 {α : Type} {xs : List α} : atI xs 7 = xs[7]? := atI_lit
theorem atI_8 {α : Type} {xs : List α} : atI xs 8 = xs[8]? := atI_lit
theorem atI_9 {α : Type} {xs : List α} : atI xs 9 = xs[9]? := atI_lit
theorem atI_10 {α : Type} {xs : List α} : atI xs 10 = xs[10]? := atI_lit
theorem atI_11 {α : Type} {xs : List α} : atI xs 11 = xs[11]? := atI_lit
theorem atI_12 {α : Type} {xs : List α} : atI xs 12 = xs[12]? := atI_lit
theorem atI_13 {α : Type} {xs : List α} : atI xs 13 = xs[13]? := atI_lit
theorem atI_14 {α : Type} {xs : List α} : atI xs 14 = xs[14]? := atI_lit
theorem atI_15 {α : Type} {xs : List α} : atI xs 15 = xs[15]? := atI_lit
theorem atI_16 {α : Type} {xs : List α} : atI xs 16 = xs[16]? := atI_lit
theorem atI_17 {α : Type} {xs : List α} : atI xs 17 = xs[17]? := atI_lit
theorem atI_18 {α : Type} {xs : List α} : atI xs 18 = xs[18]? := atI_lit
theorem atI_19 {α : Type} {xs : List α} : atI xs 19 = xs[19]? := atI_lit
theorem atI_20 {α : Type} {xs : List α} : atI xs 20 = xs[20]? := atI_lit
theorem atI_21 {α : Type} {xs : List α} : atI xs 21 = xs[21]? := atI_lit
theorem atI_22 {α : Type} {xs : List α} : atI xs 22 = xs[22]? := atI_lit
theorem atI_23 {α : Type} {xs : List α} : atI xs 23 = xs[23]? := atI_lit
theorem atI_24 {α : Type} {xs : List α} : atI xs 24 = xs[24]? := atI_lit
theorem atI_25 {α : Type} {xs : List α} : atI xs 25 = xs[25]? := atI_lit
theorem atI_26 {α : Type} {xs : List α} : atI xs 26 = xs[26]? := atI_lit
theorem atI_27 {α : Type} {xs : List α} : atI xs 27 = xs[27]? := atI_lit
theorem atI_28 {α : Type} {xs : List α} : atI xs 28 = xs[28]? := atI_lit
theorem atI_29 {α : Type} {xs : List α} : atI xs 29 = xs[29]? := atI_lit
theorem atI_30 {α : Type} {xs : List α} : atI xs 30 = xs[30]? := atI_lit
theorem rngL_map {n : Nat} : rngL 0 n = (List.range n).map fun i : Nat => D.int (i : Int) := by
  unfold rngL
  exact List.map_congr_left fun i _ => by rw [Int.zero_add]
theorem rng1_lit {n : Nat} (h : n < 2 ^ 62) : rng1D [.int (@OfNat.ofNat Int n instOfNat)] = some ((List.range n).map fun i : Nat => D.int (i : Int)) := (rng1_ok h).trans (by rw [rngL_map])
theorem rng1_nat {n : Nat} (h : n < 2 ^ 62) : rng1D [.int (n : Int)] = some ((List.range n).map fun i : Nat => D.int (i : Int)) := (rng1_ok h).trans (by rw [rngL_map])
theorem cut_drop {α : Type} {xs : List α} {n : Nat} (h : n ≤ xs.length) : cutD xs (some (@OfNat.ofNat Int n instOfNat)) none = xs.drop n := by
  unfold cutD
  rw [show (@OfNat.ofNat Int n instOfNat) = ((n : Nat) : Int) from rfl, HT.sIx_nat, HT.sIx_none, Nat.min_eq_left h]
  exact List.take_of_length_le (by rw [List.length_drop]; exact Nat.le_refl _)
theorem cut_take {α : Type} {xs : List α} {n : Nat} (h : n ≤ xs.length) : cutD xs none (some (@OfNat.ofNat Int n instOfNat)) = xs.take n := by
  unfold cutD
  rw [show (@OfNat.ofNat Int n instOfNat) = ((n : Nat) : Int) from rfl, HT.sIx_nat, HT.sIx_none, Nat.min_eq_left h, List.drop_zero, Nat.sub_zero]
theorem g_sort {vs : List Int} {QG : Kd → D → Prop} : wG (sortD (.lst (vs.map .int))) QG = QG .nw (.lst ((sortI vs).map .int)) := by
  have e : sortD (.lst (vs.map .int)) = some (.nw, .lst ((sortI vs).map .int)) := by
    show (sortL (vs.map .int)).map (fun xs => (Kd.nw, D.lst xs)) = _
    unfold sortL
    rw [intsOf_map]
    rfl
  rw [e, wG_some]
theorem g_rev {ds : List D} {QG : Kd → D → Prop} : wG (revD (.lst ds)) QG = QG .nw (.lst ds.reverse) := wG_some
/-- a comprehension with a test over a typed list -/
theorem lc_filter {α : Type} {i : Nat} {tt : En → Option RB} {fe : En → Option R} {en : En} {c g : α → D} (p : α → Bool) : ∀ (ys : List α), (∀ y ∈ ys, wB (tt (en.set i (some (.sh (c y))))) (fun r => r = .b (p y)) ∧ (p y = true → wR (fe (en.set i (some (.sh (c y))))) fun r => ∃ k, r = .val k (g y) ∧ k ≠ .bo)) →
    tgIf (hName i) tt fe en (ys.map c) = some ((ys.filter p).map g)
  | [], _ => rfl
  | y :: r, h => by
    obtain ⟨⟨b, e1, rfl⟩, h2⟩ := h y List.mem_cons_self
    have ih := lc_filter p r fun z hz => h z (List.mem_cons_of_mem _ hz)
    rw [List.map_cons, List.filter_cons]
    unfold tgIf
    simp only [hName, e1]
    cases hp : p y with
    | false => simpa using ih
    | true =>
      obtain ⟨x, e, k, rfl, hk⟩ := h2 hp
      simp only [e]
      cases k with
      | sh => simp only [shr, ih]; rfl
      | nw => simp only [shr, ih]; rfl
      | bo => exact absurd rfl hk
/-! ### rows -/
def prD (p : Int × Int) : D := .tup [.int p.1, .int p.2]
def Row (first : Int) (size : Nat) (high : Int) (es : List (Int × Int)) : Prop := es ≠ [] ∧ es.length ≤ size ∧ (es.map (·.1)).Nodup ∧ ∀ e ∈ es, (first ≤ e.1 ∧ e.1 < first + size) ∧ 0 ≤ e.2 ∧ e.2 < high
theorem Row.perm {first : Int} {size : Nat} {high : Int} {es fs : List (Int × Int)} (h : Row first size high es) (p : fs.Perm es) : Row first size high fs :=
  ⟨fun e => h.1 (by subst e; exact p.nil_eq.symm), p.length_eq ▸ h.2.1, (p.map _).nodup_iff.mpr h.2.2.1, fun e he => h.2.2.2 e (p.mem_iff.mp he)⟩
theorem okP_prD (p : Int × Int) : okP 1 (prD p) := okP_tup fun d hd => by
  rcases List.mem_cons.mp hd with rfl | hd
  · exact okP_int _
  · rcases List.mem_cons.mp hd with rfl | hd
    · exact okP_int _
    · cases hd
def limR (h : Int) : List Int := 4 :: 15 :: h :: (List.replicate 15 [2, h]).flatten
theorem row_spec (ns : List Int) (i : Nat) (h : Int) (h0 : 0 < h) (h1 : h ≤ 100) : wR (F_Lrow [.scr ns, .int i, .int (-6), .int 15, .int h]) fun r => ∃ es : List (Int × Int), r = .val .sh (.lst (es.map prD)) ∧ Row (-6) 15 h es := by
  have ix : ∀ k : Nat, k < 15 → (limR h)[3 + 2 * k]? = some 2 ∧ (limR h)[4 + 2 * k]? = some h := by
    intro k hk
    have : ∀ k : Nat, k < 15 → (limR h)[3 + 2 * k]? = some 2 ∧ (limR h)[4 + 2 * k]? = some h := by
      intro k hk
      match k, hk with
      | 0, _ | 1, _ | 2, _ | 3, _ | 4, _ | 5, _ | 6, _ | 7, _ | 8, _ | 9, _ | 10, _ | 11, _ | 12, _ | 13, _ | 14, _ => exact ⟨rfl, rfl⟩
    exact this k hk
  rw [F_Lrow, w_run, b_Lrow]
  dsimp! only [k3, eq_self]
  repeat (refine ⟨by first | decide | omega, ?_⟩)
  refine ⟨show 33 ≤ 16777216 by decide, ?_⟩
  refine (draws_spec ns i (limR h) (show 33 < 10000 by decide) (fun l hl => ?_)).mono ?_
  · have : ∀ l ∈ limR h, l = 4 ∨ l = 15 ∨ l = 2 ∨ l = h := fun l hl => by
      rcases List.mem_cons.mp hl with e | hl
      · exact .inl e
      rcases List.mem_cons.mp hl with e | hl
      · exact .inr (.inl e)
      rcases List.mem_cons.mp hl with e | hl
      · exact .inr (.inr (.inr e))
      · obtain ⟨s, hs, hl⟩ := List.mem_flatten.mp hl
        rw [(List.mem_replicate.mp hs).2] at hl
        rcases List.mem_cons.mp hl with e | hl
        · exact .inr (.inr (.inl e))
        · exact .inr (.inr (.inr (by simpa using hl)))
    have b : (100 : Int) ≤ 10 ^ 100 := by decide +kernel
    rcases this l hl with rfl | rfl | rfl | rfl <;> constructor <;> first | omega | exact Int.le_trans (by omega) b
  rintro r ⟨ds, rfl, hl, hd⟩
  have hl : ds.length = 33 := hl
  have at0 : ∀ j : Nat, j < 33 → ∃ x, ds[j]? = some x ∧ atI (ds.map D.int) (j : Int) = some (.int x) := fun j hj =>
    ⟨_, List.getElem?_eq_getElem (by omega), by rw [atI_map', atI_nat, List.getElem?_eq_getElem (by omega)]; rfl⟩
  obtain ⟨x0, hx0, ha0⟩ := at0 0 (by omega)
  obtain ⟨x1, hx1, ha1⟩ := at0 1 (by omega)
  obtain ⟨x2, hx2, ha2⟩ := at0 2 (by omega)
  have b1 := hd 1 _ _ hx1 rfl
  have b2 := hd 2 _ _ hx2 rfl
  rw [show ((0 : Nat) : Int) = 0 from rfl] at ha0
  rw [show ((1 : Nat) : Int) = 1 from rfl] at ha1
  rw [show ((2 : Nat) : Int) = 2 from rfl] at ha2
  dsimp! only [k5, eq_self]
  let I : En → Prop := fun en => ∃ (es : List (Int × Int)) (o7 o8 o9 : Option Sl), en = [some (Sl.sh (D.scr ns)), some (Sl.sh (D.int i)), some (Sl.sh (D.int (-6))), some (Sl.sh (D.int 15)), some (Sl.sh (D.int h)), some (Sl.sh (D.lst (ds.map .int))), some (Sl.sh (D.lst (es.map prD))), o7, o8, o9] ∧ Row (-6) 15 h es
  refine w_cut (fun en => ∃ (es : List (Int × Int)) (o7 o8 o9 : Option Sl), en = [some (Sl.sh (D.scr ns)), some (Sl.sh (D.int i)), some (Sl.sh (D.int (-6))), some (Sl.sh (D.int 15)), some (Sl.sh (D.int h)), some (Sl.sh (D.lst (ds.map .int))), some (Sl.sh (D.lst (es.map prD))), o7, o8, o9] ∧ (es ≠ [] → Row (-6) 15 h es)) ?_ ?_
  · dsimp! only [k6, eq_self, rng1_lit (n := 15) (by decide)]
    have gk : ∀ k : Nat, k < 15 → ∃ x y, atI (ds.map D.int) (3 + 2 * (k : Int)) = some (.int x) ∧ atI (ds.map D.int) (4 + 2 * (k : Int)) = some (.int y) ∧ ds[3 + 2 * k]? = some x ∧ ds[4 + 2 * k]? = some y ∧ 0 ≤ y ∧ y < h := fun k hk => by
      obtain ⟨x, e1, e2⟩ := at0 (3 + 2 * k) (by omega)
      obtain ⟨y, e3, e4⟩ := at0 (4 + 2 * k) (by omega)
      exact ⟨x, y, by rw [← e2]; congr 1, by rw [← e4]; congr 1, e1, e3, hd _ _ _ e3 (ix k hk).2⟩
    rw [lc_filter (fun k : Nat => decide (ds[3 + 2 * k]?.getD 0 = 1)) (g := fun k : Nat => prD (-6 + (k : Int), ds[4 + 2 * k]?.getD 0)) (List.range 15) fun k hk => by
      obtain ⟨x, y, e1, e2, e3, e4, _⟩ := gk k (List.mem_range.mp hk)
      have m2 : (mulOk 2 (k : Int) = true) = True := eq_true (mulOk_l (by decide) (by decide))
      constructor
      · dsimp! only [k6, eq_self, e1, m2, e3, Option.getD_some]
      · intro _
        dsimp! only [k6, eq_self, e2, m2, e4, Option.getD_some]
        exact ⟨_, rfl, by simp⟩]
    dsimp! only [k6, eq_self]
    refine ⟨((List.range 15).filter fun k : Nat => decide (ds[3 + 2 * k]?.getD 0 = 1)).map fun k : Nat => (-6 + (k : Int), ds[4 + 2 * k]?.getD 0), _, _, _, by rw [List.map_map]; rfl, fun hne => ⟨hne, ?_, ?_, ?_⟩⟩
    · rw [List.length_map]; exact Nat.le_trans (List.length_filter_le _ _) (by simp)
    · rw [List.map_map]
      refine List.Pairwise.map _ ?_ (List.Pairwise.filter _ List.pairwise_lt_range)
      intro a b hab
      show (-6 + (a : Int)) ≠ -6 + (b : Int)
      omega
    · intro e he
      obtain ⟨k, hk, rfl⟩ := List.mem_map.mp he
      have hk := List.mem_range.mp (List.mem_filter.mp hk).1
      obtain ⟨x, y, _, _, _, e4, b⟩ := gk k hk
      rw [e4]
      exact ⟨by constructor <;> (show _; simp only []; omega), b⟩
  rintro en1 ⟨es, o7, o8, o9, rfl, hr⟩
  refine w_cut I ?_ ?_
  · dsimp! only [k6, eq_self, g_eqNil (k := 1) (xs := es.map prD) (by decide) (fun d hd => by obtain ⟨p, _, rfl⟩ := List.mem_map.mp hd; exact okP_prD p)]
    split
    · dsimp! only [k6, eq_self, ha1, ha2]
      refine ⟨[(-6 + x1, x2)], _, _, _, rfl, by simp, by simp, by simp, fun e he => ?_⟩
      have : e = (-6 + x1, x2) := by simpa using he
      subst this
      exact ⟨by constructor <;> (show _; simp only []; omega), b2⟩
    · exact ⟨es, _, _, _, rfl, hr fun e => by subst e; contradiction⟩
  rintro en2 ⟨es, o7, o8, o9, rfl, hr⟩
  refine w_cut I ?_ ?_
  · dsimp! only [k6, eq_self, ha0]
    split
    · exact ⟨es.reverse, _, _, _, by rw [List.map_reverse], hr.perm es.reverse_perm⟩
    · exact ⟨es, _, _, _, rfl, hr⟩
  rintro en3 ⟨es, o7, o8, o9, rfl, hr⟩
  have l1 : 1 ≤ (es.map prD).length := by
    rw [List.length_map]
    have := List.length_pos_iff.mpr hr.1
    omega
  have l2 := hr.2.1
  refine w_cut I ?_ ?_
  · dsimp! only [k6, eq_self, ha0]
    split
    · dsimp! only [k6, eq_self, cut_drop l1, cut_take l1]
      refine ⟨by rw [List.length_drop, List.length_take, List.length_map]; omega, es.drop 1 ++ es.take 1, _, _, _, by rw [List.map_append, List.map_drop, List.map_take], hr.perm ?_⟩
      exact (List.perm_append_comm).trans (by rw [List.take_append_drop])
    · exact ⟨es, _, _, _, rfl, hr⟩
  rintro en4 ⟨es, o7, o8, o9, rfl, hr⟩
  have l2 := hr.2.1
  refine w_cut I ?_ ?_
  · dsimp! only [k6, eq_self, ha0]
    split
    · rw [lc_map (c := prD) (g := fun e => D.int e.2) es fun e he => by
        dsimp! only [k7, eq_self, prD]
        exact ⟨_, rfl, by simp⟩]
      have em : es.map (fun e => D.int e.2) = (es.map (·.2)).map D.int := by rw [List.map_map]; rfl
      dsimp! only [k6, eq_self, em, rng1_nat (n := es.length) (by omega)]
      have hp := sortI_perm (es.map (·.2))
      have hl3 := hp.length_eq
      rw [List.length_map] at hl3
      generalize sortI (es.map (·.2)) = vs at *
      rw [lc_map (g := fun k : Nat => prD ((es[k]?.getD (0, 0)).1, vs[k]?.getD 0)) (List.range es.length) fun k hk => by
        have hk := List.mem_range.mp hk
        have a1 : atI (es.map prD) (k : Int) = some (prD es[k]) := by rw [atI_map', atI_nat, List.getElem?_eq_getElem hk]; rfl
        have a2 : atI (vs.map D.int) (k : Int) = some (D.int vs[k]) := by rw [atI_map', atI_nat, List.getElem?_eq_getElem (by omega)]; rfl
        dsimp! only [k7, eq_self, a1, a2, prD]
        exact ⟨_, by rw [List.getElem?_eq_getElem hk, List.getElem?_eq_getElem (by omega)]; rfl, by simp⟩]
      dsimp! only [k6, eq_self]
      refine ⟨by omega, by omega, (List.range es.length).map fun k : Nat => ((es[k]?.getD (0, 0)).1, vs[k]?.getD 0), _, _, _, by rw [List.map_map]; rfl, ?_, ?_, ?_, ?_⟩
      · intro e
        have := congrArg List.length e
        rw [List.length_map, List.length_range] at this
        exact hr.1 (List.eq_nil_of_length_eq_zero this)
      · rw [List.length_map, List.length_range]; exact l2
      · have : ((List.range es.length).map fun k : Nat => ((es[k]?.getD (0, 0)).1, vs[k]?.getD 0)).map (·.1) = es.map (·.1) := by
          refine List.ext_getElem? fun j => ?_
          rw [List.map_map, List.getElem?_map, List.getElem?_map]
          by_cases hj : j < es.length
          · rw [List.getElem?_range hj, List.getElem?_eq_getElem hj]; simp [hj]
          · rw [List.getElem?_eq_none (by simpa using hj), List.getElem?_eq_none (by simpa using hj)]; rfl
        rw [this]
        exact hr.2.2.1
      · intro e he
        obtain ⟨k, hk, rfl⟩ := List.mem_map.mp he
        have hk := List.mem_range.mp hk
        have h3 := hr.2.2.2 es[k] (List.getElem_mem hk)
        have hv : vs[k]'(by omega) ∈ es.map (·.2) := hp.mem_iff.mp (List.getElem_mem _)
        obtain ⟨e2, he2, e3⟩ := List.mem_map.mp hv
        have h4 := hr.2.2.2 e2 he2
        rw [List.getElem?_eq_getElem hk, List.getElem?_eq_getElem (by omega)]
        refine ⟨h3.1, ?_⟩
        show 0 ≤ vs[k] ∧ vs[k] < h
        rw [← e3]
        exact h4.2
    · exact ⟨es, _, _, _, rfl, hr⟩
  rintro en5 ⟨es, o7, o8, o9, rfl, hr⟩
  dsimp! only [k6, eq_self]
  exact ⟨es, rfl, hr⟩
end C
namespace C
open PySem L2 PD
/-! ### dicts by text -/
def dcS {α : Type} (g : α → D) (ps : List (Str × α)) : D := .dct (ps.map fun p => (.inr p.1, g p.2))
def putS {α : Type} (ps : List (Str × α)) (k : Str) (v : α) : List (Str × α) := if (ps.any fun p => decide (p.1 = k)) = true then ps.map (fun p => if p.1 = k then (p.1, v) else p) else ps ++ [(k, v)]
def lookS {α : Type} (ps : List (Str × α)) (k : Str) : Option α := (ps.find? fun p => decide (p.1 = k)).map (·.2)
theorem put_dcS {α : Type} {g : α → D} {ps : List (Str × α)} {k : Str} {v : α} (h : ps.length < 16777216) : putO (g v) (dcS g ps) (.str k) = some (dcS g (putS ps k v)) := by
  have e : putO (g v) (dcS g ps) (.str k) = if (ps.map fun p => ((.inr p.1 : Key), g p.2)).length < 16777216 then some (.dct (putD (ps.map fun p => (.inr p.1, g p.2)) (.inr k) (g v))) else none := rfl
  rw [e, if_pos (by rw [List.length_map]; exact h)]
  congr 1
  unfold putD putS
  have e1 : ((ps.map fun p => ((.inr p.1 : Key), g p.2)).any fun kv => decide (kv.1 = .inr k)) = ps.any fun p => decide (p.1 = k) := by
    rw [List.any_map]
    congr 1
    funext p
    simp
  rw [e1]
  unfold dcS
  split
  · congr 1
    rw [List.map_map, List.map_map]
    refine List.map_congr_left fun p _ => ?_
    show (if (Sum.inr p.1 : Key) = .inr k then ((.inr p.1 : Key), g v) else (.inr p.1, g p.2)) = _
    simp only [Function.comp, Sum.inr.injEq]
    split <;> rfl
  · rw [List.map_append]; rfl
theorem look_dcS {α : Type} {g : α → D} {ps : List (Str × α)} {k : Str} : lookD (ps.map fun p => (.inr p.1, g p.2)) (.inr k) = (lookS ps k).map g := by
  unfold lookD lookS
  induction ps with
  | nil => rfl
  | cons p r ih =>
    rw [List.map_cons, List.find?_cons, List.find?_cons]
    by_cases h : p.1 = k
    · simp [h]
    · have h1 : decide (p.1 = k) = false := decide_eq_false h
      have h2 : decide ((Sum.inr p.1 : Key) = .inr k) = false := decide_eq_false fun e => h (by cases e; rfl)
      simp only [h1, h2]
      exact ih
theorem g_ixDc {α : Type} {g : α → D} {ps : List (Str × α)} {k : Str} {QG : Kd → D → Prop} : wG (ixD (dcS g ps) (.str k)) QG = exO (lookS ps k) (Z (fun x => QG .sh (g x)) ⟨⟩) := by
  show wG ((lookD (ps.map fun p => ((.inr p.1 : Key), g p.2)) (.inr k)).map fun d => (Kd.sh, d)) QG = _
  rw [look_dcS, Option.map_map]
  exact wG_map
theorem putS_mem {α : Type} {ps : List (Str × α)} {k : Str} {v : α} {p : Str × α} (h : p ∈ putS ps k v) : p ∈ ps ∨ p = (k, v) := by
  unfold putS at h
  split at h
  · obtain ⟨q, hq, rfl⟩ := List.mem_map.mp h
    by_cases e : q.1 = k
    · rw [if_pos e, e]; exact .inr rfl
    · rw [if_neg e]; exact .inl hq
  · rcases List.mem_append.mp h with h | h
    · exact .inl h
    · exact .inr (by simpa using h)
theorem putS_len {α : Type} {ps : List (Str × α)} {k : Str} {v : α} : (putS ps k v).length ≤ ps.length + 1 := by
  unfold putS
  split
  · rw [List.length_map]; omega
  · rw [List.length_append]; exact Nat.le_refl _
theorem putS_len_key {α : Type} {ps : List (Str × α)} {k : Str} {v : α} (h : k ∈ ps.map (·.1)) : (putS ps k v).length = ps.length := by
  obtain ⟨p, hp, rfl⟩ := List.mem_map.mp h
  unfold putS
  rw [if_pos (List.any_eq_true.mpr ⟨p, hp, decide_eq_true rfl⟩), List.length_map]
theorem putS_nodup {α : Type} {ps : List (Str × α)} {k : Str} {v : α} (h : (ps.map (·.1)).Nodup) : ((putS ps k v).map (·.1)).Nodup := by
  unfold putS
  split
  · rw [List.map_map]
    have : ps.map ((·.1) ∘ fun p => if p.1 = k then (p.1, v) else p) = ps.map (·.1) := List.map_congr_left fun p _ => by
      simp only [Function.comp]
      split <;> rfl
    rw [this]
    exact h
  · rename_i hn
    rw [List.map_append]
    refine List.nodup_append.mpr ⟨h, by simp, fun a ha b hb => ?_⟩
    obtain ⟨p, hp, rfl⟩ := List.mem_map.mp ha
    have hb : b = k := by simpa using hb
    subst hb
    intro e
    exact hn (List.any_eq_true.mpr ⟨p, hp, decide_eq_true e⟩)
theorem lookS_mem {α : Type} {ps : List (Str × α)} {k : Str} {v : α} (h : lookS ps k = some v) : (k, v) ∈ ps := by
  unfold lookS at h
  obtain ⟨p, hp, rfl⟩ := Option.map_eq_some_iff.mp h
  have h1 := List.find?_some hp
  have h2 := List.mem_of_find?_eq_some hp
  have h1 : p.1 = k := of_decide_eq_true h1
  rw [← h1]
  exact h2
theorem lookS_of {α : Type} {ps : List (Str × α)} {k : Str} (h : k ∈ ps.map (·.1)) : ∃ v, lookS ps k = some v := by
  obtain ⟨p, hp, rfl⟩ := List.mem_map.mp h
  unfold lookS
  cases e : ps.find? fun q => decide (q.1 = p.1) with
  | none => exact absurd (List.find?_eq_none.mp e p hp) (by simp)
  | some q => exact ⟨q.2, rfl⟩
theorem putS_key {α : Type} {ps : List (Str × α)} {k : Str} {v : α} : k ∈ (putS ps k v).map (·.1) := by
  unfold putS
  split
  · rename_i h
    obtain ⟨p, hp, e⟩ := List.any_eq_true.mp h
    have e := of_decide_eq_true e
    exact List.mem_map.mpr ⟨_, List.mem_map.mpr ⟨p, hp, rfl⟩, by rw [if_pos e]; exact e⟩
  · simp
theorem putS_keeps {α : Type} {ps : List (Str × α)} {k j : Str} {v : α} (h : j ∈ ps.map (·.1)) : j ∈ (putS ps k v).map (·.1) := by
  obtain ⟨p, hp, rfl⟩ := List.mem_map.mp h
  unfold putS
  split
  · refine List.mem_map.mpr ⟨_, List.mem_map.mpr ⟨p, hp, rfl⟩, ?_⟩
    split <;> rfl
  · rw [List.map_append]; exact List.mem_append_left _ h
theorem isIns_dcS {α : Type} {g : α → D} {ps : List (Str × α)} : D.isIns (dcS g ps) = false := rfl
theorem dc_nil {α : Type} {g : α → D} : D.dct [] = dcS g ([] : List (Str × α)) := rfl
theorem any_memI (x : Int) : ∀ ss : List Int, (ss.any fun y => y == x) = decide (x ∈ ss)
  | [] => rfl
  | a :: r => by
    rw [List.any_cons, any_memI x r]
    by_cases h : a = x
    · subst h; simp
    · have h' : x ≠ a := fun q => h q.symm
      simp [h, h']
theorem g_inI {n : Bool} {x : Int} {ss : List Int} {QG : Kd → D → Prop} : wG (inN n (.int x) (.lst (ss.map .int))) QG = QG .sh (.bl (if n then !decide (x ∈ ss) else decide (x ∈ ss))) := by
  have e : inN n (.int x) (.lst (ss.map .int)) = some (.sh, .bl (if n then !decide (x ∈ ss) else decide (x ∈ ss))) := by
    have f : (ss.map D.int).all flatD = true := by rw [List.all_map]; exact List.all_eq_true.mpr fun _ _ => rfl
    show (if flatD (.int x) = true ∧ (ss.map D.int).all flatD = true then eqb n ((ss.map D.int).any fun y => eqF y (.int x)) else none) = _
    rw [if_pos ⟨rfl, f⟩, List.any_map, ← any_memI]
    rfl
  rw [e, wG_some]
theorem cut_takeN {α : Type} {xs : List α} {n : Nat} (h : n ≤ xs.length) : cutD xs none (some (n : Int)) = xs.take n := by
  unfold cutD
  rw [HT.sIx_nat, HT.sIx_none, Nat.min_eq_left h, List.drop_zero, Nat.sub_zero]
theorem Row.mono {a : Int} {n : Nat} {h h' : Int} {es : List (Int × Int)} (r : Row a n h es) (hh : h ≤ h') : Row a n h' es := ⟨r.1, r.2.1, r.2.2.1, fun e he => ⟨(r.2.2.2 e he).1, (r.2.2.2 e he).2.1, Int.lt_of_lt_of_le (r.2.2.2 e he).2.2 hh⟩⟩
theorem getMapRange {n i : Nat} {d : D} (h : ((List.range n).map fun i : Nat => D.int (i : Int))[i]? = some d) : i < n ∧ d = .int i := by
  rw [← rngL_map, rngL_get] at h
  exact h
/-- a comprehension without tests, any target -/
theorem lc_mapG {α : Type} {tg : D → En → Option En} {fe : En → Option R} {en : En} {c g : α → D} : ∀ (ys : List α), (∀ y ∈ ys, ∃ en1, tg (c y) en = some en1 ∧ wR (fe en1) fun r => ∃ k, r = .val k (g y) ∧ k ≠ .bo) → tgIf tg fYes fe en (ys.map c) = some (ys.map g)
  | [], _ => rfl
  | y :: r, h => by
    obtain ⟨en1, e1, x, e, k, rfl, hk⟩ := h y List.mem_cons_self
    have ih := lc_mapG r fun z hz => h z (List.mem_cons_of_mem _ hz)
    rw [List.map_cons]
    unfold tgIf
    simp only [e1, fYes, e]
    cases k with
    | sh => simp only [shr, ih]; rfl
    | nw => simp only [shr, ih]; rfl
    | bo => exact absurd rfl hk
theorem put_lst {v : D} {ds : List D} {m : Int} (h0 : 0 ≤ m) (h1 : m < ds.length) : putO v (.lst ds) (.int m) = some (.lst (ds.set m.toNat v)) := by
  show (ixN ds.length m).map (fun j => D.lst (ds.set j v)) = _
  unfold ixN
  rw [if_pos h0, if_pos h1]
  rfl
theorem set_map {α : Type} {f : α → D} {xs : List α} {j : Nat} {x : α} : (xs.map f).set j (f x) = (xs.set j x).map f := List.map_set.symm
/-! ### parts -/
def firstOf (es : List (Int × Int)) : List (Int × Int) := ((List.range es.length).filter fun k : Nat => !decide ((es[k]?.getD (0, 0)).1 ∈ (es.map (·.1)).take k)).map fun k : Nat => es[k]?.getD (0, 0)
theorem firstOf_row {es : List (Int × Int)} {a : Int} {n : Nat} {h : Int} (h1 : es ≠ []) (h2 : es.length ≤ n) (h3 : ∀ e ∈ es, (a ≤ e.1 ∧ e.1 < a + n) ∧ 0 ≤ e.2 ∧ e.2 < h) : Row a n h (firstOf es) := by
  have hl : 0 < es.length := List.length_pos_iff.mpr h1
  refine ⟨?_, ?_, ?_, fun e he => ?_⟩
  · intro e
    unfold firstOf at e
    rw [List.map_eq_nil_iff, List.filter_eq_nil_iff] at e
    exact e 0 (List.mem_range.mpr hl) (by simp)
  · unfold firstOf
    rw [List.length_map]
    exact Nat.le_trans (List.length_filter_le _ _) (by rw [List.length_range]; exact h2)
  · unfold firstOf
    rw [List.map_map]
    refine List.Pairwise.map _ (fun _ _ h => h) (List.Pairwise.imp_of_mem (R := (· < ·)) (fun {x y} hx hy hxy => ?_) (List.Pairwise.filter _ List.pairwise_lt_range))
    obtain ⟨hy1, hy2⟩ := List.mem_filter.mp hy
    have hy1 := List.mem_range.mp hy1
    have hx1 : x < es.length := Nat.lt_trans hxy hy1
    intro e
    have hy3 : ¬ (es[y]?.getD (0, 0)).1 ∈ (es.map (·.1)).take y := by simpa using hy2
    refine hy3 (List.mem_of_getElem? (i := x) ?_)
    rw [List.getElem?_take, if_pos hxy, List.getElem?_map, List.getElem?_eq_getElem hx1]
    have e2 : (es[x]?.getD (0, 0)).1 = (es[y]?.getD (0, 0)).1 := e
    rw [← e2, List.getElem?_eq_getElem hx1]
    rfl
  · unfold firstOf at he
    obtain ⟨k, hk, rfl⟩ := List.mem_map.mp he
    have hk := List.mem_range.mp (List.mem_filter.mp hk).1
    rw [List.getElem?_eq_getElem hk]
    exact h3 _ (List.getElem_mem hk)
def rowD (es : List (Int × Int)) : D := .lst (es.map prD)
structure Parts (ps qs : List (Str × Int)) (as : List (Str × List (Int × Int))) : Prop where
  pn : (ps.map (·.1)).Nodup
  qn : (qs.map (·.1)).Nodup
  an : (as.map (·.1)).Nodup
  pl : ps.length ≤ 3
  ql : qs.length ≤ 2
  al : as.length ≤ 3
  pv : ∀ p ∈ ps, Nm p.1 ∧ -4 ≤ p.2 ∧ p.2 ≤ 6
  qv : ∀ p ∈ qs, Nm p.1 ∧ -2 ≤ p.2 ∧ p.2 ≤ 6
  av : ∀ p ∈ as, Nm p.1 ∧ Row (-6) 15 10 p.2
def partsD (ps qs : List (Str × Int)) (as : List (Str × List (Int × Int))) : D := .tup [dcS .int ps, dcS .int qs, dcS rowD as]
def limP : List Int := [4, 3, 4, 2, 3, 11, 11, 11, 9, 9]
def enP (ns : List Int) (i : Nat) (ds : List Int) (ss : List Str) (o4 o5 o6 o7 o8 o9 o10 o11 o12 : Option Sl) : En := [some (Sl.sh (.scr ns)), some (Sl.sh (.int i)), some (Sl.sh (.lst (ds.map .int))), some (Sl.sh (.lst (ss.map .str))), o4, o5, o6, o7, o8, o9, o10, o11, o12]
theorem parts_spec (ns : List Int) (i : Nat) : wR (F_Lparts [.scr ns, .int i]) fun r => ∃ ps qs as, r = .val .sh (partsD ps qs as) ∧ Parts ps qs as := by
  rw [F_Lparts, w_run, b_Lparts]
  dsimp! only [k8, eq_self]
  repeat (refine ⟨by first | decide | omega, ?_⟩)
  refine (draws_spec ns i limP (by decide) (by decide +kernel)).mono ?_
  rintro r ⟨ds, rfl, hl, hd⟩
  have hl : ds.length = 10 := hl
  have at0 : ∀ j : Nat, j < 10 → ∃ x, ds[j]? = some x ∧ atI (ds.map D.int) (j : Int) = some (.int x) := fun j hj =>
    ⟨_, List.getElem?_eq_getElem (by omega), by rw [atI_map', atI_nat, List.getElem?_eq_getElem (by omega)]; rfl⟩
  dsimp! only [k6, eq_self, show ((i : Int) + 1) = ((i + 1 : Nat) : Int) by omega]
  refine (names_spec ns (i + 1)).mono ?_
  rintro r ⟨ss, rfl, sl, sn⟩
  have gk : ∀ (j : Nat) (l : Int), limP[j]? = some l → ∃ x, ds[j]? = some x ∧ atI (ds.map D.int) (j : Int) = some (.int x) ∧ 0 ≤ x ∧ x < l := fun j l h => by
    have : j < 10 := (List.getElem?_eq_some_iff.mp h).1
    obtain ⟨x, e1, e2⟩ := at0 j this
    exact ⟨x, e1, e2, hd _ _ _ e1 h⟩
  have gs : ∀ j : Nat, j < 8 → ∃ x, ss[j]? = some x ∧ atI (ss.map D.str) (j : Int) = some (.str x) ∧ Nm x := fun j hj =>
    ⟨_, List.getElem?_eq_getElem (by omega), by rw [atI_map', atI_nat, List.getElem?_eq_getElem (by omega)]; rfl, sn _ (List.getElem_mem _)⟩
  obtain ⟨x0, hx0, ha0, b0⟩ := gk 0 4 rfl
  obtain ⟨x1, hx1, ha1, b1⟩ := gk 1 3 rfl
  obtain ⟨x2, hx2, ha2, b2⟩ := gk 2 4 rfl
  obtain ⟨x3, hx3, ha3, b3⟩ := gk 3 2 rfl
  obtain ⟨x4, hx4, ha4, b4⟩ := gk 4 3 rfl
  obtain ⟨x5, hx5, ha5, b5⟩ := gk 5 11 rfl
  rw [show ((0 : Nat) : Int) = 0 from rfl] at ha0
  rw [show ((1 : Nat) : Int) = 1 from rfl] at ha1
  rw [show ((2 : Nat) : Int) = 2 from rfl] at ha2
  rw [show ((3 : Nat) : Int) = 3 from rfl] at ha3
  rw [show ((4 : Nat) : Int) = 4 from rfl] at ha4
  rw [show ((5 : Nat) : Int) = 5 from rfl] at ha5
  obtain ⟨n0, rfl⟩ : ∃ n : Nat, x0 = n := ⟨x0.toNat, by omega⟩
  obtain ⟨n1, rfl⟩ : ∃ n : Nat, x1 = n := ⟨x1.toNat, by omega⟩
  obtain ⟨n2, rfl⟩ : ∃ n : Nat, x2 = n := ⟨x2.toNat, by omega⟩
  dsimp! only [k6, eq_self, dc_nil (g := D.int), isIns_dcS, ha0, rng1_nat (n := n0) (by omega)]
  refine forD_inv _ (fun k en => ∃ (ps : List (Str × Int)) (o5 : Option Sl), en = enP ns i ds ss (some (.ow (dcS .int ps))) o5 none none none none none none none ∧ (ps.map (·.1)).Nodup ∧ ps.length ≤ k ∧ ∀ p ∈ ps, Nm p.1 ∧ -4 ≤ p.2 ∧ p.2 ≤ 6) _ ⟨[], none, rfl, by simp, by simp, fun p hp => by cases hp⟩ ?_ ?_
  · rintro k d en hd1 ⟨ps, o5, rfl, h1, h2, h3⟩
    obtain ⟨hk, rfl⟩ := getMapRange hd1
    refine ⟨_, rfl, ?_⟩
    obtain ⟨y, e1, e2, b⟩ := gk (5 + k) 11 (by match k, (show k < 3 by omega) with | 0, _ | 1, _ | 2, _ => rfl)
    obtain ⟨z, e3, e4, bz⟩ := gs k (by omega)
    have e2 : atI (ds.map D.int) (5 + (k : Int)) = some (.int y) := by rw [← e2]; congr 1
    dsimp! only [k6, eq_self, enP, e2, e4, put_dcS (g := D.int) (show ps.length < 16777216 by omega)]
    refine ⟨_, _, rfl, putS_nodup h1, Nat.le_trans putS_len (by omega), fun p hp => ?_⟩
    rcases putS_mem hp with hp | rfl
    · exact h3 p hp
    · exact ⟨bz, by constructor <;> (show _ ; simp only []; omega)⟩
  rintro en1 ⟨ps, o5, rfl, pn, pl, pv⟩
  simp only [List.length_map, List.length_range] at pl
  dsimp! only [k6, eq_self, enP, dc_nil (g := D.int), isIns_dcS, ha1, rng1_nat (n := n1) (by omega)]
  refine forD_inv _ (fun k en => ∃ (qs : List (Str × Int)) (o5 : Option Sl), en = enP ns i ds ss (some (.ow (dcS .int ps))) o5 (some (.ow (dcS .int qs))) none none none none none none ∧ (qs.map (·.1)).Nodup ∧ qs.length ≤ k ∧ ∀ p ∈ qs, Nm p.1 ∧ -2 ≤ p.2 ∧ p.2 ≤ 6) _ ⟨[], _, rfl, by simp, by simp, fun p hp => by cases hp⟩ ?_ ?_
  · rintro k d en hd1 ⟨qs, o5, rfl, h1, h2, h3⟩
    obtain ⟨hk, rfl⟩ := getMapRange hd1
    refine ⟨_, rfl, ?_⟩
    obtain ⟨y, e1, e2, b⟩ := gk (8 + k) 9 (by match k, (show k < 2 by omega) with | 0, _ | 1, _ => rfl)
    obtain ⟨z, e3, e4, bz⟩ := gs (3 + k) (by omega)
    have e2 : atI (ds.map D.int) (8 + (k : Int)) = some (.int y) := by rw [← e2]; congr 1
    have e4 : atI (ss.map D.str) (3 + (k : Int)) = some (.str z) := by rw [← e4]; congr 1
    dsimp! only [k6, eq_self, enP, e2, e4, put_dcS (g := D.int) (show qs.length < 16777216 by omega)]
    refine ⟨_, _, rfl, putS_nodup h1, Nat.le_trans putS_len (by omega), fun p hp => ?_⟩
    rcases putS_mem hp with hp | rfl
    · exact h3 p hp
    · exact ⟨bz, by constructor <;> (show _ ; simp only []; omega)⟩
  rintro en2 ⟨qs, o5, rfl, qn, ql, qv⟩
  simp only [List.length_map, List.length_range] at ql
  dsimp! only [k6, eq_self, enP, dc_nil (g := rowD), isIns_dcS, ha2, rng1_nat (n := n2) (by omega)]
  refine forD_inv _ (fun k en => ∃ (as : List (Str × List (Int × Int))) (o5 : Option Sl), en = enP ns i ds ss (some (.ow (dcS .int ps))) o5 (some (.ow (dcS .int qs))) (some (.ow (dcS rowD as))) none none none none none ∧ (as.map (·.1)).Nodup ∧ as.length ≤ k ∧ (∀ p ∈ as, Nm p.1 ∧ Row (-6) 15 4 p.2) ∧ ∀ j z, j < k → ss[5 + j]? = some z → z ∈ as.map (·.1)) _ ⟨[], _, rfl, by simp, by simp, (fun p hp => by cases hp), fun j z hj => by omega⟩ ?_ ?_
  · rintro k d en hd1 ⟨as, o5, rfl, h1, h2, h3, h5⟩
    obtain ⟨hk, rfl⟩ := getMapRange hd1
    refine ⟨_, rfl, ?_⟩
    obtain ⟨z, e3, e4, bz⟩ := gs (5 + k) (by omega)
    have e4 : atI (ss.map D.str) (5 + (k : Int)) = some (.str z) := by rw [← e4]; congr 1
    dsimp! only [k6, eq_self, enP, ha3, show ((i : Int) + 2 + (k : Int)) = ((i + 2 + k : Nat) : Int) by omega]
    refine (row_spec ns (i + 2 + k) (4 - x3) (by omega) (by omega)).mono ?_
    rintro r ⟨es, rfl, he⟩
    dsimp! only [k6, eq_self, e4]
    refine ⟨_, put_dcS (g := rowD) (v := es) (show as.length < 16777216 by omega), _, _, rfl, putS_nodup h1, Nat.le_trans putS_len (by omega), (fun p hp => ?_), fun j y hj hy => ?_⟩
    · rcases putS_mem hp with hp | rfl
      · exact h3 p hp
      · exact ⟨bz, he.mono (by omega)⟩
    · by_cases hjk : j = k
      · subst hjk
        rw [e3] at hy
        cases hy
        exact putS_key
      · exact putS_keeps (h5 j y (by omega) hy)
  rintro en3 ⟨as, o5, rfl, an, al, av, ak⟩
  simp only [List.length_map, List.length_range] at al ak
  refine w_cut (fun en => ∃ (as : List (Str × List (Int × Int))) (o5 o8 o9 o10 o11 o12 : Option Sl), en = enP ns i ds ss (some (.ow (dcS .int ps))) o5 (some (.ow (dcS .int qs))) (some (.ow (dcS rowD as))) o8 o9 o10 o11 o12 ∧ (as.map (·.1)).Nodup ∧ as.length ≤ 3 ∧ (∀ p ∈ as, Nm p.1 ∧ Row (-6) 15 10 p.2)) ?_ ?_
  · dsimp! only [k6, eq_self, enP, ha2, ha3]
    split
    · split
      · obtain ⟨z5, e5, a5, _⟩ := gs 5 (by omega)
        obtain ⟨z6, e6, a6, bz6⟩ := gs 6 (by omega)
        rw [show ((5 : Nat) : Int) = 5 from rfl] at a5
        rw [show ((6 : Nat) : Int) = 6 from rfl] at a6
        obtain ⟨r5, l5⟩ := lookS_of (ak 0 z5 (by omega) e5)
        obtain ⟨r6, l6⟩ := lookS_of (ak 1 z6 (by omega) e6)
        have w5 := (av _ (lookS_mem l5)).2
        have w6 := (av _ (lookS_mem l6)).2
        obtain ⟨f0, fr, er6⟩ : ∃ f0 fr, r6 = f0 :: fr := by
          cases hr : r6 with
          | nil => exact absurd hr w6.1
          | cons a b => exact ⟨a, b, rfl⟩
        have q1 : r5.length ≤ 15 := w5.2.1
        have q0 : 0 < r5.length := List.length_pos_iff.mpr w5.1
        dsimp! only [k6, eq_self, a5, a6, g_ixDc, l5, l6, rowD]
        rw [lc_mapG (g := fun e : Int × Int => prD (e.1, e.2 + x4)) r5 fun e he => ⟨_, rfl, by
          dsimp! only [k6, eq_self, ha4]
          exact ⟨_, rfl, by simp⟩⟩]
        have em : r5.map (fun e : Int × Int => prD (e.1, e.2 + x4)) = (r5.map fun e : Int × Int => (e.1, e.2 + x4)).map prD := by rw [List.map_map]; rfl
        dsimp! only [k6, eq_self, ha5, em, a6, g_ixDc, l6, rowD, er6, List.map_cons, atI_0, List.getElem?_cons_zero]
        refine ⟨by omega, by omega, ?_⟩
        have m0 : 0 ≤ x5 % (r5.length : Int) := Int.emod_nonneg _ (by omega)
        have m1 : x5 % (r5.length : Int) < r5.length := Int.emod_lt_of_pos _ (by omega)
        rw [put_lst m0 (by simpa using m1), set_map]
        have e2b : ∀ e ∈ (r5.map fun e : Int × Int => (e.1, e.2 + x4)).set (x5 % (r5.length : Int)).toNat f0, ((-6 : Int) ≤ e.1 ∧ e.1 < -6 + 15) ∧ 0 ≤ e.2 ∧ e.2 < 10 := fun e he => by
          rcases List.mem_or_eq_of_mem_set he with he | rfl
          · obtain ⟨q, hq, rfl⟩ := List.mem_map.mp he
            obtain ⟨t1, t2, t3⟩ := w5.2.2.2 q hq
            exact ⟨t1, show 0 ≤ q.2 + x4 by omega, show q.2 + x4 < 10 by omega⟩
          · have := w6.2.2.2 e (by rw [er6]; exact List.mem_cons_self)
            exact ⟨this.1, this.2.1, by omega⟩
        have e2n : (r5.map fun e : Int × Int => (e.1, e.2 + x4)).set (x5 % (r5.length : Int)).toNat f0 ≠ [] := fun e => by
          have := congrArg List.length e
          rw [List.length_set, List.length_map, List.length_nil] at this
          omega
        have e2l : ((r5.map fun e : Int × Int => (e.1, e.2 + x4)).set (x5 % (r5.length : Int)).toNat f0).length ≤ 15 := by rw [List.length_set, List.length_map]; exact q1
        generalize (r5.map fun e : Int × Int => (e.1, e.2 + x4)).set (x5 % (r5.length : Int)).toNat f0 = es2 at *
        dsimp! only [k6, eq_self]
        rw [lc_map (c := prD) (g := fun e => D.int e.1) es2 fun e he => by
          dsimp! only [k7, eq_self, prD]
          exact ⟨_, rfl, by simp⟩]
        have em2 : es2.map (fun e => D.int e.1) = (es2.map (·.1)).map D.int := by rw [List.map_map]; rfl
        dsimp! only [k6, eq_self, em2, rng1_nat (n := es2.length) (by omega)]
        rw [lc_filter (fun k : Nat => !decide ((es2[k]?.getD (0, 0)).1 ∈ (es2.map (·.1)).take k)) (g := fun k : Nat => prD (es2[k]?.getD (0, 0))) (List.range es2.length) fun k hk => by
          have hk := List.mem_range.mp hk
          have a1 : atI (es2.map prD) (k : Int) = some (prD es2[k]) := by rw [atI_map', atI_nat, List.getElem?_eq_getElem hk]; rfl
          constructor
          · have c1 : cutD ((es2.map (·.1)).map D.int) none (some (k : Int)) = ((es2.map (·.1)).take k).map D.int := by rw [cut_takeN (by simp; omega), List.map_take]
            dsimp! only [k7, eq_self, a1, prD, c1, g_inI, List.getElem?_eq_getElem hk, Option.getD_some]
          · intro _
            dsimp! only [k6, eq_self, a1, List.getElem?_eq_getElem hk, Option.getD_some]
            exact ⟨_, rfl, by simp⟩]
        have em3 : ((List.range es2.length).filter fun k : Nat => !decide ((es2[k]?.getD (0, 0)).1 ∈ (es2.map (·.1)).take k)).map (fun k : Nat => prD (es2[k]?.getD (0, 0))) = (firstOf es2).map prD := by
          unfold firstOf
          rw [List.map_map]
          rfl
        dsimp! only [k6, eq_self, em3, a6]
        refine ⟨by omega, by omega, dcS rowD (putS as z6 (firstOf es2)), put_dcS (g := rowD) (v := firstOf es2) (by omega), _, _, _, _, _, _, _, rfl, putS_nodup an, ?_, fun p hp => ?_⟩
        · rw [putS_len_key (ak 1 z6 (by omega) e6)]; omega
        · rcases putS_mem hp with hp | rfl
          · exact ⟨(av p hp).1, (av p hp).2.mono (by omega)⟩
          · exact ⟨bz6, firstOf_row e2n e2l e2b⟩
      · exact ⟨as, _, _, _, _, _, _, rfl, an, by omega, fun p hp => ⟨(av p hp).1, (av p hp).2.mono (by omega)⟩⟩
    · exact ⟨as, _, _, _, _, _, _, rfl, an, by omega, fun p hp => ⟨(av p hp).1, (av p hp).2.mono (by omega)⟩⟩
  rintro en4 ⟨as, o5, o8, o9, o10, o11, o12, rfl, an, al, av⟩
  dsimp! only [k6, eq_self, enP, frz_def]
  exact ⟨ps, qs, as, rfl, pn, qn, an, by omega, by omega, al, pv, qv, av⟩
end C
namespace C
open PySem L2 PD
/-! ### terms and sayings -/
def BB : Int := 10 ^ 40
inductive Tm where
  | pt (p : Str × Int)
  | el (a : Str) (p : Str × Int) (k : Int)
def ptD (p : Str × Int) : D := .tup [.str p.1, .int p.2]
def Tm.D : Tm → D
  | .pt p => ptD p
  | .el a p k => .tup [.str a, ptD p, .int k]
def opD : Option (Str × Int) → D
  | none => .non
  | some p => ptD p
inductive Sy where
  | place (t u : Str × Int)
  | value (t u : Tm)
  | rising (a : Str) (e f : Option (Str × Int))
  | low (a : Str) (e f : Option (Str × Int)) (t : Tm)
  | high (a : Str) (e f : Option (Str × Int)) (t : Tm)
  | below (a : Str) (e f : Option (Str × Int)) (b : Str) (g h : Option (Str × Int)) (k : Int)
  | same (a b : Str) (e f : Option (Str × Int)) (k : Int)
def Sy.D : Sy → D
  | .place t u => .tup [.str "place", ptD t, ptD u]
  | .value t u => .tup [.str "value", t.D, u.D]
  | .rising a e f => .tup [.str "rising", .str a, opD e, opD f]
  | .low a e f t => .tup [.str "low", .str a, opD e, opD f, t.D]
  | .high a e f t => .tup [.str "high", .str a, opD e, opD f, t.D]
  | .below a e f b g h k => .tup [.str "below", .str a, opD e, opD f, .str b, opD g, opD h, .int k]
  | .same a b e f k => .tup [.str "same", .str a, .str b, opD e, opD f, .int k]
structure Voc where
  Sp : Str → Prop
  Sq : Str → Prop
  Sa : Str → Prop
def ptOk (S : Str → Prop) (B : Int) (p : Str × Int) : Prop := S p.1 ∧ -B ≤ p.2 ∧ p.2 ≤ B
def opOk (S : Str → Prop) (B : Int) : Option (Str × Int) → Prop
  | none => True
  | some p => ptOk S B p
def Tm.Ok (V : Voc) (B : Int) : Tm → Prop
  | .pt p => ptOk V.Sq B p
  | .el a p k => V.Sa a ∧ ptOk V.Sp B p ∧ -B ≤ k ∧ k ≤ B
def Sy.Ok (V : Voc) (B : Int) : Sy → Prop
  | .place t u => ptOk V.Sp B t ∧ ptOk V.Sp B u
  | .value t u => t.Ok V B ∧ u.Ok V B
  | .rising a e f => V.Sa a ∧ opOk V.Sp B e ∧ opOk V.Sp B f
  | .low a e f t => V.Sa a ∧ opOk V.Sp B e ∧ opOk V.Sp B f ∧ t.Ok V B
  | .high a e f t => V.Sa a ∧ opOk V.Sp B e ∧ opOk V.Sp B f ∧ t.Ok V B
  | .below a e f b g h k => V.Sa a ∧ opOk V.Sp B e ∧ opOk V.Sp B f ∧ V.Sa b ∧ opOk V.Sp B g ∧ opOk V.Sp B h ∧ -B ≤ k ∧ k ≤ B
  | .same a b e f k => V.Sa a ∧ V.Sa b ∧ opOk V.Sp B e ∧ opOk V.Sp B f ∧ -B ≤ k ∧ k ≤ B
theorem len10 {ds : List Int} (h : ds.length = 10) : ∃ a b c d e f g i j k, ds = [a, b, c, d, e, f, g, i, j, k] := by
  match ds, h with
  | [a, b, c, d, e, f, g, i, j, k], _ => exact ⟨a, b, c, d, e, f, g, i, j, k, rfl⟩
def limS : List Int := [2, 12, 9, 12, 9, 2, 12, 9, 12, 9]
theorem pick {xs : List Str} (h : xs ≠ []) (x : Int) : ∃ s, atI (xs.map D.str) (x % (xs.length : Int)) = some (.str s) ∧ s ∈ xs := by
  have hl : 0 < xs.length := List.length_pos_iff.mpr h
  obtain ⟨s, e1, e2⟩ := atI_some (xs := xs) (Int.emod_nonneg x (show (xs.length : Int) ≠ 0 by omega)) (Int.emod_lt_of_pos x (by omega))
  exact ⟨s, by rw [atI_map', e1]; rfl, List.mem_of_getElem? e2⟩
theorem sums_spec (V : Voc) (ds : List Int) (hd : Below ds limS) (pool nums arrs : List Str) (hp : pool ≠ []) (hn : nums.length ≤ 100) (V0 : V.Sq "") (vp : ∀ s ∈ pool, V.Sp s) (vn : ∀ s ∈ nums, V.Sq s) (va : ∀ s ∈ arrs, V.Sa s) :
    wR (F_Lsums [.lst (ds.map .int), .lst (pool.map .str), .lst (nums.map .str), .lst (arrs.map .str)]) fun r => ∃ t u : Tm, r = .val .nw (.lst [t.D, u.D]) ∧ t.Ok V 4 ∧ u.Ok V 4 := by
  have cut : ∀ k : Nat, k < 2 → ∃ a b c d e : Int, cutD (ds.map D.int) (some (5 * (k : Int))) (some (5 * (k : Int) + 5)) = [.int a, .int b, .int c, .int d, .int e] ∧ (0 ≤ c ∧ c < 9) ∧ 0 ≤ e ∧ e < 9 := by
    obtain ⟨hl, hd⟩ := hd
    obtain ⟨a, b, c, d, e, f, g, i, j, l, rfl⟩ := len10 hl
    intro k hk
    match k, hk with
    | 0, _ => exact ⟨a, b, c, d, e, rfl, hd 2 _ _ rfl rfl, hd 4 _ _ rfl rfl⟩
    | 1, _ => exact ⟨f, g, i, j, l, rfl, hd 7 _ _ rfl rfl, hd 9 _ _ rfl rfl⟩
  rw [F_Lsums, w_run, b_Lsums]
  dsimp! only [k8, eq_self, rng1_lit (n := 2) (by decide)]
  refine forD_inv _ (fun k en => ∃ (ts : List Tm) (o5 o6 o7 o8 o9 o10 o11 o12 : Option Sl), en = [some (.sh (.lst (ds.map .int))), some (.sh (.lst (pool.map .str))), some (.sh (.lst (nums.map .str))), some (.sh (.lst (arrs.map .str))), some (.ow (.lst (ts.map Tm.D))), o5, o6, o7, o8, o9, o10, o11, o12] ∧ ts.length = k ∧ ∀ t ∈ ts, t.Ok V 4) _ ⟨[], _, _, _, _, _, _, _, _, rfl, rfl, fun t h => by cases h⟩ ?_ ?_
  · rintro k d en hd1 ⟨ts, o5, o6, o7, o8, o9, o10, o11, o12, rfl, tl, tok⟩
    obtain ⟨hk, rfl⟩ := getMapRange hd1
    refine ⟨_, rfl, ?_⟩
    obtain ⟨a, b, c, d, e, ec, bc, be⟩ := cut k hk
    have m5 : (mulOk 5 (k : Int) = true) = True := eq_true (mulOk_l (by decide) (by decide))
    obtain ⟨s1, e1, i1⟩ := pick (xs := Str.ofString "" :: nums) (by simp) b
    obtain ⟨s3, e3, i3⟩ := pick hp d
    have own : [D.str (Str.ofString "")] ++ List.map D.str nums = List.map D.str (Str.ofString "" :: nums) := rfl
    have q1 : V.Sq s1 := by
      rcases List.mem_cons.mp i1 with rfl | h
      · exact V0
      · exact vn _ h
    have pl : 0 < pool.length := List.length_pos_iff.mpr hp
    have pl2 : ((0 : Int) < (pool.length : Int)) = True := eq_true (by omega)
    have fin : ∀ (t : Tm) (o6 o8 o9 o10 o11 o12 : Option Sl), t.Ok V 4 → ∃ (ts1 : List Tm) (o5 o6' o7 o8' o9' o10' o11' o12' : Option Sl), [some (.sh (.lst (ds.map .int))), some (.sh (.lst (pool.map .str))), some (.sh (.lst (nums.map .str))), some (.sh (.lst (arrs.map .str))), some (.ow (.lst (ts.map Tm.D ++ [t.D]))), some (.sh (.int k)), o6, some (.sh t.D), o8, o9, o10, o11, o12] =
        [some (.sh (.lst (ds.map .int))), some (.sh (.lst (pool.map .str))), some (.sh (.lst (nums.map .str))), some (.sh (.lst (arrs.map .str))), some (.ow (.lst (ts1.map Tm.D))), o5, o6', o7, o8', o9', o10', o11', o12'] ∧ ts1.length = k + 1 ∧ ∀ t ∈ ts1, t.Ok V 4 := fun t o6 o8 o9 o10 o11 o12 ht =>
      ⟨ts ++ [t], _, _, _, _, _, _, _, _, by rw [List.map_append]; rfl, by rw [List.length_append, tl]; rfl, fun u hu => by
        rcases List.mem_append.mp hu with hu | hu
        · exact tok u hu
        · have : u = t := by simpa using hu
          subst this; exact ht⟩
    have tl2 : (ts.length < 16777216) = True := eq_true (by omega)
    have nl : ((1 + nums.length ≤ 16777216)) = True := eq_true (by omega)
    have nl2 : ((0 : Int) < ((nums.length + 1 : Nat) : Int)) = True := eq_true (by omega)
    rw [List.length_cons] at e1
    dsimp! only [k6, eq_self, m5, ec, own, e1, e3, pl2, tl2, nl, nl2]
    have o1 : Tm.Ok V 4 (.pt (s1, c - 4)) := ⟨q1, show -4 ≤ c - 4 by omega, show c - 4 ≤ 4 by omega⟩
    split
    · split
      · obtain ⟨s2, e2, i2⟩ := pick (xs := arrs) (fun e => by subst e; contradiction) b
        dsimp! only [k6, eq_self, e2, e3, pl2, tl2]
        refine ⟨by assumption, fin (.el s2 (s3, e - 4) (c - 4)) _ _ _ _ _ _ ⟨va _ i2, ⟨vp _ i3, show -4 ≤ e - 4 by omega, show e - 4 ≤ 4 by omega⟩, by omega, by omega⟩⟩
      · exact fin _ _ _ _ _ _ _ o1
    · exact fin _ _ _ _ _ _ _ o1
  · rintro en ⟨ts, o5, o6, o7, o8, o9, o10, o11, o12, rfl, tl, tok⟩
    dsimp! only [k6, eq_self]
    match ts, tl with
    | [t, u], _ => exact ⟨t, u, rfl, tok t (by simp), tok u (by simp)⟩
end C
namespace C
open PySem L2 PD
/-- a comprehension whose items are of a kind -/
theorem lc_ex {α β : Type} {i : Nat} {fe : En → Option R} {en : En} {c : α → D} {g : β → D} {P : β → Prop} : ∀ (ys : List α), (∀ y ∈ ys, wR (fe (en.set i (some (.sh (c y))))) fun r => ∃ k x, r = .val k (g x) ∧ k ≠ .bo ∧ P x) → ∃ xs : List β, tgIf (hName i) fYes fe en (ys.map c) = some (xs.map g) ∧ xs.length = ys.length ∧ ∀ x ∈ xs, P x
  | [], _ => ⟨[], rfl, rfl, fun x h => by cases h⟩
  | y :: r, h => by
    obtain ⟨z, e, k, x, rfl, hk, p⟩ := h y List.mem_cons_self
    obtain ⟨xs, ih, hl, hp⟩ := lc_ex r fun z hz => h z (List.mem_cons_of_mem _ hz)
    refine ⟨x :: xs, ?_, by rw [List.length_cons, List.length_cons, hl], fun w hw => ?_⟩
    · rw [List.map_cons]
      unfold tgIf
      simp only [hName, fYes, e]
      cases k with
      | sh => simp only [shr, ih]; rfl
      | nw => simp only [shr, ih]; rfl
      | bo => exact absurd rfl hk
    · rcases List.mem_cons.mp hw with rfl | hw
      · exact p
      · exact hp w hw
theorem g_listDc {α : Type} {g : α → D} {ps : List (Str × α)} {QG : Kd → D → Prop} : wG (listD (dcS g ps)) QG = QG .nw (.lst ((ps.map (·.1)).map .str)) := by
  have e : listD (dcS g ps) = some (.nw, .lst ((ps.map (·.1)).map .str)) := by
    show some (Kd.nw, D.lst ((ps.map fun p => ((.inr p.1 : Key), g p.2)).map fun kv => kD kv.1)) = _
    rw [List.map_map, List.map_map]
    rfl
  rw [e, wG_some]
def limY : List Int := [7, 12, 9, 5, 12, 9, 5, 12, 9, 5, 12, 9, 5, 2, 12, 9, 12, 9, 2, 12, 9, 12, 9, 6, 6, 9]
theorem saying_specL (V : Voc) (ns : List Int) (i : Nat) {ps qs : List (Str × Int)} {as : List (Str × List (Int × Int))} (pl : ps.length ≤ 10) (ql : qs.length ≤ 10) (al : as.length ≤ 10) (V0 : V.Sp "") (V1 : V.Sq "") (vp : ∀ p ∈ ps, V.Sp p.1) (vq : ∀ p ∈ qs, V.Sq p.1) (va : ∀ p ∈ as, V.Sa p.1) :
    wR (F_Lsaying [.scr ns, .int i, partsD ps qs as]) fun r => ∃ y : Sy, r = .val .sh y.D ∧ y.Ok V 4 := by
  rw [F_Lsaying, w_run, b_Lsaying]
  dsimp! only [k8, eq_self, partsD]
  have e1 : tgIf (hName 15) fYes (fUn listD (fVar 15)) [some (Sl.sh (D.scr ns)), some (Sl.sh (D.int ↑i)), some (Sl.sh (D.tup [dcS D.int ps, dcS D.int qs, dcS rowD as])), none, none, none, none, none, none, none, none, none, none, none, none, none, none] [dcS D.int ps, dcS D.int qs, dcS rowD as] =
      some [.lst ((ps.map (·.1)).map .str), .lst ((qs.map (·.1)).map .str), .lst ((as.map (·.1)).map .str)] := by
    obtain ⟨x, e, q⟩ := (show wR (fUn listD (fVar 15) [some (Sl.sh (D.scr ns)), some (Sl.sh (D.int ↑i)), some (Sl.sh (D.tup [dcS D.int ps, dcS D.int qs, dcS rowD as])), none, none, none, none, none, none, none, none, none, none, none, none, some (Sl.sh (dcS D.int ps)), none]) (fun r => r = .val .nw (.lst ((ps.map (·.1)).map .str))) by dsimp! only [k6, eq_self, g_listDc])
    subst q
    obtain ⟨x, e2, q⟩ := (show wR (fUn listD (fVar 15) [some (Sl.sh (D.scr ns)), some (Sl.sh (D.int ↑i)), some (Sl.sh (D.tup [dcS D.int ps, dcS D.int qs, dcS rowD as])), none, none, none, none, none, none, none, none, none, none, none, none, some (Sl.sh (dcS D.int qs)), none]) (fun r => r = .val .nw (.lst ((qs.map (·.1)).map .str))) by dsimp! only [k6, eq_self, g_listDc])
    subst q
    obtain ⟨x, e3, q⟩ := (show wR (fUn listD (fVar 15) [some (Sl.sh (D.scr ns)), some (Sl.sh (D.int ↑i)), some (Sl.sh (D.tup [dcS D.int ps, dcS D.int qs, dcS rowD as])), none, none, none, none, none, none, none, none, none, none, none, none, some (Sl.sh (dcS rowD as)), none]) (fun r => r = .val .nw (.lst ((as.map (·.1)).map .str))) by dsimp! only [k6, eq_self, g_listDc])
    subst q
    simp only [tgIf, hName_e, fYes, List.set_cons_succ, List.set_cons_zero, e, e2, e3, shr, Option.map_some]
  dsimp! only [k6, eq_self, e1]
  have lp : (ps.map (·.1)).length ≤ 10 := by rw [List.length_map]; exact pl
  have lq : (qs.map (·.1)).length ≤ 10 := by rw [List.length_map]; exact ql
  have la : (as.map (·.1)).length ≤ 10 := by rw [List.length_map]; exact al
  have vp : ∀ s ∈ ps.map (·.1), V.Sp s := fun s hs => by obtain ⟨p, hp, rfl⟩ := List.mem_map.mp hs; exact vp p hp
  have vq : ∀ s ∈ qs.map (·.1), V.Sq s := fun s hs => by obtain ⟨p, hp, rfl⟩ := List.mem_map.mp hs; exact vq p hp
  have va : ∀ s ∈ as.map (·.1), V.Sa s := fun s hs => by obtain ⟨p, hp, rfl⟩ := List.mem_map.mp hs; exact va p hp
  generalize ps.map (·.1) = pn at *
  generalize qs.map (·.1) = qn at *
  generalize as.map (·.1) = an at *
  repeat (refine ⟨by first | decide | omega, ?_⟩)
  refine (draws_spec ns i limY (by decide) (by decide +kernel)).mono ?_
  rintro r ⟨ds, rfl, hl, hd⟩
  have hl : ds.length = 26 := hl
  have gk : ∀ (j : Nat) (l : Int), limY[j]? = some l → ∃ x, ds[j]? = some x ∧ atI (ds.map D.int) (j : Int) = some (.int x) ∧ 0 ≤ x ∧ x < l := fun j l h => by
    have hj : j < 26 := (List.getElem?_eq_some_iff.mp h).1
    have e1 : ds[j]? = some ds[j] := List.getElem?_eq_getElem (by omega)
    exact ⟨ds[j], e1, by rw [atI_map', atI_nat, e1]; rfl, hd _ _ _ e1 h⟩
  have own : [D.str (Str.ofString "")] ++ List.map D.str pn = List.map D.str (Str.ofString "" :: pn) := rfl
  have vpool : ∀ s ∈ Str.ofString "" :: pn, V.Sp s := fun s hs => by
    rcases List.mem_cons.mp hs with rfl | h
    · exact V0
    · exact vp _ h
  have hpool : Str.ofString "" :: pn ≠ [] := by simp
  have lpool : (Str.ofString "" :: pn).length ≤ 11 := by rw [List.length_cons]; omega
  have lpool0 : 0 < (Str.ofString "" :: pn).length := by simp
  dsimp! only [k5, eq_self]
  refine w_cut (fun en => en = [some (Sl.sh (D.scr ns)), some (Sl.sh (D.int ↑i)), some (Sl.sh (D.tup [dcS D.int ps, dcS D.int qs, dcS rowD as])), some (.sh (.lst (ds.map .int))), some (.sh (.lst ((Str.ofString "" :: pn).map .str))), none, none, none, none, none, none, none, some (Sl.sh (D.lst (pn.map D.str))), some (Sl.sh (D.lst (qn.map D.str))), some (Sl.sh (D.lst (an.map D.str))), none, none]) ?_ ?_
  · dsimp! only [k6, eq_self, own]
    omega
  rintro en1 rfl
  generalize Str.ofString "" :: pn = pool at *
  have pp : ((0 : Int) < (pool.length : Int)) = True := eq_true (by omega)
  refine w_cut (fun en => ∃ ts : List (Str × Int), en = [some (Sl.sh (D.scr ns)), some (Sl.sh (D.int ↑i)), some (Sl.sh (D.tup [dcS D.int ps, dcS D.int qs, dcS rowD as])), some (.sh (.lst (ds.map .int))), some (.sh (.lst (pool.map .str))), some (.sh (.lst (ts.map ptD))), none, none, none, none, none, none, some (Sl.sh (D.lst (pn.map D.str))), some (Sl.sh (D.lst (qn.map D.str))), some (Sl.sh (D.lst (an.map D.str))), none, none] ∧ ts.length = 4 ∧ ∀ t ∈ ts, ptOk V.Sp 4 t) ?_ ?_
  · dsimp! only [k6, eq_self, rng1_lit (n := 4) (by decide)]
    obtain ⟨ts, e, hl, hp⟩ := lc_ex (i := 16) (en := [some (Sl.sh (D.scr ns)), some (Sl.sh (D.int ↑i)), some (Sl.sh (D.tup [dcS D.int ps, dcS D.int qs, dcS rowD as])), some (.sh (.lst (ds.map .int))), some (.sh (.lst (pool.map .str))), none, none, none, none, none, none, none, some (Sl.sh (D.lst (pn.map D.str))), some (Sl.sh (D.lst (qn.map D.str))), some (Sl.sh (D.lst (an.map D.str))), none, none])
      (fe := fTup (fCons (fOp ixD (fVar 4) (fOp modD (fUn intD (fOp ixD (fVar 3) (fOp addD (fC (.int 1)) (fOp mulD (fC (.int 3)) (fVar 16))))) (fUn lenD (fVar 4)))) (fCons (fOp subD (fOp ixD (fVar 3) (fOp addD (fC (.int 2)) (fOp mulD (fC (.int 3)) (fVar 16)))) (fC (.int 4))) (fNil))))
      (c := fun k : Nat => D.int (k : Int)) (g := ptD) (P := ptOk V.Sp 4) (List.range 4) fun k hk => by
        have hk := List.mem_range.mp hk
        obtain ⟨x, e1, e2, b1⟩ := gk (1 + 3 * k) 12 (by match k, hk with | 0, _ | 1, _ | 2, _ | 3, _ => rfl)
        obtain ⟨y, e3, e4, b2⟩ := gk (2 + 3 * k) 9 (by match k, hk with | 0, _ | 1, _ | 2, _ | 3, _ => rfl)
        have e2 : atI (ds.map D.int) (1 + 3 * (k : Int)) = some (.int x) := by rw [← e2]; congr 1
        have e4 : atI (ds.map D.int) (2 + 3 * (k : Int)) = some (.int y) := by rw [← e4]; congr 1
        have m3 : (mulOk 3 (k : Int) = true) = True := eq_true (mulOk_l (by decide) (by decide))
        obtain ⟨s1, e5, i1⟩ := pick hpool x
        dsimp! only [k6, eq_self, e2, e4, m3, e5, pp]
        exact ⟨_, (s1, y - 4), rfl, by simp, vpool _ i1, show -4 ≤ y - 4 by omega, show y - 4 ≤ 4 by omega⟩
    dsimp! only [k6, eq_self, e]
    exact ⟨ts, rfl, by rw [hl]; simp, hp⟩
  rintro en2 ⟨ts, rfl, tl, tok⟩
  match ts, tl with
  | [t0, t1, t2, t3], _ =>
  have tk0 := tok t0 (by simp)
  have tk1 := tok t1 (by simp)
  refine w_cut (fun en => ∃ es : List (Option (Str × Int)), en = [some (Sl.sh (D.scr ns)), some (Sl.sh (D.int ↑i)), some (Sl.sh (D.tup [dcS D.int ps, dcS D.int qs, dcS rowD as])), some (.sh (.lst (ds.map .int))), some (.sh (.lst (pool.map .str))), some (.sh (.lst [ptD t0, ptD t1, ptD t2, ptD t3])), some (.sh (.lst (es.map opD))), none, none, none, none, none, some (Sl.sh (D.lst (pn.map D.str))), some (Sl.sh (D.lst (qn.map D.str))), some (Sl.sh (D.lst (an.map D.str))), none, none] ∧ es.length = 4 ∧ ∀ t ∈ es, opOk V.Sp 4 t) ?_ ?_
  · dsimp! only [k6, eq_self, rng1_lit (n := 4) (by decide)]
    obtain ⟨es, e, hl, hp⟩ := lc_ex (i := 16) (en := [some (Sl.sh (D.scr ns)), some (Sl.sh (D.int ↑i)), some (Sl.sh (D.tup [dcS D.int ps, dcS D.int qs, dcS rowD as])), some (.sh (.lst (ds.map .int))), some (.sh (.lst (pool.map .str))), some (.sh (.lst [ptD t0, ptD t1, ptD t2, ptD t3])), none, none, none, none, none, none, some (Sl.sh (D.lst (pn.map D.str))), some (Sl.sh (D.lst (qn.map D.str))), some (Sl.sh (D.lst (an.map D.str))), none, none])
      (fe := fIf (fun en => tB1 ((fOp eqD (fOp ixD (fVar 3) (fOp addD (fC (.int 3)) (fOp mulD (fC (.int 3)) (fVar 16)))) (fC (.int 0))) en)) (fC .non) (fOp ixD (fVar 5) (fVar 16)))
      (c := fun k : Nat => D.int (k : Int)) (g := opD) (P := opOk V.Sp 4) (List.range 4) fun k hk => by
        have hk := List.mem_range.mp hk
        obtain ⟨x, e1, e2, b1⟩ := gk (3 + 3 * k) 5 (by match k, hk with | 0, _ | 1, _ | 2, _ | 3, _ => rfl)
        have e2 : atI (ds.map D.int) (3 + 3 * (k : Int)) = some (.int x) := by rw [← e2]; congr 1
        have m3 : (mulOk 3 (k : Int) = true) = True := eq_true (mulOk_l (by decide) (by decide))
        have e5 : ∃ t, atI [ptD t0, ptD t1, ptD t2, ptD t3] (k : Int) = some (ptD t) ∧ ptOk V.Sp 4 t := by
          rcases (show k = 0 ∨ k = 1 ∨ k = 2 ∨ k = 3 by omega) with rfl | rfl | rfl | rfl
          · exact ⟨t0, by rw [atI_nat]; rfl, tk0⟩
          · exact ⟨t1, by rw [atI_nat]; rfl, tk1⟩
          · exact ⟨t2, by rw [atI_nat]; rfl, tok t2 (by simp)⟩
          · exact ⟨t3, by rw [atI_nat]; rfl, tok t3 (by simp)⟩
        obtain ⟨t, e5, p5⟩ := e5
        dsimp! only [k6, eq_self, e2, m3, e5]
        split
        · exact ⟨_, none, rfl, by simp, trivial⟩
        · exact ⟨_, some t, rfl, by simp, p5⟩
    dsimp! only [k6, eq_self, e, List.map_cons, List.map_nil]
    exact ⟨es, rfl, by rw [hl]; simp, hp⟩
  rintro en3 ⟨es, rfl, el, eok⟩
  match es, el with
  | [u0, u1, u2, u3], _ =>
  have uk0 := eok u0 (by simp)
  have uk1 := eok u1 (by simp)
  have uk2 := eok u2 (by simp)
  have uk3 := eok u3 (by simp)
  obtain ⟨x0, h0, a0, b0⟩ := gk 0 7 rfl
  obtain ⟨x23, h23, a23, b23⟩ := gk 23 6 rfl
  obtain ⟨x24, h24, a24, b24⟩ := gk 24 6 rfl
  obtain ⟨x25, h25, a25, b25⟩ := gk 25 9 rfl
  have a0 : (ds.map D.int)[0]? = some (.int x0) := by rw [List.getElem?_map, h0]; rfl
  have a23 : (ds.map D.int)[23]? = some (.int x23) := by rw [List.getElem?_map, h23]; rfl
  have a24 : (ds.map D.int)[24]? = some (.int x24) := by rw [List.getElem?_map, h24]; rfl
  have a25 : (ds.map D.int)[25]? = some (.int x25) := by rw [List.getElem?_map, h25]; rfl
  have cs : cutD (ds.map D.int) (some 13) (some 23) = ((ds.drop 13).take 10).map D.int := by
    have := cutD_nat (ds.map D.int) 13 23 (by rw [List.length_map]; omega) (by rw [List.length_map]; omega)
    rw [show ((13 : Nat) : Int) = 13 from rfl, show ((23 : Nat) : Int) = 23 from rfl] at this
    rw [this, List.map_take, List.map_drop]
  have bs : Below ((ds.drop 13).take 10) limS := by
    refine ⟨by rw [List.length_take, List.length_drop, hl]; rfl, fun k d l hk hk2 => ?_⟩
    rw [List.getElem?_take] at hk
    split at hk
    · rw [List.getElem?_drop] at hk
      rename_i hlt
      refine hd _ _ _ hk ?_
      rw [← hk2]
      match k, hlt with
      | 0, _ | 1, _ | 2, _ | 3, _ | 4, _ | 5, _ | 6, _ | 7, _ | 8, _ | 9, _ => rfl
    · cases hk
  dsimp! only [k6, eq_self, cs]
  refine (sums_spec V _ bs pool qn an hpool (by omega) V1 vpool vq va).mono ?_
  rintro r ⟨w0, w1, rfl, wk0, wk1⟩
  have pick2 : ∀ {α : Type} {a b : α} (x : Int), ∃ c, atI [a, b] (x % 2) = some c ∧ (c = a ∨ c = b) := fun {α a b} x => by
    rcases (show x % 2 = 0 ∨ x % 2 = 1 by omega) with e | e
    · rw [e]; exact ⟨a, rfl, .inl rfl⟩
    · rw [e]; exact ⟨b, rfl, .inr rfl⟩
  by_cases hz : an = []
  · subst hz
    obtain ⟨c, ec, hc⟩ := pick2 (a := (D.tup [.str "place", ptD t0, ptD t1])) (b := D.tup [.str "value", w0.D, w1.D]) x0
    dsimp! only [k7, eq_self, a0, List.map_nil, ec]
    rcases hc with rfl | rfl
    · exact ⟨.place t0 t1, rfl, tk0, tk1⟩
    · exact ⟨.value w0 w1, rfl, wk0, wk1⟩
  · have hz2 : ((an.length : Int) = 0) = False := eq_false fun e => hz (List.eq_nil_of_length_eq_zero (by omega))
    have hz3 : ((0 : Int) < (an.length : Int)) = True := eq_true (by have := List.length_pos_iff.mpr hz; omega)
    obtain ⟨s1, e1, i1⟩ := pick hz x23
    obtain ⟨s2, e2, i2⟩ := pick hz x24
    dsimp! only [k7, eq_self, a0, a23, a24, a25, hz2, hz3, e1, e2, List.map_cons, List.map_nil, List.cons_append, List.nil_append]
    have bB : -4 ≤ x25 - 4 ∧ x25 - 4 ≤ 4 := by omega
    rcases (show x0 = 0 ∨ x0 = 1 ∨ x0 = 2 ∨ x0 = 3 ∨ x0 = 4 ∨ x0 = 5 ∨ x0 = 6 by omega) with rfl | rfl | rfl | rfl | rfl | rfl | rfl <;> dsimp! only [k7, eq_self]
    · exact ⟨.place t0 t1, rfl, tk0, tk1⟩
    · exact ⟨.value w0 w1, rfl, wk0, wk1⟩
    · exact ⟨.rising s1 u0 u1, rfl, va _ i1, uk0, uk1⟩
    · exact ⟨.low s1 u0 u1 w0, rfl, va _ i1, uk0, uk1, wk0⟩
    · exact ⟨.high s1 u0 u1 w0, rfl, va _ i1, uk0, uk1, wk0⟩
    · exact ⟨.below s1 u0 u1 s2 u2 u3 (x25 - 4), rfl, va _ i1, uk0, uk1, va _ i2, uk2, uk3, bB⟩
    · exact ⟨.same s1 s2 u0 u1 (x25 - 4), rfl, va _ i1, va _ i2, uk0, uk1, bB⟩
end C
namespace C
open PySem L2 PD
theorem flat_get {α : Type} {l : List α} : ∀ (m k j : Nat), k < m → j < l.length → (List.replicate m l).flatten[l.length * k + j]? = l[j]?
  | 0, k, j, h, _ => by omega
  | m + 1, 0, j, h, hj => by
    rw [List.replicate_succ, List.flatten_cons, List.getElem?_append_left (by omega)]
    congr 1
    omega
  | m + 1, k + 1, j, h, hj => by
    rw [List.replicate_succ, List.flatten_cons, List.getElem?_append_right (by rw [Nat.mul_succ]; omega)]
    rw [← flat_get m k j (by omega) hj]
    congr 1
    rw [Nat.mul_succ]
    omega
theorem flat_len {α : Type} {l : List α} {m : Nat} : (List.replicate m l).flatten.length = m * l.length := by simp
def limG : List Int := [31, 2, 10 ^ Int.toNat 8, 10 ^ Int.toNat 8, 10 ^ Int.toNat 8, 10 ^ Int.toNat 8]
theorem flat_map (m : Nat) : (List.replicate m [D.int 31, D.int 2, D.int (10 ^ Int.toNat 8), D.int (10 ^ Int.toNat 8), D.int (10 ^ Int.toNat 8), D.int (10 ^ Int.toNat 8)]).flatten = (List.replicate m limG).flatten.map D.int := by
  rw [List.map_flatten, List.map_replicate]
  rfl
def Big (x : Int) : Prop := -(10 ^ 30) < x ∧ x < 10 ^ 30
theorem long_spec (ns : List Int) (i m : Nat) (hm : m ≤ 100) : wR (F_Llong [.scr ns, .int i, .int m]) fun r => ∃ xs : List Int, r = .val .nw (.lst (xs.map .int)) ∧ xs.length = m ∧ ∀ x ∈ xs, Big x := by
  have p8 : (0 ≤ (8 : Int) ∧ (8 : Int) ≤ 1000000 ∧ Int.natAbs 10 < 2 ^ 64) = True := eq_true (by decide)
  rw [F_Llong, w_run, b_Llong]
  dsimp! only [k8, eq_self, p8, flat_map, Int.toNat_natCast]
  repeat (refine ⟨by first | decide | omega, ?_⟩)
  refine (draws_spec ns i (List.replicate m limG).flatten (by rw [flat_len]; show m * 6 < 10000; omega) (fun l hl => ?_)).mono ?_
  · obtain ⟨s, hs, hl⟩ := List.mem_flatten.mp hl
    rw [(List.mem_replicate.mp hs).2] at hl
    have : ∀ l ∈ limG, 0 < l ∧ l ≤ 10 ^ 100 := by decide +kernel
    exact this l hl
  rintro r ⟨ds, rfl, hl, hd⟩
  have hl : ds.length = m * 6 := hl.trans flat_len
  have gk : ∀ (k j : Nat) (l : Int), k < m → j < 6 → limG[j]? = some l → ∃ x, ds[6 * k + j]? = some x ∧ atI (ds.map D.int) ((6 * k + j : Nat) : Int) = some (.int x) ∧ 0 ≤ x ∧ x < l := fun k j l hk hj h => by
    have e1 : ds[6 * k + j]? = some ds[6 * k + j] := List.getElem?_eq_getElem (by omega)
    exact ⟨_, e1, by rw [atI_map', atI_nat, e1]; rfl, hd _ _ _ e1 ((flat_get (l := limG) m k j hk hj).trans h)⟩
  dsimp! only [k6, eq_self, rng1_nat (n := m) (by omega)]
  refine forD_inv _ (fun k en => ∃ (xs : List Int) (o5 o6 o7 o8 o9 : Option Sl), en = [some (.sh (.scr ns)), some (.sh (.int i)), some (.sh (.int m)), some (.sh (.lst (ds.map .int))), some (.ow (.lst (xs.map .int))), o5, o6, o7, o8, o9] ∧ xs.length = k ∧ ∀ x ∈ xs, Big x) _ ⟨[], _, _, _, _, _, rfl, rfl, fun x h => by cases h⟩ ?_ ?_
  · rintro k d en hd1 ⟨xs, o5, o6, o7, o8, o9, rfl, hk, hb⟩
    obtain ⟨hk2, rfl⟩ := getMapRange hd1
    refine ⟨_, rfl, ?_⟩
    obtain ⟨x0, e0, a0, b0⟩ := gk k 0 31 hk2 (by omega) rfl
    obtain ⟨x1, e1, a1, b1⟩ := gk k 1 2 hk2 (by omega) rfl
    have a0 : atI (ds.map D.int) (6 * (k : Int)) = some (.int x0) := by rw [← a0]; congr 1
    have a1 : atI (ds.map D.int) (6 * (k : Int) + 1) = some (.int x1) := by rw [← a1]; congr 1
    have m6 : (mulOk 6 (k : Int) = true) = True := eq_true (mulOk_l (by decide) (by decide))
    obtain ⟨n0, rfl⟩ : ∃ n : Nat, x0 = n := ⟨x0.toNat, by omega⟩
    have cc : cutD (ds.map D.int) (some (6 * (k : Int) + 2)) (some (6 * (k : Int) + 6)) = ((ds.drop (6 * k + 2)).take 4).map D.int := by
      have := cutD_nat (ds.map D.int) (6 * k + 2) (6 * k + 6) (by rw [List.length_map]; omega) (by rw [List.length_map]; omega)
      rw [show (((6 * k + 2 : Nat) : Int)) = 6 * (k : Int) + 2 by omega, show (((6 * k + 6 : Nat) : Int)) = 6 * (k : Int) + 6 by omega] at this
      rw [this, show 6 * k + 6 - (6 * k + 2) = 4 by omega, List.map_take, List.map_drop]
    generalize (ds.drop (6 * k + 2)).take 4 = zs at *
    refine w_cut (fun en => en = [some (.sh (.scr ns)), some (.sh (.int i)), some (.sh (.int m)), some (.sh (.lst (ds.map .int))), some (.ow (.lst (xs.map .int))), some (.sh (.int k)), some (.sh (.int 1)), o7, o8, o9]) ?_ ?_
    · dsimp! only [k6, eq_self]
    rintro en1 rfl
    refine w_cut (fun en => ∃ (t : Int) (o7 : Option Sl), en = [some (.sh (.scr ns)), some (.sh (.int i)), some (.sh (.int m)), some (.sh (.lst (ds.map .int))), some (.ow (.lst (xs.map .int))), some (.sh (.int k)), some (.sh (.int t)), o7, o8, o9] ∧ 0 < t ∧ t ≤ 10 ^ 30) ?_ ?_
    · dsimp! only [k6, eq_self, m6, a0, rng1_nat (n := n0) (by omega)]
      refine forD_inv _ (fun j en => ∃ (o7 : Option Sl), en = [some (.sh (.scr ns)), some (.sh (.int i)), some (.sh (.int m)), some (.sh (.lst (ds.map .int))), some (.ow (.lst (xs.map .int))), some (.sh (.int k)), some (.sh (.int (10 ^ j))), o7, o8, o9]) _ ⟨_, rfl⟩ ?_ ?_
      · rintro j d en hd2 ⟨o7, rfl⟩
        refine ⟨_, rfl, ?_⟩
        dsimp! only [k6, eq_self]
        exact ⟨mulOk_r (by decide) (by decide), some (.sh d), by rw [Int.pow_succ]⟩
      · rintro en ⟨o7, rfl⟩
        dsimp! only [k6, eq_self]
        refine ⟨_, _, rfl, Int.pow_pos (by decide), ?_⟩
        have p30 : ∀ n : Nat, n < 31 → (10 : Int) ^ n ≤ 10 ^ 30 := by decide +kernel
        exact p30 n0 (by omega)
    rintro en2 ⟨t, o7, rfl, t0, t1⟩
    refine w_cut (fun en => en = [some (.sh (.scr ns)), some (.sh (.int i)), some (.sh (.int m)), some (.sh (.lst (ds.map .int))), some (.ow (.lst (xs.map .int))), some (.sh (.int k)), some (.sh (.int t)), o7, some (.sh (.int 0)), o9]) ?_ ?_
    · dsimp! only [k6, eq_self]
    rintro en3 rfl
    refine w_cut (fun en => ∃ (n : Int) (o9 : Option Sl), en = [some (.sh (.scr ns)), some (.sh (.int i)), some (.sh (.int m)), some (.sh (.lst (ds.map .int))), some (.ow (.lst (xs.map .int))), some (.sh (.int k)), some (.sh (.int t)), o7, some (.sh (.int n)), o9]) ?_ ?_
    · dsimp! only [k6, eq_self, m6, cc]
      refine forD_inv _ (fun j en => ∃ (n : Int) (o9 : Option Sl), en = [some (.sh (.scr ns)), some (.sh (.int i)), some (.sh (.int m)), some (.sh (.lst (ds.map .int))), some (.ow (.lst (xs.map .int))), some (.sh (.int k)), some (.sh (.int t)), o7, some (.sh (.int n)), o9]) _ ⟨_, _, rfl⟩ ?_ ?_
      · rintro j d en hd2 ⟨n, o9, rfl⟩
        rw [List.getElem?_map] at hd2
        obtain ⟨z, hz, rfl⟩ := Option.map_eq_some_iff.mp hd2
        refine ⟨_, rfl, ?_⟩
        dsimp! only [k6, eq_self, p8]
        exact ⟨mulOk_r (by decide) (by decide), _, _, rfl⟩
      · rintro en ⟨n, o9, rfl⟩
        dsimp! only [k6, eq_self]
        exact ⟨_, _, rfl⟩
    rintro en4 ⟨n, o9, rfl⟩
    have tt : ((0 : Int) < t) = True := eq_true t0
    have nn := Int.emod_nonneg n (show t ≠ 0 by omega)
    have nl := Int.emod_lt_of_pos n t0
    have lx : ((xs.map D.int).length < 16777216) = True := eq_true (by rw [List.length_map]; omega)
    have fin : ∀ (y : Int) (o5 o6 o7 o8 o9 : Option Sl), Big y → ∃ (xs1 : List Int) (p5 p6 p7 p8 p9 : Option Sl), [some (.sh (.scr ns)), some (.sh (.int i)), some (.sh (.int m)), some (.sh (.lst (ds.map .int))), some (.ow (.lst (xs.map .int ++ [.int y]))), o5, o6, o7, o8, o9] =
        [some (.sh (.scr ns)), some (.sh (.int i)), some (.sh (.int m)), some (.sh (.lst (ds.map .int))), some (.ow (.lst (xs1.map .int))), p5, p6, p7, p8, p9] ∧ xs1.length = k + 1 ∧ ∀ x ∈ xs1, Big x := fun y o5 o6 o7 o8 o9 hy =>
      ⟨xs ++ [y], _, _, _, _, _, by rw [List.map_append]; rfl, by rw [List.length_append, hk]; rfl, fun x hx => by
        rcases List.mem_append.mp hx with hx | hx
        · exact hb x hx
        · have : x = y := by simpa using hx
          subst this; exact hy⟩
    dsimp! only [k6, eq_self, m6, a1, tt]
    split
    · exact ⟨by omega, fin _ _ _ _ _ _ ⟨by omega, by omega⟩⟩
    · exact ⟨by omega, fin _ _ _ _ _ _ ⟨by omega, by omega⟩⟩
  · rintro en ⟨xs, o5, o6, o7, o8, o9, rfl, hk, hb⟩
    dsimp! only [k6, eq_self]
    exact ⟨xs, rfl, by rw [hk, List.length_map, List.length_range], hb⟩
end C
namespace C
open PySem L2 PD
variable {QG : Kd → D → Prop}
theorem g_isT {ds : List D} : wG (isND (.tup ds) .non) QG = QG .sh (.bl false) := wG_some
theorem g_isN : wG (isND .non .non) QG = QG .sh (.bl true) := wG_some
theorem g_isS {s : Str} : wG (isND (.str s) .non) QG = QG .sh (.bl false) := wG_some
theorem g_isI {s : Int} : wG (isND (.int s) .non) QG = QG .sh (.bl false) := wG_some
theorem c2_3 : (((2 : Nat) : Int) = 3) = False := eq_false (by decide)
theorem c3_3 : (((3 : Nat) : Int) = 3) = True := eq_true (by decide)
structure Sc where
  a : Int
  b : Int
  c : Int
  d : Int
def Sc.D (s : Sc) : D := .tup [.int s.a, .int s.b, .int s.c, .int s.d]
structure Sc.Ok (s : Sc) : Prop where
  a0 : 1 ≤ s.a
  a1 : s.a ≤ 10 ^ 15
  b0 : -(10 ^ 30) ≤ s.b
  b1 : s.b ≤ 10 ^ 30
  c0 : 1 ≤ s.c
  c1 : s.c ≤ 10 ^ 15
  d0 : -(10 ^ 30) ≤ s.d
  d1 : s.d ≤ 10 ^ 30
def scPt (a b : Int) (p : Str × Int) : Str × Int := (p.1, if p.1 = Str.ofString "" then p.2 * a + b else p.2 * a)
def scTm (s : Sc) : Tm → Tm
  | .pt p => .pt (scPt s.c s.d p)
  | .el x p k => .el x (scPt s.a s.b p) (k * s.c)
def small (k : Int) : Prop := -(2 ^ 64) < k ∧ k < 2 ^ 64
def Tm.sm : Tm → Prop
  | .pt p => small p.2
  | .el _ p k => small p.2 ∧ small k
theorem small_mul {k a : Int} (h : small k) : (mulOk k a = true) = True := eq_true (mulOk_l h.1 h.2)
theorem sterm_pt0 (n : Nat) (p : Str × Int) (s : Sc) (h : small p.2) : wR (G_Lscaled_term (n + 1) [ptD p, s.D, .int 0]) fun r => r = .val .sh (ptD (scPt s.a s.b p)) := by
  rw [G_Lscaled_term, w_run, b_Lscaled_term]
  have m2 : (mulOk 2 0 = true) = True := eq_true (by decide)
  dsimp! only [k9, eq_self, ptD, Sc.D, g_isT, c2_3, c3_3, if_false, Int.reduceEq, Int.reduceMul, Int.reduceAdd, m2, small_mul h]
  unfold scPt
  split <;> simp only [Z1, Z2, z_bO0, z_bO1, z_for, z_lc, onV_v, onV_e, onS_v, onS_e, onB_v, onB_e, onBR_v, onBR_e, onA_v, onA_e, onVB_v, onVB_e, onVA_v, onVA_e, onAA_v, onAA_e, onAO_v, onAO_e, onBB_v, onBB_e, onO_n, onO_r, onO_b, onO_c, onO_e, onT_n, onT_c, onT_b, onT_r, onT_e, onR_n, onR_r, onR_e, okK_s, okK_n, wO_some, wR_some, wB_some, wA_some, z_lf, z_shr, w_c, w_var, z_op, z_un, z_tB1, z_truR, z_chain, z_andT, z_orT, z_notT, z_andV, z_orV, z_notV, z_if, w_nil, z_cons, z_lst, z_tup, w_dct0, z_call, z_bn, z_sm, z_sl, z_star, z_sh, z_set, z_asg, z_drop, z_ret, w_retV, w_retN, w_nx, z_seq, w_frz, z_ifS, z_app, z_put, z_items, z_it, g_add, g_sub, g_neg, g_mul, g_rep, g_fdiv, g_mod, g_pow, g_addS, g_addL, g_cmp0, g_eqI, g_eqS, g_eqB, g_lenL, g_lenT, g_lenR, g_lenS, g_int, g_intB, g_str, g_listL, g_listT, g_listM, g_tup, g_abs, g_max2, g_min2, gz_ixL, gz_ixT, gz_ixR, g_slL, gi_bool_non, gi_bool_bl, gi_bool_int, gi_bool_str, gi_bool_lst, gi_bool_tup, gi_bool_scr, gi_bool_dct, gi_int_non, gi_int_bl, gi_int_int, gi_int_str, gi_int_lst, gi_int_tup, gi_int_scr, gi_int_dct, gi_str_non, gi_str_bl, gi_str_int, gi_str_str, gi_str_lst, gi_str_tup, gi_str_scr, gi_str_dct, gi_list_non, gi_list_bl, gi_list_int, gi_list_str, gi_list_lst, gi_list_tup, gi_list_scr, gi_list_dct, gi_tuple_non, gi_tuple_bl, gi_tuple_int, gi_tuple_str, gi_tuple_lst, gi_tuple_tup, gi_tuple_scr, gi_tuple_dct, gi_dict_non, gi_dict_bl, gi_dict_int, gi_dict_str, gi_dict_lst, gi_dict_tup, gi_dict_scr, gi_dict_dct, tr_b, true_and, and_true, eq_self, exO_some, hTL_l, hTL_t, hName_e, hCons_c, hNil_n, bind_so, isIns_l, isIns_d, isIns_t, it_l, it_t, it_r, List.getElem?_cons_zero, List.getElem?_cons_succ, List.set_cons_zero, List.set_cons_succ, true_and, and_true, Nat.zero_le, snb, nnb, ex_some, dT, if_true, Bool.false_eq_true, if_false, wipeE, Int.reduceLT, List.length_nil, List.length_cons, Nat.reduceAdd, Nat.reduceLeDiff, Nat.reduceLT, g_inS, g_ixS, g_slS, g_join, frz_def, g_sort, g_rev, List.length_map, List.length_range, *] <;> rfl
theorem sterm_pt1 (n : Nat) (p : Str × Int) (s : Sc) (h : small p.2) : wR (G_Lscaled_term (n + 1) [ptD p, s.D, .int 1]) fun r => r = .val .sh (ptD (scPt s.c s.d p)) := by
  rw [G_Lscaled_term, w_run, b_Lscaled_term]
  have m2 : (mulOk 2 1 = true) = True := eq_true (by decide)
  dsimp! only [k9, eq_self, ptD, Sc.D, g_isT, c2_3, c3_3, if_false, Int.reduceEq, Int.reduceMul, Int.reduceAdd, m2, small_mul h]
  unfold scPt
  split <;> simp only [Z1, Z2, z_bO0, z_bO1, z_for, z_lc, onV_v, onV_e, onS_v, onS_e, onB_v, onB_e, onBR_v, onBR_e, onA_v, onA_e, onVB_v, onVB_e, onVA_v, onVA_e, onAA_v, onAA_e, onAO_v, onAO_e, onBB_v, onBB_e, onO_n, onO_r, onO_b, onO_c, onO_e, onT_n, onT_c, onT_b, onT_r, onT_e, onR_n, onR_r, onR_e, okK_s, okK_n, wO_some, wR_some, wB_some, wA_some, z_lf, z_shr, w_c, w_var, z_op, z_un, z_tB1, z_truR, z_chain, z_andT, z_orT, z_notT, z_andV, z_orV, z_notV, z_if, w_nil, z_cons, z_lst, z_tup, w_dct0, z_call, z_bn, z_sm, z_sl, z_star, z_sh, z_set, z_asg, z_drop, z_ret, w_retV, w_retN, w_nx, z_seq, w_frz, z_ifS, z_app, z_put, z_items, z_it, g_add, g_sub, g_neg, g_mul, g_rep, g_fdiv, g_mod, g_pow, g_addS, g_addL, g_cmp0, g_eqI, g_eqS, g_eqB, g_lenL, g_lenT, g_lenR, g_lenS, g_int, g_intB, g_str, g_listL, g_listT, g_listM, g_tup, g_abs, g_max2, g_min2, gz_ixL, gz_ixT, gz_ixR, g_slL, gi_bool_non, gi_bool_bl, gi_bool_int, gi_bool_str, gi_bool_lst, gi_bool_tup, gi_bool_scr, gi_bool_dct, gi_int_non, gi_int_bl, gi_int_int, gi_int_str, gi_int_lst, gi_int_tup, gi_int_scr, gi_int_dct, gi_str_non, gi_str_bl, gi_str_int, gi_str_str, gi_str_lst, gi_str_tup, gi_str_scr, gi_str_dct, gi_list_non, gi_list_bl, gi_list_int, gi_list_str, gi_list_lst, gi_list_tup, gi_list_scr, gi_list_dct, gi_tuple_non, gi_tuple_bl, gi_tuple_int, gi_tuple_str, gi_tuple_lst, gi_tuple_tup, gi_tuple_scr, gi_tuple_dct, gi_dict_non, gi_dict_bl, gi_dict_int, gi_dict_str, gi_dict_lst, gi_dict_tup, gi_dict_scr, gi_dict_dct, tr_b, true_and, and_true, eq_self, exO_some, hTL_l, hTL_t, hName_e, hCons_c, hNil_n, bind_so, isIns_l, isIns_d, isIns_t, it_l, it_t, it_r, List.getElem?_cons_zero, List.getElem?_cons_succ, List.set_cons_zero, List.set_cons_succ, true_and, and_true, Nat.zero_le, snb, nnb, ex_some, dT, if_true, Bool.false_eq_true, if_false, wipeE, Int.reduceLT, List.length_nil, List.length_cons, Nat.reduceAdd, Nat.reduceLeDiff, Nat.reduceLT, g_inS, g_ixS, g_slS, g_join, frz_def, g_sort, g_rev, List.length_map, List.length_range, *] <;> rfl
theorem sterm_el (n : Nat) (x : Str) (p : Str × Int) (k role : Int) (s : Sc) (h : small p.2) (hk : small k) : wR (G_Lscaled_term (n + 2) [(Tm.el x p k).D, s.D, .int role]) fun r => r = .val .sh (scTm s (.el x p k)).D := by
  rw [G_Lscaled_term, w_run, b_Lscaled_term]
  dsimp! only [k9, eq_self, Tm.D, Sc.D, g_isT, c2_3, c3_3]
  refine (sterm_pt0 n p s h).mono ?_
  rintro r rfl
  dsimp! only [k7, eq_self, small_mul hk, scTm, Tm.D]
theorem sterm_1 (t : Tm) (s : Sc) (h : t.sm) : wR (F_Lscaled_term [t.D, s.D, .int 1]) fun r => r = .val .sh (scTm s t).D := by
  cases t with
  | pt p => exact sterm_pt1 7 p s h
  | el x p k => exact sterm_el 6 x p k 1 s h.1 h.2
theorem sterm_0 (t : Tm) (s : Sc) (h : t.sm) : wR (F_Lscaled_term [t.D, s.D, .int 0]) fun r => ∃ d, r = .val .sh d := by
  cases t with
  | pt p => exact (sterm_pt0 7 p s h).mono fun r e => ⟨_, e⟩
  | el x p k => exact (sterm_el 6 x p k 0 s h.1 h.2).mono fun r e => ⟨_, e⟩
theorem sterm_op (e : Option (Str × Int)) (s : Sc) (h : ∀ p, e = some p → small p.2) : wR (F_Lscaled_term [opD e, s.D, .int 0]) fun r => r = .val .sh (opD (e.map (scPt s.a s.b))) := by
  cases e with
  | none =>
    rw [F_Lscaled_term, G_Lscaled_term, w_run, b_Lscaled_term]
    dsimp! only [k8, eq_self, opD, Sc.D, g_isN, Option.map_none]
  | some p => exact sterm_pt0 7 p s (h p rfl)
/-! ### unrolled walks -/
theorem z_forD {tg : D → En → Option En} {F : En → Option Out} {d : D} {r : List D} {en : En} {QO : Out → Prop} : wO (forD tg F (d :: r) en) QO = exO (tg d en) (Z (fun en1 => wO (F en1) (onT QO (Z (fun en2 => wO (forD tg F r en2) QO) ⟨⟩))) ⟨⟩) := by
  apply propext
  constructor
  · rintro ⟨x, e, q⟩
    unfold forD at e
    cases h : tg d en with
    | none => rw [h] at e; cases e
    | some en1 =>
      refine ⟨en1, rfl, ?_⟩
      simp only [h] at e
      cases h2 : F en1 with
      | none => rw [h2] at e; cases e
      | some o =>
        rw [h2] at e
        refine ⟨o, h2, ?_⟩
        cases o with
        | nx en2 => exact ⟨x, e, q⟩
        | ct en2 => exact ⟨x, e, q⟩
        | bk en2 => cases e; exact q
        | rt k d => cases e; exact q
        | er en2 c d => cases e; exact q
  · rintro ⟨en1, h, o, h2, q⟩
    unfold forD
    unfold wO
    simp only [h, h2]
    cases o with
    | nx en2 => exact q
    | ct en2 => exact q
    | bk en2 => exact ⟨_, rfl, q⟩
    | rt k d => exact ⟨_, rfl, q⟩
    | er en2 c d => exact ⟨_, rfl, q⟩
theorem z_forN {tg : D → En → Option En} {F : En → Option Out} {en : En} {QO : Out → Prop} : wO (forD tg F [] en) QO = QO (.nx en) := wO_some
theorem ne_place_value : (Str.ofString "place" = Str.ofString "value") = False := eq_false (by decide +kernel)
theorem ne_place_rising : (Str.ofString "place" = Str.ofString "rising") = False := eq_false (by decide +kernel)
theorem ne_place_low : (Str.ofString "place" = Str.ofString "low") = False := eq_false (by decide +kernel)
theorem ne_place_high : (Str.ofString "place" = Str.ofString "high") = False := eq_false (by decide +kernel)
theorem ne_place_below : (Str.ofString "place" = Str.ofString "below") = False := eq_false (by decide +kernel)
theorem ne_place_same : (Str.ofString "place" = Str.ofString "same") = False := eq_false (by decide +kernel)
theorem ne_value_place : (Str.ofString "value" = Str.ofString "place") = False := eq_false (by decide +kernel)
theorem ne_value_rising : (Str.ofString "value" = Str.ofString "rising") = False := eq_false (by decide +kernel)
theorem ne_value_low : (Str.ofString "value" = Str.ofString "low") = False := eq_false (by decide +kernel)
theorem ne_value_high : (Str.ofString "value" = Str.ofString "high") = False := eq_false (by decide +kernel)
theorem ne_value_below : (Str.ofString "value" = Str.ofString "below") = False := eq_false (by decide +kernel)
theorem ne_value_same : (Str.ofString "value" = Str.ofString "same") = False := eq_false (by decide +kernel)
theorem ne_rising_place : (Str.ofString "rising" = Str.ofString "place") = False := eq_false (by decide +kernel)
theorem ne_rising_value : (Str.ofString "rising" = Str.ofString "value") = False := eq_false (by decide +kernel)
theorem ne_rising_low : (Str.ofString "rising" = Str.ofString "low") = False := eq_false (by decide +kernel)
theorem ne_rising_high : (Str.ofString "rising" = Str.ofString "high") = False := eq_false (by decide +kernel)
theorem ne_rising_below : (Str.ofString "rising" = Str.ofString "below") = False := eq_false (by decide +kernel)
theorem ne_rising_same : (Str.ofString "rising" = Str.ofString "same") = False := eq_false (by decide +kernel)
theorem ne_low_place : (Str.ofString "low" = Str.ofString "place") = False := eq_false (by decide +kernel)
theorem ne_low_value : (Str.ofString "low" = Str.ofString "value") = False := eq_false (by decide +kernel)
theorem ne_low_rising : (Str.ofString "low" = Str.ofString "rising") = False := eq_false (by decide +kernel)
theorem ne_low_high : (Str.ofString "low" = Str.ofString "high") = False := eq_false (by decide +kernel)
theorem ne_low_below : (Str.ofString "low" = Str.ofString "below") = False := eq_false (by decide +kernel)
theorem ne_low_same : (Str.ofString "low" = Str.ofString "same") = False := eq_false (by decide +kernel)
theorem ne_high_place : (Str.ofString "high" = Str.ofString "place") = False := eq_false (by decide +kernel)
theorem ne_high_value : (Str.ofString "high" = Str.ofString "value") = False := eq_false (by decide +kernel)
theorem ne_high_rising : (Str.ofString "high" = Str.ofString "rising") = False := eq_false (by decide +kernel)
theorem ne_high_low : (Str.ofString "high" = Str.ofString "low") = False := eq_false (by decide +kernel)
theorem ne_high_below : (Str.ofString "high" = Str.ofString "below") = False := eq_false (by decide +kernel)
theorem ne_high_same : (Str.ofString "high" = Str.ofString "same") = False := eq_false (by decide +kernel)
theorem ne_below_place : (Str.ofString "below" = Str.ofString "place") = False := eq_false (by decide +kernel)
theorem ne_below_value : (Str.ofString "below" = Str.ofString "value") = False := eq_false (by decide +kernel)
theorem ne_below_rising : (Str.ofString "below" = Str.ofString "rising") = False := eq_false (by decide +kernel)
theorem ne_below_low : (Str.ofString "below" = Str.ofString "low") = False := eq_false (by decide +kernel)
theorem ne_below_high : (Str.ofString "below" = Str.ofString "high") = False := eq_false (by decide +kernel)
theorem ne_below_same : (Str.ofString "below" = Str.ofString "same") = False := eq_false (by decide +kernel)
theorem ne_same_place : (Str.ofString "same" = Str.ofString "place") = False := eq_false (by decide +kernel)
theorem ne_same_value : (Str.ofString "same" = Str.ofString "value") = False := eq_false (by decide +kernel)
theorem ne_same_rising : (Str.ofString "same" = Str.ofString "rising") = False := eq_false (by decide +kernel)
theorem ne_same_low : (Str.ofString "same" = Str.ofString "low") = False := eq_false (by decide +kernel)
theorem ne_same_high : (Str.ofString "same" = Str.ofString "high") = False := eq_false (by decide +kernel)
theorem ne_same_below : (Str.ofString "same" = Str.ofString "below") = False := eq_false (by decide +kernel)
theorem g_inT2 {a b c : Str} : wG (inD (.str a) (.tup [.str b, .str c])) QG = QG .sh (.bl (decide (b = a) || decide (c = a))) := by
  have e : inD (.str a) (.tup [.str b, .str c]) = some (.sh, .bl (decide (b = a) || decide (c = a))) := by
    show some (Kd.sh, D.bl (b == a || (c == a || false))) = _
    rw [Bool.or_false]
    rfl
  rw [e]
  exact wG_some
theorem or_d {p q : Prop} [Decidable p] [Decidable q] : ((decide p || decide q) = true) = (p ∨ q) := by simp
theorem gi_int_op {e : Option (Str × Int)} : wG (isiD "int" (opD e)) QG = QG .sh (.bl false) := by cases e <;> first | exact gi_int_non | exact gi_int_tup
theorem gi_str_op {e : Option (Str × Int)} : wG (isiD "str" (opD e)) QG = QG .sh (.bl false) := by cases e <;> first | exact gi_str_non | exact gi_str_tup
theorem gi_int_tm {e : Tm} : wG (isiD "int" e.D) QG = QG .sh (.bl false) := by cases e <;> exact gi_int_tup
theorem gi_str_tm {e : Tm} : wG (isiD "str" e.D) QG = QG .sh (.bl false) := by cases e <;> exact gi_str_tup
theorem put_4 {v a b c d e : D} : putO v (.lst [a, b, c, d, e]) (.int 4) = some (.lst [a, b, c, d, v]) := rfl
def scSy (s : Sc) : Sy → Sy
  | .place t u => .place (scPt s.a s.b t) (scPt s.a s.b u)
  | .value t u => .value (scTm s t) (scTm s u)
  | .rising a e f => .rising a (e.map (scPt s.a s.b)) (f.map (scPt s.a s.b))
  | .low a e f t => .low a (e.map (scPt s.a s.b)) (f.map (scPt s.a s.b)) (scTm s t)
  | .high a e f t => .high a (e.map (scPt s.a s.b)) (f.map (scPt s.a s.b)) (scTm s t)
  | .below a e f b g h k => .below a (e.map (scPt s.a s.b)) (f.map (scPt s.a s.b)) b (g.map (scPt s.a s.b)) (h.map (scPt s.a s.b)) (k * s.c)
  | .same a b e f k => .same a b (e.map (scPt s.a s.b)) (f.map (scPt s.a s.b)) (k * s.c)
theorem pt_small {S : Str → Prop} {p : Str × Int} (h : ptOk S 200 p) : small p.2 := ⟨by have := h.2.1; omega, by have := h.2.2; omega⟩
theorem op_small {S : Str → Prop} {e : Option (Str × Int)} (h : opOk S 200 e) : ∀ p, e = some p → small p.2 := fun p he => by subst he; exact pt_small h
theorem tm_small {V : Voc} {t : Tm} (h : t.Ok V 200) : t.sm := by
  cases t with
  | pt p => exact pt_small h
  | el a p k => exact ⟨pt_small h.2.1, by have := h.2.2; unfold small; omega⟩
theorem ssaying_spec (V : Voc) (y : Sy) (s : Sc) (h : y.Ok V 200) : wR (F_Lscaled_saying [y.D, s.D]) fun r => r = .val .sh (scSy s y).D := by
  rw [F_Lscaled_saying, w_run, b_Lscaled_saying]
  cases y with
  | place t u =>
    dsimp! only [k10, eq_self, Sy.D, scSy]
    refine (sterm_op (some t) s (op_small (e := some t) h.1)).mono ?_
    rintro r rfl
    dsimp! only [k11, eq_self]
    refine (sterm_op (some u) s (op_small (e := some u) h.2)).mono ?_
    rintro r rfl
    dsimp! only [k6, eq_self, scSy, Sy.D, opD, Option.map_some]
  | value t u =>
    dsimp! only [k10, eq_self, Sy.D, scSy]
    refine (sterm_1 t s (tm_small h.1)).mono ?_
    rintro r rfl
    dsimp! only [k11, eq_self]
    refine (sterm_1 u s (tm_small h.2)).mono ?_
    rintro r rfl
    dsimp! only [k6, eq_self, scSy, Sy.D]
  | rising a e f =>
    dsimp! only [k10, eq_self, Sy.D, scSy, z_forD, z_forN]
    refine (sterm_op e s (op_small h.2.1)).mono ?_
    rintro r rfl
    dsimp! only [k11, eq_self, z_forD, z_forN]
    refine (sterm_op f s (op_small h.2.2)).mono ?_
    rintro r rfl
    dsimp! only [k11, eq_self, z_forD, z_forN, scSy, Sy.D]
  | low a e f t =>
    dsimp! only [k10, eq_self, Sy.D, scSy, z_forD, z_forN]
    refine (sterm_op e s (op_small h.2.1)).mono ?_
    rintro r rfl
    dsimp! only [k11, eq_self, z_forD, z_forN]
    refine (sterm_op f s (op_small h.2.2.1)).mono ?_
    rintro r rfl
    dsimp! only [k11, eq_self, z_forD, z_forN]
    refine (sterm_0 t s (tm_small h.2.2.2)).mono ?_
    rintro r ⟨d0, rfl⟩
    dsimp! only [k11, eq_self, z_forD, z_forN]
    refine (sterm_1 t s (tm_small h.2.2.2)).mono ?_
    rintro r rfl
    dsimp! only [k11, eq_self, z_forD, z_forN]
  | high a e f t =>
    dsimp! only [k10, eq_self, Sy.D, scSy, z_forD, z_forN]
    refine (sterm_op e s (op_small h.2.1)).mono ?_
    rintro r rfl
    dsimp! only [k11, eq_self, z_forD, z_forN]
    refine (sterm_op f s (op_small h.2.2.1)).mono ?_
    rintro r rfl
    dsimp! only [k11, eq_self, z_forD, z_forN]
    refine (sterm_0 t s (tm_small h.2.2.2)).mono ?_
    rintro r ⟨d0, rfl⟩
    dsimp! only [k11, eq_self, z_forD, z_forN]
    refine (sterm_1 t s (tm_small h.2.2.2)).mono ?_
    rintro r rfl
    dsimp! only [k11, eq_self, z_forD, z_forN]
  | below a e f b g h0 k =>
    have kk : small k := ⟨by have := h.2.2.2.2.2.2.1; omega, by have := h.2.2.2.2.2.2.2; omega⟩
    obtain ⟨_, he, hf, _, hg, hh, _⟩ := h
    dsimp! only [k10, eq_self, Sy.D, scSy, z_forD, z_forN]
    refine (sterm_op e s (op_small he)).mono ?_
    rintro r rfl
    dsimp! only [k11, eq_self, z_forD, z_forN]
    refine (sterm_op f s (op_small hf)).mono ?_
    rintro r rfl
    dsimp! only [k11, eq_self, z_forD, z_forN]
    refine (sterm_op g s (op_small hg)).mono ?_
    rintro r rfl
    dsimp! only [k11, eq_self, z_forD, z_forN]
    refine (sterm_op h0 s (op_small hh)).mono ?_
    rintro r rfl
    dsimp! only [k11, eq_self, z_forD, z_forN]
    dsimp! only [k11, eq_self, Sc.D, small_mul kk, z_forD, z_forN]
  | same a b e f k =>
    have kk : small k := ⟨by have := h.2.2.2.2.1; omega, by have := h.2.2.2.2.2; omega⟩
    obtain ⟨_, _, he, hf, _⟩ := h
    dsimp! only [k10, eq_self, Sy.D, scSy, z_forD, z_forN]
    refine (sterm_op e s (op_small he)).mono ?_
    rintro r rfl
    dsimp! only [k11, eq_self, z_forD, z_forN]
    refine (sterm_op f s (op_small hf)).mono ?_
    rintro r rfl
    dsimp! only [k11, eq_self, z_forD, z_forN]
    dsimp! only [k11, eq_self, Sc.D, small_mul kk, z_forD, z_forN]
end C
namespace C
open PySem L2 PD
variable {QG : Kd → D → Prop}
/-! ### the scale -/
def limC : List Int := [4, 10 ^ Int.toNat 8, 10 ^ Int.toNat 6, 10 ^ Int.toNat 8, 10 ^ Int.toNat 6]
theorem scale_spec (ns : List Int) (i : Nat) : wR (F_Lscale [.scr ns, .int i]) fun r => ∃ s : Sc, r = .val .sh s.D ∧ s.Ok := by
  have p8 : (0 ≤ (8 : Int) ∧ (8 : Int) ≤ 1000000 ∧ Int.natAbs 10 < 2 ^ 64) = True := eq_true (by decide)
  have p6 : (0 ≤ (6 : Int) ∧ (6 : Int) ≤ 1000000 ∧ Int.natAbs 10 < 2 ^ 64) = True := eq_true (by decide)
  rw [F_Lscale, w_run, b_Lscale]
  dsimp! only [k8, eq_self, p8, p6]
  refine (draws_spec ns i limC (by decide) (by decide +kernel)).mono ?_
  rintro r ⟨ds, rfl, hl, hd⟩
  obtain ⟨x0, x1, x2, x3, x4, rfl⟩ : ∃ a b c d e, ds = [a, b, c, d, e] := by
    match ds, hl with
    | [a, b, c, d, e], _ => exact ⟨a, b, c, d, e, rfl⟩
  have b1 := hd 1 _ _ rfl rfl
  have b2 := hd 2 _ _ rfl rfl
  have b3 := hd 3 _ _ rfl rfl
  have b4 := hd 4 _ _ rfl rfl
  have e8 : (10 ^ Int.toNat 8 : Int) = 100000000 := by decide +kernel
  have e6 : (10 ^ Int.toNat 6 : Int) = 1000000 := by decide +kernel
  rw [e8] at b1 b3
  rw [e6] at b2 b4
  dsimp! only [k6, eq_self, show ((i : Int) + 1) = ((i + 1 : Nat) : Int) by omega]
  refine (long_spec ns (i + 1) 2 (by decide)).mono ?_
  rintro r ⟨xs, rfl, hl, hb⟩
  match xs, hl with
  | [y0, y1], _ =>
  have c0 := hb y0 (by simp)
  have c1 := hb y1 (by simp)
  have d10 : ((Int.natAbs 10).log2 < 9000) = True := eq_true (by decide)
  have m1 : (mulOk x1 x2 = true) = True := eq_true (mulOk_l (by omega) (by omega))
  have m2 : (mulOk x3 x4 = true) = True := eq_true (mulOk_l (by omega) (by omega))
  have q1 : x1 * x2 ≤ 100000000 * 1000000 := Int.mul_le_mul (by omega) (by omega) (by omega) (by omega)
  have q2 : x3 * x4 ≤ 100000000 * 1000000 := Int.mul_le_mul (by omega) (by omega) (by omega) (by omega)
  have q3 : 0 ≤ x1 * x2 := Int.mul_nonneg (by omega) (by omega)
  have q4 : 0 ≤ x3 * x4 := Int.mul_nonneg (by omega) (by omega)
  have k0 : -(10 ^ 30) ≤ y0 / 10 ∧ y0 / 10 ≤ 10 ^ 30 := by unfold Big at c0; omega
  have k1 : -(10 ^ 30) ≤ y1 / 10 ∧ y1 / 10 ≤ 10 ^ 30 := by unfold Big at c1; omega
  dsimp! only [k7, eq_self, List.map_cons, List.map_nil, d10, m1, m2]
  split
  · exact ⟨⟨1, 0, 1, 0⟩, rfl, by decide, by decide +kernel, by decide +kernel, by decide +kernel, by decide, by decide +kernel, by decide +kernel, by decide +kernel⟩
  · split
    · exact ⟨⟨1, y0 / 10, 1, y1 / 10⟩, rfl, show (1 : Int) ≤ 1 by decide, show (1 : Int) ≤ 10 ^ 15 by decide, k0.1, k0.2, show (1 : Int) ≤ 1 by decide, show (1 : Int) ≤ 10 ^ 15 by decide, k1.1, k1.2⟩
    · exact ⟨⟨1 + x1 * x2, y0 / 10, 1 + x3 * x4, y1 / 10⟩, rfl, show 1 ≤ 1 + x1 * x2 by omega, show 1 + x1 * x2 ≤ 10 ^ 15 by omega, k0.1, k0.2, show 1 ≤ 1 + x3 * x4 by omega, show 1 + x3 * x4 ≤ 10 ^ 15 by omega, k1.1, k1.2⟩
/-! ### the same -/
inductive Pl : Nat → D → Prop
  | non {n} : Pl n .non
  | bl {n} (b) : Pl n (.bl b)
  | int {n} (i) : Pl n (.int i)
  | str {n} (x) : Pl n (.str x)
  | lst {n ds} : ds.length ≤ 1000000 → (∀ d ∈ ds, Pl n d) → Pl (n + 1) (.lst ds)
  | tup {n ds} : ds.length ≤ 1000000 → (∀ d ∈ ds, Pl n d) → Pl (n + 1) (.tup ds)
theorem g_isB {b : Bool} : wG (isND (.bl b) .non) QG = QG .sh (.bl false) := wG_some
theorem g_isL {b : List D} : wG (isND (.lst b) .non) QG = QG .sh (.bl false) := wG_some
theorem bools_rep (c : Nat → D) (h : ∀ k, c k = .bl true) : ∀ n : List Nat, blsOf (n.map c) = some (n.map fun _ => true)
  | [] => rfl
  | a :: r => by simp [blsOf, h, bools_rep c h r]
theorem g_allT {n : Nat} : wG (allD (.lst ((List.range n).map fun _ : Nat => D.bl true))) QG = QG .sh (.bl true) := by
  have e : allD (.lst ((List.range n).map fun _ : Nat => D.bl true)) = some (.sh, .bl true) := by
    show (blsOf ((List.range n).map fun _ : Nat => D.bl true)).map _ = _
    rw [bools_rep _ fun _ => rfl]
    simp
  rw [e]
  exact wG_some
theorem same_refl : ∀ (n : Nat) (x : D), Pl n x → wR (G_Lsame (n + 1) [x, x]) fun r => r = .val .sh (.bl true)
  | n, _, .non => by
    rw [G_Lsame, w_run, b_Lsame]
    dsimp! only [k8, eq_self, g_isN]
  | n, _, .bl b => by
    rw [G_Lsame, w_run, b_Lsame]
    dsimp! only [k8, eq_self, g_isB, decide_true]
  | n, _, .int i => by
    rw [G_Lsame, w_run, b_Lsame]
    dsimp! only [k8, eq_self, g_isI, decide_true]
  | n, _, .str x => by
    rw [G_Lsame, w_run, b_Lsame]
    dsimp! only [k8, eq_self, g_isS, decide_true]
  | n + 1, _, .lst (ds := ds) hl h => by
    rw [G_Lsame, w_run, b_Lsame]
    dsimp! only [k8, eq_self, g_isL, decide_true, Bool.not_true, Bool.not_false, rng1_nat (n := ds.length) (by omega)]
    rw [lc_map (g := fun _ : Nat => D.bl true) (List.range ds.length) fun k hk => by
      have hk := List.mem_range.mp hk
      have e : atI ds (k : Int) = some ds[k] := by rw [atI_nat]; exact List.getElem?_eq_getElem hk
      dsimp! only [k6, eq_self, e]
      exact (same_refl n _ (h _ (List.getElem_mem hk))).mono fun r e => by subst e; exact ⟨_, rfl, by simp⟩]
    dsimp! only [k6, eq_self, g_allT]
    omega
  | n + 1, _, .tup (ds := ds) hl h => by
    rw [G_Lsame, w_run, b_Lsame]
    dsimp! only [k8, eq_self, g_isT, decide_true, Bool.not_true, Bool.not_false, rng1_nat (n := ds.length) (by omega)]
    rw [lc_map (g := fun _ : Nat => D.bl true) (List.range ds.length) fun k hk => by
      have hk := List.mem_range.mp hk
      have e : atI ds (k : Int) = some ds[k] := by rw [atI_nat]; exact List.getElem?_eq_getElem hk
      dsimp! only [k6, eq_self, e]
      exact (same_refl n _ (h _ (List.getElem_mem hk))).mono fun r e => by subst e; exact ⟨_, rfl, by simp⟩]
    dsimp! only [k6, eq_self, g_allT]
    omega
/-! ### the same, dicts by what they hold -/
inductive Sm : Nat → D → D → Prop
  | non {n} : Sm n .non .non
  | bl {n} (b) : Sm n (.bl b) (.bl b)
  | int {n} (i) : Sm n (.int i) (.int i)
  | str {n} (x) : Sm n (.str x) (.str x)
  | lst {n ds es} : ds.length = es.length → ds.length ≤ 1000000 → (∀ (i : Nat) (d e : D), ds[i]? = some d → es[i]? = some e → Sm n d e) → Sm (n + 1) (.lst ds) (.lst es)
  | tup {n ds es} : ds.length = es.length → ds.length ≤ 1000000 → (∀ (i : Nat) (d e : D), ds[i]? = some d → es[i]? = some e → Sm n d e) → Sm (n + 1) (.tup ds) (.tup es)
  | dct {n} {kvs lvs : List (Key × D)} : kvs.length = lvs.length → kvs.length ≤ 1000000 → (∀ p ∈ lvs, (lookD kvs p.1).isSome = true) → (∀ p ∈ lvs, ∀ d e, lookD kvs p.1 = some d → lookD lvs p.1 = some e → Sm n d e) → Sm (n + 1) (.dct kvs) (.dct lvs)
theorem Pl.sm : ∀ {n : Nat} {x : D}, Pl n x → Sm n x x
  | _, _, .non => .non
  | _, _, .bl b => .bl b
  | _, _, .int i => .int i
  | _, _, .str x => .str x
  | _, _, .lst hl h => .lst rfl hl fun i d e h1 h2 => by rw [h1] at h2; cases h2; exact (h d (List.mem_of_getElem? h1)).sm
  | _, _, .tup hl h => .tup rfl hl fun i d e h1 h2 => by rw [h1] at h2; cases h2; exact (h d (List.mem_of_getElem? h1)).sm
theorem Pl.up : ∀ {n m : Nat} {x : D}, Pl n x → n ≤ m → Pl m x
  | _, _, _, .non, _ => .non
  | _, _, _, .bl b, _ => .bl b
  | _, _, _, .int i, _ => .int i
  | _, _, _, .str x, _ => .str x
  | n + 1, m, _, .lst hl h, hm => by
    obtain ⟨k, rfl⟩ : ∃ k, m = k + 1 := ⟨m - 1, by omega⟩
    exact .lst hl fun d hd => (h d hd).up (by omega)
  | n + 1, m, _, .tup hl h, hm => by
    obtain ⟨k, rfl⟩ : ∃ k, m = k + 1 := ⟨m - 1, by omega⟩
    exact .tup hl fun d hd => (h d hd).up (by omega)
theorem Sm.up : ∀ {n m : Nat} {x y : D}, Sm n x y → n ≤ m → Sm m x y
  | _, _, _, _, .non, _ => .non
  | _, _, _, _, .bl b, _ => .bl b
  | _, _, _, _, .int i, _ => .int i
  | _, _, _, _, .str x, _ => .str x
  | n + 1, m, _, _, .lst hl hk h, hm => by
    obtain ⟨k, rfl⟩ : ∃ k, m = k + 1 := ⟨m - 1, by omega⟩
    exact .lst hl hk fun i d e h1 h2 => (h i d e h1 h2).up (by omega)
  | n + 1, m, _, _, .tup hl hk h, hm => by
    obtain ⟨k, rfl⟩ : ∃ k, m = k + 1 := ⟨m - 1, by omega⟩
    exact .tup hl hk fun i d e h1 h2 => (h i d e h1 h2).up (by omega)
  | n + 1, m, _, _, .dct hl hk hs h, hm => by
    obtain ⟨k, rfl⟩ : ∃ k, m = k + 1 := ⟨m - 1, by omega⟩
    exact .dct hl hk hs fun p hp d e h1 h2 => (h p hp d e h1 h2).up (by omega)
end C
namespace C
open PySem L2 PD
variable {QG : Kd → D → Prop}
/-! ### names -/
theorem lA_mem (c : Nat) (h : 97 ≤ c ∧ c ≤ 122) : c ∈ (Str.ofString "abcdefghijklmnopqrstuvwxyz").cps.toList := by
  rw [show (Str.ofString "abcdefghijklmnopqrstuvwxyz").cps.toList = (List.range 26).map (· + 97) by decide +kernel]
  exact List.mem_map.mpr ⟨c - 97, List.mem_range.mpr (by omega), by omega⟩
theorem g_inC {n : Bool} {c : Nat} {z : Str} : wG (inN n (.str ⟨#[c]⟩) (.str z)) QG = QG .sh (.bl (if n then !decide (c ∈ z.cps.toList) else decide (c ∈ z.cps.toList))) := wG_some
theorem it_s {z : Str} : itemsD (.str z) = some (z.cps.toList.map fun c => .str ⟨#[c]⟩) := rfl
theorem is_name_ok (s : Str) (h : Nm s) : wR (F_is_name [.str s]) fun r => r = .val .sh (.bl true) := by
  obtain ⟨h1, h2, h3⟩ := h
  have n1 : (s = Str.ofString "") = False := eq_false fun e => by subst e; exact absurd h1 (by decide +kernel)
  have n2 : (s.length ≤ 16777216) = True := eq_true (by omega)
  have n3 : ((6 : Int) < (s.length : Int)) = False := eq_false (by omega)
  rw [F_is_name, w_run, b_is_name]
  dsimp! only [k8, eq_self, n1, n2, n3, decide_false, Bool.not_true, it_s]
  refine forD_inv _ (fun k en => ∃ o1, en = [some (.sh (.str s)), o1]) _ ⟨_, rfl⟩ ?_ ?_
  · rintro k d en hd ⟨o1, rfl⟩
    rw [List.getElem?_map] at hd
    obtain ⟨c, hc, rfl⟩ := Option.map_eq_some_iff.mp hd
    refine ⟨_, rfl, ?_⟩
    have m := lA_mem c (h3 c (List.mem_of_getElem? hc))
    dsimp! only [k6, eq_self, g_inC, m, decide_true, Bool.not_true]
    exact ⟨_, rfl⟩
  · rintro en ⟨o1, rfl⟩
    dsimp! only [k6, eq_self]
theorem is_whole_ok (i : Int) : wR (F_is_whole [.int i]) fun r => r = .val .sh (.bl true) := by
  rw [F_is_whole, w_run, b_is_whole]
  dsimp! only [k8, eq_self, Bool.not_false]
def VN : Voc := ⟨fun s => s = Str.ofString "" ∨ Nm s, fun s => s = Str.ofString "" ∨ Nm s, Nm⟩
def E0 (s : Str) : Prop := s = Str.ofString "" ∨ Nm s
theorem place_ok {B : Int} (p : Str × Int) (h : ptOk E0 B p) : wR (F_is_place_term [ptD p]) fun r => r = .val .sh (.bl true) := by
  rw [F_is_place_term, w_run, b_is_place_term]
  have c2 : (((2 : Nat) : Int) = 2) = True := eq_true rfl
  rcases h.1 with e | e
  · dsimp! only [k9, eq_self, ptD, e, c2, decide_true, Bool.not_true]
    refine (is_whole_ok p.2).mono ?_
    rintro r rfl
    dsimp! only [k6, eq_self]
  · by_cases e0 : p.1 = Str.ofString ""
    · dsimp! only [k9, eq_self, ptD, e0, c2, decide_true, Bool.not_true]
      refine (is_whole_ok p.2).mono ?_
      rintro r rfl
      dsimp! only [k6, eq_self]
    · dsimp! only [k9, eq_self, ptD, c2, e0, decide_true, decide_false, Bool.not_true]
      refine (is_name_ok p.1 e).mono ?_
      rintro r rfl
      dsimp! only [k7, eq_self]
      refine (is_whole_ok p.2).mono ?_
      rintro r rfl
      dsimp! only [k6, eq_self]
theorem value_ok {B : Int} (t : Tm) (h : t.Ok VN B) : wR (F_is_value_term [t.D]) fun r => r = .val .sh (.bl true) := by
  rw [F_is_value_term, w_run, b_is_value_term]
  cases t with
  | pt p =>
    dsimp! only [k8, eq_self, Tm.D, ptD, c2_3, decide_false, Bool.not_false]
    refine (place_ok p h).mono ?_
    rintro r rfl
    dsimp! only [k6, eq_self]
  | el a p k =>
    dsimp! only [k9, eq_self, Tm.D, c3_3, decide_true, Bool.not_true]
    refine (is_name_ok a h.1).mono ?_
    rintro r rfl
    dsimp! only [k7, eq_self]
    refine (place_ok p h.2.1).mono ?_
    rintro r rfl
    dsimp! only [k7, eq_self]
    refine (is_whole_ok k).mono ?_
    rintro r rfl
    dsimp! only [k6, eq_self]
theorem check_place_ok {B : Int} (p : Str × Int) (h : ptOk E0 B p) : wR (F_check_place_term [ptD p]) fun r => r = .val .sh .non := by
  rw [F_check_place_term, w_run, b_check_place_term]
  dsimp! only [k8, eq_self]
  refine (place_ok p h).mono ?_
  rintro r rfl
  dsimp! only [k6, eq_self, Bool.not_true]
theorem check_value_ok {B : Int} (t : Tm) (h : t.Ok VN B) : wR (F_check_value_term [t.D]) fun r => r = .val .sh .non := by
  rw [F_check_value_term, w_run, b_check_value_term]
  cases t with
  | pt p =>
    dsimp! only [k8, eq_self, Tm.D, ptD, c2_3, decide_false]
    refine (value_ok (.pt p) h).mono ?_
    rintro r rfl
    dsimp! only [k6, eq_self, Bool.not_true]
  | el a p k =>
    dsimp! only [k9, eq_self, Tm.D, c3_3, decide_true]
    refine (check_place_ok p h.2.1).mono ?_
    rintro r rfl
    dsimp! only [k6, eq_self]
    refine (value_ok (.el a p k) h).mono ?_
    rintro r rfl
    dsimp! only [k6, eq_self, Bool.not_true]
/-! ### statements -/
def kinds : Sy → List (Nat × D)
  | .place t u => [(112, ptD t), (112, ptD u)]
  | .value t u => [(118, t.D), (118, u.D)]
  | .rising a e f => [(97, .str a), (101, opD e), (101, opD f)]
  | .low a e f t => [(97, .str a), (101, opD e), (101, opD f), (118, t.D)]
  | .high a e f t => [(97, .str a), (101, opD e), (101, opD f), (118, t.D)]
  | .below a e f b g h k => [(97, .str a), (101, opD e), (101, opD f), (97, .str b), (101, opD g), (101, opD h), (107, .int k)]
  | .same a b e f k => [(97, .str a), (97, .str b), (101, opD e), (101, opD f), (107, .int k)]
def nmS : Sy → Str
  | .place _ _ => Str.ofString "place"
  | .value _ _ => Str.ofString "value"
  | .rising _ _ _ => Str.ofString "rising"
  | .low _ _ _ _ => Str.ofString "low"
  | .high _ _ _ _ => Str.ofString "high"
  | .below _ _ _ _ _ _ _ => Str.ofString "below"
  | .same _ _ _ _ _ => Str.ofString "same"
def fmS : Sy → Str
  | .place _ _ => Str.ofString "pp"
  | .value _ _ => Str.ofString "vv"
  | .rising _ _ _ => Str.ofString "aee"
  | .low _ _ _ _ => Str.ofString "aeev"
  | .high _ _ _ _ => Str.ofString "aeev"
  | .below _ _ _ _ _ _ _ => Str.ofString "aeeaeek"
  | .same _ _ _ _ _ => Str.ofString "aaeek"
theorem DS_eq (y : Sy) : y.D = .tup (.str (nmS y) :: (kinds y).map (·.2)) := by cases y <;> rfl
/-- one part's good shape -/
def KOk (t : Nat × D) : Prop := (t.1 = 112 ∧ ∃ p, ptOk E0 BB p ∧ t.2 = ptD p) ∨ (t.1 = 118 ∧ ∃ m : Tm, m.Ok VN BB ∧ t.2 = m.D) ∨ (t.1 = 97 ∧ ∃ s, Nm s ∧ t.2 = .str s) ∨ (t.1 = 101 ∧ ∃ e, opOk E0 BB e ∧ t.2 = opD e) ∨ (t.1 = 107 ∧ ∃ k, t.2 = .int k)
theorem kinds_ok (y : Sy) (h : y.Ok VN BB) : ∀ t ∈ kinds y, KOk t := by
  have p1 : ∀ {p}, ptOk VN.Sp BB p → KOk (112, ptD p) := fun h => .inl ⟨rfl, _, h, rfl⟩
  have p2 : ∀ {m : Tm}, m.Ok VN BB → KOk (118, m.D) := fun h => .inr (.inl ⟨rfl, _, h, rfl⟩)
  have p3 : ∀ {s}, VN.Sa s → KOk (97, .str s) := fun h => .inr (.inr (.inl ⟨rfl, _, h, rfl⟩))
  have p4 : ∀ {e}, opOk VN.Sp BB e → KOk (101, opD e) := fun h => .inr (.inr (.inr (.inl ⟨rfl, _, h, rfl⟩)))
  have p5 : ∀ {k}, KOk (107, .int k) := .inr (.inr (.inr (.inr ⟨rfl, _, rfl⟩)))
  have nl : ∀ t ∈ ([] : List (Nat × D)), KOk t := fun _ h => by cases h
  cases y with
  | place t u => exact List.forall_mem_cons.mpr ⟨p1 h.1, List.forall_mem_cons.mpr ⟨p1 h.2, nl⟩⟩
  | value t u => exact List.forall_mem_cons.mpr ⟨p2 h.1, List.forall_mem_cons.mpr ⟨p2 h.2, nl⟩⟩
  | rising a e f => exact List.forall_mem_cons.mpr ⟨p3 h.1, List.forall_mem_cons.mpr ⟨p4 h.2.1, List.forall_mem_cons.mpr ⟨p4 h.2.2, nl⟩⟩⟩
  | low a e f t => exact List.forall_mem_cons.mpr ⟨p3 h.1, List.forall_mem_cons.mpr ⟨p4 h.2.1, List.forall_mem_cons.mpr ⟨p4 h.2.2.1, List.forall_mem_cons.mpr ⟨p2 h.2.2.2, nl⟩⟩⟩⟩
  | high a e f t => exact List.forall_mem_cons.mpr ⟨p3 h.1, List.forall_mem_cons.mpr ⟨p4 h.2.1, List.forall_mem_cons.mpr ⟨p4 h.2.2.1, List.forall_mem_cons.mpr ⟨p2 h.2.2.2, nl⟩⟩⟩⟩
  | below a e f b g i k =>
    obtain ⟨ha, he, hf, hb, hg, hh, hk⟩ := h
    exact List.forall_mem_cons.mpr ⟨p3 ha, List.forall_mem_cons.mpr ⟨p4 he, List.forall_mem_cons.mpr ⟨p4 hf, List.forall_mem_cons.mpr ⟨p3 hb, List.forall_mem_cons.mpr ⟨p4 hg, List.forall_mem_cons.mpr ⟨p4 hh, List.forall_mem_cons.mpr ⟨p5, nl⟩⟩⟩⟩⟩⟩⟩
  | same a b e f k =>
    obtain ⟨ha, hb, he, hf, hk⟩ := h
    exact List.forall_mem_cons.mpr ⟨p3 ha, List.forall_mem_cons.mpr ⟨p3 hb, List.forall_mem_cons.mpr ⟨p4 he, List.forall_mem_cons.mpr ⟨p4 hf, List.forall_mem_cons.mpr ⟨p5, nl⟩⟩⟩⟩⟩
theorem one_at (n m : Nat) (z : Str) (h : z = ⟨#[m]⟩) : ((⟨#[n]⟩ : Str) = z) = (n = m) := by subst h; simp
theorem one_p (n : Nat) : ((⟨#[n]⟩ : Str) = Str.ofString "p") = (n = 112) := one_at n 112 _ (by decide +kernel)
theorem one_e (n : Nat) : ((⟨#[n]⟩ : Str) = Str.ofString "e") = (n = 101) := one_at n 101 _ (by decide +kernel)
theorem one_v (n : Nat) : ((⟨#[n]⟩ : Str) = Str.ofString "v") = (n = 118) := one_at n 118 _ (by decide +kernel)
theorem one_a (n : Nat) : ((⟨#[n]⟩ : Str) = Str.ofString "a") = (n = 97) := one_at n 97 _ (by decide +kernel)
theorem one_k (n : Nat) : ((⟨#[n]⟩ : Str) = Str.ofString "k") = (n = 107) := one_at n 107 _ (by decide +kernel)
theorem g_notN : wG (notND .non .non) QG = QG .sh (.bl false) := wG_some
theorem g_notT {ds : List D} : wG (notND (.tup ds) .non) QG = QG .sh (.bl true) := wG_some
theorem check_part_ok (t : Nat × D) (h : KOk t) : wR (F_check_part [.str ⟨#[t.1]⟩, t.2]) fun r => r = .val .sh .non := by
  obtain ⟨n, d⟩ := t
  rw [F_check_part, w_run, b_check_part]
  rcases h with ⟨h1, p, hp, h2⟩ | ⟨h1, m, hm, h2⟩ | ⟨h1, s, hs, h2⟩ | ⟨h1, e, he, h2⟩ | ⟨h1, k, h2⟩
  · have q1 : n = 112 := h1
    have q2 : d = ptD p := h2
    subst q1 q2
    dsimp! only [k8, eq_self, one_p, one_e, one_v, one_a, Nat.reduceEqDiff, decide_true]
    refine (check_place_ok p hp).mono ?_
    rintro r rfl
    dsimp! only [k6, eq_self, one_p, one_e, one_v, one_a, Nat.reduceEqDiff, decide_false]
  · have q1 : n = 118 := h1
    have q2 : d = m.D := h2
    subst q1 q2
    dsimp! only [k8, eq_self, one_p, one_e, one_v, one_a, Nat.reduceEqDiff, decide_true, decide_false]
    refine (check_value_ok m hm).mono ?_
    rintro r rfl
    dsimp! only [k6, eq_self, one_p, one_e, one_v, one_a, Nat.reduceEqDiff, decide_false]
  · have q1 : n = 97 := h1
    have q2 : d = .str s := h2
    subst q1 q2
    dsimp! only [k8, eq_self, one_p, one_e, one_v, one_a, Nat.reduceEqDiff, decide_true, decide_false]
    refine (is_name_ok s hs).mono ?_
    rintro r rfl
    dsimp! only [k6, eq_self, Bool.not_true]
  · have q1 : n = 101 := h1
    have q2 : d = opD e := h2
    subst q1 q2
    cases e with
    | none => dsimp! only [k8, eq_self, opD, one_p, one_e, one_v, one_a, Nat.reduceEqDiff, g_notN, decide_true, decide_false]
    | some p =>
      dsimp! only [k8, eq_self, opD, ptD, one_p, one_e, one_v, one_a, Nat.reduceEqDiff, g_notT, decide_true, decide_false]
      refine (check_place_ok p he).mono ?_
      rintro r rfl
      dsimp! only [k6, eq_self, one_p, one_e, one_v, one_a, Nat.reduceEqDiff, decide_false]
  · have q1 : n = 107 := h1
    have q2 : d = .int k := h2
    subst q1 q2
    dsimp! only [k8, eq_self, one_p, one_e, one_v, one_a, Nat.reduceEqDiff, decide_false]
end C
namespace C
open PySem L2 PD
variable {QG : Kd → D → Prop}
/-! ### checked -/
theorem lookS_fm (y : Sy) : t_FORMS.lookup (nmS y) = some (fmS y) := by
  cases y
  · show t_FORMS.lookup (Str.ofString "place") = some (Str.ofString "pp"); decide +kernel
  · show t_FORMS.lookup (Str.ofString "value") = some (Str.ofString "vv"); decide +kernel
  · show t_FORMS.lookup (Str.ofString "rising") = some (Str.ofString "aee"); decide +kernel
  · show t_FORMS.lookup (Str.ofString "low") = some (Str.ofString "aeev"); decide +kernel
  · show t_FORMS.lookup (Str.ofString "high") = some (Str.ofString "aeev"); decide +kernel
  · show t_FORMS.lookup (Str.ofString "below") = some (Str.ofString "aeeaeek"); decide +kernel
  · show t_FORMS.lookup (Str.ofString "same") = some (Str.ofString "aaeek"); decide +kernel
theorem zipS_fm (y : Sy) : zipD [.str (fmS y), .tup ((kinds y).map (·.2))] = some ((kinds y).map fun t => .tup [.str ⟨#[t.1]⟩, t.2]) := by
  have c (z : Str) (xs ds : List D) (h : z.cps.toList.map (fun c => D.str ⟨#[c]⟩) = xs) : zipD [.str z, .tup ds] = some (zipW xs ds) := by subst h; rfl
  cases y
  · exact (c _ [.str ⟨#[112]⟩, .str ⟨#[112]⟩] _ (congrArg (List.map fun c => D.str ⟨#[c]⟩) (by decide +kernel : (Str.ofString "pp").cps.toList = [112, 112]))).trans rfl
  · exact (c _ [.str ⟨#[118]⟩, .str ⟨#[118]⟩] _ (congrArg (List.map fun c => D.str ⟨#[c]⟩) (by decide +kernel : (Str.ofString "vv").cps.toList = [118, 118]))).trans rfl
  · exact (c _ [.str ⟨#[97]⟩, .str ⟨#[101]⟩, .str ⟨#[101]⟩] _ (congrArg (List.map fun c => D.str ⟨#[c]⟩) (by decide +kernel : (Str.ofString "aee").cps.toList = [97, 101, 101]))).trans rfl
  · exact (c _ [.str ⟨#[97]⟩, .str ⟨#[101]⟩, .str ⟨#[101]⟩, .str ⟨#[118]⟩] _ (congrArg (List.map fun c => D.str ⟨#[c]⟩) (by decide +kernel : (Str.ofString "aeev").cps.toList = [97, 101, 101, 118]))).trans rfl
  · exact (c _ [.str ⟨#[97]⟩, .str ⟨#[101]⟩, .str ⟨#[101]⟩, .str ⟨#[118]⟩] _ (congrArg (List.map fun c => D.str ⟨#[c]⟩) (by decide +kernel : (Str.ofString "aeev").cps.toList = [97, 101, 101, 118]))).trans rfl
  · exact (c _ [.str ⟨#[97]⟩, .str ⟨#[101]⟩, .str ⟨#[101]⟩, .str ⟨#[97]⟩, .str ⟨#[101]⟩, .str ⟨#[101]⟩, .str ⟨#[107]⟩] _ (congrArg (List.map fun c => D.str ⟨#[c]⟩) (by decide +kernel : (Str.ofString "aeeaeek").cps.toList = [97, 101, 101, 97, 101, 101, 107]))).trans rfl
  · exact (c _ [.str ⟨#[97]⟩, .str ⟨#[97]⟩, .str ⟨#[101]⟩, .str ⟨#[101]⟩, .str ⟨#[107]⟩] _ (congrArg (List.map fun c => D.str ⟨#[c]⟩) (by decide +kernel : (Str.ofString "aaeek").cps.toList = [97, 97, 101, 101, 107]))).trans rfl
theorem g_slTail {x : D} {ds : List D} : wG (slD (.tup (x :: ds)) (some 1) none) QG = QG .sh (.tup ds) := by
  have c : ¬ (HT.sIx (x :: ds).length 0 (some 1) = 0 ∧ HT.sIx (x :: ds).length (x :: ds).length none = (x :: ds).length) := fun h => by
    have e : HT.sIx (x :: ds).length 0 (some 1) = min 1 (x :: ds).length := HT.sIx_nat _ _ 1
    rw [e, List.length_cons] at h
    omega
  have e : slD (.tup (x :: ds)) (some 1) none = some (.sh, .tup ds) := by
    show (if HT.sIx (x :: ds).length 0 (some 1) = 0 ∧ HT.sIx (x :: ds).length (x :: ds).length none = (x :: ds).length then none else some (Kd.sh, D.tup (cutD (x :: ds) (some 1) none))) = _
    rw [if_neg c, cut_drop (n := 1) (by simp)]
    rfl
  rw [e, wG_some]
theorem g_tabG {z v : Str} {w : D} (h : t_FORMS.lookup z = some v) : wG (tabG t_FORMS (.str z) w) QG = QG .sh (.str v) := by
  have e : tabG t_FORMS (.str z) w = some (.sh, .str v) := by
    show (t_FORMS.lookup z).map (fun v => (Kd.sh, D.str v)) = _
    rw [h]
    rfl
  rw [e, wG_some]
/-! data that == reads: texts -/
theorem okP_str {k : Nat} {s : Str} (h : ∀ c ∈ s.cps.toList, c < 1114112) : okP k (.str s) := ⟨.str s, by simp [toP], by
  simp only [PyData.canLay0]
  show s.cps.all (fun c => decide (c < 0x110000)) = true
  rw [← Array.all_toList, List.all_eq_true]
  exact fun c hc => decide_eq_true (h c hc), by simp [PyData.depth]⟩
theorem okP_nm {k : Nat} {s : Str} (h : Nm s) : okP k (.str s) := okP_str fun c hc => by have := h.2.2 c hc; omega
theorem okP_E0 {k : Nat} {s : Str} (h : E0 s) : okP k (.str s) := by
  rcases h with rfl | h
  · exact okP_str fun c hc => absurd hc (by rw [show (Str.ofString "").cps.toList = [] by decide +kernel]; simp)
  · exact okP_nm h
theorem okP_non {k : Nat} : okP k .non := ⟨.none, by simp [toP], by simp [PyData.canLay0], by simp [PyData.depth]⟩
theorem okP_pt {p : Str × Int} {B : Int} (h : ptOk E0 B p) : okP 3 (ptD p) := okP_tup (k := 2) fun d hd => by
  rcases List.mem_cons.mp hd with rfl | hd
  · exact okP_E0 h.1
  · rcases List.mem_cons.mp hd with rfl | hd
    · exact okP_int _
    · cases hd
theorem okP.up {k j : Nat} {d : D} (h : okP k d) (hj : k ≤ j) : okP j d := let ⟨p, h1, h2, h3⟩ := h; ⟨p, h1, h2, by omega⟩
theorem okP_tm {t : Tm} {B : Int} (h : t.Ok VN B) : okP 4 t.D := by
  cases t with
  | pt p => exact (okP_pt (B := B) h).up (by decide)
  | el a p k =>
    refine okP_tup (k := 3) fun d hd => ?_
    rcases List.mem_cons.mp hd with rfl | hd
    · exact okP_nm h.1
    · rcases List.mem_cons.mp hd with rfl | hd
      · exact okP_pt h.2.1
      · rcases List.mem_cons.mp hd with rfl | hd
        · exact okP_int _
        · cases hd
theorem okP_op {e : Option (Str × Int)} {B : Int} (h : opOk E0 B e) : okP 3 (opD e) := by
  cases e with
  | none => exact okP_non
  | some p => exact okP_pt h
theorem okP_kind {t : Nat × D} (h : KOk t) : okP 4 t.2 := by
  rcases h with ⟨h1, p, hp, h2⟩ | ⟨h1, m, hm, h2⟩ | ⟨h1, s, hs, h2⟩ | ⟨h1, e, he, h2⟩ | ⟨h1, k, h2⟩ <;> rw [h2]
  · exact (okP_pt hp).up (by decide)
  · exact okP_tm hm
  · exact okP_nm hs
  · exact (okP_op he).up (by decide)
  · exact okP_int _
theorem nmS_ok (y : Sy) : ∀ c ∈ (nmS y).cps.toList, c < 1114112 := by
  cases y
  · show ∀ c ∈ (Str.ofString "place").cps.toList, c < 1114112; decide +kernel
  · show ∀ c ∈ (Str.ofString "value").cps.toList, c < 1114112; decide +kernel
  · show ∀ c ∈ (Str.ofString "rising").cps.toList, c < 1114112; decide +kernel
  · show ∀ c ∈ (Str.ofString "low").cps.toList, c < 1114112; decide +kernel
  · show ∀ c ∈ (Str.ofString "high").cps.toList, c < 1114112; decide +kernel
  · show ∀ c ∈ (Str.ofString "below").cps.toList, c < 1114112; decide +kernel
  · show ∀ c ∈ (Str.ofString "same").cps.toList, c < 1114112; decide +kernel
theorem g_eqTup0 {n : Bool} {xs : List D} {k : Nat} (hk : k < 64) (h : ∀ d ∈ xs, okP k d) : wG (eqN n (.tup xs) (.tup [])) QG = QG .sh (.bl (if n then !decide (xs = []) else decide (xs = []))) := by
  obtain ⟨ps, e1, e0, e2, e3⟩ := okPs_of h
  have e : eqN n (.tup xs) (.tup []) = eqb n (decide (xs = [])) := by
    show (match toP (.tup xs), toP (.tup []) with | some p, some q => if SeqAt.shaped p = true ∧ SeqAt.shaped q = true then eqb n (PyData.eqv p q) else none | _, _ => none) = _
    have s1 : SeqAt.shaped (.tuple ps) = true := by
      show (PyData.canLay0 (.tuple ps) && decide (PyData.depth (.tuple ps) ≤ 64)) = true
      rw [show PyData.canLay0 (.tuple ps) = true by simp only [PyData.canLay0, e2], decide_eq_true (by simp only [PyData.depth]; omega)]
      rfl
    have s2 : SeqAt.shaped (.tuple []) = true := by decide
    rw [show toP (.tup xs) = some (.tuple ps) by simp [toP, e1], show toP (.tup []) = some (.tuple []) by simp [toP, toPs]]
    simp only [s1, s2, and_self, if_true]
    congr 1
    cases xs with
    | nil => cases ps with
      | nil => rfl
      | cons _ _ => simp at e0
    | cons x r => cases ps with
      | nil => simp at e0
      | cons _ _ => simp [PyData.eqv, PyData.eqvAll]
  rw [e]
  exact wG_some
/-! plain data -/
theorem pl_pt {n : Nat} (p : Str × Int) : Pl (n + 1) (ptD p) := .tup (by simp) fun d hd => by
  rcases List.mem_cons.mp hd with rfl | hd
  · exact .str _
  · rcases List.mem_cons.mp hd with rfl | hd
    · exact .int _
    · cases hd
theorem pl_tm {n : Nat} (t : Tm) : Pl (n + 2) t.D := by
  cases t with
  | pt p => exact pl_pt p
  | el a p k =>
    refine .tup (by simp) fun d hd => ?_
    rcases List.mem_cons.mp hd with rfl | hd
    · exact .str _
    · rcases List.mem_cons.mp hd with rfl | hd
      · exact pl_pt p
      · rcases List.mem_cons.mp hd with rfl | hd
        · exact .int _
        · cases hd
theorem pl_op {n : Nat} (e : Option (Str × Int)) : Pl (n + 1) (opD e) := by
  cases e with
  | none => exact .non
  | some p => exact pl_pt p
theorem kinds_len (y : Sy) : 2 ≤ (kinds y).length ∧ (kinds y).length ≤ 7 := by cases y <;> simp [kinds]
theorem fmS_len (y : Sy) : (fmS y).length = (kinds y).length := by
  cases y
  · show (Str.ofString "pp").length = 2; decide +kernel
  · show (Str.ofString "vv").length = 2; decide +kernel
  · show (Str.ofString "aee").length = 3; decide +kernel
  · show (Str.ofString "aeev").length = 4; decide +kernel
  · show (Str.ofString "aeev").length = 4; decide +kernel
  · show (Str.ofString "aeeaeek").length = 7; decide +kernel
  · show (Str.ofString "aaeek").length = 5; decide +kernel
theorem fmS_ne (y : Sy) : (fmS y = Str.ofString "") = False := eq_false fun e => by
  have h1 := fmS_len y
  have h2 := kinds_len y
  rw [e, show (Str.ofString "").length = 0 by decide +kernel] at h1
  omega
/-- the last kind; where it is k, the last part is a number -/
theorem fmS_last (y : Sy) : ∃ c, atI (fmS y).cps.toList (-1) = some c ∧ (c ≠ 107 ∨ ∃ k, atI (D.str (nmS y) :: (kinds y).map (·.2)) (-1) = some (.int k)) := by
  cases y with
  | place t u => exact ⟨112, by show atI (Str.ofString "pp").cps.toList (-1) = some 112; decide +kernel, .inl (by decide)⟩
  | value t u => exact ⟨118, by show atI (Str.ofString "vv").cps.toList (-1) = some 118; decide +kernel, .inl (by decide)⟩
  | rising a e f => exact ⟨101, by show atI (Str.ofString "aee").cps.toList (-1) = some 101; decide +kernel, .inl (by decide)⟩
  | low a e f t => exact ⟨118, by show atI (Str.ofString "aeev").cps.toList (-1) = some 118; decide +kernel, .inl (by decide)⟩
  | high a e f t => exact ⟨118, by show atI (Str.ofString "aeev").cps.toList (-1) = some 118; decide +kernel, .inl (by decide)⟩
  | below a e f b g i k => exact ⟨107, by show atI (Str.ofString "aeeaeek").cps.toList (-1) = some 107; decide +kernel, .inr ⟨k, rfl⟩⟩
  | same a b e f k => exact ⟨107, by show atI (Str.ofString "aaeek").cps.toList (-1) = some 107; decide +kernel, .inr ⟨k, rfl⟩⟩
theorem sy_items (y : Sy) (h : y.Ok VN BB) : ∀ d ∈ D.str (nmS y) :: (kinds y).map (·.2), okP 4 d := fun d hd => by
  rcases List.mem_cons.mp hd with rfl | hd
  · exact okP_str (nmS_ok y)
  · obtain ⟨t, ht, rfl⟩ := List.mem_map.mp hd
    exact okP_kind (kinds_ok y h t ht)
theorem cons_ne (x : D) (xs : List D) : (x :: xs = []) = False := eq_false (by simp)
theorem checked_ok (y : Sy) (h : y.Ok VN BB) : wR (F_checked [y.D]) fun r => r = .val .sh y.D := by
  have hk := kinds_ok y h
  have hl := kinds_len y
  have fl := fmS_len y
  obtain ⟨c, hc, hcc⟩ := fmS_last y
  have e1 : ((((kinds y).length + 1 : Nat) : Int) = 1 + ((kinds y).length : Int)) = True := eq_true (by omega)
  have e2 : ((fmS y).length ≤ 16777216) = True := eq_true (by omega)
  rw [F_checked, w_run, b_checked, DS_eq]
  dsimp! only [k9, eq_self, g_eqTup0 (by decide : 4 < 64) (sy_items y h), cons_ne, decide_false, Bool.not_true, g_tabG (lookS_fm y), fmS_ne, fl, e1, decide_true, g_ixS, e2, hc, one_k]
  have rest : ∀ o2 o3 : Option Sl, wO (forD (hTL 2 (hCons (hName 2) (hCons (hName 3) hNil))) (fDrop (fCall F_check_part 2 (fCons (fVar 2) (fCons (fVar 3) fNil)))) ((kinds y).map fun t => .tup [.str ⟨#[t.1]⟩, t.2])
      [some (Sl.sh (D.tup (D.str (nmS y) :: (kinds y).map (·.2)))), some (Sl.sh (D.str (fmS y))), o2, o3]) (onO (onR fun r => r = R.val Kd.sh (D.tup (D.str (nmS y) :: (kinds y).map (·.2)))) (Z (fun en1 => wO (fRetV 0 en1) (onR fun r => r = R.val Kd.sh (D.tup (D.str (nmS y) :: (kinds y).map (·.2))))) ⟨⟩)) := fun o2 o3 => by
    refine forD_inv _ (fun _ en => ∃ o2 o3, en = [some (Sl.sh (D.tup (D.str (nmS y) :: (kinds y).map (·.2)))), some (Sl.sh (D.str (fmS y))), o2, o3]) _ ⟨_, _, rfl⟩ ?_ ?_
    · rintro j d en hd ⟨o2, o3, rfl⟩
      rw [List.getElem?_map] at hd
      obtain ⟨t, ht, rfl⟩ := Option.map_eq_some_iff.mp hd
      refine ⟨_, rfl, ?_⟩
      dsimp! only [k6, eq_self]
      refine (check_part_ok t (hk t (List.mem_of_getElem? ht))).mono ?_
      rintro r rfl
      dsimp! only [k6, eq_self]
      exact ⟨_, _, rfl⟩
    · rintro en ⟨o2, o3, rfl⟩
      dsimp! only [k6, eq_self]
  refine ⟨by omega, by omega, ?_⟩
  by_cases hc2 : c = 107
  · rcases hcc with hcc | ⟨k, hk2⟩
    · exact absurd hc2 hcc
    · dsimp! only [k6, eq_self, hc2, hk2]
      refine (is_whole_ok k).mono ?_
      rintro r rfl
      dsimp! only [k6, eq_self, Bool.not_true, g_slTail, zipS_fm]
      exact rest _ _
  · dsimp! only [k6, eq_self, hc2, g_slTail, zipS_fm]
    exact rest _ _
end C
namespace C
open PySem L2 PD
theorem pt_mono {S S' : Str → Prop} {B B' : Int} {p : Str × Int} (hs : ∀ s, S s → S' s) (hb : B ≤ B') (h : ptOk S B p) : ptOk S' B' p := ⟨hs _ h.1, by have := h.2.1; omega, by have := h.2.2; omega⟩
theorem op_mono {S S' : Str → Prop} {B B' : Int} {e : Option (Str × Int)} (hs : ∀ s, S s → S' s) (hb : B ≤ B') (h : opOk S B e) : opOk S' B' e := by
  cases e with
  | none => trivial
  | some p => exact pt_mono hs hb h
structure Voc.Le (V V' : Voc) : Prop where
  p : ∀ s, V.Sp s → V'.Sp s
  q : ∀ s, V.Sq s → V'.Sq s
  a : ∀ s, V.Sa s → V'.Sa s
theorem Voc.Le.refl (V : Voc) : V.Le V := ⟨fun _ h => h, fun _ h => h, fun _ h => h⟩
theorem tm_mono {V V' : Voc} {B B' : Int} (hv : V.Le V') (hb : B ≤ B') {t : Tm} (h : t.Ok V B) : t.Ok V' B' := by
  cases t with
  | pt p => exact pt_mono hv.q hb h
  | el a p k => exact ⟨hv.a _ h.1, pt_mono hv.p hb h.2.1, by have := h.2.2.1; omega, by have := h.2.2.2; omega⟩
theorem Sy.Ok.mono {V V' : Voc} {B B' : Int} (hv : V.Le V') (hb : B ≤ B') {y : Sy} (h : y.Ok V B) : y.Ok V' B' := by
  have kk : ∀ {k : Int}, -B ≤ k ∧ k ≤ B → -B' ≤ k ∧ k ≤ B' := fun h => ⟨by omega, by omega⟩
  cases y with
  | place t u => exact ⟨pt_mono hv.p hb h.1, pt_mono hv.p hb h.2⟩
  | value t u => exact ⟨tm_mono hv hb h.1, tm_mono hv hb h.2⟩
  | rising a e f => exact ⟨hv.a _ h.1, op_mono hv.p hb h.2.1, op_mono hv.p hb h.2.2⟩
  | low a e f t => exact ⟨hv.a _ h.1, op_mono hv.p hb h.2.1, op_mono hv.p hb h.2.2.1, tm_mono hv hb h.2.2.2⟩
  | high a e f t => exact ⟨hv.a _ h.1, op_mono hv.p hb h.2.1, op_mono hv.p hb h.2.2.1, tm_mono hv hb h.2.2.2⟩
  | below a e f b g i k => exact ⟨hv.a _ h.1, op_mono hv.p hb h.2.1, op_mono hv.p hb h.2.2.1, hv.a _ h.2.2.2.1, op_mono hv.p hb h.2.2.2.2.1, op_mono hv.p hb h.2.2.2.2.2.1, kk h.2.2.2.2.2.2⟩
  | same a b e f k => exact ⟨hv.a _ h.1, hv.a _ h.2.1, op_mono hv.p hb h.2.2.1, op_mono hv.p hb h.2.2.2.1, kk h.2.2.2.2⟩
theorem mul_in {k c : Int} (h : -200 ≤ k ∧ k ≤ 200) (h0 : 1 ≤ c) (h1 : c ≤ 10 ^ 15) : -(200 * 10 ^ 15) ≤ k * c ∧ k * c ≤ 200 * 10 ^ 15 := by
  have q1 : k * c ≤ 200 * c := Int.mul_le_mul_of_nonneg_right h.2 (by omega)
  have q2 : -200 * c ≤ k * c := Int.mul_le_mul_of_nonneg_right h.1 (by omega)
  constructor <;> omega
theorem pt_sc {S : Str → Prop} {p : Str × Int} {a b : Int} (h : ptOk S 200 p) (h0 : 1 ≤ a) (h1 : a ≤ 10 ^ 15) (h2 : -(10 ^ 30) ≤ b) (h3 : b ≤ 10 ^ 30) : ptOk S BB (scPt a b p) := by
  have q := mul_in h.2 h0 h1
  refine ⟨h.1, ?_⟩
  show -BB ≤ (if p.1 = Str.ofString "" then p.2 * a + b else p.2 * a) ∧ (if p.1 = Str.ofString "" then p.2 * a + b else p.2 * a) ≤ BB
  unfold BB
  split <;> constructor <;> omega
theorem op_sc {V : Voc} {e : Option (Str × Int)} {s : Sc} (hs : s.Ok) (h : opOk V.Sp 200 e) : opOk V.Sp BB (e.map (scPt s.a s.b)) := by
  cases e with
  | none => trivial
  | some p => exact pt_sc h hs.a0 hs.a1 hs.b0 hs.b1
theorem k_sc {k : Int} {s : Sc} (hs : s.Ok) (h : -200 ≤ k ∧ k ≤ 200) : -BB ≤ k * s.c ∧ k * s.c ≤ BB := by
  have q := mul_in h hs.c0 hs.c1
  unfold BB
  constructor <;> omega
theorem tm_sc {V : Voc} {t : Tm} {s : Sc} (hs : s.Ok) (h : t.Ok V 200) : (scTm s t).Ok V BB := by
  cases t with
  | pt p => exact pt_sc h hs.c0 hs.c1 hs.d0 hs.d1
  | el a p k => exact ⟨h.1, pt_sc h.2.1 hs.a0 hs.a1 hs.b0 hs.b1, k_sc hs h.2.2⟩
theorem sy_sc {V : Voc} {y : Sy} {s : Sc} (hs : s.Ok) (h : y.Ok V 200) : (scSy s y).Ok V BB := by
  cases y with
  | place t u => exact ⟨pt_sc h.1 hs.a0 hs.a1 hs.b0 hs.b1, pt_sc h.2 hs.a0 hs.a1 hs.b0 hs.b1⟩
  | value t u => exact ⟨tm_sc hs h.1, tm_sc hs h.2⟩
  | rising a e f => exact ⟨h.1, op_sc hs h.2.1, op_sc hs h.2.2⟩
  | low a e f t => exact ⟨h.1, op_sc hs h.2.1, op_sc hs h.2.2.1, tm_sc hs h.2.2.2⟩
  | high a e f t => exact ⟨h.1, op_sc hs h.2.1, op_sc hs h.2.2.1, tm_sc hs h.2.2.2⟩
  | below a e f b g i k => exact ⟨h.1, op_sc hs h.2.1, op_sc hs h.2.2.1, h.2.2.2.1, op_sc hs h.2.2.2.2.1, op_sc hs h.2.2.2.2.2.1, k_sc hs h.2.2.2.2.2.2⟩
  | same a b e f k => exact ⟨h.1, h.2.1, op_sc hs h.2.2.1, op_sc hs h.2.2.2.1, k_sc hs h.2.2.2.2⟩
theorem rng2_ok {a : Nat} {x : Int} (h0 : a ≤ 1000) (h : x ≤ 1000) (h1 : 0 ≤ x) : rng2D [.int a, .int x] = some (rngL a (x - a).toNat) := by
  unfold rng2D
  dsimp only
  rw [if_pos (by omega)]
theorem rngL_get2 {a n i : Nat} {d : D} (h : (rngL a n)[i]? = some d) : d = .int ((a + i : Nat) : Int) := by
  unfold rngL at h
  rw [List.getElem?_map] at h
  obtain ⟨j, hj, rfl⟩ := Option.map_eq_some_iff.mp h
  obtain ⟨h1, h2⟩ := List.getElem?_eq_some_iff.mp hj
  rw [List.getElem_range] at h2
  subst h2
  congr 1
/-- min(len(script), 63), at least m -/
theorem cells_ok {n : Nat} {m : Int} (h0 : 0 ≤ m) (h1 : m ≤ 100) (h : n ≤ 63) : ∃ x : Int, (if (if (63 : Int) < n then (63 : Int) else n) > m then (if (63 : Int) < n then (63 : Int) else n) else m) = x ∧ 0 ≤ x ∧ x ≤ 1000 :=
  ⟨_, rfl, by split <;> (try split) <;> omega, by split <;> (try split) <;> omega⟩
end C
/-! MP: rows of cells, plain. -/
namespace C
open PySem L2 PD
abbrev Rw := List (Int × Int)
def Asc (es : Rw) : Prop := es.Pairwise fun a b => a.1 < b.1
def cellF (p : Int) (v : Int) (e : Int × Int) : Int := if e.1 ≤ p then e.2 else v
/-- the value at a place -/
def cellR : Rw → Int → Int
  | [], _ => 0
  | e :: r, p => (e :: r).foldl (cellF p) e.2
theorem cell_cons (e : Int × Int) (r : Rw) (p : Int) : cellR (e :: r) p = r.foldl (cellF p) e.2 := by
  show (e :: r).foldl (cellF p) e.2 = _
  rw [List.foldl_cons]
  congr 1
  unfold cellF
  split <;> rfl
def dedR (v : Int) : Rw → Rw
  | [] => []
  | e :: r => if e.2 = v then dedR v r else e :: dedR e.2 r
def keptR : Rw → Rw
  | [] => []
  | e :: r => e :: dedR e.2 r
def fstR : Rw → Rw
  | [] => []
  | [e] => [(0, e.2)]
  | e :: f :: r => (f.1 - 1, e.2) :: f :: r
def leastR (es : Rw) : Rw := fstR (keptR (sortP es))
theorem ded_sub : ∀ (v : Int) (r : Rw), (dedR v r).Sublist r
  | _, [] => .slnil
  | v, e :: r => by
    unfold dedR
    split
    · exact (ded_sub v r).cons _
    · exact (ded_sub e.2 r).cons_cons _
theorem kept_sub (es : Rw) : (keptR es).Sublist es := by
  cases es with
  | nil => exact .slnil
  | cons e r => exact (ded_sub e.2 r).cons_cons _
theorem fold_gt {p : Int} : ∀ {r : Rw} {v : Int}, (∀ x ∈ r, p < x.1) → r.foldl (cellF p) v = v
  | [], _, _ => rfl
  | e :: r, v, h => by
    rw [List.foldl_cons]
    have : cellF p v e = v := by unfold cellF; rw [if_neg (by have := h e List.mem_cons_self; omega)]
    rw [this]
    exact fold_gt fun x hx => h x (List.mem_cons_of_mem _ hx)
theorem fold_ded {p : Int} : ∀ {r : Rw} {v : Int}, Asc r → (dedR v r).foldl (cellF p) v = r.foldl (cellF p) v
  | [], _, _ => rfl
  | e :: r, v, h => by
    obtain ⟨h1, h2⟩ := List.pairwise_cons.mp h
    unfold dedR
    rw [List.foldl_cons]
    split
    · rename_i hv
      have : cellF p v e = v := by unfold cellF; split <;> first | exact hv | rfl
      rw [this]
      exact fold_ded h2
    · rw [List.foldl_cons]
      by_cases hp : e.1 ≤ p
      · have : cellF p v e = e.2 := by unfold cellF; rw [if_pos hp]
        rw [this]
        exact fold_ded h2
      · have : cellF p v e = v := by unfold cellF; rw [if_neg hp]
        rw [this]
        have g : ∀ x ∈ r, p < x.1 := fun x hx => by have := h1 x hx; omega
        rw [fold_gt g, fold_gt fun x hx => g x ((ded_sub _ _).subset hx)]
theorem cell_kept {es : Rw} (h : Asc es) (p : Int) : cellR (keptR es) p = cellR es p := by
  cases es with
  | nil => rfl
  | cons e r =>
    unfold keptR
    rw [cell_cons, cell_cons]
    exact fold_ded (List.pairwise_cons.mp h).2
theorem cell_fst (es : Rw) (p : Int) : cellR (fstR es) p = cellR es p := by
  match es with
  | [] => rfl
  | [e] => show cellR [(0, e.2)] p = _; rw [cell_cons, cell_cons]
  | e :: f :: r => show cellR ((f.1 - 1, e.2) :: f :: r) p = _; rw [cell_cons, cell_cons]
theorem sort_asc {es : Rw} (h : (es.map (·.1)).Nodup) : Asc (sortP es) := by
  have hp := sortP_pw es
  have hn : ((sortP es).map (·.1)).Nodup := (((sortP_perm es).map _).nodup_iff).mpr h
  have hn2 : (sortP es).Pairwise fun a b => a.1 ≠ b.1 := by
    unfold List.Nodup at hn
    rwa [List.pairwise_map] at hn
  refine (hp.and hn2).imp fun {a b} ⟨h1, h2⟩ => ?_
  unfold leP at h1
  omega
theorem cell_least {es : Rw} (h : (es.map (·.1)).Nodup) (p : Int) : cellR (leastR es) p = cellR (sortP es) p := by
  unfold leastR
  rw [cell_fst, cell_kept (sort_asc h)]
theorem fst_asc {es : Rw} (h : Asc es) : Asc (fstR es) := by
  match es, h with
  | [], h => exact h
  | [e], _ => exact List.pairwise_singleton _ _
  | e :: f :: r, h =>
    obtain ⟨h1, h2⟩ := List.pairwise_cons.mp h
    obtain ⟨h3, h4⟩ := List.pairwise_cons.mp h2
    refine List.pairwise_cons.mpr ⟨fun x hx => ?_, h2⟩
    rcases List.mem_cons.mp hx with rfl | hx
    · show x.1 - 1 < x.1; omega
    · have := h3 x hx; show f.1 - 1 < x.1; omega
theorem least_asc {es : Rw} (h : (es.map (·.1)).Nodup) : Asc (leastR es) := fst_asc ((sort_asc h).sublist (kept_sub _))
theorem least_ne {es : Rw} (h : es ≠ []) : leastR es ≠ [] := by
  have : sortP es ≠ [] := fun e => h (by have := (sortP_perm es).length_eq; rw [e] at this; exact List.eq_nil_of_length_eq_zero this.symm)
  unfold leastR
  cases hs : sortP es with
  | nil => exact absurd hs this
  | cons e r =>
    show fstR (e :: dedR e.2 r) ≠ []
    cases dedR e.2 r <;> simp [fstR]
end C
/-! MS: states: rows, __init__, arrays, terms. -/
namespace C
open PySem L2 PD
variable {QG : Kd → D → Prop}
def rwD (es : Rw) : D := .lst (es.map prD)
end C
/-! MT: State: __init__, arrays. -/
namespace C
open PySem L2 PD
variable {QG : Kd → D → Prop}
abbrev Sd := List (Str × Int)
abbrev Ad := List (Str × Rw)
def stD (ps qs : Sd) (rs : Ad) : D := .ins 20 [("spots", dcS .int ps), ("amounts", dcS .int qs), ("rows", dcS rwD rs)]
theorem it_dcS {α : Type} {g : α → D} {ps : List (Str × α)} : itemsD (dcS g ps) = some ((ps.map (·.1)).map .str) := by
  show some ((ps.map fun p => (Sum.inr p.1, g p.2)).map fun kv => kD kv.1) = _
  rw [List.map_map, List.map_map]
  rfl
theorem g_inDc {n : Bool} {α : Type} {g : α → D} {ps : List (Str × α)} {k : Str} : wG (inN n (.str k) (dcS g ps)) QG = QG .sh (.bl (if n then !(lookS ps k).isSome else (lookS ps k).isSome)) := by
  show wG (eqb n (lookD (ps.map fun p => (Sum.inr p.1, g p.2)) (.inr k)).isSome) QG = _
  rw [look_dcS, Option.isSome_map]
  exact wG_some
theorem g_dictDc {α : Type} {g : α → D} {ps : List (Str × α)} : wG (dictD (dcS g ps)) QG = QG .nw (dcS g ps) := wG_some
theorem lk_spots {b c d : D} : List.lookup (Str.ofString "spots") ([("spots", b), ("amounts", c), ("rows", d)] : List (Str × D)) = some b := by
  rw [List.lookup_cons, show (Str.ofString "spots" == Str.ofString "spots") = true by decide +kernel]
theorem lk_amounts {b c d : D} : List.lookup (Str.ofString "amounts") ([("spots", b), ("amounts", c), ("rows", d)] : List (Str × D)) = some c := by
  rw [List.lookup_cons, show (Str.ofString "amounts" == Str.ofString "spots") = false by decide +kernel]
  show List.lookup _ _ = _
  rw [List.lookup_cons, show (Str.ofString "amounts" == Str.ofString "amounts") = true by decide +kernel]
theorem lk_rows {b c d : D} : List.lookup (Str.ofString "rows") ([("spots", b), ("amounts", c), ("rows", d)] : List (Str × D)) = some d := by
  rw [List.lookup_cons, show (Str.ofString "rows" == Str.ofString "spots") = false by decide +kernel]
  show List.lookup _ _ = _
  rw [List.lookup_cons, show (Str.ofString "rows" == Str.ofString "amounts") = false by decide +kernel]
  show List.lookup _ _ = _
  rw [List.lookup_cons, show (Str.ofString "rows" == Str.ofString "rows") = true by decide +kernel]
/-- the rows that a state keeps -/
def rowsOf (as : Ad) : Ad := (sortS (as.map (·.1))).map fun n => (n, leastR ((lookS as n).getD []))
structure ArOk (as : Ad) : Prop where
  len : as.length < 64
  nd : (as.map (·.1)).Nodup
  nm : ∀ p ∈ as, Nm p.1
  ne : ∀ p ∈ as, p.2 ≠ []
  rl : ∀ p ∈ as, p.2.length ≤ 1000
  rn : ∀ p ∈ as, (p.2.map (·.1)).Nodup
theorem sortS_mem {ss : List Str} {s : Str} : s ∈ sortS ss ↔ s ∈ ss := (sortS_perm ss).mem_iff
/-! ### dict comprehensions -/
theorem lookS_eq {α : Type} : ∀ {ps : List (Str × α)} {p : Str × α}, (ps.map (·.1)).Nodup → p ∈ ps → lookS ps p.1 = some p.2
  | q :: r, p, hn, h => by
    rw [List.map_cons, List.nodup_cons] at hn
    unfold lookS
    rw [List.find?_cons]
    rcases List.mem_cons.mp h with rfl | h
    · rw [decide_eq_true rfl]; rfl
    · have : decide (q.1 = p.1) = false := decide_eq_false fun e => hn.1 (e ▸ List.mem_map.mpr ⟨p, h, rfl⟩)
      rw [this]
      exact lookS_eq hn.2 h
theorem putD_new {α : Type} {h : α → D} {A : List (Str × α)} {k : Str} {d : D} (hk : k ∉ A.map (·.1)) : PD.putD (A.map fun p => (.inr p.1, h p.2)) (.inr k) d = (A.map fun p => (.inr p.1, h p.2)) ++ [(.inr k, d)] := by
  unfold PD.putD
  rw [if_neg]
  intro z
  obtain ⟨p, hp, e⟩ := List.any_eq_true.mp z
  obtain ⟨q, hq, rfl⟩ := List.mem_map.mp hp
  have e : (Sum.inr q.1 : Key) = .inr k := of_decide_eq_true e
  exact hk (Sum.inr.inj e ▸ List.mem_map.mpr ⟨q, hq, rfl⟩)
theorem dc_map {α β : Type} {i : Nat} {fk fe : En → Option R} {en : En} {c : α → D} {key : α → Str} {h : β → D} {g : α → β} : ∀ (ys : List α) (A : List (Str × β)), (A.map (·.1) ++ ys.map key).Nodup → (∀ y ∈ ys, wR (fk (en.set i (some (.sh (c y))))) (fun r => ∃ k, r = .val k (.str (key y))) ∧ wR (fe (en.set i (some (.sh (c y))))) fun r => ∃ k, r = .val k (h (g y)) ∧ k ≠ .bo) →
    dcIf (hName i) fYes fk fe en (ys.map c) (A.map fun p => (.inr p.1, h p.2)) = some ((A ++ ys.map fun y => (key y, g y)).map fun p => (.inr p.1, h p.2))
  | [], A, _, _ => by simp [dcIf]
  | y :: r, A, hn, hy => by
    obtain ⟨⟨r1, e1, k1, rfl⟩, r2, e2, k2, rfl, hb⟩ := hy y List.mem_cons_self
    have hk : key y ∉ A.map (·.1) := fun m => by
      rw [List.nodup_append] at hn
      exact hn.2.2 _ m _ (by simp) rfl
    have ih := dc_map (en := en) (c := c) (fk := fk) (fe := fe) (key := key) (h := h) (g := g) r (A ++ [(key y, g y)]) (by rw [List.map_append]; simpa using hn) fun z hz => hy z (List.mem_cons_of_mem _ hz)
    have es : shr (some (R.val k2 (h (g y)))) = some (.val .sh (h (g y))) := by cases k2 <;> first | rfl | exact absurd rfl hb
    simp only [List.map_cons, dcIf, hName, fYes, e1, e2, es, keyD, putD_new hk]
    rw [List.map_append] at ih
    rw [show (A.map fun p => ((.inr p.1 : Key), h p.2)) ++ [(.inr (key y), h (g y))] = (A.map fun p => ((.inr p.1 : Key), h p.2)) ++ [(key y, g y)].map (fun p => ((.inr p.1 : Key), h p.2)) from rfl, ih]
    simp
theorem arrays_spec (ps qs : Sd) (rs : Ad) (hn : (rs.map (·.1)).Nodup) (hl : rs.length < 64) : wR (F_State_arrays [stD ps qs rs]) fun r => r = .val .nw (dcS rwD rs) := by
  rw [F_State_arrays, w_run, b_State_arrays]
  dsimp! only [k12, eq_self, stD, lk_rows, it_dcS]
  refine ⟨by omega, ?_⟩
  have hd := dc_map (i := 1) (fk := fVar 1) (fe := fUn listD (fOp ixD (fUn (fldD 20 "rows") (fVar 0)) (fVar 1))) (en := [some (.sh (stD ps qs rs)), none]) (c := D.str) (key := id) (h := rwD) (g := fun n => (lookS rs n).getD []) (rs.map (·.1)) [] (by simpa using hn) fun n hm => by
    obtain ⟨es, hes⟩ := lookS_of hm
    refine ⟨by dsimp! only [k13, eq_self]; exact ⟨_, rfl⟩, ?_⟩
    dsimp! only [k13, eq_self, stD, lk_rows, g_ixDc, hes, rwD]
    exact ⟨_, rfl, by simp⟩
  simp only [List.map_nil, stD] at hd
  rw [hd]
  have e : ((rs.map (·.1)).map fun n => (id n, (lookS rs n).getD [])) = rs := by
    rw [List.map_map]
    refine (List.map_congr_left fun p hp => ?_).trans (List.map_id rs)
    show (p.1, (lookS rs p.1).getD []) = p
    rw [lookS_eq hn hp]
    rfl
  rw [List.nil_append, e]
  dsimp! only [k13, eq_self]
  rfl
end C
/-! MU: places and values in a state. -/
namespace C
open PySem L2 PD
variable {QG : Kd → D → Prop}
/-- the place that a term names -/
def ptV (ps : Sd) (p : Str × Int) : Int := if p.1 = "" then p.2 else (lookS ps p.1).getD 0 + p.2
def tmV (ps qs : Sd) (as : Ad) : Tm → Int
  | .pt p => ptV qs p
  | .el a p k => cellR (sortP ((lookS as a).getD [])) (ptV ps p) + k
def Kn {α : Type} (ps : List (Str × α)) (n : Str) : Prop := ∃ v, lookS ps n = some v
theorem place_of_spec (ps qs : Sd) (rs : Ad) (p : Str × Int) (h : p.1 = "" ∨ Kn ps p.1) : wR (F_State_place_of [stD ps qs rs, ptD p]) fun r => r = .val .sh (.int (ptV ps p)) := by
  rw [F_State_place_of, w_run, b_State_place_of]
  unfold ptV
  dsimp! only [k12, eq_self, stD, ptD, lk_spots, g_inDc]
  split
  · rfl
  · rename_i h0
    obtain ⟨v, hv⟩ := h.resolve_left h0
    dsimp! only [k13, eq_self, hv, Option.isSome_some, Bool.not_true, g_ixDc, Option.getD_some]
    rw [if_neg h0]
theorem cell_at_spec (es : Rw) (p : Int) (h : es ≠ []) (ha : Asc es) : wR (F_cell_at [rwD es, .int p]) fun r => r = .val .sh (.int (cellR es p)) := by
  rw [F_cell_at, w_run, b_cell_at]
  unfold rwD
  cases es with
  | nil => exact absurd rfl h
  | cons e t =>
    have a0 : atI ((e :: t).map prD) 0 = some (prD e) := by rw [atI_0]; rfl
    rw [cellR]
    generalize e :: t = es at *
    dsimp! only [k12, eq_self, a0]
    dsimp! only [k13, eq_self, prD, atI_1]
    refine forD_inv _ (fun k en => ∃ o3 o4, en = [some (Sl.sh (D.lst (es.map prD))), some (Sl.sh (D.int p)), some (Sl.sh (D.int ((es.take k).foldl (cellF p) e.2))), o3, o4]) _ ⟨none, none, rfl⟩ ?_ ?_
    · rintro k d en hd ⟨o3, o4, rfl⟩
      rw [List.getElem?_map] at hd
      obtain ⟨f, hf, rfl⟩ := Option.map_eq_some_iff.mp hd
      refine ⟨_, rfl, ?_⟩
      have ht : (es.take (k + 1)).foldl (cellF p) e.2 = cellF p ((es.take k).foldl (cellF p) e.2) f := by
        rw [List.take_succ, hf, List.foldl_append]; rfl
      have hkl := (List.getElem?_eq_some_iff.mp hf).1
      have hdr : es.drop k = f :: es.drop (k + 1) := by
        rw [List.drop_eq_getElem_cons hkl]
        rw [List.getElem?_eq_getElem hkl] at hf
        cases hf; rfl
      have hfold : es.foldl (cellF p) e.2 = (es.drop k).foldl (cellF p) ((es.take k).foldl (cellF p) e.2) := by
        rw [← List.foldl_append, List.take_append_drop]
      have hpw : Asc (es.drop k) := List.Pairwise.sublist (List.drop_sublist _ _) ha
      dsimp! only [k13, eq_self, prD]
      split
      · rename_i hgt
        have hgt : f.1 > p := by simpa using hgt
        rw [hdr] at hpw hfold
        have := (List.pairwise_cons.mp hpw).1
        have hq : es.foldl (cellF p) e.2 = (es.take k).foldl (cellF p) e.2 := hfold.trans (fold_gt fun x hx => by
          rcases List.mem_cons.mp hx with rfl | hx
          · exact hgt
          · have := this x hx; omega)
        rw [hq]
      · rename_i hgt
        rw [ht]
        unfold cellF
        rw [if_pos (by simpa using hgt)]
        exact ⟨_, _, rfl⟩
    · rintro en ⟨o3, o4, rfl⟩
      rw [List.length_map, List.take_length]
      dsimp! only [k13, eq_self]
theorem take_putS {α β : Type} {f : Str → β} {as : List (Str × α)} {k : Nat} {n : Str} (hn : (as.map (·.1)).Nodup) (hk : (as.map (·.1))[k]? = some n) : C.putS (((as.map (·.1)).take k).map fun n => (n, f n)) n (f n) = ((as.map (·.1)).take (k + 1)).map fun n => (n, f n) := by
  generalize as.map (·.1) = ss at *
  unfold C.putS
  rw [if_neg, List.take_succ, hk, List.map_append]
  · rfl
  · intro h
    obtain ⟨p, hp, e⟩ := List.any_eq_true.mp h
    obtain ⟨m, hm, rfl⟩ := List.mem_map.mp hp
    have e : m = n := of_decide_eq_true e
    subst e
    obtain ⟨j, hj⟩ := List.getElem?_of_mem hm
    rw [List.getElem?_take] at hj
    split at hj
    · rename_i hjk
      exact absurd ((List.getElem?_inj (List.getElem?_eq_some_iff.mp hj).1 hn).mp (hj.trans hk.symm)) (by omega)
    · cases hj
theorem map_look {α β : Type} {g : α → β} {as : List (Str × α)} {z : α} (hn : (as.map (·.1)).Nodup) : ((as.map (·.1)).map fun n => (n, g ((lookS as n).getD z))) = as.map fun p => (p.1, g p.2) := by
  rw [List.map_map]
  refine List.map_congr_left fun p hp => ?_
  show (p.1, g ((lookS as p.1).getD z)) = _
  rw [lookS_eq hn hp]
  rfl
def scPs (a b : Int) (ps : Sd) : Sd := ps.map fun p => (p.1, p.2 * a + b)
def scRw (s : Sc) (es : Rw) : Rw := es.map fun e => (e.1 * s.a + s.b, e.2 * s.c + s.d)
def scAs (s : Sc) (as : Ad) : Ad := as.map fun p => (p.1, scRw s p.2)
/-- parts of a state, small -/
structure Pz (ps qs : Sd) (as : Ad) : Prop where
  pn : (ps.map (·.1)).Nodup
  qn : (qs.map (·.1)).Nodup
  an : (as.map (·.1)).Nodup
  pl : ps.length ≤ 10
  ql : qs.length ≤ 10
  al : as.length ≤ 10
  pv : ∀ p ∈ ps, Nm p.1 ∧ -4 ≤ p.2 ∧ p.2 ≤ 6
  qv : ∀ p ∈ qs, Nm p.1 ∧ -100 ≤ p.2 ∧ p.2 ≤ 100
  av : ∀ p ∈ as, Nm p.1 ∧ p.2 ≠ [] ∧ p.2.length ≤ 20 ∧ (p.2.map (·.1)).Nodup ∧ ∀ e ∈ p.2, (-10 ≤ e.1 ∧ e.1 ≤ 12) ∧ -100 ≤ e.2 ∧ e.2 ≤ 100
theorem Parts.z {ps qs : Sd} {as : Ad} (h : Parts ps qs as) : Pz ps qs as :=
  ⟨h.pn, h.qn, h.an, by have := h.pl; omega, by have := h.ql; omega, by have := h.al; omega, fun p hp => ⟨(h.pv p hp).1, by have := (h.pv p hp).2; omega, by have := (h.pv p hp).2; omega⟩,
    fun p hp => ⟨(h.qv p hp).1, by have := (h.qv p hp).2; omega, by have := (h.qv p hp).2; omega⟩,
    fun p hp => ⟨(h.av p hp).1, (h.av p hp).2.1, by have := (h.av p hp).2.2.1; omega, (h.av p hp).2.2.2.1, fun e he => by have := (h.av p hp).2.2.2.2 e he; omega⟩⟩
theorem lk_no {m : Str} {b c d : D} (h1 : (m == Str.ofString "spots") = false) (h2 : (m == Str.ofString "amounts") = false) (h3 : (m == Str.ofString "rows") = false) : List.lookup m ([("spots", b), ("amounts", c), ("rows", d)] : List (Str × D)) = none := by
  rw [List.lookup_cons, h1]
  show List.lookup _ _ = _
  rw [List.lookup_cons, h2]
  show List.lookup _ _ = _
  rw [List.lookup_cons, h3]
  rfl
theorem look_rows {as : Ad} {a : Str} {es : Rw} (hn : (as.map (·.1)).Nodup) (h : lookS as a = some es) : lookS (rowsOf as) a = some (leastR es) := by
  have hm : a ∈ sortS (as.map (·.1)) := sortS_mem.mpr (List.mem_map.mpr ⟨(a, es), lookS_mem h, rfl⟩)
  have hk : (rowsOf as).map (·.1) = sortS (as.map (·.1)) := by
    unfold rowsOf
    rw [List.map_map]
    exact List.map_id _
  have := lookS_eq (ps := rowsOf as) (p := (a, leastR ((lookS as a).getD []))) (by rw [hk]; exact (sortS_perm _).nodup_iff.mpr hn) (List.mem_map.mpr ⟨a, hm, rfl⟩)
  rw [h] at this
  exact this
def tmIn (ps qs : Sd) (as : Ad) : Tm → Prop
  | .pt p => p.1 = "" ∨ Kn qs p.1
  | .el a p _ => (∃ es, lookS as a = some es ∧ es ≠ [] ∧ (es.map (·.1)).Nodup) ∧ (p.1 = "" ∨ Kn ps p.1)
theorem value_of_spec (ps qs : Sd) (as : Ad) (hn : (as.map (·.1)).Nodup) : ∀ t : Tm, tmIn ps qs as t → wR (F_State_value_of [stD ps qs (rowsOf as), t.D]) fun r => r = .val .sh (.int (tmV ps qs as t))
  | .pt p, h => by
    rw [F_State_value_of, w_run, b_State_value_of]
    unfold tmV ptV
    dsimp! only [k12, eq_self, stD, Tm.D, ptD, g_lenT, c2_3, lk_amounts, g_inDc, List.length_cons, List.length_nil]
    split
    · rfl
    · rename_i h0
      obtain ⟨v, hv⟩ := h.resolve_left h0
      dsimp! only [k13, eq_self, hv, Option.isSome_some, Bool.not_true, g_ixDc, Option.getD_some]
      rw [if_neg h0]
  | .el a p k, ⟨⟨es, he, h0, h1⟩, hp⟩ => by
    rw [F_State_value_of, w_run, b_State_value_of]
    unfold tmV
    have hl := look_rows hn he
    dsimp! only [k12, eq_self, stD, Tm.D, g_lenT, lk_rows, g_inDc, hl, Option.isSome_some, Bool.not_true, g_ixDc]
    rw [if_pos (show ((3 : Nat) : Int) = 3 from rfl)]
    refine ⟨by rw [lk_no (by decide +kernel) (by decide +kernel) (by decide +kernel)]; rfl, ?_⟩
    refine (place_of_spec ps qs _ p hp).mono ?_
    rintro r rfl
    dsimp! only [k13, eq_self]
    refine (cell_at_spec (leastR es) _ (least_ne h0) (least_asc h1)).mono ?_
    rintro r rfl
    dsimp! only [k13, eq_self, cell_least h1, he, Option.getD_some]
end C
/-! MV: the parts of statements, their names, what a state knows. -/
namespace C
open PySem L2 PD
variable {QG : Kd → D → Prop}
def nonN : D → Bool
  | .non => false
  | _ => true
theorem g_notK {t : Nat × D} (h : KOk t) : wG (notND t.2 .non) QG = QG .sh (.bl (nonN t.2)) := by
  rcases h with ⟨h1, p, hp, h2⟩ | ⟨h1, m, hm, h2⟩ | ⟨h1, s, hs, h2⟩ | ⟨h1, e, he, h2⟩ | ⟨h1, k, h2⟩ <;> rw [h2]
  · exact wG_some
  · cases m <;> exact wG_some
  · exact wG_some
  · cases e <;> exact wG_some
  · exact wG_some
theorem lc_filterG {α : Type} {tg : D → En → Option En} {tt : En → Option RB} {fe : En → Option R} {en : En} {c g : α → D} (p : α → Bool) : ∀ (ys : List α), (∀ y ∈ ys, ∃ en1, tg (c y) en = some en1 ∧ wB (tt en1) (fun r => r = .b (p y)) ∧ (p y = true → wR (fe en1) fun r => ∃ k, r = .val k (g y) ∧ k ≠ .bo)) →
    tgIf tg tt fe en (ys.map c) = some ((ys.filter p).map g)
  | [], _ => rfl
  | y :: r, h => by
    obtain ⟨en1, e0, ⟨b, e1, rfl⟩, h2⟩ := h y List.mem_cons_self
    have ih := lc_filterG (tg := tg) (tt := tt) (fe := fe) (en := en) (c := c) (g := g) p r fun z hz => h z (List.mem_cons_of_mem _ hz)
    rw [List.map_cons, List.filter_cons]
    unfold tgIf
    simp only [e0, e1]
    cases hp : p y with
    | false => simpa using ih
    | true =>
      obtain ⟨x, e, k, rfl, hk⟩ := h2 hp
      simp only [e]
      cases k with
      | sh => simp only [shr, ih]; rfl
      | nw => simp only [shr, ih]; rfl
      | bo => exact absurd rfl hk
theorem g_inCh {c : Nat} {z : Str} : wG (inD (.str ⟨#[c]⟩) (.str z)) QG = QG .sh (.bl (decide (c ∈ z.cps.toList))) := wG_some
def partsK (y : Sy) (ks : Str) : List D := ((kinds y).filter fun t => decide (t.1 ∈ ks.cps.toList) && nonN t.2).map (·.2)
theorem parts_of_spec (y : Sy) (h : y.Ok VN BB) (ks : Str) : wR (F_parts_of [y.D, .str ks]) fun r => r = .val .nw (.lst (partsK y ks)) := by
  have hk := kinds_ok y h
  have hl := kinds_len y
  rw [F_parts_of, w_run, b_parts_of, DS_eq]
  have gt : ∀ {QG : Kd → D → Prop}, wG (tabD t_FORMS (.str (nmS y))) QG = QG .sh (.str (fmS y)) := by
    intro QG
    show wG ((t_FORMS.lookup (nmS y)).map fun v => (Kd.sh, D.str v)) QG = _
    rw [lookS_fm]
    exact wG_some
  dsimp! only [k16, eq_self, gt, g_slTail, zipS_fm]
  refine ⟨by omega, ?_⟩
  rw [lc_filterG (fun t : Nat × D => decide (t.1 ∈ ks.cps.toList) && nonN t.2) (g := fun t : Nat × D => t.2) (kinds y) fun t ht => by
    refine ⟨_, rfl, ?_, fun _ => ?_⟩
    · dsimp! only [k13, eq_self, g_inCh, g_notK (hk t ht)]
      split
      · rename_i hc; rw [decide_eq_true hc]; rfl
      · rename_i hc; rw [decide_eq_false hc]; rfl
    · dsimp! only [k13, eq_self]
      exact ⟨_, rfl, by simp⟩]
  dsimp! only [k13, eq_self]
  rfl
def aT : Sy → List Str
  | .place _ _ => []
  | .value _ _ => []
  | .rising a _ _ => [a]
  | .low a _ _ _ => [a]
  | .high a _ _ _ => [a]
  | .below a _ _ b _ _ _ => [a, b]
  | .same a b _ _ _ => [a, b]
theorem non_pt {p : Str × Int} : nonN (ptD p) = true := rfl
theorem non_str {s : Str} : nonN (.str s) = true := rfl
theorem non_non : nonN .non = false := rfl
theorem ch_a : (Str.ofString "a").cps.toList = [97] := by decide +kernel
theorem parts_a (y : Sy) : partsK y (Str.ofString "a") = (aT y).map D.str := by
  unfold partsK
  rw [ch_a]
  cases y <;> simp [kinds, aT, List.filter_cons, non_str]
structure Nd (m : List Str) (P : List Str) : Prop where
  nd : P.Nodup
  sub : ∀ p ∈ P, p ∈ m
end C
/-! MW: what statements say, plainly: samples of places, scaling. -/
namespace C
open PySem L2 PD
theorem cell_congr : ∀ {r : Rw} {v p q : Int}, (∀ e ∈ r, (e.1 ≤ p ↔ e.1 ≤ q)) → r.foldl (cellF p) v = r.foldl (cellF q) v
  | [], _, _, _, _ => rfl
  | e :: r, v, p, q, h => by
    rw [List.foldl_cons, List.foldl_cons]
    have : cellF p v e = cellF q v e := by
      unfold cellF
      by_cases h1 : e.1 ≤ p
      · rw [if_pos h1, if_pos ((h e List.mem_cons_self).mp h1)]
      · rw [if_neg h1, if_neg fun z => h1 ((h e List.mem_cons_self).mpr z)]
    rw [this]
    exact cell_congr fun x hx => h x (List.mem_cons_of_mem _ hx)
theorem cellR_congr {es : Rw} {p q : Int} (h : ∀ e ∈ es.tail, (e.1 ≤ p ↔ e.1 ≤ q)) : cellR es p = cellR es q := by
  cases es with
  | nil => rfl
  | cons e r => rw [cell_cons, cell_cons]; exact cell_congr h
theorem tail_gt {es : Rw} (h : Asc es) {m : Int} (hm : ∀ e ∈ es, m ≤ e.1) : ∀ e ∈ es.tail, m < e.1 := by
  cases es with
  | nil => intro e he; cases he
  | cons e r =>
    intro f hf
    have h1 := (List.pairwise_cons.mp h).1 f hf
    have := hm e List.mem_cons_self
    omega
/-- the last spot that is at most x, or the first one -/
def spot (S : List Int) (x : Int) : Int := cellR (S.map fun s => (s, s)) x
theorem fold_char {x : Int} : ∀ {r : List Int} {v : Int}, r.Pairwise (· < ·) → ((r.map fun s => (s, s)).foldl (cellF x) v = v ∧ ∀ s ∈ r, x < s) ∨ ((r.map fun s => (s, s)).foldl (cellF x) v ∈ r ∧ (r.map fun s => (s, s)).foldl (cellF x) v ≤ x ∧ ∀ s ∈ r, s ≤ x → s ≤ (r.map fun s => (s, s)).foldl (cellF x) v)
  | [], v, _ => .inl ⟨rfl, by simp⟩
  | s :: r, v, h => by
    obtain ⟨h1, h2⟩ := List.pairwise_cons.mp h
    rw [List.map_cons, List.foldl_cons]
    by_cases hs : s ≤ x
    · have e : cellF x v (s, s) = s := by unfold cellF; rw [if_pos hs]
      rw [e]
      right
      rcases fold_char (r := r) (v := s) h2 with ⟨e1, g⟩ | ⟨m, l, g⟩
      · rw [e1]
        refine ⟨List.mem_cons_self, hs, fun t ht htx => ?_⟩
        rcases List.mem_cons.mp ht with rfl | ht
        · exact Int.le_refl _
        · have := g t ht; omega
      · refine ⟨List.mem_cons_of_mem _ m, l, fun t ht htx => ?_⟩
        rcases List.mem_cons.mp ht with rfl | ht
        · have := h1 _ m; omega
        · exact g t ht htx
    · left
      refine ⟨?_, fun t ht => ?_⟩
      · have e : cellF x v (s, s) = v := by unfold cellF; rw [if_neg hs]
        rw [e]
        refine fold_gt fun y hy => ?_
        obtain ⟨t, ht, rfl⟩ := List.mem_map.mp hy
        have : s < t := h1 t ht
        show x < t
        omega
      · rcases List.mem_cons.mp ht with rfl | ht
        · omega
        · have : s < t := h1 t ht
          omega
theorem spot_char {S : List Int} (h : S.Pairwise (· < ·)) (hn : S ≠ []) (x : Int) : spot S x ∈ S ∧ ((spot S x ≤ x ∧ ∀ s ∈ S, s ≤ x → s ≤ spot S x) ∨ ((∀ s ∈ S, x < s) ∧ ∀ s ∈ S, spot S x ≤ s)) := by
  cases S with
  | nil => exact absurd rfl hn
  | cons s r =>
    obtain ⟨h1, h2⟩ := List.pairwise_cons.mp h
    unfold spot
    rw [List.map_cons, cell_cons]
    rcases fold_char (x := x) (r := r) (v := s) h2 with ⟨e1, g⟩ | ⟨m, l, g⟩
    · show (r.map fun s => (s, s)).foldl (cellF x) s ∈ s :: r ∧ _
      rw [show (r.map fun s => (s, s)).foldl (cellF x) ((s, s) : Int × Int).2 = s from e1]
      refine ⟨List.mem_cons_self, ?_⟩
      by_cases hs : s ≤ x
      · refine .inl ⟨hs, fun t ht htx => ?_⟩
        rcases List.mem_cons.mp ht with rfl | ht
        · exact Int.le_refl _
        · have := g t ht; omega
      · refine .inr ⟨fun t ht => ?_, fun t ht => ?_⟩
        · rcases List.mem_cons.mp ht with rfl | ht
          · omega
          · exact g t ht
        · rcases List.mem_cons.mp ht with rfl | ht
          · exact Int.le_refl _
          · have : s < t := h1 t ht
            omega
    · refine ⟨List.mem_cons_of_mem _ m, .inl ⟨l, fun t ht htx => ?_⟩⟩
      rcases List.mem_cons.mp ht with rfl | ht
      · have : t < _ := h1 _ m
        exact Int.le_of_lt this
      · exact g t ht htx
theorem spot_mono {S : List Int} (h : S.Pairwise (· < ·)) (hn : S ≠ []) {x y : Int} (l : x ≤ y) : spot S x ≤ spot S y := by
  obtain ⟨m1, c1⟩ := spot_char h hn x
  obtain ⟨m2, c2⟩ := spot_char h hn y
  rcases c2 with ⟨a, b⟩ | ⟨a, b⟩
  · rcases c1 with ⟨c, d⟩ | ⟨c, d⟩
    · exact b _ m1 (by omega)
    · exact d _ m2
  · rcases c1 with ⟨c, d⟩ | ⟨c, d⟩
    · have := a _ m1; omega
    · exact d _ m2
/-! ### what statements say -/
def av (as : Ad) (a : Str) (x : Int) : Int := cellR (sortP ((lookS as a).getD [])) x
def inS (ps : Sd) (e f : Option (Str × Int)) (x : Int) : Bool := (match e with
    | none => true
    | some t => decide (ptV ps t ≤ x)) && match f with
    | none => true
    | some t => decide (x ≤ ptV ps t)
theorem inS_iff {ps : Sd} {e f : Option (Str × Int)} {x : Int} : inS ps e f x = true ↔ (∀ t, e = some t → ptV ps t ≤ x) ∧ ∀ t, f = some t → x ≤ ptV ps t := by
  unfold inS
  cases e <;> cases f <;> simp
/-- .. at the places of a sample -/
def truS (ps qs : Sd) (as : Ad) (S : Int → Prop) : Sy → Prop
  | .place t u => ptV ps t ≤ ptV ps u
  | .value t u => tmV ps qs as t ≤ tmV ps qs as u
  | .rising a e f => ∀ i j, S i → S j → inS ps e f i = true → inS ps e f j = true → i ≤ j → av as a i ≤ av as a j
  | .low a e f t => ∀ i, S i → inS ps e f i = true → tmV ps qs as t ≤ av as a i
  | .high a e f t => ∀ i, S i → inS ps e f i = true → av as a i ≤ tmV ps qs as t
  | .below a e f b g h k => ∀ i j, S i → S j → inS ps e f i = true → inS ps g h j = true → av as a i + k ≤ av as b j
  | .same a b e f k => ∀ i, S i → inS ps e f i = true → av as a i + k = av as b i
def truY (ps qs : Sd) (as : Ad) (y : Sy) : Prop := truS ps qs as (fun _ => True) y
/-- the stretches of a statement -/
def stT : Sy → List (Option (Str × Int) × Option (Str × Int))
  | .place _ _ => []
  | .value _ _ => []
  | .rising _ e f => [(e, f)]
  | .low _ e f _ => [(e, f)]
  | .high _ e f _ => [(e, f)]
  | .below _ e f _ g h _ => [(e, f), (g, h)]
  | .same _ _ e f _ => [(e, f)]
structure Smp (ps : Sd) (as : Ad) (y : Sy) (S : Int → Prop) (g : Int → Int) : Prop where
  s : ∀ x, S (g x)
  mono : ∀ x z, x ≤ z → g x ≤ g z
  av : ∀ a ∈ aT y, ∀ x, C.av as a (g x) = C.av as a x
  st : ∀ p ∈ stT y, ∀ x, inS ps p.1 p.2 x = true → inS ps p.1 p.2 (g x) = true
theorem tru_smp {ps qs : Sd} {as : Ad} {y : Sy} {S : Int → Prop} {g : Int → Int} (h : Smp ps as y S g) : truS ps qs as S y ↔ truY ps qs as y := by
  have s := h.s
  have m := h.mono
  have v := h.av
  have t := h.st
  cases y with
  | place t u => exact Iff.rfl
  | value t u => exact Iff.rfl
  | rising a e f =>
    refine ⟨fun H i j _ _ hi hj l => ?_, fun H i j _ _ => H i j trivial trivial⟩
    rw [← v a (by simp [aT]) i, ← v a (by simp [aT]) j]
    exact H _ _ (s i) (s j) (t (e, f) (by simp [stT]) i hi) (t (e, f) (by simp [stT]) j hj) (m _ _ l)
  | low a e f u =>
    refine ⟨fun H i _ hi => ?_, fun H i _ => H i trivial⟩
    rw [← v a (by simp [aT]) i]
    exact H _ (s i) (t (e, f) (by simp [stT]) i hi)
  | high a e f u =>
    refine ⟨fun H i _ hi => ?_, fun H i _ => H i trivial⟩
    rw [← v a (by simp [aT]) i]
    exact H _ (s i) (t (e, f) (by simp [stT]) i hi)
  | below a e f b p q k =>
    refine ⟨fun H i j _ _ hi hj => ?_, fun H i j _ _ => H i j trivial trivial⟩
    rw [← v a (by simp [aT]) i, ← v b (by simp [aT]) j]
    exact H _ _ (s i) (s j) (t (e, f) (by simp [stT]) i hi) (t (p, q) (by simp [stT]) j hj)
  | same a b e f k =>
    refine ⟨fun H i _ hi => ?_, fun H i _ => H i trivial⟩
    rw [← v a (by simp [aT]) i, ← v b (by simp [aT]) i]
    exact H _ (s i) (t (e, f) (by simp [stT]) i hi)
/-- the array is there -/
def arIn (as : Ad) (a : Str) : Prop := ∃ es, lookS as a = some es ∧ es ≠ [] ∧ (es.map (·.1)).Nodup
/-- a sample by spots -/
theorem smp_spots {ps : Sd} {as : Ad} {y : Sy} {S : List Int} (hS : S.Pairwise (· < ·)) (hn : S ≠ []) (ha : ∀ a ∈ aT y, arIn as a) (h1 : ∀ a ∈ aT y, ∀ e ∈ leastR ((lookS as a).getD []), e.1 ∈ S) (h2 : ∀ p ∈ stT y, (∀ t, p.1 = some t → ptV ps t ∈ S) ∧ ∀ t, p.2 = some t → ptV ps t ∈ S) : Smp ps as y (fun x => x ∈ S) (spot S) := by
  refine ⟨fun x => (spot_char hS hn x).1, fun x z l => spot_mono hS hn l, fun a haa x => ?_, fun p hp x hx => ?_⟩
  · obtain ⟨es, he, _, nd⟩ := ha a haa
    have h1 := h1 a haa
    unfold av
    rw [he] at h1 ⊢
    have h1 : ∀ e ∈ leastR es, e.1 ∈ S := h1
    show cellR (sortP es) _ = cellR (sortP es) _
    rw [← cell_least nd, ← cell_least nd]
    obtain ⟨m, c⟩ := spot_char hS hn x
    refine cellR_congr fun e hm => ?_
    have hmem := h1 e (List.mem_of_mem_tail hm)
    rcases c with ⟨c, d⟩ | ⟨c, d⟩
    · exact ⟨fun z => by omega, fun z => d _ hmem z⟩
    · have := tail_gt (least_asc nd) (fun f hf => d _ (h1 f hf)) e hm
      have := c _ hmem
      exact ⟨fun z => by omega, fun z => by omega⟩
  · obtain ⟨q1, q2⟩ := h2 p hp
    rw [inS_iff] at hx ⊢
    obtain ⟨m, c⟩ := spot_char hS hn x
    refine ⟨fun t ht => ?_, fun t ht => ?_⟩
    · have a := hx.1 t ht
      rcases c with ⟨c, d⟩ | ⟨c, d⟩
      · exact d _ (q1 t ht) a
      · have := c _ (q1 t ht); omega
    · have a := hx.2 t ht
      rcases c with ⟨c, d⟩ | ⟨c, d⟩
      · omega
      · exact d _ (q2 t ht)
/-! ### scaling -/
theorem lookS_map {α β : Type} {g : α → β} : ∀ {ps : List (Str × α)} {k : Str}, lookS (ps.map fun p => (p.1, g p.2)) k = (lookS ps k).map g
  | [], _ => rfl
  | p :: r, k => by
    have ih := lookS_map (g := g) (ps := r) (k := k)
    unfold lookS at ih ⊢
    rw [List.map_cons, List.find?_cons, List.find?_cons]
    by_cases h : p.1 = k
    · rw [decide_eq_true h]; rfl
    · rw [decide_eq_false h]; exact ih
def ptIn (ps : Sd) (p : Str × Int) : Prop := p.1 = "" ∨ Kn ps p.1
def opIn (ps : Sd) : Option (Str × Int) → Prop
  | none => True
  | some p => ptIn ps p
/-- all names are known -/
def syIn (ps qs : Sd) (as : Ad) : Sy → Prop
  | .place t u => ptIn ps t ∧ ptIn ps u
  | .value t u => tmIn ps qs as t ∧ tmIn ps qs as u
  | .rising a e f => arIn as a ∧ opIn ps e ∧ opIn ps f
  | .low a e f t => arIn as a ∧ opIn ps e ∧ opIn ps f ∧ tmIn ps qs as t
  | .high a e f t => arIn as a ∧ opIn ps e ∧ opIn ps f ∧ tmIn ps qs as t
  | .below a e f b g h _ => arIn as a ∧ opIn ps e ∧ opIn ps f ∧ arIn as b ∧ opIn ps g ∧ opIn ps h
  | .same a b e f _ => arIn as a ∧ arIn as b ∧ opIn ps e ∧ opIn ps f
theorem ptV_sc {ps : Sd} {a b : Int} {p : Str × Int} (h : ptIn ps p) : ptV (scPs a b ps) (scPt a b p) = ptV ps p * a + b := by
  unfold ptV scPt
  by_cases h0 : p.1 = ""
  · rw [if_pos h0, if_pos h0, if_pos h0]
  · rw [if_neg h0, if_neg h0, if_neg h0]
    obtain ⟨v, hv⟩ := h.resolve_left h0
    unfold scPs
    rw [show lookS (ps.map fun p => (p.1, p.2 * a + b)) p.1 = _ from lookS_map (g := fun v : Int => v * a + b), hv]
    simp only [Option.map_some, Option.getD_some, Int.add_mul]
    omega
theorem sort_sc {s : Sc} {es : Rw} (h : (es.map (·.1)).Nodup) (ha : 1 ≤ s.a) : sortP (scRw s es) = scRw s (sortP es) := by
  have nd : ((scRw s es).map (·.1)).Nodup := by
    rw [scRw, List.map_map]
    unfold List.Nodup at h ⊢
    rw [List.pairwise_map] at h ⊢
    refine h.imp fun {x y} hab e => hab ?_
    have e : x.1 * s.a + s.b = y.1 * s.a + s.b := e
    exact Int.eq_of_mul_eq_mul_right (by omega) (show x.1 * s.a = y.1 * s.a by omega)
  have pw : Asc (scRw s (sortP es)) := by
    unfold Asc scRw
    refine List.pairwise_map.mpr ((sort_asc h).imp fun {x y} hxy => ?_)
    have := Int.mul_lt_mul_of_pos_right hxy (show 0 < s.a by omega)
    show x.1 * s.a + s.b < y.1 * s.a + s.b
    omega
  exact ((sortP_perm (scRw s es)).trans ((sortP_perm es).map _).symm).eq_of_pairwise (fun x y _ _ h1 h2 => absurd (show x.1 < y.1 from h1) (by have : y.1 < x.1 := h2; omega)) (sort_asc nd) pw
theorem fold_sc {s : Sc} {X : Int} (ha : 1 ≤ s.a) : ∀ {r : Rw} {v : Int}, (scRw s r).foldl (cellF X) (v * s.c + s.d) = r.foldl (cellF ((X - s.b) / s.a)) v * s.c + s.d
  | [], _ => rfl
  | e :: r, v => by
    show (scRw s r).foldl (cellF X) (cellF X (v * s.c + s.d) (e.1 * s.a + s.b, e.2 * s.c + s.d)) = r.foldl _ (cellF _ v e) * s.c + s.d
    have : cellF X (v * s.c + s.d) (e.1 * s.a + s.b, e.2 * s.c + s.d) = cellF ((X - s.b) / s.a) v e * s.c + s.d := by
      unfold cellF
      have q : e.1 * s.a + s.b ≤ X ↔ e.1 ≤ (X - s.b) / s.a := by
        rw [Int.le_ediv_iff_mul_le (by omega)]
        omega
      by_cases h : e.1 ≤ (X - s.b) / s.a
      · rw [if_pos h, if_pos (q.mpr h)]
      · rw [if_neg h, if_neg fun z => h (q.mp z)]
    rw [this]
    exact fold_sc ha
theorem cell_sc {s : Sc} {X : Int} {es : Rw} (ha : 1 ≤ s.a) (hn : es ≠ []) : cellR (scRw s es) X = cellR es ((X - s.b) / s.a) * s.c + s.d := by
  cases es with
  | nil => exact absurd rfl hn
  | cons e r =>
    show cellR ((e.1 * s.a + s.b, e.2 * s.c + s.d) :: scRw s r) X = _
    rw [cell_cons, cell_cons]
    exact fold_sc ha
theorem av_sc {s : Sc} {as : Ad} {a : Str} {X : Int} (h : arIn as a) (ha : 1 ≤ s.a) : av (scAs s as) a X = av as a ((X - s.b) / s.a) * s.c + s.d := by
  obtain ⟨es, he, hn, nd⟩ := h
  unfold av scAs
  rw [show lookS (as.map fun p => (p.1, scRw s p.2)) a = _ from lookS_map (g := scRw s), he]
  show cellR (sortP (scRw s es)) X = cellR (sortP es) _ * s.c + s.d
  rw [sort_sc nd ha]
  exact cell_sc ha fun e => hn (List.eq_nil_of_length_eq_zero (by rw [← (sortP_perm es).length_eq, e]; rfl))
theorem ed_sc {x a b : Int} (ha : 1 ≤ a) : (x * a + b - b) / a = x := by
  rw [show x * a + b - b = x * a by omega]
  exact Int.mul_ediv_cancel _ (by omega)
theorem tmV_sc {s : Sc} {ps qs : Sd} {as : Ad} (ha : 1 ≤ s.a) : ∀ t : Tm, tmIn ps qs as t → tmV (scPs s.a s.b ps) (scPs s.c s.d qs) (scAs s as) (scTm s t) = tmV ps qs as t * s.c + s.d
  | .pt p, h => ptV_sc h
  | .el a p k, ⟨h, hp⟩ => by
    show av (scAs s as) a (ptV (scPs s.a s.b ps) (scPt s.a s.b p)) + k * s.c = (av as a (ptV ps p) + k) * s.c + s.d
    rw [av_sc h ha, ptV_sc hp, ed_sc ha, Int.add_mul]
    omega
theorem le_sc {x y c d : Int} (hc : 1 ≤ c) : x * c + d ≤ y * c + d ↔ x ≤ y := by
  constructor
  · intro h
    exact Int.le_of_mul_le_mul_right (show x * c ≤ y * c by omega) (by omega)
  · intro h
    have := Int.mul_le_mul_of_nonneg_right h (show 0 ≤ c by omega)
    omega
theorem eq_sc {x y c d : Int} (hc : 1 ≤ c) : x * c + d = y * c + d ↔ x = y := by
  constructor
  · intro h
    exact Int.eq_of_mul_eq_mul_right (by omega) (show x * c = y * c by omega)
  · intro h
    rw [h]
theorem inS_up {ps : Sd} {a b x : Int} {e f : Option (Str × Int)} (ha : 1 ≤ a) (he : opIn ps e) (hf : opIn ps f) (h : inS ps e f x = true) : inS (scPs a b ps) (e.map (scPt a b)) (f.map (scPt a b)) (x * a + b) = true := by
  rw [inS_iff] at h ⊢
  refine ⟨fun t ht => ?_, fun t ht => ?_⟩
  · obtain ⟨p, rfl, rfl⟩ := Option.map_eq_some_iff.mp ht
    rw [ptV_sc he, le_sc ha]
    exact h.1 p rfl
  · obtain ⟨p, rfl, rfl⟩ := Option.map_eq_some_iff.mp ht
    rw [ptV_sc hf, le_sc ha]
    exact h.2 p rfl
theorem inS_dn {ps : Sd} {a b X : Int} {e f : Option (Str × Int)} (ha : 1 ≤ a) (he : opIn ps e) (hf : opIn ps f) (h : inS (scPs a b ps) (e.map (scPt a b)) (f.map (scPt a b)) X = true) : inS ps e f ((X - b) / a) = true := by
  rw [inS_iff] at h ⊢
  refine ⟨fun t ht => ?_, fun t ht => ?_⟩
  · subst ht
    have := h.1 _ rfl
    rw [ptV_sc he] at this
    rw [Int.le_ediv_iff_mul_le (by omega)]
    omega
  · subst ht
    have := h.2 _ rfl
    rw [ptV_sc hf] at this
    have h2 := Int.ediv_le_ediv (show 0 < a by omega) (show X - b ≤ ptV ps t * a by omega)
    rwa [Int.mul_ediv_cancel _ (by omega)] at h2
theorem tru_sc {s : Sc} {ps qs : Sd} {as : Ad} (y : Sy) (ha : 1 ≤ s.a) (hc : 1 ≤ s.c) (h : syIn ps qs as y) : truY (scPs s.a s.b ps) (scPs s.c s.d qs) (scAs s as) (scSy s y) ↔ truY ps qs as y := by
  have qm : ∀ {i j : Int}, i ≤ j → (i - s.b) / s.a ≤ (j - s.b) / s.a := fun {i j} l => Int.ediv_le_ediv (by omega) (by omega)
  have um : ∀ {i j : Int}, i ≤ j → i * s.a + s.b ≤ j * s.a + s.b := fun {i j} l => (le_sc ha).mpr l
  cases y with
  | place t u =>
    show ptV _ _ ≤ ptV _ _ ↔ ptV _ _ ≤ ptV _ _
    rw [ptV_sc h.1, ptV_sc h.2, le_sc ha]
  | value t u =>
    show tmV _ _ _ _ ≤ tmV _ _ _ _ ↔ tmV _ _ _ _ ≤ tmV _ _ _ _
    rw [tmV_sc ha _ h.1, tmV_sc ha _ h.2, le_sc hc]
  | rising a e f =>
    obtain ⟨h1, h2, h3⟩ := h
    refine ⟨fun H i j _ _ hi hj l => ?_, fun H i j _ _ hi hj l => ?_⟩
    · have := H _ _ trivial trivial (inS_up ha h2 h3 hi) (inS_up ha h2 h3 hj) (um l)
      rwa [av_sc h1 ha, av_sc h1 ha, ed_sc ha, ed_sc ha, le_sc hc] at this
    · rw [av_sc h1 ha, av_sc h1 ha, le_sc hc]
      exact H _ _ trivial trivial (inS_dn ha h2 h3 hi) (inS_dn ha h2 h3 hj) (qm l)
  | low a e f t =>
    obtain ⟨h1, h2, h3, h4⟩ := h
    refine ⟨fun H i _ hi => ?_, fun H i _ hi => ?_⟩
    · have := H _ trivial (inS_up ha h2 h3 hi)
      rwa [av_sc h1 ha, tmV_sc ha _ h4, ed_sc ha, le_sc hc] at this
    · rw [av_sc h1 ha, tmV_sc ha _ h4, le_sc hc]
      exact H _ trivial (inS_dn ha h2 h3 hi)
  | high a e f t =>
    obtain ⟨h1, h2, h3, h4⟩ := h
    refine ⟨fun H i _ hi => ?_, fun H i _ hi => ?_⟩
    · have := H _ trivial (inS_up ha h2 h3 hi)
      rwa [av_sc h1 ha, tmV_sc ha _ h4, ed_sc ha, le_sc hc] at this
    · rw [av_sc h1 ha, tmV_sc ha _ h4, le_sc hc]
      exact H _ trivial (inS_dn ha h2 h3 hi)
  | below a e f b p q k =>
    obtain ⟨h1, h2, h3, h4, h5, h6⟩ := h
    refine ⟨fun H i j _ _ hi hj => ?_, fun H i j _ _ hi hj => ?_⟩
    · have := H _ _ trivial trivial (inS_up ha h2 h3 hi) (inS_up ha h5 h6 hj)
      rw [av_sc h1 ha, av_sc h4 ha, ed_sc ha, ed_sc ha] at this
      rw [← le_sc (c := s.c) (d := s.d) hc, Int.add_mul]
      omega
    · have := H _ _ trivial trivial (inS_dn ha h2 h3 hi) (inS_dn ha h5 h6 hj)
      rw [← le_sc (c := s.c) (d := s.d) hc, Int.add_mul] at this
      rw [av_sc h1 ha, av_sc h4 ha]
      omega
  | same a b e f k =>
    obtain ⟨h1, h4, h2, h3⟩ := h
    refine ⟨fun H i _ hi => ?_, fun H i _ hi => ?_⟩
    · have := H _ trivial (inS_up ha h2 h3 hi)
      rw [av_sc h1 ha, av_sc h4 ha, ed_sc ha] at this
      rw [← eq_sc (c := s.c) (d := s.d) hc, Int.add_mul]
      omega
    · have := H _ trivial (inS_dn ha h2 h3 hi)
      rw [← eq_sc (c := s.c) (d := s.d) hc, Int.add_mul] at this
      rw [av_sc h1 ha, av_sc h4 ha]
      omega
end C
/-! MX: where a statement is false, is_true. -/
namespace C
open PySem L2 PD
variable {QG : Kd → D → Prop}
theorem forD_pre {α : Type} {tg : D → En → Option En} {F : En → Option Out} {QO : Out → Prop} {c : α → D} (I : List α → En → Prop) (ys : List α) (en : En) (h0 : I [] en)
    (hs : ∀ pre y post en, ys = pre ++ y :: post → I pre en → ∃ en1, tg (c y) en = some en1 ∧ wO (F en1) (onT QO (I (pre ++ [y])))) (hd : ∀ en, I ys en → QO (.nx en)) : wO (forD tg F (ys.map c) en) QO := by
  refine forD_inv _ (fun k en => I (ys.take k) en) en (by rw [List.take_zero]; exact h0) ?_ ?_
  · intro k d en hk hI
    rw [List.getElem?_map] at hk
    obtain ⟨y, hy, rfl⟩ := Option.map_eq_some_iff.mp hk
    have hkl := (List.getElem?_eq_some_iff.mp hy).1
    have e : ys = ys.take k ++ y :: ys.drop (k + 1) := by
      have hdr : ys.drop k = y :: ys.drop (k + 1) := by
        rw [List.drop_eq_getElem_cons hkl]
        rw [List.getElem?_eq_getElem hkl] at hy
        cases hy; rfl
      rw [← hdr, List.take_append_drop]
    have := hs (ys.take k) y (ys.drop (k + 1)) en e hI
    rw [List.take_succ, hy]
    exact this
  · intro en h
    rw [List.length_map, List.take_length] at h
    exact hd en h
/-! ### dicts by ints -/
def insI (acc : List Int) (k : Int) : List Int := if k ∈ acc then acc else acc ++ [k]
def itK (acc : List Int) : List (Key × D) := acc.map fun k => (.inl k, .bl true)
theorem putD_it {acc : List Int} {k : Int} : PD.putD (itK acc) (.inl k) (.bl true) = itK (insI acc k) := by
  unfold PD.putD insI itK
  have e1 : ((acc.map fun k => ((.inl k : Key), D.bl true)).any fun kv => decide (kv.1 = .inl k)) = decide (k ∈ acc) := by
    rw [List.any_map, Bool.eq_iff_iff, List.any_eq_true, decide_eq_true_iff]
    constructor
    · rintro ⟨x, hx, e⟩
      have e : (Sum.inl x : Key) = .inl k := of_decide_eq_true e
      cases e
      exact hx
    · exact fun h => ⟨k, h, decide_eq_true rfl⟩
  rw [e1]
  by_cases h : k ∈ acc
  · rw [if_pos (decide_eq_true h), if_pos h, List.map_map]
    refine List.map_congr_left fun p _ => ?_
    show (if (Sum.inl p : Key) = .inl k then ((Sum.inl p : Key), D.bl true) else (.inl p, .bl true)) = _
    split <;> rfl
  · rw [if_neg (by simpa using h), if_neg h, List.map_append]
    rfl
theorem insI_len {acc : List Int} {k : Int} : (insI acc k).length ≤ acc.length + 1 := by
  unfold insI
  split
  · omega
  · simp
theorem insF_len : ∀ (ks acc : List Int), (ks.foldl insI acc).length ≤ acc.length + ks.length
  | [], acc => Nat.le_refl _
  | k :: r, acc => by
    have := insF_len r (insI acc k)
    have := insI_len (acc := acc) (k := k)
    rw [List.foldl_cons, List.length_cons]
    omega
theorem insI_mem {acc : List Int} {k x : Int} : x ∈ insI acc k ↔ x ∈ acc ∨ x = k := by
  unfold insI
  split
  · rename_i h
    exact ⟨.inl, fun z => z.elim id fun e => e ▸ h⟩
  · simp
theorem insF_mem {x : Int} : ∀ (ks acc : List Int), x ∈ ks.foldl insI acc ↔ x ∈ acc ∨ x ∈ ks
  | [], acc => by simp
  | k :: r, acc => by
    rw [List.foldl_cons, insF_mem r, insI_mem, List.mem_cons, or_assoc]
theorem insI_nd {acc : List Int} {k : Int} (h : acc.Nodup) : (insI acc k).Nodup := by
  unfold insI
  split
  · exact h
  · rename_i hk
    rw [List.nodup_append]
    exact ⟨h, by simp, fun a ha b hb e => by rw [List.mem_singleton] at hb; subst hb; subst e; exact hk ha⟩
theorem insF_nd : ∀ (ks acc : List Int), acc.Nodup → (ks.foldl insI acc).Nodup
  | [], acc, h => h
  | k :: r, acc, h => insF_nd r _ (insI_nd h)
theorem put_it {acc : List Int} {k : Int} (h : acc.length < 16777216) : putO (.bl true) (.dct (itK acc)) (.int k) = some (.dct (itK (insI acc k))) := by
  show (if (itK acc).length < 16777216 then some (D.dct (PD.putD (itK acc) (.inl k) (.bl true))) else none) = _
  rw [if_pos (by unfold itK; rw [List.length_map]; exact h), putD_it]
theorem intsOf_it : ∀ acc : List Int, intsOfK (itK acc) = some acc
  | [] => rfl
  | k :: r => by
    show (intsOfK (itK r)).map (k :: ·) = _
    rw [intsOf_it r]
    rfl
theorem g_sortIt {acc : List Int} (h : acc.length < 64) : wG (sortD (.dct (itK acc))) QG = QG .nw (.lst ((sortI acc).map .int)) := by
  cases acc with
  | nil =>
    have e : sortD (.dct (itK [])) = some (.nw, .lst ((sortI []).map .int)) := by
      show some (Kd.nw, D.lst ((sortS []).map .str)) = _
      rw [show sortS [] = [] by simp [sortS], show sortI [] = [] by simp [sortI]]
      rfl
    rw [e]
    exact wG_some
  | cons k r =>
    show wG (match intsOfK (itK (k :: r)) with
      | some ks => if ks.length < 64 then some (Kd.nw, D.lst ((sortI ks).map .int)) else none
      | none => none) QG = _
    rw [intsOf_it]
    show wG (if (k :: r).length < 64 then _ else none) QG = _
    rw [if_pos h]
    exact wG_some
theorem dc_it {α : Type} {i : Nat} {fk fe : En → Option R} {en : En} {c : α → D} {key : α → Int} : ∀ (ys : List α) (acc : List Int), (∀ y ∈ ys, wR (fk (en.set i (some (.sh (c y))))) (fun r => ∃ k, r = .val k (.int (key y))) ∧ wR (fe (en.set i (some (.sh (c y))))) fun r => ∃ k, r = .val k (.bl true) ∧ k ≠ .bo) →
    dcIf (hName i) fYes fk fe en (ys.map c) (itK acc) = some (itK ((ys.map key).foldl insI acc))
  | [], acc, _ => rfl
  | y :: r, acc, h => by
    obtain ⟨⟨r1, e1, k1, rfl⟩, r2, e2, k2, rfl, hb⟩ := h y List.mem_cons_self
    have ih := dc_it (en := en) (c := c) (fk := fk) (fe := fe) (key := key) r (insI acc (key y)) fun z hz => h z (List.mem_cons_of_mem _ hz)
    have es : shr (some (R.val k2 (.bl true))) = some (.val .sh (.bl true)) := by cases k2 <;> first | rfl | exact absurd rfl hb
    simp only [List.map_cons, dcIf, hName, fYes, e1, e2, es, keyD, putD_it]
    exact ih
theorem sortI_lt {ns : List Int} (h : ns.Nodup) : (sortI ns).Pairwise (· < ·) := by
  have h1 := sortI_pw ns
  have h2 : (sortI ns).Nodup := (sortI_perm ns).nodup_iff.mpr h
  unfold List.Nodup at h2
  exact (h1.and h2).imp fun {a b} z => by have := z.1; have := z.2; omega
theorem sortI_mem {ns : List Int} {x : Int} : x ∈ sortI ns ↔ x ∈ ns := (sortI_perm ns).mem_iff
/-! ### spots -/
/-- the ends of a statement -/
def eT : Sy → List (Str × Int)
  | .place _ _ => []
  | .value _ _ => []
  | .rising _ e f => e.toList ++ f.toList
  | .low _ e f _ => e.toList ++ f.toList
  | .high _ e f _ => e.toList ++ f.toList
  | .below _ e f _ g h _ => e.toList ++ f.toList ++ (g.toList ++ h.toList)
  | .same _ _ e f _ => e.toList ++ f.toList
theorem ch_e : (Str.ofString "e").cps.toList = [101] := by decide +kernel
theorem parts_e (y : Sy) : partsK y (Str.ofString "e") = (eT y).map ptD := by
  unfold partsK
  rw [ch_e]
  cases y with
  | place t u => simp [kinds, eT, List.filter_cons]
  | value t u => simp [kinds, eT, List.filter_cons]
  | rising a e f => cases e <;> cases f <;> simp [kinds, eT, List.filter_cons, opD, non_pt, non_non]
  | low a e f t => cases e <;> cases f <;> simp [kinds, eT, List.filter_cons, opD, non_pt, non_non]
  | high a e f t => cases e <;> cases f <;> simp [kinds, eT, List.filter_cons, opD, non_pt, non_non]
  | below a e f b g h k => cases e <;> cases f <;> cases g <;> cases h <;> simp [kinds, eT, List.filter_cons, opD, non_pt, non_non]
  | same a b e f k => cases e <;> cases f <;> simp [kinds, eT, List.filter_cons, opD, non_pt, non_non]
def spK (ps : Sd) (rs : Ad) (y : Sy) : List Int := ((aT y).flatMap fun a => ((lookS rs a).getD []).map (·.1)).foldl insI (((eT y).map (ptV ps)).foldl insI [])
def spL (ps : Sd) (rs : Ad) (y : Sy) : List Int := sortI (spK ps rs y)
theorem foldl_flat {α β : Type} {f : β → α → β} {g : Str → List α} : ∀ (xs : List Str) (x : Str) (b : β), ((xs ++ [x]).flatMap g).foldl f b = (g x).foldl f ((xs.flatMap g).foldl f b) := by
  intro xs x b
  rw [List.flatMap_append, List.foldl_append]
  simp
theorem eT_len (y : Sy) : (eT y).length ≤ 4 := by
  have ol : ∀ e : Option (Str × Int), e.toList.length ≤ 1 := fun e => by cases e <;> simp
  cases y with
  | place t u => simp [eT]
  | value t u => simp [eT]
  | rising a e f => have := ol e; have := ol f; simp only [eT, List.length_append]; omega
  | low a e f t => have := ol e; have := ol f; simp only [eT, List.length_append]; omega
  | high a e f t => have := ol e; have := ol f; simp only [eT, List.length_append]; omega
  | below a e f b g h k => have := ol e; have := ol f; have := ol g; have := ol h; simp only [eT, List.length_append]; omega
  | same a b e f k => have := ol e; have := ol f; simp only [eT, List.length_append]; omega
theorem flatM_len {α β : Type} {g : β → List α} {n : Nat} : ∀ pre : List β, (∀ a ∈ pre, (g a).length ≤ n) → (pre.flatMap g).length ≤ pre.length * n
  | [], _ => by simp
  | a :: r, h => by
    have h1 := flatM_len r fun b hb => h b (List.mem_cons_of_mem _ hb)
    have h2 := h a List.mem_cons_self
    rw [List.flatMap_cons, List.length_append, List.length_cons, Nat.add_mul]
    omega
theorem aT_len (y : Sy) : (aT y).length ≤ 2 := by cases y <;> simp [aT]
theorem spots_of_spec (ps qs : Sd) (rs : Ad) (y : Sy) (ho : y.Ok VN BB) (hn : (rs.map (·.1)).Nodup) (hl : rs.length < 64) (he : ∀ p ∈ eT y, ptIn ps p) (ha : ∀ a ∈ aT y, ∃ es, lookS rs a = some es) (hk : (spK ps rs y).length < 64) (hr : ∀ p ∈ rs, p.2.length ≤ 1000) :
    wR (F_spots_of [y.D, stD ps qs rs]) fun r => r = .val .nw (.lst ((spL ps rs y).map .int)) := by
  have el := eT_len y
  have nd0 : ((eT y).map (ptV ps)).foldl insI [] = (((eT y).map (ptV ps)).foldl insI []) := rfl
  rw [F_spots_of, w_run, b_spots_of]
  dsimp! only [k12, eq_self, stD]
  refine (arrays_spec ps qs rs hn hl).mono ?_
  rintro r rfl
  dsimp! only [k13, eq_self]
  refine (parts_of_spec y ho _).mono ?_
  rintro r rfl
  dsimp! only [k13, eq_self, parts_e, List.length_map]
  refine ⟨by omega, ?_⟩
  have hd := dc_it (i := 6) (fk := fMeth 20 "place_of" 2 F_State_place_of (fVar 1) (fCons (fVar 6) fNil)) (fe := fC (.bl true)) (en := [some (.sh y.D), some (.sh (stD ps qs rs)), some (.sh (dcS rwD rs)), none, none, none, none]) (c := ptD) (key := ptV ps) (eT y) [] fun p hp => by
    refine ⟨?_, by dsimp! only [k13, eq_self]; exact ⟨_, rfl, by simp⟩⟩
    dsimp! only [k13, eq_self, stD]
    refine ⟨by rw [lk_no (by decide +kernel) (by decide +kernel) (by decide +kernel)]; rfl, ?_⟩
    refine (place_of_spec ps qs rs p (he p hp)).mono ?_
    rintro r rfl
    exact ⟨_, rfl⟩
  simp only [stD, show itK [] = [] from rfl] at hd
  rw [hd]
  dsimp! only [k13, eq_self]
  refine (parts_of_spec y ho _).mono ?_
  rintro r rfl
  dsimp! only [k13, eq_self, parts_a]
  have bl := insF_len ((eT y).map (ptV ps)) []
  rw [List.length_map, List.length_nil] at bl
  refine forD_pre (fun pre en => ∃ o4 o5 : Option Sl, en = [some (.sh y.D), some (.sh (stD ps qs rs)), some (.sh (dcS rwD rs)), some (.ow (.dct (itK ((pre.flatMap fun a => ((lookS rs a).getD []).map (·.1)).foldl insI (((eT y).map (ptV ps)).foldl insI []))))), o4, o5, none]) (aT y) _ ⟨none, none, rfl⟩ ?_ ?_
  · rintro pre a post en hy ⟨o4, o5, rfl⟩
    obtain ⟨es, hes⟩ := ha a (by rw [hy]; simp)
    have hel := hr _ (lookS_mem hes)
    have hel : es.length ≤ 1000 := hel
    refine ⟨_, rfl, ?_⟩
    rw [foldl_flat, hes]
    have bl2 := insF_len (pre.flatMap fun a => ((lookS rs a).getD []).map (·.1)) (((eT y).map (ptV ps)).foldl insI [])
    have bl3 : (pre.flatMap fun a => ((lookS rs a).getD []).map (·.1)).length ≤ 3000 := by
      have h1 := flatM_len (g := fun a => ((lookS rs a).getD []).map (·.1)) (n := 1000) pre fun b hb => by
        obtain ⟨fs, hfs⟩ := ha b (by rw [hy]; exact List.mem_append_left _ hb)
        show (((lookS rs b).getD []).map (·.1)).length ≤ 1000
        rw [hfs, List.length_map]
        exact hr _ (lookS_mem hfs)
      have h2 : pre.length ≤ 2 := by
        have := aT_len y
        rw [hy, List.length_append, List.length_cons] at this
        omega
      have := Nat.mul_le_mul_right 1000 h2
      omega
    generalize (pre.flatMap fun a => ((lookS rs a).getD []).map (·.1)).foldl insI (((eT y).map (ptV ps)).foldl insI []) = B at *
    dsimp! only [k13, eq_self, g_ixDc, hes, rwD]
    refine forD_pre (fun pre2 en => ∃ o5 : Option Sl, en = [some (.sh y.D), some (.sh (stD ps qs rs)), some (.sh (dcS rwD rs)), some (.ow (.dct (itK ((pre2.map (·.1)).foldl insI B)))), some (.sh (.str a)), o5, none]) es _ ⟨o5, rfl⟩ ?_ ?_
    · rintro pre2 e post2 en he ⟨o5, rfl⟩
      refine ⟨_, rfl, ?_⟩
      have l1 := insF_len (pre2.map (·.1)) B
      have l2 : (pre2.map fun x : Int × Int => x.1).length ≤ 1000 := by
        rw [List.length_map]
        rw [he, List.length_append] at hel
        omega
      dsimp! only [k14, eq_self, prD, put_it (show (List.foldl insI B (pre2.map (·.1))).length < 16777216 by omega)]
      refine ⟨some (.sh (prD e)), ?_⟩
      rw [List.map_append, List.foldl_append]
      rfl
    · rintro en ⟨o5, rfl⟩
      exact ⟨some (.sh (.str a)), o5, rfl⟩
  · rintro en ⟨o4, o5, rfl⟩
    dsimp! only [k13, eq_self]
    show wG (sortD (.dct (itK (spK ps rs y)))) _
    rw [g_sortIt hk]
    exact ⟨by simp, rfl⟩
def endV (ps : Sd) (e : Option (Str × Int)) (far : Int) : Int := match e with
    | none => far
    | some t => ptV ps t
theorem inS_end {ps : Sd} {e f : Option (Str × Int)} {s mi ma : Int} (h1 : mi ≤ s) (h2 : s ≤ ma) : inS ps e f s = (decide (endV ps e mi ≤ s) && decide (s ≤ endV ps f ma)) := by
  unfold inS endV
  cases e <;> cases f <;> simp [h1, h2]
theorem end_of_spec (ps qs : Sd) (rs : Ad) (e : Option (Str × Int)) (far : Int) (h : opIn ps e) : wR (F_end_of [stD ps qs rs, opD e, .int far]) fun r => r = .val .sh (.int (endV ps e far)) := by
  rw [F_end_of, w_run, b_end_of]
  unfold endV
  cases e with
  | none => dsimp! only [k12, eq_self, stD, opD, g_isN]
  | some t =>
    dsimp! only [k12, eq_self, stD, opD, ptD, g_isT]
    refine ⟨by rw [lk_no (by decide +kernel) (by decide +kernel) (by decide +kernel)]; rfl, ?_⟩
    refine (place_of_spec ps qs rs t h).mono ?_
    rintro r rfl
    dsimp! only [k13, eq_self]
theorem mnI_some {S : List Int} (h : S ≠ []) : ∃ m, mnI S = some m ∧ m ∈ S ∧ ∀ y ∈ S, m ≤ y := by
  cases S with
  | nil => exact absurd rfl h
  | cons a r => exact ⟨_, rfl, mn_spec rfl⟩
theorem mxI_some {S : List Int} (h : S ≠ []) : ∃ m, mxI S = some m ∧ m ∈ S ∧ ∀ y ∈ S, y ≤ m := by
  cases S with
  | nil => exact absurd rfl h
  | cons a r => exact ⟨_, rfl, mx_spec rfl⟩
theorem g_minL {S : List Int} {m : Int} (h : mnI S = some m) : wG (minLD (.lst (S.map .int))) QG = QG .sh (.int m) := by
  show wG (match intsOf (S.map .int) with
    | some ns => (mnI ns).map fun m => (Kd.sh, D.int m)
    | none => none) QG = _
  rw [intsOf_map]
  show wG ((mnI S).map fun m => (Kd.sh, D.int m)) QG = _
  rw [h]
  exact wG_some
theorem g_maxL {S : List Int} {m : Int} (h : mxI S = some m) : wG (maxLD (.lst (S.map .int))) QG = QG .sh (.int m) := by
  show wG (match intsOf (S.map .int) with
    | some ns => (mxI ns).map fun m => (Kd.sh, D.int m)
    | none => none) QG = _
  rw [intsOf_map]
  show wG ((mxI S).map fun m => (Kd.sh, D.int m)) QG = _
  rw [h]
  exact wG_some
/-- the cells of an array on a stretch, at some spots -/
def cellsL (ps : Sd) (as : Ad) (S : List Int) (a : Str) (e f : Option (Str × Int)) : Rw := (S.filter (inS ps e f)).map fun s => (s, av as a s)
theorem cells_on_spec (ps qs : Sd) (as : Ad) (S : List Int) (a : Str) (e f : Option (Str × Int)) (hn : (as.map (·.1)).Nodup) (hl : as.length < 64) (hS : S ≠ []) (sl : S.length ≤ 1000) (ha : arIn as a) (he : opIn ps e) (hf : opIn ps f) :
    wR (F_cells_on [stD ps qs (rowsOf as), .str a, .lst (S.map .int), opD e, opD f]) fun r => r = .val .nw (rwD (cellsL ps as S a e f)) := by
  obtain ⟨es, hes, h0, nd⟩ := ha
  have hlr := look_rows hn hes
  have hrn : ((rowsOf as).map (·.1)).Nodup := by
    unfold rowsOf
    rw [List.map_map, show ((fun x : Str × Rw => x.1) ∘ fun n => (n, leastR ((lookS as n).getD []))) = id from rfl, List.map_id]
    exact (sortS_perm _).nodup_iff.mpr hn
  have hrl : (rowsOf as).length < 64 := by
    unfold rowsOf
    rw [List.length_map, (sortS_perm _).length_eq, List.length_map]
    exact hl
  obtain ⟨mi, e1, mi1, mi2⟩ := mnI_some hS
  obtain ⟨ma, e2, ma1, ma2⟩ := mxI_some hS
  rw [F_cells_on, w_run, b_cells_on]
  dsimp! only [k12, eq_self, stD]
  refine (arrays_spec ps qs (rowsOf as) hrn hrl).mono ?_
  rintro r rfl
  dsimp! only [k13, eq_self, g_ixDc, hlr, g_minL e1]
  refine (end_of_spec ps qs (rowsOf as) e mi he).mono ?_
  rintro r rfl
  dsimp! only [k13, eq_self, g_maxL e2]
  refine (end_of_spec ps qs (rowsOf as) f ma hf).mono ?_
  rintro r rfl
  dsimp! only [k13, eq_self]
  refine ⟨by omega, ?_⟩
  rw [lc_filter (c := D.int) (g := fun s => prD (s, av as a s)) (inS ps e f) S fun s hs => by
    rw [inS_end (mi2 s hs) (ma2 s hs)]
    refine ⟨?_, fun _ => ?_⟩
    · dsimp! only [k13, eq_self]
      by_cases h1 : endV ps e mi ≤ s
      · rw [decide_eq_true h1]; simp
      · rw [decide_eq_false h1]; simp
    · dsimp! only [k13, eq_self]
      refine (cell_at_spec (leastR es) s (least_ne h0) (least_asc nd)).mono ?_
      rintro r rfl
      dsimp! only [k13, eq_self, cell_least nd]
      refine ⟨.sh, ?_, by simp⟩
      unfold av
      rw [hes]
      rfl]
  dsimp! only [k13, eq_self]
  unfold rwD cellsL
  rw [List.map_map]
  rfl
/-! ### where a statement is false -/
def falseL (ps qs : Sd) (as : Ad) (S : List Int) : Sy → List D
  | .place _ _ => []
  | .value _ _ => []
  | .same a b e f k => ((S.filter (inS ps e f)).filter fun s => !decide (av as a s + k = av as b s)).map .int
  | .low a e f t => ((S.filter (inS ps e f)).filter fun s => decide (av as a s < tmV ps qs as t)).map .int
  | .high a e f t => ((S.filter (inS ps e f)).filter fun s => decide (av as a s > tmV ps qs as t)).map .int
  | .rising a e f => (S.filter (inS ps e f)).flatMap fun i => ((S.filter (inS ps e f)).filter fun j => decide (i < j) && decide (av as a i > av as a j)).map fun j => prD (i, j)
  | .below a e f b g h k => (S.filter (inS ps e f)).flatMap fun i => ((S.filter (inS ps g h)).filter fun j => decide (av as a i + k > av as b j)).map fun j => prD (i, j)
def isSt : Sy → Bool
  | .place _ _ => false
  | .value _ _ => false
  | _ => true
theorem flat_nil {α : Type} {xs : List Int} {p : Int → List Int} {q : Int → Int → Bool} {g : Int → Int → α} : (xs.flatMap fun i => ((p i).filter (q i)).map (g i)) = [] ↔ ∀ i ∈ xs, ∀ j ∈ p i, q i j = false := by
  rw [List.flatMap_eq_nil_iff]
  refine forall_congr' fun i => forall_congr' fun hi => ?_
  rw [List.map_eq_nil_iff, List.filter_eq_nil_iff]
  exact forall_congr' fun j => forall_congr' fun hj => by simp
theorem falseL_nil {ps qs : Sd} {as : Ad} {S : List Int} (y : Sy) (h : isSt y = true) : falseL ps qs as S y = [] ↔ truS ps qs as (fun x => x ∈ S) y := by
  cases y with
  | place t u => cases h
  | value t u => cases h
  | rising a e f =>
    unfold falseL truS
    rw [flat_nil]
    constructor
    · intro H i j hi hj si sj l
      have := H i (List.mem_filter.mpr ⟨hi, si⟩) j (List.mem_filter.mpr ⟨hj, sj⟩)
      by_cases e1 : i = j
      · rw [e1]; exact Int.le_refl _
      · rw [decide_eq_true (show i < j by omega), Bool.true_and] at this
        have := of_decide_eq_false this
        omega
    · intro H i hi j hj
      obtain ⟨m1, s1⟩ := List.mem_filter.mp hi
      obtain ⟨m2, s2⟩ := List.mem_filter.mp hj
      by_cases l : i < j
      · have := H i j m1 m2 s1 s2 (by omega)
        rw [decide_eq_false (show ¬ av as a i > av as a j by omega), Bool.and_false]
      · rw [decide_eq_false l, Bool.false_and]
  | low a e f t =>
    unfold falseL truS
    rw [List.map_eq_nil_iff, List.filter_eq_nil_iff]
    constructor
    · intro H i hi si
      have := H i (List.mem_filter.mpr ⟨hi, si⟩)
      rw [decide_eq_true_iff] at this
      omega
    · intro H i hi
      obtain ⟨m1, s1⟩ := List.mem_filter.mp hi
      have := H i m1 s1
      rw [decide_eq_true_iff]
      omega
  | high a e f t =>
    unfold falseL truS
    rw [List.map_eq_nil_iff, List.filter_eq_nil_iff]
    constructor
    · intro H i hi si
      have := H i (List.mem_filter.mpr ⟨hi, si⟩)
      rw [decide_eq_true_iff] at this
      omega
    · intro H i hi
      obtain ⟨m1, s1⟩ := List.mem_filter.mp hi
      have := H i m1 s1
      rw [decide_eq_true_iff]
      omega
  | below a e f b p q k =>
    unfold falseL truS
    rw [flat_nil]
    constructor
    · intro H i j hi hj si sj
      have := of_decide_eq_false (H i (List.mem_filter.mpr ⟨hi, si⟩) j (List.mem_filter.mpr ⟨hj, sj⟩))
      omega
    · intro H i hi j hj
      obtain ⟨m1, s1⟩ := List.mem_filter.mp hi
      obtain ⟨m2, s2⟩ := List.mem_filter.mp hj
      have := H i j m1 m2 s1 s2
      exact decide_eq_false (by omega)
  | same a b e f k =>
    unfold falseL truS
    rw [List.map_eq_nil_iff, List.filter_eq_nil_iff]
    constructor
    · intro H i hi si
      have := H i (List.mem_filter.mpr ⟨hi, si⟩)
      simpa using this
    · intro H i hi
      obtain ⟨m1, s1⟩ := List.mem_filter.mp hi
      have := H i m1 s1
      simpa using this
theorem lc2_filter {α β : Type} {tg tg1 : D → En → Option En} {it1 : En → Option RA} {tt1 : En → Option RB} {fe : En → Option R} {vs1 : List Nat} {en : En} {c : α → D} {c1 : β → D} {zs : List β} {p : α → β → Bool} {g : α → β → D} : ∀ (ys : List α), (∀ y ∈ ys, ∃ en1, tg (c y) en = some en1 ∧ it1 en1 = some (.vals (zs.map c1)) ∧ ∀ z ∈ zs, ∃ en2, tg1 (c1 z) (wipeE en1 vs1) = some en2 ∧ wB (tt1 en2) (fun r => r = .b (p y z)) ∧ (p y z = true → wR (fe en2) fun r => ∃ k, r = .val k (g y z) ∧ k ≠ .bo)) →
    tgIf2 tg fYes it1 tg1 tt1 fe vs1 en (ys.map c) = some (ys.flatMap fun y => (zs.filter (p y)).map (g y))
  | [], _ => rfl
  | y :: r, h => by
    obtain ⟨en1, e1, e2, h2⟩ := h y List.mem_cons_self
    have ih := lc2_filter (tg := tg) (it1 := it1) (tg1 := tg1) (tt1 := tt1) (fe := fe) (vs1 := vs1) (en := en) (c := c) (c1 := c1) (zs := zs) (p := p) (g := g) r fun z hz => h z (List.mem_cons_of_mem _ hz)
    have e3 := lc_filterG (tg := tg1) (tt := tt1) (fe := fe) (en := wipeE en1 vs1) (c := c1) (g := g y) (p y) zs h2
    rw [List.map_cons, List.flatMap_cons]
    unfold tgIf2
    simp only [e1, fYes, e2, e3, ih]
    rfl
theorem rows_nm (as : Ad) : (rowsOf as).map (·.1) = sortS (as.map (·.1)) := by
  unfold rowsOf
  rw [List.map_map]
  exact List.map_id _
theorem rows_nd {as : Ad} (hn : (as.map (·.1)).Nodup) : ((rowsOf as).map (·.1)).Nodup := by
  rw [rows_nm]
  exact (sortS_perm _).nodup_iff.mpr hn
theorem rows_len (as : Ad) : (rowsOf as).length = as.length := by
  unfold rowsOf
  rw [List.length_map, (sortS_perm _).length_eq, List.length_map]
theorem least_len (es : Rw) : (leastR es).length ≤ es.length := by
  have h1 : (leastR es).length = (keptR (sortP es)).length := by
    unfold leastR
    match keptR (sortP es) with
    | [] => rfl
    | [e] => rfl
    | e :: f :: r => rfl
  rw [h1, ← (sortP_perm es).length_eq]
  exact (kept_sub _).length_le
theorem rows_rl {as : Ad} {n : Nat} (hr : ∀ p ∈ as, p.2.length ≤ n) : ∀ p ∈ rowsOf as, p.2.length ≤ n := by
  intro p hp
  obtain ⟨m, hm, rfl⟩ := List.mem_map.mp hp
  obtain ⟨es, hes⟩ := lookS_of (sortS_mem.mp hm)
  show (leastR ((lookS as m).getD [])).length ≤ n
  rw [hes]
  exact Nat.le_trans (least_len es) (hr _ (lookS_mem hes))
/-- a state that can be judged -/
structure Jd (ps qs : Sd) (as : Ad) (y : Sy) : Prop where
  nd : (as.map (·.1)).Nodup
  al : as.length < 60
  rl : ∀ p ∈ as, p.2.length ≤ 1000
  ok : y.Ok VN BB
  si : syIn ps qs as y
  sk : (spK ps (rowsOf as) y).length < 64
theorem eT_in {ps qs : Sd} {as : Ad} {y : Sy} (h : syIn ps qs as y) : ∀ p ∈ eT y, ptIn ps p := by
  have ol : ∀ e : Option (Str × Int), opIn ps e → ∀ p ∈ e.toList, ptIn ps p := fun e h p hp => by
    cases e with
    | none => simp at hp
    | some q => rw [Option.toList_some, List.mem_singleton] at hp; subst hp; exact h
  intro p hp
  cases y with
  | place t u => simp [eT] at hp
  | value t u => simp [eT] at hp
  | rising a e f => rcases List.mem_append.mp hp with hp | hp <;> first | exact ol _ h.2.1 p hp | exact ol _ h.2.2 p hp
  | low a e f t => rcases List.mem_append.mp hp with hp | hp <;> first | exact ol _ h.2.1 p hp | exact ol _ h.2.2.1 p hp
  | high a e f t => rcases List.mem_append.mp hp with hp | hp <;> first | exact ol _ h.2.1 p hp | exact ol _ h.2.2.1 p hp
  | below a e f b g k m =>
    rcases List.mem_append.mp hp with hp | hp <;> rcases List.mem_append.mp hp with hp | hp
    all_goals first | exact ol _ h.2.1 p hp | exact ol _ h.2.2.1 p hp | exact ol _ h.2.2.2.2.1 p hp | exact ol _ h.2.2.2.2.2 p hp
  | same a b e f k => rcases List.mem_append.mp hp with hp | hp <;> first | exact ol _ h.2.2.1 p hp | exact ol _ h.2.2.2 p hp
theorem aT_in {ps qs : Sd} {as : Ad} {y : Sy} (h : syIn ps qs as y) : ∀ a ∈ aT y, arIn as a := by
  intro a ha
  cases y with
  | place t u => simp [aT] at ha
  | value t u => simp [aT] at ha
  | rising b e f => rw [aT, List.mem_singleton] at ha; subst ha; exact h.1
  | low b e f t => rw [aT, List.mem_singleton] at ha; subst ha; exact h.1
  | high b e f t => rw [aT, List.mem_singleton] at ha; subst ha; exact h.1
  | below b e f c g k m =>
    simp only [aT, List.mem_cons, List.not_mem_nil, or_false] at ha
    rcases ha with rfl | rfl
    all_goals first | exact h.1 | exact h.2.2.2.1
  | same b c e f k =>
    simp only [aT, List.mem_cons, List.not_mem_nil, or_false] at ha
    rcases ha with rfl | rfl
    all_goals first | exact h.1 | exact h.2.1
theorem ar_rows {as : Ad} {a : Str} (hn : (as.map (·.1)).Nodup) (h : arIn as a) : lookS (rowsOf as) a = some (leastR ((lookS as a).getD [])) := by
  obtain ⟨es, he, _⟩ := h
  rw [look_rows hn he, he]
  rfl
theorem spK_mem {ps : Sd} {rs : Ad} {y : Sy} {x : Int} : x ∈ spK ps rs y ↔ (∃ p ∈ eT y, ptV ps p = x) ∨ ∃ a ∈ aT y, ∃ e ∈ (lookS rs a).getD [], e.1 = x := by
  unfold spK
  rw [insF_mem, insF_mem]
  simp only [List.not_mem_nil, false_or, List.mem_map, List.mem_flatMap]
theorem spL_mem {ps : Sd} {rs : Ad} {y : Sy} {x : Int} : x ∈ spL ps rs y ↔ (∃ p ∈ eT y, ptV ps p = x) ∨ ∃ a ∈ aT y, ∃ e ∈ (lookS rs a).getD [], e.1 = x := by
  rw [spL, sortI_mem, spK_mem]
theorem spL_lt {ps : Sd} {rs : Ad} {y : Sy} : (spL ps rs y).Pairwise (· < ·) := sortI_lt (insF_nd _ _ (insF_nd _ _ List.nodup_nil))
theorem spL_ne {ps qs : Sd} {as : Ad} {y : Sy} (hn : (as.map (·.1)).Nodup) (h : syIn ps qs as y) (hs : isSt y = true) : spL ps (rowsOf as) y ≠ [] := by
  obtain ⟨a, ha⟩ : ∃ a, a ∈ aT y := by
    cases y with
    | place t u => cases hs
    | value t u => cases hs
    | rising a e f => exact ⟨a, by simp [aT]⟩
    | low a e f t => exact ⟨a, by simp [aT]⟩
    | high a e f t => exact ⟨a, by simp [aT]⟩
    | below a e f b g h k => exact ⟨a, by simp [aT]⟩
    | same a b e f k => exact ⟨a, by simp [aT]⟩
  have hin := aT_in h a ha
  have hr := ar_rows hn hin
  obtain ⟨es, he, h0, _⟩ := hin
  rw [he] at hr
  have hr : lookS (rowsOf as) a = some (leastR es) := hr
  obtain ⟨e, r, hl⟩ : ∃ e r, leastR es = e :: r := by
    cases hq : leastR es with
    | nil => exact absurd hq (least_ne h0)
    | cons e r => exact ⟨e, r, rfl⟩
  intro z
  have : e.1 ∈ spL ps (rowsOf as) y := spL_mem.mpr (.inr ⟨a, ha, e, by rw [hr, hl]; simp, rfl⟩)
  rw [z] at this
  cases this
theorem spL_smp {ps qs : Sd} {as : Ad} {y : Sy} (hn : (as.map (·.1)).Nodup) (h : syIn ps qs as y) (hs : isSt y = true) : Smp ps as y (fun x => x ∈ spL ps (rowsOf as) y) (spot (spL ps (rowsOf as) y)) := by
  refine smp_spots spL_lt (spL_ne hn h hs) (aT_in h) (fun a ha e he => ?_) fun p hp => ?_
  · refine spL_mem.mpr (.inr ⟨a, ha, e, ?_, rfl⟩)
    rw [ar_rows hn (aT_in h a ha)]
    exact he
  · have key : ∀ t, p.1 = some t ∨ p.2 = some t → t ∈ eT y := fun t ht => by
      cases y with
      | place t u => cases hs
      | value t u => cases hs
      | rising a e f => rw [stT, List.mem_singleton] at hp; subst hp; rcases ht with ht | ht <;> (simp only [] at ht; subst ht; simp [eT])
      | low a e f t => rw [stT, List.mem_singleton] at hp; subst hp; rcases ht with ht | ht <;> (simp only [] at ht; subst ht; simp [eT])
      | high a e f t => rw [stT, List.mem_singleton] at hp; subst hp; rcases ht with ht | ht <;> (simp only [] at ht; subst ht; simp [eT])
      | below a e f b g h k => simp only [stT, List.mem_cons, List.not_mem_nil, or_false] at hp; rcases hp with rfl | rfl <;> rcases ht with ht | ht <;> (simp only [] at ht; subst ht; simp [eT])
      | same a b e f k => rw [stT, List.mem_singleton] at hp; subst hp; rcases ht with ht | ht <;> (simp only [] at ht; subst ht; simp [eT])
    exact ⟨fun t ht => spL_mem.mpr (.inl ⟨t, key t (.inl ht), rfl⟩), fun t ht => spL_mem.mpr (.inl ⟨t, key t (.inr ht), rfl⟩)⟩
theorem flat_sq {α β : Type} {g : β → List α} {xs : List β} (h : xs.length < 64) (hg : ∀ i, (g i).length < 64) : (xs.flatMap g).length ≤ 16777216 := by
  have h1 := flatM_len (g := g) (n := 64) xs fun i _ => Nat.le_of_lt (hg i)
  have h2 := Nat.mul_le_mul_right 64 (Nat.le_of_lt h)
  omega
theorem zipW_map {α : Type} {f g : α → D} : ∀ ys : List α, zipW (ys.map f) (ys.map g) = ys.map fun y => .tup [f y, g y]
  | [] => rfl
  | y :: r => by
    show D.tup [f y, g y] :: zipW (r.map f) (r.map g) = _
    rw [zipW_map r]
    rfl
theorem false_places_spec (ps qs : Sd) (as : Ad) (y : Sy) (J : Jd ps qs as y) (hs : isSt y = true) : wR (F_false_places [y.D, stD ps qs (rowsOf as)]) fun r => r = .val .nw (.lst (falseL ps qs as (spL ps (rowsOf as) y) y)) := by
  have hal := J.al
  have sp := spots_of_spec ps qs (rowsOf as) y J.ok (rows_nd J.nd) (by rw [rows_len]; omega) (eT_in J.si) (fun a ha => ⟨_, ar_rows J.nd (aT_in J.si a ha)⟩) J.sk (rows_rl J.rl)
  have ne := spL_ne J.nd J.si hs
  have sl : (spL ps (rowsOf as) y).length < 64 := by rw [spL, (sortI_perm _).length_eq]; exact J.sk
  have nd := J.nd
  have si := J.si
  rw [F_false_places, w_run, b_false_places]
  generalize spL ps (rowsOf as) y = S at *
  have fl : ∀ e f, (S.filter (inS ps e f)).length < 64 := fun e f => Nat.lt_of_le_of_lt (List.length_filter_le _ _) sl
  cases y with
  | place t u => cases hs
  | value t u => cases hs
  | rising a e f =>
    have c := cells_on_spec ps qs as S a e f nd (by omega) ne (by omega) si.1 si.2.1 si.2.2
    simp only [Sy.D, stD] at sp c ⊢
    dsimp! only [k16, eq_self]
    refine sp.mono ?_
    rintro r rfl
    dsimp! only [k17, eq_self]
    refine c.mono ?_
    rintro r rfl
    dsimp! only [k17, eq_self, rwD, cellsL, List.map_map]
    have fl := fl e f
    rw [lc2_filter (c := prD ∘ fun s => (s, av as a s)) (c1 := prD ∘ fun s => (s, av as a s)) (zs := S.filter (inS ps e f)) (p := fun i j => decide (i < j) && decide (av as a i > av as a j)) (g := fun i j => prD (i, j)) (S.filter (inS ps e f)) fun i hi => ⟨_, rfl, rfl, fun j hj => ⟨_, rfl, by
      dsimp! only [k13, eq_self]
      by_cases h1 : i < j
      · rw [if_pos h1, decide_eq_true h1]; rfl
      · rw [if_neg h1, decide_eq_false h1]; rfl, fun _ => by
      dsimp! only [k13, eq_self]
      exact ⟨_, rfl, by simp⟩⟩⟩]
    rw [exO_some]
    exact ⟨flat_sq fl fun i => Nat.lt_of_le_of_lt (by rw [List.length_map]; exact List.length_filter_le _ _) fl, by simp, rfl⟩
  | low a e f t =>
    have c := cells_on_spec ps qs as S a e f nd (by omega) ne (by omega) si.1 si.2.1 si.2.2.1
    have fl := fl e f
    simp only [Sy.D, stD] at sp c ⊢
    dsimp! only [k16, eq_self]
    refine sp.mono ?_
    rintro r rfl
    dsimp! only [k17, eq_self]
    refine c.mono ?_
    rintro r rfl
    dsimp! only [k17, eq_self, rwD, cellsL, List.map_map, List.length_map]
    refine ⟨by omega, ?_⟩
    rw [lc_filterG (c := prD ∘ fun s => (s, av as a s)) (g := D.int) (fun i => decide (av as a i < tmV ps qs as t)) (S.filter (inS ps e f)) fun i hi => ⟨_, rfl, by
      dsimp! only [k14, eq_self]
      refine ⟨by rw [lk_no (by decide +kernel) (by decide +kernel) (by decide +kernel)]; rfl, ?_⟩
      refine (value_of_spec ps qs as nd t si.2.2.2).mono ?_
      rintro r rfl
      dsimp! only [k13, eq_self], fun _ => by
      dsimp! only [k13, eq_self]
      exact ⟨_, rfl, by simp⟩⟩]
    dsimp! only [k13, eq_self]
    rfl
  | high a e f t =>
    have c := cells_on_spec ps qs as S a e f nd (by omega) ne (by omega) si.1 si.2.1 si.2.2.1
    have fl := fl e f
    simp only [Sy.D, stD] at sp c ⊢
    dsimp! only [k16, eq_self]
    refine sp.mono ?_
    rintro r rfl
    dsimp! only [k17, eq_self]
    refine c.mono ?_
    rintro r rfl
    dsimp! only [k17, eq_self, rwD, cellsL, List.map_map, List.length_map]
    refine ⟨by omega, ?_⟩
    rw [lc_filterG (c := prD ∘ fun s => (s, av as a s)) (g := D.int) (fun i => decide (av as a i > tmV ps qs as t)) (S.filter (inS ps e f)) fun i hi => ⟨_, rfl, by
      dsimp! only [k14, eq_self]
      refine ⟨by rw [lk_no (by decide +kernel) (by decide +kernel) (by decide +kernel)]; rfl, ?_⟩
      refine (value_of_spec ps qs as nd t si.2.2.2).mono ?_
      rintro r rfl
      dsimp! only [k13, eq_self], fun _ => by
      dsimp! only [k13, eq_self]
      exact ⟨_, rfl, by simp⟩⟩]
    dsimp! only [k13, eq_self]
    rfl
  | below a e f b g h k =>
    have c := cells_on_spec ps qs as S a e f nd (by omega) ne (by omega) si.1 si.2.1 si.2.2.1
    have c2 := cells_on_spec ps qs as S b g h nd (by omega) ne (by omega) si.2.2.2.1 si.2.2.2.2.1 si.2.2.2.2.2
    have fl1 := fl e f
    have fl2 := fl g h
    simp only [Sy.D, stD] at sp c c2 ⊢
    dsimp! only [k16, eq_self]
    refine sp.mono ?_
    rintro r rfl
    dsimp! only [k17, eq_self]
    refine c.mono ?_
    rintro r rfl
    dsimp! only [k17, eq_self, rwD, cellsL, List.map_map, List.length_map]
    refine c2.mono ?_
    rintro r rfl
    dsimp! only [k17, eq_self, rwD, cellsL, List.map_map, List.length_map]
    rw [lc2_filter (c := prD ∘ fun s => (s, av as a s)) (c1 := prD ∘ fun s => (s, av as b s)) (zs := S.filter (inS ps g h)) (p := fun i j => decide (av as a i + k > av as b j)) (g := fun i j => prD (i, j)) (S.filter (inS ps e f)) fun i hi => ⟨_, rfl, rfl, fun j hj => ⟨_, rfl, by
      dsimp! only [k14, eq_self], fun _ => by
      dsimp! only [k13, eq_self]
      exact ⟨_, rfl, by simp⟩⟩⟩]
    rw [exO_some]
    exact ⟨flat_sq fl1 fun i => Nat.lt_of_le_of_lt (by rw [List.length_map]; exact List.length_filter_le _ _) fl2, by simp, rfl⟩
  | same a b e f k =>
    have c := cells_on_spec ps qs as S a e f nd (by omega) ne (by omega) si.1 si.2.2.1 si.2.2.2
    have c2 := cells_on_spec ps qs as S b e f nd (by omega) ne (by omega) si.2.1 si.2.2.1 si.2.2.2
    have fl1 := fl e f
    have g1 : ∀ {QG : Kd → D → Prop}, wG (slD (D.tup [D.str (Str.ofString "same"), D.str a, D.str b, opD e, opD f, D.int k]) (some 1) none) QG = QG .sh (.tup [.str a, .str b, opD e, opD f, .int k]) := wG_some
    simp only [Sy.D, stD] at sp c c2 ⊢
    dsimp! only [k16, eq_self]
    refine sp.mono ?_
    rintro r rfl
    dsimp! only [k17, eq_self, g1]
    refine c.mono ?_
    rintro r rfl
    dsimp! only [k17, eq_self]
    refine c2.mono ?_
    rintro r rfl
    have hz : zipD [rwD (cellsL ps as S a e f), rwD (cellsL ps as S b e f)] = some ((S.filter (inS ps e f)).map fun s => .tup [prD (s, av as a s), prD (s, av as b s)]) := by
      show some (zipW ((cellsL ps as S a e f).map prD) ((cellsL ps as S b e f).map prD)) = _
      unfold cellsL
      rw [List.map_map, List.map_map, zipW_map]
      rfl
    dsimp! only [k13, eq_self, hz, List.length_map]
    refine ⟨by omega, ?_⟩
    rw [lc_filterG (g := D.int) (fun s => !decide (av as a s + k = av as b s)) (S.filter (inS ps e f)) fun i hi => ⟨_, rfl, by
      dsimp! only [k14, eq_self, prD], fun _ => by
      dsimp! only [k14, eq_self, prD]
      exact ⟨_, rfl, by simp⟩⟩]
    dsimp! only [k13, eq_self]
    rfl
theorem falseL_ok {ps qs : Sd} {as : Ad} {S : List Int} {y : Sy} : ∀ d ∈ falseL ps qs as S y, okP 1 d := by
  have k1 : ∀ (xs : List Int) d, d ∈ xs.map D.int → okP 1 d := fun xs d hd => by
    obtain ⟨i, _, rfl⟩ := List.mem_map.mp hd
    exact ⟨.int i, by simp [toP], by simp [PyData.canLay0], by simp [PyData.depth]⟩
  have k2 : ∀ (xs : List Int) (g : Int → List Int) d, (d ∈ xs.flatMap fun i => (g i).map fun j => prD (i, j)) → okP 1 d := fun xs g d hd => by
    obtain ⟨i, _, hd⟩ := List.mem_flatMap.mp hd
    obtain ⟨j, _, rfl⟩ := List.mem_map.mp hd
    exact okP_prD (i, j)
  intro d hd
  cases y with
  | place t u => cases hd
  | value t u => cases hd
  | rising a e f => exact k2 _ _ d hd
  | low a e f t => exact k1 _ d hd
  | high a e f t => exact k1 _ d hd
  | below a e f b g h k => exact k2 _ _ d hd
  | same a b e f k => exact k1 _ d hd
theorem holds_in_spec (ps qs : Sd) (as : Ad) (y : Sy) (J : Jd ps qs as y) : wR (F_holds_in [y.D, stD ps qs (rowsOf as)]) fun r => ∃ b, r = .val .sh (.bl b) ∧ (b = true ↔ truY ps qs as y) := by
  have nd := J.nd
  have si := J.si
  have main : isSt y = true → wR (F_holds_in [y.D, stD ps qs (rowsOf as)]) fun r => ∃ b, r = .val .sh (.bl b) ∧ (b = true ↔ truY ps qs as y) := fun hs => by
    have fp := false_places_spec ps qs as y J hs
    have tr := (falseL_nil (ps := ps) (qs := qs) (as := as) (S := spL ps (rowsOf as) y) y hs).trans (tru_smp (spL_smp J.nd J.si hs))
    have g : ∀ {QG : Kd → D → Prop}, wG (eqD (.lst (falseL ps qs as (spL ps (rowsOf as) y) y)) (.lst [])) QG = QG .sh (.bl (decide (falseL ps qs as (spL ps (rowsOf as) y) y = []))) := fun {QG} => g_eqNil (n := false) (k := 1) (by decide) falseL_ok
    rw [F_holds_in, w_run, b_holds_in]
    generalize falseL ps qs as (spL ps (rowsOf as) y) y = L at *
    cases y with
    | place t u => cases hs
    | value t u => cases hs
    | _ =>
      simp only [stD, Sy.D] at fp ⊢
      dsimp! only [k18, eq_self]
      refine fp.mono ?_
      rintro r rfl
      dsimp! only [k13, eq_self, g]
      exact ⟨_, rfl, by rw [decide_eq_true_iff]; exact tr⟩
  cases y with
  | place t u =>
    rw [F_holds_in, w_run, b_holds_in]
    dsimp! only [k16, eq_self, stD, Sy.D]
    refine ⟨by rw [lk_no (by decide +kernel) (by decide +kernel) (by decide +kernel)]; rfl, ?_⟩
    refine (place_of_spec ps qs (rowsOf as) t si.1).mono ?_
    rintro r rfl
    dsimp! only [k14, eq_self]
    refine ⟨by rw [lk_no (by decide +kernel) (by decide +kernel) (by decide +kernel)]; rfl, ?_⟩
    refine (place_of_spec ps qs (rowsOf as) u si.2).mono ?_
    rintro r rfl
    dsimp! only [k13, eq_self]
    exact ⟨_, rfl, decide_eq_true_iff⟩
  | value t u =>
    rw [F_holds_in, w_run, b_holds_in]
    dsimp! only [k16, eq_self, stD, Sy.D]
    rw [if_neg (by decide +kernel)]
    refine ⟨by rw [lk_no (by decide +kernel) (by decide +kernel) (by decide +kernel)]; rfl, ?_⟩
    refine (value_of_spec ps qs as nd t si.1).mono ?_
    rintro r rfl
    dsimp! only [k14, eq_self]
    refine ⟨by rw [lk_no (by decide +kernel) (by decide +kernel) (by decide +kernel)]; rfl, ?_⟩
    refine (value_of_spec ps qs as nd u si.2).mono ?_
    rintro r rfl
    dsimp! only [k13, eq_self]
    exact ⟨_, rfl, decide_eq_true_iff⟩
  | _ => exact main rfl
end C
/-! MY: the law's own reading of statements: place, sum, cells, true. -/
namespace C
open PySem L2 PD
variable {QG : Kd → D → Prop}
/-! ### == over plain data without bools -/
inductive Nb : Nat → D → Prop
  | non {n} : Nb n .non
  | int {n} (i) : Nb n (.int i)
  | str {n} (x) : PyData.strOk x = true → Nb n (.str x)
  | lst {n ds} : (∀ d ∈ ds, Nb n d) → Nb (n + 1) (.lst ds)
  | tup {n ds} : (∀ d ∈ ds, Nb n d) → Nb (n + 1) (.tup ds)
theorem Nb.okP : ∀ {n : Nat} {d : D}, Nb n d → okP n d
  | _, _, .non => ⟨.none, by simp [toP], by simp [PyData.canLay0], by simp [PyData.depth]⟩
  | _, _, .int i => okP_int i
  | _, _, .str x h => ⟨.str x, by simp [toP], by simp [PyData.canLay0, h], by simp [PyData.depth]⟩
  | _, _, .lst h => okP_lst fun d hd => (h d hd).okP
  | _, _, .tup h => okP_tup fun d hd => (h d hd).okP
end C
/-! MZ: states made of scaled parts; statements judged in them. -/
namespace C
open PySem L2 PD
variable {QG : Kd → D → Prop}
/-- a state's parts, all names good -/
structure Kp (ps qs : Sd) (as : Ad) : Prop where
  pl : ps.length ≤ 10
  ql : qs.length ≤ 10
  al : as.length ≤ 10
  pn : ∀ p ∈ ps, Nm p.1
  qn : ∀ p ∈ qs, Nm p.1
  an : ∀ p ∈ as, Nm p.1
  nd : (as.map (·.1)).Nodup
  ro : ∀ p ∈ as, p.2 ≠ [] ∧ p.2.length ≤ 20 ∧ (p.2.map (·.1)).Nodup
theorem scRw_nd {s : Sc} {es : Rw} (ha : 1 ≤ s.a) (h : (es.map (·.1)).Nodup) : ((scRw s es).map (·.1)).Nodup := by
  rw [scRw, List.map_map]
  unfold List.Nodup at h ⊢
  rw [List.pairwise_map] at h ⊢
  refine h.imp fun {x y} hab e => hab ?_
  have e : x.1 * s.a + s.b = y.1 * s.a + s.b := e
  exact Int.eq_of_mul_eq_mul_right (by omega) (show x.1 * s.a = y.1 * s.a by omega)
theorem kp_of {ps qs : Sd} {as : Ad} {s : Sc} (P : Pz ps qs as) (hs : s.Ok) : Kp (scPs s.a s.b ps) (scPs s.c s.d qs) (scAs s as) := by
  have h1 := hs.a0
  refine ⟨by rw [scPs, List.length_map]; exact P.pl, by rw [scPs, List.length_map]; exact P.ql, by rw [scAs, List.length_map]; exact P.al, ?_, ?_, ?_, ?_, ?_⟩
  · intro p hp; obtain ⟨q, hq, rfl⟩ := List.mem_map.mp hp; exact (P.pv q hq).1
  · intro p hp; obtain ⟨q, hq, rfl⟩ := List.mem_map.mp hp; exact (P.qv q hq).1
  · intro p hp; obtain ⟨q, hq, rfl⟩ := List.mem_map.mp hp; exact (P.av q hq).1
  · rw [scAs, List.map_map]; exact P.an
  · intro p hp
    obtain ⟨q, hq, rfl⟩ := List.mem_map.mp hp
    obtain ⟨v1, v2, v3, v4, _⟩ := P.av q hq
    exact ⟨fun e => v2 (List.map_eq_nil_iff.mp e), by show (scRw s q.2).length ≤ 20; rw [scRw, List.length_map]; exact v3, scRw_nd h1 v4⟩
/-! ### names known -/
def VK (ps qs : Sd) (as : Ad) : Voc := ⟨fun s => s = "" ∨ Kn ps s, fun s => s = "" ∨ Kn qs s, fun a => Kn as a⟩
theorem vk_le {ps qs : Sd} {as : Ad} (P : Pz ps qs as) : (VK ps qs as).Le VN :=
  ⟨fun s h => h.imp id fun ⟨v, hv⟩ => (P.pv _ (lookS_mem hv)).1, fun s h => h.imp id fun ⟨v, hv⟩ => (P.qv _ (lookS_mem hv)).1, fun s ⟨v, hv⟩ => (P.av _ (lookS_mem hv)).1⟩
theorem ar_of {ps qs : Sd} {as : Ad} (P : Pz ps qs as) {a : Str} (h : Kn as a) : arIn as a := by
  obtain ⟨es, he⟩ := h
  obtain ⟨v1, v2, v3, v4, _⟩ := P.av _ (lookS_mem he)
  exact ⟨es, he, v2, v4⟩
theorem op_of {ps : Sd} {S : Str → Prop} {B : Int} (hS : ∀ s, S s → s = "" ∨ Kn ps s) {e : Option (Str × Int)} (h : opOk S B e) : opIn ps e := by
  cases e with
  | none => trivial
  | some p => exact hS _ h.1
theorem tm_of {ps qs : Sd} {as : Ad} {B : Int} (P : Pz ps qs as) {t : Tm} (h : t.Ok (VK ps qs as) B) : tmIn ps qs as t := by
  cases t with
  | pt p => exact h.1
  | el a p k => exact ⟨ar_of P h.1, h.2.1.1⟩
theorem sy_of {ps qs : Sd} {as : Ad} {B : Int} (P : Pz ps qs as) {y : Sy} (h : y.Ok (VK ps qs as) B) : syIn ps qs as y := by
  have oo : ∀ {e : Option (Str × Int)}, opOk (VK ps qs as).Sp B e → opIn ps e := fun h => op_of (fun _ h => h) h
  cases y with
  | place t u => exact ⟨h.1.1, h.2.1⟩
  | value t u => exact ⟨tm_of P h.1, tm_of P h.2⟩
  | rising a e f => exact ⟨ar_of P h.1, oo h.2.1, oo h.2.2⟩
  | low a e f t => exact ⟨ar_of P h.1, oo h.2.1, oo h.2.2.1, tm_of P h.2.2.2⟩
  | high a e f t => exact ⟨ar_of P h.1, oo h.2.1, oo h.2.2.1, tm_of P h.2.2.2⟩
  | below a e f b g i k => exact ⟨ar_of P h.1, oo h.2.1, oo h.2.2.1, ar_of P h.2.2.2.1, oo h.2.2.2.2.1, oo h.2.2.2.2.2.1⟩
  | same a b e f k => exact ⟨ar_of P h.1, ar_of P h.2.1, oo h.2.2.1, oo h.2.2.2.1⟩
theorem kn_sc {α β : Type} {ps : List (Str × α)} {g : α → β} {n : Str} (h : n = "" ∨ Kn ps n) : n = "" ∨ Kn (ps.map fun p => (p.1, g p.2)) n :=
  h.imp id fun ⟨v, hv⟩ => ⟨g v, by rw [lookS_map, hv]; rfl⟩
theorem ar_sc {s : Sc} {as : Ad} {a : Str} (ha : 1 ≤ s.a) (h : arIn as a) : arIn (scAs s as) a := by
  obtain ⟨es, he, h0, nd⟩ := h
  exact ⟨scRw s es, by unfold scAs; rw [show lookS (as.map fun p => (p.1, scRw s p.2)) a = _ from lookS_map (g := scRw s), he]; rfl, fun e => h0 (List.map_eq_nil_iff.mp e), scRw_nd ha nd⟩
theorem op_scI {a b : Int} {ps : Sd} {e : Option (Str × Int)} (h : opIn ps e) : opIn (scPs a b ps) (e.map (scPt a b)) := by
  cases e with
  | none => trivial
  | some p => exact kn_sc (g := fun v : Int => v * a + b) h
theorem tm_scI {s : Sc} {ps qs : Sd} {as : Ad} (ha : 1 ≤ s.a) {t : Tm} (h : tmIn ps qs as t) : tmIn (scPs s.a s.b ps) (scPs s.c s.d qs) (scAs s as) (scTm s t) := by
  cases t with
  | pt p => exact kn_sc (g := fun v : Int => v * s.c + s.d) h
  | el a p k => exact ⟨ar_sc ha h.1, kn_sc (g := fun v : Int => v * s.a + s.b) h.2⟩
theorem sy_scI {s : Sc} {ps qs : Sd} {as : Ad} (ha : 1 ≤ s.a) {y : Sy} (h : syIn ps qs as y) : syIn (scPs s.a s.b ps) (scPs s.c s.d qs) (scAs s as) (scSy s y) := by
  cases y with
  | place t u => exact ⟨op_scI (e := some t) h.1, op_scI (e := some u) h.2⟩
  | value t u => exact ⟨tm_scI ha h.1, tm_scI ha h.2⟩
  | rising a e f => exact ⟨ar_sc ha h.1, op_scI h.2.1, op_scI h.2.2⟩
  | low a e f t => exact ⟨ar_sc ha h.1, op_scI h.2.1, op_scI h.2.2.1, tm_scI ha h.2.2.2⟩
  | high a e f t => exact ⟨ar_sc ha h.1, op_scI h.2.1, op_scI h.2.2.1, tm_scI ha h.2.2.2⟩
  | below a e f b g i k => exact ⟨ar_sc ha h.1, op_scI h.2.1, op_scI h.2.2.1, ar_sc ha h.2.2.2.1, op_scI h.2.2.2.2.1, op_scI h.2.2.2.2.2⟩
  | same a b e f k => exact ⟨ar_sc ha h.1, ar_sc ha h.2.1, op_scI h.2.2.1, op_scI h.2.2.2⟩
theorem spK_len {ps : Sd} {rs : Ad} {y : Sy} {n : Nat} (hr : ∀ p ∈ rs, p.2.length ≤ n) : (spK ps rs y).length ≤ 4 + 2 * n := by
  have h1 := insF_len ((aT y).flatMap fun a => ((lookS rs a).getD []).map (·.1)) (((eT y).map (ptV ps)).foldl insI [])
  have h2 := insF_len ((eT y).map (ptV ps)) []
  have h3 := flatM_len (g := fun a => ((lookS rs a).getD []).map (·.1)) (n := n) (aT y) fun a _ => by
    rw [List.length_map]
    cases hl : lookS rs a with
    | none => simp
    | some es => exact hr _ (lookS_mem hl)
  have h4 := aT_len y
  have h5 := eT_len y
  have h6 := Nat.mul_le_mul_right n h4
  rw [List.length_map, List.length_nil] at h2
  unfold spK
  omega
theorem jd_of {ps qs : Sd} {as : Ad} (K : Kp ps qs as) {y : Sy} (ho : y.Ok VN BB) (h : syIn ps qs as y) : Jd ps qs as y :=
  ⟨K.nd, by have := K.al; omega, fun p hp => by have := (K.ro p hp).2.1; omega, ho, h, by have := spK_len (ps := ps) (rs := rowsOf as) (y := y) (rows_rl fun p hp => (K.ro p hp).2.1); omega⟩
open Classical in
/-- what a statement says of the parts of a state -/
noncomputable def truB (ps qs : Sd) (as : Ad) (y : Sy) : Bool := decide (truY ps qs as y)
theorem truB_iff {ps qs : Sd} {as : Ad} {y : Sy} : truB ps qs as y = true ↔ truY ps qs as y := @decide_eq_true_iff _ (Classical.propDecidable _)
theorem truB_of {ps qs : Sd} {as : Ad} {y : Sy} {b : Bool} (h : b = true ↔ truY ps qs as y) : b = truB ps qs as y := by
  rw [Bool.eq_iff_iff, h, truB_iff]
theorem jd_sc {ps qs : Sd} {as : Ad} {s : Sc} (P : Pz ps qs as) (hs : s.Ok) {y : Sy} (hy : y.Ok (VK ps qs as) 200) : Jd (scPs s.a s.b ps) (scPs s.c s.d qs) (scAs s as) (scSy s y) :=
  jd_of (kp_of P hs) (sy_sc hs (hy.mono (vk_le P) (Int.le_refl _))) (sy_scI hs.a0 (sy_of P hy))
theorem truB_sc {ps qs : Sd} {as : Ad} {s : Sc} (P : Pz ps qs as) (hs : s.Ok) {y : Sy} (hy : y.Ok (VK ps qs as) 200) : truB (scPs s.a s.b ps) (scPs s.c s.d qs) (scAs s as) (scSy s y) = truB ps qs as y :=
  truB_of (truB_iff.trans (tru_sc y hs.a0 hs.c0 (sy_of P hy)))
theorem holds_sc {ps qs : Sd} {as : Ad} {s : Sc} (P : Pz ps qs as) (hs : s.Ok) {y : Sy} (hy : y.Ok (VK ps qs as) 200) : wR (F_holds_in [(scSy s y).D, stD (scPs s.a s.b ps) (scPs s.c s.d qs) (rowsOf (scAs s as))]) fun r => r = .val .sh (.bl (truB ps qs as y)) := by
  refine (holds_in_spec _ _ _ _ (jd_sc P hs hy)).mono ?_
  rintro r ⟨b, rfl, h⟩
  rw [truB_of h, truB_sc P hs hy]
theorem same_ok {x : D} {n : Nat} (h : Pl n x) (hn : n ≤ 7) : wR (F_Lsame [x, x]) fun r => r = .val .sh (.bl true) := same_refl 7 x (h.up hn)
end C
/-! NA: leaning statements, varied states, first_false, all_true, strictest_state. -/
namespace C
open PySem L2 PD
variable {QG : Kd → D → Prop}
/-! ### parts as one thing -/
structure Pt where
  p : Sd
  q : Sd
  a : Ad
def Pt.D (t : Pt) : D := partsD t.p t.q t.a
def Pt.Z (t : Pt) : Prop := Pz t.p t.q t.a
def Pt.V (t : Pt) : Voc := VK t.p t.q t.a
/-- the same names -/
structure Pt.Al (t u : Pt) : Prop where
  p : u.p.map (·.1) = t.p.map (·.1)
  q : u.q.map (·.1) = t.q.map (·.1)
  a : u.a.map (·.1) = t.a.map (·.1)
theorem kn_of {α β : Type} {ps : List (Str × α)} {qs : List (Str × β)} (h : qs.map (·.1) = ps.map (·.1)) {n : Str} (k : Kn ps n) : Kn qs n := by
  obtain ⟨v, hv⟩ := k
  exact lookS_of (by rw [h]; exact List.mem_map.mpr ⟨(n, v), lookS_mem hv, rfl⟩)
theorem Pt.Al.le {t u : Pt} (h : t.Al u) : t.V.Le u.V := ⟨fun s k => k.imp id (kn_of h.p), fun s k => k.imp id (kn_of h.q), fun s k => kn_of h.a k⟩
theorem Pt.Al.symm {t u : Pt} (h : t.Al u) : u.Al t := ⟨h.p.symm, h.q.symm, h.a.symm⟩
theorem Pt.Al.refl (t : Pt) : t.Al t := ⟨rfl, rfl, rfl⟩
theorem Pt.Al.trans {t u v : Pt} (h : t.Al u) (k : u.Al v) : t.Al v := ⟨k.p.trans h.p, k.q.trans h.q, k.a.trans h.a⟩
noncomputable def Pt.tru (t : Pt) (y : Sy) : Bool := truB t.p t.q t.a y
def Pt.st (t : Pt) (s : Sc) : PD.D := stD (scPs s.a s.b t.p) (scPs s.c s.d t.q) (rowsOf (scAs s t.a))
theorem pt_holds {t : Pt} (h : t.Z) {s : Sc} (hs : s.Ok) {y : Sy} (hy : y.Ok t.V 200) : wR (F_holds_in [(scSy s y).D, t.st s]) fun r => r = .val .sh (.bl (t.tru y)) := holds_sc h hs hy
def okR (es : Rw) : Prop := es ≠ [] ∧ es.length ≤ 20 ∧ (es.map (·.1)).Nodup ∧ ∀ e ∈ es, (-10 ≤ e.1 ∧ e.1 ≤ 12) ∧ -100 ≤ e.2 ∧ e.2 ≤ 100
theorem okR.set {es : Rw} {m : Nat} {v : Int} (h : okR es) (hm : m < es.length) (h0 : 0 ≤ v) (h1 : v ≤ 100) : okR (es.set m (es[m].1, v)) := by
  obtain ⟨a1, a2, a3, a4⟩ := h
  refine ⟨fun e => a1 (List.eq_nil_of_length_eq_zero (by rw [← List.length_set (i := m) (a := (es[m].1, v)), e]; rfl)), by rw [List.length_set]; exact a2, ?_, fun e he => ?_⟩
  · rw [List.map_set]
    have : (es.map (·.1)).set m es[m].1 = es.map (·.1) := by
      apply List.ext_getElem?
      intro i
      rw [List.getElem?_set]
      split
      · rename_i hi
        subst hi
        rw [List.length_map, if_pos hm, List.getElem?_map, List.getElem?_eq_getElem hm]
        rfl
      · rfl
    rw [this]
    exact a3
  · rcases List.mem_or_eq_of_mem_set he with he | rfl
    · exact a4 e he
    · have := a4 _ (List.getElem_mem hm)
      show (-10 ≤ es[m].1 ∧ es[m].1 ≤ 12) ∧ -100 ≤ v ∧ v ≤ 100
      omega
end C
/-! NB: lending, loops with a count, plain statements. -/
namespace C
open PySem L2 PD
variable {QG : Kd → D → Prop}
theorem perm_10 {a b : D} : permD [1, 0] [a, b] = [b, a] := rfl
theorem pl_syD {n : Nat} (y : Sy) : Pl (n + 3) y.D := by
  have s : ∀ x, Pl (n + 2) (.str x) := fun x => .str x
  have i : ∀ x, Pl (n + 2) (.int x) := fun x => .int x
  have o : ∀ e, Pl (n + 2) (opD e) := fun e => (pl_op (n := n) e).up (by omega)
  have p : ∀ e, Pl (n + 2) (ptD e) := fun e => (pl_pt (n := n) e).up (by omega)
  have t : ∀ e : Tm, Pl (n + 2) e.D := fun e => pl_tm (n := n) e
  cases y <;> refine .tup (by simp) fun d hd => ?_ <;> simp only [List.mem_cons, List.not_mem_nil, or_false] at hd
  · rcases hd with rfl | rfl | rfl
    · exact s _
    · exact p _
    · exact p _
  · rcases hd with rfl | rfl | rfl
    · exact s _
    · exact t _
    · exact t _
  · rcases hd with rfl | rfl | rfl | rfl
    · exact s _
    · exact s _
    · exact o _
    · exact o _
  · rcases hd with rfl | rfl | rfl | rfl | rfl
    · exact s _
    · exact s _
    · exact o _
    · exact o _
    · exact t _
  · rcases hd with rfl | rfl | rfl | rfl | rfl
    · exact s _
    · exact s _
    · exact o _
    · exact o _
    · exact t _
  · rcases hd with rfl | rfl | rfl | rfl | rfl | rfl | rfl | rfl
    · exact s _
    · exact s _
    · exact o _
    · exact o _
    · exact s _
    · exact o _
    · exact o _
    · exact i _
  · rcases hd with rfl | rfl | rfl | rfl | rfl | rfl
    · exact s _
    · exact s _
    · exact s _
    · exact o _
    · exact o _
    · exact i _
theorem pl_sys {n : Nat} (ys : List Sy) (h : ys.length ≤ 1000) : Pl (n + 4) (.lst (ys.map Sy.D)) := .lst (by rw [List.length_map]; omega) fun d hd => by
  obtain ⟨y, _, rfl⟩ := List.mem_map.mp hd
  exact pl_syD y
end C
/-! NC: statements and states that were seen: fitting, strictest_state. -/
namespace C
open PySem L2 PD
variable {QG : Kd → D → Prop}
end C
/-! NN: any number of names, all different. -/
namespace C
open PySem L2 PD
variable {QG : Kd → D → Prop}
def limNm (m : Nat) : List Int := 4 :: (List.replicate m [6, 26, 26, 26, 26, 26, 26]).flatten
def enNm (m : Nat) (ns : List Int) (i : Nat) (A : Str) (ds : List Int) (ss : List Str) (k : Nat) (o7 o8 o9 o10 : Option Sl) : En := [some (Sl.sh (D.scr ns)), some (Sl.sh (D.int i)), some (Sl.sh (D.int (m : Int))), some (Sl.sh (D.str A)), some (Sl.sh (D.lst (ds.map .int))), some (Sl.ow (D.lst (ss.map .str))), some (Sl.sh (D.int k)), o7, o8, o9, o10]
theorem names_specN (ns : List Int) (i m : Nat) (hm : m ≤ 25) : wR (F_Lnames [.scr ns, .int i, .int (m : Int)]) fun r => ∃ ss : List Str, r = .val .nw (.lst (ss.map .str)) ∧ ss.length = m ∧ ∀ s ∈ ss, Nm s := by
  have ix : ∀ k : Nat, k < m → (limNm m)[1 + 7 * k]? = some 6 ∧ ∀ j : Nat, j < 6 → (limNm m)[2 + 7 * k + j]? = some 26 := fun k hk => by
    refine ⟨?_, fun j hj => ?_⟩
    · rw [show 1 + 7 * k = (7 * k + 0) + 1 by omega]
      exact flat_get (l := [6, 26, 26, 26, 26, 26, 26]) m k 0 hk (by decide)
    · rw [show 2 + 7 * k + j = (7 * k + (j + 1)) + 1 by omega]
      refine (flat_get (l := [6, 26, 26, 26, 26, 26, 26]) m k (j + 1) hk (by simp; omega)).trans ?_
      match j, hj with
      | 0, _ | 1, _ | 2, _ | 3, _ | 4, _ | 5, _ => rfl
  have lm : (limNm m).length = 1 + 7 * m := by
    unfold limNm
    rw [List.length_cons, flat_len]
    simp
    omega
  have fl : (Str.ofString "abcdefghijklmnopqrstuvwxyz").length = 26 := by decide +kernel
  have e0 : Str.ofString "" = ⟨#[]⟩ := by decide +kernel
  have lA : ∀ c ∈ (Str.ofString "abcdefghijklmnopqrstuvwxyz").cps.toList, 97 ≤ c ∧ c ≤ 122 := by decide +kernel
  generalize hA : Str.ofString "abcdefghijklmnopqrstuvwxyz" = A at *
  rw [F_Lnames, w_run, b_Lnames]
  rw [hA, e0]
  dsimp! only [k3, eq_self]
  refine ⟨⟨by omega, by omega, by omega⟩, by rw [flat_len]; simp; omega, ?_⟩
  rw [show D.int 4 :: (List.replicate (m : Int).toNat [D.int 6, D.int 26, D.int 26, D.int 26, D.int 26, D.int 26, D.int 26]).flatten = (limNm m).map D.int by
    unfold limNm
    rw [List.map_cons, List.map_flatten, List.map_replicate]
    rfl]
  refine (draws_spec ns i (limNm m) (by omega) fun l hl => ?_).mono ?_
  · unfold limNm at hl
    rcases List.mem_cons.mp hl with rfl | hl
    · exact ⟨by decide, by decide +kernel⟩
    · obtain ⟨l2, h1, h2⟩ := List.mem_flatten.mp hl
      rw [List.eq_of_mem_replicate h1] at h2
      simp only [List.mem_cons, List.not_mem_nil, or_false] at h2
      rcases h2 with rfl | rfl | rfl | rfl | rfl | rfl | rfl <;> exact ⟨by decide, by decide +kernel⟩
  rintro r ⟨ds, rfl, hl, hd⟩
  have hl : ds.length = 1 + 7 * m := by rw [hl, lm]
  dsimp! only [k4, eq_self, show rng1D [D.int (m : Int)] = some (rngL 0 m) from rng1_ok (n := m) (by omega)]
  have at0 : ∀ j : Nat, j < 1 + 7 * m → ∃ x, ds[j]? = some x ∧ atI (ds.map D.int) (j : Int) = some (.int x) := fun j hj =>
    ⟨_, List.getElem?_eq_getElem (by omega), by rw [atI_map', atI_nat, List.getElem?_eq_getElem (by omega)]; rfl⟩
  refine forD_inv _ (fun k en => ∃ (ss : List Str) (o6 o7 o8 o9 o10 : Option Sl), en = [some (Sl.sh (D.scr ns)), some (Sl.sh (D.int i)), some (Sl.sh (D.int (m : Int))), some (Sl.sh (D.str A)), some (Sl.sh (D.lst (ds.map .int))), some (Sl.ow (D.lst (ss.map .str))), o6, o7, o8, o9, o10] ∧ ss.length = k ∧ ∀ s ∈ ss, Nm s) _
    ⟨[], none, none, none, none, none, rfl, rfl, fun s h => by cases h⟩ ?_ ?_
  · rintro k d en hd0 ⟨ss, o6, o7, o8, o9, o10, rfl, hk, hb⟩
    rw [rngL_get] at hd0
    obtain ⟨hk2, rfl⟩ := hd0
    refine ⟨_, rfl, ?_⟩
    obtain ⟨x1, hx1, ha1⟩ := at0 (1 + 7 * k) (by omega)
    obtain ⟨x0, hx0, ha0⟩ := at0 0 (by omega)
    have b1 := hd _ _ _ hx1 (ix k hk2).1
    have c1 : cutD (ds.map D.int) (some (2 + 7 * (k : Int))) (some (3 + 7 * (k : Int) + x1)) = ((ds.drop (2 + 7 * k)).take (x1.toNat + 1)).map D.int := by
      have := cutD_nat (ds.map D.int) (2 + 7 * k) (3 + 7 * k + x1.toNat) (by rw [List.length_map]; omega) (by rw [List.length_map]; omega)
      rw [show (((2 + 7 * k : Nat) : Int)) = 2 + 7 * (k : Int) by omega, show (((3 + 7 * k + x1.toNat : Nat) : Int)) = 3 + 7 * (k : Int) + x1 by omega] at this
      rw [this, show 3 + 7 * k + x1.toNat - (2 + 7 * k) = x1.toNat + 1 by omega, List.map_take, List.map_drop]
    have ys26 : ∀ y ∈ (ds.drop (2 + 7 * k)).take (x1.toNat + 1), 0 ≤ y ∧ y < 26 := fun y hy => by
      obtain ⟨j, hj⟩ := List.getElem?_of_mem hy
      rw [List.getElem?_take] at hj
      split at hj
      · rw [List.getElem?_drop] at hj
        exact hd _ _ _ hj ((ix k hk2).2 j (by omega))
      · cases hj
    have ysl : ((ds.drop (2 + 7 * k)).take (x1.toNat + 1)).length = x1.toNat + 1 := by rw [List.length_take, List.length_drop]; omega
    generalize (ds.drop (2 + 7 * k)).take (x1.toNat + 1) = ys at *
    rw [show ((1 + 7 * k : Nat) : Int) = 1 + 7 * (k : Int) by omega] at ha1
    rw [show ((0 : Nat) : Int) = 0 from rfl] at ha0
    have m7 : (mulOk 7 (k : Int) = true) = True := eq_true (mulOk_l (by decide) (by decide))
    refine w_cut (fun en => ∃ (zs : List Int), en = enNm m ns i A ds ss k (some (Sl.sh (D.lst (zs.map .int)))) o8 o9 o10 ∧ zs.length = x1.toNat + 1 ∧ ∀ y ∈ zs, 0 ≤ y ∧ y < 26) ?_ ?_
    · dsimp! only [k4, eq_self, ha1, m7, c1]
      exact ⟨ys, rfl, ysl, ys26⟩
    rintro en1 ⟨ys1, rfl, ysl1, ys126⟩
    refine w_cut (fun en => ∃ (zs : List Int), en = enNm m ns i A ds ss k (some (Sl.sh (D.lst (zs.map .int)))) o8 o9 o10 ∧ zs.length = x1.toNat + 1 ∧ ∀ y ∈ zs, 0 ≤ y ∧ y < 26) ?_ ?_
    · dsimp! only [k4, eq_self, enNm, ha0]
      split
      · dsimp! only [k4, eq_self, List.length_map, ysl1]
        rw [lc_map (g := fun y => D.int (y % 2)) ys1 fun y hy => by dsimp! only [k4, eq_self]; exact ⟨_, rfl, by simp⟩]
        dsimp! only [k4, eq_self]
        refine ⟨by omega, ys1.map (· % 2), by rw [List.map_map]; rfl, by rw [List.length_map, ysl1], fun y hy => ?_⟩
        obtain ⟨z, hz, rfl⟩ := List.mem_map.mp hy
        omega
      · exact ⟨ys1, rfl, ysl1, ys126⟩
    rintro en2 ⟨zs, rfl, zl, zb⟩
    have az : ∀ y : Int, 0 ≤ y → y < 26 → ∃ c, atI A.cps.toList y = some c ∧ 97 ≤ c ∧ c ≤ 122 := fun y h0 h1 => by
      obtain ⟨c, hc, hc2⟩ := atI_some (xs := A.cps.toList) h0 (by rw [Array.length_toList]; show y < (A.length : Int); omega)
      exact ⟨c, hc, lA c (List.mem_of_getElem? hc2)⟩
    have eA : A.length ≤ 16777216 := by omega
    refine w_cut (fun en => ∃ nm : Str, en = enNm m ns i A ds ss k (some (Sl.sh (D.lst (zs.map .int)))) (some (Sl.sh (D.str nm))) o9 o10 ∧ nm.length = x1.toNat + 1 ∧ Lt nm) ?_ ?_
    · dsimp! only [k4, eq_self, enNm, List.length_map, zl]
      rw [lc_map (g := fun y => D.str ⟨#[(atI A.cps.toList y).getD 0]⟩) zs fun y hy => by
        obtain ⟨c, hc, _⟩ := az y (zb y hy).1 (zb y hy).2
        dsimp! only [k4, eq_self, wipeE, List.set_cons_zero, List.set_cons_succ, hc, eA]
        exact ⟨_, rfl, by simp⟩]
      dsimp! only [k4, eq_self]
      have em : zs.map (fun y => D.str ⟨#[(atI A.cps.toList y).getD 0]⟩) = (zs.map fun y => (⟨#[(atI A.cps.toList y).getD 0]⟩ : Str)).map D.str := by rw [List.map_map]; rfl
      have e1 : ((zs.map fun y => (⟨#[(atI A.cps.toList y).getD 0]⟩ : Str)).map (·.length)).sum = zs.length := by
        rw [sum_ones _ fun y hy => by obtain ⟨z, _, rfl⟩ := List.mem_map.mp hy; rfl, List.length_map]
      rw [em]
      dsimp! only [k4, eq_self]
      refine ⟨by omega, ?_, _, rfl, by rw [join0_len, e1, zl], fun c hc => ?_⟩
      · rw [e1, show (⟨#[]⟩ : Str).length = 0 from rfl]
        omega
      · obtain ⟨w, hw, hc⟩ := join_mem _ hc
        obtain ⟨y, hy, rfl⟩ := List.mem_map.mp hw
        obtain ⟨c0, hc0, b⟩ := az y (zb y hy).1 (zb y hy).2
        rw [hc0] at hc
        have : c = c0 := by simpa using hc
        subst this
        exact b
    rintro en3 ⟨nm, rfl, nl, nlt⟩
    refine w_cut (fun en => ∃ (nm : Str) (o9 : Option Sl), en = enNm m ns i A ds ss k (some (Sl.sh (D.lst (zs.map .int)))) (some (Sl.sh (D.str nm))) o9 o10 ∧ nm.length = x1.toNat + 1 ∧ Lt nm) ?_ ?_
    · dsimp! only [k4, eq_self, enNm, show rng1D [D.int 26] = some (rngL 0 26) from rng1_ok (n := 26) (by decide)]
      refine forD_inv _ (fun _ en => ∃ (nm : Str) (o9 : Option Sl), en = enNm m ns i A ds ss k (some (Sl.sh (D.lst (zs.map .int)))) (some (Sl.sh (D.str nm))) o9 o10 ∧ nm.length = x1.toNat + 1 ∧ Lt nm) _ ⟨nm, _, rfl, nl, nlt⟩ ?_ ?_
      · rintro j d en hd1 ⟨nm, o9, rfl, nl, nlt⟩
        refine ⟨_, rfl, ?_⟩
        rw [rngL_get] at hd1
        obtain ⟨hj, rfl⟩ := hd1
        obtain ⟨z0, hz0⟩ : ∃ z0, zs[0]? = some z0 := ⟨_, List.getElem?_eq_getElem (by omega)⟩
        have a0 : atI (zs.map D.int) 0 = some (.int z0) := by rw [atI_map', show (0 : Int) = ((0 : Nat) : Int) from rfl, atI_nat, hz0]; rfl
        dsimp! only [k4, eq_self, enNm, a0]
        split
        · obtain ⟨c, hc, cb⟩ := az ((z0 + (j : Int) + 1) % 26) (by omega) (by omega)
          dsimp! only [k4, eq_self, a0, hc, eA]
          have cl := cut1_len nm (by omega)
          refine ⟨by omega, ?_, _, _, rfl, ?_, fun x hx => ?_⟩
          · rw [one_len, cl]; omega
          · rw [sl_app, one_len, cl]; omega
          · rcases str_mem_app.mp hx with hx | hx
            · have : x = c := by simpa using hx
              subst this
              exact cb
            · exact nlt x (cut_mem hx)
        · exact ⟨nm, _, rfl, nl, nlt⟩
      · rintro en ⟨nm, o9, rfl, nl, nlt⟩
        dsimp! only [k4, eq_self]
        exact ⟨nm, o9, rfl, nl, nlt⟩
    rintro en4 ⟨nm, o9, rfl, nl, nlt⟩
    dsimp! only [k4, eq_self, enNm]
    refine ⟨by rw [List.length_map]; omega, ss ++ [nm], _, _, _, _, _, by rw [List.map_append]; rfl, by rw [List.length_append, hk]; rfl, fun s hs => ?_⟩
    rcases List.mem_append.mp hs with hs | hs
    · exact hb s hs
    · have : s = nm := by simpa using hs
      subst this
      exact ⟨by omega, by omega, nlt⟩
  · rintro en ⟨ss, o6, o7, o8, o9, o10, rfl, hk, hb⟩
    dsimp! only [k4, eq_self]
    exact ⟨ss, rfl, by rw [hk, rngL_len], hb⟩
end C
/-! ND: rich parts: reckoning with a store. -/
namespace C
open PySem L2 PD
variable {QG : Kd → D → Prop}
def onTS (Q : Out → So → Prop) (K : En → So → Prop) : Out → So → Prop
  | .nx en, S => K en S
  | .ct en, S => K en S
  | .bk en, S => Q (.nx en) S
  | .rt k d, S => Q (.rt k d) S
  | .er en c d, S => Q (.er en c d) S
theorem forS_inv {tg : D → En → Option En} {F : FS} {ds : List D} {QO : Out → So → Prop} (I : Nat → En → So → Prop) (hs : ∀ k d en S, ds[k]? = some d → I k en S → ∃ en1, tg d en = some en1 ∧ vO (F en1 S) (onTS QO (I (k + 1)))) (he : ∀ en S, I ds.length en S → QO (.nx en) S) : ∀ (n i : Nat) (en : En) (S : So), n + i = ds.length → I i en S → vO (forS tg F (itL ds) n i en S) QO
  | 0, i, en, S, e, h => by
    have e : i = ds.length := by omega
    subst e
    unfold forS itL
    simp only [Nat.le_refl, if_true, List.getElem?_eq_none (Nat.le_refl ds.length)]
    exact ⟨_, _, rfl, he _ _ h⟩
  | n + 1, i, en, S, e, h => by
    have hi : i < ds.length := by omega
    unfold forS itL
    simp only [show i ≤ ds.length by omega, if_true, List.getElem?_eq_getElem hi]
    obtain ⟨en1, e1, o, S2, e2, q⟩ := hs i _ en S (List.getElem?_eq_getElem hi) h
    simp only [e1, e2]
    have rest : ∀ en2 S2, I (i + 1) en2 S2 → vO (forS tg F (itL ds) n (i + 1) en2 S2) QO := fun en2 S2 h => forS_inv I hs he n (i + 1) en2 S2 (by omega) h
    cases o with
    | nx en2 => exact rest en2 S2 q
    | ct en2 => exact rest en2 S2 q
    | bk en2 => exact ⟨_, _, rfl, q⟩
    | rt k d => exact ⟨_, _, rfl, q⟩
    | er en2 c d => exact ⟨_, _, rfl, q⟩
def dkS {α : Type} (g : α → D) (ps : List (Str × α)) : List (Key × D) := ps.map fun p => (.inr p.1, g p.2)
theorem putC_dk {α : Type} {g : α → D} {ps : List (Str × α)} {k : Str} {v : α} (h : ps.length < 16777216) : putC (g v) (.str k) (.dct (dkS g ps)) = some (.dct (dkS g (C.putS ps k v))) := by
  have := put_dcS (g := g) (k := k) (v := v) h
  have e : putO (g v) (dcS g ps) (.str k) = if (dkS g ps).length < 16777216 then some (.dct (putD (dkS g ps) (.inr k) (g v))) else none := rfl
  rw [e] at this
  have hl : (dkS g ps).length < 16777216 := by unfold dkS; rw [List.length_map]; exact h
  rw [if_pos hl] at this
  unfold putC
  simp only [hl, if_true]
  have e2 : D.dct (putD (dkS g ps) (.inr k) (g v)) = dcS g (C.putS ps k v) := Option.some.inj this
  have e3 : putD (dkS g ps) (.inr k) (g v) = dkS g (C.putS ps k v) := by
    have : D.dct (putD (dkS g ps) (.inr k) (g v)) = D.dct (dkS g (C.putS ps k v)) := e2
    exact D.dct.inj this
  show some (Cl.dct (putD (dkS g ps) (.inr k) (g v))) = _
  rw [e3]
theorem copies2_spec (ps qs : Sd) (as : Ad) (hn : (as.map (·.1)).Nodup) (hl : as.length ≤ 1000) (ha : ∀ p ∈ as, p.2.length ≤ 1000) : vR (F_Lcopies_2 [partsD ps qs as] []) fun r S => r = .val .sh (.tup [dcS .int ps, dcS .int qs, .loc 0]) ∧ S = [.dct (dkS rowD as)] := by
  rw [F_Lcopies_2, w_runS, b_Lcopies_2]
  dsimp! only [k19, eq_self, partsD, it_dcS]
  have e0 : as.map (fun p => (p.1, p.2)) = as := List.map_id as
  refine forS_inv (fun k en S => ∃ o2, en = [some (Sl.sh (.tup [dcS .int ps, dcS .int qs, dcS rowD as])), some (.sh (.loc 0)), o2] ∧ S = [.dct (dkS rowD (((as.map (·.1)).take k).map fun n => (n, id ((lookS as n).getD []))))]) ?_ ?_ _ _ _ _ (by simp) ⟨none, rfl, rfl⟩
  · rintro k d en S hd ⟨o2, rfl, rfl⟩
    rw [List.getElem?_map] at hd
    obtain ⟨n, hn', rfl⟩ := Option.map_eq_some_iff.mp hd
    have hkl := (List.getElem?_eq_some_iff.mp hn').1
    rw [List.length_map] at hkl
    obtain ⟨es, hes⟩ := lookS_of (List.mem_of_getElem? hn')
    have hel := ha _ (lookS_mem hes)
    have hput := take_putS (f := fun n => id ((lookS as n).getD [])) hn hn'
    rw [hes] at hput
    have hput : C.putS (((as.map (·.1)).take k).map fun n => (n, id ((lookS as n).getD []))) n es = _ := hput
    have hlen : (((as.map (·.1)).take k).map fun n => (n, id ((lookS as n).getD []))).length < 16777216 := by rw [List.length_map, List.length_take, List.length_map]; omega
    refine ⟨_, rfl, ?_⟩
    dsimp! only [k20, eq_self, g_ixDc, hes, rowD, atC_l (S := [Cl.dct (dkS rowD (((as.map (·.1)).take k).map fun n => (n, id ((lookS as n).getD []))))]) (n := 0) rfl]
    rw [show D.lst (es.map prD) = rowD es from rfl, putC_dk hlen, hput]
    exact ⟨_, rfl, _, rfl, rfl⟩
  · rintro en S ⟨o2, rfl, rfl⟩
    rw [List.length_map (f := D.str), List.take_length, map_look hn]
    dsimp! only [k20, eq_self, id, e0, g_dictDc]
    try exact ⟨rfl, rfl⟩
theorem snapL_prs {r : Nat → Option D} : ∀ es : Rw, snapL r (es.map prD) = some (es.map prD)
  | [] => by rw [List.map_nil]; unfold snapL; rfl
  | e :: t => by
    rw [List.map_cons]
    unfold snapL
    rw [snapL_prs t]
    simp [prD, snapD, snapL]
theorem snapD_row {r : Nat → Option D} (es : Rw) : snapD r (rowD es) = some (rowD es) := by
  unfold rowD snapD
  rw [snapL_prs]
  rfl
theorem snapK_i {r : Nat → Option D} : ∀ ps : Sd, snapK r (dkS D.int ps) = some (dkS D.int ps)
  | [] => by unfold dkS; rw [List.map_nil]; unfold snapK; rfl
  | e :: t => by
    have ih := snapK_i (r := r) t
    unfold dkS at ih ⊢
    rw [List.map_cons]
    unfold snapK
    rw [ih]
    simp [snapD]
theorem snapK_r {r : Nat → Option D} : ∀ as : Ad, snapK r (dkS rowD as) = some (dkS rowD as)
  | [] => by unfold dkS; rw [List.map_nil]; unfold snapK; rfl
  | e :: t => by
    have ih := snapK_r (r := r) t
    unfold dkS at ih ⊢
    rw [List.map_cons]
    unfold snapK
    rw [ih]
    simp [snapD_row]
theorem snapD_i {r : Nat → Option D} (ps : Sd) : snapD r (dcS D.int ps) = some (dcS D.int ps) := by
  unfold dcS snapD
  rw [show ps.map (fun p => ((.inr p.1 : Key), D.int p.2)) = dkS D.int ps from rfl, snapK_i]
  rfl
/-- rich parts: what is known of their numbers -/
structure Pt.W (t : Pt) : Prop where
  z : t.Z
  ne : t.a ≠ []
  qv : ∀ p ∈ t.q, -2 ≤ p.2 ∧ p.2 ≤ 6
  av : ∀ p ∈ t.a, ∀ e ∈ p.2, 0 ≤ e.2 ∧ e.2 < 10
theorem rich_main (ns : List Int) (i : Nat) : vR (F_Lrich_parts [.scr ns, .int i] []) fun r S => ∃ t : Pt, r = .val .sh t.D ∧ t.W := by
  rw [F_Lrich_parts, w_runS, b_Lrich_parts]
  dsimp! only [k21, eq_self]
  refine (parts_spec ns i).mono ?_
  rintro r ⟨ps, qs, as, rfl, P⟩
  have hal := P.al
  dsimp! only [k22, eq_self]
  refine (copies2_spec ps qs as P.an (by omega) fun p hp => by have := (P.av p hp).2.2.1; omega).mono ?_
  rintro r S ⟨rfl, rfl⟩
  dsimp! only [k22, eq_self, show ((i : Int) + 1) = ((i + 1 : Nat) : Int) by omega]
  refine (names_specN ns (i + 1) 10 (by decide)).mono ?_
  rintro r ⟨ss, rfl, sl, sn⟩
  dsimp! only [k20, eq_self, show ((i : Int) + 6) = ((i + 6 : Nat) : Int) by omega]
  refine (row_spec ns (i + 6) 4 (by decide) (by decide)).mono ?_
  rintro r ⟨es, rfl, R⟩
  obtain ⟨nm, en, hm⟩ : ∃ nm, ss[8]? = some nm ∧ Nm nm := ⟨_, List.getElem?_eq_getElem (by omega), sn _ (List.getElem_mem (by omega))⟩
  dsimp! only [k20, eq_self, List.getElem?_map, en, Option.map_some, atC_l (S := [Cl.dct (dkS rowD as)]) (n := 0) rfl, show D.lst (es.map prD) = rowD es from rfl, putC_dk (show as.length < 16777216 by omega)]
  have sp : snapD (snapN [Cl.dct (dkS rowD (C.putS as nm es))] 9) (.tup [dcS .int ps, dcS .int qs, .loc 0]) = some (partsD ps qs (C.putS as nm es)) := by
    unfold partsD snapD snapL
    simp only [snapD_i, snapL, snapD, snapN, List.getElem?_cons_zero, snapC, snapK_r]
    rfl
  dsimp! only [k22, eq_self, fFrzA, snapE, List.set_cons_zero, List.map_cons, List.map_nil, sp, Option.map_some]
  have hz := P.z
  refine ⟨⟨ps, qs, C.putS as nm es⟩, rfl, ⟨⟨hz.pn, hz.qn, putS_nodup hz.an, hz.pl, hz.ql, Nat.le_trans putS_len (by omega), hz.pv, hz.qv, fun p hp => ?_⟩, fun e => ?_, fun p hp => by have := (P.qv p hp).2; omega, fun p hp e he => ?_⟩⟩
  · rcases putS_mem hp with hp | rfl
    · exact hz.av p hp
    · exact ⟨hm, R.1, by show es.length ≤ 20; have := R.2.1; omega, R.2.2.1, fun e he => by have := R.2.2.2 e he; omega⟩
  · have := putS_key (ps := as) (k := nm) (v := es)
    have e : C.putS as nm es = [] := e
    rw [e] at this
    cases this
  · rcases putS_mem hp with hp | rfl
    · have := (P.av p hp).2.2.2.2 e he
      omega
    · have := R.2.2.2 e he
      omega
end C
/-! NF: rich parts asked: places, cells, what statements with larger numbers say. -/
namespace C
open PySem L2 PD
variable {QG : Kd → D → Prop}
theorem pt_sayingZ {t : Pt} (h : t.Z) (ns : List Int) (i : Nat) : wR (F_Lsaying [.scr ns, .int i, t.D]) fun r => ∃ y : Sy, r = .val .sh y.D ∧ y.Ok t.V 4 :=
  saying_specL t.V ns i h.pl h.ql h.al (.inl rfl) (.inl rfl) (fun p hp => .inr (lookS_of (List.mem_map.mpr ⟨p, hp, rfl⟩))) (fun p hp => .inr (lookS_of (List.mem_map.mpr ⟨p, hp, rfl⟩))) (fun p hp => lookS_of (List.mem_map.mpr ⟨p, hp, rfl⟩))
end C
/-! NG: a stretch of a long row between two of its places: what is asked of all its cells. -/
namespace C
open PySem L2 PD
variable {QG : Kd → D → Prop}
structure Stc (W : Rw) (f l : Nat) (e g : Option (Str × Int)) : Prop where
  le : f ≤ l
  ll : l < W.length
  lo : (e = none ∧ f = 0) ∨ ∃ p, W[f]? = some p ∧ e = some (("" : Str), p.1)
  hi : (g = none ∧ l + 1 = W.length) ∨ ∃ p, W[l]? = some p ∧ g = some (("" : Str), p.1)
end C
/-! NI: the store: what is plain stands for itself; lists at places; loops. -/
namespace C
open PySem L2 PD
theorem snapL_all {r : Nat → Option D} : ∀ {ds : List D}, (∀ d ∈ ds, snapD r d = some d) → snapL r ds = some ds
  | [], _ => by unfold snapL; rfl
  | d :: t, h => by
    unfold snapL
    rw [h d (by simp), snapL_all fun x hx => h x (by simp [hx])]
    rfl
theorem snap_pl {r : Nat → Option D} {n : Nat} {d : D} (h : Pl n d) : snapD r d = some d := by
  induction h with
  | non => unfold snapD; rfl
  | bl b => unfold snapD; rfl
  | int i => unfold snapD; rfl
  | str x => unfold snapD; rfl
  | lst _ _ ih => unfold snapD; rw [snapL_all ih]; rfl
  | tup _ _ ih => unfold snapD; rw [snapL_all ih]; rfl
theorem snap_loc {S : So} {fu n : Nat} {z : Cl} (h : S[n]? = some z) : snapD (snapN S (fu + 1)) (.loc n) = snapC (snapN S fu) z := by
  rw [snapD, snapN]
  simp only [h]
/-- a list of plain data at a place -/
theorem snap_lst {S : So} {fu n k : Nat} {ds : List D} (h : S[n]? = some (.lst ds)) (hp : ∀ d ∈ ds, Pl k d) : snapD (snapN S (fu + 1)) (.loc n) = some (.lst ds) := by
  rw [snap_loc h]
  show (snapL _ ds).map D.lst = _
  rw [snapL_all fun d hd => snap_pl (hp d hd)]
  rfl
/-- a list of lists at places -/
theorem snap_1 {S : So} {fu n a k : Nat} {xs : List D} (h : S[n]? = some (.lst [.loc a])) (ha : S[a]? = some (.lst xs)) (hx : ∀ d ∈ xs, Pl k d) : snapD (snapN S (fu + 2)) (.loc n) = some (.lst [.lst xs]) := by
  rw [snap_loc h]
  show (snapL (snapN S (fu + 1)) [.loc a]).map D.lst = _
  simp only [snapL]
  rw [snap_lst ha hx]
  rfl
theorem snap_2 {S : So} {fu n a b k : Nat} {xs ys : List D} (h : S[n]? = some (.lst [.loc a, .loc b])) (ha : S[a]? = some (.lst xs)) (hb : S[b]? = some (.lst ys)) (hx : ∀ d ∈ xs, Pl k d) (hy : ∀ d ∈ ys, Pl k d) : snapD (snapN S (fu + 2)) (.loc n) = some (.lst [.lst xs, .lst ys]) := by
  rw [snap_loc h]
  show (snapL (snapN S (fu + 1)) [.loc a, .loc b]).map D.lst = _
  simp only [snapL]
  rw [snap_lst ha hx, snap_lst hb hy]
  rfl
/-- a turn of a loop -/
theorem forS_1 {tg : D → En → Option En} {F : FS} {ds : List D} {QO : Out → So → Prop} {n i : Nat} {en en1 : En} {S : So} {d : D} (hd : ds[i]? = some d) (h1 : tg d en = some en1) (h2 : vO (F en1 S) (onTS QO fun en2 S2 => vO (forS tg F (itL ds) n (i + 1) en2 S2) QO)) : vO (forS tg F (itL ds) (n + 1) i en S) QO := by
  have hi : i < ds.length := (List.getElem?_eq_some_iff.mp hd).1
  obtain ⟨o, S2, e2, q⟩ := h2
  unfold forS itL
  simp only [show i ≤ ds.length by omega, if_true, hd, h1, e2]
  cases o with
  | nx en2 => exact q
  | ct en2 => exact q
  | bk en2 => exact ⟨_, _, rfl, q⟩
  | rt k d => exact ⟨_, _, rfl, q⟩
  | er en2 c d => exact ⟨_, _, rfl, q⟩
theorem forS_0 {tg : D → En → Option En} {F : FS} {ds : List D} {QO : Out → So → Prop} {en : En} {S : So} (h : QO (.nx en) S) : vO (forS tg F (itL ds) 0 ds.length en S) QO := by
  unfold forS itL
  simp only [Nat.le_refl, if_true, List.getElem?_eq_none (Nat.le_refl ds.length)]
  exact ⟨_, _, rfl, h⟩
/-- the arguments as plain data -/
theorem v_ofG {fu : Nat} {F : List D → Option R} {ds es : List D} {S : So} {Q : R → So → Prop} (h : snapL (snapN S fu) ds = some es) (hw : wR (F es) fun r => match r with | .val _ d => gdD d = true ∧ Q (.val .sh d) S | .er _ _ => False) : vR (ofG fu F ds S) Q := by
  obtain ⟨r, e, q⟩ := hw
  unfold ofG
  rw [h]
  simp only [e]
  cases r with
  | val k d => exact ⟨_, _, by simp only [q.1, if_true], q.2⟩
  | er c d => exact q.elim
theorem v_cut {F1 F2 : FS} {en : En} {S : So} {QO : Out → So → Prop} (I : En → So → Prop) (h1 : vO (F1 en S) (nO QO I)) (h2 : ∀ en1 S1, I en1 S1 → vO (F2 en1 S1) QO) : vO (fSeqS F1 F2 en S) QO := by
  rw [w_seqS]
  refine h1.mono fun o S h => ?_
  cases o with
  | nx en1 => exact h2 en1 S h
  | _ => exact h
end C
namespace K20
open PySem PySem.Spec PyProof.Rows L2 PD C
def top (i : Nat) : Stmt := PySem.Challenge.pw_allcells_k20_opposites_of_statements.main.body.getD i (.Pass ⟨0, 0, 0, 0⟩)
abbrev s_Lsame : Stmt := top 25
abbrev N_Lsame : List Str := ["_law_found", "_law_due_here", "_law_key", "_law_k"]
theorem sc_Lsame : FnScope N_Lsame ["_law_found", "_law_due_here"] (defScope s_Lsame) := ⟨rfl, rfl, rfl, by decide +kernel, rfl, by decide +kernel, by decide +kernel⟩
abbrev s_within : Stmt := top 19
abbrev N_within : List Str := ["p", "terms", "q", "row", "term", "one", "other"]
theorem sc_within : FnScope N_within ["p", "terms", "q"] (defScope s_within) := ⟨rfl, rfl, rfl, by decide +kernel, rfl, by decide +kernel, by decide +kernel⟩
abbrev s_moved : Stmt := top 18
abbrev N_moved : List Str := ["term", "by"]
theorem sc_moved : FnScope N_moved ["term", "by"] (defScope s_moved) := ⟨rfl, rfl, rfl, by decide +kernel, rfl, by decide +kernel, by decide +kernel⟩
abbrev s_is_name : Stmt := top 8
abbrev N_is_name : List Str := ["thing", "sign"]
theorem sc_is_name : FnScope N_is_name ["thing"] (defScope s_is_name) := ⟨rfl, rfl, rfl, by decide +kernel, rfl, by decide +kernel, by decide +kernel⟩
abbrev s_copied : Stmt := top 13
abbrev N_copied : List Str := ["thing", "part"]
theorem sc_copied : FnScope N_copied ["thing"] (defScope s_copied) := ⟨rfl, rfl, rfl, by decide +kernel, rfl, by decide +kernel, by decide +kernel⟩
abbrev s_is_whole : Stmt := top 7
abbrev N_is_whole : List Str := ["thing"]
theorem sc_is_whole : FnScope N_is_whole ["thing"] (defScope s_is_whole) := ⟨rfl, rfl, rfl, by decide +kernel, rfl, by decide +kernel, by decide +kernel⟩
abbrev s_is_place_term : Stmt := top 9
abbrev N_is_place_term : List Str := ["thing"]
theorem sc_is_place_term : FnScope N_is_place_term ["thing"] (defScope s_is_place_term) := ⟨rfl, rfl, rfl, by decide +kernel, rfl, by decide +kernel, by decide +kernel⟩
abbrev s_is_value_term : Stmt := top 10
abbrev N_is_value_term : List Str := ["thing"]
theorem sc_is_value_term : FnScope N_is_value_term ["thing"] (defScope s_is_value_term) := ⟨rfl, rfl, rfl, by decide +kernel, rfl, by decide +kernel, by decide +kernel⟩
abbrev s_check_place_term : Stmt := top 14
abbrev N_check_place_term : List Str := ["thing"]
theorem sc_check_place_term : FnScope N_check_place_term ["thing"] (defScope s_check_place_term) := ⟨rfl, rfl, rfl, by decide +kernel, rfl, by decide +kernel, by decide +kernel⟩
abbrev s_check_value_term : Stmt := top 15
abbrev N_check_value_term : List Str := ["thing"]
theorem sc_check_value_term : FnScope N_check_value_term ["thing"] (defScope s_check_value_term) := ⟨rfl, rfl, rfl, by decide +kernel, rfl, by decide +kernel, by decide +kernel⟩
abbrev s_check_part : Stmt := top 16
abbrev N_check_part : List Str := ["kind", "part"]
theorem sc_check_part : FnScope N_check_part ["kind", "part"] (defScope s_check_part) := ⟨rfl, rfl, rfl, by decide +kernel, rfl, by decide +kernel, by decide +kernel⟩
abbrev s_checked : Stmt := top 17
abbrev N_checked : List Str := ["saying", "form", "kind", "part"]
theorem sc_checked : FnScope N_checked ["saying"] (defScope s_checked) := ⟨rfl, rfl, rfl, by decide +kernel, rfl, by decide +kernel, by decide +kernel⟩
abbrev s_opposites : Stmt := top 20
abbrev N_opposites : List Str := ["saying", "fresh", "word", "i", "j", "there", "less", "array", "p", "q", "other", "r", "s", "k", "first", "second"]
theorem sc_opposites : FnScope N_opposites ["saying", "fresh"] (defScope s_opposites) := ⟨rfl, rfl, rfl, by decide +kernel, rfl, by decide +kernel, by decide +kernel⟩
abbrev s_Lbetween : Stmt := top 37
abbrev N_Lbetween : List Str := ["_law_row_here", "_law_kept", "_law_term", "_law_k"]
theorem sc_Lbetween : FnScope N_Lbetween ["_law_row_here"] (defScope s_Lbetween) := ⟨rfl, rfl, rfl, by decide +kernel, rfl, by decide +kernel, by decide +kernel⟩
abbrev s_Lplus : Stmt := top 36
abbrev N_Lplus : List Str := ["_law_term", "_law_by"]
theorem sc_Lplus : FnScope N_Lplus ["_law_term", "_law_by"] (defScope s_Lplus) := ⟨rfl, rfl, rfl, by decide +kernel, rfl, by decide +kernel, by decide +kernel⟩
abbrev s_Ldue : Stmt := top 38
abbrev N_Ldue : List Str := ["_law_saying_here", "_law_fresh", "_law_word", "_law_i", "_law_j", "_law_a", "_law_there", "_law_k", "_law_less"]
theorem sc_Ldue : FnScope N_Ldue ["_law_saying_here", "_law_fresh"] (defScope s_Ldue) := ⟨rfl, rfl, rfl, by decide +kernel, rfl, by decide +kernel, by decide +kernel⟩
abbrev s_Lscaled_term : Stmt := top 34
abbrev N_Lscaled_term : List Str := ["_law_term", "_law_scale_here", "_law_role", "_law_by"]
theorem sc_Lscaled_term : FnScope N_Lscaled_term ["_law_term", "_law_scale_here", "_law_role"] (defScope s_Lscaled_term) := ⟨rfl, rfl, rfl, by decide +kernel, rfl, by decide +kernel, by decide +kernel⟩
abbrev s_Lscaled_saying : Stmt := top 35
abbrev N_Lscaled_saying : List Str := ["_law_saying_here", "_law_scale_here", "_law_scaled", "_law_part"]
theorem sc_Lscaled_saying : FnScope N_Lscaled_saying ["_law_saying_here", "_law_scale_here"] (defScope s_Lscaled_saying) := ⟨rfl, rfl, rfl, by decide +kernel, rfl, by decide +kernel, by decide +kernel⟩
abbrev s_Lsums : Stmt := top 31
abbrev N_Lsums : List Str := ["_law_drawn", "_law_pool", "_law_numbers", "_law_arrays", "_law_sums_here", "_law_k", "_law_own", "_law_term", "_law_which", "_law_first", "_law_by", "_law_second", "_law_far"]
theorem sc_Lsums : FnScope N_Lsums ["_law_drawn", "_law_pool", "_law_numbers", "_law_arrays"] (defScope s_Lsums) := ⟨rfl, rfl, rfl, by decide +kernel, rfl, by decide +kernel, by decide +kernel⟩
abbrev s_Lfigure : Stmt := top 22
abbrev N_Lfigure : List Str := ["_law_script", "_law_at", "_law_figure_here"]
theorem sc_Lfigure : FnScope N_Lfigure ["_law_script", "_law_at"] (defScope s_Lfigure) := ⟨rfl, rfl, rfl, by decide +kernel, rfl, by decide +kernel, by decide +kernel⟩
abbrev s_Ldraws : Stmt := top 23
abbrev N_Ldraws : List Str := ["_law_script", "_law_at", "_law_limits", "_law_figure_here", "_law_rest", "_law_drawn", "_law_k", "_law_stir"]
theorem sc_Ldraws : FnScope N_Ldraws ["_law_script", "_law_at", "_law_limits"] (defScope s_Ldraws) := ⟨rfl, rfl, rfl, by decide +kernel, rfl, by decide +kernel, by decide +kernel⟩
abbrev s_Lsaying : Stmt := top 32
abbrev N_Lsaying : List Str := ["_law_script", "_law_at", "_law_parts_here", "_law_drawn", "_law_pool", "_law_terms", "_law_ends", "_law_sums_here", "_law_plain", "_law_one", "_law_other", "_law_forms", "_law_places", "_law_numbers", "_law_arrays", "_law_names_here", "_law_k"]
theorem sc_Lsaying : FnScope N_Lsaying ["_law_script", "_law_at", "_law_parts_here"] (defScope s_Lsaying) := ⟨rfl, rfl, rfl, by decide +kernel, rfl, by decide +kernel, by decide +kernel⟩
abbrev s_Lnames : Stmt := top 26
abbrev N_Lnames : List Str := ["_law_script", "_law_at", "_law_many", "_law_letters", "_law_drawn", "_law_names_here", "_law_k", "_law_signs", "_law_name", "_law_turn", "_law_sign"]
theorem sc_Lnames : FnScope N_Lnames ["_law_script", "_law_at", "_law_many"] (defScope s_Lnames) := ⟨rfl, rfl, rfl, by decide +kernel, rfl, by decide +kernel, by decide +kernel⟩
abbrev s_Llong : Stmt := top 24
abbrev N_Llong : List Str := ["_law_script", "_law_at", "_law_many", "_law_drawn", "_law_numbers", "_law_k", "_law_top", "_law_turn", "_law_number", "_law_part"]
theorem sc_Llong : FnScope N_Llong ["_law_script", "_law_at", "_law_many"] (defScope s_Llong) := ⟨rfl, rfl, rfl, by decide +kernel, rfl, by decide +kernel, by decide +kernel⟩
abbrev s_Lscale : Stmt := top 33
abbrev N_Lscale : List Str := ["_law_script", "_law_at", "_law_drawn", "_law_far"]
theorem sc_Lscale : FnScope N_Lscale ["_law_script", "_law_at"] (defScope s_Lscale) := ⟨rfl, rfl, rfl, by decide +kernel, rfl, by decide +kernel, by decide +kernel⟩
abbrev s_Lrow : Stmt := top 27
abbrev N_Lrow : List Str := ["_law_script", "_law_at", "_law_first", "_law_size", "_law_high", "_law_drawn", "_law_row_here", "_law_values", "_law_k", "_law_entry"]
theorem sc_Lrow : FnScope N_Lrow ["_law_script", "_law_at", "_law_first", "_law_size", "_law_high"] (defScope s_Lrow) := ⟨rfl, rfl, rfl, by decide +kernel, rfl, by decide +kernel, by decide +kernel⟩
abbrev s_Lcopies_2 : Stmt := top 29
abbrev N_Lcopies_2 : List Str := ["_law_parts_here", "_law_arrays", "_law_name"]
theorem sc_Lcopies_2 : FnScope N_Lcopies_2 ["_law_parts_here"] (defScope s_Lcopies_2) := ⟨rfl, rfl, rfl, by decide +kernel, rfl, by decide +kernel, by decide +kernel⟩
abbrev s_Lparts : Stmt := top 28
abbrev N_Lparts : List Str := ["_law_script", "_law_at", "_law_drawn", "_law_names_here", "_law_places", "_law_k", "_law_numbers", "_law_arrays", "_law_row_here", "_law_spots", "_law_place", "_law_value", "_law_entry"]
theorem sc_Lparts : FnScope N_Lparts ["_law_script", "_law_at"] (defScope s_Lparts) := ⟨rfl, rfl, rfl, by decide +kernel, rfl, by decide +kernel, by decide +kernel⟩
abbrev s_Lrich_parts : Stmt := top 30
abbrev N_Lrich_parts : List Str := ["_law_script", "_law_at", "_law_parts_here", "_law_names_here", "_law_known"]
theorem sc_Lrich_parts : FnScope N_Lrich_parts ["_law_script", "_law_at"] (defScope s_Lrich_parts) := ⟨rfl, rfl, rfl, by decide +kernel, rfl, by decide +kernel, by decide +kernel⟩
abbrev s_law : Stmt := top 39
abbrev N_law : List Str := ["_law_script", "_law_parts_here", "_law_scale_here", "_law_fresh", "_law_at", "_law_saying_here", "_law_pair", "_law_due_here", "_law_told", "_law_k", "_law_row_here", "_law_j"]
theorem sc_law : FnScope N_law ["_law_script"] (defScope s_law) := ⟨rfl, rfl, rfl, by decide +kernel, rfl, by decide +kernel, by decide +kernel⟩
abbrev t_FORMS : List (Str × Str) := [("place", "pp"), ("value", "vv"), ("rising", "aee"), ("low", "aeev"), ("high", "aeev"), ("below", "aeeaeek"), ("same", "aaeek")]
structure Tx (w : World) (K : PySem.W.Frag) (mg : Str → Option Value) (fa : Nat → Addr) (fd : Nat → FuncData) (ct : Nat → Tok) (ca : Nat → Addr) : Prop where
  F_Lsame : Fun K "_law_same" "_law_same" s_Lsame (fa 0) (fd 0)
  g_Lsame : mg "_law_same" = some (.ref (fa 0))
  b_Lsame : Binds K (fd 0) ["_law_found", "_law_due_here"] []
  F_within : Fun K "within" "within" s_within (fa 1) (fd 1)
  g_within : mg "within" = some (.ref (fa 1))
  b_within : Binds K (fd 1) ["p", "terms", "q"] []
  F_moved : Fun K "moved" "moved" s_moved (fa 2) (fd 2)
  g_moved : mg "moved" = some (.ref (fa 2))
  b_moved : Binds K (fd 2) ["term", "by"] []
  F_is_name : Fun K "is_name" "is_name" s_is_name (fa 3) (fd 3)
  g_is_name : mg "is_name" = some (.ref (fa 3))
  b_is_name : Binds K (fd 3) ["thing"] []
  F_copied : Fun K "copied" "copied" s_copied (fa 4) (fd 4)
  g_copied : mg "copied" = some (.ref (fa 4))
  b_copied : Binds K (fd 4) ["thing"] []
  F_is_whole : Fun K "is_whole" "is_whole" s_is_whole (fa 5) (fd 5)
  g_is_whole : mg "is_whole" = some (.ref (fa 5))
  b_is_whole : Binds K (fd 5) ["thing"] []
  F_is_place_term : Fun K "is_place_term" "is_place_term" s_is_place_term (fa 6) (fd 6)
  g_is_place_term : mg "is_place_term" = some (.ref (fa 6))
  b_is_place_term : Binds K (fd 6) ["thing"] []
  F_is_value_term : Fun K "is_value_term" "is_value_term" s_is_value_term (fa 7) (fd 7)
  g_is_value_term : mg "is_value_term" = some (.ref (fa 7))
  b_is_value_term : Binds K (fd 7) ["thing"] []
  F_check_place_term : Fun K "check_place_term" "check_place_term" s_check_place_term (fa 8) (fd 8)
  g_check_place_term : mg "check_place_term" = some (.ref (fa 8))
  b_check_place_term : Binds K (fd 8) ["thing"] []
  F_check_value_term : Fun K "check_value_term" "check_value_term" s_check_value_term (fa 9) (fd 9)
  g_check_value_term : mg "check_value_term" = some (.ref (fa 9))
  b_check_value_term : Binds K (fd 9) ["thing"] []
  F_check_part : Fun K "check_part" "check_part" s_check_part (fa 10) (fd 10)
  g_check_part : mg "check_part" = some (.ref (fa 10))
  b_check_part : Binds K (fd 10) ["kind", "part"] []
  F_checked : Fun K "checked" "checked" s_checked (fa 11) (fd 11)
  g_checked : mg "checked" = some (.ref (fa 11))
  b_checked : Binds K (fd 11) ["saying"] []
  F_opposites : Fun K "opposites" "opposites" s_opposites (fa 12) (fd 12)
  g_opposites : mg "opposites" = some (.ref (fa 12))
  q_opposites_0 : KP K (fd 12) ["saying", "fresh"] 0 ["fresh", "saying"] [1, 0]
  b_opposites : Binds K (fd 12) ["saying", "fresh"] []
  F_Lbetween : Fun K "_law_between" "_law_between" s_Lbetween (fa 13) (fd 13)
  g_Lbetween : mg "_law_between" = some (.ref (fa 13))
  b_Lbetween : Binds K (fd 13) ["_law_row_here"] []
  F_Lplus : Fun K "_law_plus" "_law_plus" s_Lplus (fa 14) (fd 14)
  g_Lplus : mg "_law_plus" = some (.ref (fa 14))
  b_Lplus : Binds K (fd 14) ["_law_term", "_law_by"] []
  F_Ldue : Fun K "_law_due" "_law_due" s_Ldue (fa 15) (fd 15)
  g_Ldue : mg "_law_due" = some (.ref (fa 15))
  b_Ldue : Binds K (fd 15) ["_law_saying_here", "_law_fresh"] []
  F_Lscaled_term : Fun K "_law_scaled_term" "_law_scaled_term" s_Lscaled_term (fa 16) (fd 16)
  g_Lscaled_term : mg "_law_scaled_term" = some (.ref (fa 16))
  b_Lscaled_term : Binds K (fd 16) ["_law_term", "_law_scale_here", "_law_role"] []
  F_Lscaled_saying : Fun K "_law_scaled_saying" "_law_scaled_saying" s_Lscaled_saying (fa 17) (fd 17)
  g_Lscaled_saying : mg "_law_scaled_saying" = some (.ref (fa 17))
  b_Lscaled_saying : Binds K (fd 17) ["_law_saying_here", "_law_scale_here"] []
  F_Lsums : Fun K "_law_sums" "_law_sums" s_Lsums (fa 18) (fd 18)
  g_Lsums : mg "_law_sums" = some (.ref (fa 18))
  b_Lsums : Binds K (fd 18) ["_law_drawn", "_law_pool", "_law_numbers", "_law_arrays"] []
  F_Lfigure : Fun K "_law_figure" "_law_figure" s_Lfigure (fa 19) (fd 19)
  g_Lfigure : mg "_law_figure" = some (.ref (fa 19))
  b_Lfigure : Binds K (fd 19) ["_law_script", "_law_at"] []
  F_Ldraws : Fun K "_law_draws" "_law_draws" s_Ldraws (fa 20) (fd 20)
  g_Ldraws : mg "_law_draws" = some (.ref (fa 20))
  b_Ldraws : Binds K (fd 20) ["_law_script", "_law_at", "_law_limits"] []
  F_Lsaying : Fun K "_law_saying" "_law_saying" s_Lsaying (fa 21) (fd 21)
  g_Lsaying : mg "_law_saying" = some (.ref (fa 21))
  b_Lsaying : Binds K (fd 21) ["_law_script", "_law_at", "_law_parts_here"] []
  F_Lnames : Fun K "_law_names" "_law_names" s_Lnames (fa 22) (fd 22)
  g_Lnames : mg "_law_names" = some (.ref (fa 22))
  b_Lnames : Binds K (fd 22) ["_law_script", "_law_at", "_law_many"] []
  F_Llong : Fun K "_law_long" "_law_long" s_Llong (fa 23) (fd 23)
  g_Llong : mg "_law_long" = some (.ref (fa 23))
  b_Llong : Binds K (fd 23) ["_law_script", "_law_at", "_law_many"] []
  F_Lscale : Fun K "_law_scale" "_law_scale" s_Lscale (fa 24) (fd 24)
  g_Lscale : mg "_law_scale" = some (.ref (fa 24))
  b_Lscale : Binds K (fd 24) ["_law_script", "_law_at"] []
  F_Lrow : Fun K "_law_row" "_law_row" s_Lrow (fa 25) (fd 25)
  g_Lrow : mg "_law_row" = some (.ref (fa 25))
  b_Lrow : Binds K (fd 25) ["_law_script", "_law_at", "_law_first", "_law_size", "_law_high"] []
  F_Lcopies_2 : Fun K "_law_copies" "_law_copies" s_Lcopies_2 (fa 26) (fd 26)
  g_Lcopies_2 : mg "_law_copies" = some (.ref (fa 26))
  b_Lcopies_2 : Binds K (fd 26) ["_law_parts_here"] []
  F_Lparts : Fun K "_law_parts" "_law_parts" s_Lparts (fa 27) (fd 27)
  g_Lparts : mg "_law_parts" = some (.ref (fa 27))
  b_Lparts : Binds K (fd 27) ["_law_script", "_law_at"] []
  F_Lrich_parts : Fun K "_law_rich_parts" "_law_rich_parts" s_Lrich_parts (fa 28) (fd 28)
  g_Lrich_parts : mg "_law_rich_parts" = some (.ref (fa 28))
  b_Lrich_parts : Binds K (fd 28) ["_law_script", "_law_at"] []
  F_law : Fun K "law" "law" s_law (fa 29) (fd 29)
  g_law : mg "law" = some (.ref (fa 29))
  b_law : Binds K (fd 29) ["_law_script"] []
  n_all : mg "all" = none
  n_bool : mg "bool" = none
  n_dict : mg "dict" = none
  n_int : mg "int" = none
  n_isinstance : mg "isinstance" = none
  n_len : mg "len" = none
  n_list : mg "list" = none
  n_max : mg "max" = none
  n_min : mg "min" = none
  n_range : mg "range" = none
  n_sorted : mg "sorted" = none
  n_str : mg "str" = none
  n_tuple : mg "tuple" = none
  n_zip : mg "zip" = none
  c_LETTERS : mg "LETTERS" = some (.str "abcdefghijklmnopqrstuvwxyz" (ct 0))
  d_FORMS : mg "FORMS" = some (.ref (fa 30))
  e_FORMS : ∀ p ∈ t_FORMS, KDct K w (fa 30) p.1 (.str p.2)
  l_FORMS : (fa 30 == sysModules) = false
  o_FORMS : ∃ es n, K.lookup (fa 30) = some ⟨.type "dict", none, .dict es n, #[]⟩ ∧ PySem.W.KeysLit w.params es.toList
  x_CellError : PySem.OwnX.OwnTxt "CellError" K mg (ca 0) (ca 90)
  x_InvalidName : PySem.OwnX.OwnTxt "InvalidName" K mg (ca 1) (ca 90)
  x_InvalidTerm : PySem.OwnX.OwnTxt "InvalidTerm" K mg (ca 2) (ca 90)
  x_InvalidSaying : PySem.OwnX.OwnTxt "InvalidSaying" K mg (ca 3) (ca 90)
def b_within : En → Option Out := fSeq (fSh 3 (fLc (fItems (fTup (fCons (fVar 0) (fStar (fVar 1) (fCons (fVar 2) (fNil)))))) (hName 4) (fun en => tB1 ((fOp notND (fVar 4) (fC .non)) en)) (fVar 4) [4])) (fRet (fLc (fIt zipD (fCons (fVar 3) (fCons (fSl (fVar 3) (some (fC (.int 1))) none) (fNil)))) (hTL 2 (hCons (hName 5) (hCons (hName 6) (hNil)))) (fYes) (fTup (fCons (fC (.str "place")) (fCons (fVar 5) (fCons (fVar 6) (fNil))))) [5, 6]))
def F_within : List D → Option R := runF b_within 7
def b_moved : En → Option Out := fRet (fTup (fStar (fSl (fVar 0) none (some (fUn negD (fC (.int 1))))) (fCons (fOp addD (fOp ixD (fVar 0) (fUn negD (fC (.int 1)))) (fVar 1)) (fNil))))
def F_moved : List D → Option R := runF b_moved 2
def b_opposites : FS := fSeqS (fDropS (lft (fCall F_checked 1 (fCons (fVar 0) (fNil))))) (fSeqS (fSetS 2 (fZ false (lft (fOp ixD (fVar 0) (fC (.int 0)))))) (fSeqS (fIfSS (lftT (fun en => tB1 ((fOp inD (fVar 2) (fTup (fCons (fC (.str "place")) (fCons (fC (.str "value")) (fNil))))) en))) (fRetS (fLstS (fConsS true (lft (fLst (fCons (fTup (fCons (fVar 2) (fCons (fCall F_moved 2 (fCons (fOp ixD (fVar 0) (fC (.int 2))) (fCons (fC (.int 1)) (fNil)))) (fCons (fOp ixD (fVar 0) (fC (.int 1))) (fNil))))) (fNil)))) (fNilS)))) (fNxS)) (fSeqS (fSetS 3 (fZ false (lft (fTup (fCons (fOp ixD (fVar 1) (fC (.int 0))) (fCons (fC (.int 0)) (fNil))))))) (fSeqS (fSetS 4 (fZ false (lft (fTup (fCons (fOp ixD (fVar 1) (fC (.int 1))) (fCons (fC (.int 0)) (fNil))))))) (fSeqS (fIfSS (lftT (fun en => tB1 ((fOp eqD (fVar 2) (fC (.str "same"))) en))) (fSeqS (fAsgS (hTL 5 (hCons (hName 14) (hCons (hName 15) (hCons (hName 8) (hCons (hName 9) (hCons (hName 13) (hNil))))))) (fZ false (lft (fSl (fVar 0) (some (fC (.int 1))) none)))) (fSeqS (fSetS 5 (fZ false (lft (fCall F_within 3 (fCons (fVar 8) (fCons (fLst (fCons (fVar 3) (fNil))) (fCons (fVar 9) (fNil)))))))) (fSeqS (fSetS 6 (fZ false (fTupS (fConsS false (lft (fC (.str "value"))) (fConsS false (fTupS (fConsS false (lft (fVar 14)) (fConsS false (lft (fVar 3)) (fConsS true (lft (fOp addD (fVar 13) (fC (.int 1)))) (fNilS))))) (fConsS false (lft (fTup (fCons (fVar 15) (fCons (fVar 3) (fCons (fC (.int 0)) (fNil)))))) (fNilS))))))) (fRetS (fLstS (fConsS true (lft (fOp addD (fVar 5) (fLst (fCons (fVar 6) (fNil))))) (fConsS true (lft (fOp addD (fVar 5) (fLst (fCons (fTup (fCons (fC (.str "value")) (fCons (fTup (fCons (fVar 15) (fCons (fVar 3) (fCons (fC (.int 1)) (fNil))))) (fCons (fTup (fCons (fVar 14) (fCons (fVar 3) (fCons (fVar 13) (fNil))))) (fNil))))) (fNil))))) (fNilS)))))))) (fNxS)) (fSeqS (fAsgS (hTL 3 (hCons (hName 7) (hCons (hName 8) (hCons (hName 9) (hNil))))) (fZ false (lft (fSl (fVar 0) (some (fC (.int 1))) (some (fC (.int 4))))))) (fSeqS (fIfSS (lftT (fun en => tB1 ((fOp eqD (fVar 2) (fC (.str "rising"))) en))) (fRetS (fLstS (fConsS true (lft (fOp addD (fCall F_within 3 (fCons (fVar 8) (fCons (fLst (fCons (fVar 3) (fCons (fVar 4) (fNil)))) (fCons (fVar 9) (fNil))))) (fLst (fCons (fTup (fCons (fC (.str "value")) (fCons (fTup (fCons (fVar 7) (fCons (fVar 4) (fCons (fC (.int 1)) (fNil))))) (fCons (fTup (fCons (fVar 7) (fCons (fVar 3) (fCons (fC (.int 0)) (fNil))))) (fNil))))) (fNil))))) (fNilS)))) (fNxS)) (fSeqS (fSetS 5 (fZ false (lft (fCall F_within 3 (fCons (fVar 8) (fCons (fLst (fCons (fVar 3) (fNil))) (fCons (fVar 9) (fNil)))))))) (fSeqS (fIfSS (lftT (fun en => tB1 ((fOp eqD (fVar 2) (fC (.str "low"))) en))) (fRetS (fLstS (fConsS true (lft (fOp addD (fVar 5) (fLst (fCons (fTup (fCons (fC (.str "value")) (fCons (fTup (fCons (fVar 7) (fCons (fVar 3) (fCons (fC (.int 1)) (fNil))))) (fCons (fOp ixD (fVar 0) (fC (.int 4))) (fNil))))) (fNil))))) (fNilS)))) (fNxS)) (fSeqS (fIfSS (lftT (fun en => tB1 ((fOp eqD (fVar 2) (fC (.str "high"))) en))) (fRetS (fLstS (fConsS true (lft (fOp addD (fVar 5) (fLst (fCons (fTup (fCons (fC (.str "value")) (fCons (fCall F_moved 2 (fCons (fOp ixD (fVar 0) (fC (.int 4))) (fCons (fC (.int 1)) (fNil)))) (fCons (fTup (fCons (fVar 7) (fCons (fVar 3) (fCons (fC (.int 0)) (fNil))))) (fNil))))) (fNil))))) (fNilS)))) (fNxS)) (fSeqS (fAsgS (hTL 4 (hCons (hName 10) (hCons (hName 11) (hCons (hName 12) (hCons (hName 13) (hNil)))))) (fZ false (lft (fSl (fVar 0) (some (fC (.int 4))) none)))) (fRetS (fLstS (fConsS true (lft (fOp addD (fOp addD (fVar 5) (fCall F_within 3 (fCons (fVar 11) (fCons (fLst (fCons (fVar 4) (fNil))) (fCons (fVar 12) (fNil)))))) (fLst (fCons (fTup (fCons (fC (.str "value")) (fCons (fTup (fCons (fVar 10) (fCons (fVar 4) (fCons (fC (.int 1)) (fNil))))) (fCons (fTup (fCons (fVar 7) (fCons (fVar 3) (fCons (fVar 13) (fNil))))) (fNil))))) (fNil))))) (fNilS)))))))))))))))
def F_opposites : FF := runS b_opposites 16
def b_Lbetween : En → Option Out := fSeq (fSh 1 (fLc (fItems (fVar 0)) (hName 2) (fun en => tB1 ((fOp notND (fVar 2) (fC .non)) en)) (fVar 2) [2])) (fRet (fLc (fIt rng1D (fCons (fOp subD (fUn lenD (fVar 1)) (fC (.int 1))) (fNil))) (hName 3) (fYes) (fTup (fCons (fC (.str "place")) (fCons (fOp ixD (fVar 1) (fVar 3)) (fCons (fOp ixD (fVar 1) (fOp addD (fVar 3) (fC (.int 1)))) (fNil))))) [3]))
def F_Lbetween : List D → Option R := runF b_Lbetween 4
def b_Lplus : En → Option Out := fRet (fOp addD (fSl (fVar 0) none (some (fUn negD (fC (.int 1))))) (fTup (fCons (fOp addD (fOp ixD (fVar 0) (fUn negD (fC (.int 1)))) (fVar 1)) (fNil))))
def F_Lplus : List D → Option R := runF b_Lplus 2
def b_Ldue : En → Option Out := fSeq (fSh 2 (fOp ixD (fVar 0) (fC (.int 0)))) (fSeq (fSh 3 (fTup (fCons (fOp ixD (fVar 1) (fC (.int 0))) (fCons (fC (.int 0)) (fNil))))) (fSeq (fSh 4 (fTup (fCons (fOp ixD (fVar 1) (fC (.int 1))) (fCons (fC (.int 0)) (fNil))))) (fSeq (fIfS (fOrT (fun en => tB1 ((fOp eqD (fVar 2) (fC (.str "place"))) en)) (fun en => tB1 ((fOp eqD (fVar 2) (fC (.str "value"))) en))) (fRet (fLst (fCons (fLst (fCons (fTup (fCons (fVar 2) (fCons (fCall F_Lplus 2 (fCons (fOp ixD (fVar 0) (fC (.int 2))) (fCons (fC (.int 1)) (fNil)))) (fCons (fOp ixD (fVar 0) (fC (.int 1))) (fNil))))) (fNil))) (fNil)))) (fNx)) (fSeq (fSh 5 (fOp ixD (fVar 0) (fC (.int 1)))) (fSeq (fIfS (fun en => tB1 ((fOp eqD (fVar 2) (fC (.str "same"))) en)) (fSeq (fSh 6 (fCall F_Lbetween 1 (fCons (fLst (fCons (fOp ixD (fVar 0) (fC (.int 3))) (fCons (fVar 3) (fCons (fOp ixD (fVar 0) (fC (.int 4))) (fNil))))) (fNil)))) (fSeq (fSh 7 (fOp ixD (fVar 0) (fC (.int 5)))) (fSeq (fSh 8 (fTup (fCons (fC (.str "value")) (fCons (fTup (fCons (fVar 5) (fCons (fVar 3) (fCons (fOp addD (fVar 7) (fC (.int 1))) (fNil))))) (fCons (fTup (fCons (fOp ixD (fVar 0) (fC (.int 2))) (fCons (fVar 3) (fCons (fC (.int 0)) (fNil))))) (fNil)))))) (fRet (fLst (fCons (fOp addD (fVar 6) (fLst (fCons (fVar 8) (fNil)))) (fCons (fOp addD (fVar 6) (fLst (fCons (fTup (fCons (fC (.str "value")) (fCons (fTup (fCons (fOp ixD (fVar 0) (fC (.int 2))) (fCons (fVar 3) (fCons (fC (.int 1)) (fNil))))) (fCons (fTup (fCons (fVar 5) (fCons (fVar 3) (fCons (fVar 7) (fNil))))) (fNil))))) (fNil)))) (fNil)))))))) (fNx)) (fSeq (fIfS (fun en => tB1 ((fOp eqD (fVar 2) (fC (.str "rising"))) en)) (fRet (fLst (fCons (fOp addD (fCall F_Lbetween 1 (fCons (fLst (fCons (fOp ixD (fVar 0) (fC (.int 2))) (fCons (fVar 3) (fCons (fVar 4) (fCons (fOp ixD (fVar 0) (fC (.int 3))) (fNil)))))) (fNil))) (fLst (fCons (fTup (fCons (fC (.str "value")) (fCons (fTup (fCons (fVar 5) (fCons (fVar 4) (fCons (fC (.int 1)) (fNil))))) (fCons (fTup (fCons (fVar 5) (fCons (fVar 3) (fCons (fC (.int 0)) (fNil))))) (fNil))))) (fNil)))) (fNil)))) (fNx)) (fSeq (fSh 6 (fCall F_Lbetween 1 (fCons (fLst (fCons (fOp ixD (fVar 0) (fC (.int 2))) (fCons (fVar 3) (fCons (fOp ixD (fVar 0) (fC (.int 3))) (fNil))))) (fNil)))) (fSeq (fIfS (fun en => tB1 ((fOp eqD (fVar 2) (fC (.str "low"))) en)) (fRet (fLst (fCons (fOp addD (fVar 6) (fLst (fCons (fTup (fCons (fC (.str "value")) (fCons (fTup (fCons (fVar 5) (fCons (fVar 3) (fCons (fC (.int 1)) (fNil))))) (fCons (fOp ixD (fVar 0) (fC (.int 4))) (fNil))))) (fNil)))) (fNil)))) (fNx)) (fSeq (fIfS (fun en => tB1 ((fOp eqD (fVar 2) (fC (.str "high"))) en)) (fRet (fLst (fCons (fOp addD (fVar 6) (fLst (fCons (fTup (fCons (fC (.str "value")) (fCons (fCall F_Lplus 2 (fCons (fOp ixD (fVar 0) (fC (.int 4))) (fCons (fC (.int 1)) (fNil)))) (fCons (fTup (fCons (fVar 5) (fCons (fVar 3) (fCons (fC (.int 0)) (fNil))))) (fNil))))) (fNil)))) (fNil)))) (fNx)) (fSeq (fSh 6 (fOp addD (fVar 6) (fCall F_Lbetween 1 (fCons (fLst (fCons (fOp ixD (fVar 0) (fC (.int 5))) (fCons (fVar 4) (fCons (fOp ixD (fVar 0) (fC (.int 6))) (fNil))))) (fNil))))) (fRet (fLst (fCons (fOp addD (fVar 6) (fLst (fCons (fTup (fCons (fC (.str "value")) (fCons (fTup (fCons (fOp ixD (fVar 0) (fC (.int 4))) (fCons (fVar 4) (fCons (fC (.int 1)) (fNil))))) (fCons (fTup (fCons (fVar 5) (fCons (fVar 3) (fCons (fOp ixD (fVar 0) (fC (.int 7))) (fNil))))) (fNil))))) (fNil)))) (fNil))))))))))))))
def F_Ldue : List D → Option R := runF b_Ldue 9
def b_law : FS := fSeqS (fSetS 1 (fZ false (fCallS (F_Lrich_parts) 2 (fConsS false (lft (fVar 0)) (fConsS false (lft (fC (.int 0))) (fNilS)))))) (fSeqS (fSetS 2 (fZ false (lft (fCall F_Lscale 2 (fCons (fVar 0) (fCons (fC (.int 5)) (fNil))))))) (fSeqS (fSetS 3 (fZ false (lft (fSl (fCall F_Lnames 3 (fCons (fVar 0) (fCons (fC (.int 1)) (fCons (fC (.int 11)) (fNil))))) (some (fC (.int 9))) none)))) (fSeqS (fForS (lftI (fIt rng2D (fCons (fC (.int 7)) (fCons (fBn max2D (fCons (fC (.int 11)) (fCons (fBn min2D (fCons (fUn lenD (fVar 0)) (fCons (fC (.int 63)) (fNil)))) (fNil)))) (fNil))))) (hName 4) (fSeqS (fSetS 5 (fZ false (lft (fCall F_Lsaying 3 (fCons (fVar 0) (fCons (fVar 4) (fCons (fVar 1) (fNil)))))))) (fSeqS (fIfSS (lftT (fun en => tB1 ((fOp eqD (fOp modD (fUn intD (fVar 4)) (fC (.int 2))) (fC (.int 1))) en))) (fSetS 5 (fZ false (lft (fCall F_Lscaled_saying 2 (fCons (fVar 5) (fCons (fVar 2) (fNil))))))) (fNxS)) (fSeqS (fSetS 6 (fZ false (lft (fIf (fun en => tB1 ((fOp eqD (fOp modD (fUn intD (fOp fdivD (fVar 4) (fC (.int 2)))) (fC (.int 2))) (fC (.int 1))) en)) (fUn tupD (fVar 3)) (fTup (fCons (fOp ixD (fVar 3) (fC (.int 1))) (fCons (fOp ixD (fVar 3) (fC (.int 0))) (fNil)))))))) (fSeqS (fSetS 7 (fZ false (lft (fCall F_Ldue 2 (fCons (fVar 5) (fCons (fVar 6) (fNil))))))) (fSeqS (fSetS 8 (fZ true (fCallS (F_opposites) 2 (fConsS false (lft (fVar 5)) (fConsS false (lft (fVar 6)) (fNilS)))))) (fSeqS (fIfSS (fNotTS (truS (fSnap 9 (fCall F_Lsame 2 (fCons (fVar 8) (fCons (fVar 7) (fNil))))))) (fRetS (lft (fC (.bl false)))) (fNxS)) (fSeqS (fForS (lftI (fIt rng1D (fCons (fUn lenD (fVar 7)) (fNil)))) (hName 9) (fSeqS (fSetS 10 (fZ false (fOpS ixD (lft (fVar 8)) (lft (fVar 9))))) (fSeqS (fDropS (fMtS opApp (lft (fVar 10)) (fConsS false (lft (fVar 5)) (fNilS)))) (fIfSS (fNotTS (truS (fSnap 9 (fCall F_Lsame 2 (fCons (fVar 8) (fCons (fLc (fIt rng1D (fCons (fUn lenD (fVar 7)) (fNil))) (hName 11) (fYes) (fOp addD (fOp ixD (fVar 7) (fVar 11)) (fOp mulD (fLst (fCons (fVar 5) (fNil))) (fUn intD (fOp leD (fVar 11) (fVar 9))))) [11]) (fNil))))))) (fRetS (lft (fC (.bl false)))) (fNxS))))) (fSeqS (fDropS (fMtS opApp (lft (fVar 8)) (fConsS false (lft (fLst (fNil))) (fNilS)))) (fIfSS (fNotTS (truS (fCallS (ofG 9 F_Lsame) 2 (fConsS false (fCallS (fun ds S => (F_opposites) (permD [1, 0] ds) S) 2 (fConsS false (lft (fVar 6)) (fConsS false (lft (fVar 5)) (fNilS)))) (fConsS false (lft (fVar 7)) (fNilS)))))) (fRetS (lft (fC (.bl false)))) (fNxS))))))))))) (fRetS (lft (fC (.bl true)))))))
def F_law : FF := runS b_law 12
section
variable {P : Program} {w : World} {K : PySem.W.Frag} {mg : Str → Option Value} {base : Heap} {fa : Nat → Addr} {fd : Nat → FuncData} {ct : Nat → Tok} {ca : Nat → Addr} {l : List Addr}
theorem g_Lsame (T : Tx w K mg fa fd ct ca) : ∀ n : Nat, FnOk P w K mg base (L2.CX P w) (0 + n) (fa 0) (fd 0) ["_law_found", "_law_due_here"] (spD K ⟨⟨ca, none⟩, l⟩ 2 (G_Lsame n))
  | 0 => ⟨fun vs H Q E h => by rw [spD_len vs H Q E h]; rfl, fun A outer s H args us vs Q E _ _ _ _ h => by obtain ⟨_, _, _, _, _, _, e, _⟩ := h; cases e⟩
  | n + 1 => by
    have ih := g_Lsame T n
    refine fn_D (FB := b_Lsame (G_Lsame n)) T.F_Lsame sc_Lsame rfl (fun cdv A outer s H E G0 hr tk => ?_) (fun _ _ _ h => h)
    have hq : ∀ j : Nat, j ≤ 0 → j ≤ 0 + n := fun j h => Nat.le_trans h (Nat.le_add_right _ _)
    exact dss_cons (ds_if (dt_cmp is_ok (de_var (pv 1)) (de_non) (nomark _)) (dss_one (ds_ret (de_cmp is_ok (de_var (pv 0)) (de_non) (nomark _)))) (dss_nil)) (dss_cons (ds_if (dt_w (dw_or (dt_tru (de_isi (T := "bool") (by decide) (by rfl) T.n_isinstance (de_var (pv 1)) (pe_bltn (by rfl) T.n_bool (by decide +kernel) rfl))) (dw_or1 (dt_tru (de_isi (T := "bool") (by decide) (by rfl) T.n_isinstance (de_var (pv 0)) (pe_bltn (by rfl) T.n_bool (by decide +kernel) rfl)))))) (dss_one (ds_ret (de_and (de_isi (T := "bool") (by decide) (by rfl) T.n_isinstance (de_var (pv 1)) (pe_bltn (by rfl) T.n_bool (by decide +kernel) rfl)) (de_and (de_isi (T := "bool") (by decide) (by rfl) T.n_isinstance (de_var (pv 0)) (pe_bltn (by rfl) T.n_bool (by decide +kernel) rfl)) (de_one (de_cmp (eq_ok hr.units) (de_var (pv 0)) (de_var (pv 1)) (nomark _))))))) (dss_nil)) (dss_cons (ds_if (dt_tru (de_isi (T := "int") (by decide) (by rfl) T.n_isinstance (de_var (pv 1)) (pe_bltn (by rfl) T.n_int (by decide +kernel) rfl))) (dss_one (ds_ret (de_and (de_isi (T := "int") (by decide) (by rfl) T.n_isinstance (de_var (pv 0)) (pe_bltn (by rfl) T.n_int (by decide +kernel) rfl)) (de_one (de_cmp (eq_ok hr.units) (de_var (pv 0)) (de_var (pv 1)) (nomark _)))))) (dss_nil)) (dss_cons (ds_if (dt_tru (de_isi (T := "str") (by decide) (by rfl) T.n_isinstance (de_var (pv 1)) (pe_bltn (by rfl) T.n_str (by decide +kernel) rfl))) (dss_one (ds_ret (de_and (de_isi (T := "str") (by decide) (by rfl) T.n_isinstance (de_var (pv 0)) (pe_bltn (by rfl) T.n_str (by decide +kernel) rfl)) (de_one (de_cmp (eq_ok hr.units) (de_var (pv 0)) (de_var (pv 1)) (nomark _)))))) (dss_nil)) (dss_cons (ds_if (dt_tru (de_isi (T := "dict") (by decide) (by rfl) T.n_isinstance (de_var (pv 1)) (pe_bltn (by rfl) T.n_dict (by decide +kernel) rfl))) (dss_cons (ds_if (dt_w (dw_or (dt_not (dt_tru (de_isi (T := "dict") (by decide) (by rfl) T.n_isinstance (de_var (pv 0)) (pe_bltn (by rfl) T.n_dict (by decide +kernel) rfl)))) (dw_or1 (dt_cmp (ne_ok hr.units) (de_b1 len_ok (by rfl) T.n_len (by decide +kernel) (de_var (pv 0))) (de_b1 len_ok (by rfl) T.n_len (by decide +kernel) (de_var (pv 1))) (nomark _))))) (dss_one (ds_ret (de_bl))) (dss_nil)) (dss_one (ds_ret (de_b1 (all_ok rfl) (by rfl) T.n_all (by decide +kernel) (de_lc (own := [("_law_key", 2)]) rfl sc_Lsame.nd (di_items (de_var (pv 1))) (blkOk_by (own := [("_law_key", 2)]) (N := N_Lsame) (sc := defScope s_Lsame) (by decide +kernel)) (dg_name 2) (by decide) (fun _ _ _ _ _ => pg_name (i := 2) sc_Lsame.nd rfl (by first | exact Or.inl rfl | exact Or.inr rfl)) (fun _ _ _ _ _ => dts_nil) (fun _ _ _ _ _ => de_and (de_cmp (in_ok (hu_of hr)) (de_var (pv 2)) (de_var (pv 0)) (by rfl)) (de_one (de_call ih hr (by rfl) T.g_Lsame T.F_Lsame.kp T.b_Lsame takes0 (da_cons (de_ix (hu_of hr) (de_var (pv 0)) (de_var (pv 2))) (da_cons (de_ix (hu_of hr) (de_var (pv 1)) (de_var (pv 2))) (da_nil))))))))))) (dss_nil)) (dss_cons (ds_if (dt_w (dw_or (dt_cmp (ne_ok hr.units) (de_isi (T := "list") (by decide) (by rfl) T.n_isinstance (de_var (pv 1)) (pe_bltn (by rfl) T.n_list (by decide +kernel) rfl)) (de_isi (T := "list") (by decide) (by rfl) T.n_isinstance (de_var (pv 0)) (pe_bltn (by rfl) T.n_list (by decide +kernel) rfl)) (nomark _)) (dw_or1 (dt_cmp (ne_ok hr.units) (de_isi (T := "tuple") (by decide) (by rfl) T.n_isinstance (de_var (pv 1)) (pe_bltn (by rfl) T.n_tuple (by decide +kernel) rfl)) (de_isi (T := "tuple") (by decide) (by rfl) T.n_isinstance (de_var (pv 0)) (pe_bltn (by rfl) T.n_tuple (by decide +kernel) rfl)) (nomark _))))) (dss_one (ds_ret (de_bl))) (dss_nil)) (dss_cons (ds_if (dt_cmp (ne_ok hr.units) (de_b1 len_ok (by rfl) T.n_len (by decide +kernel) (de_var (pv 0))) (de_b1 len_ok (by rfl) T.n_len (by decide +kernel) (de_var (pv 1))) (nomark _)) (dss_one (ds_ret (de_bl))) (dss_nil)) (dss_one (ds_ret (de_b1 (all_ok rfl) (by rfl) T.n_all (by decide +kernel) (de_lc (own := [("_law_k", 3)]) rfl sc_Lsame.nd (di_rng1 (by rfl) T.n_range (da_cons (de_b1 len_ok (by rfl) T.n_len (by decide +kernel) (de_var (pv 1))) (da_nil))) (blkOk_by (own := [("_law_k", 3)]) (N := N_Lsame) (sc := defScope s_Lsame) (by decide +kernel)) (dg_name 3) (by decide) (fun _ _ _ _ _ => pg_name (i := 3) sc_Lsame.nd rfl (by first | exact Or.inl rfl | exact Or.inr rfl)) (fun _ _ _ _ _ => dts_nil) (fun _ _ _ _ _ => de_call ih hr (by rfl) T.g_Lsame T.F_Lsame.kp T.b_Lsame takes0 (da_cons (de_ix (hu_of hr) (de_var (pv 0)) (de_var (pv 3))) (da_cons (de_ix (hu_of hr) (de_var (pv 1)) (de_var (pv 3))) (da_nil))))))))))))))
theorem w_Lsame (T : Tx w K mg fa fd ct ca) : FnOk P w K mg base (L2.CX P w) 8 (fa 0) (fd 0) ["_law_found", "_law_due_here"] (spD K ⟨⟨ca, none⟩, l⟩ 2 F_Lsame) := g_Lsame T 8
theorem w_within (T : Tx w K mg fa fd ct ca) : FnOk P w K mg base (L2.CX P w) 1 (fa 1) (fd 1) ["p", "terms", "q"] (spD K ⟨⟨ca, none⟩, l⟩ 3 F_within) :=
  fn_D (FB := b_within) T.F_within sc_within rfl (fun cdv A outer s H E G0 hr tk =>
    dss_cons ((by first | exact ds_shLc (dg_name 4) (by decide) (ps_setLc (i := 3) (own := [("term", 4)]) rfl sc_within.nd rfl rfl (sw_true rfl rfl rfl (by decide +kernel)) (di_items (de_tup (da_cons (de_var (pv 0)) (da_star (de_var (pv 1)) (da_cons (de_var (pv 2)) (da_nil)))))) (blkOk_by (own := [("term", 4)]) (N := N_within) (sc := defScope s_within) (by decide +kernel)) (fun _ _ _ _ _ => pg_name (i := 4) sc_within.nd rfl (by first | exact Or.inl rfl | exact Or.inr rfl)) (fun _ _ _ _ _ => dts_one (dt_cmp isnot_ok (de_var (pv 4)) (de_non) (nomark _))) (fun _ _ _ _ _ => de_z (de_var (pv 4)))) | exact ds_sh (ps_set (i := 3) sc_within.nd rfl (by first | exact Or.inl rfl | exact Or.inr rfl) (de_z (de_lc (own := [("term", 4)]) rfl sc_within.nd (di_items (de_tup (da_cons (de_var (pv 0)) (da_star (de_var (pv 1)) (da_cons (de_var (pv 2)) (da_nil)))))) (blkOk_by (own := [("term", 4)]) (N := N_within) (sc := defScope s_within) (by decide +kernel)) (dg_name 4) (by decide) (fun _ _ _ _ _ => pg_name (i := 4) sc_within.nd rfl (by first | exact Or.inl rfl | exact Or.inr rfl)) (fun _ _ _ _ _ => dts_one (dt_cmp isnot_ok (de_var (pv 4)) (de_non) (nomark _))) (fun _ _ _ _ _ => de_var (pv 4))))))) (dss_one (ds_ret (de_lc (own := [("one", 5), ("other", 6)]) rfl sc_within.nd (di_zip (by rfl) T.n_zip (da_cons (de_var (pv 3)) (da_cons (de_sl (de_var (pv 3)) (do_some (de_int)) do_none) (da_nil)))) (blkOk_by (own := [("one", 5), ("other", 6)]) (N := N_within) (sc := defScope s_within) (by decide +kernel)) (dg_tl (n := 2) (dgs_cons (dg_name 5) (dgs_cons (dg_name 6) (dgs_nil)))) (by decide) (fun _ _ _ _ _ => PG.or (pg_tup rfl (pgs_cons (pg_name (i := 5) sc_within.nd rfl (by first | exact Or.inl rfl | exact Or.inr rfl)) (pgs_cons (pg_name (i := 6) sc_within.nd rfl (by first | exact Or.inl rfl | exact Or.inr rfl)) (pgs_nil)))) (pg_unl rfl (pgs_cons (pg_name (i := 5) sc_within.nd rfl (by first | exact Or.inl rfl | exact Or.inr rfl)) (pgs_cons (pg_name (i := 6) sc_within.nd rfl (by first | exact Or.inl rfl | exact Or.inr rfl)) (pgs_nil))))) (fun _ _ _ _ _ => dts_nil) (fun _ _ _ _ _ => de_tup (da_cons (de_str) (da_cons (de_var (pv 5)) (da_cons (de_var (pv 6)) (da_nil))))))))) (fun _ _ _ h => h)
theorem w_moved (T : Tx w K mg fa fd ct ca) : FnOk P w K mg base (L2.CX P w) 1 (fa 2) (fd 2) ["term", "by"] (spD K ⟨⟨ca, none⟩, l⟩ 2 F_moved) :=
  fn_D (FB := b_moved) T.F_moved sc_moved rfl (fun cdv A outer s H E G0 hr tk =>
    dss_one (ds_ret (de_tup (da_star (de_sl (de_var (pv 0)) do_none (do_some (de_un un_ok (de_int)))) (da_cons (de_op add_ok (de_ix (hu_of hr) (de_var (pv 0)) (de_un un_ok (de_int))) (de_var (pv 1))) (da_nil)))))) (fun _ _ _ h => h)
theorem w_is_name (T : Tx w K mg fa fd ct ca) : FnOk P w K mg base (L2.CX P w) 1 (fa 3) (fd 3) ["thing"] (spD K ⟨⟨ca, none⟩, l⟩ 1 F_is_name) :=
  fn_D (FB := b_is_name) T.F_is_name sc_is_name rfl (fun cdv A outer s H E G0 hr tk =>
    dss_cons (ds_if (dt_w (dw_or (dt_not (dt_tru (de_isi (T := "str") (by decide) (by rfl) T.n_isinstance (de_var (pv 0)) (pe_bltn (by rfl) T.n_str (by decide +kernel) rfl)))) (dw_or (dt_cmp (eq_ok hr.units) (de_var (pv 0)) (de_str) (nomark _)) (dw_or1 (dt_cmp gt_ok (de_b1 len_ok (by rfl) T.n_len (by decide +kernel) (de_var (pv 0))) (de_int) (nomark _)))))) (dss_one (ds_ret (de_bl))) (dss_nil)) (dss_cons (ds_for (passes_of rfl) rfl (di_items (de_var (pv 0))) (pg_name (i := 1) sc_is_name.nd rfl (by first | exact Or.inl rfl | exact Or.inr rfl)) (dg_name 1) (dss_one (ds_if (dt_cmp (notin_ok (hu_of hr)) (de_var (pv 1)) (de_c (v := .str "abcdefghijklmnopqrstuvwxyz") (pe_glob (by rfl) T.c_LETTERS ⟨_, rfl⟩) (fun _ => .str _)) (by rfl)) (dss_one (ds_ret (de_bl))) (dss_nil)))) (dss_one (ds_ret (de_bl))))) (fun _ _ _ h => h)
theorem g_copied (T : Tx w K mg fa fd ct ca) : ∀ n : Nat, FnOk P w K mg base (L2.CX P w) (0 + n) (fa 4) (fd 4) ["thing"] (spD K ⟨⟨ca, none⟩, l⟩ 1 (G_copied n))
  | 0 => ⟨fun vs H Q E h => by rw [spD_len vs H Q E h]; rfl, fun A outer s H args us vs Q E _ _ _ _ h => by obtain ⟨_, _, _, _, _, _, e, _⟩ := h; cases e⟩
  | n + 1 => by
    have ih := g_copied T n
    refine fn_D (FB := b_copied (G_copied n)) T.F_copied sc_copied rfl (fun cdv A outer s H E G0 hr tk => ?_) (fun _ _ _ h => h)
    have hq : ∀ j : Nat, j ≤ 0 → j ≤ 0 + n := fun j h => Nat.le_trans h (Nat.le_add_right _ _)
    exact dss_cons (ds_if (dt_tru (de_isi (T := "list") (by decide) (by rfl) T.n_isinstance (de_var (pv 0)) (pe_bltn (by rfl) T.n_list (by decide +kernel) rfl))) (dss_one (ds_ret (de_lc (own := [("part", 1)]) rfl sc_copied.nd (di_items (de_var (pv 0))) (blkOk_by (own := [("part", 1)]) (N := N_copied) (sc := defScope s_copied) (by decide +kernel)) (dg_name 1) (by decide) (fun _ _ _ _ _ => pg_name (i := 1) sc_copied.nd rfl (by first | exact Or.inl rfl | exact Or.inr rfl)) (fun _ _ _ _ _ => dts_nil) (fun _ _ _ _ _ => de_call ih hr (by rfl) T.g_copied T.F_copied.kp T.b_copied takes0 (da_cons (de_var (pv 1)) (da_nil)))))) (dss_nil)) (dss_cons (ds_if (dt_tru (de_isi (T := "tuple") (by decide) (by rfl) T.n_isinstance (de_var (pv 0)) (pe_bltn (by rfl) T.n_tuple (by decide +kernel) rfl))) (dss_one (ds_ret (de_t1 tup_ok (by rfl) T.n_tuple (by decide +kernel) (de_lc (own := [("part", 1)]) rfl sc_copied.nd (di_items (de_var (pv 0))) (blkOk_by (own := [("part", 1)]) (N := N_copied) (sc := defScope s_copied) (by decide +kernel)) (dg_name 1) (by decide) (fun _ _ _ _ _ => pg_name (i := 1) sc_copied.nd rfl (by first | exact Or.inl rfl | exact Or.inr rfl)) (fun _ _ _ _ _ => dts_nil) (fun _ _ _ _ _ => de_call ih hr (by rfl) T.g_copied T.F_copied.kp T.b_copied takes0 (da_cons (de_var (pv 1)) (da_nil))))))) (dss_nil)) (dss_one (ds_retV (pv 0))))
theorem w_copied (T : Tx w K mg fa fd ct ca) : FnOk P w K mg base (L2.CX P w) 8 (fa 4) (fd 4) ["thing"] (spD K ⟨⟨ca, none⟩, l⟩ 1 F_copied) := g_copied T 8
theorem w_is_whole (T : Tx w K mg fa fd ct ca) : FnOk P w K mg base (L2.CX P w) 1 (fa 5) (fd 5) ["thing"] (spD K ⟨⟨ca, none⟩, l⟩ 1 F_is_whole) :=
  fn_D (FB := b_is_whole) T.F_is_whole sc_is_whole rfl (fun cdv A outer s H E G0 hr tk =>
    dss_one (ds_ret (de_and (de_isi (T := "int") (by decide) (by rfl) T.n_isinstance (de_var (pv 0)) (pe_bltn (by rfl) T.n_int (by decide +kernel) rfl)) (de_one (de_not (de_isi (T := "bool") (by decide) (by rfl) T.n_isinstance (de_var (pv 0)) (pe_bltn (by rfl) T.n_bool (by decide +kernel) rfl))))))) (fun _ _ _ h => h)
theorem w_is_place_term (T : Tx w K mg fa fd ct ca) : FnOk P w K mg base (L2.CX P w) 2 (fa 6) (fd 6) ["thing"] (spD K ⟨⟨ca, none⟩, l⟩ 1 F_is_place_term) :=
  fn_D (FB := b_is_place_term) T.F_is_place_term sc_is_place_term rfl (fun cdv A outer s H E G0 hr tk =>
    dss_cons (ds_if (dt_w (dw_or (dt_not (dt_tru (de_isi (T := "tuple") (by decide) (by rfl) T.n_isinstance (de_var (pv 0)) (pe_bltn (by rfl) T.n_tuple (by decide +kernel) rfl)))) (dw_or1 (dt_cmp (ne_ok hr.units) (de_b1 len_ok (by rfl) T.n_len (by decide +kernel) (de_var (pv 0))) (de_int) (nomark _))))) (dss_one (ds_ret (de_bl))) (dss_nil)) (dss_one (ds_ret (de_and (de_or (de_cmp (eq_ok hr.units) (de_ix (hu_of hr) (de_var (pv 0)) (de_int)) (de_str) (nomark _)) (de_one (de_call (w_is_name T) (hr.mono (by decide)) (by rfl) T.g_is_name T.F_is_name.kp T.b_is_name tk (da_cons (de_ix (hu_of hr) (de_var (pv 0)) (de_int)) (da_nil))))) (de_one (de_call (w_is_whole T) (hr.mono (by decide)) (by rfl) T.g_is_whole T.F_is_whole.kp T.b_is_whole tk (da_cons (de_ix (hu_of hr) (de_var (pv 0)) (de_int)) (da_nil)))))))) (fun _ _ _ h => h)
theorem w_is_value_term (T : Tx w K mg fa fd ct ca) : FnOk P w K mg base (L2.CX P w) 3 (fa 7) (fd 7) ["thing"] (spD K ⟨⟨ca, none⟩, l⟩ 1 F_is_value_term) :=
  fn_D (FB := b_is_value_term) T.F_is_value_term sc_is_value_term rfl (fun cdv A outer s H E G0 hr tk =>
    dss_cons (ds_if (dt_w (dw_or (dt_not (dt_tru (de_isi (T := "tuple") (by decide) (by rfl) T.n_isinstance (de_var (pv 0)) (pe_bltn (by rfl) T.n_tuple (by decide +kernel) rfl)))) (dw_or1 (dt_cmp (ne_ok hr.units) (de_b1 len_ok (by rfl) T.n_len (by decide +kernel) (de_var (pv 0))) (de_int) (nomark _))))) (dss_one (ds_ret (de_call (w_is_place_term T) (hr.mono (by decide)) (by rfl) T.g_is_place_term T.F_is_place_term.kp T.b_is_place_term tk (da_cons (de_var (pv 0)) (da_nil))))) (dss_nil)) (dss_one (ds_ret (de_and (de_call (w_is_name T) (hr.mono (by decide)) (by rfl) T.g_is_name T.F_is_name.kp T.b_is_name tk (da_cons (de_ix (hu_of hr) (de_var (pv 0)) (de_int)) (da_nil))) (de_and (de_call (w_is_place_term T) (hr.mono (by decide)) (by rfl) T.g_is_place_term T.F_is_place_term.kp T.b_is_place_term tk (da_cons (de_ix (hu_of hr) (de_var (pv 0)) (de_int)) (da_nil))) (de_one (de_call (w_is_whole T) (hr.mono (by decide)) (by rfl) T.g_is_whole T.F_is_whole.kp T.b_is_whole tk (da_cons (de_ix (hu_of hr) (de_var (pv 0)) (de_int)) (da_nil))))))))) (fun _ _ _ h => h)
theorem w_check_place_term (T : Tx w K mg fa fd ct ca) : FnOk P w K mg base (L2.CX P w) 9 (fa 8) (fd 8) ["thing"] (spD K ⟨⟨ca, none⟩, l⟩ 1 F_check_place_term) :=
  fn_D (FB := b_check_place_term) T.F_check_place_term sc_check_place_term rfl (fun cdv A outer s H E G0 hr tk =>
    dss_one (ds_if (dt_not (dt_tru (de_call (w_is_place_term T) (hr.mono (by decide)) (by rfl) T.g_is_place_term T.F_is_place_term.kp T.b_is_place_term tk (da_cons (de_var (pv 0)) (da_nil))))) (dss_one (ds_raise (c := 2) (ps_raiseV rfl T.x_InvalidTerm hr tk (da_cons (de_call (w_copied T) (hr.mono (by decide)) (by rfl) T.g_copied T.F_copied.kp T.b_copied tk (da_cons (de_var (pv 0)) (da_nil))) (da_nil))))) (dss_nil))) (fun _ _ _ h => h)
theorem w_check_value_term (T : Tx w K mg fa fd ct ca) : FnOk P w K mg base (L2.CX P w) 10 (fa 9) (fd 9) ["thing"] (spD K ⟨⟨ca, none⟩, l⟩ 1 F_check_value_term) :=
  fn_D (FB := b_check_value_term) T.F_check_value_term sc_check_value_term rfl (fun cdv A outer s H E G0 hr tk =>
    dss_cons (ds_if (dt_w (dw_and (dt_tru (de_isi (T := "tuple") (by decide) (by rfl) T.n_isinstance (de_var (pv 0)) (pe_bltn (by rfl) T.n_tuple (by decide +kernel) rfl))) (dw_and1 (dt_cmp (eq_ok hr.units) (de_b1 len_ok (by rfl) T.n_len (by decide +kernel) (de_var (pv 0))) (de_int) (nomark _))))) (dss_one (ds_drop (ps_expr (de_call (w_check_place_term T) (hr.mono (by decide)) (by rfl) T.g_check_place_term T.F_check_place_term.kp T.b_check_place_term tk (da_cons (de_ix (hu_of hr) (de_var (pv 0)) (de_int)) (da_nil)))))) (dss_nil)) (dss_one (ds_if (dt_not (dt_tru (de_call (w_is_value_term T) (hr.mono (by decide)) (by rfl) T.g_is_value_term T.F_is_value_term.kp T.b_is_value_term tk (da_cons (de_var (pv 0)) (da_nil))))) (dss_one (ds_raise (c := 2) (ps_raiseV rfl T.x_InvalidTerm hr tk (da_cons (de_call (w_copied T) (hr.mono (by decide)) (by rfl) T.g_copied T.F_copied.kp T.b_copied tk (da_cons (de_var (pv 0)) (da_nil))) (da_nil))))) (dss_nil)))) (fun _ _ _ h => h)
theorem w_check_part (T : Tx w K mg fa fd ct ca) : FnOk P w K mg base (L2.CX P w) 11 (fa 10) (fd 10) ["kind", "part"] (spD K ⟨⟨ca, none⟩, l⟩ 2 F_check_part) :=
  fn_D (FB := b_check_part) T.F_check_part sc_check_part rfl (fun cdv A outer s H E G0 hr tk =>
    dss_cons (ds_if (dt_w (dw_or (dt_cmp (eq_ok hr.units) (de_var (pv 0)) (de_str) (nomark _)) (dw_or1 (dt_w (dw_and (dt_cmp (eq_ok hr.units) (de_var (pv 0)) (de_str) (nomark _)) (dw_and1 (dt_cmp isnot_ok (de_var (pv 1)) (de_non) (nomark _)))))))) (dss_one (ds_drop (ps_expr (de_call (w_check_place_term T) (hr.mono (by decide)) (by rfl) T.g_check_place_term T.F_check_place_term.kp T.b_check_place_term tk (da_cons (de_var (pv 1)) (da_nil)))))) (dss_nil)) (dss_cons (ds_if (dt_cmp (eq_ok hr.units) (de_var (pv 0)) (de_str) (nomark _)) (dss_one (ds_drop (ps_expr (de_call (w_check_value_term T) (hr.mono (by decide)) (by rfl) T.g_check_value_term T.F_check_value_term.kp T.b_check_value_term tk (da_cons (de_var (pv 1)) (da_nil)))))) (dss_nil)) (dss_one (ds_if (dt_w (dw_and (dt_cmp (eq_ok hr.units) (de_var (pv 0)) (de_str) (nomark _)) (dw_and1 (dt_not (dt_tru (de_call (w_is_name T) (hr.mono (by decide)) (by rfl) T.g_is_name T.F_is_name.kp T.b_is_name tk (da_cons (de_var (pv 1)) (da_nil)))))))) (dss_one (ds_raise (c := 1) (ps_raiseV rfl T.x_InvalidName hr tk (da_cons (de_call (w_copied T) (hr.mono (by decide)) (by rfl) T.g_copied T.F_copied.kp T.b_copied tk (da_cons (de_var (pv 1)) (da_nil))) (da_nil))))) (dss_nil))))) (fun _ _ _ h => h)
theorem w_checked (T : Tx w K mg fa fd ct ca) : FnOk P w K mg base (L2.CX P w) 12 (fa 11) (fd 11) ["saying"] (spD K ⟨⟨ca, none⟩, l⟩ 1 F_checked) :=
  fn_D (FB := b_checked) T.F_checked sc_checked rfl (fun cdv A outer s H E G0 hr tk =>
    dss_cons (ds_if (dt_w (dw_or (dt_not (dt_tru (de_isi (T := "tuple") (by decide) (by rfl) T.n_isinstance (de_var (pv 0)) (pe_bltn (by rfl) T.n_tuple (by decide +kernel) rfl)))) (dw_or (dt_cmp (eq_ok hr.units) (de_var (pv 0)) (de_tup (da_nil)) (nomark _)) (dw_or1 (dt_not (dt_tru (de_isi (T := "str") (by decide) (by rfl) T.n_isinstance (de_ix (hu_of hr) (de_var (pv 0)) (de_int)) (pe_bltn (by rfl) T.n_str (by decide +kernel) rfl)))))))) (dss_one (ds_raise (c := 3) (ps_raiseV rfl T.x_InvalidSaying hr tk (da_cons (de_call (w_copied T) (hr.mono (by decide)) (by rfl) T.g_copied T.F_copied.kp T.b_copied tk (da_cons (de_var (pv 0)) (da_nil))) (da_nil))))) (dss_nil)) (dss_cons (ds_sh (ps_set (i := 1) sc_checked.nd rfl (by first | exact Or.inl rfl | exact Or.inr rfl) (de_z (de_tabG (pe_glob (by rfl) T.d_FORMS rfl) T.l_FORMS T.o_FORMS (look_all T.e_FORMS) (de_ix (hu_of hr) (de_var (pv 0)) (de_int)) (de_str) ⟨rfl, rfl, rfl, rfl⟩)))) (dss_cons (ds_if (dt_w (dw_or (dt_cmp (eq_ok hr.units) (de_var (pv 1)) (de_str) (nomark _)) (dw_or1 (dt_cmp (ne_ok hr.units) (de_b1 len_ok (by rfl) T.n_len (by decide +kernel) (de_var (pv 0))) (de_op add_ok (de_int) (de_b1 len_ok (by rfl) T.n_len (by decide +kernel) (de_var (pv 1)))) (nomark _))))) (dss_one (ds_raise (c := 3) (ps_raiseV rfl T.x_InvalidSaying hr tk (da_cons (de_call (w_copied T) (hr.mono (by decide)) (by rfl) T.g_copied T.F_copied.kp T.b_copied tk (da_cons (de_var (pv 0)) (da_nil))) (da_nil))))) (dss_nil)) (dss_cons (ds_if (dt_w (dw_and (dt_cmp (eq_ok hr.units) (de_ix (hu_of hr) (de_var (pv 1)) (de_un un_ok (de_int))) (de_str) (nomark _)) (dw_and1 (dt_not (dt_tru (de_call (w_is_whole T) (hr.mono (by decide)) (by rfl) T.g_is_whole T.F_is_whole.kp T.b_is_whole tk (da_cons (de_ix (hu_of hr) (de_var (pv 0)) (de_un un_ok (de_int))) (da_nil)))))))) (dss_one (ds_raise (c := 3) (ps_raiseV rfl T.x_InvalidSaying hr tk (da_cons (de_call (w_copied T) (hr.mono (by decide)) (by rfl) T.g_copied T.F_copied.kp T.b_copied tk (da_cons (de_var (pv 0)) (da_nil))) (da_nil))))) (dss_nil)) (dss_cons (ds_for (passes_of rfl) rfl (di_zip (by rfl) T.n_zip (da_cons (de_var (pv 1)) (da_cons (de_sl (de_var (pv 0)) (do_some (de_int)) do_none) (da_nil)))) (PG.or (pg_tup rfl (pgs_cons (pg_name (i := 2) sc_checked.nd rfl (by first | exact Or.inl rfl | exact Or.inr rfl)) (pgs_cons (pg_name (i := 3) sc_checked.nd rfl (by first | exact Or.inl rfl | exact Or.inr rfl)) (pgs_nil)))) (pg_unl rfl (pgs_cons (pg_name (i := 2) sc_checked.nd rfl (by first | exact Or.inl rfl | exact Or.inr rfl)) (pgs_cons (pg_name (i := 3) sc_checked.nd rfl (by first | exact Or.inl rfl | exact Or.inr rfl)) (pgs_nil))))) (dg_tl (n := 2) (dgs_cons (dg_name 2) (dgs_cons (dg_name 3) (dgs_nil)))) (dss_one (ds_drop (ps_expr (de_call (w_check_part T) (hr.mono (by decide)) (by rfl) T.g_check_part T.F_check_part.kp T.b_check_part tk (da_cons (de_var (pv 2)) (da_cons (de_var (pv 3)) (da_nil)))))))) (dss_one (ds_retV (pv 0)))))))) (fun _ _ _ h => h)
theorem w_opposites (T : Tx w K mg fa fd ct ca) : FnOk P w K mg base (L2.CX P w) 13 (fa 12) (fd 12) ["saying", "fresh"] (spS K ⟨ca, none⟩ 2 F_opposites) :=
  fn_S (FB := b_opposites) T.F_opposites sc_opposites rfl (fun cdv A outer s H E hr tk =>
    jss_cons (js_drop (ps_expr (je_lft (fun l => de_call (w_checked T) (hr.mono (by decide)) (by rfl) T.g_checked T.F_checked.kp T.b_checked tk (da_cons (de_var (pv 0)) (da_nil)))))) (jss_cons (js_set (ps_set (i := 2) sc_opposites.nd rfl (by first | exact Or.inl rfl | exact Or.inr rfl) (je_z false (je_lft (fun l => de_ix (hu_of hr) (de_var (pv 0)) (de_int)))))) (jss_cons (js_if (jt_lft (fun l => dt_cmp (in_ok (hu_of hr)) (de_var (pv 2)) (de_tup (da_cons (de_str) (da_cons (de_str) (da_nil)))) (by rfl))) (jss_one (js_ret (je_lst (ja_cons true (je_lft (fun l => de_lst (da_cons (de_tup (da_cons (de_var (pv 2)) (da_cons (de_call (w_moved T) (hr.mono (by decide)) (by rfl) T.g_moved T.F_moved.kp T.b_moved tk (da_cons (de_ix (hu_of hr) (de_var (pv 0)) (de_int)) (da_cons (de_int) (da_nil)))) (da_cons (de_ix (hu_of hr) (de_var (pv 0)) (de_int)) (da_nil))))) (da_nil)))) (ja_nil))))) (jss_nil)) (jss_cons (js_set (ps_set (i := 3) sc_opposites.nd rfl (by first | exact Or.inl rfl | exact Or.inr rfl) (je_z false (je_lft (fun l => de_tup (da_cons (de_ix (hu_of hr) (de_var (pv 1)) (de_int)) (da_cons (de_int) (da_nil)))))))) (jss_cons (js_set (ps_set (i := 4) sc_opposites.nd rfl (by first | exact Or.inl rfl | exact Or.inr rfl) (je_z false (je_lft (fun l => de_tup (da_cons (de_ix (hu_of hr) (de_var (pv 1)) (de_int)) (da_cons (de_int) (da_nil)))))))) (jss_cons (js_if (jt_lft (fun l => dt_cmp (eq_ok hr.units) (de_var (pv 2)) (de_str) (nomark _))) (jss_cons (js_asg (fun l => dg_tl (n := 5) (dgs_cons (dg_name 14) (dgs_cons (dg_name 15) (dgs_cons (dg_name 8) (dgs_cons (dg_name 9) (dgs_cons (dg_name 13) (dgs_nil))))))) (ps_asg (je_z false (je_lft (fun l => de_sl (de_var (pv 0)) (do_some (de_int)) do_none))) (PG.or (pg_tup rfl (pgs_cons (pg_name (i := 14) sc_opposites.nd rfl (by first | exact Or.inl rfl | exact Or.inr rfl)) (pgs_cons (pg_name (i := 15) sc_opposites.nd rfl (by first | exact Or.inl rfl | exact Or.inr rfl)) (pgs_cons (pg_name (i := 8) sc_opposites.nd rfl (by first | exact Or.inl rfl | exact Or.inr rfl)) (pgs_cons (pg_name (i := 9) sc_opposites.nd rfl (by first | exact Or.inl rfl | exact Or.inr rfl)) (pgs_cons (pg_name (i := 13) sc_opposites.nd rfl (by first | exact Or.inl rfl | exact Or.inr rfl)) (pgs_nil))))))) (pg_unl rfl (pgs_cons (pg_name (i := 14) sc_opposites.nd rfl (by first | exact Or.inl rfl | exact Or.inr rfl)) (pgs_cons (pg_name (i := 15) sc_opposites.nd rfl (by first | exact Or.inl rfl | exact Or.inr rfl)) (pgs_cons (pg_name (i := 8) sc_opposites.nd rfl (by first | exact Or.inl rfl | exact Or.inr rfl)) (pgs_cons (pg_name (i := 9) sc_opposites.nd rfl (by first | exact Or.inl rfl | exact Or.inr rfl)) (pgs_cons (pg_name (i := 13) sc_opposites.nd rfl (by first | exact Or.inl rfl | exact Or.inr rfl)) (pgs_nil)))))))))) (jss_cons (js_set (ps_set (i := 5) sc_opposites.nd rfl (by first | exact Or.inl rfl | exact Or.inr rfl) (je_z false (je_lft (fun l => de_call (w_within T) (hr.mono (by decide)) (by rfl) T.g_within T.F_within.kp T.b_within tk (da_cons (de_var (pv 8)) (da_cons (de_lst (da_cons (de_var (pv 3)) (da_nil))) (da_cons (de_var (pv 9)) (da_nil))))))))) (jss_cons (js_set (ps_set (i := 6) sc_opposites.nd rfl (by first | exact Or.inl rfl | exact Or.inr rfl) (je_z false (je_tup (ja_cons false (je_lft (fun l => de_str)) (ja_cons false (je_tup (ja_cons false (je_lft (fun l => de_var (pv 14))) (ja_cons false (je_lft (fun l => de_var (pv 3))) (ja_cons true (je_lft (fun l => de_op add_ok (de_var (pv 13)) (de_int))) (ja_nil))))) (ja_cons false (je_lft (fun l => de_tup (da_cons (de_var (pv 15)) (da_cons (de_var (pv 3)) (da_cons (de_int) (da_nil)))))) (ja_nil)))))))) (jss_one (js_ret (je_lst (ja_cons true (je_lft (fun l => de_op add_ok (de_var (pv 5)) (de_lst (da_cons (de_var (pv 6)) (da_nil))))) (ja_cons true (je_lft (fun l => de_op add_ok (de_var (pv 5)) (de_lst (da_cons (de_tup (da_cons (de_str) (da_cons (de_tup (da_cons (de_var (pv 15)) (da_cons (de_var (pv 3)) (da_cons (de_int) (da_nil))))) (da_cons (de_tup (da_cons (de_var (pv 14)) (da_cons (de_var (pv 3)) (da_cons (de_var (pv 13)) (da_nil))))) (da_nil))))) (da_nil))))) (ja_nil))))))))) (jss_nil)) (jss_cons (js_asg (fun l => dg_tl (n := 3) (dgs_cons (dg_name 7) (dgs_cons (dg_name 8) (dgs_cons (dg_name 9) (dgs_nil))))) (ps_asg (je_z false (je_lft (fun l => de_sl (de_var (pv 0)) (do_some (de_int)) (do_some (de_int))))) (PG.or (pg_tup rfl (pgs_cons (pg_name (i := 7) sc_opposites.nd rfl (by first | exact Or.inl rfl | exact Or.inr rfl)) (pgs_cons (pg_name (i := 8) sc_opposites.nd rfl (by first | exact Or.inl rfl | exact Or.inr rfl)) (pgs_cons (pg_name (i := 9) sc_opposites.nd rfl (by first | exact Or.inl rfl | exact Or.inr rfl)) (pgs_nil))))) (pg_unl rfl (pgs_cons (pg_name (i := 7) sc_opposites.nd rfl (by first | exact Or.inl rfl | exact Or.inr rfl)) (pgs_cons (pg_name (i := 8) sc_opposites.nd rfl (by first | exact Or.inl rfl | exact Or.inr rfl)) (pgs_cons (pg_name (i := 9) sc_opposites.nd rfl (by first | exact Or.inl rfl | exact Or.inr rfl)) (pgs_nil)))))))) (jss_cons (js_if (jt_lft (fun l => dt_cmp (eq_ok hr.units) (de_var (pv 2)) (de_str) (nomark _))) (jss_one (js_ret (je_lst (ja_cons true (je_lft (fun l => de_op add_ok (de_call (w_within T) (hr.mono (by decide)) (by rfl) T.g_within T.F_within.kp T.b_within tk (da_cons (de_var (pv 8)) (da_cons (de_lst (da_cons (de_var (pv 3)) (da_cons (de_var (pv 4)) (da_nil)))) (da_cons (de_var (pv 9)) (da_nil))))) (de_lst (da_cons (de_tup (da_cons (de_str) (da_cons (de_tup (da_cons (de_var (pv 7)) (da_cons (de_var (pv 4)) (da_cons (de_int) (da_nil))))) (da_cons (de_tup (da_cons (de_var (pv 7)) (da_cons (de_var (pv 3)) (da_cons (de_int) (da_nil))))) (da_nil))))) (da_nil))))) (ja_nil))))) (jss_nil)) (jss_cons (js_set (ps_set (i := 5) sc_opposites.nd rfl (by first | exact Or.inl rfl | exact Or.inr rfl) (je_z false (je_lft (fun l => de_call (w_within T) (hr.mono (by decide)) (by rfl) T.g_within T.F_within.kp T.b_within tk (da_cons (de_var (pv 8)) (da_cons (de_lst (da_cons (de_var (pv 3)) (da_nil))) (da_cons (de_var (pv 9)) (da_nil))))))))) (jss_cons (js_if (jt_lft (fun l => dt_cmp (eq_ok hr.units) (de_var (pv 2)) (de_str) (nomark _))) (jss_one (js_ret (je_lst (ja_cons true (je_lft (fun l => de_op add_ok (de_var (pv 5)) (de_lst (da_cons (de_tup (da_cons (de_str) (da_cons (de_tup (da_cons (de_var (pv 7)) (da_cons (de_var (pv 3)) (da_cons (de_int) (da_nil))))) (da_cons (de_ix (hu_of hr) (de_var (pv 0)) (de_int)) (da_nil))))) (da_nil))))) (ja_nil))))) (jss_nil)) (jss_cons (js_if (jt_lft (fun l => dt_cmp (eq_ok hr.units) (de_var (pv 2)) (de_str) (nomark _))) (jss_one (js_ret (je_lst (ja_cons true (je_lft (fun l => de_op add_ok (de_var (pv 5)) (de_lst (da_cons (de_tup (da_cons (de_str) (da_cons (de_call (w_moved T) (hr.mono (by decide)) (by rfl) T.g_moved T.F_moved.kp T.b_moved tk (da_cons (de_ix (hu_of hr) (de_var (pv 0)) (de_int)) (da_cons (de_int) (da_nil)))) (da_cons (de_tup (da_cons (de_var (pv 7)) (da_cons (de_var (pv 3)) (da_cons (de_int) (da_nil))))) (da_nil))))) (da_nil))))) (ja_nil))))) (jss_nil)) (jss_cons (js_asg (fun l => dg_tl (n := 4) (dgs_cons (dg_name 10) (dgs_cons (dg_name 11) (dgs_cons (dg_name 12) (dgs_cons (dg_name 13) (dgs_nil)))))) (ps_asg (je_z false (je_lft (fun l => de_sl (de_var (pv 0)) (do_some (de_int)) do_none))) (PG.or (pg_tup rfl (pgs_cons (pg_name (i := 10) sc_opposites.nd rfl (by first | exact Or.inl rfl | exact Or.inr rfl)) (pgs_cons (pg_name (i := 11) sc_opposites.nd rfl (by first | exact Or.inl rfl | exact Or.inr rfl)) (pgs_cons (pg_name (i := 12) sc_opposites.nd rfl (by first | exact Or.inl rfl | exact Or.inr rfl)) (pgs_cons (pg_name (i := 13) sc_opposites.nd rfl (by first | exact Or.inl rfl | exact Or.inr rfl)) (pgs_nil)))))) (pg_unl rfl (pgs_cons (pg_name (i := 10) sc_opposites.nd rfl (by first | exact Or.inl rfl | exact Or.inr rfl)) (pgs_cons (pg_name (i := 11) sc_opposites.nd rfl (by first | exact Or.inl rfl | exact Or.inr rfl)) (pgs_cons (pg_name (i := 12) sc_opposites.nd rfl (by first | exact Or.inl rfl | exact Or.inr rfl)) (pgs_cons (pg_name (i := 13) sc_opposites.nd rfl (by first | exact Or.inl rfl | exact Or.inr rfl)) (pgs_nil))))))))) (jss_one (js_ret (je_lst (ja_cons true (je_lft (fun l => de_op add_ok (de_op add_ok (de_var (pv 5)) (de_call (w_within T) (hr.mono (by decide)) (by rfl) T.g_within T.F_within.kp T.b_within tk (da_cons (de_var (pv 11)) (da_cons (de_lst (da_cons (de_var (pv 4)) (da_nil))) (da_cons (de_var (pv 12)) (da_nil)))))) (de_lst (da_cons (de_tup (da_cons (de_str) (da_cons (de_tup (da_cons (de_var (pv 10)) (da_cons (de_var (pv 4)) (da_cons (de_int) (da_nil))))) (da_cons (de_tup (da_cons (de_var (pv 7)) (da_cons (de_var (pv 3)) (da_cons (de_var (pv 13)) (da_nil))))) (da_nil))))) (da_nil))))) (ja_nil))))))))))))))))) (fun _ _ _ _ h => h)
theorem w_Lbetween (T : Tx w K mg fa fd ct ca) : FnOk P w K mg base (L2.CX P w) 1 (fa 13) (fd 13) ["_law_row_here"] (spD K ⟨⟨ca, none⟩, l⟩ 1 F_Lbetween) :=
  fn_D (FB := b_Lbetween) T.F_Lbetween sc_Lbetween rfl (fun cdv A outer s H E G0 hr tk =>
    dss_cons ((by first | exact ds_shLc (dg_name 2) (by decide) (ps_setLc (i := 1) (own := [("_law_term", 2)]) rfl sc_Lbetween.nd rfl rfl (sw_true rfl rfl rfl (by decide +kernel)) (di_items (de_var (pv 0))) (blkOk_by (own := [("_law_term", 2)]) (N := N_Lbetween) (sc := defScope s_Lbetween) (by decide +kernel)) (fun _ _ _ _ _ => pg_name (i := 2) sc_Lbetween.nd rfl (by first | exact Or.inl rfl | exact Or.inr rfl)) (fun _ _ _ _ _ => dts_one (dt_cmp isnot_ok (de_var (pv 2)) (de_non) (nomark _))) (fun _ _ _ _ _ => de_z (de_var (pv 2)))) | exact ds_sh (ps_set (i := 1) sc_Lbetween.nd rfl (by first | exact Or.inl rfl | exact Or.inr rfl) (de_z (de_lc (own := [("_law_term", 2)]) rfl sc_Lbetween.nd (di_items (de_var (pv 0))) (blkOk_by (own := [("_law_term", 2)]) (N := N_Lbetween) (sc := defScope s_Lbetween) (by decide +kernel)) (dg_name 2) (by decide) (fun _ _ _ _ _ => pg_name (i := 2) sc_Lbetween.nd rfl (by first | exact Or.inl rfl | exact Or.inr rfl)) (fun _ _ _ _ _ => dts_one (dt_cmp isnot_ok (de_var (pv 2)) (de_non) (nomark _))) (fun _ _ _ _ _ => de_var (pv 2))))))) (dss_one (ds_ret (de_lc (own := [("_law_k", 3)]) rfl sc_Lbetween.nd (di_rng1 (by rfl) T.n_range (da_cons (de_op sub_ok (de_b1 len_ok (by rfl) T.n_len (by decide +kernel) (de_var (pv 1))) (de_int)) (da_nil))) (blkOk_by (own := [("_law_k", 3)]) (N := N_Lbetween) (sc := defScope s_Lbetween) (by decide +kernel)) (dg_name 3) (by decide) (fun _ _ _ _ _ => pg_name (i := 3) sc_Lbetween.nd rfl (by first | exact Or.inl rfl | exact Or.inr rfl)) (fun _ _ _ _ _ => dts_nil) (fun _ _ _ _ _ => de_tup (da_cons (de_str) (da_cons (de_ix (hu_of hr) (de_var (pv 1)) (de_var (pv 3))) (da_cons (de_ix (hu_of hr) (de_var (pv 1)) (de_op add_ok (de_var (pv 3)) (de_int))) (da_nil))))))))) (fun _ _ _ h => h)
theorem w_Lplus (T : Tx w K mg fa fd ct ca) : FnOk P w K mg base (L2.CX P w) 1 (fa 14) (fd 14) ["_law_term", "_law_by"] (spD K ⟨⟨ca, none⟩, l⟩ 2 F_Lplus) :=
  fn_D (FB := b_Lplus) T.F_Lplus sc_Lplus rfl (fun cdv A outer s H E G0 hr tk =>
    dss_one (ds_ret (de_op add_ok (de_sl (de_var (pv 0)) do_none (do_some (de_un un_ok (de_int)))) (de_tup (da_cons (de_op add_ok (de_ix (hu_of hr) (de_var (pv 0)) (de_un un_ok (de_int))) (de_var (pv 1))) (da_nil)))))) (fun _ _ _ h => h)
theorem w_Ldue (T : Tx w K mg fa fd ct ca) : FnOk P w K mg base (L2.CX P w) 2 (fa 15) (fd 15) ["_law_saying_here", "_law_fresh"] (spD K ⟨⟨ca, none⟩, l⟩ 2 F_Ldue) :=
  fn_D (FB := b_Ldue) T.F_Ldue sc_Ldue rfl (fun cdv A outer s H E G0 hr tk =>
    dss_cons (ds_sh (ps_set (i := 2) sc_Ldue.nd rfl (by first | exact Or.inl rfl | exact Or.inr rfl) (de_z (de_ix (hu_of hr) (de_var (pv 0)) (de_int))))) (dss_cons (ds_sh (ps_set (i := 3) sc_Ldue.nd rfl (by first | exact Or.inl rfl | exact Or.inr rfl) (de_z (de_tup (da_cons (de_ix (hu_of hr) (de_var (pv 1)) (de_int)) (da_cons (de_int) (da_nil))))))) (dss_cons (ds_sh (ps_set (i := 4) sc_Ldue.nd rfl (by first | exact Or.inl rfl | exact Or.inr rfl) (de_z (de_tup (da_cons (de_ix (hu_of hr) (de_var (pv 1)) (de_int)) (da_cons (de_int) (da_nil))))))) (dss_cons (ds_if (dt_w (dw_or (dt_cmp (eq_ok hr.units) (de_var (pv 2)) (de_str) (nomark _)) (dw_or1 (dt_cmp (eq_ok hr.units) (de_var (pv 2)) (de_str) (nomark _))))) (dss_one (ds_ret (de_lst (da_cons (de_lst (da_cons (de_tup (da_cons (de_var (pv 2)) (da_cons (de_call (w_Lplus T) (hr.mono (by decide)) (by rfl) T.g_Lplus T.F_Lplus.kp T.b_Lplus tk (da_cons (de_ix (hu_of hr) (de_var (pv 0)) (de_int)) (da_cons (de_int) (da_nil)))) (da_cons (de_ix (hu_of hr) (de_var (pv 0)) (de_int)) (da_nil))))) (da_nil))) (da_nil))))) (dss_nil)) (dss_cons (ds_sh (ps_set (i := 5) sc_Ldue.nd rfl (by first | exact Or.inl rfl | exact Or.inr rfl) (de_z (de_ix (hu_of hr) (de_var (pv 0)) (de_int))))) (dss_cons (ds_if (dt_cmp (eq_ok hr.units) (de_var (pv 2)) (de_str) (nomark _)) (dss_cons (ds_sh (ps_set (i := 6) sc_Ldue.nd rfl (by first | exact Or.inl rfl | exact Or.inr rfl) (de_z (de_call (w_Lbetween T) (hr.mono (by decide)) (by rfl) T.g_Lbetween T.F_Lbetween.kp T.b_Lbetween tk (da_cons (de_lst (da_cons (de_ix (hu_of hr) (de_var (pv 0)) (de_int)) (da_cons (de_var (pv 3)) (da_cons (de_ix (hu_of hr) (de_var (pv 0)) (de_int)) (da_nil))))) (da_nil)))))) (dss_cons (ds_sh (ps_set (i := 7) sc_Ldue.nd rfl (by first | exact Or.inl rfl | exact Or.inr rfl) (de_z (de_ix (hu_of hr) (de_var (pv 0)) (de_int))))) (dss_cons (ds_sh (ps_set (i := 8) sc_Ldue.nd rfl (by first | exact Or.inl rfl | exact Or.inr rfl) (de_z (de_tup (da_cons (de_str) (da_cons (de_tup (da_cons (de_var (pv 5)) (da_cons (de_var (pv 3)) (da_cons (de_op add_ok (de_var (pv 7)) (de_int)) (da_nil))))) (da_cons (de_tup (da_cons (de_ix (hu_of hr) (de_var (pv 0)) (de_int)) (da_cons (de_var (pv 3)) (da_cons (de_int) (da_nil))))) (da_nil)))))))) (dss_one (ds_ret (de_lst (da_cons (de_op add_ok (de_var (pv 6)) (de_lst (da_cons (de_var (pv 8)) (da_nil)))) (da_cons (de_op add_ok (de_var (pv 6)) (de_lst (da_cons (de_tup (da_cons (de_str) (da_cons (de_tup (da_cons (de_ix (hu_of hr) (de_var (pv 0)) (de_int)) (da_cons (de_var (pv 3)) (da_cons (de_int) (da_nil))))) (da_cons (de_tup (da_cons (de_var (pv 5)) (da_cons (de_var (pv 3)) (da_cons (de_var (pv 7)) (da_nil))))) (da_nil))))) (da_nil)))) (da_nil))))))))) (dss_nil)) (dss_cons (ds_if (dt_cmp (eq_ok hr.units) (de_var (pv 2)) (de_str) (nomark _)) (dss_one (ds_ret (de_lst (da_cons (de_op add_ok (de_call (w_Lbetween T) (hr.mono (by decide)) (by rfl) T.g_Lbetween T.F_Lbetween.kp T.b_Lbetween tk (da_cons (de_lst (da_cons (de_ix (hu_of hr) (de_var (pv 0)) (de_int)) (da_cons (de_var (pv 3)) (da_cons (de_var (pv 4)) (da_cons (de_ix (hu_of hr) (de_var (pv 0)) (de_int)) (da_nil)))))) (da_nil))) (de_lst (da_cons (de_tup (da_cons (de_str) (da_cons (de_tup (da_cons (de_var (pv 5)) (da_cons (de_var (pv 4)) (da_cons (de_int) (da_nil))))) (da_cons (de_tup (da_cons (de_var (pv 5)) (da_cons (de_var (pv 3)) (da_cons (de_int) (da_nil))))) (da_nil))))) (da_nil)))) (da_nil))))) (dss_nil)) (dss_cons (ds_sh (ps_set (i := 6) sc_Ldue.nd rfl (by first | exact Or.inl rfl | exact Or.inr rfl) (de_z (de_call (w_Lbetween T) (hr.mono (by decide)) (by rfl) T.g_Lbetween T.F_Lbetween.kp T.b_Lbetween tk (da_cons (de_lst (da_cons (de_ix (hu_of hr) (de_var (pv 0)) (de_int)) (da_cons (de_var (pv 3)) (da_cons (de_ix (hu_of hr) (de_var (pv 0)) (de_int)) (da_nil))))) (da_nil)))))) (dss_cons (ds_if (dt_cmp (eq_ok hr.units) (de_var (pv 2)) (de_str) (nomark _)) (dss_one (ds_ret (de_lst (da_cons (de_op add_ok (de_var (pv 6)) (de_lst (da_cons (de_tup (da_cons (de_str) (da_cons (de_tup (da_cons (de_var (pv 5)) (da_cons (de_var (pv 3)) (da_cons (de_int) (da_nil))))) (da_cons (de_ix (hu_of hr) (de_var (pv 0)) (de_int)) (da_nil))))) (da_nil)))) (da_nil))))) (dss_nil)) (dss_cons (ds_if (dt_cmp (eq_ok hr.units) (de_var (pv 2)) (de_str) (nomark _)) (dss_one (ds_ret (de_lst (da_cons (de_op add_ok (de_var (pv 6)) (de_lst (da_cons (de_tup (da_cons (de_str) (da_cons (de_call (w_Lplus T) (hr.mono (by decide)) (by rfl) T.g_Lplus T.F_Lplus.kp T.b_Lplus tk (da_cons (de_ix (hu_of hr) (de_var (pv 0)) (de_int)) (da_cons (de_int) (da_nil)))) (da_cons (de_tup (da_cons (de_var (pv 5)) (da_cons (de_var (pv 3)) (da_cons (de_int) (da_nil))))) (da_nil))))) (da_nil)))) (da_nil))))) (dss_nil)) (dss_cons (ds_sh (ps_set (i := 6) sc_Ldue.nd rfl (by first | exact Or.inl rfl | exact Or.inr rfl) (de_z (de_op add_ok (de_var (pv 6)) (de_call (w_Lbetween T) (hr.mono (by decide)) (by rfl) T.g_Lbetween T.F_Lbetween.kp T.b_Lbetween tk (da_cons (de_lst (da_cons (de_ix (hu_of hr) (de_var (pv 0)) (de_int)) (da_cons (de_var (pv 4)) (da_cons (de_ix (hu_of hr) (de_var (pv 0)) (de_int)) (da_nil))))) (da_nil))))))) (dss_one (ds_ret (de_lst (da_cons (de_op add_ok (de_var (pv 6)) (de_lst (da_cons (de_tup (da_cons (de_str) (da_cons (de_tup (da_cons (de_ix (hu_of hr) (de_var (pv 0)) (de_int)) (da_cons (de_var (pv 4)) (da_cons (de_int) (da_nil))))) (da_cons (de_tup (da_cons (de_var (pv 5)) (da_cons (de_var (pv 3)) (da_cons (de_ix (hu_of hr) (de_var (pv 0)) (de_int)) (da_nil))))) (da_nil))))) (da_nil)))) (da_nil)))))))))))))))) (fun _ _ _ h => h)
theorem g_Lscaled_term (T : Tx w K mg fa fd ct ca) : ∀ n : Nat, FnOk P w K mg base (L2.CX P w) (0 + n) (fa 16) (fd 16) ["_law_term", "_law_scale_here", "_law_role"] (spD K ⟨⟨ca, none⟩, l⟩ 3 (G_Lscaled_term n))
  | 0 => ⟨fun vs H Q E h => by rw [spD_len vs H Q E h]; rfl, fun A outer s H args us vs Q E _ _ _ _ h => by obtain ⟨_, _, _, _, _, _, e, _⟩ := h; cases e⟩
  | n + 1 => by
    have ih := g_Lscaled_term T n
    refine fn_D (FB := b_Lscaled_term (G_Lscaled_term n)) T.F_Lscaled_term sc_Lscaled_term rfl (fun cdv A outer s H E G0 hr tk => ?_) (fun _ _ _ h => h)
    have hq : ∀ j : Nat, j ≤ 0 → j ≤ 0 + n := fun j h => Nat.le_trans h (Nat.le_add_right _ _)
    exact dss_cons (ds_if (dt_cmp is_ok (de_var (pv 0)) (de_non) (nomark _)) (dss_one (ds_ret (de_non))) (dss_nil)) (dss_cons (ds_if (dt_cmp (eq_ok hr.units) (de_b1 len_ok (by rfl) T.n_len (by decide +kernel) (de_var (pv 0))) (de_int) (nomark _)) (dss_one (ds_ret (de_tup (da_cons (de_ix (hu_of hr) (de_var (pv 0)) (de_int)) (da_cons (de_call ih hr (by rfl) T.g_Lscaled_term T.F_Lscaled_term.kp T.b_Lscaled_term tk (da_cons (de_ix (hu_of hr) (de_var (pv 0)) (de_int)) (da_cons (de_var (pv 1)) (da_cons (de_int) (da_nil))))) (da_cons (de_op mul_ok (de_ix (hu_of hr) (de_var (pv 0)) (de_int)) (de_ix (hu_of hr) (de_var (pv 1)) (de_int))) (da_nil))))))) (dss_nil)) (dss_cons (ds_sh (ps_set (i := 3) sc_Lscaled_term.nd rfl (by first | exact Or.inl rfl | exact Or.inr rfl) (de_z (de_op mul_ok (de_ix (hu_of hr) (de_var (pv 0)) (de_int)) (de_ix (hu_of hr) (de_var (pv 1)) (de_op mul_ok (de_int) (de_var (pv 2)))))))) (dss_cons (ds_if (dt_cmp (eq_ok hr.units) (de_ix (hu_of hr) (de_var (pv 0)) (de_int)) (de_str) (nomark _)) (dss_one (ds_sh (ps_set (i := 3) sc_Lscaled_term.nd rfl (by first | exact Or.inl rfl | exact Or.inr rfl) (de_z (de_op add_ok (de_var (pv 3)) (de_ix (hu_of hr) (de_var (pv 1)) (de_op add_ok (de_op mul_ok (de_int) (de_var (pv 2))) (de_int)))))))) (dss_nil)) (dss_one (ds_ret (de_tup (da_cons (de_ix (hu_of hr) (de_var (pv 0)) (de_int)) (da_cons (de_var (pv 3)) (da_nil)))))))))
theorem w_Lscaled_term (T : Tx w K mg fa fd ct ca) : FnOk P w K mg base (L2.CX P w) 8 (fa 16) (fd 16) ["_law_term", "_law_scale_here", "_law_role"] (spD K ⟨⟨ca, none⟩, l⟩ 3 F_Lscaled_term) := g_Lscaled_term T 8
theorem w_Lscaled_saying (T : Tx w K mg fa fd ct ca) : FnOk P w K mg base (L2.CX P w) 9 (fa 17) (fd 17) ["_law_saying_here", "_law_scale_here"] (spD K ⟨⟨ca, none⟩, l⟩ 2 F_Lscaled_saying) :=
  fn_D (FB := b_Lscaled_saying) T.F_Lscaled_saying sc_Lscaled_saying rfl (fun cdv A outer s H E G0 hr tk =>
    dss_cons (ds_if (dt_cmp (eq_ok hr.units) (de_ix (hu_of hr) (de_var (pv 0)) (de_int)) (de_str) (nomark _)) (dss_one (ds_ret (de_tup (da_cons (de_str) (da_cons (de_call (w_Lscaled_term T) (hr.mono (by decide)) (by rfl) T.g_Lscaled_term T.F_Lscaled_term.kp T.b_Lscaled_term tk (da_cons (de_ix (hu_of hr) (de_var (pv 0)) (de_int)) (da_cons (de_var (pv 1)) (da_cons (de_int) (da_nil))))) (da_cons (de_call (w_Lscaled_term T) (hr.mono (by decide)) (by rfl) T.g_Lscaled_term T.F_Lscaled_term.kp T.b_Lscaled_term tk (da_cons (de_ix (hu_of hr) (de_var (pv 0)) (de_int)) (da_cons (de_var (pv 1)) (da_cons (de_int) (da_nil))))) (da_nil))))))) (dss_nil)) (dss_cons (ds_if (dt_cmp (eq_ok hr.units) (de_ix (hu_of hr) (de_var (pv 0)) (de_int)) (de_str) (nomark _)) (dss_one (ds_ret (de_tup (da_cons (de_str) (da_cons (de_call (w_Lscaled_term T) (hr.mono (by decide)) (by rfl) T.g_Lscaled_term T.F_Lscaled_term.kp T.b_Lscaled_term tk (da_cons (de_ix (hu_of hr) (de_var (pv 0)) (de_int)) (da_cons (de_var (pv 1)) (da_cons (de_int) (da_nil))))) (da_cons (de_call (w_Lscaled_term T) (hr.mono (by decide)) (by rfl) T.g_Lscaled_term T.F_Lscaled_term.kp T.b_Lscaled_term tk (da_cons (de_ix (hu_of hr) (de_var (pv 0)) (de_int)) (da_cons (de_var (pv 1)) (da_cons (de_int) (da_nil))))) (da_nil))))))) (dss_nil)) (dss_cons (ds_set (ps_set (i := 2) sc_Lscaled_saying.nd rfl (by first | exact Or.inl rfl | exact Or.inr rfl) (de_lst (da_nil)))) (dss_cons (ds_for (passes_of rfl) rfl (di_items (de_var (pv 0))) (pg_name (i := 3) sc_Lscaled_saying.nd rfl (by first | exact Or.inl rfl | exact Or.inr rfl)) (dg_name 3) (dss_one (ds_if (dt_tru (de_isi (T := "int") (by decide) (by rfl) T.n_isinstance (de_var (pv 3)) (pe_bltn (by rfl) T.n_int (by decide +kernel) rfl))) (dss_one (ds_app (ps_expr (pe_bm PySem.F.plainAttrs_list PySem.F.slot_list_append PySem.F.type_list_append mt_append (pv 2) (pa_cons (de_z (de_op mul_ok (de_var (pv 3)) (de_ix (hu_of hr) (de_var (pv 1)) (de_int)))) pa_nil))))) (dss_one (ds_if (dt_tru (de_isi (T := "str") (by decide) (by rfl) T.n_isinstance (de_var (pv 3)) (pe_bltn (by rfl) T.n_str (by decide +kernel) rfl))) (dss_one (ds_app (ps_expr (pe_bm PySem.F.plainAttrs_list PySem.F.slot_list_append PySem.F.type_list_append mt_append (pv 2) (pa_cons (de_z (de_var (pv 3))) pa_nil))))) (dss_one (ds_app (ps_expr (pe_bm PySem.F.plainAttrs_list PySem.F.slot_list_append PySem.F.type_list_append mt_append (pv 2) (pa_cons (de_z (de_call (w_Lscaled_term T) (hr.mono (by decide)) (by rfl) T.g_Lscaled_term T.F_Lscaled_term.kp T.b_Lscaled_term tk (da_cons (de_var (pv 3)) (da_cons (de_var (pv 1)) (da_cons (de_int) (da_nil)))))) pa_nil)))))))))) (dss_cons (ds_if (dt_cmp (in_ok (hu_of hr)) (de_ix (hu_of hr) (de_var (pv 0)) (de_int)) (de_tup (da_cons (de_str) (da_cons (de_str) (da_nil)))) (by rfl)) (dss_one (ds_put (ps_asg (de_z (de_call (w_Lscaled_term T) (hr.mono (by decide)) (by rfl) T.g_Lscaled_term T.F_Lscaled_term.kp T.b_Lscaled_term tk (da_cons (de_ix (hu_of hr) (de_var (pv 0)) (de_int)) (da_cons (de_var (pv 1)) (da_cons (de_int) (da_nil)))))) (pg_sub (pv 2) (de_int) (set_any (hu_of hr)))))) (dss_nil)) (dss_one (ds_ret (de_t1 tup_ok (by rfl) T.n_tuple (by decide +kernel) (de_var (pv 2)))))))))) (fun _ _ _ h => h)
theorem w_Lsums (T : Tx w K mg fa fd ct ca) : FnOk P w K mg base (L2.CX P w) 1 (fa 18) (fd 18) ["_law_drawn", "_law_pool", "_law_numbers", "_law_arrays"] (spD K ⟨⟨ca, none⟩, l⟩ 4 F_Lsums) :=
  fn_D (FB := b_Lsums) T.F_Lsums sc_Lsums rfl (fun cdv A outer s H E G0 hr tk =>
    dss_cons (ds_set (ps_set (i := 4) sc_Lsums.nd rfl (by first | exact Or.inl rfl | exact Or.inr rfl) (de_lst (da_nil)))) (dss_cons (ds_for (passes_of rfl) rfl (di_rng1 (by rfl) T.n_range (da_cons (de_int) (da_nil))) (pg_name (i := 5) sc_Lsums.nd rfl (by first | exact Or.inl rfl | exact Or.inr rfl)) (dg_name 5) (dss_cons (ds_sh (ps_set (i := 6) sc_Lsums.nd rfl (by first | exact Or.inl rfl | exact Or.inr rfl) (de_z (de_op add_ok (de_lst (da_cons (de_str) (da_nil))) (de_var (pv 2)))))) (dss_cons (ds_asg (dg_tl (n := 5) (dgs_cons (dg_name 8) (dgs_cons (dg_name 9) (dgs_cons (dg_name 10) (dgs_cons (dg_name 11) (dgs_cons (dg_name 12) (dgs_nil))))))) (ps_asg (de_z (de_sl (de_var (pv 0)) (do_some (de_op mul_ok (de_int) (de_var (pv 5)))) (do_some (de_op add_ok (de_op mul_ok (de_int) (de_var (pv 5))) (de_int))))) (PG.or (pg_tup rfl (pgs_cons (pg_name (i := 8) sc_Lsums.nd rfl (by first | exact Or.inl rfl | exact Or.inr rfl)) (pgs_cons (pg_name (i := 9) sc_Lsums.nd rfl (by first | exact Or.inl rfl | exact Or.inr rfl)) (pgs_cons (pg_name (i := 10) sc_Lsums.nd rfl (by first | exact Or.inl rfl | exact Or.inr rfl)) (pgs_cons (pg_name (i := 11) sc_Lsums.nd rfl (by first | exact Or.inl rfl | exact Or.inr rfl)) (pgs_cons (pg_name (i := 12) sc_Lsums.nd rfl (by first | exact Or.inl rfl | exact Or.inr rfl)) (pgs_nil))))))) (pg_unl rfl (pgs_cons (pg_name (i := 8) sc_Lsums.nd rfl (by first | exact Or.inl rfl | exact Or.inr rfl)) (pgs_cons (pg_name (i := 9) sc_Lsums.nd rfl (by first | exact Or.inl rfl | exact Or.inr rfl)) (pgs_cons (pg_name (i := 10) sc_Lsums.nd rfl (by first | exact Or.inl rfl | exact Or.inr rfl)) (pgs_cons (pg_name (i := 11) sc_Lsums.nd rfl (by first | exact Or.inl rfl | exact Or.inr rfl)) (pgs_cons (pg_name (i := 12) sc_Lsums.nd rfl (by first | exact Or.inl rfl | exact Or.inr rfl)) (pgs_nil)))))))))) (dss_cons (ds_sh (ps_set (i := 7) sc_Lsums.nd rfl (by first | exact Or.inl rfl | exact Or.inr rfl) (de_z (de_tup (da_cons (de_ix (hu_of hr) (de_var (pv 6)) (de_op mod_ok (de_t1 int_ok (by rfl) T.n_int (by decide +kernel) (de_var (pv 9))) (de_b1 len_ok (by rfl) T.n_len (by decide +kernel) (de_var (pv 6))))) (da_cons (de_op sub_ok (de_var (pv 10)) (de_int)) (da_nil))))))) (dss_cons (ds_if (dt_w (dw_and (dt_cmp (eq_ok hr.units) (de_var (pv 8)) (de_int) (nomark _)) (dw_and1 (dt_cmp gt_ok (de_b1 len_ok (by rfl) T.n_len (by decide +kernel) (de_var (pv 3))) (de_int) (nomark _))))) (dss_one (ds_sh (ps_set (i := 7) sc_Lsums.nd rfl (by first | exact Or.inl rfl | exact Or.inr rfl) (de_z (de_tup (da_cons (de_ix (hu_of hr) (de_var (pv 3)) (de_op mod_ok (de_t1 int_ok (by rfl) T.n_int (by decide +kernel) (de_var (pv 9))) (de_b1 len_ok (by rfl) T.n_len (by decide +kernel) (de_var (pv 3))))) (da_cons (de_tup (da_cons (de_ix (hu_of hr) (de_var (pv 1)) (de_op mod_ok (de_t1 int_ok (by rfl) T.n_int (by decide +kernel) (de_var (pv 11))) (de_b1 len_ok (by rfl) T.n_len (by decide +kernel) (de_var (pv 1))))) (da_cons (de_op sub_ok (de_var (pv 12)) (de_int)) (da_nil)))) (da_cons (de_op sub_ok (de_var (pv 10)) (de_int)) (da_nil))))))))) (dss_nil)) (dss_one (ds_app (ps_expr (pe_bm PySem.F.plainAttrs_list PySem.F.slot_list_append PySem.F.type_list_append mt_append (pv 4) (pa_cons (de_z (de_var (pv 7))) pa_nil)))))))))) (dss_one (ds_retV (pv 4))))) (fun _ _ _ h => h)
theorem w_Lfigure (T : Tx w K mg fa fd ct ca) : FnOk P w K mg base (L2.CX P w) 1 (fa 19) (fd 19) ["_law_script", "_law_at"] (spD K ⟨⟨ca, none⟩, l⟩ 2 F_Lfigure) :=
  fn_D (FB := b_Lfigure) T.F_Lfigure sc_Lfigure rfl (fun cdv A outer s H E G0 hr tk =>
    dss_cons (ds_sh (ps_set (i := 2) sc_Lfigure.nd rfl (by first | exact Or.inl rfl | exact Or.inr rfl) (de_z (de_int)))) (dss_cons (ds_if (dt_cmp lt_ok (de_var (pv 1)) (de_b1 len_ok (by rfl) T.n_len (by decide +kernel) (de_var (pv 0))) (nomark _)) (dss_one (ds_sh (ps_set (i := 2) sc_Lfigure.nd rfl (by first | exact Or.inl rfl | exact Or.inr rfl) (de_z (de_ix (hu_of hr) (de_var (pv 0)) (de_var (pv 1))))))) (dss_nil)) (dss_cons (ds_if (dt_cmp lt_ok (de_var (pv 2)) (de_int) (nomark _)) (dss_one (ds_sh (ps_set (i := 2) sc_Lfigure.nd rfl (by first | exact Or.inl rfl | exact Or.inr rfl) (de_z (de_op sub_ok (de_un un_ok (de_int)) (de_op mul_ok (de_int) (de_var (pv 2)))))))) (dss_nil)) (dss_one (ds_ret (de_op mod_ok (de_t1 int_ok (by rfl) T.n_int (by decide +kernel) (de_var (pv 2))) (de_op mul_ok (de_op mul_ok (de_op pow_ok (de_int) (de_int)) (de_op pow_ok (de_int) (de_int))) (de_op pow_ok (de_int) (de_int))))))))) (fun _ _ _ h => h)
theorem w_Ldraws (T : Tx w K mg fa fd ct ca) : FnOk P w K mg base (L2.CX P w) 2 (fa 20) (fd 20) ["_law_script", "_law_at", "_law_limits"] (spD K ⟨⟨ca, none⟩, l⟩ 3 F_Ldraws) :=
  fn_D (FB := b_Ldraws) T.F_Ldraws sc_Ldraws rfl (fun cdv A outer s H E G0 hr tk =>
    dss_cons (ds_sh (ps_set (i := 3) sc_Ldraws.nd rfl (by first | exact Or.inl rfl | exact Or.inr rfl) (de_z (de_call (w_Lfigure T) (hr.mono (by decide)) (by rfl) T.g_Lfigure T.F_Lfigure.kp T.b_Lfigure tk (da_cons (de_var (pv 0)) (da_cons (de_var (pv 1)) (da_nil))))))) (dss_cons (ds_sh (ps_set (i := 4) sc_Ldraws.nd rfl (by first | exact Or.inl rfl | exact Or.inr rfl) (de_z (de_op sub_ok (de_var (pv 3)) (de_op pow_ok (de_int) (de_int)))))) (dss_cons (ds_set (ps_set (i := 5) sc_Ldraws.nd rfl (by first | exact Or.inl rfl | exact Or.inr rfl) (de_lst (da_nil)))) (dss_cons (ds_for (passes_of rfl) rfl (di_rng1 (by rfl) T.n_range (da_cons (de_b1 len_ok (by rfl) T.n_len (by decide +kernel) (de_var (pv 2))) (da_nil))) (pg_name (i := 6) sc_Ldraws.nd rfl (by first | exact Or.inl rfl | exact Or.inr rfl)) (dg_name 6) (dss_cons (ds_sh (ps_set (i := 7) sc_Ldraws.nd rfl (by first | exact Or.inl rfl | exact Or.inr rfl) (de_z (de_op mod_ok (de_t1 int_ok (by rfl) T.n_int (by decide +kernel) (de_op add_ok (de_op add_ok (de_op mul_ok (de_var (pv 3)) (de_op add_ok (de_int) (de_op mul_ok (de_op mul_ok (de_int) (de_var (pv 6))) (de_var (pv 6))))) (de_op mul_ok (de_op add_ok (de_var (pv 6)) (de_int)) (de_int))) (de_op mul_ok (de_var (pv 1)) (de_int)))) (de_int))))) (dss_cons (ds_sh (ps_set (i := 7) sc_Ldraws.nd rfl (by first | exact Or.inl rfl | exact Or.inr rfl) (de_z (de_op fdiv_ok (de_op mod_ok (de_t1 int_ok (by rfl) T.n_int (by decide +kernel) (de_op add_ok (de_op add_ok (de_op mul_ok (de_var (pv 7)) (de_var (pv 7))) (de_op mul_ok (de_int) (de_var (pv 6)))) (de_var (pv 3)))) (de_int)) (de_int))))) (dss_cons (ds_if (dt_cmp ge_ok (de_var (pv 3)) (de_op pow_ok (de_int) (de_int)) (nomark _)) (dss_cons (ds_sh (ps_set (i := 7) sc_Ldraws.nd rfl (by first | exact Or.inl rfl | exact Or.inr rfl) (de_z (de_var (pv 4))))) (dss_one (ds_sh (ps_set (i := 4) sc_Ldraws.nd rfl (by first | exact Or.inl rfl | exact Or.inr rfl) (de_z (de_op fdiv_ok (de_var (pv 4)) (de_ix (hu_of hr) (de_var (pv 2)) (de_var (pv 6))))))))) (dss_nil)) (dss_one (ds_app (ps_expr (pe_bm PySem.F.plainAttrs_list PySem.F.slot_list_append PySem.F.type_list_append mt_append (pv 5) (pa_cons (de_z (de_op mod_ok (de_t1 int_ok (by rfl) T.n_int (by decide +kernel) (de_var (pv 7))) (de_ix (hu_of hr) (de_var (pv 2)) (de_var (pv 6))))) pa_nil))))))))) (dss_one (ds_retV (pv 5))))))) (fun _ _ _ h => h)
theorem w_Lsaying (T : Tx w K mg fa fd ct ca) : FnOk P w K mg base (L2.CX P w) 3 (fa 21) (fd 21) ["_law_script", "_law_at", "_law_parts_here"] (spD K ⟨⟨ca, none⟩, l⟩ 3 F_Lsaying) :=
  fn_D (FB := b_Lsaying) T.F_Lsaying sc_Lsaying rfl (fun cdv A outer s H E G0 hr tk =>
    dss_cons (ds_asg (dg_tl (n := 3) (dgs_cons (dg_name 12) (dgs_cons (dg_name 13) (dgs_cons (dg_name 14) (dgs_nil))))) (ps_asg (de_z (de_lc (own := [("_law_names_here", 15)]) rfl sc_Lsaying.nd (di_items (de_var (pv 2))) (blkOk_by (own := [("_law_names_here", 15)]) (N := N_Lsaying) (sc := defScope s_Lsaying) (by decide +kernel)) (dg_name 15) (by decide) (fun _ _ _ _ _ => pg_name (i := 15) sc_Lsaying.nd rfl (by first | exact Or.inl rfl | exact Or.inr rfl)) (fun _ _ _ _ _ => dts_nil) (fun _ _ _ _ _ => de_t1 (list_ok rfl) (by rfl) T.n_list (by decide +kernel) (de_var (pv 15))))) (PG.or (pg_tup rfl (pgs_cons (pg_name (i := 12) sc_Lsaying.nd rfl (by first | exact Or.inl rfl | exact Or.inr rfl)) (pgs_cons (pg_name (i := 13) sc_Lsaying.nd rfl (by first | exact Or.inl rfl | exact Or.inr rfl)) (pgs_cons (pg_name (i := 14) sc_Lsaying.nd rfl (by first | exact Or.inl rfl | exact Or.inr rfl)) (pgs_nil))))) (pg_unl rfl (pgs_cons (pg_name (i := 12) sc_Lsaying.nd rfl (by first | exact Or.inl rfl | exact Or.inr rfl)) (pgs_cons (pg_name (i := 13) sc_Lsaying.nd rfl (by first | exact Or.inl rfl | exact Or.inr rfl)) (pgs_cons (pg_name (i := 14) sc_Lsaying.nd rfl (by first | exact Or.inl rfl | exact Or.inr rfl)) (pgs_nil)))))))) (dss_cons (ds_sh (ps_set (i := 3) sc_Lsaying.nd rfl (by first | exact Or.inl rfl | exact Or.inr rfl) (de_z (de_call (w_Ldraws T) (hr.mono (by decide)) (by rfl) T.g_Ldraws T.F_Ldraws.kp T.b_Ldraws tk (da_cons (de_var (pv 0)) (da_cons (de_var (pv 1)) (da_cons (de_op add_ok (de_op add_ok (de_op add_ok (de_lst (da_cons (de_int) (da_nil))) (de_op mul_ok (de_lst (da_cons (de_int) (da_cons (de_int) (da_cons (de_int) (da_nil))))) (de_int))) (de_op mul_ok (de_lst (da_cons (de_int) (da_cons (de_int) (da_cons (de_int) (da_cons (de_int) (da_cons (de_int) (da_nil))))))) (de_int))) (de_lst (da_cons (de_int) (da_cons (de_int) (da_cons (de_int) (da_nil)))))) (da_nil)))))))) (dss_cons (ds_sh (ps_set (i := 4) sc_Lsaying.nd rfl (by first | exact Or.inl rfl | exact Or.inr rfl) (de_z (de_op add_ok (de_lst (da_cons (de_str) (da_nil))) (de_var (pv 12)))))) (dss_cons ((by first | exact ds_shLc (dg_name 16) (by decide) (ps_setLc (i := 5) (own := [("_law_k", 16)]) rfl sc_Lsaying.nd rfl rfl (sw_true rfl rfl rfl (by decide +kernel)) (di_rng1 (by rfl) T.n_range (da_cons (de_int) (da_nil))) (blkOk_by (own := [("_law_k", 16)]) (N := N_Lsaying) (sc := defScope s_Lsaying) (by decide +kernel)) (fun _ _ _ _ _ => pg_name (i := 16) sc_Lsaying.nd rfl (by first | exact Or.inl rfl | exact Or.inr rfl)) (fun _ _ _ _ _ => dts_nil) (fun _ _ _ _ _ => de_z (de_tup (da_cons (de_ix (hu_of hr) (de_var (pv 4)) (de_op mod_ok (de_t1 int_ok (by rfl) T.n_int (by decide +kernel) (de_ix (hu_of hr) (de_var (pv 3)) (de_op add_ok (de_int) (de_op mul_ok (de_int) (de_var (pv 16)))))) (de_b1 len_ok (by rfl) T.n_len (by decide +kernel) (de_var (pv 4))))) (da_cons (de_op sub_ok (de_ix (hu_of hr) (de_var (pv 3)) (de_op add_ok (de_int) (de_op mul_ok (de_int) (de_var (pv 16))))) (de_int)) (da_nil)))))) | exact ds_sh (ps_set (i := 5) sc_Lsaying.nd rfl (by first | exact Or.inl rfl | exact Or.inr rfl) (de_z (de_lc (own := [("_law_k", 16)]) rfl sc_Lsaying.nd (di_rng1 (by rfl) T.n_range (da_cons (de_int) (da_nil))) (blkOk_by (own := [("_law_k", 16)]) (N := N_Lsaying) (sc := defScope s_Lsaying) (by decide +kernel)) (dg_name 16) (by decide) (fun _ _ _ _ _ => pg_name (i := 16) sc_Lsaying.nd rfl (by first | exact Or.inl rfl | exact Or.inr rfl)) (fun _ _ _ _ _ => dts_nil) (fun _ _ _ _ _ => de_tup (da_cons (de_ix (hu_of hr) (de_var (pv 4)) (de_op mod_ok (de_t1 int_ok (by rfl) T.n_int (by decide +kernel) (de_ix (hu_of hr) (de_var (pv 3)) (de_op add_ok (de_int) (de_op mul_ok (de_int) (de_var (pv 16)))))) (de_b1 len_ok (by rfl) T.n_len (by decide +kernel) (de_var (pv 4))))) (da_cons (de_op sub_ok (de_ix (hu_of hr) (de_var (pv 3)) (de_op add_ok (de_int) (de_op mul_ok (de_int) (de_var (pv 16))))) (de_int)) (da_nil))))))))) (dss_cons ((by first | exact ds_shLc (dg_name 16) (by decide) (ps_setLc (i := 6) (own := [("_law_k", 16)]) rfl sc_Lsaying.nd rfl rfl (sw_true rfl rfl rfl (by decide +kernel)) (di_rng1 (by rfl) T.n_range (da_cons (de_int) (da_nil))) (blkOk_by (own := [("_law_k", 16)]) (N := N_Lsaying) (sc := defScope s_Lsaying) (by decide +kernel)) (fun _ _ _ _ _ => pg_name (i := 16) sc_Lsaying.nd rfl (by first | exact Or.inl rfl | exact Or.inr rfl)) (fun _ _ _ _ _ => dts_nil) (fun _ _ _ _ _ => de_z (de_if (dt_cmp (eq_ok hr.units) (de_ix (hu_of hr) (de_var (pv 3)) (de_op add_ok (de_int) (de_op mul_ok (de_int) (de_var (pv 16))))) (de_int) (nomark _)) (de_non) (de_ix (hu_of hr) (de_var (pv 5)) (de_var (pv 16)))))) | exact ds_sh (ps_set (i := 6) sc_Lsaying.nd rfl (by first | exact Or.inl rfl | exact Or.inr rfl) (de_z (de_lc (own := [("_law_k", 16)]) rfl sc_Lsaying.nd (di_rng1 (by rfl) T.n_range (da_cons (de_int) (da_nil))) (blkOk_by (own := [("_law_k", 16)]) (N := N_Lsaying) (sc := defScope s_Lsaying) (by decide +kernel)) (dg_name 16) (by decide) (fun _ _ _ _ _ => pg_name (i := 16) sc_Lsaying.nd rfl (by first | exact Or.inl rfl | exact Or.inr rfl)) (fun _ _ _ _ _ => dts_nil) (fun _ _ _ _ _ => de_if (dt_cmp (eq_ok hr.units) (de_ix (hu_of hr) (de_var (pv 3)) (de_op add_ok (de_int) (de_op mul_ok (de_int) (de_var (pv 16))))) (de_int) (nomark _)) (de_non) (de_ix (hu_of hr) (de_var (pv 5)) (de_var (pv 16))))))))) (dss_cons (ds_sh (ps_set (i := 7) sc_Lsaying.nd rfl (by first | exact Or.inl rfl | exact Or.inr rfl) (de_z (de_call (w_Lsums T) (hr.mono (by decide)) (by rfl) T.g_Lsums T.F_Lsums.kp T.b_Lsums tk (da_cons (de_sl (de_var (pv 3)) (do_some (de_int)) (do_some (de_int))) (da_cons (de_var (pv 4)) (da_cons (de_var (pv 13)) (da_cons (de_var (pv 14)) (da_nil))))))))) (dss_cons (ds_sh (ps_set (i := 8) sc_Lsaying.nd rfl (by first | exact Or.inl rfl | exact Or.inr rfl) (de_z (de_lst (da_cons (de_tup (da_cons (de_str) (da_cons (de_ix (hu_of hr) (de_var (pv 5)) (de_int)) (da_cons (de_ix (hu_of hr) (de_var (pv 5)) (de_int)) (da_nil))))) (da_cons (de_tup (da_cons (de_str) (da_cons (de_ix (hu_of hr) (de_var (pv 7)) (de_int)) (da_cons (de_ix (hu_of hr) (de_var (pv 7)) (de_int)) (da_nil))))) (da_nil))))))) (dss_cons (ds_if (dt_cmp (eq_ok hr.units) (de_b1 len_ok (by rfl) T.n_len (by decide +kernel) (de_var (pv 14))) (de_int) (nomark _)) (dss_one (ds_ret (de_ix (hu_of hr) (de_var (pv 8)) (de_op mod_ok (de_t1 int_ok (by rfl) T.n_int (by decide +kernel) (de_ix (hu_of hr) (de_var (pv 3)) (de_int))) (de_int))))) (dss_nil)) (dss_cons (ds_sh (ps_set (i := 9) sc_Lsaying.nd rfl (by first | exact Or.inl rfl | exact Or.inr rfl) (de_z (de_ix (hu_of hr) (de_var (pv 14)) (de_op mod_ok (de_t1 int_ok (by rfl) T.n_int (by decide +kernel) (de_ix (hu_of hr) (de_var (pv 3)) (de_int))) (de_b1 len_ok (by rfl) T.n_len (by decide +kernel) (de_var (pv 14)))))))) (dss_cons (ds_sh (ps_set (i := 10) sc_Lsaying.nd rfl (by first | exact Or.inl rfl | exact Or.inr rfl) (de_z (de_ix (hu_of hr) (de_var (pv 14)) (de_op mod_ok (de_t1 int_ok (by rfl) T.n_int (by decide +kernel) (de_ix (hu_of hr) (de_var (pv 3)) (de_int))) (de_b1 len_ok (by rfl) T.n_len (by decide +kernel) (de_var (pv 14)))))))) (dss_cons (ds_sh (ps_set (i := 11) sc_Lsaying.nd rfl (by first | exact Or.inl rfl | exact Or.inr rfl) (de_z (de_op add_ok (de_var (pv 8)) (de_lst (da_cons (de_tup (da_cons (de_str) (da_cons (de_var (pv 9)) (da_cons (de_ix (hu_of hr) (de_var (pv 6)) (de_int)) (da_cons (de_ix (hu_of hr) (de_var (pv 6)) (de_int)) (da_nil)))))) (da_nil))))))) (dss_cons (ds_sh (ps_set (i := 11) sc_Lsaying.nd rfl (by first | exact Or.inl rfl | exact Or.inr rfl) (de_z (de_op add_ok (de_var (pv 11)) (de_lst (da_cons (de_tup (da_cons (de_str) (da_cons (de_var (pv 9)) (da_cons (de_ix (hu_of hr) (de_var (pv 6)) (de_int)) (da_cons (de_ix (hu_of hr) (de_var (pv 6)) (de_int)) (da_cons (de_ix (hu_of hr) (de_var (pv 7)) (de_int)) (da_nil))))))) (da_cons (de_tup (da_cons (de_str) (da_cons (de_var (pv 9)) (da_cons (de_ix (hu_of hr) (de_var (pv 6)) (de_int)) (da_cons (de_ix (hu_of hr) (de_var (pv 6)) (de_int)) (da_cons (de_ix (hu_of hr) (de_var (pv 7)) (de_int)) (da_nil))))))) (da_nil)))))))) (dss_cons (ds_sh (ps_set (i := 11) sc_Lsaying.nd rfl (by first | exact Or.inl rfl | exact Or.inr rfl) (de_z (de_op add_ok (de_var (pv 11)) (de_lst (da_cons (de_tup (da_cons (de_str) (da_cons (de_var (pv 9)) (da_cons (de_ix (hu_of hr) (de_var (pv 6)) (de_int)) (da_cons (de_ix (hu_of hr) (de_var (pv 6)) (de_int)) (da_cons (de_var (pv 10)) (da_cons (de_ix (hu_of hr) (de_var (pv 6)) (de_int)) (da_cons (de_ix (hu_of hr) (de_var (pv 6)) (de_int)) (da_cons (de_op sub_ok (de_ix (hu_of hr) (de_var (pv 3)) (de_int)) (de_int)) (da_nil)))))))))) (da_nil))))))) (dss_cons (ds_sh (ps_set (i := 11) sc_Lsaying.nd rfl (by first | exact Or.inl rfl | exact Or.inr rfl) (de_z (de_op add_ok (de_var (pv 11)) (de_lst (da_cons (de_tup (da_cons (de_str) (da_cons (de_var (pv 9)) (da_cons (de_var (pv 10)) (da_cons (de_ix (hu_of hr) (de_var (pv 6)) (de_int)) (da_cons (de_ix (hu_of hr) (de_var (pv 6)) (de_int)) (da_cons (de_op sub_ok (de_ix (hu_of hr) (de_var (pv 3)) (de_int)) (de_int)) (da_nil)))))))) (da_nil))))))) (dss_one (ds_ret (de_ix (hu_of hr) (de_var (pv 11)) (de_ix (hu_of hr) (de_var (pv 3)) (de_int))))))))))))))))))) (fun _ _ _ h => h)
theorem w_Lnames (T : Tx w K mg fa fd ct ca) : FnOk P w K mg base (L2.CX P w) 3 (fa 22) (fd 22) ["_law_script", "_law_at", "_law_many"] (spD K ⟨⟨ca, none⟩, l⟩ 3 F_Lnames) :=
  fn_D (FB := b_Lnames) T.F_Lnames sc_Lnames rfl (fun cdv A outer s H E G0 hr tk =>
    dss_cons (ds_sh (ps_set (i := 3) sc_Lnames.nd rfl (by first | exact Or.inl rfl | exact Or.inr rfl) (de_z (de_str)))) (dss_cons (ds_sh (ps_set (i := 4) sc_Lnames.nd rfl (by first | exact Or.inl rfl | exact Or.inr rfl) (de_z (de_call (w_Ldraws T) (hr.mono (by decide)) (by rfl) T.g_Ldraws T.F_Ldraws.kp T.b_Ldraws tk (da_cons (de_var (pv 0)) (da_cons (de_var (pv 1)) (da_cons (de_op add_ok (de_lst (da_cons (de_int) (da_nil))) (de_op mul_ok (de_lst (da_cons (de_int) (da_cons (de_int) (da_cons (de_int) (da_cons (de_int) (da_cons (de_int) (da_cons (de_int) (da_cons (de_int) (da_nil))))))))) (de_var (pv 2)))) (da_nil)))))))) (dss_cons (ds_set (ps_set (i := 5) sc_Lnames.nd rfl (by first | exact Or.inl rfl | exact Or.inr rfl) (de_lst (da_nil)))) (dss_cons (ds_for (passes_of rfl) rfl (di_rng1 (by rfl) T.n_range (da_cons (de_var (pv 2)) (da_nil))) (pg_name (i := 6) sc_Lnames.nd rfl (by first | exact Or.inl rfl | exact Or.inr rfl)) (dg_name 6) (dss_cons (ds_sh (ps_set (i := 7) sc_Lnames.nd rfl (by first | exact Or.inl rfl | exact Or.inr rfl) (de_z (de_sl (de_var (pv 4)) (do_some (de_op add_ok (de_int) (de_op mul_ok (de_int) (de_var (pv 6))))) (do_some (de_op add_ok (de_op add_ok (de_int) (de_op mul_ok (de_int) (de_var (pv 6)))) (de_ix (hu_of hr) (de_var (pv 4)) (de_op add_ok (de_int) (de_op mul_ok (de_int) (de_var (pv 6))))))))))) (dss_cons (ds_if (dt_cmp (eq_ok hr.units) (de_ix (hu_of hr) (de_var (pv 4)) (de_int)) (de_int) (nomark _)) (dss_one ((by first | exact ds_shLc (dg_name 10) (by decide) (ps_setLc (i := 7) (own := [("_law_sign", 10)]) rfl sc_Lnames.nd rfl rfl (sw_true rfl rfl rfl (by decide +kernel)) (di_items (de_var (pv 7))) (blkOk_by (own := [("_law_sign", 10)]) (N := N_Lnames) (sc := defScope s_Lnames) (by decide +kernel)) (fun _ _ _ _ _ => pg_name (i := 10) sc_Lnames.nd rfl (by first | exact Or.inl rfl | exact Or.inr rfl)) (fun _ _ _ _ _ => dts_nil) (fun _ _ _ _ _ => de_z (de_op mod_ok (de_t1 int_ok (by rfl) T.n_int (by decide +kernel) (de_var (pv 10))) (de_int)))) | exact ds_sh (ps_set (i := 7) sc_Lnames.nd rfl (by first | exact Or.inl rfl | exact Or.inr rfl) (de_z (de_lc (own := [("_law_sign", 10)]) rfl sc_Lnames.nd (di_items (de_var (pv 7))) (blkOk_by (own := [("_law_sign", 10)]) (N := N_Lnames) (sc := defScope s_Lnames) (by decide +kernel)) (dg_name 10) (by decide) (fun _ _ _ _ _ => pg_name (i := 10) sc_Lnames.nd rfl (by first | exact Or.inl rfl | exact Or.inr rfl)) (fun _ _ _ _ _ => dts_nil) (fun _ _ _ _ _ => de_op mod_ok (de_t1 int_ok (by rfl) T.n_int (by decide +kernel) (de_var (pv 10))) (de_int)))))))) (dss_nil)) (dss_cons (ds_sh (ps_set (i := 8) sc_Lnames.nd rfl (by first | exact Or.inl rfl | exact Or.inr rfl) (de_z (de_join (pe_join (de_str) (de_lc (own := [("_law_sign", 10)]) rfl sc_Lnames.nd (di_items (de_var (pv 7))) (blkOk_by (own := [("_law_sign", 10)]) (N := N_Lnames) (sc := defScope s_Lnames) (by decide +kernel)) (dg_name 10) (by decide) (fun _ _ _ _ _ => pg_name (i := 10) sc_Lnames.nd rfl (by first | exact Or.inl rfl | exact Or.inr rfl)) (fun _ _ _ _ _ => dts_nil) (fun _ _ _ _ _ => de_ix (hu_of hr) (de_var (pv 3)) (de_var (pv 10))))))))) (dss_cons (ds_for (passes_of rfl) rfl (di_rng1 (by rfl) T.n_range (da_cons (de_int) (da_nil))) (pg_name (i := 9) sc_Lnames.nd rfl (by first | exact Or.inl rfl | exact Or.inr rfl)) (dg_name 9) (dss_one (ds_if (dt_cmp (in_ok (hu_of hr)) (de_var (pv 8)) (de_var (pv 5)) (by rfl)) (dss_one (ds_sh (ps_set (i := 8) sc_Lnames.nd rfl (by first | exact Or.inl rfl | exact Or.inr rfl) (de_z (de_op add_ok (de_ix (hu_of hr) (de_var (pv 3)) (de_op mod_ok (de_t1 int_ok (by rfl) T.n_int (by decide +kernel) (de_op add_ok (de_op add_ok (de_ix (hu_of hr) (de_var (pv 7)) (de_int)) (de_var (pv 9))) (de_int))) (de_int))) (de_sl (de_var (pv 8)) (do_some (de_int)) do_none)))))) (dss_nil)))) (dss_one (ds_app (ps_expr (pe_bm PySem.F.plainAttrs_list PySem.F.slot_list_append PySem.F.type_list_append mt_append (pv 5) (pa_cons (de_z (de_var (pv 8))) pa_nil)))))))))) (dss_one (ds_retV (pv 5))))))) (fun _ _ _ h => h)
theorem w_Llong (T : Tx w K mg fa fd ct ca) : FnOk P w K mg base (L2.CX P w) 3 (fa 23) (fd 23) ["_law_script", "_law_at", "_law_many"] (spD K ⟨⟨ca, none⟩, l⟩ 3 F_Llong) :=
  fn_D (FB := b_Llong) T.F_Llong sc_Llong rfl (fun cdv A outer s H E G0 hr tk =>
    dss_cons (ds_sh (ps_set (i := 3) sc_Llong.nd rfl (by first | exact Or.inl rfl | exact Or.inr rfl) (de_z (de_call (w_Ldraws T) (hr.mono (by decide)) (by rfl) T.g_Ldraws T.F_Ldraws.kp T.b_Ldraws tk (da_cons (de_var (pv 0)) (da_cons (de_var (pv 1)) (da_cons (de_op mul_ok (de_lst (da_cons (de_int) (da_cons (de_int) (da_cons (de_op pow_ok (de_int) (de_int)) (da_cons (de_op pow_ok (de_int) (de_int)) (da_cons (de_op pow_ok (de_int) (de_int)) (da_cons (de_op pow_ok (de_int) (de_int)) (da_nil)))))))) (de_var (pv 2))) (da_nil)))))))) (dss_cons (ds_set (ps_set (i := 4) sc_Llong.nd rfl (by first | exact Or.inl rfl | exact Or.inr rfl) (de_lst (da_nil)))) (dss_cons (ds_for (passes_of rfl) rfl (di_rng1 (by rfl) T.n_range (da_cons (de_var (pv 2)) (da_nil))) (pg_name (i := 5) sc_Llong.nd rfl (by first | exact Or.inl rfl | exact Or.inr rfl)) (dg_name 5) (dss_cons (ds_sh (ps_set (i := 6) sc_Llong.nd rfl (by first | exact Or.inl rfl | exact Or.inr rfl) (de_z (de_int)))) (dss_cons (ds_for (passes_of rfl) rfl (di_rng1 (by rfl) T.n_range (da_cons (de_ix (hu_of hr) (de_var (pv 3)) (de_op mul_ok (de_int) (de_var (pv 5)))) (da_nil))) (pg_name (i := 7) sc_Llong.nd rfl (by first | exact Or.inl rfl | exact Or.inr rfl)) (dg_name 7) (dss_one (ds_sh (ps_set (i := 6) sc_Llong.nd rfl (by first | exact Or.inl rfl | exact Or.inr rfl) (de_z (de_op mul_ok (de_var (pv 6)) (de_int))))))) (dss_cons (ds_sh (ps_set (i := 8) sc_Llong.nd rfl (by first | exact Or.inl rfl | exact Or.inr rfl) (de_z (de_int)))) (dss_cons (ds_for (passes_of rfl) rfl (di_items (de_sl (de_var (pv 3)) (do_some (de_op add_ok (de_op mul_ok (de_int) (de_var (pv 5))) (de_int))) (do_some (de_op add_ok (de_op mul_ok (de_int) (de_var (pv 5))) (de_int))))) (pg_name (i := 9) sc_Llong.nd rfl (by first | exact Or.inl rfl | exact Or.inr rfl)) (dg_name 9) (dss_one (ds_sh (ps_set (i := 8) sc_Llong.nd rfl (by first | exact Or.inl rfl | exact Or.inr rfl) (de_z (de_op add_ok (de_op mul_ok (de_var (pv 8)) (de_op pow_ok (de_int) (de_int))) (de_var (pv 9)))))))) (dss_cons (ds_sh (ps_set (i := 8) sc_Llong.nd rfl (by first | exact Or.inl rfl | exact Or.inr rfl) (de_z (de_op mod_ok (de_t1 int_ok (by rfl) T.n_int (by decide +kernel) (de_var (pv 8))) (de_var (pv 6)))))) (dss_one (ds_app (ps_expr (pe_bm PySem.F.plainAttrs_list PySem.F.slot_list_append PySem.F.type_list_append mt_append (pv 4) (pa_cons (de_z (de_if (dt_cmp (eq_ok hr.units) (de_ix (hu_of hr) (de_var (pv 3)) (de_op add_ok (de_op mul_ok (de_int) (de_var (pv 5))) (de_int))) (de_int) (nomark _)) (de_un un_ok (de_var (pv 8))) (de_var (pv 8)))) pa_nil))))))))))) (dss_one (ds_retV (pv 4)))))) (fun _ _ _ h => h)
theorem w_Lscale (T : Tx w K mg fa fd ct ca) : FnOk P w K mg base (L2.CX P w) 4 (fa 24) (fd 24) ["_law_script", "_law_at"] (spD K ⟨⟨ca, none⟩, l⟩ 2 F_Lscale) :=
  fn_D (FB := b_Lscale) T.F_Lscale sc_Lscale rfl (fun cdv A outer s H E G0 hr tk =>
    dss_cons (ds_sh (ps_set (i := 2) sc_Lscale.nd rfl (by first | exact Or.inl rfl | exact Or.inr rfl) (de_z (de_call (w_Ldraws T) (hr.mono (by decide)) (by rfl) T.g_Ldraws T.F_Ldraws.kp T.b_Ldraws tk (da_cons (de_var (pv 0)) (da_cons (de_var (pv 1)) (da_cons (de_lst (da_cons (de_int) (da_cons (de_op pow_ok (de_int) (de_int)) (da_cons (de_op pow_ok (de_int) (de_int)) (da_cons (de_op pow_ok (de_int) (de_int)) (da_cons (de_op pow_ok (de_int) (de_int)) (da_nil))))))) (da_nil)))))))) (dss_cons (ds_sh (ps_set (i := 3) sc_Lscale.nd rfl (by first | exact Or.inl rfl | exact Or.inr rfl) (de_z (de_call (w_Llong T) (hr.mono (by decide)) (by rfl) T.g_Llong T.F_Llong.kp T.b_Llong tk (da_cons (de_var (pv 0)) (da_cons (de_op add_ok (de_var (pv 1)) (de_int)) (da_cons (de_int) (da_nil)))))))) (dss_cons (ds_if (dt_cmp (eq_ok hr.units) (de_ix (hu_of hr) (de_var (pv 2)) (de_int)) (de_int) (nomark _)) (dss_one (ds_ret (de_tup (da_cons (de_int) (da_cons (de_int) (da_cons (de_int) (da_cons (de_int) (da_nil)))))))) (dss_nil)) (dss_cons (ds_if (dt_cmp (eq_ok hr.units) (de_ix (hu_of hr) (de_var (pv 2)) (de_int)) (de_int) (nomark _)) (dss_one (ds_ret (de_tup (da_cons (de_int) (da_cons (de_op fdiv_ok (de_ix (hu_of hr) (de_var (pv 3)) (de_int)) (de_int)) (da_cons (de_int) (da_cons (de_op fdiv_ok (de_ix (hu_of hr) (de_var (pv 3)) (de_int)) (de_int)) (da_nil)))))))) (dss_nil)) (dss_one (ds_ret (de_tup (da_cons (de_op add_ok (de_int) (de_op mul_ok (de_ix (hu_of hr) (de_var (pv 2)) (de_int)) (de_ix (hu_of hr) (de_var (pv 2)) (de_int)))) (da_cons (de_op fdiv_ok (de_ix (hu_of hr) (de_var (pv 3)) (de_int)) (de_int)) (da_cons (de_op add_ok (de_int) (de_op mul_ok (de_ix (hu_of hr) (de_var (pv 2)) (de_int)) (de_ix (hu_of hr) (de_var (pv 2)) (de_int)))) (da_cons (de_op fdiv_ok (de_ix (hu_of hr) (de_var (pv 3)) (de_int)) (de_int)) (da_nil)))))))))))) (fun _ _ _ h => h)
theorem w_Lrow (T : Tx w K mg fa fd ct ca) : FnOk P w K mg base (L2.CX P w) 3 (fa 25) (fd 25) ["_law_script", "_law_at", "_law_first", "_law_size", "_law_high"] (spD K ⟨⟨ca, none⟩, l⟩ 5 F_Lrow) :=
  fn_D (FB := b_Lrow) T.F_Lrow sc_Lrow rfl (fun cdv A outer s H E G0 hr tk =>
    dss_cons (ds_sh (ps_set (i := 5) sc_Lrow.nd rfl (by first | exact Or.inl rfl | exact Or.inr rfl) (de_z (de_call (w_Ldraws T) (hr.mono (by decide)) (by rfl) T.g_Ldraws T.F_Ldraws.kp T.b_Ldraws tk (da_cons (de_var (pv 0)) (da_cons (de_var (pv 1)) (da_cons (de_op add_ok (de_lst (da_cons (de_int) (da_cons (de_var (pv 3)) (da_cons (de_var (pv 4)) (da_nil))))) (de_op mul_ok (de_lst (da_cons (de_int) (da_cons (de_var (pv 4)) (da_nil)))) (de_var (pv 3)))) (da_nil)))))))) (dss_cons ((by first | exact ds_shLc (dg_name 8) (by decide) (ps_setLc (i := 6) (own := [("_law_k", 8)]) rfl sc_Lrow.nd rfl rfl (sw_true rfl rfl rfl (by decide +kernel)) (di_rng1 (by rfl) T.n_range (da_cons (de_var (pv 3)) (da_nil))) (blkOk_by (own := [("_law_k", 8)]) (N := N_Lrow) (sc := defScope s_Lrow) (by decide +kernel)) (fun _ _ _ _ _ => pg_name (i := 8) sc_Lrow.nd rfl (by first | exact Or.inl rfl | exact Or.inr rfl)) (fun _ _ _ _ _ => dts_one (dt_cmp (eq_ok hr.units) (de_ix (hu_of hr) (de_var (pv 5)) (de_op add_ok (de_int) (de_op mul_ok (de_int) (de_var (pv 8))))) (de_int) (nomark _))) (fun _ _ _ _ _ => de_z (de_tup (da_cons (de_op add_ok (de_var (pv 2)) (de_var (pv 8))) (da_cons (de_ix (hu_of hr) (de_var (pv 5)) (de_op add_ok (de_int) (de_op mul_ok (de_int) (de_var (pv 8))))) (da_nil)))))) | exact ds_sh (ps_set (i := 6) sc_Lrow.nd rfl (by first | exact Or.inl rfl | exact Or.inr rfl) (de_z (de_lc (own := [("_law_k", 8)]) rfl sc_Lrow.nd (di_rng1 (by rfl) T.n_range (da_cons (de_var (pv 3)) (da_nil))) (blkOk_by (own := [("_law_k", 8)]) (N := N_Lrow) (sc := defScope s_Lrow) (by decide +kernel)) (dg_name 8) (by decide) (fun _ _ _ _ _ => pg_name (i := 8) sc_Lrow.nd rfl (by first | exact Or.inl rfl | exact Or.inr rfl)) (fun _ _ _ _ _ => dts_one (dt_cmp (eq_ok hr.units) (de_ix (hu_of hr) (de_var (pv 5)) (de_op add_ok (de_int) (de_op mul_ok (de_int) (de_var (pv 8))))) (de_int) (nomark _))) (fun _ _ _ _ _ => de_tup (da_cons (de_op add_ok (de_var (pv 2)) (de_var (pv 8))) (da_cons (de_ix (hu_of hr) (de_var (pv 5)) (de_op add_ok (de_int) (de_op mul_ok (de_int) (de_var (pv 8))))) (da_nil))))))))) (dss_cons (ds_if (dt_cmp (eq_ok hr.units) (de_var (pv 6)) (de_lst (da_nil)) (nomark _)) (dss_one (ds_sh (ps_set (i := 6) sc_Lrow.nd rfl (by first | exact Or.inl rfl | exact Or.inr rfl) (de_z (de_lst (da_cons (de_tup (da_cons (de_op add_ok (de_var (pv 2)) (de_ix (hu_of hr) (de_var (pv 5)) (de_int))) (da_cons (de_ix (hu_of hr) (de_var (pv 5)) (de_int)) (da_nil)))) (da_nil))))))) (dss_nil)) (dss_cons (ds_if (dt_cmp (eq_ok hr.units) (de_ix (hu_of hr) (de_var (pv 5)) (de_int)) (de_int) (nomark _)) (dss_one (ds_sh (ps_set (i := 6) sc_Lrow.nd rfl (by first | exact Or.inl rfl | exact Or.inr rfl) (de_z (de_rev (de_var (pv 6))))))) (dss_nil)) (dss_cons (ds_if (dt_cmp (eq_ok hr.units) (de_ix (hu_of hr) (de_var (pv 5)) (de_int)) (de_int) (nomark _)) (dss_one (ds_sh (ps_set (i := 6) sc_Lrow.nd rfl (by first | exact Or.inl rfl | exact Or.inr rfl) (de_z (de_op add_ok (de_sl (de_var (pv 6)) (do_some (de_int)) do_none) (de_sl (de_var (pv 6)) do_none (do_some (de_int)))))))) (dss_nil)) (dss_cons (ds_if (dt_cmp (eq_ok hr.units) (de_ix (hu_of hr) (de_var (pv 5)) (de_int)) (de_int) (nomark _)) (dss_cons (ds_sh (ps_set (i := 7) sc_Lrow.nd rfl (by first | exact Or.inl rfl | exact Or.inr rfl) (de_z (de_b1 (sort_ok rfl) (by rfl) T.n_sorted (by decide +kernel) (de_lc (own := [("_law_entry", 9)]) rfl sc_Lrow.nd (di_items (de_var (pv 6))) (blkOk_by (own := [("_law_entry", 9)]) (N := N_Lrow) (sc := defScope s_Lrow) (by decide +kernel)) (dg_name 9) (by decide) (fun _ _ _ _ _ => pg_name (i := 9) sc_Lrow.nd rfl (by first | exact Or.inl rfl | exact Or.inr rfl)) (fun _ _ _ _ _ => dts_nil) (fun _ _ _ _ _ => de_ix (hu_of hr) (de_var (pv 9)) (de_int))))))) (dss_one ((by first | exact ds_shLc (dg_name 8) (by decide) (ps_setLc (i := 6) (own := [("_law_k", 8)]) rfl sc_Lrow.nd rfl rfl (sw_true rfl rfl rfl (by decide +kernel)) (di_rng1 (by rfl) T.n_range (da_cons (de_b1 len_ok (by rfl) T.n_len (by decide +kernel) (de_var (pv 6))) (da_nil))) (blkOk_by (own := [("_law_k", 8)]) (N := N_Lrow) (sc := defScope s_Lrow) (by decide +kernel)) (fun _ _ _ _ _ => pg_name (i := 8) sc_Lrow.nd rfl (by first | exact Or.inl rfl | exact Or.inr rfl)) (fun _ _ _ _ _ => dts_nil) (fun _ _ _ _ _ => de_z (de_tup (da_cons (de_ix (hu_of hr) (de_ix (hu_of hr) (de_var (pv 6)) (de_var (pv 8))) (de_int)) (da_cons (de_ix (hu_of hr) (de_var (pv 7)) (de_var (pv 8))) (da_nil)))))) | exact ds_sh (ps_set (i := 6) sc_Lrow.nd rfl (by first | exact Or.inl rfl | exact Or.inr rfl) (de_z (de_lc (own := [("_law_k", 8)]) rfl sc_Lrow.nd (di_rng1 (by rfl) T.n_range (da_cons (de_b1 len_ok (by rfl) T.n_len (by decide +kernel) (de_var (pv 6))) (da_nil))) (blkOk_by (own := [("_law_k", 8)]) (N := N_Lrow) (sc := defScope s_Lrow) (by decide +kernel)) (dg_name 8) (by decide) (fun _ _ _ _ _ => pg_name (i := 8) sc_Lrow.nd rfl (by first | exact Or.inl rfl | exact Or.inr rfl)) (fun _ _ _ _ _ => dts_nil) (fun _ _ _ _ _ => de_tup (da_cons (de_ix (hu_of hr) (de_ix (hu_of hr) (de_var (pv 6)) (de_var (pv 8))) (de_int)) (da_cons (de_ix (hu_of hr) (de_var (pv 7)) (de_var (pv 8))) (da_nil))))))))))) (dss_nil)) (dss_one (ds_retV (pv 6))))))))) (fun _ _ _ h => h)
theorem w_Lcopies_2 (T : Tx w K mg fa fd ct ca) : FnOk P w K mg base (L2.CX P w) 1 (fa 26) (fd 26) ["_law_parts_here"] (spS K ⟨ca, none⟩ 1 F_Lcopies_2) :=
  fn_S (FB := b_Lcopies_2) T.F_Lcopies_2 sc_Lcopies_2 rfl (fun cdv A outer s H E hr tk =>
    jss_cons (js_set (ps_set (i := 1) sc_Lcopies_2.nd rfl (by first | exact Or.inl rfl | exact Or.inr rfl) (je_z true (je_lft (fun l => de_dct0))))) (jss_cons (js_for (passes_of rfl) rfl (ji_lft (fun l => di_items (de_ix (hu_of hr) (de_var (pv 0)) (de_int)))) (pg_name (i := 2) sc_Lcopies_2.nd rfl (by first | exact Or.inl rfl | exact Or.inr rfl)) (fun l => dg_name 2) (jss_one (js_put (ps_asg (je_z false (je_lft (fun l => de_t1 (list_ok rfl) (by rfl) T.n_list (by decide +kernel) (de_ix (hu_of hr) (de_ix (hu_of hr) (de_var (pv 0)) (de_int)) (de_var (pv 2)))))) (pg_sub (je_lft (fun l => de_var (pv 1))) (je_lft (fun l => de_var (pv 2))) (set_any (hu_of hr))))))) (jss_one (js_ret (je_tup (ja_cons false (je_lft (fun l => de_t1 (dict_ok rfl) (by rfl) T.n_dict (by decide +kernel) (de_ix (hu_of hr) (de_var (pv 0)) (de_int)))) (ja_cons false (je_lft (fun l => de_t1 (dict_ok rfl) (by rfl) T.n_dict (by decide +kernel) (de_ix (hu_of hr) (de_var (pv 0)) (de_int)))) (ja_cons false (je_lft (fun l => de_var (pv 1))) (ja_nil))))))))) (fun _ _ _ _ h => h)
theorem w_Lparts (T : Tx w K mg fa fd ct ca) : FnOk P w K mg base (L2.CX P w) 4 (fa 27) (fd 27) ["_law_script", "_law_at"] (spD K ⟨⟨ca, none⟩, l⟩ 2 F_Lparts) :=
  fn_D (FB := b_Lparts) T.F_Lparts sc_Lparts rfl (fun cdv A outer s H E G0 hr tk =>
    dss_cons (ds_sh (ps_set (i := 2) sc_Lparts.nd rfl (by first | exact Or.inl rfl | exact Or.inr rfl) (de_z (de_call (w_Ldraws T) (hr.mono (by decide)) (by rfl) T.g_Ldraws T.F_Ldraws.kp T.b_Ldraws tk (da_cons (de_var (pv 0)) (da_cons (de_var (pv 1)) (da_cons (de_op add_ok (de_op add_ok (de_lst (da_cons (de_int) (da_cons (de_int) (da_cons (de_int) (da_cons (de_int) (da_cons (de_int) (da_nil))))))) (de_op mul_ok (de_lst (da_cons (de_int) (da_nil))) (de_int))) (de_op mul_ok (de_lst (da_cons (de_int) (da_nil))) (de_int))) (da_nil)))))))) (dss_cons (ds_sh (ps_set (i := 3) sc_Lparts.nd rfl (by first | exact Or.inl rfl | exact Or.inr rfl) (de_z (de_call (w_Lnames T) (hr.mono (by decide)) (by rfl) T.g_Lnames T.F_Lnames.kp T.b_Lnames tk (da_cons (de_var (pv 0)) (da_cons (de_op add_ok (de_var (pv 1)) (de_int)) (da_cons (de_int) (da_nil)))))))) (dss_cons (ds_set (ps_set (i := 4) sc_Lparts.nd rfl (by first | exact Or.inl rfl | exact Or.inr rfl) (de_dct0))) (dss_cons (ds_for (passes_of rfl) rfl (di_rng1 (by rfl) T.n_range (da_cons (de_ix (hu_of hr) (de_var (pv 2)) (de_int)) (da_nil))) (pg_name (i := 5) sc_Lparts.nd rfl (by first | exact Or.inl rfl | exact Or.inr rfl)) (dg_name 5) (dss_one (ds_put (ps_asg (de_z (de_op sub_ok (de_ix (hu_of hr) (de_var (pv 2)) (de_op add_ok (de_int) (de_var (pv 5)))) (de_int))) (pg_sub (pv 4) (de_ix (hu_of hr) (de_var (pv 3)) (de_var (pv 5))) (set_any (hu_of hr))))))) (dss_cons (ds_set (ps_set (i := 6) sc_Lparts.nd rfl (by first | exact Or.inl rfl | exact Or.inr rfl) (de_dct0))) (dss_cons (ds_for (passes_of rfl) rfl (di_rng1 (by rfl) T.n_range (da_cons (de_ix (hu_of hr) (de_var (pv 2)) (de_int)) (da_nil))) (pg_name (i := 5) sc_Lparts.nd rfl (by first | exact Or.inl rfl | exact Or.inr rfl)) (dg_name 5) (dss_one (ds_put (ps_asg (de_z (de_op sub_ok (de_ix (hu_of hr) (de_var (pv 2)) (de_op add_ok (de_int) (de_var (pv 5)))) (de_int))) (pg_sub (pv 6) (de_ix (hu_of hr) (de_var (pv 3)) (de_op add_ok (de_int) (de_var (pv 5)))) (set_any (hu_of hr))))))) (dss_cons (ds_set (ps_set (i := 7) sc_Lparts.nd rfl (by first | exact Or.inl rfl | exact Or.inr rfl) (de_dct0))) (dss_cons (ds_for (passes_of rfl) rfl (di_rng1 (by rfl) T.n_range (da_cons (de_ix (hu_of hr) (de_var (pv 2)) (de_int)) (da_nil))) (pg_name (i := 5) sc_Lparts.nd rfl (by first | exact Or.inl rfl | exact Or.inr rfl)) (dg_name 5) (dss_one (ds_put (ps_asg (de_z (de_call (w_Lrow T) (hr.mono (by decide)) (by rfl) T.g_Lrow T.F_Lrow.kp T.b_Lrow tk (da_cons (de_var (pv 0)) (da_cons (de_op add_ok (de_op add_ok (de_var (pv 1)) (de_int)) (de_var (pv 5))) (da_cons (de_un un_ok (de_int)) (da_cons (de_int) (da_cons (de_op sub_ok (de_int) (de_ix (hu_of hr) (de_var (pv 2)) (de_int))) (da_nil)))))))) (pg_sub (pv 7) (de_ix (hu_of hr) (de_var (pv 3)) (de_op add_ok (de_int) (de_var (pv 5)))) (set_any (hu_of hr))))))) (dss_cons (ds_if (dt_w (dw_and (dt_cmp gt_ok (de_ix (hu_of hr) (de_var (pv 2)) (de_int)) (de_int) (nomark _)) (dw_and1 (dt_cmp (eq_ok hr.units) (de_ix (hu_of hr) (de_var (pv 2)) (de_int)) (de_int) (nomark _))))) (dss_cons ((by first | exact ds_lc (dg_tl (n := 2) (dgs_cons (dg_name 10) (dgs_cons (dg_name 11) (dgs_nil)))) (by decide) (ps_setLc (i := 8) (own := [("_law_place", 10), ("_law_value", 11)]) rfl sc_Lparts.nd rfl rfl (sw_true rfl rfl rfl (by decide +kernel)) (di_items (de_ix (hu_of hr) (de_var (pv 7)) (de_ix (hu_of hr) (de_var (pv 3)) (de_int)))) (blkOk_by (own := [("_law_place", 10), ("_law_value", 11)]) (N := N_Lparts) (sc := defScope s_Lparts) (by decide +kernel)) (fun _ _ _ _ _ => PG.or (pg_tup rfl (pgs_cons (pg_name (i := 10) sc_Lparts.nd rfl (by first | exact Or.inl rfl | exact Or.inr rfl)) (pgs_cons (pg_name (i := 11) sc_Lparts.nd rfl (by first | exact Or.inl rfl | exact Or.inr rfl)) (pgs_nil)))) (pg_unl rfl (pgs_cons (pg_name (i := 10) sc_Lparts.nd rfl (by first | exact Or.inl rfl | exact Or.inr rfl)) (pgs_cons (pg_name (i := 11) sc_Lparts.nd rfl (by first | exact Or.inl rfl | exact Or.inr rfl)) (pgs_nil))))) (fun _ _ _ _ _ => dts_nil) (fun _ _ _ _ _ => de_z (de_tup (da_cons (de_var (pv 10)) (da_cons (de_op add_ok (de_var (pv 11)) (de_ix (hu_of hr) (de_var (pv 2)) (de_int))) (da_nil)))))) | exact ds_set (ps_set (i := 8) sc_Lparts.nd rfl (by first | exact Or.inl rfl | exact Or.inr rfl) (de_lc (own := [("_law_place", 10), ("_law_value", 11)]) rfl sc_Lparts.nd (di_items (de_ix (hu_of hr) (de_var (pv 7)) (de_ix (hu_of hr) (de_var (pv 3)) (de_int)))) (blkOk_by (own := [("_law_place", 10), ("_law_value", 11)]) (N := N_Lparts) (sc := defScope s_Lparts) (by decide +kernel)) (dg_tl (n := 2) (dgs_cons (dg_name 10) (dgs_cons (dg_name 11) (dgs_nil)))) (by decide) (fun _ _ _ _ _ => PG.or (pg_tup rfl (pgs_cons (pg_name (i := 10) sc_Lparts.nd rfl (by first | exact Or.inl rfl | exact Or.inr rfl)) (pgs_cons (pg_name (i := 11) sc_Lparts.nd rfl (by first | exact Or.inl rfl | exact Or.inr rfl)) (pgs_nil)))) (pg_unl rfl (pgs_cons (pg_name (i := 10) sc_Lparts.nd rfl (by first | exact Or.inl rfl | exact Or.inr rfl)) (pgs_cons (pg_name (i := 11) sc_Lparts.nd rfl (by first | exact Or.inl rfl | exact Or.inr rfl)) (pgs_nil))))) (fun _ _ _ _ _ => dts_nil) (fun _ _ _ _ _ => de_tup (da_cons (de_var (pv 10)) (da_cons (de_op add_ok (de_var (pv 11)) (de_ix (hu_of hr) (de_var (pv 2)) (de_int))) (da_nil)))))))) (dss_cons (ds_put (ps_asg (de_z (de_ix (hu_of hr) (de_ix (hu_of hr) (de_var (pv 7)) (de_ix (hu_of hr) (de_var (pv 3)) (de_int))) (de_int))) (pg_sub (pv 8) (de_op mod_ok (de_t1 int_ok (by rfl) T.n_int (by decide +kernel) (de_ix (hu_of hr) (de_var (pv 2)) (de_int))) (de_b1 len_ok (by rfl) T.n_len (by decide +kernel) (de_var (pv 8)))) (set_any (hu_of hr))))) (dss_fr (i := 8) (dss_cons ((by first | exact ds_shLc (dg_name 12) (by decide) (ps_setLc (i := 9) (own := [("_law_entry", 12)]) rfl sc_Lparts.nd rfl rfl (sw_true rfl rfl rfl (by decide +kernel)) (di_items (de_var (pv 8))) (blkOk_by (own := [("_law_entry", 12)]) (N := N_Lparts) (sc := defScope s_Lparts) (by decide +kernel)) (fun _ _ _ _ _ => pg_name (i := 12) sc_Lparts.nd rfl (by first | exact Or.inl rfl | exact Or.inr rfl)) (fun _ _ _ _ _ => dts_nil) (fun _ _ _ _ _ => de_z (de_ix (hu_of hr) (de_var (pv 12)) (de_int)))) | exact ds_sh (ps_set (i := 9) sc_Lparts.nd rfl (by first | exact Or.inl rfl | exact Or.inr rfl) (de_z (de_lc (own := [("_law_entry", 12)]) rfl sc_Lparts.nd (di_items (de_var (pv 8))) (blkOk_by (own := [("_law_entry", 12)]) (N := N_Lparts) (sc := defScope s_Lparts) (by decide +kernel)) (dg_name 12) (by decide) (fun _ _ _ _ _ => pg_name (i := 12) sc_Lparts.nd rfl (by first | exact Or.inl rfl | exact Or.inr rfl)) (fun _ _ _ _ _ => dts_nil) (fun _ _ _ _ _ => de_ix (hu_of hr) (de_var (pv 12)) (de_int))))))) (dss_one (ds_put (ps_asg (de_z (de_lc (own := [("_law_k", 5)]) rfl sc_Lparts.nd (di_rng1 (by rfl) T.n_range (da_cons (de_b1 len_ok (by rfl) T.n_len (by decide +kernel) (de_var (pv 8))) (da_nil))) (blkOk_by (own := [("_law_k", 5)]) (N := N_Lparts) (sc := defScope s_Lparts) (by decide +kernel)) (dg_name 5) (by decide) (fun _ _ _ _ _ => pg_name (i := 5) sc_Lparts.nd rfl (by first | exact Or.inl rfl | exact Or.inr rfl)) (fun _ _ _ _ _ => dts_one (dt_cmp (notin_ok (hu_of hr)) (de_ix (hu_of hr) (de_ix (hu_of hr) (de_var (pv 8)) (de_var (pv 5))) (de_int)) (de_sl (de_var (pv 9)) do_none (do_some (de_var (pv 5)))) (by rfl))) (fun _ _ _ _ _ => de_ix (hu_of hr) (de_var (pv 8)) (de_var (pv 5))))) (pg_sub (pv 7) (de_ix (hu_of hr) (de_var (pv 3)) (de_int)) (set_any (hu_of hr)))))))))) (dss_nil)) (dss_fr (i := 4) (dss_fr (i := 6) (dss_fr (i := 7) (dss_one (ds_ret (de_tup (da_cons (de_var (pv 4)) (da_cons (de_var (pv 6)) (da_cons (de_var (pv 7)) (da_nil))))))))))))))))))) (fun _ _ _ h => h)
theorem w_Lrich_parts (T : Tx w K mg fa fd ct ca) : FnOk P w K mg base (L2.CX P w) 5 (fa 28) (fd 28) ["_law_script", "_law_at"] (spS K ⟨ca, none⟩ 2 F_Lrich_parts) :=
  fn_S (FB := b_Lrich_parts) T.F_Lrich_parts sc_Lrich_parts rfl (fun cdv A outer s H E hr tk =>
    jss_cons (js_set (ps_set (i := 2) sc_Lrich_parts.nd rfl (by first | exact Or.inl rfl | exact Or.inr rfl) (je_z false (je_call (w_Lcopies_2 T) (hr.mono (by decide)) (by rfl) T.g_Lcopies_2 T.F_Lcopies_2.kp T.b_Lcopies_2 tk (ja_cons false (je_lft (fun l => de_call (w_Lparts T) (hr.mono (by decide)) (by rfl) T.g_Lparts T.F_Lparts.kp T.b_Lparts tk (da_cons (de_var (pv 0)) (da_cons (de_var (pv 1)) (da_nil))))) (ja_nil)))))) (jss_cons (js_set (ps_set (i := 3) sc_Lrich_parts.nd rfl (by first | exact Or.inl rfl | exact Or.inr rfl) (je_z false (je_lft (fun l => de_call (w_Lnames T) (hr.mono (by decide)) (by rfl) T.g_Lnames T.F_Lnames.kp T.b_Lnames tk (da_cons (de_var (pv 0)) (da_cons (de_op add_ok (de_var (pv 1)) (de_int)) (da_cons (de_int) (da_nil))))))))) (jss_cons (js_set (ps_set (i := 4) sc_Lrich_parts.nd rfl (by first | exact Or.inl rfl | exact Or.inr rfl) (je_z false (je_ix (hu_of hr) (je_lft (fun l => de_var (pv 2))) (je_lft (fun l => de_int)))))) (jss_cons (js_put (ps_asg (je_z false (je_lft (fun l => de_call (w_Lrow T) (hr.mono (by decide)) (by rfl) T.g_Lrow T.F_Lrow.kp T.b_Lrow tk (da_cons (de_var (pv 0)) (da_cons (de_op add_ok (de_var (pv 1)) (de_int)) (da_cons (de_un un_ok (de_int)) (da_cons (de_int) (da_cons (de_int) (da_nil))))))))) (pg_sub (je_lft (fun l => de_var (pv 4))) (je_lft (fun l => de_ix (hu_of hr) (de_var (pv 3)) (de_int))) (set_any (hu_of hr))))) (jss_frzA 9 (jss_one (js_ret (je_lft (fun l => de_var (pv 2)))))))))) (fun _ _ _ _ h => h)
theorem w_law (T : Tx w K mg fa fd ct ca) : FnOk P w K mg base (L2.CX P w) 14 (fa 29) (fd 29) ["_law_script"] (spS K ⟨ca, none⟩ 1 F_law) :=
  fn_S (FB := b_law) T.F_law sc_law rfl (fun cdv A outer s H E hr tk =>
    jss_cons (js_set (ps_set (i := 1) sc_law.nd rfl (by first | exact Or.inl rfl | exact Or.inr rfl) (je_z false (je_call (w_Lrich_parts T) (hr.mono (by decide)) (by rfl) T.g_Lrich_parts T.F_Lrich_parts.kp T.b_Lrich_parts tk (ja_cons false (je_lft (fun l => de_var (pv 0))) (ja_cons false (je_lft (fun l => de_int)) (ja_nil))))))) (jss_cons (js_set (ps_set (i := 2) sc_law.nd rfl (by first | exact Or.inl rfl | exact Or.inr rfl) (je_z false (je_lft (fun l => de_call (w_Lscale T) (hr.mono (by decide)) (by rfl) T.g_Lscale T.F_Lscale.kp T.b_Lscale tk (da_cons (de_var (pv 0)) (da_cons (de_int) (da_nil)))))))) (jss_cons (js_set (ps_set (i := 3) sc_law.nd rfl (by first | exact Or.inl rfl | exact Or.inr rfl) (je_z false (je_lft (fun l => de_sl (de_call (w_Lnames T) (hr.mono (by decide)) (by rfl) T.g_Lnames T.F_Lnames.kp T.b_Lnames tk (da_cons (de_var (pv 0)) (da_cons (de_int) (da_cons (de_int) (da_nil))))) (do_some (de_int)) do_none))))) (jss_cons (js_for (passes_of rfl) rfl (ji_lft (fun l => di_rng2 (by rfl) T.n_range (da_cons (de_int) (da_cons (de_bn (max2_ok rfl) (by rfl) T.n_max (by decide +kernel) (da_cons (de_int) (da_cons (de_bn (min2_ok rfl) (by rfl) T.n_min (by decide +kernel) (da_cons (de_b1 len_ok (by rfl) T.n_len (by decide +kernel) (de_var (pv 0))) (da_cons (de_int) (da_nil)))) (da_nil)))) (da_nil))))) (pg_name (i := 4) sc_law.nd rfl (by first | exact Or.inl rfl | exact Or.inr rfl)) (fun l => dg_name 4) (jss_cons (js_set (ps_set (i := 5) sc_law.nd rfl (by first | exact Or.inl rfl | exact Or.inr rfl) (je_z false (je_lft (fun l => de_call (w_Lsaying T) (hr.mono (by decide)) (by rfl) T.g_Lsaying T.F_Lsaying.kp T.b_Lsaying tk (da_cons (de_var (pv 0)) (da_cons (de_var (pv 4)) (da_cons (de_var (pv 1)) (da_nil))))))))) (jss_cons (js_if (jt_lft (fun l => dt_cmp (eq_ok hr.units) (de_op mod_ok (de_t1 int_ok (by rfl) T.n_int (by decide +kernel) (de_var (pv 4))) (de_int)) (de_int) (nomark _))) (jss_one (js_set (ps_set (i := 5) sc_law.nd rfl (by first | exact Or.inl rfl | exact Or.inr rfl) (je_z false (je_lft (fun l => de_call (w_Lscaled_saying T) (hr.mono (by decide)) (by rfl) T.g_Lscaled_saying T.F_Lscaled_saying.kp T.b_Lscaled_saying tk (da_cons (de_var (pv 5)) (da_cons (de_var (pv 2)) (da_nil))))))))) (jss_nil)) (jss_cons (js_set (ps_set (i := 6) sc_law.nd rfl (by first | exact Or.inl rfl | exact Or.inr rfl) (je_z false (je_lft (fun l => de_if (dt_cmp (eq_ok hr.units) (de_op mod_ok (de_t1 int_ok (by rfl) T.n_int (by decide +kernel) (de_op fdiv_ok (de_var (pv 4)) (de_int))) (de_int)) (de_int) (nomark _)) (de_t1 tup_ok (by rfl) T.n_tuple (by decide +kernel) (de_var (pv 3))) (de_tup (da_cons (de_ix (hu_of hr) (de_var (pv 3)) (de_int)) (da_cons (de_ix (hu_of hr) (de_var (pv 3)) (de_int)) (da_nil))))))))) (jss_cons (js_set (ps_set (i := 7) sc_law.nd rfl (by first | exact Or.inl rfl | exact Or.inr rfl) (je_z false (je_lft (fun l => de_call (w_Ldue T) (hr.mono (by decide)) (by rfl) T.g_Ldue T.F_Ldue.kp T.b_Ldue tk (da_cons (de_var (pv 5)) (da_cons (de_var (pv 6)) (da_nil)))))))) (jss_cons (js_set (ps_set (i := 8) sc_law.nd rfl (by first | exact Or.inl rfl | exact Or.inr rfl) (je_z true (je_call (w_opposites T) (hr.mono (by decide)) (by rfl) T.g_opposites T.F_opposites.kp T.b_opposites tk (ja_cons false (je_lft (fun l => de_var (pv 5))) (ja_cons false (je_lft (fun l => de_var (pv 6))) (ja_nil))))))) (jss_cons (js_if (jt_not (jt_tru (je_snap 9 (fun l => de_call (w_Lsame T) (hr.mono (by decide)) (by rfl) T.g_Lsame T.F_Lsame.kp T.b_Lsame tk (da_cons (de_var (pv 8)) (da_cons (de_var (pv 7)) (da_nil))))))) (jss_one (js_ret (je_lft (fun l => de_bl)))) (jss_nil)) (jss_cons (js_for (passes_of rfl) rfl (ji_lft (fun l => di_rng1 (by rfl) T.n_range (da_cons (de_b1 len_ok (by rfl) T.n_len (by decide +kernel) (de_var (pv 7))) (da_nil)))) (pg_name (i := 9) sc_law.nd rfl (by first | exact Or.inl rfl | exact Or.inr rfl)) (fun l => dg_name 9) (jss_cons (js_set (ps_set (i := 10) sc_law.nd rfl (by first | exact Or.inl rfl | exact Or.inr rfl) (je_z false (je_ix (hu_of hr) (je_lft (fun l => de_var (pv 8))) (je_lft (fun l => de_var (pv 9))))))) (jss_cons (js_drop (ps_expr (je_mt (id := "list.append") mo_app (pe_bm PySem.F.plainAttrs_list PySem.F.slot_list_append PySem.F.type_list_append mt_append (je_lft (fun l => de_var (pv 10))) (ja_cons false (je_lft (fun l => de_var (pv 5))) (ja_nil)))))) (jss_one (js_if (jt_not (jt_tru (je_snap 9 (fun l => de_call (w_Lsame T) (hr.mono (by decide)) (by rfl) T.g_Lsame T.F_Lsame.kp T.b_Lsame tk (da_cons (de_var (pv 8)) (da_cons (de_lc (own := [("_law_j", 11)]) rfl sc_law.nd (di_rng1 (by rfl) T.n_range (da_cons (de_b1 len_ok (by rfl) T.n_len (by decide +kernel) (de_var (pv 7))) (da_nil))) (blkOk_by (own := [("_law_j", 11)]) (N := N_law) (sc := defScope s_law) (by decide +kernel)) (dg_name 11) (by decide) (fun _ _ _ _ _ => pg_name (i := 11) sc_law.nd rfl (by first | exact Or.inl rfl | exact Or.inr rfl)) (fun _ _ _ _ _ => dts_nil) (fun _ _ _ _ _ => de_op add_ok (de_ix (hu_of hr) (de_var (pv 7)) (de_var (pv 11))) (de_op mul_ok (de_lst (da_cons (de_var (pv 5)) (da_nil))) (de_t1 int_ok (by rfl) T.n_int (by decide +kernel) (de_cmp le_ok (de_var (pv 11)) (de_var (pv 9)) (nomark _)))))) (da_nil))))))) (jss_one (js_ret (je_lft (fun l => de_bl)))) (jss_nil)))))) (jss_cons (js_drop (ps_expr (je_mt (id := "list.append") mo_app (pe_bm PySem.F.plainAttrs_list PySem.F.slot_list_append PySem.F.type_list_append mt_append (je_lft (fun l => de_var (pv 8))) (ja_cons false (je_lft (fun l => de_lst (da_nil))) (ja_nil)))))) (jss_one (js_if (jt_not (jt_tru (je_callG 9 (fun l => w_Lsame T) (hr.mono (by decide)) (by rfl) T.g_Lsame T.F_Lsame.kp T.b_Lsame tk (ja_cons false (je_callP (w_opposites T) (hr.mono (by decide)) (by rfl) T.g_opposites T.F_opposites.kp T.q_opposites_0 rfl rfl (by decide) tk (jk_cons false (je_lft (fun l => de_var (pv 6))) (jk_cons false (je_lft (fun l => de_var (pv 5))) (jk_nil)))) (ja_cons false (je_lft (fun l => de_var (pv 7))) (ja_nil)))))) (jss_one (js_ret (je_lft (fun l => de_bl)))) (jss_nil)))))))))))) (jss_one (js_ret (je_lft (fun l => de_bl)))))))) (fun _ _ _ _ h => h)
end
end K20
set_option pp.maxSteps 1500
namespace K20
open PySem L2 PD C
/-- neighbours -/
def btw : List (Str × Int) → List Sy
  | [] => []
  | [_] => []
  | a :: b :: t => .place a b :: btw (b :: t)
def btD (l : List (Str × Int)) : List D := (btw l).map Sy.D
def rowO (e g : Option (Str × Int)) (ts : List (Str × Int)) : List (Str × Int) := e.toList ++ ts ++ g.toList
theorem within1 (e g : Option (Str × Int)) (i : Str × Int) : F_within [opD e, .lst [ptD i], opD g] = some (.val .nw (.lst (btD (rowO e g [i])))) := by
  cases e <;> cases g <;> rfl
theorem within2 (e g : Option (Str × Int)) (i j : Str × Int) : F_within [opD e, .lst [ptD i, ptD j], opD g] = some (.val .nw (.lst (btD (rowO e g [i, j])))) := by
  cases e <;> cases g <;> rfl
theorem rg0 : rng1D [.int 0] = some [] := rng1_ok (n := 0) (by decide)
theorem rg1 : rng1D [.int 1] = some [.int 0] := rng1_ok (n := 1) (by decide)
theorem rg1' : rng1D [.int ((1 : Nat) : Int)] = some [.int 0] := rg1
theorem rg2 : rng1D [.int 2] = some [.int 0, .int 1] := rng1_ok (n := 2) (by decide)
theorem rg2' : rng1D [.int ((2 : Nat) : Int)] = some [.int 0, .int 1] := rg2
theorem rg3 : rng1D [.int 3] = some [.int 0, .int 1, .int 2] := rng1_ok (n := 3) (by decide)
theorem between1 (e g : Option (Str × Int)) (i : Str × Int) : wR (F_Lbetween [.lst [opD e, ptD i, opD g]]) fun r => r = .val .nw (.lst (btD (rowO e g [i]))) := by
  rw [F_Lbetween, w_run, b_Lbetween]
  cases e <;> cases g
  all_goals
    dsimp! only [k12, eq_self]
    refine ⟨_, rfl, ?_⟩
    dsimp! only [k13, eq_self]
    dsimp! only [k13, eq_self, Int.reduceSub, List.length_cons, List.length_nil, Nat.zero_add, Nat.reduceAdd, Int.cast_ofNat_Int, Int.natCast_one, Int.reduceToNat, rg0, rg1, rg2, rg3]
    exact ⟨_, rfl, (by simp), rfl⟩
theorem between2 (e g : Option (Str × Int)) (i j : Str × Int) : wR (F_Lbetween [.lst [opD e, ptD i, ptD j, opD g]]) fun r => r = .val .nw (.lst (btD (rowO e g [i, j]))) := by
  rw [F_Lbetween, w_run, b_Lbetween]
  cases e <;> cases g
  all_goals
    dsimp! only [k12, eq_self]
    refine ⟨_, rfl, ?_⟩
    dsimp! only [k13, eq_self]
    dsimp! only [k13, eq_self, Int.reduceSub, List.length_cons, List.length_nil, Nat.zero_add, Nat.reduceAdd, Int.cast_ofNat_Int, Int.natCast_one, Int.reduceToNat, rg0, rg1, rg2, rg3]
    exact ⟨_, rfl, (by simp), rfl⟩
def tmP : Tm → Tm
  | .pt p => .pt (p.1, p.2 + 1)
  | .el a p k => .el a p (k + 1)
theorem moved_tm (t : Tm) : F_moved [t.D, .int 1] = some (.val .sh (tmP t).D) := by cases t <;> rfl
theorem plus_tm (t : Tm) : F_Lplus [t.D, .int 1] = some (.val .sh (tmP t).D) := by cases t <;> rfl
theorem moved_pt (p : Str × Int) : F_moved [ptD p, .int 1] = some (.val .sh (ptD (p.1, p.2 + 1))) := rfl
theorem plus_pt (p : Str × Int) : F_Lplus [ptD p, .int 1] = some (.val .sh (ptD (p.1, p.2 + 1))) := rfl
def opp (i j : Str × Int) : Sy → List (List Sy)
  | .place t u => [[.place (u.1, u.2 + 1) t]]
  | .value t u => [[.value (tmP u) t]]
  | .same a b e g k => [btw (rowO e g [i]) ++ [.value (.el a i (k + 1)) (.el b i 0)], btw (rowO e g [i]) ++ [.value (.el b i 1) (.el a i k)]]
  | .rising a e g => [btw (rowO e g [i, j]) ++ [.value (.el a j 1) (.el a i 0)]]
  | .low a e g t => [btw (rowO e g [i]) ++ [.value (.el a i 1) t]]
  | .high a e g t => [btw (rowO e g [i]) ++ [.value (tmP t) (.el a i 0)]]
  | .below a e g b r s k => [btw (rowO e g [i]) ++ btw (rowO r s [j]) ++ [.value (.el b j 1) (.el a i k)]]
def slD' (L : List Sy) : D := .lst (L.map Sy.D)
theorem btw1 (e g : Option (Str × Int)) (i : Str × Int) : (btw (rowO e g [i])).length ≤ 2 := by cases e <;> cases g <;> simp [btw, rowO]
theorem btw2 (e g : Option (Str × Int)) (i j : Str × Int) : (btw (rowO e g [i, j])).length ≤ 3 := by cases e <;> cases g <;> simp [btw, rowO]
theorem eqsome {r : Option R} {x : R} (h : r = some x) : wR r fun z => z = x := ⟨x, h, rfl⟩
theorem due_spec (y : Sy) (n m : Str) : wR (F_Ldue [y.D, .tup [.str n, .str m]]) fun r => r = .val .nw (.lst ((opp (n, 0) (m, 0) y).map slD')) := by
  have b1 := fun e g i => between1 e g i
  have b2 := fun e g i j => between2 e g i j
  have p1 := fun t => eqsome (plus_tm t)
  have p2 := fun p => eqsome (plus_pt p)
  rw [F_Ldue, w_run, b_Ldue]
  cases y with
  | place t u =>
    dsimp! only [k18, eq_self, Sy.D]
    refine (p2 u).mono ?_
    rintro r rfl
    dsimp! only [k17, eq_self]
    rfl
  | value t u =>
    dsimp! only [k18, eq_self, Sy.D]
    refine (p1 u).mono ?_
    rintro r rfl
    dsimp! only [k17, eq_self]
    rfl
  | rising a e g =>
    dsimp! only [k18, eq_self, Sy.D]
    refine (b2 e g (n, 0) (m, 0)).mono ?_
    rintro r rfl
    dsimp! only [k17, eq_self, btD]
    refine ⟨by have := btw2 e g (n, 0) (m, 0); omega, ?_⟩
    simp only [opp, slD', List.map_cons, List.map_nil, List.map_append]
    rfl
  | low a e g t =>
    dsimp! only [k18, eq_self, Sy.D]
    refine (b1 e g (n, 0)).mono ?_
    rintro r rfl
    dsimp! only [k17, eq_self, btD]
    refine ⟨by have := btw1 e g (n, 0); omega, ?_⟩
    simp only [opp, slD', List.map_cons, List.map_nil, List.map_append]
    rfl
  | high a e g t =>
    dsimp! only [k18, eq_self, Sy.D]
    refine (b1 e g (n, 0)).mono ?_
    rintro r rfl
    dsimp! only [k17, eq_self, btD]
    refine (p1 t).mono ?_
    rintro r rfl
    dsimp! only [k17, eq_self, btD]
    refine ⟨by have := btw1 e g (n, 0); omega, ?_⟩
    simp only [opp, slD', List.map_cons, List.map_nil, List.map_append]
    rfl
  | below a e g b r s k =>
    dsimp! only [k18, eq_self, Sy.D]
    refine (b1 e g (n, 0)).mono ?_
    rintro z rfl
    dsimp! only [k17, eq_self, btD]
    refine (b1 r s (m, 0)).mono ?_
    rintro z rfl
    dsimp! only [k17, eq_self, btD]
    have l1 := btw1 e g (n, 0)
    have l2 := btw1 r s (m, 0)
    refine ⟨by first | omega | (rw [List.length_map, List.length_map]; omega), by rw [List.length_append, List.length_map, List.length_map]; omega, ?_⟩
    simp only [opp, slD', List.map_cons, List.map_nil, List.map_append]
    rfl
  | same a b e g k =>
    dsimp! only [k18, eq_self, Sy.D]
    refine (b1 e g (n, 0)).mono ?_
    rintro r rfl
    dsimp! only [k17, eq_self, btD]
    have l1 := btw1 e g (n, 0)
    refine ⟨by first | omega | (rw [List.length_map]; omega), by first | omega | (rw [List.length_map]; omega), ?_⟩
    simp only [opp, slD', List.map_cons, List.map_nil, List.map_append]
    rfl
variable {QG : Kd → D → Prop}
theorem g_s4 {w x y z : D} : wG (slD (.tup [w, x, y, z]) (some 1) (some 4)) QG = QG .sh (.tup [x, y, z]) := wG_some
theorem g_s5 {w x y z v : D} : wG (slD (.tup [w, x, y, z, v]) (some 1) (some 4)) QG = QG .sh (.tup [x, y, z]) := wG_some
theorem g_s8 {w x y z a b c d : D} : wG (slD (.tup [w, x, y, z, a, b, c, d]) (some 1) (some 4)) QG = QG .sh (.tup [x, y, z]) := wG_some
theorem g_s84 {w x y z a b c d : D} : wG (slD (.tup [w, x, y, z, a, b, c, d]) (some 4) none) QG = QG .sh (.tup [a, b, c, d]) := wG_some
theorem opApp_1 {xs : List D} {d : D} (h : xs.length < 16777216) : opApp xs [d] = some (xs ++ [d], .non) := if_pos h
theorem opp_len (y : Sy) (i j : Str × Int) : ∀ A ∈ opp i j y, A.length ≤ 10 := fun A hA => by
  cases y <;> simp only [opp, List.mem_cons, List.not_mem_nil, or_false] at hA
  case same a b e g k =>
    have := btw1 e g i
    rcases hA with rfl | rfl <;> (rw [List.length_append]; simp; omega)
  case rising a e g => subst hA; have := btw2 e g i j; rw [List.length_append]; simp; omega
  case low a e g t => subst hA; have := btw1 e g i; rw [List.length_append]; simp; omega
  case high a e g t => subst hA; have := btw1 e g i; rw [List.length_append]; simp; omega
  case below a e g b r s k => subst hA; have := btw1 e g i; have := btw1 r s j; rw [List.length_append, List.length_append]; simp; omega
  all_goals subst hA; simp
theorem opp_spec (y : Sy) (hy : y.Ok VN BB) (n m : Str) (S : So) : vR (F_opposites [y.D, .tup [.str n, .str m]] S) fun r S' => (∃ A, opp (n, 0) (m, 0) y = [A] ∧ r = .val .nw (.lst [.loc S.length]) ∧ S' = S ++ [.lst (A.map Sy.D)]) ∨ ∃ A B, opp (n, 0) (m, 0) y = [A, B] ∧ r = .val .nw (.lst [.loc S.length, .loc (S.length + 1)]) ∧ S' = S ++ [.lst (A.map Sy.D)] ++ [.lst (B.map Sy.D)] := by
  have w1 := fun e g i => eqsome (within1 e g i)
  have w2 := fun e g i j => eqsome (within2 e g i j)
  have p1 := fun t => eqsome (moved_tm t)
  have p2 := fun p => eqsome (moved_pt p)
  have ck := checked_ok y hy
  rw [F_opposites, w_runS, b_opposites]
  cases y with
  | place t u =>
    simp only [Sy.D] at ck
    dsimp! only [k23, eq_self, Sy.D, g_s4, g_s5, g_s8, g_s84, g_slTail, btD]
    refine ck.mono ?_
    rintro r rfl
    dsimp! only [k24, eq_self, g_s4, g_s5, g_s8, g_s84, g_slTail, btD]
    refine (p2 u).mono ?_
    rintro z rfl
    dsimp! only [k24, eq_self, g_s4, g_s5, g_s8, g_s84, g_slTail, btD]
    exact .inl ⟨_, rfl, rfl⟩
  | value t u =>
    simp only [Sy.D] at ck
    dsimp! only [k23, eq_self, Sy.D, g_s4, g_s5, g_s8, g_s84, g_slTail, btD]
    refine ck.mono ?_
    rintro r rfl
    dsimp! only [k24, eq_self, g_s4, g_s5, g_s8, g_s84, g_slTail, btD]
    refine (p1 u).mono ?_
    rintro z rfl
    dsimp! only [k24, eq_self, g_s4, g_s5, g_s8, g_s84, g_slTail, btD]
    exact .inl ⟨_, rfl, rfl⟩
  | rising a e g =>
    simp only [Sy.D] at ck
    dsimp! only [k23, eq_self, Sy.D, g_s4, g_s5, g_s8, g_s84, g_slTail, btD]
    refine ck.mono ?_
    rintro r rfl
    dsimp! only [k24, eq_self, g_s4, g_s5, g_s8, g_s84, g_slTail, btD]
    refine (w2 e g (n, 0) (m, 0)).mono ?_
    rintro z rfl
    dsimp! only [k24, eq_self, g_s4, g_s5, g_s8, g_s84, g_slTail, btD]
    exact ⟨by have := btw2 e g (n, 0) (m, 0); omega, .inl ⟨_, rfl, by rw [List.map_append]; rfl⟩⟩
  | low a e g t =>
    simp only [Sy.D] at ck
    dsimp! only [k23, eq_self, Sy.D, g_s4, g_s5, g_s8, g_s84, g_slTail, btD]
    refine ck.mono ?_
    rintro r rfl
    dsimp! only [k24, eq_self, g_s4, g_s5, g_s8, g_s84, g_slTail, btD]
    refine (w1 e g (n, 0)).mono ?_
    rintro z rfl
    dsimp! only [k24, eq_self, g_s4, g_s5, g_s8, g_s84, g_slTail, btD]
    exact ⟨by have := btw1 e g (n, 0); omega, .inl ⟨_, rfl, by rw [List.map_append]; rfl⟩⟩
  | high a e g t =>
    simp only [Sy.D] at ck
    dsimp! only [k23, eq_self, Sy.D, g_s4, g_s5, g_s8, g_s84, g_slTail, btD]
    refine ck.mono ?_
    rintro r rfl
    dsimp! only [k24, eq_self, g_s4, g_s5, g_s8, g_s84, g_slTail, btD]
    refine (w1 e g (n, 0)).mono ?_
    rintro z rfl
    dsimp! only [k24, eq_self, g_s4, g_s5, g_s8, g_s84, g_slTail, btD]
    refine (p1 t).mono ?_
    rintro z rfl
    dsimp! only [k24, eq_self, g_s4, g_s5, g_s8, g_s84, g_slTail, btD]
    exact ⟨by have := btw1 e g (n, 0); omega, .inl ⟨_, rfl, by rw [List.map_append]; rfl⟩⟩
  | below a e g b r s k =>
    simp only [Sy.D] at ck
    dsimp! only [k23, eq_self, Sy.D, g_s4, g_s5, g_s8, g_s84, g_slTail, btD]
    refine ck.mono ?_
    rintro z rfl
    dsimp! only [k24, eq_self, g_s4, g_s5, g_s8, g_s84, g_slTail, btD]
    refine (w1 e g (n, 0)).mono ?_
    rintro z rfl
    dsimp! only [k24, eq_self, g_s4, g_s5, g_s8, g_s84, g_slTail, btD]
    refine (w1 r s (m, 0)).mono ?_
    rintro z rfl
    dsimp! only [k24, eq_self, g_s4, g_s5, g_s8, g_s84, g_slTail, btD]
    have l1 := btw1 e g (n, 0)
    have l2 := btw1 r s (m, 0)
    exact ⟨by omega, by rw [List.length_append, List.length_map, List.length_map]; omega, .inl ⟨_, rfl, by rw [List.map_append, List.map_append]; rfl⟩⟩
  | same a b e g k =>
    simp only [Sy.D] at ck
    dsimp! only [k23, eq_self, Sy.D, g_s4, g_s5, g_s8, g_s84, g_slTail, btD]
    refine ck.mono ?_
    rintro r rfl
    dsimp! only [k24, eq_self, g_s4, g_s5, g_s8, g_s84, g_slTail, btD]
    refine (w1 e g (n, 0)).mono ?_
    rintro z rfl
    dsimp! only [k24, eq_self, g_s4, g_s5, g_s8, g_s84, g_slTail, btD]
    have l1 := btw1 e g (n, 0)
    exact ⟨by omega, by omega, .inr ⟨_, _, rfl, by rw [List.length_append]; rfl, by rw [List.map_append, List.map_append]; rfl⟩⟩
theorem law_true (ns : List Int) (h : ns.length ≤ 63) : ∃ S', F_law [.scr ns] [] = some (.val .sh (.bl true), S') := by
  refine (fun ⟨x, S, e, q⟩ => ⟨S, by rw [e, q]⟩ : vR (F_law [.scr ns] []) (fun r _ => r = .val .sh (.bl true)) → _) ?_
  rw [F_law, w_runS, b_law]
  dsimp! only [k21, eq_self]
  refine (rich_main ns 0).mono ?_
  rintro r S ⟨t, rfl, w⟩
  have hz := w.z
  dsimp! only [k22, eq_self]
  refine (scale_spec ns 5).mono ?_
  rintro r ⟨s, rfl, hs⟩
  dsimp! only [k22, eq_self]
  refine (names_specN ns 1 11 (by decide)).mono ?_
  rintro r ⟨ss, rfl, sl, sn⟩
  obtain ⟨n, m, hss⟩ : ∃ n m, (ss.map D.str).drop 9 = [D.str n, D.str m] := by
    have : (ss.drop 9).length = 2 := by rw [List.length_drop]; omega
    match hd : ss.drop 9, this with
    | [n, m], _ => exact ⟨n, m, by rw [← List.map_drop, hd]; rfl⟩
  have cd : cutD (ss.map D.str) (some 9) none = [D.str n, D.str m] := (cut_drop (n := 9) (by rw [List.length_map]; omega)).trans hss
  dsimp! only [k22, eq_self, cd]
  obtain ⟨x, ex, x0, x1⟩ := cells_ok (n := ns.length) (m := 11) (by decide) (by decide) h
  dsimp! only [k22, eq_self, ex, show rng2D [.int 7, .int x] = some (rngL 7 (x - 7).toNat) from rng2_ok (a := 7) (by decide) x1 x0]
  refine forS_inv (fun _ en _ => ∃ o4 o5 o6 o7 o8 o9 o10 o11, en = [some (Sl.sh (D.scr ns)), some (Sl.sh t.D), some (Sl.sh s.D), some (Sl.sh (D.lst [D.str n, D.str m])), o4, o5, o6, o7, o8, o9, o10, o11]) ?_ ?_ _ _ _ _ (by simp) ⟨none, none, none, none, none, none, none, none, rfl⟩
  · rintro k d en S hd ⟨o4, o5, o6, o7, o8, o9, o10, o11, rfl⟩
    have hd := rngL_get2 hd
    subst hd
    refine ⟨_, rfl, ?_⟩
    dsimp! only [k22, eq_self]
    refine (pt_sayingZ hz ns (7 + k)).mono ?_
    rintro r ⟨y, rfl, hy⟩
    have hy2 : y.Ok t.V 200 := hy.mono (Voc.Le.refl _) (by decide)
    dsimp! only [k22, eq_self, -z_seqS]
    refine v_cut (fun en S' => S' = S ∧ ∃ y' : Sy, y'.Ok VN BB ∧ en = [some (Sl.sh (D.scr ns)), some (Sl.sh t.D), some (Sl.sh s.D), some (Sl.sh (D.lst [D.str n, D.str m])), some (Sl.sh (.int ((7 + k : Nat) : Int))), some (Sl.sh y'.D), o6, o7, o8, o9, o10, o11]) ?_ ?_
    · dsimp! only [k22, eq_self]
      split
      · refine (ssaying_spec _ y s hy2).mono ?_
        rintro r rfl
        dsimp! only [k22, eq_self]
        exact ⟨scSy s y, sy_sc hs (hy2.mono (vk_le hz) (Int.le_refl _)), rfl⟩
      · exact ⟨y, hy2.mono (vk_le hz) (by decide), rfl⟩
    rintro en1 S1 ⟨rfl, y', hy', rfl⟩
    refine v_cut (fun en S' => S' = S1 ∧ ∃ a b : Str, en = [some (Sl.sh (D.scr ns)), some (Sl.sh t.D), some (Sl.sh s.D), some (Sl.sh (D.lst [D.str n, D.str m])), some (Sl.sh (.int ((7 + k : Nat) : Int))), some (Sl.sh y'.D), some (.sh (.tup [.str a, .str b])), o7, o8, o9, o10, o11]) ?_ ?_
    · dsimp! only [k20, eq_self]
      refine ⟨by decide, ?_⟩
      split
      · first | exact ⟨n, m, rfl⟩ | exact ⟨rfl, n, m, rfl⟩
      · first | exact ⟨m, n, rfl⟩ | exact ⟨rfl, m, n, rfl⟩
    rintro en1 S2 ⟨rfl, a, b, rfl⟩
    dsimp! only [k22, eq_self]
    refine (due_spec y' a b).mono ?_
    rintro r rfl
    dsimp! only [k22, eq_self, -z_seqS]
    refine v_cut (fun en S' => (∃ (A : List Sy) (N M : Nat), opp (a, 0) (b, 0) y' = [A] ∧ S'[N]? = some (.lst (A.map Sy.D)) ∧ S'[M]? = some (.lst [.loc N]) ∧ N ≠ M ∧ en = [some (Sl.sh (D.scr ns)), some (Sl.sh t.D), some (Sl.sh s.D), some (Sl.sh (D.lst [D.str n, D.str m])), some (Sl.sh (.int ((7 + k : Nat) : Int))), some (Sl.sh y'.D), some (.sh (.tup [.str a, .str b])), some (.sh (.lst [slD' A])), some (.sh (.loc M)), o9, o10, o11]) ∨ (∃ (A B : List Sy) (N O M : Nat), opp (a, 0) (b, 0) y' = [A, B] ∧ S'[N]? = some (.lst (A.map Sy.D)) ∧ S'[O]? = some (.lst (B.map Sy.D)) ∧ S'[M]? = some (.lst [.loc N, .loc O]) ∧ N ≠ M ∧ O ≠ M ∧ N ≠ O ∧ en = [some (Sl.sh (D.scr ns)), some (Sl.sh t.D), some (Sl.sh s.D), some (Sl.sh (D.lst [D.str n, D.str m])), some (Sl.sh (.int ((7 + k : Nat) : Int))), some (Sl.sh y'.D), some (.sh (.tup [.str a, .str b])), some (.sh (.lst [slD' A, slD' B])), some (.sh (.loc M)), o9, o10, o11])) ?_ ?_
    · dsimp! only [k22, eq_self]
      refine (opp_spec y' hy' a b S2).mono ?_
      rintro r S3 (⟨A, hA, rfl, rfl⟩ | ⟨A, B, hA, rfl, rfl⟩)
      · rw [hA]
        dsimp! only [k22, eq_self, List.map_cons, List.map_nil]
        refine .inl ⟨A, S2.length, S2.length + 1, rfl, ?_, ?_, by omega, ?_⟩
        · simp
        · simp
        · rw [List.length_append]; rfl
      · rw [hA]
        dsimp! only [k22, eq_self, List.map_cons, List.map_nil]
        refine .inr ⟨A, B, S2.length, S2.length + 1, S2.length + 2, rfl, ?_, ?_, ?_, by omega, by omega, by omega, ?_⟩
        · simp
        · simp
        · simp
        · rw [List.length_append, List.length_append]; rfl
    rintro en1 S3 (⟨A, N, M, hA, fN, fM, nm, rfl⟩ | ⟨A, B, N, O, M, hA, fN, fO, fM, nm, om, no, rfl⟩)
    · have pA : ∀ d ∈ A.map Sy.D, Pl 3 d := fun d hd => by obtain ⟨z, _, rfl⟩ := List.mem_map.mp hd; exact pl_syD z
      have py : Pl 3 y'.D := pl_syD y'
      have al : A.length ≤ 1000 := by have := opp_len y' (a, 0) (b, 0) A (by rw [hA]; simp); omega
      have pd : Pl 5 (.lst [slD' A]) := .lst (by simp) fun d hd => by
        rw [List.mem_singleton] at hd
        subst hd
        exact pl_sys A al
      have s7 : ∀ S, snapD (snapN S 9) (.lst [slD' A]) = some (.lst [slD' A]) := fun S => snap_pl pd
      have s5 : ∀ S, snapD (snapN S 9) y'.D = some y'.D := fun S => snap_pl py
      have s8 : snapD (snapN S3 9) (.loc M) = some (.lst [slD' A]) := snap_1 (fu := 7) fM fN pA
      refine v_cut (fun en S' => S' = S3 ∧ en = [some (Sl.sh (D.scr ns)), some (Sl.sh t.D), some (Sl.sh s.D), some (Sl.sh (D.lst [D.str n, D.str m])), some (Sl.sh (.int ((7 + k : Nat) : Int))), some (Sl.sh y'.D), some (.sh (.tup [.str a, .str b])), some (.sh (.lst [slD' A])), some (.sh (.loc M)), o9, o10, o11]) ?_ ?_
      · dsimp! only [k22, eq_self, w_snap, snapE, List.map_cons, List.map_nil, s7, s8, Option.map_some]
        refine (same_ok pd (by decide)).mono ?_
        rintro r rfl
        dsimp! only [k22, eq_self]
        exact ⟨rfl, by rw [if_neg (by decide)]; trivial⟩
      rintro en1 S4 ⟨rfl, rfl⟩
      have hlA : (A.map Sy.D).length < 16777216 := by rw [List.length_map]; omega
      have oa : ∀ d : D, opApp (A.map Sy.D) [d] = some (A.map Sy.D ++ [d], .non) := fun d => if_pos hlA
      have lN : N < S4.length := (List.getElem?_eq_some_iff.mp fN).1
      have gN : (S4.set N (.lst (A.map Sy.D ++ [y'.D])))[N]? = some (.lst (A.map Sy.D ++ [y'.D])) := by rw [List.getElem?_set_self lN]
      have gM : (S4.set N (.lst (A.map Sy.D ++ [y'.D])))[M]? = some (.lst [.loc N]) := by rw [List.getElem?_set_ne nm]; exact fM
      have pA2 : ∀ d ∈ A.map Sy.D ++ [y'.D], Pl 3 d := fun d hd => by
        rcases List.mem_append.mp hd with hd | hd
        · exact pA d hd
        · rw [List.mem_singleton] at hd; subst hd; exact py
      have s8' : snapD (snapN (S4.set N (.lst (A.map Sy.D ++ [y'.D]))) 9) (.loc M) = some (.lst [.lst (A.map Sy.D ++ [y'.D])]) := snap_1 (fu := 7) gM gN pA2
      have si : ∀ S i, snapD (snapN S 9) (.int i) = some (.int i) := fun S i => snap_pl (n := 0) (.int i)
      refine v_cut (fun en S' => S'[M]? = some (.lst [.loc N]) ∧ ∃ o9 o10 o11, en = [some (Sl.sh (D.scr ns)), some (Sl.sh t.D), some (Sl.sh s.D), some (Sl.sh (D.lst [D.str n, D.str m])), some (Sl.sh (.int ((7 + k : Nat) : Int))), some (Sl.sh y'.D), some (.sh (.tup [.str a, .str b])), some (.sh (.lst [slD' A])), some (.sh (.loc M)), o9, o10, o11]) ?_ ?_
      · dsimp! only [k22, eq_self, List.length_cons, List.length_nil, Nat.zero_add, rg1']
        refine forS_1 rfl rfl ?_
        dsimp! only [k20, eq_self, dr_locl fM, atL_l fN, oa, ex_some]
        dsimp! only [k22, eq_self, w_snap, snapE, List.map_cons, List.map_nil, s7, s5, si, s8', Option.map_some, rg1', List.length_cons, List.length_nil, Nat.zero_add]
        refine ⟨_, lc_map (c := D.int) (g := fun _ => .lst (A.map Sy.D ++ [y'.D])) [(0 : Int)] (fun k hk => by
          rw [List.mem_singleton] at hk
          subst hk
          dsimp! only [k20, eq_self, slD']
          exact ⟨⟨by decide, by decide, by decide⟩, by simp; omega, _, rfl, by simp⟩), ?_⟩
        have pd2 : Pl 5 (.lst [.lst (A.map Sy.D ++ [y'.D])]) := .lst (by simp) fun d hd => by
          rw [List.mem_singleton] at hd
          subst hd
          exact .lst (by rw [List.length_append, List.length_map]; simp; omega) pA2
        dsimp! only [k22, eq_self, List.map_cons, List.map_nil]
        refine (same_ok pd2 (by decide)).mono ?_
        rintro r rfl
        dsimp! only [k22, eq_self]
        refine ⟨rfl, ?_⟩
        rw [if_neg (by decide)]
        refine forS_0 (ds := [D.int 0]) ?_
        dsimp! only [k22, eq_self]
        exact ⟨gM, _, _, _, rfl⟩
      rintro en1 S5 ⟨hM, o9, o10, o11, rfl⟩
      have oe : opApp [D.loc N] [D.lst []] = some ([D.loc N, D.lst []], .non) := opApp_1 (by simp)
      dsimp! only [k22, eq_self, atL_l hM, oe, ex_some, perm_10]
      generalize S5.set M (Cl.lst [D.loc N, D.lst []]) = S6
      refine (opp_spec y' hy' a b S6).mono ?_
      rintro r S7 (⟨A2, hA2, rfl, rfl⟩ | ⟨A2, B2, hA2, rfl, rfl⟩)
      · rw [hA] at hA2
        cases hA2
        dsimp! only [k22, eq_self]
        refine v_ofG (es := [.lst [.lst (A.map Sy.D)], .lst [slD' A]]) ?_ ?_
        · have l1 : snapD (snapN (S6 ++ [Cl.lst (A.map Sy.D)]) 9) (.lst [.loc S6.length]) = some (.lst [.lst (A.map Sy.D)]) := by
            unfold snapD
            simp only [snapL]
            rw [snap_lst (fu := 8) (by simp) pA]
            rfl
          simp only [snapL, l1, s7]
          rfl
        · refine (same_ok pd (by decide)).mono ?_
          rintro r rfl
          dsimp! only [k22, eq_self]
          refine ⟨rfl, ?_⟩
          rw [if_neg (by decide)]
          exact ⟨_, _, _, _, _, _, _, _, rfl⟩
      · rw [hA] at hA2
        cases hA2
    · have pA : ∀ d ∈ A.map Sy.D, Pl 3 d := fun d hd => by obtain ⟨z, _, rfl⟩ := List.mem_map.mp hd; exact pl_syD z
      have pB : ∀ d ∈ B.map Sy.D, Pl 3 d := fun d hd => by obtain ⟨z, _, rfl⟩ := List.mem_map.mp hd; exact pl_syD z
      have py : Pl 3 y'.D := pl_syD y'
      have al : A.length ≤ 1000 := by have := opp_len y' (a, 0) (b, 0) A (by rw [hA]; simp); omega
      have bl : B.length ≤ 1000 := by have := opp_len y' (a, 0) (b, 0) B (by rw [hA]; simp); omega
      have pd : Pl 5 (.lst [slD' A, slD' B]) := .lst (by simp) fun d hd => by
        simp only [List.mem_cons, List.not_mem_nil, or_false] at hd
        rcases hd with rfl | rfl
        · exact pl_sys A al
        · exact pl_sys B bl
      have s7 : ∀ S, snapD (snapN S 9) (.lst [slD' A, slD' B]) = some (.lst [slD' A, slD' B]) := fun S => snap_pl pd
      have s5 : ∀ S, snapD (snapN S 9) y'.D = some y'.D := fun S => snap_pl py
      have si : ∀ S i, snapD (snapN S 9) (.int i) = some (.int i) := fun S i => snap_pl (n := 0) (.int i)
      have s8 : snapD (snapN S3 9) (.loc M) = some (.lst [slD' A, slD' B]) := snap_2 (fu := 7) fM fN fO pA pB
      refine v_cut (fun en S' => S' = S3 ∧ en = [some (Sl.sh (D.scr ns)), some (Sl.sh t.D), some (Sl.sh s.D), some (Sl.sh (D.lst [D.str n, D.str m])), some (Sl.sh (.int ((7 + k : Nat) : Int))), some (Sl.sh y'.D), some (.sh (.tup [.str a, .str b])), some (.sh (.lst [slD' A, slD' B])), some (.sh (.loc M)), o9, o10, o11]) ?_ ?_
      · dsimp! only [k22, eq_self, w_snap, snapE, List.map_cons, List.map_nil, s7, s8, Option.map_some]
        refine (same_ok pd (by decide)).mono ?_
        rintro r rfl
        dsimp! only [k22, eq_self]
        exact ⟨rfl, by rw [if_neg (by decide)]; trivial⟩
      rintro en1 S4 ⟨rfl, rfl⟩
      have hlA : (A.map Sy.D).length < 16777216 := by rw [List.length_map]; omega
      have hlB : (B.map Sy.D).length < 16777216 := by rw [List.length_map]; omega
      have oa : ∀ d : D, opApp (A.map Sy.D) [d] = some (A.map Sy.D ++ [d], .non) := fun d => if_pos hlA
      have ob : ∀ d : D, opApp (B.map Sy.D) [d] = some (B.map Sy.D ++ [d], .non) := fun d => if_pos hlB
      have pA2 : ∀ d ∈ A.map Sy.D ++ [y'.D], Pl 3 d := fun d hd => by
        rcases List.mem_append.mp hd with hd | hd
        · exact pA d hd
        · rw [List.mem_singleton] at hd; subst hd; exact py
      have pB2 : ∀ d ∈ B.map Sy.D ++ [y'.D], Pl 3 d := fun d hd => by
        rcases List.mem_append.mp hd with hd | hd
        · exact pB d hd
        · rw [List.mem_singleton] at hd; subst hd; exact py
      have lN : N < S4.length := (List.getElem?_eq_some_iff.mp fN).1
      have lO : O < S4.length := (List.getElem?_eq_some_iff.mp fO).1
      have gN : (S4.set N (.lst (A.map Sy.D ++ [y'.D])))[N]? = some (.lst (A.map Sy.D ++ [y'.D])) := by rw [List.getElem?_set_self lN]
      have gO : (S4.set N (.lst (A.map Sy.D ++ [y'.D])))[O]? = some (.lst (B.map Sy.D)) := by rw [List.getElem?_set_ne no]; exact fO
      have gM : (S4.set N (.lst (A.map Sy.D ++ [y'.D])))[M]? = some (.lst [.loc N, .loc O]) := by rw [List.getElem?_set_ne nm]; exact fM
      have lO5 : O < (S4.set N (.lst (A.map Sy.D ++ [y'.D]))).length := by rw [List.length_set]; exact lO
      have hN : ((S4.set N (.lst (A.map Sy.D ++ [y'.D]))).set O (.lst (B.map Sy.D ++ [y'.D])))[N]? = some (.lst (A.map Sy.D ++ [y'.D])) := by rw [List.getElem?_set_ne (Ne.symm no)]; exact gN
      have hO : ((S4.set N (.lst (A.map Sy.D ++ [y'.D]))).set O (.lst (B.map Sy.D ++ [y'.D])))[O]? = some (.lst (B.map Sy.D ++ [y'.D])) := by rw [List.getElem?_set_self lO5]
      have hM : ((S4.set N (.lst (A.map Sy.D ++ [y'.D]))).set O (.lst (B.map Sy.D ++ [y'.D])))[M]? = some (.lst [.loc N, .loc O]) := by rw [List.getElem?_set_ne om]; exact gM
      have s81 : snapD (snapN (S4.set N (.lst (A.map Sy.D ++ [y'.D]))) 9) (.loc M) = some (.lst [.lst (A.map Sy.D ++ [y'.D]), .lst (B.map Sy.D)]) := snap_2 (fu := 7) gM gN gO pA2 pB
      have s82 : snapD (snapN ((S4.set N (.lst (A.map Sy.D ++ [y'.D]))).set O (.lst (B.map Sy.D ++ [y'.D]))) 9) (.loc M) = some (.lst [.lst (A.map Sy.D ++ [y'.D]), .lst (B.map Sy.D ++ [y'.D])]) := snap_2 (fu := 7) hM hN hO pA2 pB2
      have two : ∀ (C E : List D), C.length ≤ 1000000 → E.length ≤ 1000000 → (∀ d ∈ C, Pl 3 d) → (∀ d ∈ E, Pl 3 d) → Pl 5 (.lst [.lst C, .lst E]) := fun C E c e h1 h2 => .lst (by simp) fun d hd => by
        simp only [List.mem_cons, List.not_mem_nil, or_false] at hd
        rcases hd with rfl | rfl
        · exact .lst c h1
        · exact .lst e h2
      have pd1 : Pl 5 (.lst [.lst (A.map Sy.D ++ [y'.D]), .lst (B.map Sy.D)]) := two _ _ (by rw [List.length_append, List.length_map]; simp; omega) (by rw [List.length_map]; omega) pA2 pB
      have pd2 : Pl 5 (.lst [.lst (A.map Sy.D ++ [y'.D]), .lst (B.map Sy.D ++ [y'.D])]) := two _ _ (by rw [List.length_append, List.length_map]; simp; omega) (by rw [List.length_append, List.length_map]; simp; omega) pA2 pB2
      refine v_cut (fun en S' => S'[M]? = some (.lst [.loc N, .loc O]) ∧ ∃ o9 o10 o11, en = [some (Sl.sh (D.scr ns)), some (Sl.sh t.D), some (Sl.sh s.D), some (Sl.sh (D.lst [D.str n, D.str m])), some (Sl.sh (.int ((7 + k : Nat) : Int))), some (Sl.sh y'.D), some (.sh (.tup [.str a, .str b])), some (.sh (.lst [slD' A, slD' B])), some (.sh (.loc M)), o9, o10, o11]) ?_ ?_
      · dsimp! only [k22, eq_self, List.length_cons, List.length_nil, Nat.zero_add, Nat.reduceAdd, rg2']
        refine forS_1 rfl rfl ?_
        dsimp! only [k20, eq_self, dr_locl fM, atL_l fN, oa, ex_some]
        dsimp! only [k22, eq_self, w_snap, snapE, List.map_cons, List.map_nil, s7, s5, si, s81, Option.map_some, rg2', List.length_cons, List.length_nil, Nat.zero_add, Nat.reduceAdd]
        refine ⟨_, lc_map (c := D.int) (g := fun i : Int => if i = 0 then .lst (A.map Sy.D ++ [y'.D]) else .lst (B.map Sy.D)) [(0 : Int), 1] (fun k hk => by
          simp only [List.mem_cons, List.not_mem_nil, or_false] at hk
          rcases hk with rfl | rfl
          · dsimp! only [k20, eq_self, slD']
            exact ⟨⟨by decide, by decide, by decide⟩, by simp; omega, _, rfl, by simp⟩
          · dsimp! only [k20, eq_self, slD']
            exact ⟨⟨by decide, by decide, by decide⟩, by simp; omega, Kd.nw, by simp, by simp⟩), ?_⟩
        dsimp! only [k22, eq_self, List.map_cons, List.map_nil, if_true, Int.reduceEq, if_false]
        refine (same_ok pd1 (by decide)).mono ?_
        rintro r rfl
        dsimp! only [k22, eq_self]
        refine ⟨rfl, ?_⟩
        rw [if_neg (by decide)]
        refine forS_1 rfl rfl ?_
        dsimp! only [k20, eq_self, dr_locl gM, atL_l gO, ob, ex_some]
        dsimp! only [k22, eq_self, w_snap, snapE, List.map_cons, List.map_nil, s7, s5, si, s82, Option.map_some, rg2', List.length_cons, List.length_nil, Nat.zero_add, Nat.reduceAdd]
        refine ⟨_, lc_map (c := D.int) (g := fun i : Int => if i = 0 then .lst (A.map Sy.D ++ [y'.D]) else .lst (B.map Sy.D ++ [y'.D])) [(0 : Int), 1] (fun k hk => by
          simp only [List.mem_cons, List.not_mem_nil, or_false] at hk
          rcases hk with rfl | rfl
          · dsimp! only [k20, eq_self, slD']
            exact ⟨⟨by decide, by decide, by decide⟩, by simp; omega, _, rfl, by simp⟩
          · dsimp! only [k20, eq_self, slD']
            exact ⟨⟨by decide, by decide, by decide⟩, by simp; omega, _, rfl, by simp⟩), ?_⟩
        dsimp! only [k22, eq_self, List.map_cons, List.map_nil, if_true, Int.reduceEq, if_false]
        refine (same_ok pd2 (by decide)).mono ?_
        rintro r rfl
        dsimp! only [k22, eq_self]
        refine ⟨rfl, ?_⟩
        rw [if_neg (by decide)]
        refine forS_0 (ds := [D.int 0, D.int 1]) ?_
        dsimp! only [k22, eq_self]
        exact ⟨hM, _, _, _, rfl⟩
      rintro en1 S5 ⟨hM, o9, o10, o11, rfl⟩
      have oe : opApp [D.loc N, D.loc O] [D.lst []] = some ([D.loc N, D.loc O, D.lst []], .non) := opApp_1 (by simp)
      dsimp! only [k22, eq_self, atL_l hM, oe, ex_some, perm_10]
      generalize S5.set M (Cl.lst [D.loc N, D.loc O, D.lst []]) = S6
      refine (opp_spec y' hy' a b S6).mono ?_
      rintro r S7 (⟨A2, hA2, rfl, rfl⟩ | ⟨A2, B2, hA2, rfl, rfl⟩)
      · rw [hA] at hA2
        cases hA2
      · rw [hA] at hA2
        cases hA2
        dsimp! only [k22, eq_self]
        refine v_ofG (es := [.lst [.lst (A.map Sy.D), .lst (B.map Sy.D)], .lst [slD' A, slD' B]]) ?_ ?_
        · have l1 : snapD (snapN (S6 ++ [Cl.lst (A.map Sy.D)] ++ [Cl.lst (B.map Sy.D)]) 9) (.lst [.loc S6.length, .loc (S6.length + 1)]) = some (.lst [.lst (A.map Sy.D), .lst (B.map Sy.D)]) := by
            unfold snapD
            simp only [snapL]
            rw [snap_lst (fu := 8) (by simp) pA, snap_lst (fu := 8) (by simp) pB]
            rfl
          simp only [snapL, l1, s7]
          rfl
        · refine (same_ok pd (by decide)).mono ?_
          rintro r rfl
          dsimp! only [k22, eq_self]
          refine ⟨rfl, ?_⟩
          rw [if_neg (by decide)]
          exact ⟨_, _, _, _, _, _, _, _, rfl⟩
  · rintro en S ⟨o4, o5, o6, o7, o8, o9, o10, o11, rfl⟩
    dsimp! only [k22, eq_self]
end K20
namespace K20
open PySem PySem.Spec PyProof.Rows L2 PD C
def spLaw (K : PySem.W.Frag) : Sp := fun vs H Q _ => ∃ (a : Addr) (ns : List Int), vs = [.ref a] ∧ SqL K H a (ns.map V.int) ∧ ns.length ≤ 63 ∧ ∀ H', Q (.bl true) H'
theorem law_ok {P : Program} {w : World} {K : PySem.W.Frag} {mg : Str → Option Value} {base : Heap} {fa : Nat → Addr} {fd : Nat → FuncData} {ct : Nat → Tok} {ca : Nat → Addr} (T : Tx w K mg fa fd ct ca) : FnOk P w K mg base (L2.CX P w) 14 (fa 29) (fd 29) ["_law_script"] (spLaw K) :=
  (w_law T).imp fun vs H Q E h => by
    obtain ⟨a, ns, rfl, hS, hl, k⟩ := h
    obtain ⟨S', e⟩ := law_true ns hl
    refine ⟨[], H, [], [.scr ns], _, S', Same.refl _, ⟨rfl, List.nodup_nil, fun n p z h => by cases h⟩, .cons (.scr hS) .nil, rfl, e, ?_⟩
    intro v l' G' H' t s' vi
    have e : v = .bl true := (show DB K ⟨⟨ca, none⟩, l'⟩ G' G' v (.bl true) from .inl vi).bl
    rw [e]
    exact k H'
theorem all_mk {l : PySem.W.OpenLaw} {w : World} {K : PySem.W.Frag} {h : Heap} {mg : Str → Option Value} {fl : Addr} (X : K.In h) (G : h.Ns mainGlobals mg) (hfa : mg "law" = some (.ref fl))
    {od0 an0 : Option Addr} {sl0 : Array (Option Value)} {oc0 kV0 dc0 pm0 cd0 ct0 : Value} {f0 : Addr}
    {od1 an1 : Option Addr} {sl1 : Array (Option Value)} {oc1 kV1 dc1 pm1 cd1 ct1 : Value} {f1 : Addr}
    {od2 an2 : Option Addr} {sl2 : Array (Option Value)} {oc2 kV2 dc2 pm2 cd2 ct2 : Value} {f2 : Addr}
    {od3 an3 : Option Addr} {sl3 : Array (Option Value)} {oc3 kV3 dc3 pm3 cd3 ct3 : Value} {f3 : Addr}
    {od4 an4 : Option Addr} {sl4 : Array (Option Value)} {oc4 kV4 dc4 pm4 cd4 ct4 : Value} {f4 : Addr}
    {od5 an5 : Option Addr} {sl5 : Array (Option Value)} {oc5 kV5 dc5 pm5 cd5 ct5 : Value} {f5 : Addr}
    {od6 an6 : Option Addr} {sl6 : Array (Option Value)} {oc6 kV6 dc6 pm6 cd6 ct6 : Value} {f6 : Addr}
    {od7 an7 : Option Addr} {sl7 : Array (Option Value)} {oc7 kV7 dc7 pm7 cd7 ct7 : Value} {f7 : Addr}
    {od8 an8 : Option Addr} {sl8 : Array (Option Value)} {oc8 kV8 dc8 pm8 cd8 ct8 : Value} {f8 : Addr}
    {od9 an9 : Option Addr} {sl9 : Array (Option Value)} {oc9 kV9 dc9 pm9 cd9 ct9 : Value} {f9 : Addr}
    {od10 an10 : Option Addr} {sl10 : Array (Option Value)} {oc10 kV10 dc10 pm10 cd10 ct10 : Value} {f10 : Addr}
    {od11 an11 : Option Addr} {sl11 : Array (Option Value)} {oc11 kV11 dc11 pm11 cd11 ct11 : Value} {f11 : Addr}
    {od12 an12 : Option Addr} {sl12 : Array (Option Value)} {oc12 kV12 dc12 pm12 cd12 ct12 : Value} {f12 : Addr}
    {od13 an13 : Option Addr} {sl13 : Array (Option Value)} {oc13 kV13 dc13 pm13 cd13 ct13 : Value} {f13 : Addr}
    {od14 an14 : Option Addr} {sl14 : Array (Option Value)} {oc14 kV14 dc14 pm14 cd14 ct14 : Value} {f14 : Addr}
    {od15 an15 : Option Addr} {sl15 : Array (Option Value)} {oc15 kV15 dc15 pm15 cd15 ct15 : Value} {f15 : Addr}
    {od16 an16 : Option Addr} {sl16 : Array (Option Value)} {oc16 kV16 dc16 pm16 cd16 ct16 : Value} {f16 : Addr}
    {od17 an17 : Option Addr} {sl17 : Array (Option Value)} {oc17 kV17 dc17 pm17 cd17 ct17 : Value} {f17 : Addr}
    {od18 an18 : Option Addr} {sl18 : Array (Option Value)} {oc18 kV18 dc18 pm18 cd18 ct18 : Value} {f18 : Addr}
    {od19 an19 : Option Addr} {sl19 : Array (Option Value)} {oc19 kV19 dc19 pm19 cd19 ct19 : Value} {f19 : Addr}
    {od20 an20 : Option Addr} {sl20 : Array (Option Value)} {oc20 kV20 dc20 pm20 cd20 ct20 : Value} {f20 : Addr}
    {od21 an21 : Option Addr} {sl21 : Array (Option Value)} {oc21 kV21 dc21 pm21 cd21 ct21 : Value} {f21 : Addr}
    {od22 an22 : Option Addr} {sl22 : Array (Option Value)} {oc22 kV22 dc22 pm22 cd22 ct22 : Value} {f22 : Addr}
    {od23 an23 : Option Addr} {sl23 : Array (Option Value)} {oc23 kV23 dc23 pm23 cd23 ct23 : Value} {f23 : Addr}
    {od24 an24 : Option Addr} {sl24 : Array (Option Value)} {oc24 kV24 dc24 pm24 cd24 ct24 : Value} {f24 : Addr}
    {od25 an25 : Option Addr} {sl25 : Array (Option Value)} {oc25 kV25 dc25 pm25 cd25 ct25 : Value} {f25 : Addr}
    {od26 an26 : Option Addr} {sl26 : Array (Option Value)} {oc26 kV26 dc26 pm26 cd26 ct26 : Value} {f26 : Addr}
    {od27 an27 : Option Addr} {sl27 : Array (Option Value)} {oc27 kV27 dc27 pm27 cd27 ct27 : Value} {f27 : Addr}
    {od28 an28 : Option Addr} {sl28 : Array (Option Value)} {oc28 kV28 dc28 pm28 cd28 ct28 : Value} {f28 : Addr}
    {od29 an29 : Option Addr} {sl29 : Array (Option Value)} {oc29 kV29 dc29 pm29 cd29 ct29 : Value} {f29 : Addr}
    {tok0 : Tok}
    (a0 : PySem.W.nsIn K mainGlobals "_law_same" = some (some (.ref f0)))
    (l0 : K.lookup f0 = some ⟨oc0, od0, .func (PySem.W.fnOf "_law_same" "_law_same" (defArgs s_Lsame) (defBody s_Lsame) (defScope s_Lsame) .none kV0 dc0 pm0 an0 cd0 ct0), sl0⟩) (c0 : PySem.W.codeIn K cd0 "_law_same" = true) (k0 : PySem.W.keepIn K (.ref f0) = true)
    (a1 : PySem.W.nsIn K mainGlobals "within" = some (some (.ref f1)))
    (l1 : K.lookup f1 = some ⟨oc1, od1, .func (PySem.W.fnOf "within" "within" (defArgs s_within) (defBody s_within) (defScope s_within) .none kV1 dc1 pm1 an1 cd1 ct1), sl1⟩) (c1 : PySem.W.codeIn K cd1 "within" = true) (k1 : PySem.W.keepIn K (.ref f1) = true)
    (a2 : PySem.W.nsIn K mainGlobals "moved" = some (some (.ref f2)))
    (l2 : K.lookup f2 = some ⟨oc2, od2, .func (PySem.W.fnOf "moved" "moved" (defArgs s_moved) (defBody s_moved) (defScope s_moved) .none kV2 dc2 pm2 an2 cd2 ct2), sl2⟩) (c2 : PySem.W.codeIn K cd2 "moved" = true) (k2 : PySem.W.keepIn K (.ref f2) = true)
    (a3 : PySem.W.nsIn K mainGlobals "is_name" = some (some (.ref f3)))
    (l3 : K.lookup f3 = some ⟨oc3, od3, .func (PySem.W.fnOf "is_name" "is_name" (defArgs s_is_name) (defBody s_is_name) (defScope s_is_name) .none kV3 dc3 pm3 an3 cd3 ct3), sl3⟩) (c3 : PySem.W.codeIn K cd3 "is_name" = true) (k3 : PySem.W.keepIn K (.ref f3) = true)
    (a4 : PySem.W.nsIn K mainGlobals "copied" = some (some (.ref f4)))
    (l4 : K.lookup f4 = some ⟨oc4, od4, .func (PySem.W.fnOf "copied" "copied" (defArgs s_copied) (defBody s_copied) (defScope s_copied) .none kV4 dc4 pm4 an4 cd4 ct4), sl4⟩) (c4 : PySem.W.codeIn K cd4 "copied" = true) (k4 : PySem.W.keepIn K (.ref f4) = true)
    (a5 : PySem.W.nsIn K mainGlobals "is_whole" = some (some (.ref f5)))
    (l5 : K.lookup f5 = some ⟨oc5, od5, .func (PySem.W.fnOf "is_whole" "is_whole" (defArgs s_is_whole) (defBody s_is_whole) (defScope s_is_whole) .none kV5 dc5 pm5 an5 cd5 ct5), sl5⟩) (c5 : PySem.W.codeIn K cd5 "is_whole" = true) (k5 : PySem.W.keepIn K (.ref f5) = true)
    (a6 : PySem.W.nsIn K mainGlobals "is_place_term" = some (some (.ref f6)))
    (l6 : K.lookup f6 = some ⟨oc6, od6, .func (PySem.W.fnOf "is_place_term" "is_place_term" (defArgs s_is_place_term) (defBody s_is_place_term) (defScope s_is_place_term) .none kV6 dc6 pm6 an6 cd6 ct6), sl6⟩) (c6 : PySem.W.codeIn K cd6 "is_place_term" = true) (k6 : PySem.W.keepIn K (.ref f6) = true)
    (a7 : PySem.W.nsIn K mainGlobals "is_value_term" = some (some (.ref f7)))
    (l7 : K.lookup f7 = some ⟨oc7, od7, .func (PySem.W.fnOf "is_value_term" "is_value_term" (defArgs s_is_value_term) (defBody s_is_value_term) (defScope s_is_value_term) .none kV7 dc7 pm7 an7 cd7 ct7), sl7⟩) (c7 : PySem.W.codeIn K cd7 "is_value_term" = true) (k7 : PySem.W.keepIn K (.ref f7) = true)
    (a8 : PySem.W.nsIn K mainGlobals "check_place_term" = some (some (.ref f8)))
    (l8 : K.lookup f8 = some ⟨oc8, od8, .func (PySem.W.fnOf "check_place_term" "check_place_term" (defArgs s_check_place_term) (defBody s_check_place_term) (defScope s_check_place_term) .none kV8 dc8 pm8 an8 cd8 ct8), sl8⟩) (c8 : PySem.W.codeIn K cd8 "check_place_term" = true) (k8 : PySem.W.keepIn K (.ref f8) = true)
    (a9 : PySem.W.nsIn K mainGlobals "check_value_term" = some (some (.ref f9)))
    (l9 : K.lookup f9 = some ⟨oc9, od9, .func (PySem.W.fnOf "check_value_term" "check_value_term" (defArgs s_check_value_term) (defBody s_check_value_term) (defScope s_check_value_term) .none kV9 dc9 pm9 an9 cd9 ct9), sl9⟩) (c9 : PySem.W.codeIn K cd9 "check_value_term" = true) (k9 : PySem.W.keepIn K (.ref f9) = true)
    (a10 : PySem.W.nsIn K mainGlobals "check_part" = some (some (.ref f10)))
    (l10 : K.lookup f10 = some ⟨oc10, od10, .func (PySem.W.fnOf "check_part" "check_part" (defArgs s_check_part) (defBody s_check_part) (defScope s_check_part) .none kV10 dc10 pm10 an10 cd10 ct10), sl10⟩) (c10 : PySem.W.codeIn K cd10 "check_part" = true) (k10 : PySem.W.keepIn K (.ref f10) = true)
    (a11 : PySem.W.nsIn K mainGlobals "checked" = some (some (.ref f11)))
    (l11 : K.lookup f11 = some ⟨oc11, od11, .func (PySem.W.fnOf "checked" "checked" (defArgs s_checked) (defBody s_checked) (defScope s_checked) .none kV11 dc11 pm11 an11 cd11 ct11), sl11⟩) (c11 : PySem.W.codeIn K cd11 "checked" = true) (k11 : PySem.W.keepIn K (.ref f11) = true)
    (a12 : PySem.W.nsIn K mainGlobals "opposites" = some (some (.ref f12)))
    (l12 : K.lookup f12 = some ⟨oc12, od12, .func (PySem.W.fnOf "opposites" "opposites" (defArgs s_opposites) (defBody s_opposites) (defScope s_opposites) .none kV12 dc12 pm12 an12 cd12 ct12), sl12⟩) (c12 : PySem.W.codeIn K cd12 "opposites" = true) (k12 : PySem.W.keepIn K (.ref f12) = true)
    (a13 : PySem.W.nsIn K mainGlobals "_law_between" = some (some (.ref f13)))
    (l13 : K.lookup f13 = some ⟨oc13, od13, .func (PySem.W.fnOf "_law_between" "_law_between" (defArgs s_Lbetween) (defBody s_Lbetween) (defScope s_Lbetween) .none kV13 dc13 pm13 an13 cd13 ct13), sl13⟩) (c13 : PySem.W.codeIn K cd13 "_law_between" = true) (k13 : PySem.W.keepIn K (.ref f13) = true)
    (a14 : PySem.W.nsIn K mainGlobals "_law_plus" = some (some (.ref f14)))
    (l14 : K.lookup f14 = some ⟨oc14, od14, .func (PySem.W.fnOf "_law_plus" "_law_plus" (defArgs s_Lplus) (defBody s_Lplus) (defScope s_Lplus) .none kV14 dc14 pm14 an14 cd14 ct14), sl14⟩) (c14 : PySem.W.codeIn K cd14 "_law_plus" = true) (k14 : PySem.W.keepIn K (.ref f14) = true)
    (a15 : PySem.W.nsIn K mainGlobals "_law_due" = some (some (.ref f15)))
    (l15 : K.lookup f15 = some ⟨oc15, od15, .func (PySem.W.fnOf "_law_due" "_law_due" (defArgs s_Ldue) (defBody s_Ldue) (defScope s_Ldue) .none kV15 dc15 pm15 an15 cd15 ct15), sl15⟩) (c15 : PySem.W.codeIn K cd15 "_law_due" = true) (k15 : PySem.W.keepIn K (.ref f15) = true)
    (a16 : PySem.W.nsIn K mainGlobals "_law_scaled_term" = some (some (.ref f16)))
    (l16 : K.lookup f16 = some ⟨oc16, od16, .func (PySem.W.fnOf "_law_scaled_term" "_law_scaled_term" (defArgs s_Lscaled_term) (defBody s_Lscaled_term) (defScope s_Lscaled_term) .none kV16 dc16 pm16 an16 cd16 ct16), sl16⟩) (c16 : PySem.W.codeIn K cd16 "_law_scaled_term" = true) (k16 : PySem.W.keepIn K (.ref f16) = true)
    (a17 : PySem.W.nsIn K mainGlobals "_law_scaled_saying" = some (some (.ref f17)))
    (l17 : K.lookup f17 = some ⟨oc17, od17, .func (PySem.W.fnOf "_law_scaled_saying" "_law_scaled_saying" (defArgs s_Lscaled_saying) (defBody s_Lscaled_saying) (defScope s_Lscaled_saying) .none kV17 dc17 pm17 an17 cd17 ct17), sl17⟩) (c17 : PySem.W.codeIn K cd17 "_law_scaled_saying" = true) (k17 : PySem.W.keepIn K (.ref f17) = true)
    (a18 : PySem.W.nsIn K mainGlobals "_law_sums" = some (some (.ref f18)))
    (l18 : K.lookup f18 = some ⟨oc18, od18, .func (PySem.W.fnOf "_law_sums" "_law_sums" (defArgs s_Lsums) (defBody s_Lsums) (defScope s_Lsums) .none kV18 dc18 pm18 an18 cd18 ct18), sl18⟩) (c18 : PySem.W.codeIn K cd18 "_law_sums" = true) (k18 : PySem.W.keepIn K (.ref f18) = true)
    (a19 : PySem.W.nsIn K mainGlobals "_law_figure" = some (some (.ref f19)))
    (l19 : K.lookup f19 = some ⟨oc19, od19, .func (PySem.W.fnOf "_law_figure" "_law_figure" (defArgs s_Lfigure) (defBody s_Lfigure) (defScope s_Lfigure) .none kV19 dc19 pm19 an19 cd19 ct19), sl19⟩) (c19 : PySem.W.codeIn K cd19 "_law_figure" = true) (k19 : PySem.W.keepIn K (.ref f19) = true)
    (a20 : PySem.W.nsIn K mainGlobals "_law_draws" = some (some (.ref f20)))
    (l20 : K.lookup f20 = some ⟨oc20, od20, .func (PySem.W.fnOf "_law_draws" "_law_draws" (defArgs s_Ldraws) (defBody s_Ldraws) (defScope s_Ldraws) .none kV20 dc20 pm20 an20 cd20 ct20), sl20⟩) (c20 : PySem.W.codeIn K cd20 "_law_draws" = true) (k20 : PySem.W.keepIn K (.ref f20) = true)
    (a21 : PySem.W.nsIn K mainGlobals "_law_saying" = some (some (.ref f21)))
    (l21 : K.lookup f21 = some ⟨oc21, od21, .func (PySem.W.fnOf "_law_saying" "_law_saying" (defArgs s_Lsaying) (defBody s_Lsaying) (defScope s_Lsaying) .none kV21 dc21 pm21 an21 cd21 ct21), sl21⟩) (c21 : PySem.W.codeIn K cd21 "_law_saying" = true) (k21 : PySem.W.keepIn K (.ref f21) = true)
    (a22 : PySem.W.nsIn K mainGlobals "_law_names" = some (some (.ref f22)))
    (l22 : K.lookup f22 = some ⟨oc22, od22, .func (PySem.W.fnOf "_law_names" "_law_names" (defArgs s_Lnames) (defBody s_Lnames) (defScope s_Lnames) .none kV22 dc22 pm22 an22 cd22 ct22), sl22⟩) (c22 : PySem.W.codeIn K cd22 "_law_names" = true) (k22 : PySem.W.keepIn K (.ref f22) = true)
    (a23 : PySem.W.nsIn K mainGlobals "_law_long" = some (some (.ref f23)))
    (l23 : K.lookup f23 = some ⟨oc23, od23, .func (PySem.W.fnOf "_law_long" "_law_long" (defArgs s_Llong) (defBody s_Llong) (defScope s_Llong) .none kV23 dc23 pm23 an23 cd23 ct23), sl23⟩) (c23 : PySem.W.codeIn K cd23 "_law_long" = true) (k23 : PySem.W.keepIn K (.ref f23) = true)
    (a24 : PySem.W.nsIn K mainGlobals "_law_scale" = some (some (.ref f24)))
    (l24 : K.lookup f24 = some ⟨oc24, od24, .func (PySem.W.fnOf "_law_scale" "_law_scale" (defArgs s_Lscale) (defBody s_Lscale) (defScope s_Lscale) .none kV24 dc24 pm24 an24 cd24 ct24), sl24⟩) (c24 : PySem.W.codeIn K cd24 "_law_scale" = true) (k24 : PySem.W.keepIn K (.ref f24) = true)
    (a25 : PySem.W.nsIn K mainGlobals "_law_row" = some (some (.ref f25)))
    (l25 : K.lookup f25 = some ⟨oc25, od25, .func (PySem.W.fnOf "_law_row" "_law_row" (defArgs s_Lrow) (defBody s_Lrow) (defScope s_Lrow) .none kV25 dc25 pm25 an25 cd25 ct25), sl25⟩) (c25 : PySem.W.codeIn K cd25 "_law_row" = true) (k25 : PySem.W.keepIn K (.ref f25) = true)
    (a26 : PySem.W.nsIn K mainGlobals "_law_copies" = some (some (.ref f26)))
    (l26 : K.lookup f26 = some ⟨oc26, od26, .func (PySem.W.fnOf "_law_copies" "_law_copies" (defArgs s_Lcopies_2) (defBody s_Lcopies_2) (defScope s_Lcopies_2) .none kV26 dc26 pm26 an26 cd26 ct26), sl26⟩) (c26 : PySem.W.codeIn K cd26 "_law_copies" = true) (k26 : PySem.W.keepIn K (.ref f26) = true)
    (a27 : PySem.W.nsIn K mainGlobals "_law_parts" = some (some (.ref f27)))
    (l27 : K.lookup f27 = some ⟨oc27, od27, .func (PySem.W.fnOf "_law_parts" "_law_parts" (defArgs s_Lparts) (defBody s_Lparts) (defScope s_Lparts) .none kV27 dc27 pm27 an27 cd27 ct27), sl27⟩) (c27 : PySem.W.codeIn K cd27 "_law_parts" = true) (k27 : PySem.W.keepIn K (.ref f27) = true)
    (a28 : PySem.W.nsIn K mainGlobals "_law_rich_parts" = some (some (.ref f28)))
    (l28 : K.lookup f28 = some ⟨oc28, od28, .func (PySem.W.fnOf "_law_rich_parts" "_law_rich_parts" (defArgs s_Lrich_parts) (defBody s_Lrich_parts) (defScope s_Lrich_parts) .none kV28 dc28 pm28 an28 cd28 ct28), sl28⟩) (c28 : PySem.W.codeIn K cd28 "_law_rich_parts" = true) (k28 : PySem.W.keepIn K (.ref f28) = true)
    (a29 : PySem.W.nsIn K mainGlobals "law" = some (some (.ref f29)))
    (l29 : K.lookup f29 = some ⟨oc29, od29, .func (PySem.W.fnOf "law" "law" (defArgs s_law) (defBody s_law) (defScope s_law) .none kV29 dc29 pm29 an29 cd29 ct29), sl29⟩) (c29 : PySem.W.codeIn K cd29 "law" = true) (k29 : PySem.W.keepIn K (.ref f29) = true)
    (z_all : PySem.W.nsIn K mainGlobals "all" = some none)
    (z_bool : PySem.W.nsIn K mainGlobals "bool" = some none)
    (z_dict : PySem.W.nsIn K mainGlobals "dict" = some none)
    (z_int : PySem.W.nsIn K mainGlobals "int" = some none)
    (z_isinstance : PySem.W.nsIn K mainGlobals "isinstance" = some none)
    (z_len : PySem.W.nsIn K mainGlobals "len" = some none)
    (z_list : PySem.W.nsIn K mainGlobals "list" = some none)
    (z_max : PySem.W.nsIn K mainGlobals "max" = some none)
    (z_min : PySem.W.nsIn K mainGlobals "min" = some none)
    (z_range : PySem.W.nsIn K mainGlobals "range" = some none)
    (z_sorted : PySem.W.nsIn K mainGlobals "sorted" = some none)
    (z_str : PySem.W.nsIn K mainGlobals "str" = some none)
    (z_tuple : PySem.W.nsIn K mainGlobals "tuple" = some none)
    (z_zip : PySem.W.nsIn K mainGlobals "zip" = some none)
    (y0 : PySem.W.nsIn K mainGlobals "LETTERS" = some (some (.str "abcdefghijklmnopqrstuvwxyz" tok0)))
    {dA0 : Addr} {es0 : Array DictEntry} {nn0 : Nat} {tt0_0 : Tok} {tt0_1 : Tok} {tt0_2 : Tok} {tt0_3 : Tok} {tt0_4 : Tok} {tt0_5 : Tok} {tt0_6 : Tok}
    (da0 : PySem.W.nsIn K mainGlobals "FORMS" = some (some (.ref dA0))) (dl0 : K.lookup dA0 = some ⟨.type "dict", none, .dict es0 nn0, #[]⟩) (dk0 : PySem.W.KeysLit w.params es0.toList)
    (dm0 : (dA0 == sysModules) = false)
    (de0_0 : PySem.W.nsIn K dA0 "place" = some (some (.str "pp" tt0_0)))
    (de0_1 : PySem.W.nsIn K dA0 "value" = some (some (.str "vv" tt0_1)))
    (de0_2 : PySem.W.nsIn K dA0 "rising" = some (some (.str "aee" tt0_2)))
    (de0_3 : PySem.W.nsIn K dA0 "low" = some (some (.str "aeev" tt0_3)))
    (de0_4 : PySem.W.nsIn K dA0 "high" = some (some (.str "aeev" tt0_4)))
    (de0_5 : PySem.W.nsIn K dA0 "below" = some (some (.str "aeeaeek" tt0_5)))
    (de0_6 : PySem.W.nsIn K dA0 "same" = some (some (.str "aaeek" tt0_6)))
    {xf : Addr} {xfo xfan : Option Addr} {xfsl : Array (Option Value)} {xfoc xfdc xfpm xfcd xfct : Value}
    (xt : PySem.W.typeIn K (.ref xf) = some (.type "function")) (xl : K.lookup xf = some ⟨xfoc, xfo, .func (PySem.W.fnOf "__init__" "CellError.__init__" (defArgs (inClass (top 1) 0)) (defBody (inClass (top 1) 0)) (defScope (inClass (top 1) 0)) .none .none xfdc xfpm xfan xfcd xfct), xfsl⟩) (xc : PySem.W.codeIn K xfcd "CellError.__init__" = true)
    {X0 : Addr} {nm0 qq0 : Str} {NN0 : Addr} {bs0 : List Value} {sn0 : List Str} {sub0 : List Value} {ab0 : Bool} {col0 : Option Bool} {dd0 : Option Addr} {m0_0 m1_0 m2_0 m3_0 m5_0 : Option Value}
    {X1 : Addr} {nm1 qq1 : Str} {NN1 : Addr} {bs1 : List Value} {sn1 : List Str} {sub1 : List Value} {ab1 : Bool} {col1 : Option Bool} {dd1 : Option Addr} {m0_1 m1_1 m2_1 m3_1 m5_1 : Option Value}
    {X2 : Addr} {nm2 qq2 : Str} {NN2 : Addr} {bs2 : List Value} {sn2 : List Str} {sub2 : List Value} {ab2 : Bool} {col2 : Option Bool} {dd2 : Option Addr} {m0_2 m1_2 m2_2 m3_2 m5_2 : Option Value}
    {X3 : Addr} {nm3 qq3 : Str} {NN3 : Addr} {bs3 : List Value} {sn3 : List Str} {sub3 : List Value} {ab3 : Bool} {col3 : Option Bool} {dd3 : Option Addr} {m0_3 m1_3 m2_3 m3_3 m5_3 : Option Value}
    (xa0 : PySem.W.nsIn K mainGlobals "CellError" = some (some (.ref X0))) (xl0 : K.lookup X0 = some (excClassObj nm0 qq0 X0 NN0 bs0 [.type "ValueError", .type "Exception", .type "BaseException", .type "object"] true sn0 sub0 ab0 col0 dd0 m0_0 m1_0 m2_0 m3_0 m5_0 "ValueError.__new__"))
    (xs0 : PySem.W.findIn K (.ref X0) "__setattr__" = some (some (.builtin "object.__setattr__"))) (xg0 : PySem.W.findIn K (.ref X0) "__getattribute__" = some (some (.builtin "BaseException.__getattribute__"))) (xgg0 : PySem.W.findIn K (.ref X0) "__getattr__" = some none) (xn0 : PySem.W.findIn K (.ref X0) "value" = some none) (xi0 : PySem.W.findIn K (.ref X0) "__init__" = some (some (.ref xf)))
    (xk0 : PySem.W.keepIn K (.ref X0) = true) (xe0 : PySem.W.subIn K (.ref X0) (.type "BaseException") = some true) (xy0 : PySem.W.typeIn K (.ref X0) = some (.type "type")) (xh0 : PySem.W.hasDictIn K X0 = true) (xo0 : PySem.W.isClsIn K X0 = true)
    (xa1 : PySem.W.nsIn K mainGlobals "InvalidName" = some (some (.ref X1))) (xl1 : K.lookup X1 = some (excClassObj nm1 qq1 X1 NN1 bs1 [.ref X0, .type "ValueError", .type "Exception", .type "BaseException", .type "object"] true sn1 sub1 ab1 col1 dd1 m0_1 m1_1 m2_1 m3_1 m5_1 "ValueError.__new__"))
    (xs1 : PySem.W.findIn K (.ref X1) "__setattr__" = some (some (.builtin "object.__setattr__"))) (xg1 : PySem.W.findIn K (.ref X1) "__getattribute__" = some (some (.builtin "BaseException.__getattribute__"))) (xgg1 : PySem.W.findIn K (.ref X1) "__getattr__" = some none) (xn1 : PySem.W.findIn K (.ref X1) "value" = some none) (xi1 : PySem.W.findIn K (.ref X1) "__init__" = some (some (.ref xf)))
    (xk1 : PySem.W.keepIn K (.ref X1) = true) (xe1 : PySem.W.subIn K (.ref X1) (.type "BaseException") = some true) (xy1 : PySem.W.typeIn K (.ref X1) = some (.type "type")) (xh1 : PySem.W.hasDictIn K X1 = true) (xo1 : PySem.W.isClsIn K X1 = true)
    (xa2 : PySem.W.nsIn K mainGlobals "InvalidTerm" = some (some (.ref X2))) (xl2 : K.lookup X2 = some (excClassObj nm2 qq2 X2 NN2 bs2 [.ref X0, .type "ValueError", .type "Exception", .type "BaseException", .type "object"] true sn2 sub2 ab2 col2 dd2 m0_2 m1_2 m2_2 m3_2 m5_2 "ValueError.__new__"))
    (xs2 : PySem.W.findIn K (.ref X2) "__setattr__" = some (some (.builtin "object.__setattr__"))) (xg2 : PySem.W.findIn K (.ref X2) "__getattribute__" = some (some (.builtin "BaseException.__getattribute__"))) (xgg2 : PySem.W.findIn K (.ref X2) "__getattr__" = some none) (xn2 : PySem.W.findIn K (.ref X2) "value" = some none) (xi2 : PySem.W.findIn K (.ref X2) "__init__" = some (some (.ref xf)))
    (xk2 : PySem.W.keepIn K (.ref X2) = true) (xe2 : PySem.W.subIn K (.ref X2) (.type "BaseException") = some true) (xy2 : PySem.W.typeIn K (.ref X2) = some (.type "type")) (xh2 : PySem.W.hasDictIn K X2 = true) (xo2 : PySem.W.isClsIn K X2 = true)
    (xa3 : PySem.W.nsIn K mainGlobals "InvalidSaying" = some (some (.ref X3))) (xl3 : K.lookup X3 = some (excClassObj nm3 qq3 X3 NN3 bs3 [.ref X0, .type "ValueError", .type "Exception", .type "BaseException", .type "object"] true sn3 sub3 ab3 col3 dd3 m0_3 m1_3 m2_3 m3_3 m5_3 "ValueError.__new__"))
    (xs3 : PySem.W.findIn K (.ref X3) "__setattr__" = some (some (.builtin "object.__setattr__"))) (xg3 : PySem.W.findIn K (.ref X3) "__getattribute__" = some (some (.builtin "BaseException.__getattribute__"))) (xgg3 : PySem.W.findIn K (.ref X3) "__getattr__" = some none) (xn3 : PySem.W.findIn K (.ref X3) "value" = some none) (xi3 : PySem.W.findIn K (.ref X3) "__init__" = some (some (.ref xf)))
    (xk3 : PySem.W.keepIn K (.ref X3) = true) (xe3 : PySem.W.subIn K (.ref X3) (.type "BaseException") = some true) (xy3 : PySem.W.typeIn K (.ref X3) = some (.type "type")) (xh3 : PySem.W.hasDictIn K X3 = true) (xo3 : PySem.W.isClsIn K X3 = true)
    : ∃ fd : FuncData, (∀ (s : Shared) (v : Value), BindsTo s fd ⟨[v], []⟩ [("_law_script", v)]) ∧ ∀ base : Heap, K.In base → base.Ns mainGlobals mg → FnOk l.prog w K mg base (L2.CX l.prog w) 14 fl fd ["_law_script"] (spLaw K) := by
  have e := hfa.symm.trans (PySem.W.mg_of X G a29)
  have e2 : f29 = fl := by cases e; rfl
  subst e2
  have F0 := fun_mk (st := s_Lsame) l0 c0 k0
  have F1 := fun_mk (st := s_within) l1 c1 k1
  have F2 := fun_mk (st := s_moved) l2 c2 k2
  have F3 := fun_mk (st := s_is_name) l3 c3 k3
  have F4 := fun_mk (st := s_copied) l4 c4 k4
  have F5 := fun_mk (st := s_is_whole) l5 c5 k5
  have F6 := fun_mk (st := s_is_place_term) l6 c6 k6
  have F7 := fun_mk (st := s_is_value_term) l7 c7 k7
  have F8 := fun_mk (st := s_check_place_term) l8 c8 k8
  have F9 := fun_mk (st := s_check_value_term) l9 c9 k9
  have F10 := fun_mk (st := s_check_part) l10 c10 k10
  have F11 := fun_mk (st := s_checked) l11 c11 k11
  have F12 := fun_mk (st := s_opposites) l12 c12 k12
  have F13 := fun_mk (st := s_Lbetween) l13 c13 k13
  have F14 := fun_mk (st := s_Lplus) l14 c14 k14
  have F15 := fun_mk (st := s_Ldue) l15 c15 k15
  have F16 := fun_mk (st := s_Lscaled_term) l16 c16 k16
  have F17 := fun_mk (st := s_Lscaled_saying) l17 c17 k17
  have F18 := fun_mk (st := s_Lsums) l18 c18 k18
  have F19 := fun_mk (st := s_Lfigure) l19 c19 k19
  have F20 := fun_mk (st := s_Ldraws) l20 c20 k20
  have F21 := fun_mk (st := s_Lsaying) l21 c21 k21
  have F22 := fun_mk (st := s_Lnames) l22 c22 k22
  have F23 := fun_mk (st := s_Llong) l23 c23 k23
  have F24 := fun_mk (st := s_Lscale) l24 c24 k24
  have F25 := fun_mk (st := s_Lrow) l25 c25 k25
  have F26 := fun_mk (st := s_Lcopies_2) l26 c26 k26
  have F27 := fun_mk (st := s_Lparts) l27 c27 k27
  have F28 := fun_mk (st := s_Lrich_parts) l28 c28 k28
  have F29 := fun_mk (st := s_law) l29 c29 k29
  let fa : Nat → Addr := fun i => match i with | 0 => f0 | 1 => f1 | 2 => f2 | 3 => f3 | 4 => f4 | 5 => f5 | 6 => f6 | 7 => f7 | 8 => f8 | 9 => f9 | 10 => f10 | 11 => f11 | 12 => f12 | 13 => f13 | 14 => f14 | 15 => f15 | 16 => f16 | 17 => f17 | 18 => f18 | 19 => f19 | 20 => f20 | 21 => f21 | 22 => f22 | 23 => f23 | 24 => f24 | 25 => f25 | 26 => f26 | 27 => f27 | 28 => f28 | 29 => f29 | 30 => dA0 | _ => f0
  let fd : Nat → FuncData := fun i => match i with | 0 => PySem.W.fnOf "_law_same" "_law_same" (defArgs s_Lsame) (defBody s_Lsame) (defScope s_Lsame) .none kV0 dc0 pm0 an0 cd0 ct0 | 1 => PySem.W.fnOf "within" "within" (defArgs s_within) (defBody s_within) (defScope s_within) .none kV1 dc1 pm1 an1 cd1 ct1 | 2 => PySem.W.fnOf "moved" "moved" (defArgs s_moved) (defBody s_moved) (defScope s_moved) .none kV2 dc2 pm2 an2 cd2 ct2 | 3 => PySem.W.fnOf "is_name" "is_name" (defArgs s_is_name) (defBody s_is_name) (defScope s_is_name) .none kV3 dc3 pm3 an3 cd3 ct3 | 4 => PySem.W.fnOf "copied" "copied" (defArgs s_copied) (defBody s_copied) (defScope s_copied) .none kV4 dc4 pm4 an4 cd4 ct4 | 5 => PySem.W.fnOf "is_whole" "is_whole" (defArgs s_is_whole) (defBody s_is_whole) (defScope s_is_whole) .none kV5 dc5 pm5 an5 cd5 ct5 | 6 => PySem.W.fnOf "is_place_term" "is_place_term" (defArgs s_is_place_term) (defBody s_is_place_term) (defScope s_is_place_term) .none kV6 dc6 pm6 an6 cd6 ct6 | 7 => PySem.W.fnOf "is_value_term" "is_value_term" (defArgs s_is_value_term) (defBody s_is_value_term) (defScope s_is_value_term) .none kV7 dc7 pm7 an7 cd7 ct7 | 8 => PySem.W.fnOf "check_place_term" "check_place_term" (defArgs s_check_place_term) (defBody s_check_place_term) (defScope s_check_place_term) .none kV8 dc8 pm8 an8 cd8 ct8 | 9 => PySem.W.fnOf "check_value_term" "check_value_term" (defArgs s_check_value_term) (defBody s_check_value_term) (defScope s_check_value_term) .none kV9 dc9 pm9 an9 cd9 ct9 | 10 => PySem.W.fnOf "check_part" "check_part" (defArgs s_check_part) (defBody s_check_part) (defScope s_check_part) .none kV10 dc10 pm10 an10 cd10 ct10 | 11 => PySem.W.fnOf "checked" "checked" (defArgs s_checked) (defBody s_checked) (defScope s_checked) .none kV11 dc11 pm11 an11 cd11 ct11 | 12 => PySem.W.fnOf "opposites" "opposites" (defArgs s_opposites) (defBody s_opposites) (defScope s_opposites) .none kV12 dc12 pm12 an12 cd12 ct12 | 13 => PySem.W.fnOf "_law_between" "_law_between" (defArgs s_Lbetween) (defBody s_Lbetween) (defScope s_Lbetween) .none kV13 dc13 pm13 an13 cd13 ct13 | 14 => PySem.W.fnOf "_law_plus" "_law_plus" (defArgs s_Lplus) (defBody s_Lplus) (defScope s_Lplus) .none kV14 dc14 pm14 an14 cd14 ct14 | 15 => PySem.W.fnOf "_law_due" "_law_due" (defArgs s_Ldue) (defBody s_Ldue) (defScope s_Ldue) .none kV15 dc15 pm15 an15 cd15 ct15 | 16 => PySem.W.fnOf "_law_scaled_term" "_law_scaled_term" (defArgs s_Lscaled_term) (defBody s_Lscaled_term) (defScope s_Lscaled_term) .none kV16 dc16 pm16 an16 cd16 ct16 | 17 => PySem.W.fnOf "_law_scaled_saying" "_law_scaled_saying" (defArgs s_Lscaled_saying) (defBody s_Lscaled_saying) (defScope s_Lscaled_saying) .none kV17 dc17 pm17 an17 cd17 ct17 | 18 => PySem.W.fnOf "_law_sums" "_law_sums" (defArgs s_Lsums) (defBody s_Lsums) (defScope s_Lsums) .none kV18 dc18 pm18 an18 cd18 ct18 | 19 => PySem.W.fnOf "_law_figure" "_law_figure" (defArgs s_Lfigure) (defBody s_Lfigure) (defScope s_Lfigure) .none kV19 dc19 pm19 an19 cd19 ct19 | 20 => PySem.W.fnOf "_law_draws" "_law_draws" (defArgs s_Ldraws) (defBody s_Ldraws) (defScope s_Ldraws) .none kV20 dc20 pm20 an20 cd20 ct20 | 21 => PySem.W.fnOf "_law_saying" "_law_saying" (defArgs s_Lsaying) (defBody s_Lsaying) (defScope s_Lsaying) .none kV21 dc21 pm21 an21 cd21 ct21 | 22 => PySem.W.fnOf "_law_names" "_law_names" (defArgs s_Lnames) (defBody s_Lnames) (defScope s_Lnames) .none kV22 dc22 pm22 an22 cd22 ct22 | 23 => PySem.W.fnOf "_law_long" "_law_long" (defArgs s_Llong) (defBody s_Llong) (defScope s_Llong) .none kV23 dc23 pm23 an23 cd23 ct23 | 24 => PySem.W.fnOf "_law_scale" "_law_scale" (defArgs s_Lscale) (defBody s_Lscale) (defScope s_Lscale) .none kV24 dc24 pm24 an24 cd24 ct24 | 25 => PySem.W.fnOf "_law_row" "_law_row" (defArgs s_Lrow) (defBody s_Lrow) (defScope s_Lrow) .none kV25 dc25 pm25 an25 cd25 ct25 | 26 => PySem.W.fnOf "_law_copies" "_law_copies" (defArgs s_Lcopies_2) (defBody s_Lcopies_2) (defScope s_Lcopies_2) .none kV26 dc26 pm26 an26 cd26 ct26 | 27 => PySem.W.fnOf "_law_parts" "_law_parts" (defArgs s_Lparts) (defBody s_Lparts) (defScope s_Lparts) .none kV27 dc27 pm27 an27 cd27 ct27 | 28 => PySem.W.fnOf "_law_rich_parts" "_law_rich_parts" (defArgs s_Lrich_parts) (defBody s_Lrich_parts) (defScope s_Lrich_parts) .none kV28 dc28 pm28 an28 cd28 ct28 | 29 => PySem.W.fnOf "law" "law" (defArgs s_law) (defBody s_law) (defScope s_law) .none kV29 dc29 pm29 an29 cd29 ct29 | _ => PySem.W.fnOf "" "" (defArgs s_law) [] (defScope s_law) .none .none .none .none none .none .none
  let ct : Nat → Tok := fun i => match i with | 0 => tok0 | _ => tok0
  have T : Tx w K mg fa fd ct (fun i => match i with | 0 => X0 | 1 => X1 | 2 => X2 | 3 => X3 | 90 => xf | _ => 0) := {
    F_Lsame := F0
    g_Lsame := PySem.W.mg_of X G a0
    b_Lsame := F0.binds (ps := ["_law_found", "_law_due_here"]) fun _ _ _ _ _ _ us hl => match us, hl with | [_, _], _ => rfl
    F_within := F1
    g_within := PySem.W.mg_of X G a1
    b_within := F1.binds (ps := ["p", "terms", "q"]) fun _ _ _ _ _ _ us hl => match us, hl with | [_, _, _], _ => rfl
    F_moved := F2
    g_moved := PySem.W.mg_of X G a2
    b_moved := F2.binds (ps := ["term", "by"]) fun _ _ _ _ _ _ us hl => match us, hl with | [_, _], _ => rfl
    F_is_name := F3
    g_is_name := PySem.W.mg_of X G a3
    b_is_name := F3.binds (ps := ["thing"]) fun _ _ _ _ _ _ us hl => match us, hl with | [_], _ => rfl
    F_copied := F4
    g_copied := PySem.W.mg_of X G a4
    b_copied := F4.binds (ps := ["thing"]) fun _ _ _ _ _ _ us hl => match us, hl with | [_], _ => rfl
    F_is_whole := F5
    g_is_whole := PySem.W.mg_of X G a5
    b_is_whole := F5.binds (ps := ["thing"]) fun _ _ _ _ _ _ us hl => match us, hl with | [_], _ => rfl
    F_is_place_term := F6
    g_is_place_term := PySem.W.mg_of X G a6
    b_is_place_term := F6.binds (ps := ["thing"]) fun _ _ _ _ _ _ us hl => match us, hl with | [_], _ => rfl
    F_is_value_term := F7
    g_is_value_term := PySem.W.mg_of X G a7
    b_is_value_term := F7.binds (ps := ["thing"]) fun _ _ _ _ _ _ us hl => match us, hl with | [_], _ => rfl
    F_check_place_term := F8
    g_check_place_term := PySem.W.mg_of X G a8
    b_check_place_term := F8.binds (ps := ["thing"]) fun _ _ _ _ _ _ us hl => match us, hl with | [_], _ => rfl
    F_check_value_term := F9
    g_check_value_term := PySem.W.mg_of X G a9
    b_check_value_term := F9.binds (ps := ["thing"]) fun _ _ _ _ _ _ us hl => match us, hl with | [_], _ => rfl
    F_check_part := F10
    g_check_part := PySem.W.mg_of X G a10
    b_check_part := F10.binds (ps := ["kind", "part"]) fun _ _ _ _ _ _ us hl => match us, hl with | [_, _], _ => rfl
    F_checked := F11
    g_checked := PySem.W.mg_of X G a11
    b_checked := F11.binds (ps := ["saying"]) fun _ _ _ _ _ _ us hl => match us, hl with | [_], _ => rfl
    F_opposites := F12
    g_opposites := PySem.W.mg_of X G a12
    q_opposites_0 := fun s us ws _ h1 h2 => match us, ws, h1, h2 with | [], [_, _], _, _ => .of_eq rfl
    b_opposites := F12.binds (ps := ["saying", "fresh"]) fun _ _ _ _ _ _ us hl => match us, hl with | [_, _], _ => rfl
    F_Lbetween := F13
    g_Lbetween := PySem.W.mg_of X G a13
    b_Lbetween := F13.binds (ps := ["_law_row_here"]) fun _ _ _ _ _ _ us hl => match us, hl with | [_], _ => rfl
    F_Lplus := F14
    g_Lplus := PySem.W.mg_of X G a14
    b_Lplus := F14.binds (ps := ["_law_term", "_law_by"]) fun _ _ _ _ _ _ us hl => match us, hl with | [_, _], _ => rfl
    F_Ldue := F15
    g_Ldue := PySem.W.mg_of X G a15
    b_Ldue := F15.binds (ps := ["_law_saying_here", "_law_fresh"]) fun _ _ _ _ _ _ us hl => match us, hl with | [_, _], _ => rfl
    F_Lscaled_term := F16
    g_Lscaled_term := PySem.W.mg_of X G a16
    b_Lscaled_term := F16.binds (ps := ["_law_term", "_law_scale_here", "_law_role"]) fun _ _ _ _ _ _ us hl => match us, hl with | [_, _, _], _ => rfl
    F_Lscaled_saying := F17
    g_Lscaled_saying := PySem.W.mg_of X G a17
    b_Lscaled_saying := F17.binds (ps := ["_law_saying_here", "_law_scale_here"]) fun _ _ _ _ _ _ us hl => match us, hl with | [_, _], _ => rfl
    F_Lsums := F18
    g_Lsums := PySem.W.mg_of X G a18
    b_Lsums := F18.binds (ps := ["_law_drawn", "_law_pool", "_law_numbers", "_law_arrays"]) fun _ _ _ _ _ _ us hl => match us, hl with | [_, _, _, _], _ => rfl
    F_Lfigure := F19
    g_Lfigure := PySem.W.mg_of X G a19
    b_Lfigure := F19.binds (ps := ["_law_script", "_law_at"]) fun _ _ _ _ _ _ us hl => match us, hl with | [_, _], _ => rfl
    F_Ldraws := F20
    g_Ldraws := PySem.W.mg_of X G a20
    b_Ldraws := F20.binds (ps := ["_law_script", "_law_at", "_law_limits"]) fun _ _ _ _ _ _ us hl => match us, hl with | [_, _, _], _ => rfl
    F_Lsaying := F21
    g_Lsaying := PySem.W.mg_of X G a21
    b_Lsaying := F21.binds (ps := ["_law_script", "_law_at", "_law_parts_here"]) fun _ _ _ _ _ _ us hl => match us, hl with | [_, _, _], _ => rfl
    F_Lnames := F22
    g_Lnames := PySem.W.mg_of X G a22
    b_Lnames := F22.binds (ps := ["_law_script", "_law_at", "_law_many"]) fun _ _ _ _ _ _ us hl => match us, hl with | [_, _, _], _ => rfl
    F_Llong := F23
    g_Llong := PySem.W.mg_of X G a23
    b_Llong := F23.binds (ps := ["_law_script", "_law_at", "_law_many"]) fun _ _ _ _ _ _ us hl => match us, hl with | [_, _, _], _ => rfl
    F_Lscale := F24
    g_Lscale := PySem.W.mg_of X G a24
    b_Lscale := F24.binds (ps := ["_law_script", "_law_at"]) fun _ _ _ _ _ _ us hl => match us, hl with | [_, _], _ => rfl
    F_Lrow := F25
    g_Lrow := PySem.W.mg_of X G a25
    b_Lrow := F25.binds (ps := ["_law_script", "_law_at", "_law_first", "_law_size", "_law_high"]) fun _ _ _ _ _ _ us hl => match us, hl with | [_, _, _, _, _], _ => rfl
    F_Lcopies_2 := F26
    g_Lcopies_2 := PySem.W.mg_of X G a26
    b_Lcopies_2 := F26.binds (ps := ["_law_parts_here"]) fun _ _ _ _ _ _ us hl => match us, hl with | [_], _ => rfl
    F_Lparts := F27
    g_Lparts := PySem.W.mg_of X G a27
    b_Lparts := F27.binds (ps := ["_law_script", "_law_at"]) fun _ _ _ _ _ _ us hl => match us, hl with | [_, _], _ => rfl
    F_Lrich_parts := F28
    g_Lrich_parts := PySem.W.mg_of X G a28
    b_Lrich_parts := F28.binds (ps := ["_law_script", "_law_at"]) fun _ _ _ _ _ _ us hl => match us, hl with | [_, _], _ => rfl
    F_law := F29
    g_law := PySem.W.mg_of X G a29
    b_law := F29.binds (ps := ["_law_script"]) fun _ _ _ _ _ _ us hl => match us, hl with | [_], _ => rfl
    n_all := PySem.W.mg_none_of X G z_all
    n_bool := PySem.W.mg_none_of X G z_bool
    n_dict := PySem.W.mg_none_of X G z_dict
    n_int := PySem.W.mg_none_of X G z_int
    n_isinstance := PySem.W.mg_none_of X G z_isinstance
    n_len := PySem.W.mg_none_of X G z_len
    n_list := PySem.W.mg_none_of X G z_list
    n_max := PySem.W.mg_none_of X G z_max
    n_min := PySem.W.mg_none_of X G z_min
    n_range := PySem.W.mg_none_of X G z_range
    n_sorted := PySem.W.mg_none_of X G z_sorted
    n_str := PySem.W.mg_none_of X G z_str
    n_tuple := PySem.W.mg_none_of X G z_tuple
    n_zip := PySem.W.mg_none_of X G z_zip
    c_LETTERS := PySem.W.mg_of X G y0
    d_FORMS := PySem.W.mg_of X G da0
    l_FORMS := dm0
    o_FORMS := ⟨_, _, dl0, dk0⟩
    e_FORMS := fun p hp => by
      simp only [List.mem_cons, List.not_mem_nil, or_false] at hp
      rcases hp with rfl | rfl | rfl | rfl | rfl | rfl | rfl
      · exact ⟨_, _, _, dl0, dk0, de0_0, _, rfl⟩
      · exact ⟨_, _, _, dl0, dk0, de0_1, _, rfl⟩
      · exact ⟨_, _, _, dl0, dk0, de0_2, _, rfl⟩
      · exact ⟨_, _, _, dl0, dk0, de0_3, _, rfl⟩
      · exact ⟨_, _, _, dl0, dk0, de0_4, _, rfl⟩
      · exact ⟨_, _, _, dl0, dk0, de0_5, _, rfl⟩
      · exact ⟨_, _, _, dl0, dk0, de0_6, _, rfl⟩
    x_CellError := { gC := PySem.W.mg_of X G xa0, gD := by decide +kernel, cls := ⟨_, _, _, _, _, _, _, _, _, _, _, _, _, _, _, xl0, by rfl⟩, sa := xs0, ga := xg0, gg := xgg0, noN := xn0, iC := xi0, tC := xt, kC := xk0, exC := xe0, tyC := xy0, hdC := xh0, fn := ⟨_, _, _, _, _, _, _, _, _, _, _, _, _, _, xl, xc⟩ }
    x_InvalidName := { gC := PySem.W.mg_of X G xa1, gD := by decide +kernel, cls := ⟨_, _, _, _, _, _, _, _, _, _, _, _, _, _, _, xl1, by rfl⟩, sa := xs1, ga := xg1, gg := xgg1, noN := xn1, iC := xi1, tC := xt, kC := xk1, exC := xe1, tyC := xy1, hdC := xh1, fn := ⟨_, _, _, _, _, _, _, _, _, _, _, _, _, _, xl, xc⟩ }
    x_InvalidTerm := { gC := PySem.W.mg_of X G xa2, gD := by decide +kernel, cls := ⟨_, _, _, _, _, _, _, _, _, _, _, _, _, _, _, xl2, by rfl⟩, sa := xs2, ga := xg2, gg := xgg2, noN := xn2, iC := xi2, tC := xt, kC := xk2, exC := xe2, tyC := xy2, hdC := xh2, fn := ⟨_, _, _, _, _, _, _, _, _, _, _, _, _, _, xl, xc⟩ }
    x_InvalidSaying := { gC := PySem.W.mg_of X G xa3, gD := by decide +kernel, cls := ⟨_, _, _, _, _, _, _, _, _, _, _, _, _, _, _, xl3, by rfl⟩, sa := xs3, ga := xg3, gg := xgg3, noN := xn3, iC := xi3, tC := xt, kC := xk3, exC := xe3, tyC := xy3, hdC := xh3, fn := ⟨_, _, _, _, _, _, _, _, _, _, _, _, _, _, xl, xc⟩ }
  }
  exact ⟨fd 29, fun s v => .of_eq rfl, fun base _ _ => law_ok T⟩
end K20
open PySem PySem.W PyProof.Rows
set_option maxHeartbeats 0 in
theorem PySem.Challenge.cw_allcells_k20_opposites_of_statements_holds : PySem.Challenge.rw_allcells_k20_opposites_of_statements.Holds := by
  w_on; o_law; k_head; (case hw => w_witness2)
  k_fill
  refine L2.walk_of (l := PySem.Challenge.rw_allcells_k20_opposites_of_statements) (n := 63) (k := 14) (x := "_law_script") (CX := fun w => L2.CX (PySem.Challenge.rw_allcells_k20_opposites_of_statements).prog w) (sp := fun w => K20.spLaw _) rfl (by decide) rfl ⟨rfl, by decide, by decide⟩ (fun w h Y => PySem.W.kIn_of Y) ?F (fun _ _ a ns hl _ hS => ⟨a, ns, rfl, hS, hl, fun _ => rfl⟩) ?C
  case C =>
    intro w H s e s' h
    obtain ⟨_, _, _, _, _, _, _, _, _, _, _, _, z⟩ := h
    exact z
  case F =>
    intro w mg fa h KX G hmg
    refine' K20.all_mk KX G hmg ?a0 ?l0 ?c0 ?k0 ?a1 ?l1 ?c1 ?k1 ?a2 ?l2 ?c2 ?k2 ?a3 ?l3 ?c3 ?k3 ?a4 ?l4 ?c4 ?k4 ?a5 ?l5 ?c5 ?k5 ?a6 ?l6 ?c6 ?k6 ?a7 ?l7 ?c7 ?k7 ?a8 ?l8 ?c8 ?k8 ?a9 ?l9 ?c9 ?k9 ?a10 ?l10 ?c10 ?k10 ?a11 ?l11 ?c11 ?k11 ?a12 ?l12 ?c12 ?k12 ?a13 ?l13 ?c13 ?k13 ?a14 ?l14 ?c14 ?k14 ?a15 ?l15 ?c15 ?k15 ?a16 ?l16 ?c16 ?k16 ?a17 ?l17 ?c17 ?k17 ?a18 ?l18 ?c18 ?k18 ?a19 ?l19 ?c19 ?k19 ?a20 ?l20 ?c20 ?k20 ?a21 ?l21 ?c21 ?k21 ?a22 ?l22 ?c22 ?k22 ?a23 ?l23 ?c23 ?k23 ?a24 ?l24 ?c24 ?k24 ?a25 ?l25 ?c25 ?k25 ?a26 ?l26 ?c26 ?k26 ?a27 ?l27 ?c27 ?k27 ?a28 ?l28 ?c28 ?k28 ?a29 ?l29 ?c29 ?k29 ?z_all ?z_bool ?z_dict ?z_int ?z_isinstance ?z_len ?z_list ?z_max ?z_min ?z_range ?z_sorted ?z_str ?z_tuple ?z_zip ?y0 ?da0 ?dl0 ?dk0 ?dm0 ?de0_0 ?de0_1 ?de0_2 ?de0_3 ?de0_4 ?de0_5 ?de0_6 ?xt ?xl ?xc ?xa0 ?xl0 ?xs0 ?xg0 ?xgg0 ?xn0 ?xi0 ?xk0 ?xe0 ?xy0 ?xh0 ?xo0 ?xa1 ?xl1 ?xs1 ?xg1 ?xgg1 ?xn1 ?xi1 ?xk1 ?xe1 ?xy1 ?xh1 ?xo1 ?xa2 ?xl2 ?xs2 ?xg2 ?xgg2 ?xn2 ?xi2 ?xk2 ?xe2 ?xy2 ?xh2 ?xo2 ?xa3 ?xl3 ?xs3 ?xg3 ?xgg3 ?xn3 ?xi3 ?xk3 ?xe3 ?xy3 ?xh3 ?xo3
    (case a0 => k_is)
    (case l0 => k_is)
    (case c0 => k_is)
    (case k0 => k_is)
    (case a1 => k_is)
    (case l1 => k_is)
    (case c1 => k_is)
    (case k1 => k_is)
    (case a2 => k_is)
    (case l2 => k_is)
    (case c2 => k_is)
    (case k2 => k_is)
    (case a3 => k_is)
    (case l3 => k_is)
    (case c3 => k_is)
    (case k3 => k_is)
    (case a4 => k_is)
    (case l4 => k_is)
    (case c4 => k_is)
    (case k4 => k_is)
    (case a5 => k_is)
    (case l5 => k_is)
    (case c5 => k_is)
    (case k5 => k_is)
    (case a6 => k_is)
    (case l6 => k_is)
    (case c6 => k_is)
    (case k6 => k_is)
    (case a7 => k_is)
    (case l7 => k_is)
    (case c7 => k_is)
    (case k7 => k_is)
    (case a8 => k_is)
    (case l8 => k_is)
    (case c8 => k_is)
    (case k8 => k_is)
    (case a9 => k_is)
    (case l9 => k_is)
    (case c9 => k_is)
    (case k9 => k_is)
    (case a10 => k_is)
    (case l10 => k_is)
    (case c10 => k_is)
    (case k10 => k_is)
    (case a11 => k_is)
    (case l11 => k_is)
    (case c11 => k_is)
    (case k11 => k_is)
    (case a12 => k_is)
    (case l12 => k_is)
    (case c12 => k_is)
    (case k12 => k_is)
    (case a13 => k_is)
    (case l13 => k_is)
    (case c13 => k_is)
    (case k13 => k_is)
    (case a14 => k_is)
    (case l14 => k_is)
    (case c14 => k_is)
    (case k14 => k_is)
    (case a15 => k_is)
    (case l15 => k_is)
    (case c15 => k_is)
    (case k15 => k_is)
    (case a16 => k_is)
    (case l16 => k_is)
    (case c16 => k_is)
    (case k16 => k_is)
    (case a17 => k_is)
    (case l17 => k_is)
    (case c17 => k_is)
    (case k17 => k_is)
    (case a18 => k_is)
    (case l18 => k_is)
    (case c18 => k_is)
    (case k18 => k_is)
    (case a19 => k_is)
    (case l19 => k_is)
    (case c19 => k_is)
    (case k19 => k_is)
    (case a20 => k_is)
    (case l20 => k_is)
    (case c20 => k_is)
    (case k20 => k_is)
    (case a21 => k_is)
    (case l21 => k_is)
    (case c21 => k_is)
    (case k21 => k_is)
    (case a22 => k_is)
    (case l22 => k_is)
    (case c22 => k_is)
    (case k22 => k_is)
    (case a23 => k_is)
    (case l23 => k_is)
    (case c23 => k_is)
    (case k23 => k_is)
    (case a24 => k_is)
    (case l24 => k_is)
    (case c24 => k_is)
    (case k24 => k_is)
    (case a25 => k_is)
    (case l25 => k_is)
    (case c25 => k_is)
    (case k25 => k_is)
    (case a26 => k_is)
    (case l26 => k_is)
    (case c26 => k_is)
    (case k26 => k_is)
    (case a27 => k_is)
    (case l27 => k_is)
    (case c27 => k_is)
    (case k27 => k_is)
    (case a28 => k_is)
    (case l28 => k_is)
    (case c28 => k_is)
    (case k28 => k_is)
    (case a29 => k_is)
    (case l29 => k_is)
    (case c29 => k_is)
    (case k29 => k_is)
    (case z_all => k_is)
    (case z_bool => k_is)
    (case z_dict => k_is)
    (case z_int => k_is)
    (case z_isinstance => k_is)
    (case z_len => k_is)
    (case z_list => k_is)
    (case z_max => k_is)
    (case z_min => k_is)
    (case z_range => k_is)
    (case z_sorted => k_is)
    (case z_str => k_is)
    (case z_tuple => k_is)
    (case z_zip => k_is)
    (case y0 => k_is)
    (case da0 => k_is)
    (case dl0 => k_is)
    (case dk0 => (repeat' first | exact trivial | exact ⟨_, _, rfl, rfl⟩ | constructor))
    (case dm0 => first | rfl | decide | decide +kernel | k_is)
    (case de0_0 => k_is)
    (case de0_1 => k_is)
    (case de0_2 => k_is)
    (case de0_3 => k_is)
    (case de0_4 => k_is)
    (case de0_5 => k_is)
    (case de0_6 => k_is)
    (case xa0 => k_is)
    (case xl0 => k_is)
    (case xs0 => k_is)
    (case xg0 => k_is)
    (case xgg0 => k_is)
    (case xn0 => k_is)
    (case xi0 => k_is)
    (case xk0 => k_is)
    (case xe0 => k_is)
    (case xy0 => k_is)
    (case xh0 => k_is)
    (case xo0 => k_is)
    (case xa1 => k_is)
    (case xl1 => k_is)
    (case xs1 => k_is)
    (case xg1 => k_is)
    (case xgg1 => k_is)
    (case xn1 => k_is)
    (case xi1 => k_is)
    (case xk1 => k_is)
    (case xe1 => k_is)
    (case xy1 => k_is)
    (case xh1 => k_is)
    (case xo1 => k_is)
    (case xa2 => k_is)
    (case xl2 => k_is)
    (case xs2 => k_is)
    (case xg2 => k_is)
    (case xgg2 => k_is)
    (case xn2 => k_is)
    (case xi2 => k_is)
    (case xk2 => k_is)
    (case xe2 => k_is)
    (case xy2 => k_is)
    (case xh2 => k_is)
    (case xo2 => k_is)
    (case xa3 => k_is)
    (case xl3 => k_is)
    (case xs3 => k_is)
    (case xg3 => k_is)
    (case xgg3 => k_is)
    (case xn3 => k_is)
    (case xi3 => k_is)
    (case xk3 => k_is)
    (case xe3 => k_is)
    (case xy3 => k_is)
    (case xh3 => k_is)
    (case xo3 => k_is)
    (case xt => k_is)
    (case xl => k_is)
    (case xc => k_is)
