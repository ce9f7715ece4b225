/- Part of a proof of the statement Round; what it needs in which order stands in GOCLAIM.json. -/
import Derived.Test.YtoehhfhjnjfgiaaDoorProg
import Derived.KernelRfl
import Derived.Test.YtoehhfhjnjfgiaaDoorRoundC
set_option linter.unusedVariables false
set_option maxRecDepth 100000
namespace Go.DL
open Go
universe u v
theorem R : (type_of% @val_s) ∧
  (type_of% @val_c) ∧
  (type_of% @val_g) ∧
  (type_of% @put_some) ∧
  (type_of% @put_none) ∧
  (type_of% @args0_nil) ∧
  (type_of% @args0_zero) ∧
  (type_of% @args0_succ) ∧
  (type_of% @onB_t) ∧
  (type_of% @onB_f) ∧
  (type_of% @onG_tt) ∧
  (type_of% @onG_tf) ∧
  (type_of% @onG_ft) ∧
  (type_of% @onG_ff) ∧
  (type_of% @onG_u) ∧
  (type_of% @bin_add) ∧
  (type_of% @bin_sub) ∧
  (type_of% @bin_mul) ∧
  (type_of% @bin_eql) ∧
  (type_of% @bin_neq) ∧
  (type_of% @bin_lss) ∧
  (type_of% @bin_leq) ∧
  (type_of% @bin_gtr) ∧
  (type_of% @bin_geq) ∧
  (type_of% @bin_quo) ∧
  (type_of% @bin_rem) ∧
  (type_of% @bin_seql) ∧
  (type_of% @bin_sneq) ∧
  (type_of% @bin_sadd) ∧
  (type_of% @bin_slss) ∧
  (type_of% @eqb_eql) ∧
  (type_of% @eqb_neq) ∧
  (type_of% @eqn_eql) ∧
  (type_of% @eqn_neq) ∧
  (type_of% @eqn_eql_if) ∧
  (type_of% @eqn_neq_if) ∧
  (type_of% @eqn_eql_nn) ∧
  (type_of% @eqn_neq_nn) ∧
  (type_of% @un_neg) ∧
  (type_of% @un_not) ∧
  (type_of% @conv_int) ∧
  (type_of% @onBox_s) ∧
  (type_of% @onRow_s) ∧
  (type_of% @onIdx_zero) ∧
  (type_of% @load_el) ∧
  (type_of% @load_ptr) ∧
  (type_of% @load_rel) ∧
  (type_of% @store_ptr) ∧
  (type_of% @store_rel) ∧
  (type_of% @nil_ptr) ∧
  (type_of% @nil_rel) ∧
  (type_of% @nil_el) ∧
  (type_of% @nil_fn) ∧
  (type_of% @fad_ptr) ∧
  (type_of% @fad_el) ∧
  (type_of% @fad_rel) ∧
  (type_of% @fld_agg) ∧
  (type_of% @iad_sl) ∧
  (type_of% @iad_row) ∧
  (type_of% @iaa_el) ∧
  (type_of% @iaa_ptr) ∧
  (type_of% @idxS_s) ∧
  (type_of% @ext_zero) ∧
  (type_of% @ext_succ) ∧
  (type_of% @call_fn) ∧
  (type_of% @lenS_s) ∧
  (type_of% @lenL_nil) ∧
  (type_of% @lenL_sl) ∧
  (type_of% @lenL_row) ∧
  (type_of% @app_row) ∧
  (type_of% @app_nil) ∧
  (type_of% @appS_row) ∧
  (type_of% @appS_nil) ∧
  (type_of% @boundOf_eq) ∧
  (type_of% @slcS_nn) ∧
  (type_of% @slcS_sn) ∧
  (type_of% @slcS_ns) ∧
  (type_of% @slcS_ss) ∧
  (type_of% @slcL_nn) ∧
  (type_of% @slcL_sn) ∧
  (type_of% @slcL_ns) ∧
  (type_of% @slcL_ss) ∧
  (type_of% @slcA_el) ∧
  (type_of% @idxA_agg) ∧
  (type_of% @map_s) ∧
  (type_of% @iter_s) ∧
  (type_of% @mput_mp) ∧
  (type_of% @mget_mp) ∧
  (type_of% @rng_mp) ∧
  (type_of% @nxt_it) ∧
  (type_of% @ent_it) ∧
  (type_of% @lenM_mp) ∧
  (type_of% @frzO_s) ∧
  (type_of% @frz_row) ∧
  (type_of% @frz_nil) ∧
  (type_of% @frz_int) ∧
  (type_of% @frz_bool) ∧
  (type_of% @frz_string) ∧
  (type_of% @frz_nilIface) ∧
  (type_of% @frz_undef) ∧
  (type_of% @frz_sl) ∧
  (type_of% @frz_agg) ∧
  (type_of% @frz_ptr) ∧
  (type_of% @frz_mp) ∧
  (type_of% @frz_tup) ∧
  (type_of% @frz_fn) ∧
  (type_of% @frz_nn) ∧
  (type_of% @frz_junk) ∧
  (type_of% @ops_nil) ∧
  (type_of% @then_some) ∧
  (type_of% @then_none) ∧
  (type_of% @o_frz) ∧
  (type_of% @o_mv) ∧
  (type_of% @o_pick) ∧
  (type_of% @o_alloc) ∧
  (type_of% @o_box) ∧
  (type_of% @o_bld) ∧
  (type_of% @o_bslr) ∧
  (type_of% @o_bslf) ∧
  (type_of% @o_load) ∧
  (type_of% @o_store) ∧
  (type_of% @o_nilck) ∧
  (type_of% @o_bin) ∧
  (type_of% @o_eqb) ∧
  (type_of% @o_eqn) ∧
  (type_of% @o_un) ∧
  (type_of% @o_conv) ∧
  (type_of% @o_mkfn) ∧
  (type_of% @o_mkmap) ∧
  (type_of% @o_slcS) ∧
  (type_of% @o_slcL) ∧
  (type_of% @o_fad) ∧
  (type_of% @o_fld) ∧
  (type_of% @o_iad) ∧
  (type_of% @o_iaa) ∧
  (type_of% @o_idxS) ∧
  (type_of% @o_ext) ∧
  (type_of% @o_call) ∧
  (type_of% @o_lenS) ∧
  (type_of% @o_lenL) ∧
  (type_of% @o_app) ∧
  (type_of% @o_appS) ∧
  (type_of% @o_slcA) ∧
  (type_of% @o_idxA) ∧
  (type_of% @o_str) ∧
  (type_of% @o_lenM) ∧
  (type_of% @o_mput) ∧
  (type_of% @o_mget) ∧
  (type_of% @o_rng) ∧
  (type_of% @o_nxt) ∧
  (type_of% @o_ent) ∧
  (type_of% @o_guard) ∧
  (type_of% @d_nil) ∧
  (type_of% @thenD_app) ∧
  (type_of% @dd_mv) ∧
  (type_of% @dd_pick) ∧
  (type_of% @dd_alloc) ∧
  (type_of% @dd_box) ∧
  (type_of% @dd_bld) ∧
  (type_of% @dd_bsl) ∧
  (type_of% @dd_load) ∧
  (type_of% @dd_store) ∧
  (type_of% @dd_nilck) ∧
  (type_of% @dd_bin) ∧
  (type_of% @dd_eqb) ∧
  (type_of% @dd_eqn) ∧
  (type_of% @dd_un) ∧
  (type_of% @dd_conv) ∧
  (type_of% @dd_str) ∧
  (type_of% @dd_mkfn) ∧
  (type_of% @dd_mkmap) ∧
  (type_of% @dd_slcS) ∧
  (type_of% @dd_slcL) ∧
  (type_of% @dd_fad) ∧
  (type_of% @dd_fld) ∧
  (type_of% @dd_iad) ∧
  (type_of% @dd_iaa) ∧
  (type_of% @dd_idxS) ∧
  (type_of% @dd_ext) ∧
  (type_of% @dd_lenS) ∧
  (type_of% @dd_lenL) ∧
  (type_of% @dd_lenM) ∧
  (type_of% @dd_app) ∧
  (type_of% @dd_slcA) ∧
  (type_of% @dd_idxA) ∧
  (type_of% @dd_mput) ∧
  (type_of% @dd_mget) ∧
  (type_of% @dd_rng) ∧
  (type_of% @dd_ent) ∧
  (type_of% @d_call) ∧
  (type_of% @d_guard) ∧
  (type_of% @nilS_n) ∧
  (type_of% @boxP_p) ∧
  (type_of% @elS_n) ∧
  (type_of% @gh_nil) ∧
  (type_of% @gh_own) ∧
  (type_of% @gh_ownb) ∧
  (type_of% @elRow_r) ∧
  (type_of% @gh_frz) ∧
  (type_of% @gh_frzb) ∧
  (type_of% @regQ_app) ∧
  (type_of% @drwQ_app) ∧
  (type_of% @seqQ_n) ∧
  (type_of% @seqQ_r) ∧
  (type_of% @seqQ_e) ∧
  (type_of% @blkQ_n) ∧
  (type_of% @blkQ_r) ∧
  (type_of% @blkQ_e) ∧
  (type_of% @loopQ_n) ∧
  (type_of% @loopQ_r) ∧
  (type_of% @loopQ_e) ∧
  (type_of% @c_skip) ∧
  (type_of% @c_reg) ∧
  (type_of% @c_drw) ∧
  (type_of% @c_own) ∧
  (type_of% @c_frz0) ∧
  (type_of% @c_frz1) ∧
  (type_of% @c_seq) ∧
  (type_of% @c_cond) ∧
  (type_of% @c_block) ∧
  (type_of% @c_exit) ∧
  (type_of% @scopeQ_n) ∧
  (type_of% @scopeQ_r) ∧
  (type_of% @scopeQ_e) ∧
  (type_of% @c_scope) ∧
  (type_of% @c_ret) ∧
  (type_of% @c_loop) ∧
  (type_of% @forQ_n) ∧
  (type_of% @forQ_r) ∧
  (type_of% @forQ_e) ∧
  (type_of% @retK_n) ∧
  (type_of% @retK_r) ∧
  (type_of% @res_nil) ∧
  (type_of% @res_tmp) ∧
  (type_of% @cell_ptr) ∧
  (type_of% @res_cell) ∧
  (type_of% @resD_one) ∧
  (type_of% @resD_two) ∧
  (type_of% @resD_nil) ∧
  (type_of% @mk_t) ∧
  (type_of% @mk_f) ∧
  (type_of% @lv_lit) ∧
  (type_of% @lv_agg) ∧
  (type_of% @lv_sl) ∧
  (type_of% @lv_row) ∧
  (type_of% @lv_ptr) ∧
  (type_of% @lv_mp) ∧
  (type_of% @lv_fn) ∧
  (type_of% @wh_agg) ∧
  (type_of% @wh_sl) ∧
  (type_of% @wh_row) ∧
  (type_of% @wh_str) ∧
  (type_of% @wh_int) ∧
  (type_of% @wh_bool) ∧
  (type_of% @wh_nil) ∧
  (type_of% @get_own) ∧
  (type_of% @get_own0) ∧
  (type_of% @set_own) ∧
  (type_of% @set_own0) ∧
  (type_of% @len_own) ∧
  (type_of% @idx_map) ∧
  (type_of% @idx_mapI) ∧
  (type_of% @byte_str) ∧
  (type_of% @byte_strI) ∧
  (type_of% @len_map) ∧
  (type_of% @allmem_nil2) ∧
  (type_of% @allmem_nilD) ∧
  (type_of% @fill_nil) ∧
  (type_of% @fill_cons) ∧
  (type_of% @wrap_byte) ∧
  (type_of% @byte_zero) ∧
  (type_of% @str_size) ∧
  (type_of% @str_extract) ∧
  (type_of% @str_app) ∧
  (type_of% @str_beq) ∧
  (type_of% @str_get) ∧
  (type_of% @str_mk) ∧
  (type_of% @upd_app) ∧
  (type_of% @List.getElem_cons_zero.{0}) ∧
  (type_of% @List.getElem_cons_succ.{0}) ∧
  (type_of% @List.forall_mem_cons.{0}) ∧
  (type_of% @allmem_nil) ∧
  (type_of% @not_false_eq_true) ∧
  (type_of% @Bool.not_false) ∧
  (type_of% @Bool.not_true) ∧
  (type_of% @Int.toNat_natCast) ∧
  (type_of% @Option.map_some.{0,0}) ∧
  (type_of% @Option.map_none.{0,0}) ∧
  (type_of% @List.set_cons_zero.{0}) ∧
  (type_of% @List.set_cons_succ.{0}) ∧
  (type_of% @List.getElem?_set_self.{0}) ∧
  (type_of% @List.take_succ_cons.{0}) ∧
  (type_of% @List.take_zero.{0}) ∧
  (type_of% @List.drop_succ_cons.{0}) ∧
  (type_of% @List.drop_zero.{0}) ∧
  (type_of% @Nat.add_zero) ∧
  (type_of% @Nat.zero_add) ∧
  (type_of% @Nat.zero_mul) ∧
  (type_of% @Nat.le_refl) ∧
  (type_of% @and_true) ∧
  (type_of% @true_and) ∧
  (type_of% @Int.toNat_zero) ∧
  (type_of% @List.getElem?_cons_zero.{0}) ∧
  (type_of% @List.getElem?_cons_succ.{0}) ∧
  (type_of% @List.append_assoc.{0}) ∧
  (type_of% @List.map_cons.{0,0}) ∧
  (type_of% @List.map_nil.{0,0}) ∧
  (type_of% @List.nil_append.{0}) ∧
  (type_of% @List.cons_append.{0}) ∧
  (type_of% @List.append_nil.{0}) ∧
  (type_of% @List.length_cons.{0}) ∧
  (type_of% @List.length_nil.{0}) :=
  ⟨@val_s, @val_c, @val_g, @put_some, @put_none, @args0_nil, @args0_zero, @args0_succ, @onB_t, @onB_f, @onG_tt, @onG_tf, @onG_ft, @onG_ff, @onG_u, @bin_add, @bin_sub, @bin_mul, @bin_eql, @bin_neq, @bin_lss, @bin_leq, @bin_gtr, @bin_geq, @bin_quo, @bin_rem, @bin_seql, @bin_sneq, @bin_sadd, @bin_slss, @eqb_eql, @eqb_neq, @eqn_eql, @eqn_neq, @eqn_eql_if, @eqn_neq_if, @eqn_eql_nn, @eqn_neq_nn, @un_neg, @un_not, @conv_int, @onBox_s, @onRow_s, @onIdx_zero, @load_el, @load_ptr, @load_rel, @store_ptr, @store_rel, @nil_ptr, @nil_rel, @nil_el, @nil_fn, @fad_ptr, @fad_el, @fad_rel, @fld_agg, @iad_sl, @iad_row, @iaa_el, @iaa_ptr, @idxS_s, @ext_zero, @ext_succ, @call_fn, @lenS_s, @lenL_nil, @lenL_sl, @lenL_row, @app_row, @app_nil, @appS_row, @appS_nil, @boundOf_eq, @slcS_nn, @slcS_sn, @slcS_ns, @slcS_ss, @slcL_nn, @slcL_sn, @slcL_ns, @slcL_ss, @slcA_el, @idxA_agg, @map_s, @iter_s, @mput_mp, @mget_mp, @rng_mp, @nxt_it, @ent_it, @lenM_mp, @frzO_s, @frz_row, @frz_nil, @frz_int, @frz_bool, @frz_string, @frz_nilIface, @frz_undef, @frz_sl, @frz_agg, @frz_ptr, @frz_mp, @frz_tup, @frz_fn, @frz_nn, @frz_junk, @ops_nil, @then_some, @then_none, @o_frz, @o_mv, @o_pick, @o_alloc, @o_box, @o_bld, @o_bslr, @o_bslf, @o_load, @o_store, @o_nilck, @o_bin, @o_eqb, @o_eqn, @o_un, @o_conv, @o_mkfn, @o_mkmap, @o_slcS, @o_slcL, @o_fad, @o_fld, @o_iad, @o_iaa, @o_idxS, @o_ext, @o_call, @o_lenS, @o_lenL, @o_app, @o_appS, @o_slcA, @o_idxA, @o_str, @o_lenM, @o_mput, @o_mget, @o_rng, @o_nxt, @o_ent, @o_guard, @d_nil, @thenD_app, @dd_mv, @dd_pick, @dd_alloc, @dd_box, @dd_bld, @dd_bsl, @dd_load, @dd_store, @dd_nilck, @dd_bin, @dd_eqb, @dd_eqn, @dd_un, @dd_conv, @dd_str, @dd_mkfn, @dd_mkmap, @dd_slcS, @dd_slcL, @dd_fad, @dd_fld, @dd_iad, @dd_iaa, @dd_idxS, @dd_ext, @dd_lenS, @dd_lenL, @dd_lenM, @dd_app, @dd_slcA, @dd_idxA, @dd_mput, @dd_mget, @dd_rng, @dd_ent, @d_call, @d_guard, @nilS_n, @boxP_p, @elS_n, @gh_nil, @gh_own, @gh_ownb, @elRow_r, @gh_frz, @gh_frzb, @regQ_app, @drwQ_app, @seqQ_n, @seqQ_r, @seqQ_e, @blkQ_n, @blkQ_r, @blkQ_e, @loopQ_n, @loopQ_r, @loopQ_e, @c_skip, @c_reg, @c_drw, @c_own, @c_frz0, @c_frz1, @c_seq, @c_cond, @c_block, @c_exit, @scopeQ_n, @scopeQ_r, @scopeQ_e, @c_scope, @c_ret, @c_loop, @forQ_n, @forQ_r, @forQ_e, @retK_n, @retK_r, @res_nil, @res_tmp, @cell_ptr, @res_cell, @resD_one, @resD_two, @resD_nil, @mk_t, @mk_f, @lv_lit, @lv_agg, @lv_sl, @lv_row, @lv_ptr, @lv_mp, @lv_fn, @wh_agg, @wh_sl, @wh_row, @wh_str, @wh_int, @wh_bool, @wh_nil, @get_own, @get_own0, @set_own, @set_own0, @len_own, @idx_map, @idx_mapI, @byte_str, @byte_strI, @len_map, @allmem_nil2, @allmem_nilD, @fill_nil, @fill_cons, @wrap_byte, @byte_zero, @str_size, @str_extract, @str_app, @str_beq, @str_get, @str_mk, @upd_app, @List.getElem_cons_zero.{0}, @List.getElem_cons_succ.{0}, @List.forall_mem_cons.{0}, @allmem_nil, @not_false_eq_true, @Bool.not_false, @Bool.not_true, @Int.toNat_natCast, @Option.map_some.{0,0}, @Option.map_none.{0,0}, @List.set_cons_zero.{0}, @List.set_cons_succ.{0}, @List.getElem?_set_self.{0}, @List.take_succ_cons.{0}, @List.take_zero.{0}, @List.drop_succ_cons.{0}, @List.drop_zero.{0}, @Nat.add_zero, @Nat.zero_add, @Nat.zero_mul, @Nat.le_refl, @and_true, @true_and, @Int.toNat_zero, @List.getElem?_cons_zero.{0}, @List.getElem?_cons_succ.{0}, @List.append_assoc.{0}, @List.map_cons.{0,0}, @List.map_nil.{0,0}, @List.nil_append.{0}, @List.cons_append.{0}, @List.append_nil.{0}, @List.length_cons.{0}, @List.length_nil.{0}⟩
end Go.DL
set_option maxRecDepth 100000
namespace Go.Proofs.Tryd
open Go Go.DL
def dc11_r0 : List DOp := [⟨some 4, .mv (.c (.lit (.int .i64 0))), none⟩]
def dc11_r1 : List DOp := [⟨some 5, .mv (.s 0), none⟩,
    ⟨some 6, .bin .lss (.s 5) (.c (.lit (.int .i64 0))), none⟩]
def dc11_r2 : List DOp := [⟨some 7, .mv (.s 0), none⟩,
    ⟨some 8, .bin .add (.s 7) (.c (.lit (.int .i64 1))), none⟩,
    ⟨some 9, .un .neg (.s 8), none⟩,
    ⟨some 0, .mv (.s 9), none⟩]
def dc11_r3 : List DOp := [⟨some 10, .mv (.s 0), none⟩,
    ⟨some 11, .mv (.s 1), none⟩,
    ⟨some 12, .bin .rem (.s 10) (.s 11), none⟩,
    ⟨some 4, .mv (.s 12), none⟩]
def dc11 : DC :=
 .seq (.reg dc11_r0)
 (.seq (.seq (.reg dc11_r1)
 (.cond (.s 6) (.reg dc11_r2)
 (.skip)))
 (.seq (.reg dc11_r3)
 (.ret)))
theorem dc11_ok : trCode Tryd.prog Tryd.f11.ntmps { rows := [], keep := [], pre := [], own := [], preg := [] } (Tryd.f11.body.getD .skip) = some dc11 := by kernel_rfl
theorem s11 {G : Nat → D} {ds : List D} {H : List O} {Q : D → List O → Prop} (hn : ds.length ≤ Tryd.f11.ntmps) (hv : vc (CallA Tryd.prog G) G dc11 (args0 ds) H (retK [.tmp 4] Q)) : CallA Tryd.prog G 11 ds H Q :=
  CallA.of_vc (by kernel_rfl) Tryd.func11 (by kernel_rfl) (cd := Tryd.f11.body.getD .skip) (by kernel_rfl) hn dc11_ok (by kernel_rfl) hv
def dc13_r0 : List DOp := [⟨some 6, .mv (.c (.lit (.int .i64 0))), none⟩]
def dc13_r1 : List DOp := [⟨some 7, .mv (.s 1), none⟩,
    ⟨some 8, .bin .lss (.s 7) (.c (.lit (.int .i64 0))), none⟩,
    ⟨some 9, .mv (.s 8), none⟩,
    ⟨some 10, .mv (.s 1), some (9, false)⟩,
    ⟨some 11, .mv (.s 0), some (9, false)⟩,
    ⟨some 12, .lenL (.s 11), some (9, false)⟩,
    ⟨some 13, .bin .geq (.s 10) (.s 12), some (9, false)⟩,
    ⟨some 14, .pick (.s 9) (.c (.lit (.bool true))) (.s 13), none⟩]
def dc13_r2 : List DOp := [⟨some 6, .mv (.c (.lit (.int .i64 0))), none⟩]
def dc13_r3 : List DOp := [⟨some 15, .mv (.s 0), none⟩,
    ⟨some 16, .mv (.s 1), none⟩,
    ⟨some 17, .iad 1 (.s 15) (.s 16), none⟩,
    ⟨some 18, .load 1 false (.s 17), none⟩,
    ⟨some 19, .mv (.s 2), none⟩,
    ⟨none, .frz 18, none⟩,
    ⟨none, .frz 19, none⟩,
    ⟨some 20, .call (.c (.fn 11 [])) [.s 18, .s 19], none⟩,
    ⟨some 6, .mv (.s 20), none⟩]
def dc13 : DC :=
 .seq (.reg dc13_r0)
 (.seq (.seq (.reg dc13_r1)
 (.cond (.s 14) (.seq (.reg dc13_r2)
 (.ret))
 (.skip)))
 (.seq (.reg dc13_r3)
 (.ret)))
theorem dc13_ok : trCode Tryd.prog Tryd.f13.ntmps { rows := [], keep := [], pre := [], own := [], preg := [] } (Tryd.f13.body.getD .skip) = some dc13 := by kernel_rfl
theorem s13 {G : Nat → D} {ds : List D} {H : List O} {Q : D → List O → Prop} (hn : ds.length ≤ Tryd.f13.ntmps) (hv : vc (CallA Tryd.prog G) G dc13 (args0 ds) H (retK [.tmp 6] Q)) : CallA Tryd.prog G 13 ds H Q :=
  CallA.of_vc (by kernel_rfl) Tryd.func13 (by kernel_rfl) (cd := Tryd.f13.body.getD .skip) (by kernel_rfl) hn dc13_ok (by kernel_rfl) hv
def dc34_r0 : List DOp := [⟨some 4, .mv (.c (.lit (.bool false))), none⟩]
def dc34_r1 : List DOp := [⟨some 6, .mv (.s 0), none⟩,
    ⟨some 7, .lenL (.s 6), none⟩,
    ⟨some 8, .mv (.s 1), none⟩,
    ⟨some 9, .lenL (.s 8), none⟩,
    ⟨some 10, .bin .neq (.s 7) (.s 9), none⟩]
def dc34_r2 : List DOp := [⟨some 4, .mv (.c (.lit (.bool false))), none⟩]
def dc34_r3 : List DOp := [⟨some 5, .mv (.c (.lit (.int .i64 0))), none⟩]
def dc34_r4 : List DOp := [⟨some 11, .mv (.s 5), none⟩,
    ⟨some 12, .mv (.s 0), none⟩,
    ⟨some 13, .lenL (.s 12), none⟩,
    ⟨some 14, .bin .lss (.s 11) (.s 13), none⟩]
def dc34_r6 : List DOp := [⟨some 17, .mv (.s 0), none⟩,
    ⟨some 18, .mv (.s 5), none⟩,
    ⟨some 19, .iad 1 (.s 17) (.s 18), none⟩,
    ⟨some 20, .load 1 false (.s 19), none⟩,
    ⟨some 21, .mv (.s 1), none⟩,
    ⟨some 22, .mv (.s 5), none⟩,
    ⟨some 23, .iad 1 (.s 21) (.s 22), none⟩,
    ⟨some 24, .load 1 false (.s 23), none⟩,
    ⟨some 25, .bin .neq (.s 20) (.s 24), none⟩]
def dc34_r7 : List DOp := [⟨some 4, .mv (.c (.lit (.bool false))), none⟩]
def dc34_r5 : List DOp := [⟨some 15, .mv (.s 5), none⟩,
    ⟨some 16, .bin .add (.s 15) (.c (.lit (.int .i64 1))), none⟩,
    ⟨some 5, .mv (.s 16), none⟩]
def dc34_r8 : List DOp := [⟨some 4, .mv (.c (.lit (.bool true))), none⟩]
def dc34 : DC :=
 .seq (.reg dc34_r0)
 (.seq (.seq (.reg dc34_r1)
 (.cond (.s 10) (.seq (.reg dc34_r2)
 (.ret))
 (.skip)))
 (.seq (.seq (.reg dc34_r3)
 (.block 0 (.loop (.seq (.seq (.reg dc34_r4)
 (.cond (.s 14) (.skip)
 (.exit 0)))
 (.seq (.block 1 (.seq (.drw dc34_r6)
 (.cond (.s 25) (.seq (.reg dc34_r7)
 (.ret))
 (.skip))))
 (.reg dc34_r5))))))
 (.seq (.reg dc34_r8)
 (.ret))))
theorem dc34_ok : trCode Tryd.prog Tryd.f34.ntmps { rows := [], keep := [], pre := [], own := [], preg := [] } (Tryd.f34.body.getD .skip) = some dc34 := by kernel_rfl
theorem s34 {G : Nat → D} {ds : List D} {H : List O} {Q : D → List O → Prop} (hn : ds.length ≤ Tryd.f34.ntmps) (hv : vc (CallA Tryd.prog G) G dc34 (args0 ds) H (retK [.tmp 4] Q)) : CallA Tryd.prog G 34 ds H Q :=
  CallA.of_vc (by kernel_rfl) Tryd.func34 (by kernel_rfl) (cd := Tryd.f34.body.getD .skip) (by kernel_rfl) hn dc34_ok (by kernel_rfl) hv
def dc16_r0 : List DOp := [⟨some 4, .mv (.c (.lit (.bool false))), none⟩]
def dc16_r1 : List DOp := [⟨some 6, .mv (.s 0), none⟩,
    ⟨some 7, .lenL (.s 6), none⟩,
    ⟨some 8, .mv (.s 1), none⟩,
    ⟨some 9, .lenL (.s 8), none⟩,
    ⟨some 10, .bin .neq (.s 7) (.s 9), none⟩]
def dc16_r2 : List DOp := [⟨some 4, .mv (.c (.lit (.bool false))), none⟩]
def dc16_r3 : List DOp := [⟨some 5, .mv (.c (.lit (.int .i64 0))), none⟩]
def dc16_r4 : List DOp := [⟨some 11, .mv (.s 5), none⟩,
    ⟨some 12, .mv (.s 0), none⟩,
    ⟨some 13, .lenL (.s 12), none⟩,
    ⟨some 14, .bin .lss (.s 11) (.s 13), none⟩]
def dc16_r6 : List DOp := [⟨some 17, .mv (.s 0), none⟩,
    ⟨some 18, .mv (.s 5), none⟩,
    ⟨some 19, .iad 4 (.s 17) (.s 18), none⟩,
    ⟨some 20, .fad 0 (.s 19), none⟩,
    ⟨some 21, .load 1 false (.s 20), none⟩,
    ⟨some 22, .mv (.s 1), none⟩,
    ⟨some 23, .mv (.s 5), none⟩,
    ⟨some 24, .iad 4 (.s 22) (.s 23), none⟩,
    ⟨some 25, .fad 0 (.s 24), none⟩,
    ⟨some 26, .load 1 false (.s 25), none⟩,
    ⟨some 27, .bin .neq (.s 21) (.s 26), none⟩,
    ⟨some 28, .mv (.s 27), none⟩,
    ⟨some 29, .mv (.s 0), some (28, false)⟩,
    ⟨some 30, .mv (.s 5), some (28, false)⟩,
    ⟨some 31, .iad 4 (.s 29) (.s 30), some (28, false)⟩,
    ⟨some 32, .fad 1 (.s 31), some (28, false)⟩,
    ⟨some 33, .load 1 false (.s 32), some (28, false)⟩,
    ⟨some 34, .mv (.s 1), some (28, false)⟩,
    ⟨some 35, .mv (.s 5), some (28, false)⟩,
    ⟨some 36, .iad 4 (.s 34) (.s 35), some (28, false)⟩,
    ⟨some 37, .fad 1 (.s 36), some (28, false)⟩,
    ⟨some 38, .load 1 false (.s 37), some (28, false)⟩,
    ⟨some 39, .bin .neq (.s 33) (.s 38), some (28, false)⟩,
    ⟨some 40, .pick (.s 28) (.c (.lit (.bool true))) (.s 39), none⟩,
    ⟨some 41, .mv (.s 40), none⟩,
    ⟨some 42, .mv (.s 0), some (41, false)⟩,
    ⟨some 43, .mv (.s 5), some (41, false)⟩,
    ⟨some 44, .iad 4 (.s 42) (.s 43), some (41, false)⟩,
    ⟨some 45, .fad 2 (.s 44), some (41, false)⟩,
    ⟨some 46, .load 1 false (.s 45), some (41, false)⟩,
    ⟨some 47, .mv (.s 1), some (41, false)⟩,
    ⟨some 48, .mv (.s 5), some (41, false)⟩,
    ⟨some 49, .iad 4 (.s 47) (.s 48), some (41, false)⟩,
    ⟨some 50, .fad 2 (.s 49), some (41, false)⟩,
    ⟨some 51, .load 1 false (.s 50), some (41, false)⟩,
    ⟨some 52, .bin .neq (.s 46) (.s 51), some (41, false)⟩,
    ⟨some 53, .pick (.s 41) (.c (.lit (.bool true))) (.s 52), none⟩,
    ⟨some 54, .mv (.s 53), none⟩,
    ⟨some 55, .mv (.s 0), some (54, false)⟩,
    ⟨some 56, .mv (.s 5), some (54, false)⟩,
    ⟨some 57, .iad 4 (.s 55) (.s 56), some (54, false)⟩,
    ⟨some 58, .fad 3 (.s 57), some (54, false)⟩,
    ⟨some 59, .load 1 false (.s 58), some (54, false)⟩,
    ⟨some 60, .mv (.s 1), some (54, false)⟩,
    ⟨some 61, .mv (.s 5), some (54, false)⟩,
    ⟨some 62, .iad 4 (.s 60) (.s 61), some (54, false)⟩,
    ⟨some 63, .fad 3 (.s 62), some (54, false)⟩,
    ⟨some 64, .load 1 false (.s 63), some (54, false)⟩,
    ⟨some 65, .call (.c (.fn 34 [])) [.s 59, .s 64], some (54, false)⟩,
    ⟨some 66, .un .not (.s 65), some (54, false)⟩,
    ⟨some 67, .pick (.s 54) (.c (.lit (.bool true))) (.s 66), none⟩]
def dc16_r7 : List DOp := [⟨some 4, .mv (.c (.lit (.bool false))), none⟩]
def dc16_r5 : List DOp := [⟨some 15, .mv (.s 5), none⟩,
    ⟨some 16, .bin .add (.s 15) (.c (.lit (.int .i64 1))), none⟩,
    ⟨some 5, .mv (.s 16), none⟩]
def dc16_r8 : List DOp := [⟨some 4, .mv (.c (.lit (.bool true))), none⟩]
def dc16 : DC :=
 .seq (.reg dc16_r0)
 (.seq (.seq (.reg dc16_r1)
 (.cond (.s 10) (.seq (.reg dc16_r2)
 (.ret))
 (.skip)))
 (.seq (.seq (.reg dc16_r3)
 (.block 0 (.loop (.seq (.seq (.reg dc16_r4)
 (.cond (.s 14) (.skip)
 (.exit 0)))
 (.seq (.block 1 (.seq (.drw dc16_r6)
 (.cond (.s 67) (.seq (.reg dc16_r7)
 (.ret))
 (.skip))))
 (.reg dc16_r5))))))
 (.seq (.reg dc16_r8)
 (.ret))))
theorem dc16_ok : trCode Tryd.prog Tryd.f16.ntmps { rows := [], keep := [], pre := [], own := [], preg := [] } (Tryd.f16.body.getD .skip) = some dc16 := by kernel_rfl
theorem s16 {G : Nat → D} {ds : List D} {H : List O} {Q : D → List O → Prop} (hn : ds.length ≤ Tryd.f16.ntmps) (hv : vc (CallA Tryd.prog G) G dc16 (args0 ds) H (retK [.tmp 4] Q)) : CallA Tryd.prog G 16 ds H Q :=
  CallA.of_vc (by kernel_rfl) Tryd.func16 (by kernel_rfl) (cd := Tryd.f16.body.getD .skip) (by kernel_rfl) hn dc16_ok (by kernel_rfl) hv
def dc41_r0 : List DOp := [⟨some 4, .mv (.c (.lit (.bool false))), none⟩]
def dc41_r1 : List DOp := [⟨some 5, .mv (.s 0), none⟩,
    ⟨some 6, .mv (.s 1), none⟩,
    ⟨none, .frz 5, none⟩,
    ⟨none, .frz 6, none⟩,
    ⟨some 7, .call (.c (.fn 55 [])) [.s 5, .s 6], none⟩,
    ⟨some 8, .bin .geq (.s 7) (.c (.lit (.int .i64 0))), none⟩,
    ⟨some 4, .mv (.s 8), none⟩]
def dc41 : DC :=
 .seq (.reg dc41_r0)
 (.seq (.reg dc41_r1)
 (.ret))
theorem dc41_ok : trCode Tryd.prog Tryd.f41.ntmps { rows := [], keep := [], pre := [], own := [], preg := [] } (Tryd.f41.body.getD .skip) = some dc41 := by kernel_rfl
theorem s41 {G : Nat → D} {ds : List D} {H : List O} {Q : D → List O → Prop} (hn : ds.length ≤ Tryd.f41.ntmps) (hv : vc (CallA Tryd.prog G) G dc41 (args0 ds) H (retK [.tmp 4] Q)) : CallA Tryd.prog G 41 ds H Q :=
  CallA.of_vc (by kernel_rfl) Tryd.func41 (by kernel_rfl) (cd := Tryd.f41.body.getD .skip) (by kernel_rfl) hn dc41_ok (by kernel_rfl) hv
def dc55_r0 : List DOp := [⟨some 4, .mv (.c (.lit (.int .i64 0))), none⟩]
def dc55_r1 : List DOp := [⟨some 6, .mv (.s 0), none⟩,
    ⟨some 7, .lenL (.s 6), none⟩,
    ⟨some 8, .mv (.c (.lit (.int .i64 0))), none⟩]
def dc55_r2 : List DOp := [⟨some 9, .bin .lss (.s 8) (.s 7), none⟩]
def dc55_r3 : List DOp := [⟨some 10, .mv (.s 8), none⟩,
    ⟨some 5, .mv (.s 10), none⟩]
def dc55_r4 : List DOp := [⟨some 11, .mv (.s 1), none⟩,
    ⟨some 12, .mv (.s 0), none⟩,
    ⟨some 13, .mv (.s 5), none⟩,
    ⟨some 14, .iad 1 (.s 12) (.s 13), none⟩,
    ⟨some 15, .load 1 false (.s 14), none⟩,
    ⟨some 16, .bin .eql (.s 11) (.s 15), none⟩]
def dc55_r5 : List DOp := [⟨some 17, .mv (.s 5), none⟩,
    ⟨some 4, .mv (.s 17), none⟩]
def dc55_r6 : List DOp := [⟨some 18, .bin .add (.s 8) (.c (.lit (.int .i64 1))), none⟩,
    ⟨some 8, .mv (.s 18), none⟩]
def dc55_r7 : List DOp := [⟨some 4, .mv (.c (.lit (.int .i64 (-1)))), none⟩]
def dc55 : DC :=
 .seq (.reg dc55_r0)
 (.seq (.seq (.reg dc55_r1)
 (.block 0 (.loop (.seq (.reg dc55_r2)
 (.seq (.cond (.s 9) (.skip)
 (.exit 0))
 (.seq (.block 1 (.seq (.reg dc55_r3)
 (.seq (.reg dc55_r4)
 (.cond (.s 16) (.seq (.reg dc55_r5)
 (.ret))
 (.skip)))))
 (.reg dc55_r6)))))))
 (.seq (.reg dc55_r7)
 (.ret)))
theorem dc55_ok : trCode Tryd.prog Tryd.f55.ntmps { rows := [], keep := [], pre := [], own := [], preg := [] } (Tryd.f55.body.getD .skip) = some dc55 := by kernel_rfl
theorem s55 {G : Nat → D} {ds : List D} {H : List O} {Q : D → List O → Prop} (hn : ds.length ≤ Tryd.f55.ntmps) (hv : vc (CallA Tryd.prog G) G dc55 (args0 ds) H (retK [.tmp 4] Q)) : CallA Tryd.prog G 55 ds H Q :=
  CallA.of_vc (by kernel_rfl) Tryd.func55 (by kernel_rfl) (cd := Tryd.f55.body.getD .skip) (by kernel_rfl) hn dc55_ok (by kernel_rfl) hv
def dc51_r0 : List DOp := [⟨some 4, .mv (.c (.lit (.bool false))), none⟩]
def dc51_r1 : List DOp := [⟨some 5, .mv (.s 0), none⟩,
    ⟨some 6, .mv (.s 1), none⟩,
    ⟨none, .frz 5, none⟩,
    ⟨none, .frz 6, none⟩,
    ⟨some 7, .call (.c (.fn 59 [])) [.s 5, .s 6], none⟩,
    ⟨some 8, .bin .geq (.s 7) (.c (.lit (.int .i64 0))), none⟩,
    ⟨some 4, .mv (.s 8), none⟩]
def dc51 : DC :=
 .seq (.reg dc51_r0)
 (.seq (.reg dc51_r1)
 (.ret))
theorem dc51_ok : trCode Tryd.prog Tryd.f51.ntmps { rows := [], keep := [], pre := [], own := [], preg := [] } (Tryd.f51.body.getD .skip) = some dc51 := by kernel_rfl
theorem s51 {G : Nat → D} {ds : List D} {H : List O} {Q : D → List O → Prop} (hn : ds.length ≤ Tryd.f51.ntmps) (hv : vc (CallA Tryd.prog G) G dc51 (args0 ds) H (retK [.tmp 4] Q)) : CallA Tryd.prog G 51 ds H Q :=
  CallA.of_vc (by kernel_rfl) Tryd.func51 (by kernel_rfl) (cd := Tryd.f51.body.getD .skip) (by kernel_rfl) hn dc51_ok (by kernel_rfl) hv
def dc59_r0 : List DOp := [⟨some 4, .mv (.c (.lit (.int .i64 0))), none⟩]
def dc59_r1 : List DOp := [⟨some 6, .mv (.s 0), none⟩,
    ⟨some 7, .lenL (.s 6), none⟩,
    ⟨some 8, .mv (.c (.lit (.int .i64 0))), none⟩]
def dc59_r2 : List DOp := [⟨some 9, .bin .lss (.s 8) (.s 7), none⟩]
def dc59_r3 : List DOp := [⟨some 10, .mv (.s 8), none⟩,
    ⟨some 5, .mv (.s 10), none⟩]
def dc59_r4 : List DOp := [⟨some 11, .mv (.s 1), none⟩,
    ⟨some 12, .mv (.s 0), none⟩,
    ⟨some 13, .mv (.s 5), none⟩,
    ⟨some 14, .iad 1 (.s 12) (.s 13), none⟩,
    ⟨some 15, .load 1 false (.s 14), none⟩,
    ⟨some 16, .bin .eql (.s 11) (.s 15), none⟩]
def dc59_r5 : List DOp := [⟨some 17, .mv (.s 5), none⟩,
    ⟨some 4, .mv (.s 17), none⟩]
def dc59_r6 : List DOp := [⟨some 18, .bin .add (.s 8) (.c (.lit (.int .i64 1))), none⟩,
    ⟨some 8, .mv (.s 18), none⟩]
def dc59_r7 : List DOp := [⟨some 4, .mv (.c (.lit (.int .i64 (-1)))), none⟩]
def dc59 : DC :=
 .seq (.reg dc59_r0)
 (.seq (.seq (.reg dc59_r1)
 (.block 0 (.loop (.seq (.reg dc59_r2)
 (.seq (.cond (.s 9) (.skip)
 (.exit 0))
 (.seq (.block 1 (.seq (.reg dc59_r3)
 (.seq (.reg dc59_r4)
 (.cond (.s 16) (.seq (.reg dc59_r5)
 (.ret))
 (.skip)))))
 (.reg dc59_r6)))))))
 (.seq (.reg dc59_r7)
 (.ret)))
theorem dc59_ok : trCode Tryd.prog Tryd.f59.ntmps { rows := [], keep := [], pre := [], own := [], preg := [] } (Tryd.f59.body.getD .skip) = some dc59 := by kernel_rfl
theorem s59 {G : Nat → D} {ds : List D} {H : List O} {Q : D → List O → Prop} (hn : ds.length ≤ Tryd.f59.ntmps) (hv : vc (CallA Tryd.prog G) G dc59 (args0 ds) H (retK [.tmp 4] Q)) : CallA Tryd.prog G 59 ds H Q :=
  CallA.of_vc (by kernel_rfl) Tryd.func59 (by kernel_rfl) (cd := Tryd.f59.body.getD .skip) (by kernel_rfl) hn dc59_ok (by kernel_rfl) hv
def dc22_r0 : List DOp := [⟨some 6, .mv (.c (.lit (.bool false))), none⟩]
def dc22_r1 : List DOp := [⟨some 14, .mkmap, none⟩,
    ⟨some 7, .mv (.s 14), none⟩]
def dc22_r2 : List DOp := [⟨some 15, .mv (.s 2), none⟩,
    ⟨some 16, .lenL (.s 15), none⟩,
    ⟨some 17, .mv (.c (.lit (.int .i64 0))), none⟩]
def dc22_r3 : List DOp := [⟨some 18, .bin .lss (.s 17) (.s 16), none⟩]
def dc22_r4 : List DOp := [⟨some 19, .iad 1 (.s 15) (.s 17), none⟩,
    ⟨some 20, .load 1 false (.s 19), none⟩,
    ⟨some 9, .mv (.s 20), none⟩]
def dc22_r5 : List DOp := [⟨some 21, .mv (.s 9), none⟩,
    ⟨some 22, .mv (.s 1), none⟩,
    ⟨some 23, .bin .neq (.s 21) (.s 22), none⟩]
def dc22_r6 : List DOp := [⟨some 24, .mv (.s 7), none⟩,
    ⟨some 25, .mv (.s 9), none⟩,
    ⟨none, .mput (.int .i64) (.s 24) (.s 25) (.c (.lit (.bool true))), none⟩]
def dc22_r7 : List DOp := [⟨some 26, .bin .add (.s 17) (.c (.lit (.int .i64 1))), none⟩,
    ⟨some 17, .mv (.s 26), none⟩]
def dc22_r8 : List DOp := [⟨some 27, .mv (.s 0), none⟩,
    ⟨some 28, .lenL (.s 27), none⟩,
    ⟨some 29, .mv (.c (.lit (.int .i64 0))), none⟩]
def dc22_r9 : List DOp := [⟨some 30, .bin .lss (.s 29) (.s 28), none⟩]
def dc22_r10 : List DOp := [⟨some 31, .iad 4 (.s 27) (.s 29), none⟩,
    ⟨some 32, .load 4 true (.s 31), none⟩,
    ⟨some 11, .alloc 42 [.lit (.string ⟨#[]⟩), .lit (.string ⟨#[]⟩), .lit (.int .i64 0), .lit (.slice none 0 0)], none⟩,
    ⟨none, .store 4 (.s 11) (.s 32), none⟩]
def dc22_r11 : List DOp := [⟨some 12, .mv (.c (.lit (.int .i64 0))), none⟩]
def dc22_r12 : List DOp := [⟨some 33, .mv (.s 7), none⟩,
    ⟨some 34, .rng (.s 33), none⟩]
def dc22_r13 : List DOp := [⟨some 35, .nxt (.s 34), none⟩,
    ⟨some 36, .ext (.s 35) 0, none⟩]
def dc22_r14 : List DOp := [⟨some 37, .ent (.s 34), none⟩,
    ⟨some 38, .ext (.s 37) 0, none⟩,
    ⟨some 13, .mv (.s 38), none⟩]
def dc22_r15 : List DOp := [⟨some 39, .fad 3 (.s 11), none⟩,
    ⟨some 40, .load 1 false (.s 39), none⟩,
    ⟨some 41, .mv (.s 13), none⟩,
    ⟨none, .frz 40, none⟩,
    ⟨none, .frz 41, none⟩,
    ⟨some 42, .call (.c (.fn 41 [])) [.s 40, .s 41], none⟩]
def dc22_r16 : List DOp := [⟨some 43, .mv (.s 12), none⟩,
    ⟨some 44, .bin .add (.s 43) (.c (.lit (.int .i64 1))), none⟩,
    ⟨some 12, .mv (.s 44), none⟩]
def dc22_r17 : List DOp := [⟨some 45, .mv (.s 12), none⟩,
    ⟨some 46, .fad 2 (.s 11), none⟩,
    ⟨some 47, .load 1 false (.s 46), none⟩,
    ⟨some 48, .bin .lss (.s 45) (.s 47), none⟩]
def dc22_r18 : List DOp := [⟨some 6, .mv (.c (.lit (.bool false))), none⟩]
def dc22_r19 : List DOp := [⟨some 49, .bin .add (.s 29) (.c (.lit (.int .i64 1))), none⟩,
    ⟨some 29, .mv (.s 49), none⟩]
def dc22_r20 : List DOp := [⟨some 6, .mv (.c (.lit (.bool true))), none⟩]
def dc22 : DC :=
 .seq (.reg dc22_r0)
 (.seq (.reg dc22_r1)
 (.seq (.seq (.reg dc22_r2)
 (.block 0 (.loop (.seq (.reg dc22_r3)
 (.seq (.cond (.s 18) (.skip)
 (.exit 0))
 (.seq (.block 1 (.seq (.reg dc22_r4)
 (.seq (.reg dc22_r5)
 (.cond (.s 23) (.reg dc22_r6)
 (.skip)))))
 (.reg dc22_r7)))))))
 (.seq (.seq (.reg dc22_r8)
 (.block 2 (.loop (.seq (.reg dc22_r9)
 (.seq (.cond (.s 30) (.skip)
 (.exit 2))
 (.seq (.block 3 (.seq (.reg dc22_r10)
 (.seq (.reg dc22_r11)
 (.seq (.seq (.reg dc22_r12)
 (.block 4 (.loop (.seq (.reg dc22_r13)
 (.seq (.cond (.s 36) (.skip)
 (.exit 4))
 (.block 5 (.seq (.reg dc22_r14)
 (.seq (.reg dc22_r15)
 (.cond (.s 42) (.reg dc22_r16)
 (.skip))))))))))
 (.seq (.reg dc22_r17)
 (.cond (.s 48) (.seq (.reg dc22_r18)
 (.ret))
 (.skip)))))))
 (.reg dc22_r19)))))))
 (.seq (.reg dc22_r20)
 (.ret)))))
theorem dc22_ok : trCode Tryd.prog Tryd.f22.ntmps { rows := [], keep := [], pre := [], own := [], preg := [] } (Tryd.f22.body.getD .skip) = some dc22 := by kernel_rfl
theorem s22 {G : Nat → D} {ds : List D} {H : List O} {Q : D → List O → Prop} (hn : ds.length ≤ Tryd.f22.ntmps) (hv : vc (CallA Tryd.prog G) G dc22 (args0 ds) H (retK [.tmp 6] Q)) : CallA Tryd.prog G 22 ds H Q :=
  CallA.of_vc (by kernel_rfl) Tryd.func22 (by kernel_rfl) (cd := Tryd.f22.body.getD .skip) (by kernel_rfl) hn dc22_ok (by kernel_rfl) hv
def dc27_r0 : List DOp := [⟨some 0, .mv (.c (.lit (.slice none 0 0))), none⟩]
def dc27_r1 : List DOp := [⟨some 1, .bsl false 9 1 [.c (.lit (.string ⟨#[110, 97, 109, 101]⟩)), .c (.lit (.string ⟨#[109, 111, 118, 101]⟩)), .c (.lit (.string ⟨#[116, 121, 112, 101]⟩)), .c (.lit (.string ⟨#[98, 111, 100, 121]⟩)), .c (.lit (.string ⟨#[108, 97, 121, 111, 117, 116]⟩)), .c (.lit (.string ⟨#[109, 97, 107, 101]⟩)), .c (.lit (.string ⟨#[97, 110, 121]⟩))], none⟩,
    ⟨some 0, .mv (.s 1), none⟩]
def dc27 : DC :=
 .seq (.reg dc27_r0)
 (.seq (.reg dc27_r1)
 (.ret))
theorem dc27_ok : trCode Tryd.prog Tryd.f27.ntmps { rows := [], keep := [], pre := [], own := [], preg := [] } (Tryd.f27.body.getD .skip) = some dc27 := by kernel_rfl
theorem s27 {G : Nat → D} {ds : List D} {H : List O} {Q : D → List O → Prop} (hn : ds.length ≤ Tryd.f27.ntmps) (hv : vc (CallA Tryd.prog G) G dc27 (args0 ds) H (retK [.tmp 0] Q)) : CallA Tryd.prog G 27 ds H Q :=
  CallA.of_vc (by kernel_rfl) Tryd.func27 (by kernel_rfl) (cd := Tryd.f27.body.getD .skip) (by kernel_rfl) hn dc27_ok (by kernel_rfl) hv
def dc36_r0 : List DOp := [⟨some 2, .mv (.c (.lit (.bool false))), none⟩]
def dc36_r1 : List DOp := [⟨some 3, .mv (.s 0), none⟩,
    ⟨some 4, .bin .eql (.s 3) (.c (.lit (.string ⟨#[97, 110, 121]⟩))), none⟩,
    ⟨some 5, .mv (.s 4), none⟩,
    ⟨some 6, .mv (.s 0), some (5, false)⟩,
    ⟨some 7, .bin .neq (.s 6) (.c (.lit (.string ⟨#[]⟩))), some (5, false)⟩,
    ⟨some 8, .mv (.s 7), some (5, false)⟩,
    ⟨some 9, .slcA 14 (.g 0), some (8, true)⟩,
    ⟨some 10, .mv (.s 0), some (8, true)⟩,
    ⟨none, .frz 9, none⟩,
    ⟨none, .frz 10, none⟩,
    ⟨some 11, .call (.c (.fn 51 [])) [.s 9, .s 10], some (8, true)⟩,
    ⟨some 12, .pick (.s 8) (.s 11) (.c (.lit (.bool false))), some (5, false)⟩,
    ⟨some 13, .pick (.s 5) (.c (.lit (.bool true))) (.s 12), none⟩,
    ⟨some 2, .mv (.s 13), none⟩]
def dc36 : DC :=
 .seq (.reg dc36_r0)
 (.seq (.reg dc36_r1)
 (.ret))
theorem dc36_ok : trCode Tryd.prog Tryd.f36.ntmps { rows := [], keep := [], pre := [], own := [], preg := [] } (Tryd.f36.body.getD .skip) = some dc36 := by kernel_rfl
theorem s36 {G : Nat → D} {ds : List D} {H : List O} {Q : D → List O → Prop} (hn : ds.length ≤ Tryd.f36.ntmps) (hv : vc (CallA Tryd.prog G) G dc36 (args0 ds) H (retK [.tmp 2] Q)) : CallA Tryd.prog G 36 ds H Q :=
  CallA.of_vc (by kernel_rfl) Tryd.func36 (by kernel_rfl) (cd := Tryd.f36.body.getD .skip) (by kernel_rfl) hn dc36_ok (by kernel_rfl) hv
def dc35_r0 : List DOp := [⟨some 1, .box 76 (.s 0), none⟩,
    ⟨some 2, .mv (.c (.lit (.string ⟨#[]⟩))), none⟩]
def dc35_r1 : List DOp := [⟨some 3, .fad 0 (.s 1), none⟩,
    ⟨some 4, .load 1 false (.s 3), none⟩,
    ⟨some 5, .bin .lss (.s 4) (.c (.lit (.int .i64 0))), none⟩,
    ⟨some 6, .mv (.s 5), none⟩,
    ⟨some 7, .fad 0 (.s 1), some (6, false)⟩,
    ⟨some 8, .load 1 false (.s 7), some (6, false)⟩,
    ⟨some 9, .bin .geq (.s 8) (.c (.lit (.int .i64 14))), some (6, false)⟩,
    ⟨some 10, .pick (.s 6) (.c (.lit (.bool true))) (.s 9), none⟩]
def dc35_r2 : List DOp := [⟨some 2, .mv (.c (.lit (.string ⟨#[]⟩))), none⟩]
def dc35_r3 : List DOp := [⟨some 11, .fad 0 (.s 1), none⟩,
    ⟨some 12, .load 1 false (.s 11), none⟩,
    ⟨some 13, .iaa 1 14 (.g 0) (.s 12), none⟩,
    ⟨some 14, .load 1 false (.s 13), none⟩,
    ⟨some 2, .mv (.s 14), none⟩]
def dc35 : DC :=
 .seq (.reg dc35_r0)
 (.seq (.seq (.reg dc35_r1)
 (.cond (.s 10) (.seq (.reg dc35_r2)
 (.ret))
 (.skip)))
 (.seq (.reg dc35_r3)
 (.ret)))
theorem dc35_ok : trCode Tryd.prog Tryd.f35.ntmps { rows := [], keep := [], pre := [], own := [], preg := [] } (Tryd.f35.body.getD .skip) = some dc35 := by kernel_rfl
theorem s35 {G : Nat → D} {ds : List D} {H : List O} {Q : D → List O → Prop} (hn : ds.length ≤ Tryd.f35.ntmps) (hv : vc (CallA Tryd.prog G) G dc35 (args0 ds) H (retK [.tmp 2] Q)) : CallA Tryd.prog G 35 ds H Q :=
  CallA.of_vc (by kernel_rfl) Tryd.func35 (by kernel_rfl) (cd := Tryd.f35.body.getD .skip) (by kernel_rfl) hn dc35_ok (by kernel_rfl) hv
def dc52_r0 : List DOp := [⟨some 2, .mv (.c (.lit (.bool false))), none⟩]
def dc52_r1 : List DOp := [⟨some 3, .mv (.s 0), none⟩,
    ⟨some 4, .bin .geq (.s 3) (.c (.lit (.int .u8 97))), none⟩,
    ⟨some 5, .mv (.s 4), none⟩,
    ⟨some 6, .mv (.s 0), some (5, true)⟩,
    ⟨some 7, .bin .leq (.s 6) (.c (.lit (.int .u8 122))), some (5, true)⟩,
    ⟨some 8, .pick (.s 5) (.s 7) (.c (.lit (.bool false))), none⟩,
    ⟨some 9, .mv (.s 8), none⟩,
    ⟨some 10, .mv (.s 0), some (9, false)⟩,
    ⟨some 11, .bin .geq (.s 10) (.c (.lit (.int .u8 65))), some (9, false)⟩,
    ⟨some 12, .mv (.s 11), some (9, false)⟩,
    ⟨some 13, .mv (.s 0), some (12, true)⟩,
    ⟨some 14, .bin .leq (.s 13) (.c (.lit (.int .u8 90))), some (12, true)⟩,
    ⟨some 15, .pick (.s 12) (.s 14) (.c (.lit (.bool false))), some (9, false)⟩,
    ⟨some 16, .pick (.s 9) (.c (.lit (.bool true))) (.s 15), none⟩,
    ⟨some 2, .mv (.s 16), none⟩]
def dc52 : DC :=
 .seq (.reg dc52_r0)
 (.seq (.reg dc52_r1)
 (.ret))
theorem dc52_ok : trCode Tryd.prog Tryd.f52.ntmps { rows := [], keep := [], pre := [], own := [], preg := [] } (Tryd.f52.body.getD .skip) = some dc52 := by kernel_rfl
theorem s52 {G : Nat → D} {ds : List D} {H : List O} {Q : D → List O → Prop} (hn : ds.length ≤ Tryd.f52.ntmps) (hv : vc (CallA Tryd.prog G) G dc52 (args0 ds) H (retK [.tmp 2] Q)) : CallA Tryd.prog G 52 ds H Q :=
  CallA.of_vc (by kernel_rfl) Tryd.func52 (by kernel_rfl) (cd := Tryd.f52.body.getD .skip) (by kernel_rfl) hn dc52_ok (by kernel_rfl) hv
def dc108_r0 : List DOp := [⟨some 2, .mv (.c (.lit (.bool false))), none⟩]
def dc108_r1 : List DOp := [⟨some 3, .mv (.s 0), none⟩,
    ⟨none, .frz 3, none⟩,
    ⟨some 4, .call (.c (.fn 52 [])) [.s 3], none⟩,
    ⟨some 5, .mv (.s 4), none⟩,
    ⟨some 6, .mv (.s 0), some (5, false)⟩,
    ⟨none, .frz 6, none⟩,
    ⟨some 7, .call (.c (.fn 109 [])) [.s 6], some (5, false)⟩,
    ⟨some 8, .pick (.s 5) (.c (.lit (.bool true))) (.s 7), none⟩,
    ⟨some 2, .mv (.s 8), none⟩]
def dc108 : DC :=
 .seq (.reg dc108_r0)
 (.seq (.reg dc108_r1)
 (.ret))
theorem dc108_ok : trCode Tryd.prog Tryd.f108.ntmps { rows := [], keep := [], pre := [], own := [], preg := [] } (Tryd.f108.body.getD .skip) = some dc108 := by kernel_rfl
theorem s108 {G : Nat → D} {ds : List D} {H : List O} {Q : D → List O → Prop} (hn : ds.length ≤ Tryd.f108.ntmps) (hv : vc (CallA Tryd.prog G) G dc108 (args0 ds) H (retK [.tmp 2] Q)) : CallA Tryd.prog G 108 ds H Q :=
  CallA.of_vc (by kernel_rfl) Tryd.func108 (by kernel_rfl) (cd := Tryd.f108.body.getD .skip) (by kernel_rfl) hn dc108_ok (by kernel_rfl) hv
def dc109_r0 : List DOp := [⟨some 2, .mv (.c (.lit (.bool false))), none⟩]
def dc109_r1 : List DOp := [⟨some 3, .mv (.s 0), none⟩,
    ⟨some 4, .bin .geq (.s 3) (.c (.lit (.int .u8 48))), none⟩,
    ⟨some 5, .mv (.s 4), none⟩,
    ⟨some 6, .mv (.s 0), some (5, true)⟩,
    ⟨some 7, .bin .leq (.s 6) (.c (.lit (.int .u8 57))), some (5, true)⟩,
    ⟨some 8, .pick (.s 5) (.s 7) (.c (.lit (.bool false))), none⟩,
    ⟨some 2, .mv (.s 8), none⟩]
def dc109 : DC :=
 .seq (.reg dc109_r0)
 (.seq (.reg dc109_r1)
 (.ret))
theorem dc109_ok : trCode Tryd.prog Tryd.f109.ntmps { rows := [], keep := [], pre := [], own := [], preg := [] } (Tryd.f109.body.getD .skip) = some dc109 := by kernel_rfl
theorem s109 {G : Nat → D} {ds : List D} {H : List O} {Q : D → List O → Prop} (hn : ds.length ≤ Tryd.f109.ntmps) (hv : vc (CallA Tryd.prog G) G dc109 (args0 ds) H (retK [.tmp 2] Q)) : CallA Tryd.prog G 109 ds H Q :=
  CallA.of_vc (by kernel_rfl) Tryd.func109 (by kernel_rfl) (cd := Tryd.f109.body.getD .skip) (by kernel_rfl) hn dc109_ok (by kernel_rfl) hv
def dc44_r0 : List DOp := [⟨some 2, .mv (.c (.lit (.int .i64 0))), none⟩]
def dc44_r1 : List DOp := [⟨some 8, .load 4 true (.g 2), none⟩,
    ⟨some 9, .mv (.c (.lit (.int .i64 0))), none⟩]
def dc44_r2 : List DOp := [⟨some 10, .bin .lss (.s 9) (.c (.lit (.int .i64 2))), none⟩]
def dc44_r3 : List DOp := [⟨some 11, .idxA 2 2 true (.s 8) (.s 9), none⟩,
    ⟨some 4, .alloc 96 [.lit .nilFunc, .lit .nilFunc], none⟩,
    ⟨none, .store 2 (.s 4) (.s 11), none⟩]
def dc44_r4 : List DOp := [⟨some 12, .iaa 1 2 (.s 4) (.c (.lit (.int .i64 0))), none⟩,
    ⟨some 13, .load 1 false (.s 12), none⟩,
    ⟨some 14, .mv (.s 0), none⟩,
    ⟨some 15, .idxS (.s 14) (.c (.lit (.int .i64 0))), none⟩,
    ⟨some 16, .call (.s 13) [.s 15], none⟩,
    ⟨some 17, .un .not (.s 16), none⟩]
def dc44_r5 : List DOp := [⟨some 5, .mv (.c (.lit (.int .i64 1))), none⟩]
def dc44_r6 : List DOp := [⟨some 18, .mv (.s 5), none⟩,
    ⟨some 19, .mv (.s 0), none⟩,
    ⟨some 20, .lenS (.s 19), none⟩,
    ⟨some 21, .bin .lss (.s 18) (.s 20), none⟩,
    ⟨some 22, .mv (.s 21), none⟩,
    ⟨some 23, .iaa 1 2 (.s 4) (.c (.lit (.int .i64 1))), some (22, true)⟩,
    ⟨some 24, .load 1 false (.s 23), some (22, true)⟩,
    ⟨some 25, .mv (.s 0), some (22, true)⟩,
    ⟨some 26, .mv (.s 5), some (22, true)⟩,
    ⟨some 27, .idxS (.s 25) (.s 26), some (22, true)⟩,
    ⟨some 28, .call (.s 24) [.s 27], some (22, true)⟩,
    ⟨some 29, .pick (.s 22) (.s 28) (.c (.lit (.bool false))), none⟩]
def dc44_r7 : List DOp := [⟨some 30, .mv (.s 5), none⟩,
    ⟨some 31, .bin .add (.s 30) (.c (.lit (.int .i64 1))), none⟩,
    ⟨some 5, .mv (.s 31), none⟩]
def dc44_r8 : List DOp := [⟨some 32, .mv (.s 5), none⟩,
    ⟨some 33, .bin .gtr (.s 32) (.c (.lit (.int .i64 16))), none⟩]
def dc44_r9 : List DOp := [⟨some 2, .mv (.c (.lit (.int .i64 0))), none⟩]
def dc44_r10 : List DOp := [⟨some 34, .mv (.s 5), none⟩,
    ⟨some 2, .mv (.s 34), none⟩]
def dc44_r11 : List DOp := [⟨some 35, .bin .add (.s 9) (.c (.lit (.int .i64 1))), none⟩,
    ⟨some 9, .mv (.s 35), none⟩]
def dc44_r12 : List DOp := [⟨some 36, .load 18 true (.g 3), none⟩,
    ⟨some 37, .mv (.c (.lit (.int .i64 0))), none⟩]
def dc44_r13 : List DOp := [⟨some 38, .bin .lss (.s 37) (.c (.lit (.int .i64 18))), none⟩]
def dc44_r14 : List DOp := [⟨some 39, .idxA 1 18 false (.s 36) (.s 37), none⟩,
    ⟨some 7, .mv (.s 39), none⟩]
def dc44_r15 : List DOp := [⟨some 40, .mv (.s 0), none⟩,
    ⟨some 41, .mv (.s 7), none⟩,
    ⟨none, .frz 40, none⟩,
    ⟨none, .frz 41, none⟩,
    ⟨some 42, .call (.c (.fn 57 [])) [.s 40, .s 41], none⟩]
def dc44_r16 : List DOp := [⟨some 43, .mv (.s 7), none⟩,
    ⟨some 44, .lenS (.s 43), none⟩,
    ⟨some 2, .mv (.s 44), none⟩]
def dc44_r17 : List DOp := [⟨some 45, .bin .add (.s 37) (.c (.lit (.int .i64 1))), none⟩,
    ⟨some 37, .mv (.s 45), none⟩]
def dc44_r18 : List DOp := [⟨some 2, .mv (.c (.lit (.int .i64 0))), none⟩]
def dc44 : DC :=
 .seq (.reg dc44_r0)
 (.seq (.seq (.reg dc44_r1)
 (.block 0 (.loop (.seq (.reg dc44_r2)
 (.seq (.cond (.s 10) (.skip)
 (.exit 0))
 (.seq (.block 1 (.seq (.reg dc44_r3)
 (.seq (.seq (.drw dc44_r4)
 (.cond (.s 17) (.exit 1)
 (.skip)))
 (.seq (.reg dc44_r5)
 (.seq (.block 2 (.loop (.seq (.seq (.drw dc44_r6)
 (.cond (.s 29) (.skip)
 (.exit 2)))
 (.block 3 (.reg dc44_r7)))))
 (.seq (.seq (.reg dc44_r8)
 (.cond (.s 33) (.seq (.reg dc44_r9)
 (.ret))
 (.skip)))
 (.seq (.reg dc44_r10)
 (.ret))))))))
 (.reg dc44_r11)))))))
 (.seq (.seq (.reg dc44_r12)
 (.block 4 (.loop (.seq (.reg dc44_r13)
 (.seq (.cond (.s 38) (.skip)
 (.exit 4))
 (.seq (.block 5 (.seq (.reg dc44_r14)
 (.seq (.reg dc44_r15)
 (.cond (.s 42) (.seq (.reg dc44_r16)
 (.ret))
 (.skip)))))
 (.reg dc44_r17)))))))
 (.seq (.reg dc44_r18)
 (.ret))))
theorem dc44_ok : trCode Tryd.prog Tryd.f44.ntmps { rows := [], keep := [], pre := [], own := [], preg := [] } (Tryd.f44.body.getD .skip) = some dc44 := by kernel_rfl
theorem s44 {G : Nat → D} {ds : List D} {H : List O} {Q : D → List O → Prop} (hn : ds.length ≤ Tryd.f44.ntmps) (hv : vc (CallA Tryd.prog G) G dc44 (args0 ds) H (retK [.tmp 2] Q)) : CallA Tryd.prog G 44 ds H Q :=
  CallA.of_vc (by kernel_rfl) Tryd.func44 (by kernel_rfl) (cd := Tryd.f44.body.getD .skip) (by kernel_rfl) hn dc44_ok (by kernel_rfl) hv
def dc43_r0 : List DOp := [⟨some 2, .mv (.c (.lit (.int .i64 0))), none⟩]
def dc43_r1 : List DOp := [⟨some 3, .mv (.c (.lit (.int .i64 0))), none⟩]
def dc43_r2 : List DOp := [⟨some 5, .mv (.s 3), none⟩,
    ⟨some 6, .mv (.s 0), none⟩,
    ⟨some 7, .lenS (.s 6), none⟩,
    ⟨some 8, .bin .lss (.s 5) (.s 7), none⟩]
def dc43_r3 : List DOp := [⟨some 9, .mv (.s 0), none⟩,
    ⟨some 10, .mv (.s 3), none⟩,
    ⟨some 11, .idxS (.s 9) (.s 10), none⟩]
def dc43_r5 : List DOp := [⟨some 14, .bin .eql (.s 11) (.c (.lit (.int .u8 32))), none⟩,
    ⟨some 13, .mv (.s 14), none⟩]
def dc43_r6 : List DOp := [⟨some 15, .bin .eql (.s 11) (.c (.lit (.int .u8 10))), none⟩,
    ⟨some 13, .mv (.s 15), none⟩]
def dc43_r7 : List DOp := [⟨some 16, .mv (.s 3), none⟩,
    ⟨some 17, .bin .add (.s 16) (.c (.lit (.int .i64 1))), none⟩,
    ⟨some 3, .mv (.s 17), none⟩]
def dc43_r8 : List DOp := [⟨some 19, .bin .eql (.s 11) (.c (.lit (.int .u8 35))), none⟩,
    ⟨some 18, .mv (.s 19), none⟩]
def dc43_r9 : List DOp := [⟨some 20, .mv (.s 0), none⟩,
    ⟨some 21, .mv (.s 3), none⟩,
    ⟨none, .frz 20, none⟩,
    ⟨some 22, .slcS (.s 20) (some (.s 21)) none, none⟩,
    ⟨none, .frz 22, none⟩,
    ⟨some 23, .call (.c (.fn 56 [])) [.s 22, .c (.lit (.int .u8 10))], none⟩,
    ⟨some 4, .mv (.s 23), none⟩]
def dc43_r10 : List DOp := [⟨some 24, .mv (.s 4), none⟩,
    ⟨some 25, .bin .lss (.s 24) (.c (.lit (.int .i64 0))), none⟩]
def dc43_r11 : List DOp := [⟨some 26, .mv (.s 0), none⟩,
    ⟨some 27, .lenS (.s 26), none⟩,
    ⟨some 2, .mv (.s 27), none⟩]
def dc43_r12 : List DOp := [⟨some 28, .mv (.s 3), none⟩,
    ⟨some 29, .mv (.s 4), none⟩,
    ⟨some 30, .bin .add (.s 28) (.s 29), none⟩,
    ⟨some 3, .mv (.s 30), none⟩]
def dc43_r4 : List DOp := [⟨some 12, .mv (.s 3), none⟩,
    ⟨some 2, .mv (.s 12), none⟩]
def dc43_r13 : List DOp := [⟨some 31, .mv (.s 3), none⟩,
    ⟨some 2, .mv (.s 31), none⟩]
def dc43 : DC :=
 .seq (.reg dc43_r0)
 (.seq (.reg dc43_r1)
 (.seq (.block 0 (.loop (.seq (.seq (.reg dc43_r2)
 (.cond (.s 8) (.skip)
 (.exit 0)))
 (.block 1 (.seq (.reg dc43_r3)
 (.block 2 (.seq (.seq (.reg dc43_r5)
 (.cond (.s 13) (.skip)
 (.reg dc43_r6)))
 (.cond (.s 13) (.reg dc43_r7)
 (.seq (.reg dc43_r8)
 (.cond (.s 18) (.seq (.reg dc43_r9)
 (.seq (.seq (.reg dc43_r10)
 (.cond (.s 25) (.seq (.reg dc43_r11)
 (.ret))
 (.skip)))
 (.reg dc43_r12)))
 (.seq (.reg dc43_r4)
 (.ret))))))))))))
 (.seq (.reg dc43_r13)
 (.ret))))
theorem dc43_ok : trCode Tryd.prog Tryd.f43.ntmps { rows := [], keep := [], pre := [], own := [], preg := [] } (Tryd.f43.body.getD .skip) = some dc43 := by kernel_rfl
theorem s43 {G : Nat → D} {ds : List D} {H : List O} {Q : D → List O → Prop} (hn : ds.length ≤ Tryd.f43.ntmps) (hv : vc (CallA Tryd.prog G) G dc43 (args0 ds) H (retK [.tmp 2] Q)) : CallA Tryd.prog G 43 ds H Q :=
  CallA.of_vc (by kernel_rfl) Tryd.func43 (by kernel_rfl) (cd := Tryd.f43.body.getD .skip) (by kernel_rfl) hn dc43_ok (by kernel_rfl) hv
def dc24_r0 : List DOp := [⟨some 2, .mv (.c (.lit (.slice none 0 0))), none⟩,
    ⟨some 3, .mv (.c (.lit (.string ⟨#[]⟩))), none⟩,
    ⟨some 4, .mv (.c (.lit (.int .i64 0))), none⟩]
def dc24_r1 : List DOp := [⟨some 10, .mv (.s 0), none⟩,
    ⟨some 11, .lenS (.s 10), none⟩,
    ⟨some 12, .bin .gtr (.s 11) (.c (.lit (.int .i64 8192))), none⟩]
def dc24_r2 : List DOp := [⟨some 2, .mv (.c (.lit (.slice none 0 0))), none⟩,
    ⟨some 3, .mv (.c (.lit (.string ⟨#[]⟩))), none⟩,
    ⟨some 4, .mv (.c (.lit (.int .i64 8192))), none⟩]
def dc24_r3 : List DOp := [⟨some 5, .mv (.c (.lit (.slice none 0 0))), none⟩]
def dc24_r4 : List DOp := [⟨some 6, .mv (.c (.lit (.int .i64 0))), none⟩]
def dc24_r5 : List DOp := [⟨some 13, .mv (.s 0), none⟩,
    ⟨some 14, .mv (.s 6), none⟩,
    ⟨none, .frz 13, none⟩,
    ⟨some 15, .slcS (.s 13) (some (.s 14)) none, none⟩,
    ⟨none, .frz 15, none⟩,
    ⟨some 16, .call (.c (.fn 43 [])) [.s 15], none⟩,
    ⟨some 7, .mv (.s 16), none⟩]
def dc24_r6 : List DOp := [⟨some 17, .mv (.s 0), none⟩,
    ⟨some 18, .mv (.s 6), none⟩,
    ⟨some 19, .mv (.s 6), none⟩,
    ⟨some 20, .mv (.s 7), none⟩,
    ⟨some 21, .bin .add (.s 19) (.s 20), none⟩,
    ⟨none, .frz 17, none⟩,
    ⟨some 22, .slcS (.s 17) (some (.s 18)) (some (.s 21)), none⟩,
    ⟨some 8, .mv (.s 22), none⟩]
def dc24_r7 : List DOp := [⟨some 23, .mv (.s 6), none⟩,
    ⟨some 24, .mv (.s 7), none⟩,
    ⟨some 25, .bin .add (.s 23) (.s 24), none⟩,
    ⟨some 6, .mv (.s 25), none⟩]
def dc24_r8 : List DOp := [⟨some 26, .mv (.s 6), none⟩,
    ⟨some 27, .mv (.s 0), none⟩,
    ⟨some 28, .lenS (.s 27), none⟩,
    ⟨some 29, .bin .eql (.s 26) (.s 28), none⟩]
def dc24_r9 : List DOp := [⟨some 30, .mv (.s 5), none⟩,
    ⟨some 31, .mv (.s 8), none⟩,
    ⟨some 2, .mv (.s 30), none⟩,
    ⟨some 3, .mv (.s 31), none⟩,
    ⟨some 4, .mv (.c (.lit (.int .i64 (-1)))), none⟩]
def dc24_r10 : List DOp := [⟨some 32, .mv (.s 0), none⟩,
    ⟨some 33, .mv (.s 6), none⟩,
    ⟨none, .frz 32, none⟩,
    ⟨some 34, .slcS (.s 32) (some (.s 33)) none, none⟩,
    ⟨none, .frz 34, none⟩,
    ⟨some 35, .call (.c (.fn 44 [])) [.s 34], none⟩,
    ⟨some 9, .mv (.s 35), none⟩]
def dc24_r11 : List DOp := [⟨some 36, .mv (.s 9), none⟩,
    ⟨some 37, .bin .gtr (.s 36) (.c (.lit (.int .i64 0))), none⟩]
def dc24_r12 : List DOp := [⟨some 38, .mv (.s 5), none⟩,
    ⟨some 39, .mv (.s 0), none⟩,
    ⟨some 40, .mv (.s 6), none⟩,
    ⟨some 41, .mv (.s 6), none⟩,
    ⟨some 42, .mv (.s 9), none⟩,
    ⟨some 43, .bin .add (.s 41) (.s 42), none⟩,
    ⟨none, .frz 39, none⟩,
    ⟨some 44, .slcS (.s 39) (some (.s 40)) (some (.s 43)), none⟩,
    ⟨some 45, .mv (.s 8), none⟩,
    ⟨none, .frz 44, none⟩,
    ⟨none, .frz 45, none⟩,
    ⟨some 46, .bld [.lit (.string ⟨#[]⟩), .lit (.string ⟨#[]⟩)] [(0, 1, .s 44), (1, 1, .s 45)], none⟩,
    ⟨none, .frz 46, none⟩,
    ⟨some 47, .bsl false 52 2 [.s 46], none⟩,
    ⟨none, .frz 47, none⟩,
    ⟨some 48, .app 52 2 32 (.s 38) (.s 47), none⟩,
    ⟨some 5, .mv (.s 48), none⟩]
def dc24_r13 : List DOp := [⟨some 49, .mv (.s 6), none⟩,
    ⟨some 50, .mv (.s 9), none⟩,
    ⟨some 51, .bin .add (.s 49) (.s 50), none⟩,
    ⟨some 6, .mv (.s 51), none⟩]
def dc24_r14 : List DOp := [⟨some 52, .mv (.s 6), none⟩,
    ⟨some 2, .mv (.c (.lit (.slice none 0 0))), none⟩,
    ⟨some 3, .mv (.c (.lit (.string ⟨#[]⟩))), none⟩,
    ⟨some 4, .mv (.s 52), none⟩]
def dc24 : DC :=
 .seq (.reg dc24_r0)
 (.scope (.seq (.seq (.reg dc24_r1)
 (.cond (.s 12) (.seq (.reg dc24_r2)
 (.ret))
 (.skip)))
 (.seq (.seq (.reg dc24_r3)
 (.own [.own 5 52 2]))
 (.seq (.reg dc24_r4)
 (.seq (.skip)
 (.block 0 (.loop (.block 1 (.seq (.reg dc24_r5)
 (.seq (.reg dc24_r6)
 (.seq (.reg dc24_r7)
 (.seq (.seq (.reg dc24_r8)
 (.cond (.s 29) (.seq (.reg dc24_r9)
 (.ret))
 (.skip)))
 (.seq (.seq (.reg dc24_r10)
 (.seq (.reg dc24_r11)
 (.cond (.s 37) (.seq (.reg dc24_r12)
 (.seq (.reg dc24_r13)
 (.exit 1)))
 (.skip))))
 (.seq (.reg dc24_r14)
 (.ret)))))))))))))))
theorem dc24_ok : trCode Tryd.prog Tryd.f24.ntmps { rows := [], keep := [], pre := [], own := [(3, [.own 5 52 2])], preg := [] } (Tryd.f24.body.getD .skip) = some dc24 := by kernel_rfl
theorem s24 {G : Nat → D} {ds : List D} {H : List O} {Q : D → List O → Prop} (hn : ds.length ≤ Tryd.f24.ntmps) (hv : vc (CallA Tryd.prog G) G dc24 (args0 ds) H (retK [.tmp 2, .tmp 3, .tmp 4] Q)) : CallA Tryd.prog G 24 ds H Q :=
  CallA.of_vc (by kernel_rfl) Tryd.func24 (by kernel_rfl) (cd := Tryd.f24.body.getD .skip) (by kernel_rfl) hn dc24_ok (by kernel_rfl) hv
def dc37_r0 : List DOp := [⟨some 2, .mv (.c (.lit (.bool false))), none⟩]
def dc37_r1 : List DOp := [⟨some 3, .mv (.s 0), none⟩,
    ⟨some 4, .bin .neq (.s 3) (.c (.lit (.string ⟨#[]⟩))), none⟩,
    ⟨some 5, .mv (.s 4), none⟩,
    ⟨some 6, .mv (.s 0), some (5, true)⟩,
    ⟨some 7, .idxS (.s 6) (.c (.lit (.int .i64 0))), some (5, true)⟩,
    ⟨none, .frz 7, none⟩,
    ⟨some 8, .call (.c (.fn 52 [])) [.s 7], some (5, true)⟩,
    ⟨some 9, .pick (.s 5) (.s 8) (.c (.lit (.bool false))), none⟩,
    ⟨some 10, .mv (.s 9), none⟩,
    ⟨some 11, .mv (.s 0), some (10, true)⟩,
    ⟨none, .frz 11, none⟩,
    ⟨some 12, .call (.c (.fn 44 [])) [.s 11], some (10, true)⟩,
    ⟨some 13, .mv (.s 0), some (10, true)⟩,
    ⟨some 14, .lenS (.s 13), some (10, true)⟩,
    ⟨some 15, .bin .eql (.s 12) (.s 14), some (10, true)⟩,
    ⟨some 16, .pick (.s 10) (.s 15) (.c (.lit (.bool false))), none⟩,
    ⟨some 17, .mv (.s 16), none⟩,
    ⟨some 18, .slcA 27 (.g 1), some (17, true)⟩,
    ⟨some 19, .mv (.s 0), some (17, true)⟩,
    ⟨none, .frz 18, none⟩,
    ⟨none, .frz 19, none⟩,
    ⟨some 20, .call (.c (.fn 51 [])) [.s 18, .s 19], some (17, true)⟩,
    ⟨some 21, .un .not (.s 20), some (17, true)⟩,
    ⟨some 22, .pick (.s 17) (.s 21) (.c (.lit (.bool false))), none⟩,
    ⟨some 2, .mv (.s 22), none⟩]
def dc37 : DC :=
 .seq (.reg dc37_r0)
 (.seq (.reg dc37_r1)
 (.ret))
theorem dc37_ok : trCode Tryd.prog Tryd.f37.ntmps { rows := [], keep := [], pre := [], own := [], preg := [] } (Tryd.f37.body.getD .skip) = some dc37 := by kernel_rfl
theorem s37 {G : Nat → D} {ds : List D} {H : List O} {Q : D → List O → Prop} (hn : ds.length ≤ Tryd.f37.ntmps) (hv : vc (CallA Tryd.prog G) G dc37 (args0 ds) H (retK [.tmp 2] Q)) : CallA Tryd.prog G 37 ds H Q :=
  CallA.of_vc (by kernel_rfl) Tryd.func37 (by kernel_rfl) (cd := Tryd.f37.body.getD .skip) (by kernel_rfl) hn dc37_ok (by kernel_rfl) hv
def dc30_r0 : List DOp := [⟨some 2, .alloc 42 [.lit (.string ⟨#[]⟩), .lit (.string ⟨#[]⟩), .lit (.int .i64 0), .lit (.slice none 0 0)], none⟩]
def dc30_r1 : List DOp := [⟨some 6, .mv (.s 0), none⟩,
    ⟨some 7, .mv (.s 0), none⟩,
    ⟨none, .frz 7, none⟩,
    ⟨some 8, .call (.c (.fn 48 [])) [.s 7], none⟩,
    ⟨none, .frz 8, none⟩,
    ⟨some 9, .call (.c (.fn 36 [])) [.s 8], none⟩,
    ⟨none, .frz 6, none⟩,
    ⟨none, .frz 9, none⟩,
    ⟨some 10, .call (.c (.fn 47 [])) [.s 6, .s 9], none⟩,
    ⟨none, .frz 10, none⟩,
    ⟨some 11, .bld [.lit (.string ⟨#[]⟩), .lit (.string ⟨#[]⟩), .lit (.int .i64 0), .lit (.slice none 0 0)] [(0, 1, .s 10)], none⟩,
    ⟨some 3, .alloc 42 [.lit (.string ⟨#[]⟩), .lit (.string ⟨#[]⟩), .lit (.int .i64 0), .lit (.slice none 0 0)], none⟩,
    ⟨none, .store 4 (.s 3) (.s 11), none⟩]
def dc30_r2 : List DOp := [⟨some 12, .mv (.s 0), none⟩,
    ⟨none, .frz 12, none⟩,
    ⟨some 13, .call (.c (.fn 48 [])) [.s 12], none⟩,
    ⟨some 14, .bin .eql (.s 13) (.c (.lit (.string ⟨#[105, 110]⟩))), none⟩]
def dc30_r3 : List DOp := [⟨some 15, .mv (.s 0), none⟩,
    ⟨none, .frz 15, none⟩,
    ⟨some 16, .call (.c (.fn 47 [])) [.s 15, .c (.lit (.bool true))], none⟩]
def dc30_r4 : List DOp := [⟨some 17, .mv (.s 0), none⟩,
    ⟨some 18, .mv (.s 0), none⟩,
    ⟨none, .frz 18, none⟩,
    ⟨some 19, .call (.c (.fn 48 [])) [.s 18], none⟩,
    ⟨none, .frz 19, none⟩,
    ⟨some 20, .call (.c (.fn 37 [])) [.s 19], none⟩,
    ⟨none, .frz 17, none⟩,
    ⟨none, .frz 20, none⟩,
    ⟨some 21, .call (.c (.fn 47 [])) [.s 17, .s 20], none⟩,
    ⟨some 22, .fad 1 (.s 3), none⟩,
    ⟨none, .store 1 (.s 22) (.s 21), none⟩]
def dc30_r5 : List DOp := [⟨some 23, .mv (.s 0), none⟩,
    ⟨some 24, .mv (.s 0), none⟩,
    ⟨none, .frz 24, none⟩,
    ⟨some 25, .call (.c (.fn 48 [])) [.s 24], none⟩,
    ⟨some 26, .bin .eql (.s 25) (.c (.lit (.string ⟨#[58]⟩))), none⟩,
    ⟨none, .frz 23, none⟩,
    ⟨none, .frz 26, none⟩,
    ⟨some 27, .call (.c (.fn 47 [])) [.s 23, .s 26], none⟩]
def dc30_r6 : List DOp := [⟨some 28, .mv (.s 0), none⟩,
    ⟨none, .frz 28, none⟩,
    ⟨some 29, .call (.c (.fn 49 [])) [.s 28, .c (.lit (.int .i64 1)), .c (.lit (.int .i64 8))], none⟩,
    ⟨some 30, .fad 2 (.s 3), none⟩,
    ⟨none, .store 1 (.s 30) (.s 29), none⟩]
def dc30_r7 : List DOp := [⟨some 31, .mv (.s 0), none⟩,
    ⟨some 32, .mv (.s 0), none⟩,
    ⟨none, .frz 32, none⟩,
    ⟨some 33, .call (.c (.fn 48 [])) [.s 32], none⟩,
    ⟨some 34, .bin .eql (.s 33) (.c (.lit (.string ⟨#[111, 102]⟩))), none⟩,
    ⟨none, .frz 31, none⟩,
    ⟨none, .frz 34, none⟩,
    ⟨some 35, .call (.c (.fn 47 [])) [.s 31, .s 34], none⟩]
def dc30_r8 : List DOp := [⟨some 4, .mv (.c (.lit (.int .i64 0))), none⟩]
def dc30_r9 : List DOp := [⟨some 36, .mv (.s 0), none⟩,
    ⟨some 37, .nilck (.s 36), none⟩,
    ⟨some 38, .fad 1 (.s 37), none⟩,
    ⟨some 39, .load 1 false (.s 38), none⟩,
    ⟨some 40, .un .not (.s 39), none⟩]
def dc30_r10 : List DOp := [⟨some 41, .mv (.s 0), none⟩,
    ⟨some 42, .mv (.s 4), none⟩,
    ⟨none, .frz 41, none⟩,
    ⟨none, .frz 42, none⟩,
    ⟨some 43, .call (.c (.fn 49 [])) [.s 41, .s 42, .c (.lit (.int .i64 7))], none⟩,
    ⟨some 5, .mv (.s 43), none⟩]
def dc30_r11 : List DOp := [⟨some 44, .fad 3 (.s 3), none⟩,
    ⟨some 45, .load 1 false (.s 44), none⟩,
    ⟨some 46, .mv (.s 5), none⟩,
    ⟨none, .frz 46, none⟩,
    ⟨some 47, .bsl false 3 1 [.s 46], none⟩,
    ⟨none, .frz 47, none⟩,
    ⟨some 48, .app 3 1 8 (.s 45) (.s 47), none⟩,
    ⟨some 49, .fad 3 (.s 3), none⟩,
    ⟨none, .store 1 (.s 49) (.s 48), none⟩]
def dc30_r12 : List DOp := [⟨some 50, .mv (.s 5), none⟩,
    ⟨some 51, .bin .add (.s 50) (.c (.lit (.int .i64 1))), none⟩,
    ⟨some 4, .mv (.s 51), none⟩]
def dc30_r13 : List DOp := [⟨some 52, .fad 3 (.s 3), none⟩,
    ⟨some 53, .load 1 false (.s 52), none⟩,
    ⟨some 54, .lenL (.s 53), none⟩,
    ⟨some 55, .fad 2 (.s 3), none⟩,
    ⟨some 56, .load 1 false (.s 55), none⟩,
    ⟨some 57, .bin .geq (.s 54) (.s 56), none⟩,
    ⟨some 58, .mv (.s 57), none⟩,
    ⟨some 59, .mv (.s 0), some (58, true)⟩,
    ⟨none, .frz 59, none⟩,
    ⟨some 60, .call (.c (.fn 48 [])) [.s 59], some (58, true)⟩,
    ⟨some 61, .bin .neq (.s 60) (.c (.lit (.string ⟨#[44]⟩))), some (58, true)⟩,
    ⟨some 62, .pick (.s 58) (.s 61) (.c (.lit (.bool false))), none⟩]
def dc30_r14 : List DOp := [⟨some 63, .mv (.s 0), none⟩,
    ⟨some 64, .mv (.s 0), none⟩,
    ⟨none, .frz 64, none⟩,
    ⟨some 65, .call (.c (.fn 48 [])) [.s 64], none⟩,
    ⟨some 66, .bin .eql (.s 65) (.c (.lit (.string ⟨#[44]⟩))), none⟩,
    ⟨none, .frz 63, none⟩,
    ⟨none, .frz 66, none⟩,
    ⟨some 67, .call (.c (.fn 47 [])) [.s 63, .s 66], none⟩]
def dc30_r15 : List DOp := [⟨some 68, .load 4 true (.s 3), none⟩,
    ⟨none, .store 4 (.s 2) (.s 68), none⟩]
def dc30 : DC :=
 .seq (.reg dc30_r0)
 (.seq (.seq (.reg dc30_r1)
 (.own [.ownb 3 3 3 1]))
 (.seq (.seq (.reg dc30_r2)
 (.cond (.s 14) (.seq (.reg dc30_r3)
 (.reg dc30_r4))
 (.skip)))
 (.seq (.reg dc30_r5)
 (.seq (.reg dc30_r6)
 (.seq (.reg dc30_r7)
 (.seq (.reg dc30_r8)
 (.seq (.block 0 (.loop (.seq (.seq (.reg dc30_r9)
 (.cond (.s 40) (.skip)
 (.exit 0)))
 (.block 1 (.seq (.reg dc30_r10)
 (.seq (.reg dc30_r11)
 (.seq (.reg dc30_r12)
 (.seq (.seq (.reg dc30_r13)
 (.cond (.s 62) (.exit 0)
 (.skip)))
 (.reg dc30_r14)))))))))
 (.seq (.seq (.own [.frzb 3 3])
 (.reg dc30_r15))
 (.ret)))))))))
theorem dc30_ok : trCode Tryd.prog Tryd.f30.ntmps { rows := [], keep := [], pre := [], own := [(1, [.ownb 3 3 3 1])], preg := [(15, [.frzb 3 3])] } (Tryd.f30.body.getD .skip) = some dc30 := by kernel_rfl
theorem s30 {G : Nat → D} {ds : List D} {H : List O} {Q : D → List O → Prop} (hn : ds.length ≤ Tryd.f30.ntmps) (hv : vc (CallA Tryd.prog G) G dc30 (args0 ds) H (retK [.cell 2 4 true] Q)) : CallA Tryd.prog G 30 ds H Q :=
  CallA.of_vc (by kernel_rfl) Tryd.func30 (by kernel_rfl) (cd := Tryd.f30.body.getD .skip) (by kernel_rfl) hn dc30_ok (by kernel_rfl) hv
def dc47_r0 : List DOp := [⟨some 4, .mv (.c (.lit (.string ⟨#[]⟩))), none⟩]
def dc47_r1 : List DOp := [⟨some 6, .mv (.s 0), none⟩,
    ⟨none, .frz 6, none⟩,
    ⟨some 7, .call (.c (.fn 48 [])) [.s 6], none⟩,
    ⟨some 5, .mv (.s 7), none⟩]
def dc47_r2 : List DOp := [⟨some 8, .mv (.s 0), none⟩,
    ⟨some 9, .nilck (.s 8), none⟩,
    ⟨some 10, .fad 1 (.s 9), none⟩,
    ⟨some 11, .load 1 false (.s 10), none⟩,
    ⟨some 12, .mv (.s 11), none⟩,
    ⟨some 13, .mv (.s 1), some (12, false)⟩,
    ⟨some 14, .un .not (.s 13), some (12, false)⟩,
    ⟨some 15, .pick (.s 12) (.c (.lit (.bool true))) (.s 14), none⟩,
    ⟨some 16, .mv (.s 15), none⟩,
    ⟨some 17, .mv (.s 5), some (16, false)⟩,
    ⟨some 18, .bin .eql (.s 17) (.c (.lit (.string ⟨#[]⟩))), some (16, false)⟩,
    ⟨some 19, .pick (.s 16) (.c (.lit (.bool true))) (.s 18), none⟩]
def dc47_r3 : List DOp := [⟨some 20, .mv (.s 0), none⟩,
    ⟨some 21, .nilck (.s 20), none⟩,
    ⟨some 22, .fad 1 (.s 21), none⟩,
    ⟨none, .store 1 (.s 22) (.c (.lit (.bool true))), none⟩]
def dc47_r4 : List DOp := [⟨some 4, .mv (.c (.lit (.string ⟨#[]⟩))), none⟩]
def dc47_r5 : List DOp := [⟨some 23, .mv (.s 0), none⟩,
    ⟨some 24, .mv (.s 0), none⟩,
    ⟨some 25, .nilck (.s 24), none⟩,
    ⟨some 26, .fad 0 (.s 25), none⟩,
    ⟨some 27, .load 1 false (.s 26), none⟩,
    ⟨none, .frz 27, none⟩,
    ⟨some 28, .slcL 2 (.s 27) (some (.c (.lit (.int .i64 1)))) none, none⟩,
    ⟨some 29, .nilck (.s 23), none⟩,
    ⟨some 30, .fad 0 (.s 29), none⟩,
    ⟨none, .store 1 (.s 30) (.s 28), none⟩]
def dc47_r6 : List DOp := [⟨some 31, .mv (.s 5), none⟩,
    ⟨some 4, .mv (.s 31), none⟩]
def dc47 : DC :=
 .seq (.reg dc47_r0)
 (.seq (.reg dc47_r1)
 (.seq (.seq (.reg dc47_r2)
 (.cond (.s 19) (.seq (.reg dc47_r3)
 (.seq (.reg dc47_r4)
 (.ret)))
 (.skip)))
 (.seq (.reg dc47_r5)
 (.seq (.reg dc47_r6)
 (.ret)))))
theorem dc47_ok : trCode Tryd.prog Tryd.f47.ntmps { rows := [], keep := [], pre := [], own := [], preg := [] } (Tryd.f47.body.getD .skip) = some dc47 := by kernel_rfl
theorem s47 {G : Nat → D} {ds : List D} {H : List O} {Q : D → List O → Prop} (hn : ds.length ≤ Tryd.f47.ntmps) (hv : vc (CallA Tryd.prog G) G dc47 (args0 ds) H (retK [.tmp 4] Q)) : CallA Tryd.prog G 47 ds H Q :=
  CallA.of_vc (by kernel_rfl) Tryd.func47 (by kernel_rfl) (cd := Tryd.f47.body.getD .skip) (by kernel_rfl) hn dc47_ok (by kernel_rfl) hv
def dc48_r0 : List DOp := [⟨some 2, .mv (.c (.lit (.string ⟨#[]⟩))), none⟩]
def dc48_r1 : List DOp := [⟨some 3, .mv (.s 0), none⟩,
    ⟨some 4, .nilck (.s 3), none⟩,
    ⟨some 5, .fad 0 (.s 4), none⟩,
    ⟨some 6, .load 1 false (.s 5), none⟩,
    ⟨some 7, .lenL (.s 6), none⟩,
    ⟨some 8, .bin .eql (.s 7) (.c (.lit (.int .i64 0))), none⟩]
def dc48_r2 : List DOp := [⟨some 2, .mv (.c (.lit (.string ⟨#[]⟩))), none⟩]
def dc48_r3 : List DOp := [⟨some 9, .mv (.s 0), none⟩,
    ⟨some 10, .nilck (.s 9), none⟩,
    ⟨some 11, .fad 0 (.s 10), none⟩,
    ⟨some 12, .load 1 false (.s 11), none⟩,
    ⟨some 13, .iad 2 (.s 12) (.c (.lit (.int .i64 0))), none⟩,
    ⟨some 14, .fad 0 (.s 13), none⟩,
    ⟨some 15, .load 1 false (.s 14), none⟩,
    ⟨some 2, .mv (.s 15), none⟩]
def dc48 : DC :=
 .seq (.reg dc48_r0)
 (.seq (.seq (.reg dc48_r1)
 (.cond (.s 8) (.seq (.reg dc48_r2)
 (.ret))
 (.skip)))
 (.seq (.reg dc48_r3)
 (.ret)))
theorem dc48_ok : trCode Tryd.prog Tryd.f48.ntmps { rows := [], keep := [], pre := [], own := [], preg := [] } (Tryd.f48.body.getD .skip) = some dc48 := by kernel_rfl
theorem s48 {G : Nat → D} {ds : List D} {H : List O} {Q : D → List O → Prop} (hn : ds.length ≤ Tryd.f48.ntmps) (hv : vc (CallA Tryd.prog G) G dc48 (args0 ds) H (retK [.tmp 2] Q)) : CallA Tryd.prog G 48 ds H Q :=
  CallA.of_vc (by kernel_rfl) Tryd.func48 (by kernel_rfl) (cd := Tryd.f48.body.getD .skip) (by kernel_rfl) hn dc48_ok (by kernel_rfl) hv
def dc49_r0 : List DOp := [⟨some 6, .mv (.c (.lit (.int .i64 0))), none⟩]
def dc49_r1 : List DOp := [⟨some 10, .mv (.s 0), none⟩,
    ⟨none, .frz 10, none⟩,
    ⟨some 11, .call (.c (.fn 48 [])) [.s 10], none⟩,
    ⟨none, .frz 11, none⟩,
    ⟨some 12, .call (.c (.fn 58 [])) [.s 11], none⟩,
    ⟨some 9, .mv (.s 12), none⟩,
    ⟨some 13, .ext (.s 9) 0, none⟩,
    ⟨some 14, .ext (.s 9) 1, none⟩,
    ⟨some 7, .mv (.s 13), none⟩,
    ⟨some 8, .mv (.s 14), none⟩]
def dc49_r2 : List DOp := [⟨some 15, .mv (.s 0), none⟩,
    ⟨some 16, .mv (.s 8), none⟩,
    ⟨some 17, .eqn .eql (.s 16) (.c (.lit .nilIface)), none⟩,
    ⟨some 18, .mv (.s 17), none⟩,
    ⟨some 19, .mv (.s 7), some (18, true)⟩,
    ⟨none, .frz 19, none⟩,
    ⟨some 20, .call (.c (.fn 39 [])) [.s 19], some (18, true)⟩,
    ⟨some 21, .mv (.s 0), some (18, true)⟩,
    ⟨none, .frz 21, none⟩,
    ⟨some 22, .call (.c (.fn 48 [])) [.s 21], some (18, true)⟩,
    ⟨some 23, .bin .eql (.s 20) (.s 22), some (18, true)⟩,
    ⟨some 24, .pick (.s 18) (.s 23) (.c (.lit (.bool false))), none⟩,
    ⟨some 25, .mv (.s 24), none⟩,
    ⟨some 26, .mv (.s 7), some (25, true)⟩,
    ⟨some 27, .mv (.s 1), some (25, true)⟩,
    ⟨some 28, .bin .geq (.s 26) (.s 27), some (25, true)⟩,
    ⟨some 29, .pick (.s 25) (.s 28) (.c (.lit (.bool false))), none⟩,
    ⟨some 30, .mv (.s 29), none⟩,
    ⟨some 31, .mv (.s 7), some (30, true)⟩,
    ⟨some 32, .mv (.s 2), some (30, true)⟩,
    ⟨some 33, .bin .leq (.s 31) (.s 32), some (30, true)⟩,
    ⟨some 34, .pick (.s 30) (.s 33) (.c (.lit (.bool false))), none⟩,
    ⟨none, .frz 15, none⟩,
    ⟨none, .frz 34, none⟩,
    ⟨some 35, .call (.c (.fn 47 [])) [.s 15, .s 34], none⟩]
def dc49_r3 : List DOp := [⟨some 36, .mv (.s 7), none⟩,
    ⟨some 6, .mv (.s 36), none⟩]
def dc49 : DC :=
 .seq (.reg dc49_r0)
 (.seq (.reg dc49_r1)
 (.seq (.reg dc49_r2)
 (.seq (.reg dc49_r3)
 (.ret))))
theorem dc49_ok : trCode Tryd.prog Tryd.f49.ntmps { rows := [], keep := [], pre := [], own := [], preg := [] } (Tryd.f49.body.getD .skip) = some dc49 := by kernel_rfl
theorem s49 {G : Nat → D} {ds : List D} {H : List O} {Q : D → List O → Prop} (hn : ds.length ≤ Tryd.f49.ntmps) (hv : vc (CallA Tryd.prog G) G dc49 (args0 ds) H (retK [.tmp 6] Q)) : CallA Tryd.prog G 49 ds H Q :=
  CallA.of_vc (by kernel_rfl) Tryd.func49 (by kernel_rfl) (cd := Tryd.f49.body.getD .skip) (by kernel_rfl) hn dc49_ok (by kernel_rfl) hv
def dc14_r0 : List DOp := [⟨some 2, .mv (.c (.lit (.slice none 0 0))), none⟩,
    ⟨some 3, .mv (.c (.lit (.int .i64 0))), none⟩]
def dc14_r1 : List DOp := [⟨some 12, .mv (.s 0), none⟩,
    ⟨none, .frz 12, none⟩,
    ⟨some 13, .call (.c (.fn 24 [])) [.s 12], none⟩,
    ⟨some 11, .mv (.s 13), none⟩,
    ⟨some 14, .ext (.s 11) 0, none⟩,
    ⟨some 15, .ext (.s 11) 1, none⟩,
    ⟨some 16, .ext (.s 11) 2, none⟩,
    ⟨some 4, .mv (.s 14), none⟩,
    ⟨some 5, .mv (.s 15), none⟩,
    ⟨some 6, .mv (.s 16), none⟩]
def dc14_r2 : List DOp := [⟨some 17, .mv (.s 6), none⟩,
    ⟨some 18, .bin .neq (.s 17) (.c (.lit (.int .i64 (-1)))), none⟩]
def dc14_r3 : List DOp := [⟨some 19, .mv (.s 6), none⟩,
    ⟨some 2, .mv (.c (.lit (.slice none 0 0))), none⟩,
    ⟨some 3, .mv (.s 19), none⟩]
def dc14_r4 : List DOp := [⟨some 20, .mv (.s 4), none⟩,
    ⟨none, .frz 20, none⟩,
    ⟨some 21, .bld [.lit (.slice none 0 0), .lit (.bool false)] [(0, 1, .s 20)], none⟩,
    ⟨some 22, .box 60 (.s 21), none⟩,
    ⟨some 7, .mv (.s 22), none⟩]
def dc14_r5 : List DOp := [⟨some 8, .mv (.c (.lit (.slice none 0 0))), none⟩]
def dc14_r6 : List DOp := [⟨some 23, .mv (.s 7), none⟩,
    ⟨some 24, .nilck (.s 23), none⟩,
    ⟨some 25, .fad 1 (.s 24), none⟩,
    ⟨some 26, .load 1 false (.s 25), none⟩,
    ⟨some 27, .un .not (.s 26), none⟩,
    ⟨some 28, .mv (.s 27), none⟩,
    ⟨some 29, .mv (.s 7), some (28, true)⟩,
    ⟨some 30, .nilck (.s 29), some (28, true)⟩,
    ⟨some 31, .fad 0 (.s 30), some (28, true)⟩,
    ⟨some 32, .load 1 false (.s 31), some (28, true)⟩,
    ⟨some 33, .lenL (.s 32), some (28, true)⟩,
    ⟨some 34, .bin .gtr (.s 33) (.c (.lit (.int .i64 0))), some (28, true)⟩,
    ⟨some 35, .pick (.s 28) (.s 34) (.c (.lit (.bool false))), none⟩]
def dc14_r7 : List DOp := [⟨some 36, .mv (.s 8), none⟩,
    ⟨some 37, .lenL (.s 36), none⟩,
    ⟨some 38, .bin .eql (.s 37) (.c (.lit (.int .i64 64))), none⟩]
def dc14_r8 : List DOp := [⟨some 39, .mv (.s 7), none⟩,
    ⟨some 40, .nilck (.s 39), none⟩,
    ⟨some 41, .fad 1 (.s 40), none⟩,
    ⟨none, .store 1 (.s 41) (.c (.lit (.bool true))), none⟩]
def dc14_r9 : List DOp := [⟨some 42, .mv (.s 8), none⟩,
    ⟨some 43, .mv (.s 7), none⟩,
    ⟨none, .frz 43, none⟩,
    ⟨some 44, .call (.c (.fn 30 [])) [.s 43], none⟩,
    ⟨none, .frz 44, none⟩,
    ⟨some 45, .bsl false 42 4 [.s 44], none⟩,
    ⟨none, .frz 45, none⟩,
    ⟨some 46, .app 42 4 64 (.s 42) (.s 45), none⟩,
    ⟨some 8, .mv (.s 46), none⟩]
def dc14_r10 : List DOp := [⟨some 47, .mv (.s 7), none⟩,
    ⟨some 48, .nilck (.s 47), none⟩,
    ⟨some 49, .fad 1 (.s 48), none⟩,
    ⟨some 50, .load 1 false (.s 49), none⟩,
    ⟨some 51, .un .not (.s 50), none⟩]
def dc14_r11 : List DOp := [⟨some 52, .mv (.s 8), none⟩,
    ⟨some 2, .mv (.s 52), none⟩,
    ⟨some 3, .mv (.c (.lit (.int .i64 (-1)))), none⟩]
def dc14_r12 : List DOp := [⟨some 53, .mv (.s 7), none⟩,
    ⟨some 54, .nilck (.s 53), none⟩,
    ⟨some 55, .fad 0 (.s 54), none⟩,
    ⟨some 56, .load 1 false (.s 55), none⟩,
    ⟨some 57, .lenL (.s 56), none⟩,
    ⟨some 58, .bin .eql (.s 57) (.c (.lit (.int .i64 0))), none⟩]
def dc14_r13 : List DOp := [⟨some 59, .mv (.s 0), none⟩,
    ⟨some 60, .lenS (.s 59), none⟩,
    ⟨some 2, .mv (.c (.lit (.slice none 0 0))), none⟩,
    ⟨some 3, .mv (.s 60), none⟩]
def dc14_r14 : List DOp := [⟨some 6, .mv (.c (.lit (.int .i64 0))), none⟩]
def dc14_r15 : List DOp := [⟨some 61, .mv (.s 4), none⟩,
    ⟨some 62, .mv (.s 4), none⟩,
    ⟨some 63, .lenL (.s 62), none⟩,
    ⟨some 64, .mv (.s 7), none⟩,
    ⟨some 65, .nilck (.s 64), none⟩,
    ⟨some 66, .fad 0 (.s 65), none⟩,
    ⟨some 67, .load 1 false (.s 66), none⟩,
    ⟨some 68, .lenL (.s 67), none⟩,
    ⟨some 69, .bin .sub (.s 63) (.s 68), none⟩,
    ⟨none, .frz 61, none⟩,
    ⟨some 70, .slcL 2 (.s 61) none (some (.s 69)), none⟩,
    ⟨some 71, .lenL (.s 70), none⟩,
    ⟨some 72, .mv (.c (.lit (.int .i64 0))), none⟩]
def dc14_r16 : List DOp := [⟨some 73, .bin .lss (.s 72) (.s 71), none⟩]
def dc14_r17 : List DOp := [⟨some 74, .iad 2 (.s 70) (.s 72), none⟩,
    ⟨some 75, .load 2 true (.s 74), none⟩,
    ⟨some 10, .alloc 52 [.lit (.string ⟨#[]⟩), .lit (.string ⟨#[]⟩)], none⟩,
    ⟨none, .store 2 (.s 10) (.s 75), none⟩]
def dc14_r18 : List DOp := [⟨some 76, .mv (.s 6), none⟩,
    ⟨some 77, .fad 1 (.s 10), none⟩,
    ⟨some 78, .load 1 false (.s 77), none⟩,
    ⟨some 79, .lenS (.s 78), none⟩,
    ⟨some 80, .fad 0 (.s 10), none⟩,
    ⟨some 81, .load 1 false (.s 80), none⟩,
    ⟨some 82, .lenS (.s 81), none⟩,
    ⟨some 83, .bin .add (.s 79) (.s 82), none⟩,
    ⟨some 84, .bin .add (.s 76) (.s 83), none⟩,
    ⟨some 6, .mv (.s 84), none⟩]
def dc14_r19 : List DOp := [⟨some 85, .bin .add (.s 72) (.c (.lit (.int .i64 1))), none⟩,
    ⟨some 72, .mv (.s 85), none⟩]
def dc14_r20 : List DOp := [⟨some 86, .mv (.s 6), none⟩,
    ⟨some 87, .mv (.s 7), none⟩,
    ⟨some 88, .nilck (.s 87), none⟩,
    ⟨some 89, .fad 0 (.s 88), none⟩,
    ⟨some 90, .load 1 false (.s 89), none⟩,
    ⟨some 91, .iad 2 (.s 90) (.c (.lit (.int .i64 0))), none⟩,
    ⟨some 92, .fad 1 (.s 91), none⟩,
    ⟨some 93, .load 1 false (.s 92), none⟩,
    ⟨some 94, .lenS (.s 93), none⟩,
    ⟨some 95, .bin .add (.s 86) (.s 94), none⟩,
    ⟨some 2, .mv (.c (.lit (.slice none 0 0))), none⟩,
    ⟨some 3, .mv (.s 95), none⟩]
def dc14 : DC :=
 .seq (.reg dc14_r0)
 (.seq (.reg dc14_r1)
 (.seq (.seq (.reg dc14_r2)
 (.cond (.s 18) (.seq (.reg dc14_r3)
 (.ret))
 (.skip)))
 (.seq (.reg dc14_r4)
 (.seq (.seq (.reg dc14_r5)
 (.own [.own 8 42 4]))
 (.seq (.block 0 (.loop (.seq (.seq (.reg dc14_r6)
 (.cond (.s 35) (.skip)
 (.exit 0)))
 (.block 1 (.seq (.seq (.reg dc14_r7)
 (.cond (.s 38) (.seq (.reg dc14_r8)
 (.exit 0))
 (.skip)))
 (.reg dc14_r9))))))
 (.seq (.seq (.reg dc14_r10)
 (.cond (.s 51) (.seq (.reg dc14_r11)
 (.ret))
 (.skip)))
 (.seq (.seq (.reg dc14_r12)
 (.cond (.s 58) (.seq (.reg dc14_r13)
 (.ret))
 (.skip)))
 (.seq (.reg dc14_r14)
 (.seq (.seq (.reg dc14_r15)
 (.block 2 (.loop (.seq (.reg dc14_r16)
 (.seq (.cond (.s 73) (.skip)
 (.exit 2))
 (.seq (.block 3 (.seq (.reg dc14_r17)
 (.reg dc14_r18)))
 (.reg dc14_r19)))))))
 (.seq (.drw dc14_r20)
 (.ret)))))))))))
theorem dc14_ok : trCode Tryd.prog Tryd.f14.ntmps { rows := [], keep := [], pre := [], own := [(5, [.own 8 42 4])], preg := [] } (Tryd.f14.body.getD .skip) = some dc14 := by kernel_rfl
theorem s14 {G : Nat → D} {ds : List D} {H : List O} {Q : D → List O → Prop} (hn : ds.length ≤ Tryd.f14.ntmps) (hv : vc (CallA Tryd.prog G) G dc14 (args0 ds) H (retK [.tmp 2, .tmp 3] Q)) : CallA Tryd.prog G 14 ds H Q :=
  CallA.of_vc (by kernel_rfl) Tryd.func14 (by kernel_rfl) (cd := Tryd.f14.body.getD .skip) (by kernel_rfl) hn dc14_ok (by kernel_rfl) hv
def dc17_r0 : List DOp := [⟨some 0, .mv (.c (.lit (.bool false))), none⟩]
def dc17_r1 : List DOp := [⟨some 9, .call (.c (.fn 14 [])) [.c (.lit (.string ⟨#[98, 111, 100, 121, 32, 105, 110, 32, 109, 105, 108, 108, 58, 32, 50, 32, 111, 102, 32, 48, 44, 32, 49, 44, 32, 51]⟩))], none⟩,
    ⟨some 8, .mv (.s 9), none⟩,
    ⟨some 10, .ext (.s 8) 0, none⟩,
    ⟨some 11, .ext (.s 8) 1, none⟩,
    ⟨some 1, .mv (.s 10), none⟩,
    ⟨some 2, .mv (.s 11), none⟩]
def dc17_r2 : List DOp := [⟨some 13, .call (.c (.fn 14 [])) [.c (.lit (.string ⟨#[97, 110, 121, 58, 32, 49, 32, 111, 102]⟩))], none⟩,
    ⟨some 12, .mv (.s 13), none⟩,
    ⟨some 14, .ext (.s 12) 0, none⟩,
    ⟨some 15, .ext (.s 12) 1, none⟩,
    ⟨some 3, .mv (.s 14), none⟩,
    ⟨some 4, .mv (.s 15), none⟩]
def dc17_r3 : List DOp := [⟨some 17, .call (.c (.fn 14 [])) [.c (.lit (.string ⟨#[97, 110, 121, 58, 32, 50, 32, 111, 102, 32, 51, 32, 110, 97, 109, 101, 58, 32, 49, 32, 111, 102, 32, 48]⟩))], none⟩,
    ⟨some 16, .mv (.s 17), none⟩,
    ⟨some 18, .ext (.s 16) 0, none⟩,
    ⟨some 19, .ext (.s 16) 1, none⟩,
    ⟨some 5, .mv (.s 18), none⟩,
    ⟨some 6, .mv (.s 19), none⟩]
def dc17_r4 : List DOp := [⟨some 20, .bsl false 3 1 [.c (.lit (.int .i64 0)), .c (.lit (.int .i64 1)), .c (.lit (.int .i64 3))], none⟩,
    ⟨none, .frz 20, none⟩,
    ⟨some 21, .bld [.lit (.string ⟨#[]⟩), .lit (.string ⟨#[]⟩), .lit (.int .i64 0), .lit (.slice none 0 0)] [(0, 1, .c (.lit (.string ⟨#[98, 111, 100, 121]⟩))), (1, 1, .c (.lit (.string ⟨#[109, 105, 108, 108]⟩))), (2, 1, .c (.lit (.int .i64 2))), (3, 1, .s 20)], none⟩,
    ⟨none, .frz 21, none⟩,
    ⟨some 22, .bsl false 42 4 [.s 21], none⟩,
    ⟨some 7, .mv (.s 22), none⟩]
def dc17_r5 : List DOp := [⟨some 23, .mv (.s 2), none⟩,
    ⟨some 24, .bin .neq (.s 23) (.c (.lit (.int .i64 (-1)))), none⟩,
    ⟨some 25, .mv (.s 24), none⟩,
    ⟨some 26, .mv (.s 1), some (25, false)⟩,
    ⟨some 27, .mv (.s 7), some (25, false)⟩,
    ⟨none, .frz 26, none⟩,
    ⟨none, .frz 27, none⟩,
    ⟨some 28, .call (.c (.fn 16 [])) [.s 26, .s 27], some (25, false)⟩,
    ⟨some 29, .un .not (.s 28), some (25, false)⟩,
    ⟨some 30, .pick (.s 25) (.c (.lit (.bool true))) (.s 29), none⟩,
    ⟨some 31, .mv (.s 30), none⟩,
    ⟨some 32, .mv (.s 4), some (31, false)⟩,
    ⟨some 33, .bin .neq (.s 32) (.c (.lit (.int .i64 9))), some (31, false)⟩,
    ⟨some 34, .pick (.s 31) (.c (.lit (.bool true))) (.s 33), none⟩,
    ⟨some 35, .mv (.s 34), none⟩,
    ⟨some 36, .mv (.s 6), some (35, false)⟩,
    ⟨some 37, .bin .neq (.s 36) (.c (.lit (.int .i64 12))), some (35, false)⟩,
    ⟨some 38, .pick (.s 35) (.c (.lit (.bool true))) (.s 37), none⟩]
def dc17_r6 : List DOp := [⟨some 0, .mv (.c (.lit (.bool false))), none⟩]
def dc17_r7 : List DOp := [⟨some 39, .mv (.s 1), none⟩,
    ⟨some 40, .bsl false 3 1 [.c (.lit (.int .i64 0)), .c (.lit (.int .i64 1)), .c (.lit (.int .i64 0))], none⟩,
    ⟨none, .frz 39, none⟩,
    ⟨none, .frz 40, none⟩,
    ⟨some 41, .call (.c (.fn 22 [])) [.s 39, .c (.lit (.int .i64 1)), .s 40], none⟩,
    ⟨some 42, .un .not (.s 41), none⟩,
    ⟨some 43, .mv (.s 42), none⟩,
    ⟨some 44, .mv (.s 1), some (43, true)⟩,
    ⟨some 45, .bsl false 3 1 [.c (.lit (.int .i64 0)), .c (.lit (.int .i64 1))], some (43, true)⟩,
    ⟨none, .frz 44, none⟩,
    ⟨none, .frz 45, none⟩,
    ⟨some 46, .call (.c (.fn 22 [])) [.s 44, .c (.lit (.int .i64 2)), .s 45], some (43, true)⟩,
    ⟨some 47, .pick (.s 43) (.s 46) (.c (.lit (.bool false))), none⟩,
    ⟨some 48, .mv (.s 47), none⟩,
    ⟨some 49, .mv (.s 1), some (48, true)⟩,
    ⟨none, .frz 49, none⟩,
    ⟨some 50, .call (.c (.fn 21 [])) [.s 49], some (48, true)⟩,
    ⟨some 51, .bin .eql (.s 50) (.c (.lit (.string ⟨#[98, 111, 100, 121, 32, 105, 110, 32, 109, 105, 108, 108, 58, 32, 50, 32, 111, 102, 32, 48, 44, 32, 49, 44, 32, 51, 10]⟩))), some (48, true)⟩,
    ⟨some 52, .pick (.s 48) (.s 51) (.c (.lit (.bool false))), none⟩,
    ⟨some 53, .mv (.s 52), none⟩,
    ⟨some 54, .bld [.lit (.int .i64 0), .lit (.int .i64 0), .lit (.int .i64 0), .lit (.int .i64 0), .lit (.int .i64 0), .lit (.int .i64 0), .lit (.int .i64 0), .lit (.int .i64 0), .lit (.int .i64 0), .lit (.string ⟨#[]⟩), .lit (.int .i64 0), .lit (.int .i64 0), .lit (.int .i64 0), .lit (.int .i64 0), .lit (.slice none 0 0), .lit (.int .i64 0), .lit (.int .i64 0), .lit (.int .i64 0), .lit (.int .i64 0), .lit (.int .i64 0), .lit (.int .i64 0), .lit (.int .i64 0), .lit (.int .i64 0), .lit (.int .i64 0), .lit (.slice none 0 0), .lit (.slice none 0 0), .lit (.slice none 0 0), .lit (.slice none 0 0)] [(0, 1, .c (.lit (.int .i64 12)))], some (53, true)⟩,
    ⟨none, .frz 54, none⟩,
    ⟨some 55, .call (.c (.fn 35 [])) [.s 54], some (53, true)⟩,
    ⟨some 56, .bin .eql (.s 55) (.c (.lit (.string ⟨#[98, 111, 100, 121]⟩))), some (53, true)⟩,
    ⟨some 57, .pick (.s 53) (.s 56) (.c (.lit (.bool false))), none⟩,
    ⟨some 0, .mv (.s 57), none⟩]
def dc17 : DC :=
 .seq (.reg dc17_r0)
 (.seq (.reg dc17_r1)
 (.seq (.reg dc17_r2)
 (.seq (.reg dc17_r3)
 (.seq (.reg dc17_r4)
 (.seq (.seq (.reg dc17_r5)
 (.cond (.s 38) (.seq (.reg dc17_r6)
 (.ret))
 (.skip)))
 (.seq (.reg dc17_r7)
 (.ret)))))))
theorem dc17_ok : trCode Tryd.prog Tryd.f17.ntmps { rows := [], keep := [], pre := [], own := [], preg := [] } (Tryd.f17.body.getD .skip) = some dc17 := by kernel_rfl
theorem s17 {G : Nat → D} {ds : List D} {H : List O} {Q : D → List O → Prop} (hn : ds.length ≤ Tryd.f17.ntmps) (hv : vc (CallA Tryd.prog G) G dc17 (args0 ds) H (retK [.tmp 0] Q)) : CallA Tryd.prog G 17 ds H Q :=
  CallA.of_vc (by kernel_rfl) Tryd.func17 (by kernel_rfl) (cd := Tryd.f17.body.getD .skip) (by kernel_rfl) hn dc17_ok (by kernel_rfl) hv
def dc19_r0 : List DOp := [⟨some 2, .mv (.c (.lit (.bool false))), none⟩]
def dc19_r1 : List DOp := [⟨some 7, .mv (.s 0), none⟩,
    ⟨some 8, .lenL (.s 7), none⟩,
    ⟨some 9, .mv (.c (.lit (.int .i64 0))), none⟩]
def dc19_r2 : List DOp := [⟨some 10, .bin .lss (.s 9) (.s 8), none⟩]
def dc19_r3 : List DOp := [⟨some 11, .iad 4 (.s 7) (.s 9), none⟩,
    ⟨some 12, .load 4 true (.s 11), none⟩,
    ⟨some 4, .alloc 42 [.lit (.string ⟨#[]⟩), .lit (.string ⟨#[]⟩), .lit (.int .i64 0), .lit (.slice none 0 0)], none⟩,
    ⟨none, .store 4 (.s 4) (.s 12), none⟩]
def dc19_r4 : List DOp := [⟨some 13, .fad 0 (.s 4), none⟩,
    ⟨some 14, .load 1 false (.s 13), none⟩,
    ⟨none, .frz 14, none⟩,
    ⟨some 15, .call (.c (.fn 36 [])) [.s 14], none⟩,
    ⟨some 16, .un .not (.s 15), none⟩,
    ⟨some 17, .mv (.s 16), none⟩,
    ⟨some 18, .fad 1 (.s 4), some (17, false)⟩,
    ⟨some 19, .load 1 false (.s 18), some (17, false)⟩,
    ⟨some 20, .bin .neq (.s 19) (.c (.lit (.string ⟨#[]⟩))), some (17, false)⟩,
    ⟨some 21, .mv (.s 20), some (17, false)⟩,
    ⟨some 22, .fad 1 (.s 4), some (21, true)⟩,
    ⟨some 23, .load 1 false (.s 22), some (21, true)⟩,
    ⟨none, .frz 23, none⟩,
    ⟨some 24, .call (.c (.fn 37 [])) [.s 23], some (21, true)⟩,
    ⟨some 25, .un .not (.s 24), some (21, true)⟩,
    ⟨some 26, .pick (.s 21) (.s 25) (.c (.lit (.bool false))), some (17, false)⟩,
    ⟨some 27, .pick (.s 17) (.c (.lit (.bool true))) (.s 26), none⟩,
    ⟨some 28, .mv (.s 27), none⟩,
    ⟨some 29, .fad 2 (.s 4), some (28, false)⟩,
    ⟨some 30, .load 1 false (.s 29), some (28, false)⟩,
    ⟨some 31, .bin .lss (.s 30) (.c (.lit (.int .i64 1))), some (28, false)⟩,
    ⟨some 32, .pick (.s 28) (.c (.lit (.bool true))) (.s 31), none⟩,
    ⟨some 33, .mv (.s 32), none⟩,
    ⟨some 34, .fad 2 (.s 4), some (33, false)⟩,
    ⟨some 35, .load 1 false (.s 34), some (33, false)⟩,
    ⟨some 36, .fad 3 (.s 4), some (33, false)⟩,
    ⟨some 37, .load 1 false (.s 36), some (33, false)⟩,
    ⟨some 38, .lenL (.s 37), some (33, false)⟩,
    ⟨some 39, .bin .gtr (.s 35) (.s 38), some (33, false)⟩,
    ⟨some 40, .pick (.s 33) (.c (.lit (.bool true))) (.s 39), none⟩]
def dc19_r5 : List DOp := [⟨some 2, .mv (.c (.lit (.bool false))), none⟩]
def dc19_r6 : List DOp := [⟨some 41, .fad 3 (.s 4), none⟩,
    ⟨some 42, .load 1 false (.s 41), none⟩,
    ⟨some 43, .lenL (.s 42), none⟩,
    ⟨some 44, .mv (.c (.lit (.int .i64 0))), none⟩]
def dc19_r7 : List DOp := [⟨some 45, .bin .lss (.s 44) (.s 43), none⟩]
def dc19_r8 : List DOp := [⟨some 46, .mv (.s 44), none⟩,
    ⟨some 47, .iad 1 (.s 42) (.s 44), none⟩,
    ⟨some 48, .load 1 false (.s 47), none⟩,
    ⟨some 5, .mv (.s 46), none⟩,
    ⟨some 6, .mv (.s 48), none⟩]
def dc19_r9 : List DOp := [⟨some 49, .mv (.s 6), none⟩,
    ⟨some 50, .bin .lss (.s 49) (.c (.lit (.int .i64 0))), none⟩,
    ⟨some 51, .mv (.s 50), none⟩,
    ⟨some 52, .mv (.s 6), some (51, false)⟩,
    ⟨some 53, .bin .geq (.s 52) (.c (.lit (.int .i64 8))), some (51, false)⟩,
    ⟨some 54, .pick (.s 51) (.c (.lit (.bool true))) (.s 53), none⟩,
    ⟨some 55, .mv (.s 54), none⟩,
    ⟨some 56, .mv (.s 5), some (55, false)⟩,
    ⟨some 57, .bin .gtr (.s 56) (.c (.lit (.int .i64 0))), some (55, false)⟩,
    ⟨some 58, .mv (.s 57), some (55, false)⟩,
    ⟨some 59, .mv (.s 6), some (58, true)⟩,
    ⟨some 60, .fad 3 (.s 4), some (58, true)⟩,
    ⟨some 61, .load 1 false (.s 60), some (58, true)⟩,
    ⟨some 62, .mv (.s 5), some (58, true)⟩,
    ⟨some 63, .bin .sub (.s 62) (.c (.lit (.int .i64 1))), some (58, true)⟩,
    ⟨some 64, .iad 1 (.s 61) (.s 63), some (58, true)⟩,
    ⟨some 65, .load 1 false (.s 64), some (58, true)⟩,
    ⟨some 66, .bin .leq (.s 59) (.s 65), some (58, true)⟩,
    ⟨some 67, .pick (.s 58) (.s 66) (.c (.lit (.bool false))), some (55, false)⟩,
    ⟨some 68, .pick (.s 55) (.c (.lit (.bool true))) (.s 67), none⟩]
def dc19_r10 : List DOp := [⟨some 2, .mv (.c (.lit (.bool false))), none⟩]
def dc19_r11 : List DOp := [⟨some 69, .bin .add (.s 44) (.c (.lit (.int .i64 1))), none⟩,
    ⟨some 44, .mv (.s 69), none⟩]
def dc19_r12 : List DOp := [⟨some 70, .bin .add (.s 9) (.c (.lit (.int .i64 1))), none⟩,
    ⟨some 9, .mv (.s 70), none⟩]
def dc19_r13 : List DOp := [⟨some 71, .mv (.s 0), none⟩,
    ⟨some 72, .lenL (.s 71), none⟩,
    ⟨some 73, .bin .leq (.s 72) (.c (.lit (.int .i64 64))), none⟩,
    ⟨some 2, .mv (.s 73), none⟩]
def dc19 : DC :=
 .seq (.reg dc19_r0)
 (.seq (.seq (.reg dc19_r1)
 (.block 0 (.loop (.seq (.reg dc19_r2)
 (.seq (.cond (.s 10) (.skip)
 (.exit 0))
 (.seq (.block 1 (.seq (.reg dc19_r3)
 (.seq (.seq (.reg dc19_r4)
 (.cond (.s 40) (.seq (.reg dc19_r5)
 (.ret))
 (.skip)))
 (.seq (.reg dc19_r6)
 (.block 2 (.loop (.seq (.reg dc19_r7)
 (.seq (.cond (.s 45) (.skip)
 (.exit 2))
 (.seq (.block 3 (.seq (.reg dc19_r8)
 (.seq (.reg dc19_r9)
 (.cond (.s 68) (.seq (.reg dc19_r10)
 (.ret))
 (.skip)))))
 (.reg dc19_r11))))))))))
 (.reg dc19_r12)))))))
 (.seq (.reg dc19_r13)
 (.ret)))
theorem dc19_ok : trCode Tryd.prog Tryd.f19.ntmps { rows := [], keep := [], pre := [], own := [], preg := [] } (Tryd.f19.body.getD .skip) = some dc19 := by kernel_rfl
theorem s19 {G : Nat → D} {ds : List D} {H : List O} {Q : D → List O → Prop} (hn : ds.length ≤ Tryd.f19.ntmps) (hv : vc (CallA Tryd.prog G) G dc19 (args0 ds) H (retK [.tmp 2] Q)) : CallA Tryd.prog G 19 ds H Q :=
  CallA.of_vc (by kernel_rfl) Tryd.func19 (by kernel_rfl) (cd := Tryd.f19.body.getD .skip) (by kernel_rfl) hn dc19_ok (by kernel_rfl) hv
def dc21_r0 : List DOp := [⟨some 2, .mv (.c (.lit (.string ⟨#[]⟩))), none⟩]
def dc21_r1 : List DOp := [⟨some 8, .mv (.s 0), none⟩,
    ⟨none, .frz 8, none⟩,
    ⟨some 9, .call (.c (.fn 19 [])) [.s 8], none⟩,
    ⟨some 10, .un .not (.s 9), none⟩]
def dc21_r2 : List DOp := [⟨some 2, .mv (.c (.lit (.string ⟨#[]⟩))), none⟩]
def dc21_r3 : List DOp := [⟨some 3, .alloc 80 [.lit (.pointer none), .lit (.slice none 0 0)], none⟩]
def dc21_r4 : List DOp := [⟨some 11, .mv (.s 0), none⟩,
    ⟨some 12, .lenL (.s 11), none⟩,
    ⟨some 13, .mv (.c (.lit (.int .i64 0))), none⟩]
def dc21_r5 : List DOp := [⟨some 14, .bin .lss (.s 13) (.s 12), none⟩]
def dc21_r6 : List DOp := [⟨some 15, .iad 4 (.s 11) (.s 13), none⟩,
    ⟨some 16, .load 4 true (.s 15), none⟩,
    ⟨some 5, .alloc 42 [.lit (.string ⟨#[]⟩), .lit (.string ⟨#[]⟩), .lit (.int .i64 0), .lit (.slice none 0 0)], none⟩,
    ⟨none, .store 4 (.s 5) (.s 16), none⟩]
def dc21_r7 : List DOp := [⟨some 17, .fad 0 (.s 5), none⟩,
    ⟨some 18, .load 1 false (.s 17), none⟩,
    ⟨none, .frz 3, none⟩,
    ⟨none, .frz 18, none⟩,
    ⟨some 19, .call (.c (.fn 38 [])) [.s 3, .s 18], none⟩]
def dc21_r8 : List DOp := [⟨some 20, .fad 1 (.s 5), none⟩,
    ⟨some 21, .load 1 false (.s 20), none⟩,
    ⟨some 22, .bin .neq (.s 21) (.c (.lit (.string ⟨#[]⟩))), none⟩]
def dc21_r9 : List DOp := [⟨some 23, .fad 1 (.s 5), none⟩,
    ⟨some 24, .load 1 false (.s 23), none⟩,
    ⟨some 25, .bin .add (.c (.lit (.string ⟨#[32, 105, 110, 32]⟩))) (.s 24), none⟩,
    ⟨none, .frz 3, none⟩,
    ⟨none, .frz 25, none⟩,
    ⟨some 26, .call (.c (.fn 38 [])) [.s 3, .s 25], none⟩]
def dc21_r10 : List DOp := [⟨some 27, .fad 2 (.s 5), none⟩,
    ⟨some 28, .load 1 false (.s 27), none⟩,
    ⟨none, .frz 28, none⟩,
    ⟨some 29, .call (.c (.fn 39 [])) [.s 28], none⟩,
    ⟨some 30, .bin .add (.c (.lit (.string ⟨#[58, 32]⟩))) (.s 29), none⟩,
    ⟨some 31, .bin .add (.s 30) (.c (.lit (.string ⟨#[32, 111, 102, 32]⟩))), none⟩,
    ⟨none, .frz 3, none⟩,
    ⟨none, .frz 31, none⟩,
    ⟨some 32, .call (.c (.fn 38 [])) [.s 3, .s 31], none⟩]
def dc21_r11 : List DOp := [⟨some 33, .fad 3 (.s 5), none⟩,
    ⟨some 34, .load 1 false (.s 33), none⟩,
    ⟨some 35, .lenL (.s 34), none⟩,
    ⟨some 36, .mv (.c (.lit (.int .i64 0))), none⟩]
def dc21_r12 : List DOp := [⟨some 37, .bin .lss (.s 36) (.s 35), none⟩]
def dc21_r13 : List DOp := [⟨some 38, .mv (.s 36), none⟩,
    ⟨some 39, .iad 1 (.s 34) (.s 36), none⟩,
    ⟨some 40, .load 1 false (.s 39), none⟩,
    ⟨some 6, .mv (.s 38), none⟩,
    ⟨some 7, .mv (.s 40), none⟩]
def dc21_r14 : List DOp := [⟨some 41, .mv (.s 6), none⟩,
    ⟨some 42, .bin .gtr (.s 41) (.c (.lit (.int .i64 0))), none⟩]
def dc21_r15 : List DOp := [⟨none, .frz 3, none⟩,
    ⟨some 43, .call (.c (.fn 38 [])) [.s 3, .c (.lit (.string ⟨#[44, 32]⟩))], none⟩]
def dc21_r16 : List DOp := [⟨some 44, .mv (.s 7), none⟩,
    ⟨none, .frz 44, none⟩,
    ⟨some 45, .call (.c (.fn 39 [])) [.s 44], none⟩,
    ⟨none, .frz 3, none⟩,
    ⟨none, .frz 45, none⟩,
    ⟨some 46, .call (.c (.fn 38 [])) [.s 3, .s 45], none⟩]
def dc21_r17 : List DOp := [⟨some 47, .bin .add (.s 36) (.c (.lit (.int .i64 1))), none⟩,
    ⟨some 36, .mv (.s 47), none⟩]
def dc21_r18 : List DOp := [⟨none, .frz 3, none⟩,
    ⟨some 48, .call (.c (.fn 38 [])) [.s 3, .c (.lit (.string ⟨#[10]⟩))], none⟩]
def dc21_r19 : List DOp := [⟨some 49, .bin .add (.s 13) (.c (.lit (.int .i64 1))), none⟩,
    ⟨some 13, .mv (.s 49), none⟩]
def dc21_r20 : List DOp := [⟨none, .frz 3, none⟩,
    ⟨some 50, .call (.c (.fn 40 [])) [.s 3], none⟩,
    ⟨some 2, .mv (.s 50), none⟩]
def dc21 : DC :=
 .seq (.reg dc21_r0)
 (.seq (.seq (.reg dc21_r1)
 (.cond (.s 10) (.seq (.reg dc21_r2)
 (.ret))
 (.skip)))
 (.seq (.reg dc21_r3)
 (.seq (.seq (.reg dc21_r4)
 (.block 0 (.loop (.seq (.reg dc21_r5)
 (.seq (.cond (.s 14) (.skip)
 (.exit 0))
 (.seq (.block 1 (.seq (.reg dc21_r6)
 (.seq (.reg dc21_r7)
 (.seq (.seq (.reg dc21_r8)
 (.cond (.s 22) (.reg dc21_r9)
 (.skip)))
 (.seq (.reg dc21_r10)
 (.seq (.seq (.reg dc21_r11)
 (.block 2 (.loop (.seq (.reg dc21_r12)
 (.seq (.cond (.s 37) (.skip)
 (.exit 2))
 (.seq (.block 3 (.seq (.reg dc21_r13)
 (.seq (.seq (.reg dc21_r14)
 (.cond (.s 42) (.reg dc21_r15)
 (.skip)))
 (.reg dc21_r16))))
 (.reg dc21_r17)))))))
 (.reg dc21_r18)))))))
 (.reg dc21_r19)))))))
 (.seq (.reg dc21_r20)
 (.ret)))))
theorem dc21_ok : trCode Tryd.prog Tryd.f21.ntmps { rows := [], keep := [], pre := [], own := [], preg := [] } (Tryd.f21.body.getD .skip) = some dc21 := by kernel_rfl
theorem s21 {G : Nat → D} {ds : List D} {H : List O} {Q : D → List O → Prop} (hn : ds.length ≤ Tryd.f21.ntmps) (hv : vc (CallA Tryd.prog G) G dc21 (args0 ds) H (retK [.tmp 2] Q)) : CallA Tryd.prog G 21 ds H Q :=
  CallA.of_vc (by kernel_rfl) Tryd.func21 (by kernel_rfl) (cd := Tryd.f21.body.getD .skip) (by kernel_rfl) hn dc21_ok (by kernel_rfl) hv
def dc9_r0 : List DOp := [⟨some 6, .mv (.c (.lit (.slice none 0 0))), none⟩]
def dc9_r1 : List DOp := [⟨some 7, .mv (.c (.lit (.slice none 0 0))), none⟩]
def dc9_r2 : List DOp := [⟨some 14, .mv (.s 0), none⟩,
    ⟨some 15, .mv (.s 2), none⟩,
    ⟨some 16, .bin .add (.s 15) (.c (.lit (.int .i64 1))), none⟩,
    ⟨none, .frz 14, none⟩,
    ⟨none, .frz 16, none⟩,
    ⟨some 17, .call (.c (.fn 13 [])) [.s 14, .c (.lit (.int .i64 0)), .s 16], none⟩,
    ⟨some 8, .mv (.s 17), none⟩]
def dc9_r3 : List DOp := [⟨some 9, .mv (.c (.lit (.int .i64 0))), none⟩]
def dc9_r4 : List DOp := [⟨some 18, .mv (.s 9), none⟩,
    ⟨some 19, .mv (.s 8), none⟩,
    ⟨some 20, .bin .lss (.s 18) (.s 19), none⟩]
def dc9_r6 : List DOp := [⟨some 23, .call (.c (.fn 27 [])) [], none⟩,
    ⟨some 24, .mv (.s 0), none⟩,
    ⟨some 25, .mv (.s 9), none⟩,
    ⟨some 26, .bin .add (.c (.lit (.int .i64 1))) (.s 25), none⟩,
    ⟨none, .frz 24, none⟩,
    ⟨none, .frz 26, none⟩,
    ⟨some 27, .call (.c (.fn 13 [])) [.s 24, .s 26, .c (.lit (.int .i64 7))], none⟩,
    ⟨some 28, .iad 1 (.s 23) (.s 27), none⟩,
    ⟨some 29, .load 1 false (.s 28), none⟩,
    ⟨none, .frz 29, none⟩,
    ⟨some 30, .bld [.lit (.string ⟨#[]⟩), .lit (.string ⟨#[]⟩), .lit (.int .i64 0), .lit (.slice none 0 0)] [(0, 1, .s 29)], none⟩,
    ⟨some 10, .alloc 42 [.lit (.string ⟨#[]⟩), .lit (.string ⟨#[]⟩), .lit (.int .i64 0), .lit (.slice none 0 0)], none⟩,
    ⟨none, .store 4 (.s 10) (.s 30), none⟩]
def dc9_r7 : List DOp := [⟨some 31, .mv (.s 0), none⟩,
    ⟨some 32, .mv (.s 9), none⟩,
    ⟨some 33, .bin .add (.c (.lit (.int .i64 9))) (.s 32), none⟩,
    ⟨some 34, .mv (.s 1), none⟩,
    ⟨some 35, .lenL (.s 34), none⟩,
    ⟨some 36, .bin .mul (.c (.lit (.int .i64 2))) (.s 35), none⟩,
    ⟨some 37, .bin .add (.s 36) (.c (.lit (.int .i64 1))), none⟩,
    ⟨none, .frz 31, none⟩,
    ⟨none, .frz 33, none⟩,
    ⟨none, .frz 37, none⟩,
    ⟨some 38, .call (.c (.fn 13 [])) [.s 31, .s 33, .s 37], none⟩,
    ⟨some 11, .mv (.s 38), none⟩]
def dc9_r8 : List DOp := [⟨some 39, .mv (.s 11), none⟩,
    ⟨some 40, .mv (.s 1), none⟩,
    ⟨some 41, .lenL (.s 40), none⟩,
    ⟨some 42, .bin .lss (.s 39) (.s 41), none⟩]
def dc9_r9 : List DOp := [⟨some 43, .mv (.s 1), none⟩,
    ⟨some 44, .mv (.s 11), none⟩,
    ⟨some 45, .iad 1 (.s 43) (.s 44), none⟩,
    ⟨some 46, .load 1 false (.s 45), none⟩,
    ⟨some 47, .fad 1 (.s 10), none⟩,
    ⟨none, .store 1 (.s 47) (.s 46), none⟩]
def dc9_r10 : List DOp := [⟨some 48, .mv (.s 0), none⟩,
    ⟨some 49, .mv (.s 9), none⟩,
    ⟨some 50, .bin .add (.c (.lit (.int .i64 17))) (.s 49), none⟩,
    ⟨none, .frz 48, none⟩,
    ⟨none, .frz 50, none⟩,
    ⟨some 51, .call (.c (.fn 13 [])) [.s 48, .s 50, .c (.lit (.int .i64 255))], none⟩,
    ⟨some 52, .bin .add (.c (.lit (.int .i64 1))) (.s 51), none⟩,
    ⟨some 12, .mv (.s 52), none⟩]
def dc9_r11 : List DOp := [⟨some 13, .mv (.c (.lit (.int .i64 0))), none⟩]
def dc9_r12 : List DOp := [⟨some 53, .mv (.s 13), none⟩,
    ⟨some 54, .bin .lss (.s 53) (.c (.lit (.int .i64 8))), none⟩]
def dc9_r14 : List DOp := [⟨some 57, .mv (.s 12), none⟩,
    ⟨some 58, .bin .rem (.s 57) (.c (.lit (.int .i64 2))), none⟩,
    ⟨some 59, .bin .eql (.s 58) (.c (.lit (.int .i64 1))), none⟩]
def dc9_r15 : List DOp := [⟨some 60, .fad 3 (.s 10), none⟩,
    ⟨some 61, .load 1 false (.s 60), none⟩,
    ⟨some 62, .mv (.s 13), none⟩,
    ⟨none, .frz 62, none⟩,
    ⟨some 63, .bsl false 3 1 [.s 62], none⟩,
    ⟨none, .frz 63, none⟩,
    ⟨some 64, .app 3 1 8 (.s 61) (.s 63), none⟩,
    ⟨some 65, .fad 3 (.s 10), none⟩,
    ⟨none, .store 1 (.s 65) (.s 64), none⟩]
def dc9_r16 : List DOp := [⟨some 66, .mv (.s 12), none⟩,
    ⟨some 67, .bin .quo (.s 66) (.c (.lit (.int .i64 2))), none⟩,
    ⟨some 12, .mv (.s 67), none⟩]
def dc9_r13 : List DOp := [⟨some 55, .mv (.s 13), none⟩,
    ⟨some 56, .bin .add (.s 55) (.c (.lit (.int .i64 1))), none⟩,
    ⟨some 13, .mv (.s 56), none⟩]
def dc9_r17 : List DOp := [⟨some 68, .mv (.s 0), none⟩,
    ⟨some 69, .mv (.s 9), none⟩,
    ⟨some 70, .bin .add (.c (.lit (.int .i64 25))) (.s 69), none⟩,
    ⟨some 71, .fad 3 (.s 10), none⟩,
    ⟨some 72, .load 1 false (.s 71), none⟩,
    ⟨some 73, .lenL (.s 72), none⟩,
    ⟨none, .frz 68, none⟩,
    ⟨none, .frz 70, none⟩,
    ⟨none, .frz 73, none⟩,
    ⟨some 74, .call (.c (.fn 13 [])) [.s 68, .s 70, .s 73], none⟩,
    ⟨some 75, .bin .add (.c (.lit (.int .i64 1))) (.s 74), none⟩,
    ⟨some 76, .fad 2 (.s 10), none⟩,
    ⟨none, .store 1 (.s 76) (.s 75), none⟩]
def dc9_r18 : List DOp := [⟨some 77, .mv (.s 7), none⟩,
    ⟨some 78, .load 4 true (.s 10), none⟩,
    ⟨none, .frz 78, none⟩,
    ⟨some 79, .bsl false 42 4 [.s 78], none⟩,
    ⟨none, .frz 79, none⟩,
    ⟨some 80, .app 42 4 64 (.s 77) (.s 79), none⟩,
    ⟨some 7, .mv (.s 80), none⟩]
def dc9_r5 : List DOp := [⟨some 21, .mv (.s 9), none⟩,
    ⟨some 22, .bin .add (.s 21) (.c (.lit (.int .i64 1))), none⟩,
    ⟨some 9, .mv (.s 22), none⟩]
def dc9_r19 : List DOp := [⟨some 81, .mv (.s 7), none⟩,
    ⟨some 6, .mv (.s 81), none⟩]
def dc9 : DC :=
 .seq (.reg dc9_r0)
 (.seq (.seq (.reg dc9_r1)
 (.own [.own 7 42 4]))
 (.seq (.reg dc9_r2)
 (.seq (.seq (.reg dc9_r3)
 (.block 0 (.loop (.seq (.seq (.reg dc9_r4)
 (.cond (.s 20) (.skip)
 (.exit 0)))
 (.seq (.block 1 (.seq (.seq (.reg dc9_r6)
 (.own [.ownb 10 3 3 1]))
 (.seq (.reg dc9_r7)
 (.seq (.seq (.reg dc9_r8)
 (.cond (.s 42) (.reg dc9_r9)
 (.skip)))
 (.seq (.reg dc9_r10)
 (.seq (.seq (.reg dc9_r11)
 (.block 2 (.loop (.seq (.seq (.reg dc9_r12)
 (.cond (.s 54) (.skip)
 (.exit 2)))
 (.seq (.block 3 (.seq (.seq (.reg dc9_r14)
 (.cond (.s 59) (.reg dc9_r15)
 (.skip)))
 (.reg dc9_r16)))
 (.reg dc9_r13))))))
 (.seq (.seq (.reg dc9_r17)
 (.own [.frzb 10 3]))
 (.reg dc9_r18))))))))
 (.reg dc9_r5))))))
 (.seq (.reg dc9_r19)
 (.ret)))))
theorem dc9_ok : trCode Tryd.prog Tryd.f9.ntmps { rows := [], keep := [], pre := [], own := [(1, [.own 7 42 4]), (6, [.ownb 10 3 3 1]), (17, [.frzb 10 3])], preg := [] } (Tryd.f9.body.getD .skip) = some dc9 := by kernel_rfl
theorem s9 {G : Nat → D} {ds : List D} {H : List O} {Q : D → List O → Prop} (hn : ds.length ≤ Tryd.f9.ntmps) (hv : vc (CallA Tryd.prog G) G dc9 (args0 ds) H (retK [.tmp 6] Q)) : CallA Tryd.prog G 9 ds H Q :=
  CallA.of_vc (by kernel_rfl) Tryd.func9 (by kernel_rfl) (cd := Tryd.f9.body.getD .skip) (by kernel_rfl) hn dc9_ok (by kernel_rfl) hv
def dc12_r0 : List DOp := [⟨some 4, .mv (.c (.lit (.string ⟨#[]⟩))), none⟩]
def dc12_r1 : List DOp := [⟨some 8, .mv (.s 0), none⟩,
    ⟨none, .frz 8, none⟩,
    ⟨some 9, .call (.c (.fn 11 [])) [.s 8, .c (.lit (.int .i64 1000000))], none⟩,
    ⟨some 5, .mv (.s 9), none⟩]
def dc12_r2 : List DOp := [⟨some 10, .bsl false 9 1 [.c (.lit (.string ⟨#[]⟩)), .c (.lit (.string ⟨#[32]⟩)), .c (.lit (.string ⟨#[10]⟩)), .c (.lit (.string ⟨#[32, 32]⟩)), .c (.lit (.string ⟨#[35, 32, 97, 32, 40, 98, 10]⟩)), .c (.lit (.string ⟨#[32, 35, 10, 32]⟩)), .c (.lit (.string ⟨#[10, 10]⟩)), .c (.lit (.string ⟨#[35, 255, 35, 32, 49, 10]⟩))], none⟩,
    ⟨some 6, .mv (.s 10), none⟩]
def dc12_r3 : List DOp := [⟨some 11, .mv (.s 6), none⟩,
    ⟨some 12, .mv (.s 5), none⟩,
    ⟨some 13, .bin .rem (.s 12) (.c (.lit (.int .i64 8))), none⟩,
    ⟨some 14, .iad 1 (.s 11) (.s 13), none⟩,
    ⟨some 15, .load 1 false (.s 14), none⟩,
    ⟨some 7, .mv (.s 15), none⟩]
def dc12_r4 : List DOp := [⟨some 16, .mv (.s 5), none⟩,
    ⟨some 17, .bin .rem (.s 16) (.c (.lit (.int .i64 3))), none⟩,
    ⟨some 18, .bin .eql (.s 17) (.c (.lit (.int .i64 0))), none⟩]
def dc12_r5 : List DOp := [⟨some 19, .mv (.s 7), none⟩,
    ⟨some 20, .mv (.s 6), none⟩,
    ⟨some 21, .mv (.s 5), none⟩,
    ⟨some 22, .bin .quo (.s 21) (.c (.lit (.int .i64 8))), none⟩,
    ⟨some 23, .bin .rem (.s 22) (.c (.lit (.int .i64 8))), none⟩,
    ⟨some 24, .iad 1 (.s 20) (.s 23), none⟩,
    ⟨some 25, .load 1 false (.s 24), none⟩,
    ⟨some 26, .bin .add (.s 19) (.s 25), none⟩,
    ⟨some 7, .mv (.s 26), none⟩]
def dc12_r6 : List DOp := [⟨some 27, .mv (.s 7), none⟩,
    ⟨some 28, .bin .eql (.s 27) (.c (.lit (.string ⟨#[]⟩))), none⟩,
    ⟨some 29, .mv (.s 28), none⟩,
    ⟨some 30, .mv (.s 1), some (29, true)⟩,
    ⟨some 31, .bin .neq (.s 30) (.c (.lit (.int .i64 0))), some (29, true)⟩,
    ⟨some 32, .pick (.s 29) (.s 31) (.c (.lit (.bool false))), none⟩]
def dc12_r7 : List DOp := [⟨some 4, .mv (.c (.lit (.string ⟨#[32]⟩))), none⟩]
def dc12_r8 : List DOp := [⟨some 33, .mv (.s 7), none⟩,
    ⟨some 4, .mv (.s 33), none⟩]
def dc12 : DC :=
 .seq (.reg dc12_r0)
 (.seq (.reg dc12_r1)
 (.seq (.reg dc12_r2)
 (.seq (.reg dc12_r3)
 (.seq (.seq (.reg dc12_r4)
 (.cond (.s 18) (.reg dc12_r5)
 (.skip)))
 (.seq (.seq (.reg dc12_r6)
 (.cond (.s 32) (.seq (.reg dc12_r7)
 (.ret))
 (.skip)))
 (.seq (.reg dc12_r8)
 (.ret)))))))
theorem dc12_ok : trCode Tryd.prog Tryd.f12.ntmps { rows := [], keep := [], pre := [], own := [], preg := [] } (Tryd.f12.body.getD .skip) = some dc12 := by kernel_rfl
theorem s12 {G : Nat → D} {ds : List D} {H : List O} {Q : D → List O → Prop} (hn : ds.length ≤ Tryd.f12.ntmps) (hv : vc (CallA Tryd.prog G) G dc12 (args0 ds) H (retK [.tmp 4] Q)) : CallA Tryd.prog G 12 ds H Q :=
  CallA.of_vc (by kernel_rfl) Tryd.func12 (by kernel_rfl) (cd := Tryd.f12.body.getD .skip) (by kernel_rfl) hn dc12_ok (by kernel_rfl) hv
def dc25_r0 : List DOp := [⟨some 4, .mv (.c (.lit (.string ⟨#[]⟩))), none⟩]
def dc25_r1 : List DOp := [⟨some 5, .alloc 80 [.lit (.pointer none), .lit (.slice none 0 0)], none⟩]
def dc25_r2 : List DOp := [⟨some 8, .mv (.s 0), none⟩,
    ⟨some 9, .lenL (.s 8), none⟩,
    ⟨some 10, .mv (.c (.lit (.int .i64 0))), none⟩]
def dc25_r3 : List DOp := [⟨some 11, .bin .lss (.s 10) (.s 9), none⟩]
def dc25_r4 : List DOp := [⟨some 12, .iad 2 (.s 8) (.s 10), none⟩,
    ⟨some 13, .load 2 true (.s 12), none⟩,
    ⟨some 7, .alloc 52 [.lit (.string ⟨#[]⟩), .lit (.string ⟨#[]⟩)], none⟩,
    ⟨none, .store 2 (.s 7) (.s 13), none⟩]
def dc25_r5 : List DOp := [⟨some 14, .fad 1 (.s 7), none⟩,
    ⟨some 15, .load 1 false (.s 14), none⟩,
    ⟨some 16, .fad 0 (.s 7), none⟩,
    ⟨some 17, .load 1 false (.s 16), none⟩,
    ⟨some 18, .bin .add (.s 15) (.s 17), none⟩,
    ⟨none, .frz 5, none⟩,
    ⟨none, .frz 18, none⟩,
    ⟨some 19, .call (.c (.fn 38 [])) [.s 5, .s 18], none⟩]
def dc25_r6 : List DOp := [⟨some 20, .bin .add (.s 10) (.c (.lit (.int .i64 1))), none⟩,
    ⟨some 10, .mv (.s 20), none⟩]
def dc25_r7 : List DOp := [⟨none, .frz 5, none⟩,
    ⟨some 21, .call (.c (.fn 40 [])) [.s 5], none⟩,
    ⟨some 22, .mv (.s 1), none⟩,
    ⟨some 23, .bin .add (.s 21) (.s 22), none⟩,
    ⟨some 4, .mv (.s 23), none⟩]
def dc25 : DC :=
 .seq (.reg dc25_r0)
 (.seq (.reg dc25_r1)
 (.seq (.seq (.reg dc25_r2)
 (.block 0 (.loop (.seq (.reg dc25_r3)
 (.seq (.cond (.s 11) (.skip)
 (.exit 0))
 (.seq (.block 1 (.seq (.reg dc25_r4)
 (.reg dc25_r5)))
 (.reg dc25_r6)))))))
 (.seq (.reg dc25_r7)
 (.ret))))
theorem dc25_ok : trCode Tryd.prog Tryd.f25.ntmps { rows := [], keep := [], pre := [], own := [], preg := [] } (Tryd.f25.body.getD .skip) = some dc25 := by kernel_rfl
theorem s25 {G : Nat → D} {ds : List D} {H : List O} {Q : D → List O → Prop} (hn : ds.length ≤ Tryd.f25.ntmps) (hv : vc (CallA Tryd.prog G) G dc25 (args0 ds) H (retK [.tmp 4] Q)) : CallA Tryd.prog G 25 ds H Q :=
  CallA.of_vc (by kernel_rfl) Tryd.func25 (by kernel_rfl) (cd := Tryd.f25.body.getD .skip) (by kernel_rfl) hn dc25_ok (by kernel_rfl) hv
def dc5_r0 : List DOp := [⟨some 10, .mv (.c (.lit (.bool false))), none⟩]
def dc5_r1 : List DOp := [⟨some 18, .mv (.s 0), none⟩,
    ⟨none, .frz 18, none⟩,
    ⟨some 19, .call (.c (.fn 9 [])) [.s 18, .c (.lit (.slice none 0 0)), .c (.lit (.int .i64 4))], none⟩,
    ⟨some 11, .mv (.s 19), none⟩]
def dc5_r2 : List DOp := [⟨some 12, .mv (.c (.lit (.slice none 0 0))), none⟩]
def dc5_r3 : List DOp := [⟨some 13, .mv (.c (.lit (.int .i64 0))), none⟩]
def dc5_r4 : List DOp := [⟨some 20, .mv (.s 13), none⟩,
    ⟨some 21, .mv (.s 2), none⟩,
    ⟨some 22, .lenL (.s 21), none⟩,
    ⟨some 23, .bin .lss (.s 20) (.s 22), none⟩,
    ⟨some 24, .mv (.s 23), none⟩,
    ⟨some 25, .mv (.s 13), some (24, true)⟩,
    ⟨some 26, .bin .lss (.s 25) (.c (.lit (.int .i64 12))), some (24, true)⟩,
    ⟨some 27, .pick (.s 24) (.s 26) (.c (.lit (.bool false))), none⟩]
def dc5_r6 : List DOp := [⟨some 30, .mv (.s 12), none⟩,
    ⟨some 31, .mv (.s 2), none⟩,
    ⟨some 32, .mv (.s 13), none⟩,
    ⟨some 33, .iad 1 (.s 31) (.s 32), none⟩,
    ⟨some 34, .load 1 false (.s 33), none⟩,
    ⟨none, .frz 34, none⟩,
    ⟨some 35, .call (.c (.fn 11 [])) [.s 34, .c (.lit (.int .i64 9))], none⟩,
    ⟨none, .frz 35, none⟩,
    ⟨some 36, .bsl false 3 1 [.s 35], none⟩,
    ⟨none, .frz 36, none⟩,
    ⟨some 37, .app 3 1 8 (.s 30) (.s 36), none⟩,
    ⟨some 12, .mv (.s 37), none⟩]
def dc5_r5 : List DOp := [⟨some 28, .mv (.s 13), none⟩,
    ⟨some 29, .bin .add (.s 28) (.c (.lit (.int .i64 1))), none⟩,
    ⟨some 13, .mv (.s 29), none⟩]
def dc5_r7 : List DOp := [⟨some 38, .mv (.s 11), none⟩,
    ⟨some 39, .mv (.s 11), none⟩,
    ⟨some 40, .mv (.s 3), none⟩,
    ⟨some 41, .mv (.s 4), none⟩,
    ⟨some 42, .mv (.s 1), none⟩,
    ⟨some 43, .call (.c (.fn 18 [])) [.s 39, .s 40, .s 41, .s 42], none⟩,
    ⟨some 44, .mv (.s 11), none⟩,
    ⟨some 45, .mv (.s 11), none⟩,
    ⟨some 46, .lenL (.s 45), none⟩,
    ⟨some 47, .bin .quo (.s 46) (.c (.lit (.int .i64 2))), none⟩,
    ⟨some 48, .slcL 4 (.s 44) none (some (.s 47)), none⟩,
    ⟨some 49, .bsl false 24 1 [.s 38, .s 43, .s 48, .c (.lit (.slice none 0 0))], none⟩,
    ⟨some 14, .mv (.s 49), none⟩]
def dc5_r8 : List DOp := [⟨some 50, .mv (.s 1), none⟩,
    ⟨some 51, .mv (.s 1), none⟩,
    ⟨none, .frz 51, none⟩,
    ⟨some 52, .call (.c (.fn 11 [])) [.s 51, .c (.lit (.int .i64 8))], none⟩,
    ⟨none, .frz 50, none⟩,
    ⟨none, .frz 52, none⟩,
    ⟨some 53, .bsl false 3 1 [.s 50, .s 52], none⟩,
    ⟨some 15, .mv (.s 53), none⟩]
def dc5_r9 : List DOp := [⟨some 16, .mv (.c (.lit (.int .i64 0))), none⟩]
def dc5_r10 : List DOp := [⟨some 54, .mv (.s 16), none⟩,
    ⟨some 55, .mv (.s 14), none⟩,
    ⟨some 56, .lenL (.s 55), none⟩,
    ⟨some 57, .bin .lss (.s 54) (.s 56), none⟩]
def dc5_r12 : List DOp := [⟨some 17, .mv (.c (.lit (.int .i64 0))), none⟩]
def dc5_r13 : List DOp := [⟨some 60, .mv (.s 17), none⟩,
    ⟨some 61, .bin .lss (.s 60) (.c (.lit (.int .i64 2))), none⟩]
def dc5_r15 : List DOp := [⟨some 64, .mv (.s 14), none⟩,
    ⟨some 65, .mv (.s 16), none⟩,
    ⟨some 66, .iad 1 (.s 64) (.s 65), none⟩,
    ⟨some 67, .load 1 false (.s 66), none⟩,
    ⟨some 68, .mv (.s 15), none⟩,
    ⟨some 69, .mv (.s 17), none⟩,
    ⟨some 70, .iad 1 (.s 68) (.s 69), none⟩,
    ⟨some 71, .load 1 false (.s 70), none⟩,
    ⟨some 72, .mv (.s 12), none⟩,
    ⟨some 73, .call (.c (.fn 22 [])) [.s 67, .s 71, .s 72], none⟩,
    ⟨some 74, .mv (.s 14), none⟩,
    ⟨some 75, .mv (.s 16), none⟩,
    ⟨some 76, .iad 1 (.s 74) (.s 75), none⟩,
    ⟨some 77, .load 1 false (.s 76), none⟩,
    ⟨some 78, .mv (.s 15), none⟩,
    ⟨some 79, .mv (.s 17), none⟩,
    ⟨some 80, .iad 1 (.s 78) (.s 79), none⟩,
    ⟨some 81, .load 1 false (.s 80), none⟩,
    ⟨some 82, .mv (.s 12), none⟩,
    ⟨some 83, .call (.c (.fn 23 [])) [.s 77, .s 81, .s 82], none⟩,
    ⟨some 84, .eqb .neq (.s 73) (.s 83), none⟩,
    ⟨some 85, .mv (.s 84), none⟩,
    ⟨some 86, .mv (.s 14), some (85, false)⟩,
    ⟨some 87, .mv (.s 16), some (85, false)⟩,
    ⟨some 88, .iad 1 (.s 86) (.s 87), some (85, false)⟩,
    ⟨some 89, .load 1 false (.s 88), some (85, false)⟩,
    ⟨some 90, .mv (.s 15), some (85, false)⟩,
    ⟨some 91, .mv (.s 17), some (85, false)⟩,
    ⟨some 92, .iad 1 (.s 90) (.s 91), some (85, false)⟩,
    ⟨some 93, .load 1 false (.s 92), some (85, false)⟩,
    ⟨some 94, .mv (.s 2), some (85, false)⟩,
    ⟨some 95, .call (.c (.fn 22 [])) [.s 89, .s 93, .s 94], some (85, false)⟩,
    ⟨some 96, .mv (.s 14), some (85, false)⟩,
    ⟨some 97, .mv (.s 16), some (85, false)⟩,
    ⟨some 98, .iad 1 (.s 96) (.s 97), some (85, false)⟩,
    ⟨some 99, .load 1 false (.s 98), some (85, false)⟩,
    ⟨some 100, .mv (.s 15), some (85, false)⟩,
    ⟨some 101, .mv (.s 17), some (85, false)⟩,
    ⟨some 102, .iad 1 (.s 100) (.s 101), some (85, false)⟩,
    ⟨some 103, .load 1 false (.s 102), some (85, false)⟩,
    ⟨some 104, .mv (.s 2), some (85, false)⟩,
    ⟨some 105, .call (.c (.fn 23 [])) [.s 99, .s 103, .s 104], some (85, false)⟩,
    ⟨some 106, .eqb .neq (.s 95) (.s 105), some (85, false)⟩,
    ⟨some 107, .pick (.s 85) (.c (.lit (.bool true))) (.s 106), none⟩]
def dc5_r16 : List DOp := [⟨some 10, .mv (.c (.lit (.bool false))), none⟩]
def dc5_r14 : List DOp := [⟨some 62, .mv (.s 17), none⟩,
    ⟨some 63, .bin .add (.s 62) (.c (.lit (.int .i64 1))), none⟩,
    ⟨some 17, .mv (.s 63), none⟩]
def dc5_r11 : List DOp := [⟨some 58, .mv (.s 16), none⟩,
    ⟨some 59, .bin .add (.s 58) (.c (.lit (.int .i64 1))), none⟩,
    ⟨some 16, .mv (.s 59), none⟩]
def dc5_r17 : List DOp := [⟨some 108, .call (.c (.fn 17 [])) [], none⟩,
    ⟨some 10, .mv (.s 108), none⟩]
def dc5 : DC :=
 .seq (.reg dc5_r0)
 (.seq (.reg dc5_r1)
 (.seq (.seq (.reg dc5_r2)
 (.own [.own 12 3 1]))
 (.seq (.seq (.reg dc5_r3)
 (.block 0 (.loop (.seq (.seq (.reg dc5_r4)
 (.cond (.s 27) (.skip)
 (.exit 0)))
 (.seq (.block 1 (.reg dc5_r6))
 (.reg dc5_r5))))))
 (.seq (.seq (.own [.frz 12])
 (.drw dc5_r7))
 (.seq (.reg dc5_r8)
 (.seq (.seq (.reg dc5_r9)
 (.block 2 (.loop (.seq (.seq (.reg dc5_r10)
 (.cond (.s 57) (.skip)
 (.exit 2)))
 (.seq (.block 3 (.seq (.reg dc5_r12)
 (.block 4 (.loop (.seq (.seq (.reg dc5_r13)
 (.cond (.s 61) (.skip)
 (.exit 4)))
 (.seq (.block 5 (.seq (.drw dc5_r15)
 (.cond (.s 107) (.seq (.reg dc5_r16)
 (.ret))
 (.skip))))
 (.reg dc5_r14)))))))
 (.reg dc5_r11))))))
 (.seq (.reg dc5_r17)
 (.ret))))))))
theorem dc5_ok : trCode Tryd.prog Tryd.f5.ntmps { rows := [], keep := [], pre := [], own := [(2, [.own 12 3 1])], preg := [(7, [.frz 12])] } (Tryd.f5.body.getD .skip) = some dc5 := by kernel_rfl
theorem s5 {G : Nat → D} {ds : List D} {H : List O} {Q : D → List O → Prop} (hn : ds.length ≤ Tryd.f5.ntmps) (hv : vc (CallA Tryd.prog G) G dc5 (args0 ds) H (retK [.tmp 10] Q)) : CallA Tryd.prog G 5 ds H Q :=
  CallA.of_vc (by kernel_rfl) Tryd.func5 (by kernel_rfl) (cd := Tryd.f5.body.getD .skip) (by kernel_rfl) hn dc5_ok (by kernel_rfl) hv
def dc6_r0 : List DOp := [⟨some 10, .mv (.c (.lit (.bool false))), none⟩]
def dc6_r1 : List DOp := [⟨some 24, .mv (.s 0), none⟩,
    ⟨none, .frz 24, none⟩,
    ⟨some 25, .call (.c (.fn 9 [])) [.s 24, .c (.lit (.slice none 0 0)), .c (.lit (.int .i64 3))], none⟩,
    ⟨some 11, .mv (.s 25), none⟩]
def dc6_r2 : List DOp := [⟨some 26, .mv (.s 1), none⟩,
    ⟨none, .frz 26, none⟩,
    ⟨some 27, .call (.c (.fn 9 [])) [.s 26, .c (.lit (.slice none 0 0)), .c (.lit (.int .i64 3))], none⟩,
    ⟨some 12, .mv (.s 27), none⟩]
def dc6_r3 : List DOp := [⟨some 28, .mv (.s 2), none⟩,
    ⟨none, .frz 28, none⟩,
    ⟨some 29, .call (.c (.fn 11 [])) [.s 28, .c (.lit (.int .i64 8))], none⟩,
    ⟨some 13, .mv (.s 29), none⟩]
def dc6_r4 : List DOp := [⟨some 14, .mv (.c (.lit (.slice none 0 0))), none⟩]
def dc6_r5 : List DOp := [⟨some 15, .mv (.c (.lit (.slice none 0 0))), none⟩]
def dc6_r6 : List DOp := [⟨some 16, .mv (.c (.lit (.int .i64 0))), none⟩]
def dc6_r7 : List DOp := [⟨some 30, .mv (.s 16), none⟩,
    ⟨some 31, .mv (.s 3), none⟩,
    ⟨some 32, .lenL (.s 31), none⟩,
    ⟨some 33, .bin .lss (.s 30) (.s 32), none⟩,
    ⟨some 34, .mv (.s 33), none⟩,
    ⟨some 35, .mv (.s 16), some (34, true)⟩,
    ⟨some 36, .bin .lss (.s 35) (.c (.lit (.int .i64 10))), some (34, true)⟩,
    ⟨some 37, .pick (.s 34) (.s 36) (.c (.lit (.bool false))), none⟩]
def dc6_r9 : List DOp := [⟨some 40, .mv (.s 3), none⟩,
    ⟨some 41, .mv (.s 16), none⟩,
    ⟨some 42, .iad 1 (.s 40) (.s 41), none⟩,
    ⟨some 43, .load 1 false (.s 42), none⟩,
    ⟨none, .frz 43, none⟩,
    ⟨some 44, .call (.c (.fn 11 [])) [.s 43, .c (.lit (.int .i64 8))], none⟩,
    ⟨some 17, .mv (.s 44), none⟩]
def dc6_r10 : List DOp := [⟨some 45, .mv (.s 14), none⟩,
    ⟨some 46, .mv (.s 17), none⟩,
    ⟨none, .frz 46, none⟩,
    ⟨some 47, .bsl false 3 1 [.s 46], none⟩,
    ⟨none, .frz 47, none⟩,
    ⟨some 48, .app 3 1 8 (.s 45) (.s 47), none⟩,
    ⟨some 14, .mv (.s 48), none⟩]
def dc6_r11 : List DOp := [⟨some 49, .mv (.s 17), none⟩,
    ⟨some 50, .mv (.s 17), none⟩,
    ⟨none, .frz 49, none⟩,
    ⟨none, .frz 50, none⟩,
    ⟨some 51, .bsl true 3 1 [.s 49, .s 50], none⟩,
    ⟨some 52, .mv (.s 15), none⟩,
    ⟨none, .frz 52, none⟩,
    ⟨some 53, .app 3 1 8 (.s 51) (.s 52), none⟩,
    ⟨some 15, .mv (.s 53), none⟩]
def dc6_r8 : List DOp := [⟨some 38, .mv (.s 16), none⟩,
    ⟨some 39, .bin .add (.s 38) (.c (.lit (.int .i64 1))), none⟩,
    ⟨some 16, .mv (.s 39), none⟩]
def dc6_r12 : List DOp := [⟨some 54, .bsl true 42 4 [], none⟩,
    ⟨some 55, .mv (.s 11), none⟩,
    ⟨none, .frz 55, none⟩,
    ⟨some 56, .app 42 4 64 (.s 54) (.s 55), none⟩,
    ⟨some 57, .mv (.s 12), none⟩,
    ⟨none, .frz 57, none⟩,
    ⟨some 58, .app 42 4 64 (.s 56) (.s 57), none⟩,
    ⟨some 18, .mv (.s 58), none⟩]
def dc6_r13 : List DOp := [⟨some 59, .bsl true 42 4 [], none⟩,
    ⟨some 60, .mv (.s 12), none⟩,
    ⟨none, .frz 60, none⟩,
    ⟨some 61, .app 42 4 64 (.s 59) (.s 60), none⟩,
    ⟨some 62, .mv (.s 11), none⟩,
    ⟨none, .frz 62, none⟩,
    ⟨some 63, .app 42 4 64 (.s 61) (.s 62), none⟩,
    ⟨some 19, .mv (.s 63), none⟩]
def dc6_r14 : List DOp := [⟨some 64, .mv (.s 11), none⟩,
    ⟨some 65, .mv (.s 13), none⟩,
    ⟨some 66, .mv (.s 14), none⟩,
    ⟨none, .frz 64, none⟩,
    ⟨none, .frz 65, none⟩,
    ⟨none, .frz 66, none⟩,
    ⟨some 67, .call (.c (.fn 22 [])) [.s 64, .s 65, .s 66], none⟩,
    ⟨some 20, .mv (.s 67), none⟩]
def dc6_r15 : List DOp := [⟨some 68, .bsl true 3 1 [], none⟩,
    ⟨some 69, .mv (.s 14), none⟩,
    ⟨none, .frz 69, none⟩,
    ⟨some 70, .app 3 1 8 (.s 68) (.s 69), none⟩,
    ⟨some 71, .mv (.s 4), none⟩,
    ⟨none, .frz 71, none⟩,
    ⟨some 72, .call (.c (.fn 11 [])) [.s 71, .c (.lit (.int .i64 8))], none⟩,
    ⟨none, .frz 72, none⟩,
    ⟨some 73, .bsl false 3 1 [.s 72], none⟩,
    ⟨none, .frz 73, none⟩,
    ⟨some 74, .app 3 1 8 (.s 70) (.s 73), none⟩,
    ⟨some 21, .mv (.s 74), none⟩]
def dc6_r16 : List DOp := [⟨some 75, .bsl true 3 1 [], none⟩,
    ⟨some 76, .mv (.s 14), none⟩,
    ⟨none, .frz 76, none⟩,
    ⟨some 77, .app 3 1 8 (.s 75) (.s 76), none⟩,
    ⟨some 78, .mv (.s 13), none⟩,
    ⟨none, .frz 78, none⟩,
    ⟨some 79, .bsl false 3 1 [.s 78], none⟩,
    ⟨none, .frz 79, none⟩,
    ⟨some 80, .app 3 1 8 (.s 77) (.s 79), none⟩,
    ⟨some 22, .mv (.s 80), none⟩]
def dc6_r17 : List DOp := [⟨some 81, .mv (.s 20), none⟩,
    ⟨some 82, .mv (.s 81), none⟩,
    ⟨some 83, .mv (.s 11), some (82, true)⟩,
    ⟨some 84, .mv (.s 13), some (82, true)⟩,
    ⟨some 85, .mv (.s 21), some (82, true)⟩,
    ⟨none, .frz 83, none⟩,
    ⟨none, .frz 84, none⟩,
    ⟨none, .frz 85, none⟩,
    ⟨some 86, .call (.c (.fn 22 [])) [.s 83, .s 84, .s 85], some (82, true)⟩,
    ⟨some 87, .un .not (.s 86), some (82, true)⟩,
    ⟨some 88, .pick (.s 82) (.s 87) (.c (.lit (.bool false))), none⟩,
    ⟨some 89, .mv (.s 88), none⟩,
    ⟨some 90, .mv (.s 20), some (89, false)⟩,
    ⟨some 91, .mv (.s 11), some (89, false)⟩,
    ⟨some 92, .mv (.s 13), some (89, false)⟩,
    ⟨some 93, .mv (.s 22), some (89, false)⟩,
    ⟨none, .frz 91, none⟩,
    ⟨none, .frz 92, none⟩,
    ⟨none, .frz 93, none⟩,
    ⟨some 94, .call (.c (.fn 22 [])) [.s 91, .s 92, .s 93], some (89, false)⟩,
    ⟨some 95, .eqb .neq (.s 90) (.s 94), some (89, false)⟩,
    ⟨some 96, .pick (.s 89) (.c (.lit (.bool true))) (.s 95), none⟩,
    ⟨some 97, .mv (.s 96), none⟩,
    ⟨some 98, .mv (.s 20), some (97, false)⟩,
    ⟨some 99, .mv (.s 11), some (97, false)⟩,
    ⟨some 100, .mv (.s 13), some (97, false)⟩,
    ⟨some 101, .mv (.s 15), some (97, false)⟩,
    ⟨none, .frz 99, none⟩,
    ⟨none, .frz 100, none⟩,
    ⟨none, .frz 101, none⟩,
    ⟨some 102, .call (.c (.fn 22 [])) [.s 99, .s 100, .s 101], some (97, false)⟩,
    ⟨some 103, .eqb .neq (.s 98) (.s 102), some (97, false)⟩,
    ⟨some 104, .pick (.s 97) (.c (.lit (.bool true))) (.s 103), none⟩]
def dc6_r18 : List DOp := [⟨some 10, .mv (.c (.lit (.bool false))), none⟩]
def dc6_r19 : List DOp := [⟨some 105, .mv (.s 18), none⟩,
    ⟨some 106, .mv (.s 13), none⟩,
    ⟨some 107, .mv (.s 14), none⟩,
    ⟨none, .frz 105, none⟩,
    ⟨none, .frz 106, none⟩,
    ⟨none, .frz 107, none⟩,
    ⟨some 108, .call (.c (.fn 22 [])) [.s 105, .s 106, .s 107], none⟩,
    ⟨some 23, .mv (.s 108), none⟩]
def dc6_r20 : List DOp := [⟨some 109, .mv (.s 23), none⟩,
    ⟨some 110, .mv (.s 20), none⟩,
    ⟨some 111, .mv (.s 110), none⟩,
    ⟨some 112, .mv (.s 12), some (111, true)⟩,
    ⟨some 113, .mv (.s 13), some (111, true)⟩,
    ⟨some 114, .mv (.s 14), some (111, true)⟩,
    ⟨none, .frz 112, none⟩,
    ⟨none, .frz 113, none⟩,
    ⟨none, .frz 114, none⟩,
    ⟨some 115, .call (.c (.fn 22 [])) [.s 112, .s 113, .s 114], some (111, true)⟩,
    ⟨some 116, .pick (.s 111) (.s 115) (.c (.lit (.bool false))), none⟩,
    ⟨some 117, .eqb .eql (.s 109) (.s 116), none⟩,
    ⟨some 118, .mv (.s 117), none⟩,
    ⟨some 119, .mv (.s 23), some (118, true)⟩,
    ⟨some 120, .mv (.s 19), some (118, true)⟩,
    ⟨some 121, .mv (.s 13), some (118, true)⟩,
    ⟨some 122, .mv (.s 15), some (118, true)⟩,
    ⟨none, .frz 120, none⟩,
    ⟨none, .frz 121, none⟩,
    ⟨none, .frz 122, none⟩,
    ⟨some 123, .call (.c (.fn 22 [])) [.s 120, .s 121, .s 122], some (118, true)⟩,
    ⟨some 124, .eqb .eql (.s 119) (.s 123), some (118, true)⟩,
    ⟨some 125, .pick (.s 118) (.s 124) (.c (.lit (.bool false))), none⟩,
    ⟨some 126, .mv (.s 125), none⟩,
    ⟨some 127, .call (.c (.fn 17 [])) [], some (126, true)⟩,
    ⟨some 128, .pick (.s 126) (.s 127) (.c (.lit (.bool false))), none⟩,
    ⟨some 10, .mv (.s 128), none⟩]
def dc6 : DC :=
 .seq (.reg dc6_r0)
 (.seq (.reg dc6_r1)
 (.seq (.reg dc6_r2)
 (.seq (.reg dc6_r3)
 (.seq (.seq (.reg dc6_r4)
 (.own [.own 14 3 1]))
 (.seq (.seq (.reg dc6_r5)
 (.own [.own 15 3 1, .frz 15]))
 (.seq (.seq (.reg dc6_r6)
 (.block 0 (.loop (.seq (.seq (.reg dc6_r7)
 (.cond (.s 37) (.skip)
 (.exit 0)))
 (.seq (.block 1 (.seq (.reg dc6_r9)
 (.seq (.reg dc6_r10)
 (.seq (.reg dc6_r11)
 (.own [.frz 15])))))
 (.reg dc6_r8))))))
 (.seq (.seq (.own [.frz 14])
 (.seq (.reg dc6_r12)
 (.own [.frz 18])))
 (.seq (.seq (.reg dc6_r13)
 (.own [.frz 19]))
 (.seq (.reg dc6_r14)
 (.seq (.seq (.reg dc6_r15)
 (.own [.frz 21]))
 (.seq (.seq (.reg dc6_r16)
 (.own [.frz 22]))
 (.seq (.seq (.reg dc6_r17)
 (.cond (.s 104) (.seq (.reg dc6_r18)
 (.ret))
 (.skip)))
 (.seq (.reg dc6_r19)
 (.seq (.reg dc6_r20)
 (.ret)))))))))))))))
theorem dc6_ok : trCode Tryd.prog Tryd.f6.ntmps { rows := [51, 54, 59, 68, 75], keep := [], pre := [], own := [(4, [.own 14 3 1]), (5, [.own 15 3 1, .frz 15]), (11, [.frz 15]), (12, [.frz 18]), (13, [.frz 19]), (15, [.frz 21]), (16, [.frz 22])], preg := [(12, [.frz 14])] } (Tryd.f6.body.getD .skip) = some dc6 := by kernel_rfl
theorem s6 {G : Nat → D} {ds : List D} {H : List O} {Q : D → List O → Prop} (hn : ds.length ≤ Tryd.f6.ntmps) (hv : vc (CallA Tryd.prog G) G dc6 (args0 ds) H (retK [.tmp 10] Q)) : CallA Tryd.prog G 6 ds H Q :=
  CallA.of_vc (by kernel_rfl) Tryd.func6 (by kernel_rfl) (cd := Tryd.f6.body.getD .skip) (by kernel_rfl) hn dc6_ok (by kernel_rfl) hv
def dc7_r0 : List DOp := [⟨some 6, .mv (.c (.lit (.bool false))), none⟩]
def dc7_r1 : List DOp := [⟨some 19, .mv (.s 0), none⟩,
    ⟨some 20, .bsl false 9 1 [.c (.lit (.string ⟨#[109, 105, 108, 108]⟩)), .c (.lit (.string ⟨#[109, 49]⟩)), .c (.lit (.string ⟨#[111, 102]⟩))], none⟩,
    ⟨none, .frz 19, none⟩,
    ⟨none, .frz 20, none⟩,
    ⟨some 21, .call (.c (.fn 9 [])) [.s 19, .s 20, .c (.lit (.int .i64 6))], none⟩,
    ⟨some 7, .mv (.s 21), none⟩]
def dc7_r2 : List DOp := [⟨some 22, .mv (.s 7), none⟩,
    ⟨none, .frz 22, none⟩,
    ⟨some 23, .call (.c (.fn 21 [])) [.s 22], none⟩,
    ⟨some 8, .mv (.s 23), none⟩]
def dc7_r3 : List DOp := [⟨some 25, .mv (.s 8), none⟩,
    ⟨none, .frz 25, none⟩,
    ⟨some 26, .call (.c (.fn 24 [])) [.s 25], none⟩,
    ⟨some 24, .mv (.s 26), none⟩,
    ⟨some 27, .ext (.s 24) 0, none⟩,
    ⟨some 28, .ext (.s 24) 1, none⟩,
    ⟨some 29, .ext (.s 24) 2, none⟩,
    ⟨some 9, .mv (.s 27), none⟩,
    ⟨some 10, .mv (.s 28), none⟩,
    ⟨some 11, .mv (.s 29), none⟩]
def dc7_r4 : List DOp := [⟨some 30, .mv (.s 7), none⟩,
    ⟨none, .frz 30, none⟩,
    ⟨some 31, .call (.c (.fn 19 [])) [.s 30], none⟩,
    ⟨some 32, .un .not (.s 31), none⟩,
    ⟨some 33, .mv (.s 32), none⟩,
    ⟨some 34, .mv (.s 11), some (33, false)⟩,
    ⟨some 35, .bin .neq (.s 34) (.c (.lit (.int .i64 (-1)))), some (33, false)⟩,
    ⟨some 36, .pick (.s 33) (.c (.lit (.bool true))) (.s 35), none⟩]
def dc7_r5 : List DOp := [⟨some 6, .mv (.c (.lit (.bool false))), none⟩]
def dc7_r6 : List DOp := [⟨some 12, .mv (.c (.lit (.int .i64 0))), none⟩]
def dc7_r7 : List DOp := [⟨some 37, .mv (.s 12), none⟩,
    ⟨some 38, .mv (.s 9), none⟩,
    ⟨some 39, .lenL (.s 38), none⟩,
    ⟨some 40, .bin .lss (.s 37) (.s 39), none⟩]
def dc7_r9 : List DOp := [⟨some 43, .mv (.s 9), none⟩,
    ⟨some 44, .mv (.s 12), none⟩,
    ⟨some 45, .mv (.s 1), none⟩,
    ⟨some 46, .mv (.s 12), none⟩,
    ⟨none, .frz 45, none⟩,
    ⟨none, .frz 46, none⟩,
    ⟨some 47, .call (.c (.fn 13 [])) [.s 45, .s 46, .c (.lit (.int .i64 4000))], none⟩,
    ⟨some 48, .mv (.s 12), none⟩,
    ⟨none, .frz 47, none⟩,
    ⟨none, .frz 48, none⟩,
    ⟨some 49, .call (.c (.fn 12 [])) [.s 47, .s 48], none⟩,
    ⟨some 50, .iad 2 (.s 43) (.s 44), none⟩,
    ⟨some 51, .fad 1 (.s 50), none⟩,
    ⟨none, .store 1 (.s 51) (.s 49), none⟩]
def dc7_r8 : List DOp := [⟨some 41, .mv (.s 12), none⟩,
    ⟨some 42, .bin .add (.s 41) (.c (.lit (.int .i64 1))), none⟩,
    ⟨some 12, .mv (.s 42), none⟩]
def dc7_r10 : List DOp := [⟨some 52, .mv (.s 8), none⟩,
    ⟨some 53, .mv (.s 9), none⟩,
    ⟨none, .frz 53, none⟩,
    ⟨some 54, .call (.c (.fn 25 [])) [.s 53, .c (.lit (.string ⟨#[35, 32, 101, 110, 100]⟩))], none⟩,
    ⟨some 55, .mv (.s 2), none⟩,
    ⟨some 56, .mv (.s 8), none⟩,
    ⟨some 57, .mv (.s 2), none⟩,
    ⟨some 58, .bin .add (.s 56) (.s 57), none⟩,
    ⟨none, .frz 52, none⟩,
    ⟨none, .frz 54, none⟩,
    ⟨none, .frz 55, none⟩,
    ⟨none, .frz 58, none⟩,
    ⟨some 59, .bsl false 9 1 [.s 52, .s 54, .s 55, .s 58], none⟩,
    ⟨some 13, .mv (.s 59), none⟩]
def dc7_r11 : List DOp := [⟨some 14, .mv (.c (.lit (.int .i64 0))), none⟩]
def dc7_r12 : List DOp := [⟨some 60, .mv (.s 14), none⟩,
    ⟨some 61, .mv (.s 13), none⟩,
    ⟨some 62, .lenL (.s 61), none⟩,
    ⟨some 63, .bin .lss (.s 60) (.s 62), none⟩]
def dc7_r14 : List DOp := [⟨some 67, .mv (.s 13), none⟩,
    ⟨some 68, .mv (.s 14), none⟩,
    ⟨some 69, .iad 1 (.s 67) (.s 68), none⟩,
    ⟨some 70, .load 1 false (.s 69), none⟩,
    ⟨none, .frz 70, none⟩,
    ⟨some 71, .call (.c (.fn 14 [])) [.s 70], none⟩,
    ⟨some 66, .mv (.s 71), none⟩,
    ⟨some 72, .ext (.s 66) 0, none⟩,
    ⟨some 73, .ext (.s 66) 1, none⟩,
    ⟨some 15, .mv (.s 72), none⟩,
    ⟨some 16, .mv (.s 73), none⟩]
def dc7_r15 : List DOp := [⟨some 74, .mv (.s 14), none⟩,
    ⟨some 75, .bin .lss (.s 74) (.c (.lit (.int .i64 2))), none⟩,
    ⟨some 76, .mv (.s 75), none⟩,
    ⟨some 77, .mv (.s 13), some (76, true)⟩,
    ⟨some 78, .mv (.s 14), some (76, true)⟩,
    ⟨some 79, .iad 1 (.s 77) (.s 78), some (76, true)⟩,
    ⟨some 80, .load 1 false (.s 79), some (76, true)⟩,
    ⟨some 81, .lenS (.s 80), some (76, true)⟩,
    ⟨some 82, .bin .leq (.s 81) (.c (.lit (.int .i64 8192))), some (76, true)⟩,
    ⟨some 83, .pick (.s 76) (.s 82) (.c (.lit (.bool false))), none⟩,
    ⟨some 84, .mv (.s 83), none⟩,
    ⟨some 85, .mv (.s 16), some (84, true)⟩,
    ⟨some 86, .bin .neq (.s 85) (.c (.lit (.int .i64 (-1)))), some (84, true)⟩,
    ⟨some 87, .mv (.s 86), some (84, true)⟩,
    ⟨some 88, .mv (.s 7), some (87, false)⟩,
    ⟨some 89, .mv (.s 15), some (87, false)⟩,
    ⟨none, .frz 88, none⟩,
    ⟨none, .frz 89, none⟩,
    ⟨some 90, .call (.c (.fn 16 [])) [.s 88, .s 89], some (87, false)⟩,
    ⟨some 91, .un .not (.s 90), some (87, false)⟩,
    ⟨some 92, .pick (.s 87) (.c (.lit (.bool true))) (.s 91), some (84, true)⟩,
    ⟨some 93, .pick (.s 84) (.s 92) (.c (.lit (.bool false))), none⟩]
def dc7_r16 : List DOp := [⟨some 6, .mv (.c (.lit (.bool false))), none⟩]
def dc7_r17 : List DOp := [⟨some 94, .mv (.s 16), none⟩,
    ⟨some 95, .bin .neq (.s 94) (.c (.lit (.int .i64 (-1)))), none⟩]
def dc7_r18 : List DOp := [⟨some 96, .mv (.s 15), none⟩,
    ⟨some 97, .lenL (.s 96), none⟩,
    ⟨some 98, .bin .gtr (.s 97) (.c (.lit (.int .i64 0))), none⟩,
    ⟨some 99, .mv (.s 98), none⟩,
    ⟨some 100, .mv (.s 16), some (99, false)⟩,
    ⟨some 101, .bin .lss (.s 100) (.c (.lit (.int .i64 0))), some (99, false)⟩,
    ⟨some 102, .pick (.s 99) (.c (.lit (.bool true))) (.s 101), none⟩]
def dc7_r19 : List DOp := [⟨some 6, .mv (.c (.lit (.bool false))), none⟩]
def dc7_r20 : List DOp := [⟨some 104, .mv (.s 15), none⟩,
    ⟨none, .frz 104, none⟩,
    ⟨some 105, .call (.c (.fn 21 [])) [.s 104], none⟩,
    ⟨none, .frz 105, none⟩,
    ⟨some 106, .call (.c (.fn 14 [])) [.s 105], none⟩,
    ⟨some 103, .mv (.s 106), none⟩,
    ⟨some 107, .ext (.s 103) 0, none⟩,
    ⟨some 108, .ext (.s 103) 1, none⟩,
    ⟨some 17, .mv (.s 107), none⟩,
    ⟨some 18, .mv (.s 108), none⟩]
def dc7_r21 : List DOp := [⟨some 109, .mv (.s 15), none⟩,
    ⟨none, .frz 109, none⟩,
    ⟨some 110, .call (.c (.fn 19 [])) [.s 109], none⟩,
    ⟨some 111, .un .not (.s 110), none⟩,
    ⟨some 112, .mv (.s 111), none⟩,
    ⟨some 113, .mv (.s 18), some (112, false)⟩,
    ⟨some 114, .bin .neq (.s 113) (.c (.lit (.int .i64 (-1)))), some (112, false)⟩,
    ⟨some 115, .pick (.s 112) (.c (.lit (.bool true))) (.s 114), none⟩,
    ⟨some 116, .mv (.s 115), none⟩,
    ⟨some 117, .mv (.s 15), some (116, false)⟩,
    ⟨some 118, .mv (.s 17), some (116, false)⟩,
    ⟨none, .frz 117, none⟩,
    ⟨none, .frz 118, none⟩,
    ⟨some 119, .call (.c (.fn 16 [])) [.s 117, .s 118], some (116, false)⟩,
    ⟨some 120, .un .not (.s 119), some (116, false)⟩,
    ⟨some 121, .pick (.s 116) (.c (.lit (.bool true))) (.s 120), none⟩]
def dc7_r22 : List DOp := [⟨some 6, .mv (.c (.lit (.bool false))), none⟩]
def dc7_r13 : List DOp := [⟨some 64, .mv (.s 14), none⟩,
    ⟨some 65, .bin .add (.s 64) (.c (.lit (.int .i64 1))), none⟩,
    ⟨some 14, .mv (.s 65), none⟩]
def dc7_r23 : List DOp := [⟨some 122, .call (.c (.fn 17 [])) [], none⟩,
    ⟨some 6, .mv (.s 122), none⟩]
def dc7 : DC :=
 .seq (.reg dc7_r0)
 (.seq (.reg dc7_r1)
 (.seq (.reg dc7_r2)
 (.seq (.reg dc7_r3)
 (.seq (.seq (.reg dc7_r4)
 (.cond (.s 36) (.seq (.reg dc7_r5)
 (.ret))
 (.skip)))
 (.seq (.seq (.reg dc7_r6)
 (.block 0 (.loop (.seq (.seq (.reg dc7_r7)
 (.cond (.s 40) (.skip)
 (.exit 0)))
 (.seq (.block 1 (.reg dc7_r9))
 (.reg dc7_r8))))))
 (.seq (.reg dc7_r10)
 (.seq (.seq (.reg dc7_r11)
 (.block 2 (.loop (.seq (.seq (.reg dc7_r12)
 (.cond (.s 63) (.skip)
 (.exit 2)))
 (.seq (.block 3 (.seq (.reg dc7_r14)
 (.seq (.seq (.reg dc7_r15)
 (.cond (.s 93) (.seq (.reg dc7_r16)
 (.ret))
 (.skip)))
 (.seq (.seq (.reg dc7_r17)
 (.cond (.s 95) (.seq (.seq (.reg dc7_r18)
 (.cond (.s 102) (.seq (.reg dc7_r19)
 (.ret))
 (.skip)))
 (.exit 3))
 (.skip)))
 (.seq (.reg dc7_r20)
 (.seq (.reg dc7_r21)
 (.cond (.s 121) (.seq (.reg dc7_r22)
 (.ret))
 (.skip))))))))
 (.reg dc7_r13))))))
 (.seq (.reg dc7_r23)
 (.ret)))))))))
theorem dc7_ok : trCode Tryd.prog Tryd.f7.ntmps { rows := [], keep := [], pre := [], own := [], preg := [] } (Tryd.f7.body.getD .skip) = some dc7 := by kernel_rfl
theorem s7 {G : Nat → D} {ds : List D} {H : List O} {Q : D → List O → Prop} (hn : ds.length ≤ Tryd.f7.ntmps) (hv : vc (CallA Tryd.prog G) G dc7 (args0 ds) H (retK [.tmp 6] Q)) : CallA Tryd.prog G 7 ds H Q :=
  CallA.of_vc (by kernel_rfl) Tryd.func7 (by kernel_rfl) (cd := Tryd.f7.body.getD .skip) (by kernel_rfl) hn dc7_ok (by kernel_rfl) hv
def dc3_r0 : List DOp := [⟨some 10, .mv (.c (.lit (.bool false))), none⟩]
def dc3_r1 : List DOp := [⟨some 28, .mv (.s 0), none⟩,
    ⟨some 29, .bsl false 9 1 [.c (.lit (.string ⟨#[109, 105, 108, 108]⟩)), .c (.lit (.string ⟨#[109, 49]⟩))], none⟩,
    ⟨none, .frz 28, none⟩,
    ⟨none, .frz 29, none⟩,
    ⟨some 30, .call (.c (.fn 9 [])) [.s 28, .s 29, .c (.lit (.int .i64 5))], none⟩,
    ⟨none, .frz 30, none⟩,
    ⟨some 31, .call (.c (.fn 8 [])) [.s 30], none⟩,
    ⟨some 11, .mv (.s 31), none⟩]
def dc3_r2 : List DOp := [⟨some 33, .mv (.s 11), none⟩,
    ⟨none, .frz 33, none⟩,
    ⟨some 34, .call (.c (.fn 10 [])) [.s 33], none⟩,
    ⟨some 32, .mv (.s 34), none⟩,
    ⟨some 35, .ext (.s 32) 0, none⟩,
    ⟨some 36, .ext (.s 32) 1, none⟩,
    ⟨some 37, .ext (.s 32) 2, none⟩,
    ⟨some 12, .mv (.s 35), none⟩,
    ⟨some 13, .mv (.s 36), none⟩,
    ⟨some 14, .mv (.s 37), none⟩]
def dc3_r3 : List DOp := [⟨some 15, .mv (.c (.lit (.string ⟨#[]⟩))), none⟩]
def dc3_r4 : List DOp := [⟨some 16, .mv (.c (.lit (.string ⟨#[]⟩))), none⟩]
def dc3_r5 : List DOp := [⟨some 38, .mv (.s 2), none⟩,
    ⟨some 39, .mv (.s 12), none⟩,
    ⟨some 40, .lenL (.s 39), none⟩,
    ⟨some 41, .bin .add (.s 40) (.c (.lit (.int .i64 1))), none⟩,
    ⟨none, .frz 38, none⟩,
    ⟨none, .frz 41, none⟩,
    ⟨some 42, .call (.c (.fn 11 [])) [.s 38, .s 41], none⟩,
    ⟨some 17, .mv (.s 42), none⟩]
def dc3_r6 : List DOp := [⟨some 43, .bsl false 9 1 [.c (.lit (.string ⟨#[]⟩)), .c (.lit (.string ⟨#[97, 110, 121]⟩)), .c (.lit (.string ⟨#[105, 110]⟩)), .c (.lit (.string ⟨#[111, 102]⟩)), .c (.lit (.string ⟨#[58]⟩)), .c (.lit (.string ⟨#[44]⟩)), .c (.lit (.string ⟨#[48]⟩)), .c (.lit (.string ⟨#[57]⟩)), .c (.lit (.string ⟨#[49, 48]⟩)), .c (.lit (.string ⟨#[48, 50]⟩)), .c (.lit (.string ⟨#[56]⟩)), .c (.lit (.string ⟨#[110, 97, 109, 101]⟩)), .c (.lit (.string ⟨#[105, 102]⟩)), .c (.lit (.string ⟨#[97, 108, 108]⟩))], none⟩,
    ⟨some 44, .mv (.s 3), none⟩,
    ⟨none, .frz 44, none⟩,
    ⟨some 45, .call (.c (.fn 11 [])) [.s 44, .c (.lit (.int .i64 14))], none⟩,
    ⟨some 46, .iad 1 (.s 43) (.s 45), none⟩,
    ⟨some 47, .load 1 false (.s 46), none⟩,
    ⟨some 18, .mv (.s 47), none⟩]
def dc3_r7 : List DOp := [⟨some 19, .mv (.c (.lit (.int .i64 0))), none⟩]
def dc3_r8 : List DOp := [⟨some 48, .mv (.s 19), none⟩,
    ⟨some 49, .mv (.s 12), none⟩,
    ⟨some 50, .lenL (.s 49), none⟩,
    ⟨some 51, .bin .lss (.s 48) (.s 50), none⟩]
def dc3_r10 : List DOp := [⟨some 54, .mv (.s 1), none⟩,
    ⟨some 55, .mv (.s 19), none⟩,
    ⟨none, .frz 54, none⟩,
    ⟨none, .frz 55, none⟩,
    ⟨some 56, .call (.c (.fn 13 [])) [.s 54, .s 55, .c (.lit (.int .i64 4000))], none⟩,
    ⟨some 57, .mv (.s 19), none⟩,
    ⟨none, .frz 56, none⟩,
    ⟨none, .frz 57, none⟩,
    ⟨some 58, .call (.c (.fn 12 [])) [.s 56, .s 57], none⟩,
    ⟨some 20, .mv (.s 58), none⟩]
def dc3_r11 : List DOp := [⟨some 59, .mv (.s 15), none⟩,
    ⟨some 60, .mv (.s 20), none⟩,
    ⟨some 61, .bin .add (.s 59) (.s 60), none⟩,
    ⟨some 62, .mv (.s 12), none⟩,
    ⟨some 63, .mv (.s 19), none⟩,
    ⟨some 64, .iad 2 (.s 62) (.s 63), none⟩,
    ⟨some 65, .fad 0 (.s 64), none⟩,
    ⟨some 66, .load 1 false (.s 65), none⟩,
    ⟨some 67, .bin .add (.s 61) (.s 66), none⟩,
    ⟨some 15, .mv (.s 67), none⟩]
def dc3_r12 : List DOp := [⟨some 68, .mv (.s 12), none⟩,
    ⟨some 69, .mv (.s 19), none⟩,
    ⟨some 70, .iad 2 (.s 68) (.s 69), none⟩,
    ⟨some 71, .fad 0 (.s 70), none⟩,
    ⟨some 72, .load 1 false (.s 71), none⟩,
    ⟨some 21, .mv (.s 72), none⟩]
def dc3_r13 : List DOp := [⟨some 73, .mv (.s 19), none⟩,
    ⟨some 74, .mv (.s 17), none⟩,
    ⟨some 75, .bin .eql (.s 73) (.s 74), none⟩]
def dc3_r14 : List DOp := [⟨some 76, .mv (.s 18), none⟩,
    ⟨some 21, .mv (.s 76), none⟩]
def dc3_r15 : List DOp := [⟨some 77, .mv (.s 16), none⟩,
    ⟨some 78, .bin .add (.s 77) (.c (.lit (.string ⟨#[32]⟩))), none⟩,
    ⟨some 79, .mv (.s 21), none⟩,
    ⟨some 80, .bin .add (.s 78) (.s 79), none⟩,
    ⟨some 16, .mv (.s 80), none⟩]
def dc3_r9 : List DOp := [⟨some 52, .mv (.s 19), none⟩,
    ⟨some 53, .bin .add (.s 52) (.c (.lit (.int .i64 1))), none⟩,
    ⟨some 19, .mv (.s 53), none⟩]
def dc3_r16 : List DOp := [⟨some 81, .mv (.s 11), none⟩,
    ⟨some 82, .mv (.s 15), none⟩,
    ⟨some 83, .mv (.s 16), none⟩,
    ⟨some 84, .mv (.s 16), none⟩,
    ⟨some 85, .bin .add (.s 84) (.c (.lit (.string ⟨#[32]⟩))), none⟩,
    ⟨some 86, .mv (.s 18), none⟩,
    ⟨some 87, .bin .add (.s 85) (.s 86), none⟩,
    ⟨some 88, .mv (.s 4), none⟩,
    ⟨some 89, .mv (.s 11), none⟩,
    ⟨some 90, .mv (.s 4), none⟩,
    ⟨some 91, .bin .add (.s 89) (.s 90), none⟩,
    ⟨some 92, .mv (.s 11), none⟩,
    ⟨some 93, .mv (.s 2), none⟩,
    ⟨some 94, .bin .quo (.s 93) (.c (.lit (.int .i64 3))), none⟩,
    ⟨some 95, .mv (.s 11), none⟩,
    ⟨some 96, .lenS (.s 95), none⟩,
    ⟨some 97, .bin .add (.s 96) (.c (.lit (.int .i64 1))), none⟩,
    ⟨none, .frz 94, none⟩,
    ⟨none, .frz 97, none⟩,
    ⟨some 98, .call (.c (.fn 11 [])) [.s 94, .s 97], none⟩,
    ⟨none, .frz 92, none⟩,
    ⟨some 99, .slcS (.s 92) none (some (.s 98)), none⟩,
    ⟨none, .frz 81, none⟩,
    ⟨none, .frz 82, none⟩,
    ⟨none, .frz 83, none⟩,
    ⟨none, .frz 87, none⟩,
    ⟨none, .frz 88, none⟩,
    ⟨none, .frz 91, none⟩,
    ⟨none, .frz 99, none⟩,
    ⟨some 100, .bsl false 9 1 [.s 81, .s 82, .s 83, .s 87, .s 88, .s 91, .s 99], none⟩,
    ⟨some 22, .mv (.s 100), none⟩]
def dc3_r17 : List DOp := [⟨some 23, .mv (.c (.lit (.int .i64 0))), none⟩]
def dc3_r18 : List DOp := [⟨some 101, .mv (.s 23), none⟩,
    ⟨some 102, .mv (.s 22), none⟩,
    ⟨some 103, .lenL (.s 102), none⟩,
    ⟨some 104, .bin .lss (.s 101) (.s 103), none⟩]
def dc3_r20 : List DOp := [⟨some 108, .mv (.s 22), none⟩,
    ⟨some 109, .mv (.s 23), none⟩,
    ⟨some 110, .iad 1 (.s 108) (.s 109), none⟩,
    ⟨some 111, .load 1 false (.s 110), none⟩,
    ⟨none, .frz 111, none⟩,
    ⟨some 112, .call (.c (.fn 14 [])) [.s 111], none⟩,
    ⟨some 107, .mv (.s 112), none⟩,
    ⟨some 113, .ext (.s 107) 0, none⟩,
    ⟨some 114, .ext (.s 107) 1, none⟩,
    ⟨some 24, .mv (.s 113), none⟩,
    ⟨some 25, .mv (.s 114), none⟩]
def dc3_r21 : List DOp := [⟨some 116, .mv (.s 22), none⟩,
    ⟨some 117, .mv (.s 23), none⟩,
    ⟨some 118, .iad 1 (.s 116) (.s 117), none⟩,
    ⟨some 119, .load 1 false (.s 118), none⟩,
    ⟨none, .frz 119, none⟩,
    ⟨some 120, .call (.c (.fn 15 [])) [.s 119], none⟩,
    ⟨some 115, .mv (.s 120), none⟩,
    ⟨some 121, .ext (.s 115) 0, none⟩,
    ⟨some 122, .ext (.s 115) 1, none⟩,
    ⟨some 26, .mv (.s 121), none⟩,
    ⟨some 27, .mv (.s 122), none⟩]
def dc3_r22 : List DOp := [⟨some 123, .mv (.s 25), none⟩,
    ⟨some 124, .mv (.s 27), none⟩,
    ⟨some 125, .bin .neq (.s 123) (.s 124), none⟩,
    ⟨some 126, .mv (.s 125), none⟩,
    ⟨some 127, .mv (.s 24), some (126, false)⟩,
    ⟨some 128, .mv (.s 26), some (126, false)⟩,
    ⟨none, .frz 127, none⟩,
    ⟨none, .frz 128, none⟩,
    ⟨some 129, .call (.c (.fn 16 [])) [.s 127, .s 128], some (126, false)⟩,
    ⟨some 130, .un .not (.s 129), some (126, false)⟩,
    ⟨some 131, .pick (.s 126) (.c (.lit (.bool true))) (.s 130), none⟩]
def dc3_r23 : List DOp := [⟨some 10, .mv (.c (.lit (.bool false))), none⟩]
def dc3_r19 : List DOp := [⟨some 105, .mv (.s 23), none⟩,
    ⟨some 106, .bin .add (.s 105) (.c (.lit (.int .i64 1))), none⟩,
    ⟨some 23, .mv (.s 106), none⟩]
def dc3_r24 : List DOp := [⟨some 132, .call (.c (.fn 17 [])) [], none⟩,
    ⟨some 10, .mv (.s 132), none⟩]
def dc3 : DC :=
 .seq (.reg dc3_r0)
 (.seq (.reg dc3_r1)
 (.seq (.reg dc3_r2)
 (.seq (.reg dc3_r3)
 (.seq (.reg dc3_r4)
 (.seq (.reg dc3_r5)
 (.seq (.reg dc3_r6)
 (.seq (.seq (.reg dc3_r7)
 (.block 0 (.loop (.seq (.seq (.reg dc3_r8)
 (.cond (.s 51) (.skip)
 (.exit 0)))
 (.seq (.block 1 (.seq (.reg dc3_r10)
 (.seq (.reg dc3_r11)
 (.seq (.reg dc3_r12)
 (.seq (.seq (.reg dc3_r13)
 (.cond (.s 75) (.reg dc3_r14)
 (.skip)))
 (.reg dc3_r15))))))
 (.reg dc3_r9))))))
 (.seq (.reg dc3_r16)
 (.seq (.seq (.reg dc3_r17)
 (.block 2 (.loop (.seq (.seq (.reg dc3_r18)
 (.cond (.s 104) (.skip)
 (.exit 2)))
 (.seq (.block 3 (.seq (.reg dc3_r20)
 (.seq (.reg dc3_r21)
 (.seq (.reg dc3_r22)
 (.cond (.s 131) (.seq (.reg dc3_r23)
 (.ret))
 (.skip))))))
 (.reg dc3_r19))))))
 (.seq (.reg dc3_r24)
 (.ret)))))))))))
theorem dc3_ok : trCode Tryd.prog Tryd.f3.ntmps { rows := [], keep := [], pre := [], own := [], preg := [] } (Tryd.f3.body.getD .skip) = some dc3 := by kernel_rfl
theorem s3 {G : Nat → D} {ds : List D} {H : List O} {Q : D → List O → Prop} (hn : ds.length ≤ Tryd.f3.ntmps) (hv : vc (CallA Tryd.prog G) G dc3 (args0 ds) H (retK [.tmp 10] Q)) : CallA Tryd.prog G 3 ds H Q :=
  CallA.of_vc (by kernel_rfl) Tryd.func3 (by kernel_rfl) (cd := Tryd.f3.body.getD .skip) (by kernel_rfl) hn dc3_ok (by kernel_rfl) hv
def dc4_r0 : List DOp := [⟨some 10, .mv (.c (.lit (.bool false))), none⟩]
def dc4_r1 : List DOp := [⟨some 16, .mv (.s 0), none⟩,
    ⟨some 17, .bsl false 9 1 [.c (.lit (.string ⟨#[109, 105, 108, 108]⟩)), .c (.lit (.string ⟨#[109, 49]⟩))], none⟩,
    ⟨none, .frz 16, none⟩,
    ⟨none, .frz 17, none⟩,
    ⟨some 18, .call (.c (.fn 9 [])) [.s 16, .s 17, .c (.lit (.int .i64 5))], none⟩,
    ⟨some 11, .mv (.s 18), none⟩]
def dc4_r2 : List DOp := [⟨some 19, .mv (.s 11), none⟩,
    ⟨some 20, .mv (.s 1), none⟩,
    ⟨some 21, .mv (.s 2), none⟩,
    ⟨some 22, .mv (.s 3), none⟩,
    ⟨none, .frz 19, none⟩,
    ⟨none, .frz 20, none⟩,
    ⟨none, .frz 21, none⟩,
    ⟨none, .frz 22, none⟩,
    ⟨some 23, .call (.c (.fn 18 [])) [.s 19, .s 20, .s 21, .s 22], none⟩,
    ⟨some 12, .mv (.s 23), none⟩]
def dc4_r3 : List DOp := [⟨some 24, .bsl true 42 4 [], none⟩,
    ⟨some 25, .mv (.s 11), none⟩,
    ⟨none, .frz 25, none⟩,
    ⟨some 26, .app 42 4 64 (.s 24) (.s 25), none⟩,
    ⟨some 27, .mv (.s 4), none⟩,
    ⟨some 28, .bsl false 3 1 [.c (.lit (.int .i64 7))], none⟩,
    ⟨none, .frz 27, none⟩,
    ⟨none, .frz 28, none⟩,
    ⟨some 29, .bld [.lit (.string ⟨#[]⟩), .lit (.string ⟨#[]⟩), .lit (.int .i64 0), .lit (.slice none 0 0)] [(0, 1, .c (.lit (.string ⟨#[97, 110, 121]⟩))), (1, 1, .s 27), (2, 1, .c (.lit (.int .i64 1))), (3, 1, .s 28)], none⟩,
    ⟨none, .frz 29, none⟩,
    ⟨some 30, .bsl false 42 4 [.s 29], none⟩,
    ⟨none, .frz 30, none⟩,
    ⟨some 31, .app 42 4 64 (.s 26) (.s 30), none⟩,
    ⟨some 13, .mv (.s 31), none⟩]
def dc4_r4 : List DOp := [⟨some 32, .mv (.s 11), none⟩,
    ⟨some 33, .mv (.s 12), none⟩,
    ⟨some 34, .mv (.s 12), none⟩,
    ⟨some 35, .mv (.s 3), none⟩,
    ⟨some 36, .mv (.s 2), none⟩,
    ⟨some 37, .bin .quo (.s 36) (.c (.lit (.int .i64 8))), none⟩,
    ⟨some 38, .mv (.s 1), none⟩,
    ⟨none, .frz 34, none⟩,
    ⟨none, .frz 35, none⟩,
    ⟨none, .frz 37, none⟩,
    ⟨none, .frz 38, none⟩,
    ⟨some 39, .call (.c (.fn 18 [])) [.s 34, .s 35, .s 37, .s 38], none⟩,
    ⟨some 40, .mv (.s 13), none⟩,
    ⟨none, .frz 32, none⟩,
    ⟨none, .frz 33, none⟩,
    ⟨none, .frz 39, none⟩,
    ⟨none, .frz 40, none⟩,
    ⟨some 41, .bsl false 24 1 [.s 32, .s 33, .s 39, .s 40, .c (.lit (.slice none 0 0))], none⟩,
    ⟨some 14, .mv (.s 41), none⟩]
def dc4_r5 : List DOp := [⟨some 15, .mv (.c (.lit (.int .i64 0))), none⟩]
def dc4_r6 : List DOp := [⟨some 42, .mv (.s 15), none⟩,
    ⟨some 43, .mv (.s 14), none⟩,
    ⟨some 44, .lenL (.s 43), none⟩,
    ⟨some 45, .bin .lss (.s 42) (.s 44), none⟩]
def dc4_r8 : List DOp := [⟨some 48, .mv (.s 14), none⟩,
    ⟨some 49, .mv (.s 15), none⟩,
    ⟨some 50, .iad 1 (.s 48) (.s 49), none⟩,
    ⟨some 51, .load 1 false (.s 50), none⟩,
    ⟨some 52, .call (.c (.fn 19 [])) [.s 51], none⟩,
    ⟨some 53, .mv (.s 14), none⟩,
    ⟨some 54, .mv (.s 15), none⟩,
    ⟨some 55, .iad 1 (.s 53) (.s 54), none⟩,
    ⟨some 56, .load 1 false (.s 55), none⟩,
    ⟨some 57, .call (.c (.fn 20 [])) [.s 56], none⟩,
    ⟨some 58, .eqb .neq (.s 52) (.s 57), none⟩,
    ⟨some 59, .mv (.s 58), none⟩,
    ⟨some 60, .mv (.s 14), some (59, false)⟩,
    ⟨some 61, .mv (.s 15), some (59, false)⟩,
    ⟨some 62, .iad 1 (.s 60) (.s 61), some (59, false)⟩,
    ⟨some 63, .load 1 false (.s 62), some (59, false)⟩,
    ⟨some 64, .call (.c (.fn 21 [])) [.s 63], some (59, false)⟩,
    ⟨some 65, .mv (.s 14), some (59, false)⟩,
    ⟨some 66, .mv (.s 15), some (59, false)⟩,
    ⟨some 67, .iad 1 (.s 65) (.s 66), some (59, false)⟩,
    ⟨some 68, .load 1 false (.s 67), some (59, false)⟩,
    ⟨some 69, .call (.c (.fn 8 [])) [.s 68], some (59, false)⟩,
    ⟨some 70, .bin .neq (.s 64) (.s 69), some (59, false)⟩,
    ⟨some 71, .pick (.s 59) (.c (.lit (.bool true))) (.s 70), none⟩]
def dc4_r9 : List DOp := [⟨some 10, .mv (.c (.lit (.bool false))), none⟩]
def dc4_r7 : List DOp := [⟨some 46, .mv (.s 15), none⟩,
    ⟨some 47, .bin .add (.s 46) (.c (.lit (.int .i64 1))), none⟩,
    ⟨some 15, .mv (.s 47), none⟩]
def dc4_r10 : List DOp := [⟨some 72, .call (.c (.fn 17 [])) [], none⟩,
    ⟨some 10, .mv (.s 72), none⟩]
def dc4 : DC :=
 .seq (.reg dc4_r0)
 (.seq (.reg dc4_r1)
 (.seq (.reg dc4_r2)
 (.seq (.seq (.reg dc4_r3)
 (.own [.frz 13]))
 (.seq (.reg dc4_r4)
 (.seq (.seq (.reg dc4_r5)
 (.block 0 (.loop (.seq (.seq (.reg dc4_r6)
 (.cond (.s 45) (.skip)
 (.exit 0)))
 (.seq (.block 1 (.seq (.drw dc4_r8)
 (.cond (.s 71) (.seq (.reg dc4_r9)
 (.ret))
 (.skip))))
 (.reg dc4_r7))))))
 (.seq (.reg dc4_r10)
 (.ret)))))))
theorem dc4_ok : trCode Tryd.prog Tryd.f4.ntmps { rows := [24], keep := [], pre := [], own := [(3, [.frz 13])], preg := [] } (Tryd.f4.body.getD .skip) = some dc4 := by kernel_rfl
theorem s4 {G : Nat → D} {ds : List D} {H : List O} {Q : D → List O → Prop} (hn : ds.length ≤ Tryd.f4.ntmps) (hv : vc (CallA Tryd.prog G) G dc4 (args0 ds) H (retK [.tmp 10] Q)) : CallA Tryd.prog G 4 ds H Q :=
  CallA.of_vc (by kernel_rfl) Tryd.func4 (by kernel_rfl) (cd := Tryd.f4.body.getD .skip) (by kernel_rfl) hn dc4_ok (by kernel_rfl) hv
def dc58_r0 : List DOp := [⟨some 2, .mv (.c (.lit (.int .i64 0))), none⟩,
    ⟨some 3, .mv (.c (.lit .nilIface)), none⟩]
def dc58_r1 : List DOp := [⟨some 7, .mv (.s 0), none⟩,
    ⟨none, .frz 7, none⟩,
    ⟨some 8, .call (.c (.fn 64 [])) [.s 7], none⟩,
    ⟨some 6, .mv (.s 8), none⟩,
    ⟨some 9, .ext (.s 6) 0, none⟩,
    ⟨some 10, .ext (.s 6) 1, none⟩,
    ⟨some 4, .mv (.s 9), none⟩,
    ⟨some 5, .mv (.s 10), none⟩]
def dc58_r2 : List DOp := [⟨some 11, .mv (.s 5), none⟩,
    ⟨some 12, .eqn .neq (.s 11) (.c (.lit .nilIface)), none⟩]
def dc58_r3 : List DOp := [⟨some 13, .mv (.s 4), none⟩,
    ⟨some 14, .mv (.s 0), none⟩,
    ⟨some 15, .mv (.s 5), none⟩,
    ⟨none, .frz 14, none⟩,
    ⟨none, .frz 15, none⟩,
    ⟨some 16, .call (.c (.fn 65 [])) [.c (.lit (.string ⟨#[65, 116, 111, 105]⟩)), .s 14, .c (.lit (.int .i64 0)), .c (.lit (.int .i64 0)), .s 15], none⟩,
    ⟨some 2, .mv (.s 13), none⟩,
    ⟨some 3, .mv (.s 16), none⟩]
def dc58_r4 : List DOp := [⟨some 17, .mv (.s 4), none⟩,
    ⟨some 2, .mv (.s 17), none⟩,
    ⟨some 3, .mv (.c (.lit .nilIface)), none⟩]
def dc58 : DC :=
 .seq (.reg dc58_r0)
 (.seq (.reg dc58_r1)
 (.seq (.seq (.reg dc58_r2)
 (.cond (.s 12) (.seq (.reg dc58_r3)
 (.ret))
 (.skip)))
 (.seq (.reg dc58_r4)
 (.ret))))
theorem dc58_ok : trCode Tryd.prog Tryd.f58.ntmps { rows := [], keep := [], pre := [], own := [], preg := [] } (Tryd.f58.body.getD .skip) = some dc58 := by kernel_rfl
theorem s58 {G : Nat → D} {ds : List D} {H : List O} {Q : D → List O → Prop} (hn : ds.length ≤ Tryd.f58.ntmps) (hv : vc (CallA Tryd.prog G) G dc58 (args0 ds) H (retK [.tmp 2, .tmp 3] Q)) : CallA Tryd.prog G 58 ds H Q :=
  CallA.of_vc (by kernel_rfl) Tryd.func58 (by kernel_rfl) (cd := Tryd.f58.body.getD .skip) (by kernel_rfl) hn dc58_ok (by kernel_rfl) hv
def dc38_r0 : List DOp := [⟨some 4, .mv (.c (.lit (.int .i64 0))), none⟩,
    ⟨some 5, .mv (.c (.lit .nilIface)), none⟩]
def dc38_r1 : List DOp := [⟨some 6, .mv (.s 0), none⟩,
    ⟨none, .frz 6, none⟩,
    ⟨some 7, .call (.c (.fn 53 [])) [.s 6], none⟩]
def dc38_r2 : List DOp := [⟨some 8, .mv (.s 0), none⟩,
    ⟨some 9, .mv (.s 0), none⟩,
    ⟨some 10, .nilck (.s 9), none⟩,
    ⟨some 11, .fad 1 (.s 10), none⟩,
    ⟨some 12, .load 1 false (.s 11), none⟩,
    ⟨some 13, .mv (.s 1), none⟩,
    ⟨none, .frz 13, none⟩,
    ⟨some 14, .appS 5 (.s 12) (.s 13), none⟩,
    ⟨some 15, .nilck (.s 8), none⟩,
    ⟨some 16, .fad 1 (.s 15), none⟩,
    ⟨none, .store 1 (.s 16) (.s 14), none⟩]
def dc38_r3 : List DOp := [⟨some 17, .mv (.s 1), none⟩,
    ⟨some 18, .lenS (.s 17), none⟩,
    ⟨some 4, .mv (.s 18), none⟩,
    ⟨some 5, .mv (.c (.lit .nilIface)), none⟩]
def dc38 : DC :=
 .seq (.reg dc38_r0)
 (.seq (.reg dc38_r1)
 (.seq (.reg dc38_r2)
 (.seq (.reg dc38_r3)
 (.ret))))
theorem dc38_ok : trCode Tryd.prog Tryd.f38.ntmps { rows := [], keep := [], pre := [], own := [], preg := [] } (Tryd.f38.body.getD .skip) = some dc38 := by kernel_rfl
theorem s38 {G : Nat → D} {ds : List D} {H : List O} {Q : D → List O → Prop} (hn : ds.length ≤ Tryd.f38.ntmps) (hv : vc (CallA Tryd.prog G) G dc38 (args0 ds) H (retK [.tmp 4, .tmp 5] Q)) : CallA Tryd.prog G 38 ds H Q :=
  CallA.of_vc (by kernel_rfl) Tryd.func38 (by kernel_rfl) (cd := Tryd.f38.body.getD .skip) (by kernel_rfl) hn dc38_ok (by kernel_rfl) hv
end Go.Proofs.Tryd
