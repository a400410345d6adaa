/- A part of the proof of PupilFieldsCardSaid, without conditions. -/
import Derived.KernelRfl
import Derived.Calls
import Derived.Orders
import Derived.Laws.Sem
import Derived.Laws.Cells
import Derived.Laws.CopyRow
import Derived.Laws.World
import GoSem.ClaimData
import Derived.Laws.StructEq
import Derived.Laws.AppendOwn
import Derived.Laws.MakeOwn
import Derived.Great.FillDense
import Derived.IntWalk
import Derived.Lib.UnsafeStr
import Derived.Lib.Builder
import Derived.Lib.ConvBytes
import Derived.Laws.LoneSync
set_option linter.unusedVariables false
set_option linter.unusedSimpArgs false
set_option linter.unusedSectionVars false
set_option maxHeartbeats 4000000
namespace Go
abbrev Qe:=@Std.Legacy.Range.forIn_eq_forIn_range'
abbrev Qf:=@List.take_succ_eq_append_getElem
abbrev Qg:=@Array.eq_empty_of_size_eq_zero
abbrev Qh:=@Int.mul_le_mul_of_nonpos_right
abbrev Qi:=@List.eq_nil_iff_forall_not_mem
abbrev Qj:=@Nat.and_two_pow_sub_one_eq_mod
abbrev Qk:=@Int.mul_le_mul_of_nonneg_left
abbrev Ql:=@List.drop_append_of_le_length
abbrev Qm:=@Array.getElem?_setIfInBounds
abbrev Qo:=@Nat.coprime_div_gcd_div_gcd
abbrev Qp:=@Nat.mul_lt_mul_of_pos_right
abbrev Qq:=@Array.toList_setIfInBounds
abbrev Qr:=@Int.ediv_neg_of_neg_of_pos
abbrev Qs:=@Int.fdiv_eq_ediv_of_nonneg
abbrev Qt:=@Int.tdiv_eq_ediv_of_nonneg
abbrev Qu:=@Int.tmod_eq_emod_of_nonneg
abbrev Qv:=@List.exists_cons_of_ne_nil
abbrev Qw:=@List.getElem?_append_right
abbrev Qx:=@List.perm_ext_iff_of_nodup
abbrev Qy:=@Nat.mod_two_eq_zero_or_one
abbrev Qz:=@Array.getElem?_eq_getElem
abbrev QA:=@Array.mapM_eq_mapM_toList
abbrev QB:=@List.drop_eq_getElem_cons
abbrev QC:=@List.getElem?_append_left
abbrev QD:=@List.getElem?_eq_some_iff
abbrev QE:=@List.mem_or_eq_of_mem_set
abbrev QG:=@List.pairwise_iff_getElem
abbrev QH:=@Nat.add_mul_mod_self_left
abbrev QI:=@Nat.eq_of_mul_eq_mul_left
abbrev QJ:=@Nat.lt_of_mul_lt_mul_left
abbrev QK:=@Option.isNone_iff_eq_none
abbrev QL:=@Array.getElem?_replicate
abbrev QM:=@Int.mul_ediv_cancel_left
abbrev QN:=@Nat.gcd_pos_of_pos_right
abbrev QO:=@Option.isSome_iff_exists
abbrev QP:=@List.getElem?_cons_succ
abbrev QQ:=@List.getElem?_cons_zero
abbrev QR:=@List.getLast?_cons_cons
abbrev QS:=@List.length_eq_zero_iff
abbrev QU:=@Nat.add_sub_cancel_left
abbrev QV:=@Nat.le_mul_of_pos_right
abbrev QW:=@List.append_eq_nil_iff
abbrev QX:=@List.getElem_cons_zero
abbrev QY:=@Nat.le_mul_of_pos_left
abbrev QZ:=@Option.map_eq_some_iff
abbrev Q0:=@Array.getElem?_modify
abbrev Q6:=@List.getElem?_toArray
abbrev Q7:=@List.length_filter_le
abbrev Q8:=@List.take_append_drop
abbrev Q9:=@Nat.div_lt_iff_lt_mul
abbrev Xa:=@Nat.le_div_iff_mul_le
abbrev Xb:=@Nat.mul_mod_mul_right
abbrev Xc:=@Array.size_replicate
abbrev Xd:=@Int.ediv_emod_unique
abbrev Xe:=@List.mem_of_getElem?
abbrev Xf:=@Nat.add_mul_div_left
abbrev Xg:=@Nat.div_lt_of_lt_mul
abbrev Xh:=@Nat.mul_le_mul_right
abbrev Xi:=@Nat.mul_lt_mul_right
abbrev Xj:=@Nat.pow_le_pow_right
abbrev Xk:=@Array.toList_append
abbrev Xl:=@Int.toNat_of_nonneg
abbrev Xm:=@List.filter_eq_self
abbrev Xn:=@List.flatten_append
abbrev Xp:=@List.getD_cons_zero
abbrev Xq:=@List.getElem_of_mem
abbrev Xr:=@List.length_pos_iff
abbrev Xs:=@List.map_congr_left
abbrev Xt:=@List.replicate_succ
abbrev Xu:=@List.take_succ_cons
abbrev Xv:=@Nat.div_mul_le_self
abbrev Xw:=@Nat.mul_le_mul_left
abbrev Xx:=@Nat.pow_le_pow_left
abbrev Xy:=@Bool.false_ne_true
abbrev Xz:=@Int.lt_tmod_of_pos
abbrev XA:=@Int.natAbs_natCast
abbrev XB:=@List.getElem?_drop
abbrev XC:=@List.map_replicate
abbrev XD:=@List.set_cons_succ
abbrev XE:=@List.set_cons_zero
abbrev XF:=@Nat.add_sub_cancel
abbrev XG:=@Nat.eq_zero_or_pos
abbrev XH:=@Nat.gcd_zero_right
abbrev XI:=@Nat.lt_of_le_of_lt
abbrev XJ:=@Nat.lt_of_lt_of_le
abbrev XK:=@Nat.pos_of_ne_zero
abbrev XL:=@Option.isSome_none
abbrev XM:=@of_decide_eq_false
abbrev XN:=@Array.size_append
abbrev XO:=@Array.toList_push
abbrev XP:=@Bool.not_eq_true'
abbrev XQ:=@Function.comp_def
abbrev XR:=@Int.emod_eq_of_lt
abbrev XS:=@Int.natAbs_add_le
abbrev XT:=@List.any_eq_false
abbrev XU:=@List.ext_getElem?
abbrev XV:=@List.flatMap_cons
abbrev XW:=@List.flatten_cons
abbrev XX:=@List.foldl_append
abbrev XY:=@List.pairwise_map
abbrev XZ:=@List.size_toArray
abbrev X0:=@Nat.gcd_dvd_right
abbrev X1:=@Nat.gcd_one_right
abbrev X2:=@Nat.le_of_lt_succ
abbrev X3:=@Rat.divInt_eq_div
abbrev X4:=@UInt8.ofNat_toNat
abbrev X5:=@not_false_eq_true
abbrev X6:=@of_decide_eq_true
abbrev X7:=@Bool.cond_eq_ite
abbrev X8:=@Int.ediv_le_self
abbrev X9:=@List.any_eq_true
abbrev Ja:=@List.drop_length
abbrev Jb:=@List.filter_cons
abbrev Jc:=@List.flatMap_nil
abbrev Jd:=@List.getElem_mem
abbrev Je:=@List.map_toArray
abbrev Jf:=@List.mem_flatMap
abbrev Jg:=@List.take_length
abbrev Jh:=@Nat.div_add_mod'
abbrev Ji:=@Nat.div_eq_of_lt
abbrev Jj:=@Nat.le_add_right
abbrev Jk:=@Nat.le_max_right
abbrev Jl:=@Nat.mod_add_div'
abbrev Jm:=@Nat.mod_eq_of_lt
abbrev Jn:=@Nat.mul_lt_mul''
abbrev Jo:=@Option.getD_none
abbrev Jp:=@Rat.mk_eq_divInt
abbrev Jq:=@decide_eq_decide
abbrev Jr:=@Bool.or_eq_true
abbrev Js:=@Int.ediv_nonneg
abbrev Jt:=@Int.emod_nonneg
abbrev Ju:=@Int.mul_ne_zero
abbrev Jv:=@Int.natAbs_zero
abbrev Jw:=@Int.natCast_add
abbrev Jx:=@Int.natCast_mul
abbrev Jy:=@Int.natCast_pow
abbrev Jz:=@List.cons.injEq
abbrev JA:=@List.foldl_cons
abbrev JB:=@List.length_set
abbrev JC:=@List.mem_filter
abbrev JD:=@List.nodup_cons
abbrev JE:=@List.take_left'
abbrev JF:=@Nat.div_add_mod
abbrev JG:=@Nat.div_le_self
abbrev JH:=@Nat.div_lt_self
abbrev JI:=@Nat.le_antisymm
abbrev JJ:=@Nat.le_max_left
abbrev JK:=@Nat.min_eq_left
abbrev JL:=@Nat.mod_add_div
abbrev JM:=@Nat.mul_eq_zero
abbrev JN:=@Option.map_none
abbrev JO:=@Option.some.inj
abbrev JP:=@Rat.intCast_add
abbrev JQ:=@Rat.intCast_inj
abbrev JR:=@Rat.intCast_mul
abbrev JS:=@Rat.intCast_neg
abbrev JT:=@Rat.num_eq_zero
abbrev JU:=@UInt8.toNat_inj
abbrev JV:=@Int.mul_nonneg
abbrev JW:=@Int.natAbs_mul
abbrev JX:=@Int.natAbs_neg
abbrev JY:=@Int.natAbs_pow
abbrev JZ:=@Int.toNat_zero
abbrev J0:=@List.drop_drop
abbrev J1:=@List.drop_left
abbrev J2:=@List.drop_take
abbrev J3:=@List.drop_zero
abbrev J4:=@List.mem_range
abbrev J5:=@List.nodup_nil
abbrev J6:=@List.take_left
abbrev J7:=@List.take_take
abbrev J8:=@List.take_zero
abbrev J9:=@Nat.add_le_add
abbrev Ka:=@Nat.mul_le_mul
abbrev Kb:=@Bool.and_true
abbrev Kc:=@Bool.false_or
abbrev Ke:=@Bool.not_true
abbrev Kf:=@Bool.true_and
abbrev Kg:=@ByteArray.ext
abbrev Kh:=@List.all_cons
abbrev Ki:=@List.map_take
abbrev Kj:=@List.sum_cons
abbrev Kk:=@Nat.add_assoc
abbrev Km:=@Nat.le_of_dvd
abbrev Kn:=@Nat.mul_assoc
abbrev Ko:=@Bool.or_true
abbrev Kp:=@Int.le_of_lt
abbrev Kq:=@Int.lt_or_le
abbrev Ks:=@Int.ne_of_gt
abbrev Kt:=@Int.ofNat_le
abbrev Ku:=@Int.pow_succ
abbrev Kv:=@Int.pow_zero
abbrev Kw:=@Int.zero_add
abbrev Kx:=@Int.zero_sub
abbrev Ky:=@List.any_nil
abbrev Kz:=@List.map_map
abbrev KA:=@List.map_set
abbrev KC:=@Nat.add_comm
abbrev KD:=@Nat.add_zero
abbrev KE:=@Nat.beq_refl
abbrev KF:=@Nat.gcd_comm
abbrev KG:=@Nat.le_of_eq
abbrev KH:=@Nat.le_of_lt
abbrev KJ:=@Nat.lt_or_ge
abbrev KK:=@Nat.lt_trans
abbrev KL:=@Nat.mul_comm
abbrev KM:=@Nat.mul_zero
abbrev KN:=@Nat.pow_succ
abbrev KO:=@Nat.pow_zero
abbrev KQ:=@Nat.sub_zero
abbrev KR:=@Nat.succ_mul
abbrev KT:=@Nat.zero_add
abbrev KU:=@Nat.zero_mul
abbrev KW:=@Rat.add_zero
abbrev KX:=@Rat.mul_zero
abbrev KY:=@Rat.pow_succ
abbrev KZ:=@Rat.pow_zero
abbrev K0:=@Rat.zero_add
abbrev K1:=@Rat.zero_mul
abbrev K2:=@getElem!_pos
abbrev K3:=@Int.le_refl
abbrev K4:=@Int.mul_neg
abbrev K5:=@Int.mul_one
abbrev K6:=@Int.mul_pos
abbrev K7:=@Int.neg_mul
abbrev K8:=@Int.pow_pos
abbrev Wa:=@Nat.add_mul
abbrev Wb:=@Nat.div_pos
abbrev Wc:=@Nat.le_succ
abbrev Wd:=@Nat.mul_add
abbrev We:=@Nat.mul_one
abbrev Wf:=@Nat.mul_pos
abbrev Wg:=@Nat.one_mul
abbrev Wh:=@Nat.pow_add
abbrev Wi:=@Nat.pow_mul
abbrev Wj:=@Nat.pow_pos
abbrev Wl:=@Prod.mk.inj
abbrev Wm:=@Rat.div_def
abbrev Wn:=@Rat.mul_one
abbrev Wo:=@Rat.neg_num
abbrev Wp:=@decide_true
abbrev Wq:=@Nat.beq_eq
abbrev Wr:=@Nat.ble_eq
abbrev Ws:=@Nat.blt_eq
abbrev Wt:=@Nat.max_le
abbrev Wu:=@Nat.mod_lt
abbrev Wv:=@beq_iff_eq
abbrev Ww:=@cond_false
abbrev Wx:=@And.right
abbrev Wy:=@cond_true
abbrev Wz:=@And.left
abbrev WA:=@Prod.ext
abbrev WB:=@and_self
abbrev WC:=@and_true
abbrev WD:=@congrArg
abbrev WE:=@or_false
abbrev WF:=@true_and
abbrev WG:=@Ne.symm
abbrev WH:=@dif_neg
abbrev WI:=@dif_pos
abbrev WJ:=@if_neg
abbrev WK:=@if_pos
abbrev WL:=@ne_eq
end Go
open List (replicate)
namespace Go
abbrev Nb:=List UInt8
theorem aa{p:Prop}(h:p:=by omega):p:=h
theorem ab{p:Prop}(h:p:=by assumption):p:=h
theorem ae{p:Prop}(h:p:=by kernel_rfl):p:=h
theorem ah{p:Prop}(h:p:=by decide):p:=h
theorem ai{p:Prop}(h:p:=by simpa using h):p:=h
theorem aj{p:Prop}(h:p:=by simpa [DV.refs] using hh):p:=h
theorem ak{p:Prop}(h:p:=by simp[DV.refs]):p:=h
theorem al{p:Prop}(h:p:=by simp[DV.refs,hh]):p:=h
theorem am{p:Prop}(h:p:=by simp[MO.refs]):p:=h
theorem an{p:Prop}(h:p:=by simpa using hj):p:=h
theorem ao{p:Prop}(h:p:=by simp):p:=h
theorem ap{p:Prop}(h:p:=by simp[hx]):p:=h
theorem aq{p:Prop}(h:p:=by simp[h']):p:=h
theorem ar{p:Prop}(h:p:=by simpa using hi):p:=h
theorem au{p:Prop}(h:p:=by simp[isLit]):p:=h
theorem av{p:Prop}(h:p:=by simp[ht]):p:=h
theorem aw{p:Prop}(h:p:=by simpa using b1):p:=h
theorem ay{p:Prop}(h:p:=by rw[hg];simp):p:=h
theorem az{p:Prop}(h:p:=by rw[e];exact e2):p:=h
theorem aA{p:Prop}(h:p:=by rw[hturn];exact .inl Z):p:=h
theorem aB{p:Prop}(h:p:=by simp only[qt]):p:=h
theorem aC{p:Prop}(h:p:=by intro v hv;simp at hv;rw[hv.2];rfl):p:=h
theorem aD{p:Prop}(h:p:=by rw[maxLen_eq];exact h63):p:=h
theorem aE{p:Prop}(h:p:=by simp only[DV.refs,zg];rintro k rfl;exact⟨_,C.cfl _ _ hl⟩):p:=h
theorem aF{p:Prop}(h:p:=by simp;omega):p:=h
theorem aG{p:Prop}(h:p:=by simp[lit,DV.refs]):p:=h
theorem aH{p:Prop}(h:p:=by simp only[qt];exact jC S.look hp hu):p:=h
theorem aJ{p:Prop}(h:p:=by simp only[Int.ofNat_zero,Int.natCast_zero];omega):p:=h
theorem aK{p:Prop}(h:p:=by rw[b1];exact hlt):p:=h
theorem aM{p:Prop}(h:p:=by simpa using hb):p:=h
theorem aN{p:Prop}(h:p:=by simp[Oper.upon]):p:=h
theorem aO{p:Prop}(h:p:=by simpa using this):p:=h
theorem aP{p:Prop}(h:p:=by rw[Act.Zn];exact hn):p:=h
theorem aQ{p:Prop}(h:p:=by rw[<-he.dst];exact I1):p:=h
theorem aR{p:Prop}(h:p:=by unfold frzStep;rw[hm]):p:=h
theorem aS{p:Prop}(h:p:=by simp[Op.operands]):p:=h
theorem aT{p:Prop}(h:p:=by simp only[DV.qL,zH];exact .inr hk2):p:=h
theorem aU{p:Prop}(h:p:=by rw[Gh.qT];exact .inl Z):p:=h
theorem aV{p:Prop}(h:p:=by rw[e];exact h):p:=h
theorem aW{p:Prop}(h:p:=by rw[JB];omega):p:=h
theorem aX{p:Prop}(h:p:=by rw[KL];exact w1):p:=h
theorem aY{p:Prop}(h:p:=by rw[inW_len];omega):p:=h
theorem aZ{p:Prop}(h:p:=by have:=q.den_nz;omega):p:=h
theorem bc{p:Prop}(h:p:=by simp[DV.refs,DV.qL]):p:=h
theorem be{p:Prop}(h:p:=by rw[show i.toNat+1=(i+1).toNat by omega];exact d):p:=h
theorem bf{p:Prop}(h:p:=by rw[show i.toNat+1=(i+1).toNat by omega];exact d.symm):p:=h
theorem bg{p:Prop}(h:p:=by unfold R64;omega):p:=h
theorem bh{p:Prop}(h:p:=by first|omega|(have hc2:=hc;simp at hc2;omega)):p:=h
theorem bi{p:Prop}(h:p:=by first|exact cmp_a h2|exact cmp_b h1 h2|exact cmp_c hI0 h3 h4 h5|exact cmp_d hI0 h3 h4 h5|exact cmp_e hI0 h3):p:=h
theorem bj{p:Prop}(h:p:=by first|omega|(simp only[JB];omega)):p:=h
theorem bk{p:Prop}(h:p:=by rw[<-hM,show s=0 by omega]):p:=h
theorem bl{p:Prop}(h:p:=by first|exact Kt.1 h1|exact Kt.1 h2|exact Kt.1 h3):p:=h
theorem bm{p:Prop}(h:p:=by first|exact fun e=>h1 (Kt.2 e)|exact fun e=>h2 (Kt.2 e)|exact fun e=>h3 (Kt.2 e)):p:=h
theorem bo{p:Prop}(h:p:=by first|(unfold R64;omega)|exact len8_R1 h3x|exact len8_R2 h3x hs3):p:=h
theorem bp{p:Prop}(h:p:=by first|exact d2_z1 h3|exact d2_z2 h3|exact d2_q hdh.1 eV eT1 ea1 eb1 eT2|exact d2_r hdh.2.1 eV eT1 ea1 eb1 eT2):p:=h
theorem bq{p:Prop}(h:p:=by unfold B64;omega):p:=h
theorem bt{p:Prop}(h:p:=by have:=hmac.2.1;have:=hmac.2.2;omega):p:=h
theorem bu{p:Prop}(h:p:=by first|exact dv_l1 h1|exact dv_l2 h1|exact hde.1|exact hde.2|exact hend.2.1|exact hend.2.2):p:=h
theorem bv{p:Prop}(h:p:=by first|assumption|exact fixd_dg qM _ _):p:=h
theorem bw{p:Prop}(h:p:=by first|omega|(simp only[JB,fixd_len];omega)|(simp;done)):p:=h
theorem bx{p:Prop}(h:p:=by rfl):p:=h
theorem bz{p:Prop}(h:p:=by first|exact part_0 h1|exact part_1 hR h1):p:=h
theorem b6{p:Prop}(h:p:=by first|exact made_0 h1|exact made_1 hm|exact made_2 hm|exact made_3 h1 h3 h4|exact made_4 h1 h3 h4):p:=h
theorem b7{p:Prop}(h:p:=by first|exact neg_s h1|exact neg_m h1|exact neg_b):p:=h
theorem b8{p:Prop}(h:p:=by first|omega|exact qd (kW _ _) aa|exact qd (Zd _ _) aa|exact qd (Zb _ _) aa):p:=h
theorem bA{p:Prop}(h:p:=by first|exact sgn_s|exact sgn_b hd1 hs1):p:=h
theorem bC{p:Prop}(h:p:=by first|rfl|exact jZ hR1 hR2 h2):p:=h
theorem bE{p:Prop}(h:p:=by first|exact abs_n hx h1|exact abs_p hx h1):p:=h
theorem bF{p:Prop}(h:p:=by first|exact mul_R1 h2|exact mul_R2 h2):p:=h
theorem bG{p:Prop}(h:p:=by first|exact mul_n h2 h3|exact mul_p h2 h3|exact mul_m):p:=h
theorem bH{p:Prop}(h:p:=by first|exact cmp_l h2|exact cmp_m h3|exact cmp_n h2 h3|exact cmp_o):p:=h
theorem bJ{p:Prop}(h:p:=by dsimp only;omega):p:=h
theorem bK{p:Prop}(h:p:=by first|exact tq_R hR1 hp|exact tq_S hR1 hp h2|exact tq_T hR2 hp h2):p:=h
theorem bL{p:Prop}(h:p:=by first|exact qd (dl_div _ _) aa|exact qd (Zu _ _) aa):p:=h
theorem bM{p:Prop}(h:p:=by rw[j9];exact qd (Zu _ _) aa):p:=h
theorem bO{p:Prop}(h:p:=by rw[j9];exact qd (dl_div _ _) aa):p:=h
theorem bP{p:Prop}(h:p:=by first|exact qn_3 h1|exact qn_4 h1):p:=h
theorem bQ{p:Prop}(h:p:=by first|exact bt_0 h1|exact bt_1 h1):p:=h
theorem bR{p:Prop}(h:p:=by first|omega|exact hp_l ab|exact hp_m ab|(have hc2:=hc;simp at hc2;omega)):p:=h
theorem bS{p:Prop}(h:p:=by first|exact WD bsO (hp_2 h1)|exact WD bsO (hp_3 h1)):p:=h
theorem bT{p:Prop}(h:p:=by first|exact WD bsO (hp_2 h1)|exact WD bsO (hp_3 h1)|exact WD bsO (hp_4 h1)|exact WD bsO (hp_5 h1)|exact hp_6 h1|exact hp_7 h1):p:=h
theorem bU{p:Prop}(h:p:=by first|exact WD bsO (rp_0 ab)|exact WD bsO (rp_1 ab)|exact WD bsO (rp_2 hk)):p:=h
theorem bV{p:Prop}(h:p:=by first|omega|exact ah|exact qd hk ah):p:=h
theorem bW{p:Prop}(h:p:=by simp[DV.refs,DV.qL,lit]):p:=h
theorem bX{p:Prop}(h:p:=by first|exact rd_e1 hI0 h1 ab|exact rd_e2 hI0 h1 ab):p:=h
theorem bY{p:Prop}(h:p:=by first|rfl|exact rfl):p:=h
theorem cd{p:Prop}(h:p:=by first|rfl|rw[wr_end hI1 ab,st_itoa hse]):p:=h
theorem cg{p:Prop}(h:p:=by first|omega|(simp only[zb,zd];omega)):p:=h
theorem ch{p:Prop}(h:p:=by first|exact mk_l1 heX heY h2|exact mk_l2 heX heY h2):p:=h
theorem ci{p:Prop}(h:p:=by first|exact f_a1 h1|exact f_a2 h1):p:=h
theorem cj{p:Prop}(h:p:=by first|exact tx_1 h1|exact tx_2 h1):p:=h
theorem cm{p:Prop}(h:p:=by have:=it_n hs;have:=it_d hs;first|omega|(simp only[za,zb,zd] at *;omega)):p:=h
theorem co{p:Prop}(h:p:=by subst h1;rfl):p:=h
theorem cp{p:Prop}(h:p:=by first|(rw[hI0.2,drop_at l k 0 aa,qK,WJ aa])|(rw[hI0.2,zV aa];rfl)):p:=h
theorem cq{p:Prop}(h:p:=by first|exact WD bsO (ct_1 h1)|exact WD bsO (ct_2 h1)|exact ct_3 h1|exact WD bsO (ct_4 h1)|exact WD bsO (ct_5 h1)|exact ct_6 h1):p:=h
theorem ct{p:Prop}(h:p:=by first|exact ck_7 ab|exact ck_8 hck):p:=h
theorem cu{p:Prop}(h:p:=by first|exact fr_3 h h1|exact fr_4 h h1):p:=h
theorem cv{p:Prop}(h:p:=by first|exact WD bsO (rs_1 h1)|exact WD bsO (rs_2 h1)|exact rs_3 h1|exact rs_4 h1):p:=h
theorem cw{p:Prop}(h:p:=by simp[Gh.new]):p:=h
theorem cz{p:Prop}(h:p:=by simp only[Gh.new,ql];exact heap_alloc_new w _):p:=h
theorem c5{p:Prop}(h:p:=by rw[ho];simp[Op.operands]):p:=h
theorem c6{p:Prop}(h:p:=by rw[Gh.qT];exact H):p:=h
theorem c7{p:Prop}(h:p:=by first|exact c3_1 h1|exact c3_2 h1 h2|exact c3_3 h1 h2):p:=h
theorem c8{p:Prop}(h:p:=by first|exact fi_at hI0.2 aa ab|exact fi_end hI0.2 aa):p:=h
theorem c9{p:Prop}(h:p:=by unfold KS at ha hb;unfold R64;omega):p:=h
theorem cA{p:Prop}(h:p:=by rw[hI0.2,zz aa]):p:=h
theorem cB{p:Prop}(h:p:=by cases e):p:=h
theorem cC{p:Prop}(h:p:=by rw[Gh.qT];simp only[qt,qz];exact⟨_,rfl,rfl⟩):p:=h
theorem cD{p:Prop}(h:p:=by first|exact li (ik_end hI0.2 aa)|exact li (ik_at hI0.2 aa ab)):p:=h
theorem cE{p:Prop}(h:p:=by simp[hp]):p:=h
theorem cF{p:Prop}(h:p:=by have hb1:=ti_b hm hP hk1;have hb2:=ti_b ho hR hk2;unfold R64;omega):p:=h
theorem cH{p:Prop}(h:p:=by first|exact lsl or_v1|exact lsl (or_v2 (or_p hm h32 hks))):p:=h
theorem cI{p:Prop}(h:p:=by first|(unfold R64;omega)|(have hb:=ca_bd ab;unfold R64;omega)):p:=h
theorem cJ{p:Prop}(h:p:=by first|exact ce hI0.2 aa|exact cr hI0.2 aa (ca_1 ab ab ab) ah|exact cr hI0.2 aa (ca_2v ab ab ab) ab|exact cr hI0.2 aa (ca_2w ab ab) ab|exact (ca_3 (a:=cE0 (f.getD k trZ)) (q:=0<(k:Int)) ab ab).elim|exact cr hI0.2 aa (ca_4 ab) ab):p:=h
theorem cK{p:Prop}(h:p:=by first|exact ca_2 ab ab ab (zi.1 ab)|exact ca_2f ab ab (zi.1 ab)|exact absurd (zi.1 ab) ab):p:=h
theorem cM{p:Prop}(h:p:=by have hc2:=cg_2 ab;omega):p:=h
theorem cN{p:Prop}(h:p:=by rw[zn];omega):p:=h
theorem cP{p:Prop}(h:p:=by first|exact ZF (lsl (pp_1 hm hI0.2.2 aa ab)) (li (pp_2 hm hI0.2.2 aa ab))|exact ZF (lsl (pp_3 hm hI0.2.1 hI0.2.2 aa)) (li (pp_4 hm hI0.2.2 aa))):p:=h
theorem cQ{p:Prop}(h:p:=by have hb:=de_b2 hm hP hk1;unfold R64;omega):p:=h
theorem cR{p:Prop}(h:p:=by have hb:=de_b2 hm hP hk1;omega):p:=h
theorem cS{p:Prop}(h:p:=by have hb:=de_b2 hm hP hk1;show R64 (Prod.fst k1);unfold R64;omega):p:=h
theorem cT{p:Prop}(h:p:=by have hb:=de_b2 hm hP hk1;show R64 (Prod.snd k1);unfold R64;omega):p:=h
theorem cU{p:Prop}(h:p:=by simp[DV.qL,DV.refs]):p:=h
theorem cV{p:Prop}(h:p:=by first|exact ZF (ls (WD bsO (er_1 ab))) (li (er_2 ab))|exact ZF (ls (WD bsO (va_3 ab hz))) (li (va_4 ab hz))):p:=h
theorem cW{p:Prop}(h:p:=by first|exact ZF (lsl (er_1 ab)) (li (er_2 ab))|exact ZF (lsl (er_3 ab)) (li (er_4 ab))):p:=h
theorem cX{p:Prop}(h:p:=by first|exact ZF (ls (WD bsO (er_1 ab))) (li (er_2 ab))|exact ZF (ls (WD bsO (di_3 ab hm1 hI0 hall1))) (li (di_4 ab hm1 hI0 hall1))):p:=h
theorem cY{p:Prop}(h:p:=by have hb:=di_b ab hm1 hk1;omega):p:=h
theorem cZ{p:Prop}(h:p:=by have hb:=di_b ab hm1 hk1;unfold R64;omega):p:=h
theorem dc{p:Prop}(h:p:=by first|assumption|exact sr_f ab):p:=h
theorem de{p:Prop}(h:p:=by first|omega|(simp only[zb,zd];omega)|(have hc2:=hc;simp at hc2;omega)):p:=h
theorem df{p:Prop}(h:p:=by first|exact c9_a h2|exact c9_b h1 h2|exact c9_c hI0 h3 h4|exact c9_d hI0 h3 h5|exact c9_e hI0 h3):p:=h
theorem dg{p:Prop}(h:p:=by first|omega|(rw[qB,qB];omega)|(rw[qB];omega)):p:=h
theorem dh{p:Prop}(h:p:=by first|omega|(rw[qB,qB];omega)):p:=h
theorem di{p:Prop}(h:p:=by first|omega|(rw[qB];omega)):p:=h
theorem dj{p:Prop}(h:p:=by first|exact hqr|(unfold R64;omega)):p:=h
theorem dl{p:Prop}(h:p:=by first|(unfold R64;omega)|exact gs_m (eq_of_beq hc) ht0 hv2|exact gs_q hq0):p:=h
theorem dm{p:Prop}(h:p:=by first|omega|(rw[qB];omega)|(simp only[zb,zd];omega)|(have hc2:=hc;simp at hc2;omega)):p:=h
theorem dp{p:Prop}(h:p:=by first|omega|(rw[qB];omega)|exact (Xl aa).symm):p:=h
theorem dt{p:Prop}(h:p:=by first|exact gs_a hI0 h1 h0 h2|exact gs_e hI0 h1):p:=h
theorem du{p:Prop}(h:p:=by first|exact dz_l1 h1|exact dz_l2 h1|rfl):p:=h
theorem dw{p:Prop}(h:p:=by first|omega|(simp only[zb,zd,JB];omega)|exact Nat.zero_lt_one):p:=h
theorem dx{p:Prop}(h:p:=by first|(unfold R64;omega)|exact dv_q hBt):p:=h
theorem dy{p:Prop}(h:p:=by first|exact WD azD (rpl_1 h1)|exact WD azD (rpl_2 h1 h2)|exact WD azD (pl_3 h1 h2)|rfl):p:=h
theorem d5{p:Prop}(h:p:=by first|exact pm_a h2|exact pm_b h2):p:=h
theorem d6{p:Prop}(h:p:=by first|exact WD bsO (tx_z h1)|exact WD bsO (tx_e1 hI0 h2 h3)|exact WD bsO (tx_e2 hI0 h2 h3)):p:=h
theorem d7{p:Prop}(h:p:=by simp only[pad_len,zb,zd];have:=tx_9 (z:=z) (Int.toNat i);omega):p:=h
theorem d8{p:Prop}(h:p:=by simp only[zb];omega):p:=h
theorem d9{p:Prop}(h:p:=by first|exact sl_a hI0 aa h2|exact sl_e hI0 h1):p:=h
theorem dA{p:Prop}(h:p:=by first|omega|(simp only[za,zb,zd];omega)|(have hc2:=hc;simp at hc2;omega)):p:=h
theorem dB{p:Prop}(h:p:=by rw[zo];omega):p:=h
theorem dC{p:Prop}(h:p:=by have:=hI0.2.2.2;simp only[za,zb,zd];omega):p:=h
theorem dD{p:Prop}(h:p:=by first|exact WD azD (pa_z)|rfl):p:=h
theorem dE{p:Prop}(h:p:=by first|omega|(simp only[zn,zo];omega)):p:=h
theorem dG{p:Prop}(h:p:=by first|(have g:=pt_1 h1 he;exact g)|(have g:=pt_2 h1;exact g)):p:=h
theorem dH{p:Prop}(h:p:=by first|omega|(have hc2:=X6 (eq_of_beq hc);omega)):p:=h
theorem dI{p:Prop}(h:p:=by first|(have g:=fr_a1 hy h1 h2;exact g)|(have g:=fr_a2 hy h1 h2;exact g)|(have g:=fr_b1 hy h1 h3;exact g)|(have g:=fr_b2 hy h1 h3;exact g)):p:=h
theorem dJ{p:Prop}(h:p:=by first|exact fr_c1 ab|exact fr_c2 ab ab):p:=h
theorem dK{p:Prop}(h:p:=by first|exact qk_n hs hb ab|exact qk_p hs hb ab):p:=h
theorem dL{p:Prop}(h:p:=by first|rfl|exact qk_d hDs ab):p:=h
theorem dM{p:Prop}(h:p:=by first|omega|exact hb1 ab|(have hc2:=hc;simp at hc2;omega)):p:=h
theorem dN{p:Prop}(h:p:=by unfold R64;first|omega|(have:=qk_b hDs ab;omega)):p:=h
theorem dO{p:Prop}(h:p:=by unfold R64;first|omega|(have:=hB;omega)|exact of_rn hB|exact of_rd hB|(have:=of_n hX hn hd hd0;omega)):p:=h
theorem dP{p:Prop}(h:p:=by first|omega|exact of_g hB.1|exact of_g2 hB.1):p:=h
theorem dQ{p:Prop}(h:p:=by have hl1:=of_l1 (of_n hX hn hd hd0);have hl2:=of_l1 (of_d hX hn hd hd0);have hl3:=of_l3 (frq n d).num;first|omega|(simp only[za,zb,zd];omega)):p:=h
theorem dR{p:Prop}(h:p:=by first|exact of_e1 ab|exact of_e2 ab):p:=h
theorem dS{p:Prop}(h:p:=by first|exact li (sn_1 ab)|exact li (sn_2 ab ab)|exact li (sn_3 ab ab)):p:=h
theorem dT{p:Prop}(h:p:=by first|exact WD (fun a=>vS (bsO a)) (ng_1 ab)|exact WD (fun a=>vS (bsO a)) (ng_2 ab)|exact WD (fun a=>vS (bsO a)) (ng_3 ab ab)):p:=h
theorem dU{p:Prop}(h:p:=by first|exact WD (fun a=>vS (bsO a)) (ab_1 ab)|exact WD (fun a=>vS (bsO a)) (ab_2 ab)):p:=h
theorem dV{p:Prop}(h:p:=by first|exact WD (fun a=>vS (bsO a)) (rnu_2 ab)|exact WD (fun a=>vS (bsO a)) (rnu_3 ab)):p:=h
theorem dW{p:Prop}(h:p:=by exact WD (fun a=>vS (bsO (txt a))) ad_1):p:=h
theorem dX{p:Prop}(h:p:=by exact WD (fun a=>vS (bsO (txt a))) rmu_1):p:=h
theorem dY{p:Prop}(h:p:=by first|exact wn_1 h1|exact wn_2 h1):p:=h
theorem dZ{p:Prop}(h:p:=by first|exact lb (dgb_f hI0.2 aa ab)|exact lb (dgb_e hI0.2 aa)):p:=h
theorem ed{p:Prop}(h:p:=by first|exact lb (df_1 ab)|exact lb (df_2 ab)):p:=h
theorem eg{p:Prop}(h:p:=by first|omega|exact Nat.one_pos|exact gk_n hc|exact pr_g h1|exact gk_g hc|(have hc2:=hc;simp at hc2;omega)):p:=h
theorem eh{p:Prop}(h:p:=by first|exact li (gk_A hE hD hb hx ab)|exact li (gk_B hE hD hb ab)|exact li (gk_C hE hf (jD hD hsl _ ab))|exact li (gk_D hE hD hf (jD hD hsl _ ab) ab ab)|exact li (gk_G hE hD hf (jD hD hsl _ ab) ab)|exact li (gk_E hE hD hf (jD hD hsl _ ab) ab)):p:=h
theorem em{p:Prop}(h:p:=by first|exact li (ea_end hI0.2 aa)|exact li (ea_at hI0.2 aa ab)):p:=h
theorem ep{p:Prop}(h:p:=by first|exact lb (shf_n ab)|exact lb (shf_e hI0.2 aa)|exact lb (shf_f hI0.2 aa ab)):p:=h
theorem eu{p:Prop}(h:p:=by unfold KS Zj at ht hu;unfold R64;omega):p:=h
theorem ew{p:Prop}(h:p:=by first|exact lb (af_1 ab)|exact lb (af_2 ab)):p:=h
theorem ez{p:Prop}(h:p:=by first|exact li (ce hI0.2 aa)|exact li (cr hI0.2 aa Z ab)|exact li (cr hI0.2 aa (ckq_3 ab).symm ab)):p:=h
theorem e8{p:Prop}(h:p:=by first|exact zi.1 ab|(rw[ckq_3 ab];exact zi.1 ab)):p:=h
theorem eA{p:Prop}(h:p:=by rw[hsz'];exact I):p:=h
theorem eC{p:Prop}(h:p:=by simpa [jh] using hda):p:=h
theorem eD{p:Prop}(h:p:=by first|exact dg_1 ab|exact dg_2 ab|exact dg_3 ab|exact dg_4 ab):p:=h
theorem eE{p:Prop}(h:p:=by first|(unfold R64;omega)|(have hb:=de_ks hv ab;unfold KS Zj at hb;unfold R64;omega)):p:=h
theorem eG{p:Prop}(h:p:=by first|exact ZF (lsl (mu_1 ab)) (li (mu_2 ab))|exact ZF (lsl (mu_3 ab ab)) (li (mu_4 ab ab))|exact ZF (lsl (mu_5 ab ab)) (li (mu_6 ab ab))):p:=h
theorem eH{p:Prop}(h:p:=by have hk9:=hv _ (ki (z:=trZ) (k:=k) aa);unfold KS Zj at hk9;unfold R64;omega):p:=h
theorem eJ{p:Prop}(h:p:=by first|exact lb (fw_9 ab)|exact lb (fw_10 hI0.2 aa)|exact lb (fw_11 hI0.2 aa ab)):p:=h
theorem eL{p:Prop}(h:p:=by rw[XA];exact XI d1 h2):p:=h
theorem eM{p:Prop}(h:p:=by decide +kernel):p:=h
theorem eO{p:Prop}(h:p:=by have:=fv_z (few_fr a h.sx h.sy);have:=fv_z (few_fr b h.sx h.sy);omega):p:=h
theorem eQ{p:Prop}(h:p:=by first|rfl|exact absurd Z ab|(exfalso;simp_all;done)):p:=h
theorem eR{p:Prop}(h:p:=by unfold R64;first|omega|(simp only[zb,zd] at *;omega)):p:=h
theorem eS{p:Prop}(h:p:=by first|omega|(simp only[zb,zd] at *;omega)):p:=h
theorem eW{p:Prop}(h:p:=by first|exact tk_n Ff|exact canT_n):p:=h
theorem eZ{p:Prop}(h:p:=by as_aux_lemma=>kernel_rfl):p:=h
theorem fa{p:Prop}(h:p:=by first|exact add_s hR1 hR2 h2|exact add_e ab bC|exact add_g ab ab bC|exact add_l ab ab bC):p:=h
theorem fb{p:Prop}(h:p:=by rw[subI_1];exact qd (dl_zsub _ _) bJ):p:=h
theorem fe{p:Prop}(h:p:=by subst hs2;have:=w198 (q6 (decide (z1<0)) ((Int.natAbs z1)%(Int.natAbs z2))) (z2,true) (kK _ _) (show okI (z2,true) from hb2) bM hl2;rw[nW_b hd2] at this;exact this):p:=h
theorem ff{p:Prop}(h:p:=by first|exact sr_1 aa|exact sr_2 (k:=k) dc|exact sr_3 hI0.2.1 hI0.2.2 aa):p:=h
theorem fg{p:Prop}(h:p:=by first|exact qk_v (qk_k hDs ab) dK dL|exact qk_0 hs ab|exact qk_3 hDs ab):p:=h
end Go
namespace Go
theorem Z.{u}{α:Sort u}{a:α}:a=a:=rfl
abbrev za:=@List.length_append
abbrev zb:=@List.length_cons
abbrev zd:=@List.length_nil
abbrev ze:=@List.getD_eq_getElem?_getD
abbrev zf:=@decide_eq_true_eq
abbrev zg:=@List.mem_singleton
abbrev zh:=@Option.some.injEq
abbrev zi:=@Decidable.not_not
abbrev zj:=@Bool.and_eq_true
abbrev zk:=@decide_eq_false
abbrev zl:=@decide_eq_true
abbrev zm:=@List.getElem?_eq_getElem
abbrev zn:=@List.length_take
abbrev zo:=@List.length_drop
abbrev zr:=@List.all_eq_true
abbrev zt:=@Nat.zero_le
abbrev zu:=@List.mem_of_mem_take
abbrev zw:=@List.mem_of_mem_drop
abbrev zx:=@Prod.mk.injEq
abbrev zy:=@List.map_cons
abbrev zz:=@List.take_of_length_le
abbrev zB:=@Nat.le_refl
abbrev zC:=@Array.getD_eq_getD_getElem?
abbrev zD:=@Nat.eq_of_beq_eq_true
abbrev zE:=@List.mem_map
abbrev zF:=@List.mem_cons
abbrev zG:=@decide_eq_false_iff_not
abbrev zH:=@List.mem_append
abbrev zI:=@List.length_map
abbrev zJ:=@List.take_append_of_le_length
abbrev zK:=@List.eq_nil_of_length_eq_zero
abbrev zL:=@Bool.eq_iff_iff
abbrev zM:=@List.drop_of_length_le
abbrev zN:=@List.mem_cons_of_mem
abbrev zO:=@Option.getD_some
abbrev zQ:=@List.cons_append
abbrev zR:=@List.append_nil
abbrev zS:=@Array.getElem?_eq_some_iff
abbrev zT:=@Int.toNat_natCast
abbrev zU:=@List.nil_append
abbrev zV:=@List.drop_eq_nil_of_le
abbrev zW:=@Nat.le_of_ble_eq_true
abbrev zX:=@List.map_nil
abbrev zY:=@Option.bind_some
abbrev zZ:=@List.append_assoc
abbrev z6:=@List.length_singleton
abbrev z7:=@Bool.or_eq_false_iff
abbrev z8:=@List.map_append
abbrev qa:=@List.length_replicate
abbrev qb:=@List.getElem?_map
abbrev qc:=@Option.map_some
abbrev qd:=@Nat.le_trans
abbrev qe:=@Array.getElem?_toList
abbrev qf:=@Array.length_toList
abbrev qg:=@Option.bind_eq_some_iff
abbrev qh:=@List.mem_cons_self
abbrev qi:=@List.not_mem_nil
abbrev qj:=@List.getElem?_take
abbrev qk:=@Bool.false_eq_true
abbrev ql:=@if_true
abbrev qm:=@if_false
abbrev qo:=@Result.andThen_ok
abbrev qp:=@Sem.run_bind
abbrev qq:=@Sem.run_pure
end Go
section
namespace Go.Lens
inductive PV where
 | lit (v:Value)
 | slice (es:List (List PV))
 | agg (cs:List PV)
 | box (cs:List PV)
 | fn (f:Fn) (first caps:List PV)
 | iface (t:TypeId) (v:PV)
 | map (ks vs:List PV)
 | any
instance:Inhabited PV:=⟨.lit default⟩
def isLit:Value->Bool
 | .bool _| .int ..| .float ..| .complex ..| .string _| .nilFunc| .nilIface| .pointer none| .map none| .chan none| .slice none 0 0=>true
 | .pointer (some ⟨_,_,none⟩)=>true
 | _=>false
structure Rd where
 cell:Nat->Nat->Option Value
 map:Nat->Option (Array MapEntry)
mutual
def qI (R:Rd):PV->Value->Prop
 | .lit u,v=>v=u/\isLit u=true
 | .slice es,v=>∃ a cap,v=.slice a es.length cap/\es.length<=cap/\(es=[]\/∃ b off esz,a=some ⟨b,off,none⟩/\qQ R es b off esz)
 | .agg cs,v=>∃ vs,v=.agg vs/\(∀ x∈vs.toList,x.oneCell'=true)/\qw R cs vs.toList
 | .box cs,v=>∃ b off,v=.pointer (some ⟨b,off,none⟩)/\qY R cs b off
 | .fn f first caps,v=>∃ x y,v=.func f x y/\qw R first x.toList/\qw R caps y.toList
 | .iface t p,v=>∃ u,v=.iface t u/\qI R p u
 | .map ks vs,v=>∃ r es,v=.map (some r)/\R.map r=some es/\qw R ks (es.toList.map (·.key))/\qw R vs (es.toList.map (·.val))
 | .any,v=>v.oneCell'=true
def qw (R:Rd):List PV->List Value->Prop
 | [],vs=>vs=[]
 | c::cs,vs=>∃ v vs',vs=v::vs'/\qI R c v/\qw R cs vs'
def qY (R:Rd):List PV->Nat->Nat->Prop
 | [],_,_=>True
 | c::cs,b,off=>(∃ v,R.cell b off=some v/\v.oneCell'=true/\qI R c v)/\qY R cs b (off+1)
def qQ (R:Rd):List (List PV)->Nat->Nat->Nat->Prop
 | [],_,_,_=>True
 | e::es,b,off,esz=>e.length=esz/\qY R e b off/\qQ R es b (off+esz) esz
end
structure Rd.Le (R S:Rd):Prop where
 cell:∀ b o v,R.cell b o=some v->S.cell b o=some v
 map:∀ r es,R.map r=some es->S.map r=some es
mutual
theorem qI.mono {R S:Rd} (h:R.Le S):∀ (p:PV) (v:Value),qI R p v->qI S p v
 | .lit u,v,H=>by simpa only[qI] using H
 | .slice es,v,H=>by
  simp only[qI] at H ⊢
  obtain⟨a,cap,e,hl,H⟩:=H
  refine⟨a,cap,e,hl,H.imp id ?_⟩
  rintro⟨b,off,esz,e,H⟩
  exact⟨b,off,esz,e,qQ.mono h es _ _ _ H⟩
 | .agg cs,v,H=>by
  simp only[qI] at H ⊢
  obtain⟨vs,e,ho,H⟩:=H
  exact⟨vs,e,ho,qw.mono h cs _ H⟩
 | .box cs,v,H=>by
  simp only[qI] at H ⊢
  obtain⟨b,off,e,H⟩:=H
  exact⟨b,off,e,qY.mono h cs _ _ H⟩
 | .fn f first caps,v,H=>by
  simp only[qI] at H ⊢
  obtain⟨x,y,e,H,H'⟩:=H
  exact⟨x,y,e,qw.mono h first _ H,qw.mono h caps _ H'⟩
 | .iface t p,v,H=>by
  simp only[qI] at H ⊢
  obtain⟨u,e,H⟩:=H
  exact⟨u,e,qI.mono h p _ H⟩
 | .map ks vs,v,H=>by
  simp only[qI] at H ⊢
  obtain⟨r,es,e,hm,H,H'⟩:=H
  exact⟨r,es,e,h.map _ _ hm,qw.mono h ks _ H,qw.mono h vs _ H'⟩
 | .any,v,H=>by simpa only[qI] using H
theorem qw.mono {R S:Rd} (h:R.Le S):∀ (ps:List PV) (vs:List Value),qw R ps vs->qw S ps vs
 | [],vs,H=>by simpa only[qw] using H
 | c::cs,vs,H=>by
  simp only[qw] at H ⊢
  obtain⟨v,vs',e,H,H'⟩:=H
  exact⟨v,vs',e,qI.mono h c _ H,qw.mono h cs _ H'⟩
theorem qY.mono {R S:Rd} (h:R.Le S):∀ (ps:List PV) (b off:Nat),qY R ps b off->qY S ps b off
 | [],_,_,_=>by simp only[qY]
 | c::cs,b,off,H=>by
  simp only[qY] at H ⊢
  obtain⟨⟨v,hc,ho,H⟩,H'⟩:=H
  exact⟨⟨v,h.cell _ _ _ hc,ho,qI.mono h c _ H⟩,qY.mono h cs _ _ H'⟩
theorem qQ.mono {R S:Rd} (h:R.Le S):∀ (es:List (List PV)) (b off esz:Nat),qQ R es b off esz->qQ S es b off esz
 | [],_,_,_,_=>by simp only[qQ]
 | e::es,b,off,esz,H=>by
  simp only[qQ] at H ⊢
  obtain⟨h1,h2,h3⟩:=H
  exact⟨h1,qY.mono h e _ _ h2,qQ.mono h es _ _ _ h3⟩
end
end Go.Lens
end
section
namespace Go.Lens
structure TI where
  info:TypeInfo
  und:TypeDesc
  eqOk:Bool
structure Tab where
  get:TypeId->Option TI
def Tab.underlying (T:Tab) (t:TypeId):Option TypeDesc:=match T.get t with|some i=>some i.und|none=>none
def Tab.info? (T:Tab) (t:TypeId):Option TypeInfo:=match T.get t with|some i=>some i.info|none=>none
def Tab.eqBad (T:Tab) (t:TypeId):Bool:=match T.get t with|some i=>!i.eqOk|none=>true
class qH (P:Program) (T:Tab):Prop where
  ok:∀ t i,T.get t=some i->P.underlying t=some i.und/\P.info? t=some i.info/\(i.eqOk=true->(P.stoodInHeld t||P.eqGuardType P.depth t)=false)
theorem qH.und (P:Program) {T:Tab} [H:qH P T] {t:TypeId} {d:TypeDesc} (h:T.underlying t=some d):P.underlying t=some d:=by
  unfold Tab.underlying at h
  split at h
  · rename_i i hi;cases h;exact (H.ok t i hi).1
  · cases h
theorem qH.inf (P:Program) {T:Tab} [H:qH P T] {t:TypeId} {i:TypeInfo} (h:T.info? t=some i):P.info? t=some i:=by
  unfold Tab.info? at h
  split at h
  · rename_i i hi;cases h;exact (H.ok t i hi).2.1
  · cases h
theorem qH.eqs (P:Program) {T:Tab} [H:qH P T] {t:TypeId} (h:T.eqBad t=false):(P.stoodInHeld t||P.eqGuardType P.depth t)=false:=by
  unfold Tab.eqBad at h
  split at h
  · rename_i i hi;exact (H.ok t i hi).2.2 ai
  · cases h
theorem qF {P:Program} {T:Tab} [qH P T] {t:TypeId} {d:TypeDesc} (h:T.underlying t=some d) (w:World):(underlying t).run P w=.ok d w:=
  run_underlying (qH.und P h) w
inductive DV where
  | dead
  | nils
  | gd (c:Bool) (d:DV)
  | pv (p:PV)
  | bref (h c:Nat)
  | aref (h v:Nat)
  | atrunc (h v k:Nat)
  | eref (h v i c:Nat)
  | awin (h v o n:Nat)
  | mref (h:Nat)
  | agg (ds:List DV)
  | tup (ds:List DV)
  | clos (f:Fn) (first caps:List DV)
  | yld (h:Nat) (ps:Array Tmp) (assign body:Code) (ds:List DV)
instance:Inhabited DV:=⟨.dead⟩
inductive MO where
  | box (T:TypeId) (ds:List DV)
  | arr (v esz:Nat) (T:TypeId) (es:List (List PV))
  | map (ks vs:List PV)
  | fbox (cs:List PV)
  | farr (v:Nat) (es:List (List PV))
  | fmap (ks vs:List PV)
  | siter (s:ByteArray) (pos:Nat)
  | obj (o:Obj)
  | miter (hm since:Nat) (seen:Array Nat)
  | kmap (R:List (PV×PV)->Prop)
  | arrK (v esz:Nat) (T:TypeId) (R:List (List PV)->Prop)
  | lrec (st:LoopState) (pe:Bool)
  | kdat (P:List ((Int×Int)×Rat))
  | gone
instance:Inhabited MO:=⟨.gone⟩
abbrev Na:=List (Nat×MO)
mutual
def DV.refs:DV->List Nat
  | .dead| .pv _| .nils=>[]
  | .gd _ d=>d.refs
  | .bref h _| .aref h _| .atrunc h _ _| .eref h _ _ _| .awin h _ _ _| .mref h=>[h]
  | .agg ds| .tup ds=>DV.qL ds
  | .clos _ first caps=>DV.qL first++DV.qL caps
  | .yld h _ _ _ ds=>h::DV.qL ds
def DV.qL:List DV->List Nat
  | []=>[]
  | d::ds=>d.refs++DV.qL ds
end
def MO.refs:MO->List Nat
  | .box _ ds=>DV.qL ds
  | .miter hm _ _=>[hm]
  | _=>[]
structure Base where
  addr:Option Addr:=none
  len:Nat:=0
  cap:Nat:=0
  esz:Nat:=0
  ver:Nat:=0
  map:Nat:=0
  arr:Bool:=false
  us:List Value:=[]
  fn:FuncId:=default
  dn:Nat:=0
  ps:Array Tmp:= #[]
  asg:Code:=.skip
  bd:Code:=.skip
instance:Inhabited Base:=⟨{}⟩
structure Gh where
  base:Nat
  R0:Rd
  ρ:Nat->Base
  γ:Nat->Option Nat
def kL (w:World) (r:Nat):Option (Array MapEntry):=match w.heap[r]? with|some (.map es _)=>some es|_=>none
def Gh.rd (G:Gh) (w:World):Rd where
  cell b o:=if b<G.base then G.R0.cell b o else if G.γ b=none then w.cell? ⟨b,o,none⟩ else none
  map r:=if r<G.base then G.R0.map r else if G.γ r=none then kL w r else none
mutual
def qt (G:Gh) (R:Rd):DV->Value->Prop
  | .dead,_=>True
  | .nils,v=>v=.slice none 0 0
  | .gd c d,v=>(c=true->qt G R d v)/\(c=false->v=undef)
  | .pv p,v=>qI R p v
  | .bref h c,v=>(G.ρ h).arr=false/\∃ b,(G.ρ h).addr=some ⟨b,0,none⟩/\v=.pointer (some ⟨b,c,none⟩)
  | .aref h k,v=>k<=(G.ρ h).ver/\((G.ρ h).ver=k->v=.slice (G.ρ h).addr (G.ρ h).len (G.ρ h).cap)
  | .atrunc h k n,v=>k<=(G.ρ h).ver/\((G.ρ h).ver=k->n<=(G.ρ h).len/\v=.slice (G.ρ h).addr n (G.ρ h).cap)
  | .eref h k i c,v=>k<=(G.ρ h).ver/\((G.ρ h).ver=k->∃ b off,(G.ρ h).addr=some ⟨b,off,none⟩/\v=.pointer (some ⟨b,off+i*(G.ρ h).esz+c,none⟩))
  | .awin h k o n,v=>k<=(G.ρ h).ver/\((G.ρ h).ver=k->o+n<=(G.ρ h).len/\∃ b off,(G.ρ h).addr=some ⟨b,off,none⟩/\v=.slice (some ⟨b,off+o*(G.ρ h).esz,none⟩) n ((G.ρ h).cap-o))
  | .mref h,v=>(G.ρ h).arr=false/\v=.map (some (G.ρ h).map)
  | .agg ds,v=>∃ vs,v=.agg vs/\(∀ x∈vs.toList,x.oneCell'=true)/\qz G R ds vs.toList
  | .tup ds,v=>∃ vs,v=.tuple vs/\qz G R ds vs.toList
  | .clos f first caps,v=>∃ x y,v=.func f x y/\qz G R first x.toList/\qz G R caps y.toList
  | .yld h ps asg bd ds,v=>(G.ρ h).arr=false/\v=.func (.yield (G.ρ h).map) #[] #[]/\((G.ρ h).ps=ps/\(G.ρ h).asg=asg/\(G.ρ h).bd=bd)/\qz G R ds (G.ρ h).us
def qz (G:Gh) (R:Rd):List DV->List Value->Prop
  | [],vs=>vs=[]
  | d::ds,vs=>∃ v vs',vs=v::vs'/\qt G R d v/\qz G R ds vs'
end
def Gh.keeps (G G':Gh) (h:Nat):Prop:=G'.ρ h=G.ρ h\/((G.ρ h).arr=true/\(G.ρ h).ver<(G'.ρ h).ver)
mutual
theorem qt.mono {G G':Gh} {R S:Rd} (hR:R.Le S):∀ (d:DV) (v:Value),(∀ h∈d.refs,G.keeps G' h)->qt G R d v->qt G' S d v
  | .dead,_,_,_=>by simp only[qt]
  | .nils,_,_,H=>by simpa only[qt] using H
  | .gd c d,v,hk,H=>by
    simp only[qt] at H ⊢
    exact⟨fun hc=>qt.mono hR d v (fun h hh=>hk h aj) (H.1 hc),H.2⟩
  | .pv p,v,_,H=>by simp only[qt] at H ⊢;exact qI.mono hR p v H
  | .bref h c,v,hk,H=>by
    simp only[qt] at H ⊢
    rcases hk h ak with e|⟨e,_⟩
    · rw[e];exact H
    · rw[H.1] at e;cases e
  | .aref h k,v,hk,H=>by
    simp only[qt] at H ⊢
    rcases hk h ak with e|⟨e,e'⟩
    · rw[e];exact H
    · exact⟨aa,fun h'=>aa⟩
  | .atrunc h k n,v,hk,H=>by
    simp only[qt] at H ⊢
    rcases hk h ak with e|⟨e,e'⟩
    · rw[e];exact H
    · exact⟨aa,fun h'=>aa⟩
  | .eref h k i c,v,hk,H=>by
    simp only[qt] at H ⊢
    rcases hk h ak with e|⟨e,e'⟩
    · rw[e];exact H
    · exact⟨aa,fun h'=>aa⟩
  | .awin h k o n,v,hk,H=>by
    simp only[qt] at H ⊢
    rcases hk h ak with e|⟨e,e'⟩
    · rw[e];exact H
    · exact⟨aa,fun h'=>aa⟩
  | .mref h,v,hk,H=>by
    simp only[qt] at H ⊢
    rcases hk h ak with e|⟨e,_⟩
    · rw[e];exact H
    · rw[H.1] at e;cases e
  | .agg ds,v,hk,H=>by
    simp only[qt] at H ⊢
    obtain⟨vs,e,ho,H⟩:=H
    exact⟨vs,e,ho,qz.mono hR ds _ (fun h hh=>hk h aj) H⟩
  | .tup ds,v,hk,H=>by
    simp only[qt] at H ⊢
    obtain⟨vs,e,H⟩:=H
    exact⟨vs,e,qz.mono hR ds _ (fun h hh=>hk h aj) H⟩
  | .clos f first caps,v,hk,H=>by
    simp only[qt] at H ⊢
    obtain⟨x,y,e,H,H'⟩:=H
    exact⟨x,y,e,qz.mono hR first _ (fun h hh=>hk h al) H,qz.mono hR caps _ (fun h hh=>hk h al) H'⟩
  | .yld h ps asg bd ds,v,hk,H=>by
    simp only[qt] at H ⊢
    obtain⟨H1,H2,H4,H3⟩:=H
    have H3':=qz.mono hR ds _ (fun k hh=>hk k al) H3
    rcases hk h ak with e|⟨e,_⟩
    · rw[e];exact⟨H1,H2,H4,H3'⟩
    · rw[H1] at e;cases e
theorem qz.mono {G G':Gh} {R S:Rd} (hR:R.Le S):∀ (ds:List DV) (vs:List Value),(∀ h∈DV.qL ds,G.keeps G' h)->qz G R ds vs->qz G' S ds vs
  | [],vs,_,H=>by simpa only[qz] using H
  | d::ds,vs,hk,H=>by
    simp only[qz] at H ⊢
    obtain⟨v,vs',e,H,H'⟩:=H
    exact⟨v,vs',e,qt.mono hR d _ (fun h hh=>hk h (by simp[DV.qL,hh])) H,qz.mono hR ds _ (fun h hh=>hk h (by simp[DV.qL,hh])) H'⟩
end
class Lz where
  L:Nat->Option Obj
  D:Bool:=false
  kr:List ((Int×Int)×Rat)->List (PV×PV)->Prop:=fun _ _=>False
def qW [Lz] (G:Gh) (w:World) (h:Nat):MO->Prop
  | .box T ds=>(G.ρ h).arr=false/\∃ b c,(G.ρ h).addr=some ⟨b,0,none⟩/\G.γ b=some h/\w.heap[b]? =some (.cells c T (0,0))/\(∀ x∈c.toList,x.oneCell'=true)/\qz G (G.rd w) ds c.toList
  | .arr v esz T es=>(G.ρ h).arr=true/\(G.ρ h).ver=v/\(G.ρ h).esz=esz/\(G.ρ h).len=es.length/\es.length<=(G.ρ h).cap/\(∀ e∈es,e.length=esz)/\
      ((G.ρ h).addr=none/\(G.ρ h).cap=0\/∃ b c,(G.ρ h).addr=some ⟨b,0,none⟩/\G.γ b=some h/\w.heap[b]? =some (.cells c T (0,0))/\
        (G.ρ h).cap<=maxLen/\c.size=(G.ρ h).cap*esz/\(∀ x∈c.toList.take (es.length*esz),x.oneCell'=true)/\qw (G.rd w) es.flatten (c.toList.take (es.length*esz)))
  | .map ks vs=>(G.ρ h).arr=false/\∃ es clock,G.γ (G.ρ h).map=some h/\w.heap[(G.ρ h).map]? =some (.map es clock)/\
      qw (G.rd w) ks (es.toList.map (·.key))/\qw (G.rd w) vs (es.toList.map (·.val))
  | .fbox cs=>(G.ρ h).arr=false/\∃ b,(G.ρ h).addr=some ⟨b,0,none⟩/\qY (G.rd w) cs b 0
  | .farr v es=>(G.ρ h).arr=true/\(G.ρ h).ver=v/\(G.ρ h).len=es.length/\es.length<=(G.ρ h).cap/\
      (es=[]\/∃ b off esz,(G.ρ h).addr=some ⟨b,off,none⟩/\(G.ρ h).esz=esz/\qQ (G.rd w) es b off esz)
  | .fmap ks vs=>(G.ρ h).arr=false/\∃ es,(G.rd w).map (G.ρ h).map=some es/\qw (G.rd w) ks (es.toList.map (·.key))/\qw (G.rd w) vs (es.toList.map (·.val))
  | .siter s pos=>(G.ρ h).arr=false/\∃ b,(G.ρ h).addr=some ⟨b,0,none⟩/\G.γ b=some h/\w.heap[b]? =some (.stringIter s pos)
  | .obj o=>(G.ρ h).arr=false/\G.γ (G.ρ h).map=some h/\w.heap[(G.ρ h).map]? =some o
  | .miter hm since seen=>(G.ρ h).arr=false/\(G.ρ hm).arr=false/\∃ b,(G.ρ h).addr=some ⟨b,0,none⟩/\G.γ b=some h/\w.heap[b]? =some (.mapIter (some (G.ρ hm).map) since seen since)
  | .kmap R=>(G.ρ h).arr=false/\∃ (es:List MapEntry) (kv:List (PV×PV)),R kv/\G.γ (G.ρ h).map=some h/\w.heap[(G.ρ h).map]? =some (.map es.toArray es.length)/\
      (∀ (i:Nat) (e:MapEntry),es[i]? =some e->e.born=i)/\qw (G.rd w) (kv.map (·.1)) (es.map (·.key))/\qw (G.rd w) (kv.map (·.2)) (es.map (·.val))
  | .arrK v esz T R=>∃ es:List (List PV),R es/\(G.ρ h).arr=true/\(G.ρ h).ver=v/\(G.ρ h).esz=esz/\(G.ρ h).len=es.length/\es.length<=(G.ρ h).cap/\(∀ e∈es,e.length=esz)/\
      ((G.ρ h).addr=none/\(G.ρ h).cap=0\/∃ b c,(G.ρ h).addr=some ⟨b,0,none⟩/\G.γ b=some h/\w.heap[b]? =some (.cells c T (0,0))/\
        (G.ρ h).cap<=maxLen/\c.size=(G.ρ h).cap*esz/\(∀ x∈c.toList.take (es.length*esz),x.oneCell'=true)/\qw (G.rd w) es.flatten (c.toList.take (es.length*esz)))
  | .lrec st pe=>(G.ρ h).arr=false/\G.γ (G.ρ h).map=some h/\w.heap[(G.ρ h).map]? =some (.loop { state:=st,pending:=bif pe then some .ret else none,fn:=(G.ρ h).fn,tmps:=(G.ρ h).us.toArray,params:=(G.ρ h).ps,assign:=(G.ρ h).asg,body:=(G.ρ h).bd,defers:=(G.ρ h).dn })
  | .kdat P=>(G.ρ h).arr=false/\∃ (es:List MapEntry) (kv:List (PV×PV)),Lz.kr P kv/\G.γ (G.ρ h).map=some h/\w.heap[(G.ρ h).map]? =some (.map es.toArray es.length)/\
      (∀ (i:Nat) (e:MapEntry),es[i]? =some e->e.born=i)/\qw (G.rd w) (kv.map (·.1)) (es.map (·.key))/\qw (G.rd w) (kv.map (·.2)) (es.map (·.val))
  | .gone=>True
structure Vw where
  get:Nat->DV
  look:Nat->Option MO
variable [Lz]
class Dn:Prop where
  d:Lz.D=false
theorem Dn.no [h:Dn] {p:Prop} (e:Lz.D=true):p:=by rw[h.d] at e;cases e
structure Inv (G:Gh) (σ:Vw) (a:Act) (w:World):Prop where
  ts:∀ s,qt G (G.rd w) (σ.get s) (a.tmps.getD s undef)
  size:∀ s,a.tmps.size<=s->σ.get s=.dead
  ms:∀ h o,σ.look h=some o->qW G w h o
  fresh:∀ b h,G.γ b=some h->b<w.heap.size
  own:∀ b h,G.γ b=some h->∃ o,σ.look h=some o
  refsT:∀ s h,h∈(σ.get s).refs->∃ o,σ.look h=some o
  refsM:∀ k o h,σ.look k=some o->h∈o.refs->∃ o',σ.look h=some o'
  r0:∀ b o v,b<G.base->G.R0.cell b o=some v->G.γ b=none/\w.cell? ⟨b,o,none⟩=some v
  r0m:∀ r es,r<G.base->G.R0.map r=some es->G.γ r=none/\kL w r=some es
  baseLe:G.base<=w.heap.size
  laid:∀ b o,Lz.L b=some o->G.γ b=none/\w.heap[b]? =some o
structure Later (G:Gh) (w:World) (G':Gh) (w':World):Prop where
  base:G'.base=G.base
  R0:G.R0.Le G'.R0
  R0c:∀ b o v,b<w.heap.size->G'.R0.cell b o=some v->G.R0.cell b o=some v\/G.γ b≠none
  R0m:∀ r es,r<w.heap.size->G'.R0.map r=some es->G.R0.map r=some es\/G.γ r≠none
  os:w'.os=w.os
  tape:w'.tape=w.tape
  output:w'.output=w.output
  size:w.heap.size<=w'.heap.size
  cold:∀ b,b<w.heap.size->G.γ b=none->w'.heap[b]? =w.heap[b]?/\G'.γ b=none
  drawn:Lz.D=true->w.drawn<=w'.drawn
theorem Rd.Le.rfl (R:Rd):R.Le R:=⟨fun _ _ _ h=>h,fun _ _ h=>h⟩
theorem Rd.Le.trans {R S T:Rd} (h:R.Le S) (k:S.Le T):R.Le T:=⟨fun _ _ _ e=>k.cell _ _ _ (h.cell _ _ _ e),fun _ _ e=>k.map _ _ (h.map _ _ e)⟩
theorem Later.of {G G':Gh} {w w':World} (hb:G'.base=G.base) (hR:G'.R0=G.R0) (os:w'.os=w.os) (tape:w'.tape=w.tape) (output:w'.output=w.output)
    (size:w.heap.size<=w'.heap.size) (cold:∀ b,b<w.heap.size->G.γ b=none->w'.heap[b]? =w.heap[b]?/\G'.γ b=none) (hdr:Lz.D=true->w.drawn<=w'.drawn:=by first|(intro _;exact zB _)|(intro _;subst_vars;first|exact zB _|exact Wc _)):Later G w G' w':=
  ⟨hb,hR▸Rd.Le.rfl _,fun _ _ _ _ h=>.inl (hR▸h),fun _ _ _ h=>.inl (hR▸h),os,tape,output,size,cold,hdr⟩
theorem Later.refl (G:Gh) (w:World):Later G w G w:=Later.of Z Z Z Z Z (zB _) fun _ _ h=>⟨rfl,h⟩
theorem Later.trans {G G' G'':Gh} {w w' w'':World} (h:Later G w G' w') (k:Later G' w' G'' w''):Later G w G'' w'':=by
  refine⟨k.base.trans h.base,h.R0.trans k.R0,fun b o v hb hv=>?_,fun r es hb hv=>?_,k.os.trans h.os,k.tape.trans h.tape,k.output.trans h.output,qd h.size k.size,fun b hb hg=>?_,fun e=>qd (h.drawn e) (k.drawn e)⟩
  · rcases k.R0c b o v (XJ hb h.size) hv with e|e
    · exact h.R0c b o v hb e
    · by_cases hg:G.γ b=none
      · exact absurd (h.cold b hb hg).2 e
      · exact .inr hg
  · rcases k.R0m r es (XJ hb h.size) hv with e|e
    · exact h.R0m r es hb e
    · by_cases hg:G.γ r=none
      · exact absurd (h.cold r hb hg).2 e
      · exact .inr hg
  · obtain⟨e,g⟩:=h.cold b hb hg
    obtain⟨e',g'⟩:=k.cold b (XJ hb h.size) g
    exact⟨e'.trans e,g'⟩
theorem World.cell?_eq_of {w w':World} {b:Nat} (h:w'.heap[b]? =w.heap[b]?) (o:Nat):w'.cell? ⟨b,o,none⟩=w.cell? ⟨b,o,none⟩:=by simp only[World.cell?,h]
theorem World.cell?_lt {w:World} {a:Addr} {v:Value} (h:w.cell? a=some v):a.block<w.heap.size:=by
  unfold World.cell? at h
  grind
theorem Later.rd {G G':Gh} {w w':World} (h:Later G w G' w'):(G.rd w).Le (G'.rd w'):=by
  constructor
  · intro b o v hv
    simp only[Gh.rd,h.base] at hv ⊢
    split at hv
    · rename_i hb;rw[WK hb];exact h.R0.cell _ _ _ hv
    · rename_i hnb
      rw[WJ hnb]
      split at hv
      · rename_i hg
        have hb:=World.cell?_lt hv
        obtain⟨e,g⟩:=h.cold b hb hg
        rw[WK g,World.cell?_eq_of e];exact hv
      · cases hv
  · intro r es hv
    simp only[Gh.rd,h.base] at hv ⊢
    split at hv
    · rename_i hb;rw[WK hb];exact h.R0.map _ _ hv
    · rename_i hnb
      rw[WJ hnb]
      split at hv
      · rename_i hg
        have hb:r<w.heap.size:=by
          unfold kL at hv
          grind
        obtain⟨e,g⟩:=h.cold r hb hg
        grind [kL]
      · cases hv
theorem qW.monoR {G G':Gh} {w w':World} (L:(G.rd w).Le (G'.rd w')) {h:Nat} (hρ:G'.ρ h=G.ρ h)
    (hb:∀ b,G.γ b=some h->G'.γ b=some h/\w'.heap[b]? =w.heap[b]?) (o:MO) (hk:∀ k∈o.refs,G.keeps G' k) (H:qW G w h o):qW G' w' h o:=by
  cases o with
  | box T ds=>
    obtain⟨ha,b,c,e1,e2,e3,e4,e5⟩:=H
    obtain⟨g,e⟩:=hb b e2
    exact⟨by rw[hρ];exact ha,b,c,by rw[hρ];exact e1,g,by rw[e];exact e3,e4,qz.mono L ds _ (fun k hk'=>hk k hk') e5⟩
  | arr v esz T es=>
    obtain⟨h1,h2,h3,h4,h5,h6,H⟩:=H
    refine⟨by rw[hρ];exact h1,by rw[hρ];exact h2,by rw[hρ];exact h3,by rw[hρ];exact h4,by rw[hρ];exact h5,h6,?_⟩
    rw[hρ]
    refine H.imp id ?_
    rintro⟨b,c,e1,e2,e3,e4,e5,e6,e7⟩
    obtain⟨g,e⟩:=hb b e2
    exact⟨b,c,e1,g,by rw[e];exact e3,e4,e5,e6,qw.mono L _ _ e7⟩
  | map ks vs=>
    obtain⟨ha,es,clock,e1,e2,e3,e4⟩:=H
    obtain⟨g,e⟩:=hb _ e1
    exact⟨by rw[hρ];exact ha,es,clock,by rw[hρ];exact g,by rw[hρ,e];exact e2,qw.mono L _ _ e3,qw.mono L _ _ e4⟩
  | fbox cs=>
    obtain⟨ha,b,e1,e2⟩:=H
    exact⟨by rw[hρ];exact ha,b,by rw[hρ];exact e1,qY.mono L _ _ _ e2⟩
  | farr v es=>
    obtain⟨h1,h2,h4,h5,H⟩:=H
    refine⟨by rw[hρ];exact h1,by rw[hρ];exact h2,by rw[hρ];exact h4,by rw[hρ];exact h5,?_⟩
    rw[hρ]
    refine H.imp id ?_
    rintro⟨b,off,esz,e1,e2,e3⟩
    exact⟨b,off,esz,e1,e2,qQ.mono L _ _ _ _ e3⟩
  | fmap ks vs=>
    obtain⟨ha,es,e1,e2,e3⟩:=H
    exact⟨by rw[hρ];exact ha,es,by rw[hρ];exact L.map _ _ e1,qw.mono L _ _ e2,qw.mono L _ _ e3⟩
  | siter s pos=>
    obtain⟨ha,b,e1,e2,e3⟩:=H
    obtain⟨g,e⟩:=hb b e2
    exact⟨by rw[hρ];exact ha,b,by rw[hρ];exact e1,g,by rw[e];exact e3⟩
  | obj o=>
    obtain⟨ha,e1,e2⟩:=H
    obtain⟨g,e⟩:=hb _ e1
    exact⟨by rw[hρ];exact ha,by rw[hρ];exact g,by rw[hρ,e];exact e2⟩
  | miter hm since seen=>
    obtain⟨ha,ha',b,e1,e2,e3⟩:=H
    obtain⟨g,e⟩:=hb b e2
    have hm':G'.ρ hm=G.ρ hm:=by
      rcases hk hm am with e|⟨e,_⟩
      · exact e
      · rw[ha'] at e;cases e
    exact⟨by rw[hρ];exact ha,by rw[hm'];exact ha',b,by rw[hρ];exact e1,g,by rw[hm',e];exact e3⟩
  | kmap R=>
    obtain⟨ha,es,kv,e0,e1,e2,e5,e3,e4⟩:=H
    obtain⟨g,e⟩:=hb _ e1
    exact⟨by rw[hρ];exact ha,es,kv,e0,by rw[hρ];exact g,by rw[hρ,e];exact e2,e5,qw.mono L _ _ e3,qw.mono L _ _ e4⟩
  | arrK v esz T R=>
    obtain⟨es,hr,h1,h2,h3,h4,h5,h6,H⟩:=H
    refine⟨es,hr,by rw[hρ];exact h1,by rw[hρ];exact h2,by rw[hρ];exact h3,by rw[hρ];exact h4,by rw[hρ];exact h5,h6,?_⟩
    rw[hρ]
    refine H.imp id ?_
    rintro⟨b,c,e1,e2,e3,e4,e5,e6,e7⟩
    obtain⟨g,e⟩:=hb b e2
    exact⟨b,c,e1,g,by rw[e];exact e3,e4,e5,e6,qw.mono L _ _ e7⟩
  | lrec st pe=>
    obtain⟨ha,e1,e2⟩:=H
    obtain⟨g,e⟩:=hb _ e1
    exact⟨by rw[hρ];exact ha,by rw[hρ];exact g,by rw[hρ,e];exact e2⟩
  | kdat P=>
    obtain⟨ha,es,kv,e0,e1,e2,e5,e3,e4⟩:=H
    obtain⟨g,e⟩:=hb _ e1
    exact⟨by rw[hρ];exact ha,es,kv,e0,by rw[hρ];exact g,by rw[hρ,e];exact e2,e5,qw.mono L _ _ e3,qw.mono L _ _ e4⟩
  | gone=>trivial
theorem qW.mono {G G':Gh} {w w':World} (L:Later G w G' w') {h:Nat} (hρ:G'.ρ h=G.ρ h)
    (hb:∀ b,G.γ b=some h->G'.γ b=some h/\w'.heap[b]? =w.heap[b]?) (o:MO) (hk:∀ k∈o.refs,G.keeps G' k) (H:qW G w h o):qW G' w' h o:=
  qW.monoR L.rd hρ hb o hk H
theorem mapAt_lt {w:World} {r:Nat} {es:Array MapEntry} (h:kL w r=some es):r<w.heap.size:=by
  unfold kL at h
  grind
theorem Inv.step {G G':Gh} {σ σ':Vw} {a a':Act} {w w':World} (I:Inv G σ a w) (L:Later G w G' w')
    (hts:∀ s,(σ'.get s=σ.get s/\a'.tmps.getD s undef=a.tmps.getD s undef)\/qt G' (G'.rd w') (σ'.get s) (a'.tmps.getD s undef))
    (hsz:∀ s,a'.tmps.size<=s->σ'.get s=.dead)
    (hms:∀ h o,σ'.look h=some o->
      (σ.look h=some o/\G'.ρ h=G.ρ h/\∀ b,G.γ b=some h->G'.γ b=some h/\w'.heap[b]? =w.heap[b]?)\/qW G' w' h o)
    (hkeep:∀ h o,σ.look h=some o->G.keeps G' h)
    (hfresh:∀ b h,G'.γ b=some h->b<w'.heap.size)
    (hown:∀ b h,G'.γ b=some h->∃ o,σ'.look h=some o)
    (hrefsT:∀ s h,h∈(σ'.get s).refs->∃ o,σ'.look h=some o)
    (hrefsM:∀ k o h,σ'.look k=some o->h∈o.refs->∃ o',σ'.look h=some o')
    (hr0:∀ b o v,b<G.base->G'.R0.cell b o=some v->G.R0.cell b o=some v\/(G'.γ b=none/\w'.cell? ⟨b,o,none⟩=some v))
    (hr0m:∀ r es,r<G.base->G'.R0.map r=some es->G.R0.map r=some es\/(G'.γ r=none/\kL w' r=some es)):Inv G' σ' a' w':=by
  refine⟨fun s=>?_,hsz,fun h o ho=>?_,hfresh,hown,hrefsT,hrefsM,fun b o v hb hv=>?_,fun r es hb hv=>?_,by rw[L.base];exact qd I.baseLe L.size,fun b o h=>let ⟨g,e⟩:=I.laid b o h;let ⟨e',g'⟩:=L.cold b (zS.1 e).1 g;⟨g',e'.trans e⟩⟩
  rotate_left 2
  · rw[L.base] at hb
    rcases hr0 b o v hb hv with hv|hv
    · obtain⟨g,e⟩:=I.r0 b o v hb hv
      obtain⟨e',g'⟩:=L.cold b (World.cell?_lt e) g
      exact⟨g',by rw[World.cell?_eq_of e'];exact e⟩
    · exact hv
  · rw[L.base] at hb
    rcases hr0m r es hb hv with hv|hv
    · obtain⟨g,e⟩:=I.r0m r es hb hv
      obtain⟨e',g'⟩:=L.cold r (mapAt_lt e) g
      grind [kL]
    · exact hv
  · rcases hts s with ⟨e,e'⟩|h
    · rw[e,e']
      exact qt.mono L.rd _ _ (fun h hh=>let ⟨o,ho⟩:=I.refsT s h hh;hkeep h o ho) (I.ts s)
    · exact h
  · rcases hms h o ho with ⟨e,hρ,hb⟩|H
    · exact qW.mono L hρ hb o (fun k hk=>let ⟨o',ho'⟩:=I.refsM h o k e hk;hkeep k o' ho') (I.ms h o e)
    · exact H
end Go.Lens
end
section
namespace Go.Lens
variable [Lz]
def lit (v:Value):DV:=.pv (.lit v)
def dfl:PV:=.lit (.bool false)
def szT (Y:Tab) (t:TypeId):Option Nat:=(Y.info? t).map (·.size)
def aggT (Y:Tab) (t:TypeId):Option Bool:=
 match Y.underlying t with
 | some (.struct _)|some (.array _ _)=>some true
 | some _=>some false
 | none=>none
def allPV:List DV->Option (List PV)
 | []=>some []
 | .pv p::ds=>(allPV ds).map (p::·)
 | _=>none
def mkAgg (ds:List DV):DV:=
 match allPV ds with
 | some ps=>.pv (.agg ps)
 | none=>.agg ds
def j6 (n:Nat) (es:List (List PV)):Bool:=es.all fun e=>e.length==n
def cellPV:Value->Option PV
 | .slice none 0 0=>some (.slice [])
 | v=>if isLit v then some (.lit v) else none
def Z7:List Value->Option (List PV)
 | []=>some []
 | v::vs=>match cellPV v,Z7 vs with
  | some p,some ps=>some (p::ps)
  | _,_=>none
def valPV:Value->Option PV
 | .agg cs=>(Z7 cs.toList).map .agg
 | v=>cellPV v
def cellDV:Value->DV
 | .slice none 0 0=>.nils
 | v=>if isLit v then lit v else .dead
def fieldOf (Y:Tab) (s:TypeId) (f:Nat):Option Field:=
 match Y.underlying s with
 | some (.struct fs)=>fs[f]?
 | _=>none
def Z4 (Y:Tab) (t:TypeId) (look:Nat->Option MO) (d:DV):Option (Bool×DV):=
 match aggT Y t,szT Y t with
 | some ag,some n=>
  match d with
  | .pv (.box cs)=>
   if ag then some (decide (n<=cs.length),.pv (.agg (cs.take n))) else some (decide (0<cs.length),.pv (cs.headD dfl))
  | .bref h c=>
   match look h with
   | some (.box _ ds)=>if ag then some (decide (c+n<=ds.length),mkAgg ((ds.drop c).take n)) else some (decide (c<ds.length),ds.getD c .dead)
   | some (.fbox cs)=>if ag then some (decide (c+n<=cs.length),.pv (.agg ((cs.drop c).take n))) else some (decide (c<cs.length),.pv (cs.getD c dfl))
   | _=>none
  | .eref h v i c=>
   match look h with
   | some (.arr v' _ _ es)=>
    if v=v' then
     if ag then some (decide (i<es.length/\c+n<=(es.getD i []).length),.pv (.agg (((es.getD i []).drop c).take n)))
     else some (decide (i<es.length/\c<(es.getD i []).length),.pv ((es.getD i []).getD c dfl))
    else none
   | _=>none
  | _=>none
 | _,_=>none
def in64 (n:Int):Bool:=decide (-9223372036854775808<=n/\n<9223372036854775808)
def wrapB (k:IntKind) (n:Int):Bool:=match k with| .i64=>in64 n|_=>true
def wrapN (k:IntKind) (n:Int):Int:=match k with| .i64=>n|_=>k.wrap n
def intQ (op:BinOp) (k:IntKind) (a b:Int):Option (Bool×Value):=
 match op with
 | .add=>some (wrapB k (a+b),.int k (wrapN k (a+b)))
 | .sub=>some (wrapB k (a-b),.int k (wrapN k (a-b)))
 | .mul=>some (wrapB k (a*b),.int k (wrapN k (a*b)))
 | .quo=>some (b != 0&&wrapB k (a.tdiv b),.int k (wrapN k (a.tdiv b)))
 | .rem=>some (b != 0,.int k (a.tmod b))
 | .and=>some (true,.int k (k.wrap (BitVec.ofInt k.bits a &&&BitVec.ofInt k.bits b).toNat))
 | .or=>some (true,.int k (k.wrap (BitVec.ofInt k.bits a |||BitVec.ofInt k.bits b).toNat))
 | .xor=>some (true,.int k (k.wrap (BitVec.ofInt k.bits a ^^^ BitVec.ofInt k.bits b).toNat))
 | .andNot=>some (true,.int k (k.wrap (BitVec.ofInt k.bits a &&&~~~ BitVec.ofInt k.bits b).toNat))
 | .eql=>some (true,.bool (a==b))
 | .neq=>some (true,.bool (a != b))
 | .lss=>some (true,.bool (decide (a<b)))
 | .leq=>some (true,.bool (decide (a<=b)))
 | .gtr=>some (true,.bool (decide (b<a)))
 | .geq=>some (true,.bool (decide (b<=a)))
 | _=>none
def shQ (op:BinOp) (k:IntKind) (a b:Int):Option (Bool×Value):=
 match op with
 | .shl=>some (decide (0<=b),.int k (k.wrap (a*2 ^ (min b.toNat k.bits))))
 | .shr=>some (decide (0<=b),.int k (a.fdiv (2 ^ (min b.toNat k.bits))))
 | _=>none
def strQ (op:BinOp) (x y:ByteArray):Option (Bool×Value):=
 match op with
 | .add=>some (decide (x.size+y.size<=9223372036854775807),.string (x++y))
 | .eql=>some (true,.bool (x.toList==y.toList))
 | .neq=>some (true,.bool (!(x.toList==y.toList)))
 | .lss=>some (true,.bool (Op.bytesLess x.toList y.toList))
 | .leq=>some (true,.bool (Op.bytesLess x.toList y.toList||x.toList==y.toList))
 | .gtr=>some (true,.bool (!(Op.bytesLess x.toList y.toList||x.toList==y.toList)))
 | .geq=>some (true,.bool (!Op.bytesLess x.toList y.toList))
 | _=>none
def flatEq (Y:Tab) (t:TypeId):Option (List TypeDesc):=
 match Y.underlying t with
 | some (.struct fs)=>
  if Y.eqBad t then none
  else fs.toList.zipIdx.mapM fun (f,i)=>
   if f.name== "_" ||f.offset != i then none
   else match Y.underlying f.type with
    | some (.int k)=>some (.int k)
    | some .string=>some .string
    | some .bool=>some .bool
    | _=>none
 | _=>none
def eqV:TypeDesc->PV->PV->Option Bool
 | .int _,.lit (.int k a),.lit (.int k' b)=>if k=k' then some (a==b) else none
 | .string,.lit (.string a),.lit (.string b)=>some (a.toList==b.toList)
 | .bool,.lit (.bool a),.lit (.bool b)=>some (a==b)
 | _,_,_=>none
def eqVs:List TypeDesc->List PV->List PV->Option Bool
 | [],[],[]=>some true
 | d::ds,x::xs,y::ys=>match eqV d x y,eqVs ds xs ys with
  | some a,some b=>some (a&&b)
  | _,_=>none
 | _,_,_=>none
def nilKind:DV->Option (Nat×Bool)
 | .pv (.lit (.pointer none))=>some (0,true)
 | .pv (.lit (.map none))=>some (1,true)
 | .pv (.lit .nilFunc)=>some (2,true)
 | .bref _ _| .pv (.box _)=>some (0,false)
 | .mref _| .pv (.map _ _)=>some (1,false)
 | .pv (.fn _ _ _)| .clos _ _ _=>some (2,false)
 | _=>none
def descKind:TypeDesc->Option Nat
 | .pointer _=>some 0
 | .map _ _=>some 1
 | .func _ _ _=>some 2
 | _=>none
def nilQ (Y:Tab) (op:BinOp) (t:TypeId) (x y:DV):Option (Bool×DV):=
 match nilKind x,nilKind y,(Y.underlying t).bind descKind with
 | some (k,a),some (k',b),some kk=>
  if k=kk/\k'=kk/\(a||b)=true then
   match op with
   | .eql=>some (true,lit (.bool (a&&b)))
   | .neq=>some (true,lit (.bool (!(a&&b))))
   | _=>none
  else none
 | _,_,_=>none
def binQ (Y:Tab) (op:BinOp) (t:TypeId) (x y:DV):Option (Bool×DV):=
 match x,y with
 | .pv (.lit (.int k a)),.pv (.lit (.int k' b))=>
  match op with
  | .shl| .shr=>(shQ op k a b).map fun (s,v)=>(s,lit v)
  | _=>if k=k' then (intQ op k a b).map fun (s,v)=>(s,lit v) else none
 | .pv (.lit (.string a)),.pv (.lit (.string b))=>(strQ op a b).map fun (s,v)=>(s,lit v)
 | .pv (.lit (.bool a)),.pv (.lit (.bool b))=>
  match Y.underlying t,op with
  | some .bool,.eql=>some (true,lit (.bool (a==b)))
  | some .bool,.neq=>some (true,lit (.bool (!(a==b))))
  | _,_=>none
 | .pv (.agg xs),.pv (.agg ys)=>
  match flatEq Y t with
  | some ds=>match eqVs ds xs ys,op with
   | some r,.eql=>some (true,lit (.bool r))
   | some r,.neq=>some (true,lit (.bool (!r)))
   | _,_=>none
  | none=>none
 | _,_=>none
def unQ (op:UnOp) (x:DV):Option (Bool×DV):=
 match op,x with
 | .not,.pv (.lit (.bool b))=>some (true,lit (.bool (!b)))
 | .neg,.pv (.lit (.int k n))=>some (wrapB k (0-n),lit (.int k (wrapN k (0-n))))
 | _,_=>none
def convQ (Y:Tab) (s t:TypeId) (x:DV):Option (Bool×DV):=
 match Y.underlying s,Y.underlying t,x with
 | some _,some (.int k),.pv (.lit (.int _ n))=>some (wrapB k n,lit (.int k (wrapN k n)))
 | some _,some .string,.pv (.lit (.string b))=>some (true,lit (.string b))
 | _,_,_=>none
def liveArr (look:Nat->Option MO) (h v:Nat):Bool:=
 match look h with
 | some (.arr v' _ _ _)=>v==v'
 | _=>false
def kf (Y:Tab) (s:TypeId) (f:Nat) (look:Nat->Option MO) (x:DV):Option (Bool×DV):=
 match fieldOf Y s f with
 | some fd=>
  match szT Y fd.type with
  | some (_+1)=>
   match x with
   | .bref h c=>some (true,.bref h (c+fd.offset))
   | .eref h v i c=>if liveArr look h v then some (true,.eref h v i (c+fd.offset)) else none
   | .pv (.box cs)=>some (true,.pv (.box (cs.drop fd.offset)))
   | _=>none
  | _=>none
 | none=>none
def fieldQ (Y:Tab) (s:TypeId) (f:Nat) (x:DV):Option (Bool×DV):=
 match fieldOf Y s f with
 | some fd=>
  match aggT Y fd.type,szT Y fd.type,x with
  | some true,some n,.pv (.agg cs)=>some (decide (fd.offset+n<=cs.length),.pv (.agg ((cs.drop fd.offset).take n)))
  | some false,some _,.pv (.agg cs)=>some (decide (fd.offset<cs.length),.pv (cs.getD fd.offset dfl))
  | some true,some n,.agg ds=>some (decide (fd.offset+n<=ds.length),mkAgg ((ds.drop fd.offset).take n))
  | some false,some _,.agg ds=>some (decide (fd.offset<ds.length),ds.getD fd.offset .dead)
  | _,_,_=>none
 | none=>none
def jV (Y:Tab) (t:TypeId) (look:Nat->Option MO) (x i:DV):Option (Bool×DV):=
 match Y.underlying t,i with
 | some (.slice e),.pv (.lit (.int _ n))=>
  match szT Y e with
  | some sz=>
   match x with
   | .pv (.slice es)=>some (decide (0<=n/\n<es.length)&&j6 sz es,.pv (.box (es.getD n.toNat [])))
   | .aref h v=>match look h with
    | some (.arr v' sz' _ es)=>if v=v'/\sz=sz' then some (decide (0<=n/\n<es.length),.eref h v n.toNat 0) else none
    | some (.farr v' es)=>if v=v' then some (decide (0<=n/\n<es.length)&&j6 sz es,.pv (.box (es.getD n.toNat []))) else none
    | _=>none
   | _=>none
  | none=>none
 | some (.array len e),.pv (.lit (.int _ n))=>
  match szT Y e with
  | some sz=>
   match x with
   | .bref h c=>some (decide (0<=n/\n<len),.bref h (c+n.toNat*sz))
   | .pv (.box cs)=>some (decide (0<=n/\n<len),.pv (.box (cs.drop (n.toNat*sz))))
   | _=>none
  | none=>none
 | _,_=>none
def indexQ (Y:Tab) (t:TypeId) (x i:DV):Option (Bool×DV):=
 match Y.underlying t,x,i with
 | some .string,.pv (.lit (.string s)),.pv (.lit (.int _ n))=>some (decide (0<=n/\n<s.size),lit (.int .u8 (s.data.toList.getD n.toNat 0).toNat))
 | some (.array len e),.pv (.agg cs),.pv (.lit (.int _ n))=>
  match aggT Y e,szT Y e with
  | some false,some 1=>some (decide (0<=n/\n<len/\n.toNat<cs.length),.pv (cs.getD n.toNat dfl))
  | _,_=>none
 | _,_,_=>none
def bound:Option DV->Option (Option Int)
 | none=>some none
 | some (.pv (.lit (.int _ n)))=>some (some n)
 | _=>none
def lenOf (look:Nat->Option MO):DV->Option Nat
 | .pv (.slice es)=>some es.length
 | .nils=>some 0
 | .aref h v=>match look h with
  | some (.arr v' _ _ es)|some (.farr v' es)=>if v=v' then some es.length else none
  | _=>none
 | .atrunc h v k=>match look h with
  | some (.arr v' _ _ _)|some (.farr v' _)=>if v=v' then some k else none
  | _=>none
 | .awin h v _ n=>match look h with
  | some (.arr v' _ _ _)|some (.farr v' _)=>if v=v' then some n else none
  | _=>none
 | _=>none
def Za (Y:Tab) (t:TypeId) (look:Nat->Option MO) (x:DV) (lo hi mx:Option DV):Option (Bool×DV):=
 match Y.underlying t,bound lo,bound hi,mx with
 | some .string,some lo,some hi,none=>
  match x with
  | .pv (.lit (.string s))=>
   let l:=lo.getD 0
   let h:=hi.getD s.size
   some (decide (0<=l/\l<=h/\h<=s.size),lit (.string (s.extract l.toNat h.toNat)))
  | _=>none
 | some (.slice e),some lo,some hi,none=>
  match szT Y e with
  | some sz=>
   match x,lo with
   | .pv (.slice es),none=>
    let h:=hi.getD es.length
    some (decide (0<=h/\h<=es.length),.pv (.slice (es.take h.toNat)))
   | .pv (.slice es),some l=>
    let h:=hi.getD es.length
    some (decide (0<=l/\l<=h/\h<=es.length)&&j6 sz es,.pv (.slice ((es.take h.toNat).drop l.toNat)))
   | .aref h v,none=>match look h with
    | some (.arr v' _ _ es)=>if v=v' then
      (match hi with
       | none=>some (true,.aref h v)
       | some k=>some (decide (0<=k/\k<=es.length),.atrunc h v k.toNat)) else none
    | some (.farr v' es)=>if v=v' then
      let k:=hi.getD es.length
      some (decide (0<=k/\k<=es.length),.pv (.slice (es.take k.toNat))) else none
    | _=>none
   | .aref h v,some l=>match look h with
    | some (.farr v' es)=>if v=v' then
      let k:=hi.getD es.length
      some (decide (0<=l/\l<=k/\k<=es.length)&&j6 sz es,.pv (.slice ((es.take k.toNat).drop l.toNat))) else none
    | _=>none
   | _,_=>none
  | none=>none
 | _,_,_,_=>none
def lenQ (Y:Tab) (t:TypeId) (look:Nat->Option MO) (x:DV):Option (Bool×DV):=
 match Y.underlying t with
 | some .string=>match x with
  | .pv (.lit (.string s))=>some (true,lit (.int .i64 s.size))
  | _=>none
 | some (.slice _)=>(lenOf look x).map fun n=>(true,lit (.int .i64 n))
 | some (.array n _)=>some (true,lit (.int .i64 n))
 | some (.map _ _)=>match x with
  | .pv (.map ks _)=>some (true,lit (.int .i64 ks.length))
  | .pv (.lit (.map none))=>some (true,lit (.int .i64 0))
  | _=>none
 | _=>none
def maxQ2 (mx:Bool) (ds:List DV):Option (Bool×DV):=
 match ds with
 | [.pv (.lit (.int k a)),.pv (.lit (.int k' b))]=>
  if k=k' then some (true,lit (.int k (if mx then (if a<b then b else a) else (if b<a then b else a)))) else none
 | _=>none
def funcQ (fn:Fn) (first caps:List DV):Option (Bool×DV):=
 match fn with
 | .func _=>
  match allPV first,allPV caps with
  | some a,some b=>some (true,.pv (.fn fn a b))
  | _,_=>some (true,.clos fn first caps)
 | _=>none
def Zx (key:PV):List PV->List PV->Option PV
 | k::ks,v::vs=>match k,key with
  | .lit (.string a),.lit (.string b)=>if b.toList==a.toList then some v else Zx key ks vs
  | .lit (.int _ a),.lit (.int _ b)=>if b==a then some v else Zx key ks vs
  | _,_=>none
 | _,_=>none
def plainKey:TypeDesc->PV->Bool
 | .string,.lit (.string _)=>true
 | .int k,.lit (.int k' _)=>k==k'
 | _,_=>false
def plainKeys (kd:TypeDesc) (ks:List PV):Bool:=ks.all (plainKey kd)
def ZS (Y:Tab) (t:TypeId) (x key:DV) (ok:Bool):Option (Bool×DV):=
 match Y.underlying t with
 | some (.map kt et)=>
  match Y.underlying kt,(Y.info? et).bind (fun i=>i.zero.bind valPV),x,key with
  | some kd,some z,.pv (.map ks vs),.pv kp=>
   if plainKey kd kp then
    let r:=Zx kp ks vs
    some (plainKeys kd ks&&ks.length==vs.length,if ok then .tup [.pv (r.getD z),lit (.bool r.isSome)] else .pv (r.getD z))
   else none
  | _,_,_,_=>none
 | _=>none
def gdBool:DV->Option (Bool×Bool)
 | .pv (.lit (.bool x))=>some (true,x)
 | .gd c (.pv (.lit (.bool x)))=>some (c,x)
 | _=>none
def qv (Y:Tab) (o:Op) (ev:Operand->DV) (look:Nat->Option MO):Option (Bool×DV):=
 match o with
 | .move x| .assign x=>match ev x with
  | .dead=>none
  | d=>some (true,d)
 | .pick c a b=>match ev c with
  | .pv (.lit (.bool β))=>match gdBool (ev a),gdBool (ev b) with
   | some (s,x),some (t,y)=>some (bif β then s else t,lit (.bool (bif β then x else y)))
   | _,_=>none
  | _=>none
 | .load t a=>Z4 Y t look (ev a)
 | .nilCheck x=>match ev x with
  | .bref h c=>some (true,.bref h c)
  | .eref h v i c=>if liveArr look h v then some (true,.eref h v i c) else none
  | .pv (.box cs)=>some (true,.pv (.box cs))
  | _=>none
 | .binOp op t x y _=>match nilQ Y op t (ev x) (ev y) with
  | some r=>some r
  | none=>binQ Y op t (ev x) (ev y)
 | .unOp op _ x=>unQ op (ev x)
 | .convert s t x=>convQ Y s t (ev x)
 | .fieldAddr s x f=>kf Y s f look (ev x)
 | .field s x f=>fieldQ Y s f (ev x)
 | .indexAddr t x i=>jV Y t look (ev x) (ev i)
 | .index t x i=>indexQ Y t (ev x) (ev i)
 | .slice t x lo hi mx=>Za Y t look (ev x) (lo.map ev) (hi.map ev) (mx.map ev)
 | .extract x i=>match ev x with
  | .tup ds=>match ds[i]? with
   | some d=>some (true,d)
   | none=>none
  | _=>none
 | .makeFunc fn first caps=>funcQ fn (first.toList.map ev) (caps.toList.map ev)
 | .lookup t x k ok=>ZS Y t (ev x) (ev k) ok
 | .call c=>match c.callee,c.args.toList,c.argTypes.toList with
  | .builtin .len,[x],[t]=>lenQ Y t look (ev x)
  | .builtin .max,xs,_=>maxQ2 true (xs.map ev)
  | .builtin .min,xs,_=>maxQ2 false (xs.map ev)
  | _,_,_=>none
 | _=>none
structure Sees (G:Gh) (w:World) (ρ:Operand->Value) (ev:Operand->DV) (look:Nat->Option MO):Prop where
  ev:∀ x,qt G (G.rd w) (ev x) (ρ x)
  look:∀ h m,look h=some m->qW G w h m
  cell:∀ b o v,(G.rd w).cell b o=some v->w.cell? ⟨b,o,none⟩=some v
  map:∀ r es,(G.rd w).map r=some es->kL w r=some es
theorem Inv.sees {G:Gh} {σ:Vw} {a:Act} {w:World} (I:Inv G σ a w) :
    (∀ b o v,(G.rd w).cell b o=some v->w.cell? ⟨b,o,none⟩=some v)/\(∀ r es,(G.rd w).map r=some es->kL w r=some es):=by
  constructor
  · intro b o v h
    simp only[Gh.rd] at h
    split at h
    · rename_i hb;exact (I.r0 b o v hb h).2
    · split at h
      · exact h
      · cases h
  · intro r es h
    simp only[Gh.rd] at h
    split at h
    · rename_i hb;exact (I.r0m r es hb h).2
    · split at h
      · exact h
      · cases h
theorem qw.length {R:Rd}:∀ {cs:List PV} {vs:List Value},qw R cs vs->vs.length=cs.length
  | [],vs,H=>by simp only[qw] at H;subst H;rfl
  | c::cs,vs,H=>by
    simp only[qw] at H
    obtain⟨v,vs',rfl,_,H⟩:=H
    simp[qw.length H]
theorem qw.get {R:Rd}:∀ {cs:List PV} {vs:List Value} (_:qw R cs vs) (i:Nat) (h:i<cs.length),∃ v,vs[i]? =some v/\qI R cs[i] v
  | [],vs,H,i,h=>by simp at h
  | c::cs,vs,H,i,h=>by
    simp only[qw] at H
    obtain⟨v,vs',rfl,H0,H⟩:=H
    cases i with
    | zero=>exact⟨v,rfl,H0⟩
    | succ i=>
      obtain⟨v',h1,h2⟩:=qw.get H i ai
      grind
theorem qw.take {R:Rd}:∀ {cs:List PV} {vs:List Value} (_:qw R cs vs) (n:Nat),qw R (cs.take n) (vs.take n)
  | [],vs,H,n=>by simp only[qw] at H;subst H;simp[qw]
  | c::cs,vs,H,0=>by simp[qw]
  | c::cs,vs,H,n+1=>by
    simp only[qw] at H
    obtain⟨v,vs',rfl,H0,H⟩:=H
    simp only[Xu,qw]
    exact⟨v,_,rfl,H0,H.take n⟩
theorem qw.drop {R:Rd}:∀ {cs:List PV} {vs:List Value} (_:qw R cs vs) (n:Nat),qw R (cs.drop n) (vs.drop n)
  | [],vs,H,n=>by simp only[qw] at H;subst H;simp[qw]
  | c::cs,vs,H,0=>by simpa using H
  | c::cs,vs,H,n+1=>by
    simp only[qw] at H
    obtain⟨v,vs',rfl,H0,H⟩:=H
    simp only[List.drop_succ_cons]
    exact H.drop n
theorem qw.append {R:Rd}:∀ {cs ds:List PV} {vs us:List Value} (_:qw R cs vs) (_:qw R ds us),qw R (cs++ds) (vs++us)
  | [],ds,vs,us,H,H'=>by simp only[qw] at H;subst H;simpa using H'
  | c::cs,ds,vs,us,H,H'=>by
    simp only[qw] at H
    obtain⟨v,vs',rfl,H0,H⟩:=H
    simp only[zQ,qw]
    exact⟨v,_,rfl,H0,H.append H'⟩
theorem qz.length {G:Gh} {R:Rd}:∀ {cs:List DV} {vs:List Value},qz G R cs vs->vs.length=cs.length
  | [],vs,H=>by simp only[qz] at H;subst H;rfl
  | c::cs,vs,H=>by
    simp only[qz] at H
    obtain⟨v,vs',rfl,_,H⟩:=H
    simp[qz.length H]
theorem qz.get {G:Gh} {R:Rd}:∀ {cs:List DV} {vs:List Value} (_:qz G R cs vs) (i:Nat) (h:i<cs.length),∃ v,vs[i]? =some v/\qt G R cs[i] v
  | [],vs,H,i,h=>by simp at h
  | c::cs,vs,H,i,h=>by
    simp only[qz] at H
    obtain⟨v,vs',rfl,H0,H⟩:=H
    cases i with
    | zero=>exact⟨v,rfl,H0⟩
    | succ i=>
      obtain⟨v',h1,h2⟩:=qz.get H i ai
      grind
theorem qz.take {G:Gh} {R:Rd}:∀ {cs:List DV} {vs:List Value} (_:qz G R cs vs) (n:Nat),qz G R (cs.take n) (vs.take n)
  | [],vs,H,n=>by simp only[qz] at H;subst H;simp[qz]
  | c::cs,vs,H,0=>by simp[qz]
  | c::cs,vs,H,n+1=>by
    simp only[qz] at H
    obtain⟨v,vs',rfl,H0,H⟩:=H
    simp only[Xu,qz]
    exact⟨v,_,rfl,H0,H.take n⟩
theorem qz.drop {G:Gh} {R:Rd}:∀ {cs:List DV} {vs:List Value} (_:qz G R cs vs) (n:Nat),qz G R (cs.drop n) (vs.drop n)
  | [],vs,H,n=>by simp only[qz] at H;subst H;simp[qz]
  | c::cs,vs,H,0=>by simpa using H
  | c::cs,vs,H,n+1=>by
    simp only[qz] at H
    obtain⟨v,vs',rfl,H0,H⟩:=H
    simp only[List.drop_succ_cons]
    exact H.drop n
theorem qz.append {G:Gh} {R:Rd}:∀ {cs ds:List DV} {vs us:List Value} (_:qz G R cs vs) (_:qz G R ds us),qz G R (cs++ds) (vs++us)
  | [],ds,vs,us,H,H'=>by simp only[qz] at H;subst H;simpa using H'
  | c::cs,ds,vs,us,H,H'=>by
    simp only[qz] at H
    obtain⟨v,vs',rfl,H0,H⟩:=H
    simp only[zQ,qz]
    exact⟨v,_,rfl,H0,H.append H'⟩
theorem qY.list {R:Rd}:∀ {cs:List PV} {b off:Nat},qY R cs b off->
    ∃ vs,qw R cs vs/\(∀ x∈vs,x.oneCell'=true)/\∀ j v,vs[j]? =some v->R.cell b (off+j)=some v
  | [],b,off,_=>⟨[],by simp[qw],by simp,by simp⟩
  | c::cs,b,off,H=>by
    simp only[qY] at H
    obtain⟨⟨v,h1,h2,h3⟩,H⟩:=H
    obtain⟨vs,k1,k2,k3⟩:=qY.list H
    refine⟨v::vs,?_,?_,?_⟩
    · simp only[qw];exact⟨v,vs,rfl,h3,k1⟩
    · simpa using ⟨h2,k2⟩
    · intro j u hj
      cases j with
      | zero=>simp at hj;subst hj;simpa using h1
      | succ j=>have:=k3 j u an;rwa [show off+(j+1)=off+1+j from aa]
theorem qY.drop {R:Rd}:∀ {cs:List PV} {b off:Nat} (_:qY R cs b off) (n:Nat),qY R (cs.drop n) b (off+n)
  | [],b,off,_,n=>by simp[qY]
  | c::cs,b,off,H,0=>by simpa using H
  | c::cs,b,off,H,n+1=>by
    simp only[qY] at H
    have:=H.2.drop n
    grind
theorem qY.mk {R:Rd}:∀ {cs:List PV} {vs:List Value} {b off:Nat},qw R cs vs->(∀ x∈vs,x.oneCell'=true)->(∀ j v,vs[j]? =some v->R.cell b (off+j)=some v)->
    qY R cs b off
  | [],_,_,_,_,_,_=>by simp[qY]
  | c::cs,vs,b,off,H,h1,h2=>by
    simp only[qw] at H
    obtain⟨v,vs',rfl,H0,H⟩:=H
    simp only[qY]
    refine⟨⟨v,by simpa using h2 0 v rfl,h1 v ao,H0⟩,qY.mk H (fun x hx=>h1 x ap) (fun j u hj=>?_)⟩
    have:=h2 (j+1) u an
    grind
theorem qQ.get {R:Rd}:∀ {es:List (List PV)} {b off esz:Nat} (_:qQ R es b off esz) (i:Nat) (h:i<es.length),es[i].length=esz/\qY R es[i] b (off+i*esz)
  | [],b,off,esz,_,i,h=>by simp at h
  | e::es,b,off,esz,H,i,h=>by
    simp only[qQ] at H
    obtain⟨h1,h2,h3⟩:=H
    cases i with
    | zero=>exact⟨h1,by simpa using h2⟩
    | succ i=>
      obtain⟨k1,k2⟩:=qQ.get h3 i ai
      grind
theorem qQ.take {R:Rd}:∀ {es:List (List PV)} {b off esz:Nat} (_:qQ R es b off esz) (n:Nat),qQ R (es.take n) b off esz
  | [],b,off,esz,_,n=>by simp[qQ]
  | e::es,b,off,esz,H,0=>by simp[qQ]
  | e::es,b,off,esz,H,n+1=>by
    simp only[qQ] at H
    simp only[Xu,qQ]
    exact⟨H.1,H.2.1,H.2.2.take n⟩
theorem qQ.drop {R:Rd}:∀ {es:List (List PV)} {b off esz:Nat} (_:qQ R es b off esz) (n:Nat),qQ R (es.drop n) b (off+n*esz) esz
  | [],b,off,esz,_,n=>by simp[qQ]
  | e::es,b,off,esz,H,0=>by simpa using H
  | e::es,b,off,esz,H,n+1=>by
    simp only[qQ] at H
    have:=H.2.2.drop n
    grind
theorem qQ.mk {R:Rd}:∀ {es:List (List PV)} {vs:List Value} {b off esz:Nat},(∀ e∈es,e.length=esz)->qw R es.flatten vs->(∀ x∈vs,x.oneCell'=true)->
    (∀ j v,vs[j]? =some v->R.cell b (off+j)=some v)->qQ R es b off esz
  | [],_,_,_,_,_,_,_,_=>by simp[qQ]
  | e::es,vs,b,off,esz,h0,H,h1,h2=>by
    simp only[XW] at H
    have hl:=H.length
    have he:=h0 e ao
    have t:=H.take esz
    have d:=H.drop esz
    rw[zJ aa,zz aa] at t
    rw[Ql aa,zM aa,zU] at d
    simp only[qQ]
    refine⟨he,qY.mk t (fun x hx=>h1 x (zu hx)) (fun j v hj=>?_),qQ.mk (fun e' h'=>h0 e' aq) d (fun x hx=>h1 x (zw hx)) (fun j v hj=>?_)⟩
    · refine h2 j v ?_
      rw[qj] at hj
      grind
    · rw[XB] at hj
      have:=h2 (esz+j) v hj
      grind
theorem kA {P:Program} {Y:Tab} [qH P Y] {t:TypeId} {b:Bool} (h:aggT Y t=some b) (w:World):(isAgg t).run P w=.ok b w:=by
  unfold aggT at h
  cases hu:Y.underlying t with
  | none=>rw[hu] at h;cases h
  | some d=>
    rw[hu] at h
    simp only[isAgg,qp,qF hu,qo]
    cases d<;>simp_all
theorem qX {P:Program} {Y:Tab} [qH P Y] {t:TypeId} {n:Nat} (h:szT Y t=some n) (w:World):(sizeOf t).run P w=.ok n w:=by
  unfold szT at h
  cases hi:Y.info? t with
  | none=>rw[hi] at h;cases h
  | some i=>
    rw[hi] at h
    simp only[qc,zh] at h
    simp[sizeOf,typeInfo,qH.inf P hi,h]
theorem Ze {P:Program} {Y:Tab} [qH P Y] {t:TypeId} {w:World} {b off n:Nat} {vs:List Value} (hs:szT Y t=some n) (ha:aggT Y t=some true) (hn:vs.length=n)
    (h:∀ j v,vs[j]? =some v->w.cell? ⟨b,off+j,none⟩=some v):(loadVar t ⟨b,off,none⟩).run P w=.ok (.agg vs.toArray) w:=by
  have hl:=run_loadCells_list (P:=P) w ⟨b,off,none⟩ vs (fun j v hj=>by rw[Addr.add_lit];exact h j v hj)
  rw[hn] at hl
  simp only[loadVar,qp,kA ha,qo,ql,qX hs,hl,qq]
theorem kI {P:Program} {Y:Tab} [qH P Y] {t:TypeId} {w:World} {b off:Nat} {v:Value} (ha:aggT Y t=some false)
    (h:w.cell? ⟨b,off,none⟩=some v):(loadVar t ⟨b,off,none⟩).run P w=.ok v w:=by
  simp only[loadVar,qp,kA ha,qo,qk,qm,run_load,h]
theorem allPV_eq:∀ {ds:List DV} {ps:List PV},allPV ds=some ps->ds=ps.map .pv
  | [],ps,h=>by simp only[allPV,zh] at h;subst h;rfl
  | d::ds,ps,h=>by
    cases d<;>simp only[allPV] at h<;>try (cases h;done)
    rename_i p
    cases hr:allPV ds with
    | none=>rw[hr] at h;cases h
    | some qs=>
      rw[hr] at h
      simp only[qc,zh] at h
      subst h
      simp[allPV_eq hr]
theorem Zv {G:Gh} {R:Rd}:∀ {ps:List PV} {vs:List Value},qz G R (ps.map .pv) vs↔qw R ps vs
  | [],vs=>by simp[qz,qw]
  | p::ps,vs=>by
    simp only[zy,qz,qw,qt]
    constructor
    · rintro⟨v,vs',rfl,h,h'⟩;exact⟨v,vs',rfl,h,Zv.1 h'⟩
    · rintro⟨v,vs',rfl,h,h'⟩;exact⟨v,vs',rfl,h,Zv.2 h'⟩
theorem RelDV_mkAgg {G:Gh} {R:Rd} {ds:List DV} {vs:List Value} (ho:∀ x∈vs,x.oneCell'=true) (h:qz G R ds vs):qt G R (mkAgg ds) (.agg vs.toArray):=by
  unfold mkAgg
  split
  · rename_i ps hp
    rw[allPV_eq hp] at h
    simp only[qt,qI]
    exact⟨_,rfl,by simpa using ho,by simpa using Zv.1 h⟩
  · simp only[qt]
    exact⟨_,rfl,by simpa using ho,by simpa using h⟩
theorem jK {α:Type} (l:List α) (i:Nat) (d:α) (h:i<l.length):l.getD i d=l[i]:=by grind
theorem World.cell?_of_heap {w:World} {b:Nat} {c:Array Value} {T:TypeId} {f:Nat×Nat} (h:w.heap[b]? =some (.cells c T f)) (o:Nat):w.cell? ⟨b,o,none⟩=c[o]? :=by simp[World.cell?,h]
section
variable {P:Program} {Y:Tab} [qH P Y] {G:Gh} {w:World} {ρ:Operand->Value} {ev:Operand->DV} {look:Nat->Option MO}
theorem load_cells {t:TypeId} {ag:Bool} {n:Nat} (ha:aggT Y t=some ag) (hs:szT Y t=some n) {cs:List PV} {b off:Nat}
    (hc:∀ b o v,(G.rd w).cell b o=some v->w.cell? ⟨b,o,none⟩=some v) (H:qY (G.rd w) cs b off) (k:Nat) :
    (ag=true->k+n<=cs.length->∃ v,(Instr.loadAt t (.pointer (some ⟨b,off+k,none⟩))).run P w=.ok v w/\qt G (G.rd w) (.pv (.agg ((cs.drop k).take n))) v)/\
    (ag=false->k<cs.length->∃ v,(Instr.loadAt t (.pointer (some ⟨b,off+k,none⟩))).run P w=.ok v w/\qt G (G.rd w) (.pv (cs.getD k dfl)) v):=by
  obtain⟨vs,h1,h2,h3⟩:=H.list
  have hl:=h1.length
  constructor
  · rintro rfl hk
    have hn:((vs.drop k).take n).length=n:=by simp;omega
    refine⟨.agg ((vs.drop k).take n).toArray,?_,?_⟩
    · simp only[Instr.loadAt,qp,Instr.sureAddr,qq,qo]
      refine Ze hs ha hn fun j v hj=>hc _ _ _ ?_
      grind
    · simp only[qt,qI]
      exact⟨_,rfl,fun x hx=>h2 x (by simp only at hx;exact zw (zu hx)),by simpa using (h1.drop k).take n⟩
  · rintro rfl hk
    obtain⟨v,e1,e2⟩:=h1.get k hk
    refine⟨v,?_,?_⟩
    · simp only[Instr.loadAt,qp,Instr.sureAddr,qq,qo]
      exact kI ha (hc _ _ _ (h3 _ _ e1))
    · rw[jK _ _ _ hk];simpa only[qt] using e2
theorem Z8 (S:Sees G w ρ ev look) {t:TypeId} {d d':DV} {v:Value} (h:Z4 Y t look d=some (true,d')) (hv:qt G (G.rd w) d v) :
    ∃ u,(Instr.loadAt t v).run P w=.ok u w/\qt G (G.rd w) d' u:=by
  unfold Z4 at h
  split at h
  · rename_i ag n ha hs
    split at h
    · rename_i cs
      simp only[qt,qI] at hv
      obtain⟨b,off,rfl,H⟩:=hv
      have L:=load_cells (P:=P) ha hs S.cell H 0
      simp only[KD,KT,J3] at L
      split at h
      · rename_i hag
        simp only[zh,zx,zf] at h
        grind
      · rename_i hag
        simp only[zh,zx,zf] at h
        obtain⟨h1,rfl⟩:=h
        have:=L.2 (by simpa using hag) h1
        have e:cs.headD dfl=cs.getD 0 dfl:=by cases cs<;>rfl
        rw[e];exact this
    · rename_i hh c
      simp only[qt] at hv
      obtain⟨hna,b,haddr,rfl⟩:=hv
      split at h
      · rename_i ds hl
        obtain⟨_,b',c',e1,e2,e3,e4,e5⟩:=S.look _ _ hl
        rw[haddr] at e1
        simp only[zh,Addr.mk.injEq,WC] at e1
        subst e1
        have hlen:=e5.length
        split at h
        · rename_i hag
          simp only[zh,zx,zf] at h
          obtain⟨h1,rfl⟩:=h
          subst hag
          have hn:((c'.toList.drop c).take n).length=n:=by simp at hlen ⊢;omega
          refine⟨.agg ((c'.toList.drop c).take n).toArray,?_,?_⟩
          · simp only[Instr.loadAt,qp,Instr.sureAddr,qq,qo]
            refine Ze hs ha hn fun j v hj=>?_
            rw[World.cell?_of_heap e3]
            grind
          · exact RelDV_mkAgg (fun x hx=>e4 x (zw (zu hx))) ((e5.drop c).take n)
        · rename_i hag
          simp only[zh,zx,zf] at h
          obtain⟨h1,rfl⟩:=h
          obtain⟨u,k1,k2⟩:=e5.get c h1
          refine⟨u,?_,?_⟩
          · simp only[Instr.loadAt,qp,Instr.sureAddr,qq,qo]
            refine kI (by rw[ha];simpa using hag) ?_
            rw[World.cell?_of_heap e3];simpa using k1
          · rw[jK _ _ _ h1];exact k2
      · rename_i cs hl
        obtain⟨_,b',e1,e2⟩:=S.look _ _ hl
        rw[haddr] at e1
        simp only[zh,Addr.mk.injEq,WC] at e1
        subst e1
        have L:=load_cells (P:=P) ha hs S.cell e2 c
        grind
      · cases h
    · rename_i hh vv i c
      split at h
      · rename_i v' esz T0 es hl
        split at h
        · rename_i hveq
          subst hveq
          obtain⟨k1,k2,k3,k4,k5,k6,k7⟩:=S.look _ _ hl
          simp only[qt] at hv
          obtain⟨b,off,e1,rfl⟩:=hv.2 k2
          rcases k7 with ⟨k7,_⟩|⟨b',c',e1',e2,e3,e3',e4,e5,e6⟩
          · rw[k7] at e1;cases e1
          rw[e1] at e1'
          simp only[zh,Addr.mk.injEq,WC] at e1'
          obtain⟨rfl,rfl⟩:=e1'
          rw[k3]
          have key:∀ hi:i<es.length,qw (G.rd w) es[i] ((c'.toList.drop (0+i*esz)).take esz):=by
            intro hi
            have hfl:∀ (l:List (List PV)) (vs:List Value) (i:Nat) (hi:i<l.length),(∀ e∈l,e.length=esz)->qw (G.rd w) l.flatten vs->qw (G.rd w) l[i] ((vs.drop (i*esz)).take esz):=by
              intro l
              induction l with
              | nil=>intro vs i hi;simp at hi
              | cons e l ih=>
                intro vs i hi hu H
                simp only[XW] at H
                have he:=hu e ao
                cases i with
                | zero=>
                  have t:=H.take esz
                  grind
                | succ i=>
                  have d:=H.drop esz
                  rw[Ql aa,zM aa,zU] at d
                  have:=ih (vs.drop esz) i ar (fun e' h'=>hu e' aq) d
                  rw[J0] at this
                  rw[show (i+1)*esz=esz+i*esz from by rw[Wa];omega]
                  simpa using this
            have:=hfl es _ i hi k6 e6
            rw[J2,J7] at this
            have hm:min esz (es.length*esz-i*esz)=esz:=by
              rw[<-Nat.sub_mul]
              exact JK (QY _ aa)
            rw[hm] at this
            rwa [KT]
          split at h
          · rename_i hag
            simp only[zh,zx,zf] at h
            obtain⟨⟨h1,h2⟩,rfl⟩:=h
            subst hag
            have K:=key h1
            have Kl:=K.length
            have hel:=k6 _ (Jd h1)
            rw[jK _ _ _ h1] at h2 ⊢
            have hn:((((c'.toList.drop (0+i*esz)).take esz).drop c).take n).length=n:=by rw[zn,zo,Kl];omega
            refine⟨.agg ((((c'.toList.drop (0+i*esz)).take esz).drop c).take n).toArray,?_,?_⟩
            · simp only[Instr.loadAt,qp,Instr.sureAddr,qq,qo]
              refine Ze hs ha hn fun j v hj=>?_
              rw[World.cell?_of_heap e3]
              rw[qj] at hj
              split at hj
              · rw[XB,qj] at hj
                split at hj
                · rw[XB] at hj
                  rw[qe] at hj
                  rwa [Kk (0+i*esz)]
                · cases hj
              · cases hj
            · simp only[qt,qI]
              refine⟨_,rfl,fun x hx=>e5 x ?_,by simpa using (K.drop c).take n⟩
              have hx1:x∈(c'.toList.drop (0+i*esz)).take esz:=zw (zu (by simpa using hx))
              rw[KT] at hx1
              have hm:i*esz+esz<=es.length*esz:=by rw[<-Nat.succ_mul];exact Xh _ h1
              have:(c'.toList.drop (i*esz)).take esz=((c'.toList.take (es.length*esz)).drop (i*esz)).take esz:=by
                rw[J2,J7]
                congr 1
                omega
              rw[this] at hx1
              exact zw (zu hx1)
          · rename_i hag
            simp only[zh,zx,zf] at h
            obtain⟨⟨h1,h2⟩,rfl⟩:=h
            have K:=key h1
            rw[jK _ _ _ h1] at h2 ⊢
            obtain⟨u,q1,q2⟩:=K.get c h2
            refine⟨u,?_,?_⟩
            · simp only[Instr.loadAt,qp,Instr.sureAddr,qq,qo]
              refine kI (by rw[ha];simpa using hag) ?_
              rw[World.cell?_of_heap e3]
              rw[qj] at q1
              split at q1
              · rw[XB,qe] at q1;exact q1
              · cases q1
            · rw[jK _ _ _ h2];simpa only[qt] using q2
        · cases h
      · cases h
    · cases h
  · cases h
theorem wrap_sound {k:IntKind} {n:Int} (h:wrapB k n=true):k.wrap n=wrapN k n:=by
  unfold wrapB wrapN at*
  cases k<;>simp only at h ⊢
  simp only[in64,zf] at h
  simp only[IntKind.wrap,IntKind.bits,IntKind.signed]
  simp
  split<;>omega
theorem intQ_sound {op:BinOp} {k:IntKind} {a b:Int} {t:TypeId} {x y:Operand} {v:Value} (h:intQ op k a b=some (true,v)) :
    (do eqGuard op t x y (.int k a) (.int k b);binOp op t (.int k a) (.int k b):Sem Value).run P w=.ok v w/\isLit v=true:=by
  have hw:∀ {n:Int},wrapB k n=true->k.wrap n=wrapN k n:=fun h=>wrap_sound h
  cases op<;>simp only[intQ,zh,zx,WF,reduceCtorEq,bne_iff_ne,WL,zj] at h
  case add=>obtain⟨h0,rfl⟩:=h;rw[<-hw h0];exact⟨by simp[go_sem,binOp,Op.intArith],rfl⟩
  case sub=>obtain⟨h0,rfl⟩:=h;rw[<-hw h0];exact⟨by simp[go_sem,binOp,Op.intArith],rfl⟩
  case mul=>obtain⟨h0,rfl⟩:=h;rw[<-hw h0];exact⟨by simp[go_sem,binOp,Op.intArith],rfl⟩
  case quo=>obtain⟨h0,rfl⟩:=h;rw[<-hw h0.2];exact⟨by simp[go_sem,Op.intDiv,h0.1],rfl⟩
  case rem=>obtain⟨h0,rfl⟩:=h;exact⟨by simp[go_sem,Op.intDiv,h0],rfl⟩
  all_goals (subst h;exact⟨by simp[go_sem,binOp,Op.intCmp,Op.intBits],rfl⟩)
theorem shQ_sound {op:BinOp} {k k':IntKind} {a b:Int} {t:TypeId} {x y:Operand} {v:Value} (h:shQ op k a b=some (true,v)) :
    (do eqGuard op t x y (.int k a) (.int k' b);binOp op t (.int k a) (.int k' b):Sem Value).run P w=.ok v w/\isLit v=true:=by
  cases op<;>simp only[shQ,zh,zx,reduceCtorEq,zf] at h
  all_goals
    obtain⟨h0,rfl⟩:=h
    exact⟨by simp[go_sem,Op.shift,Int.not_lt.2 h0],rfl⟩
theorem strQ_sound {op:BinOp} {a b:ByteArray} {t:TypeId} {x y:Operand} {v:Value} (h:strQ op a b=some (true,v)) :
    (do eqGuard op t x y (.string a) (.string b);binOp op t (.string a) (.string b):Sem Value).run P w=.ok v w/\isLit v=true:=by
  cases op<;>simp only[strQ,zh,zx,WF,reduceCtorEq,zf] at h<;>
    first
      | (subst h;exact⟨by simp[go_sem,binOp,Op.stringOp],rfl⟩)
      | (obtain⟨h0,rfl⟩:=h
         refine⟨?_,rfl⟩
         have:¬(9223372036854775807:Int)<(a.size:Int)+(b.size:Int):=aa
         simp[go_sem,binOp,Op.stringOp,this])
end
section
variable {P:Program} {Y:Tab} [qH P Y] {G:Gh} {w:World} {ρ:Operand->Value} {ev:Operand->DV} {look:Nat->Option MO}
theorem qG {R:Rd} {v:Value} (h:isLit v=true):qt G R (lit v) v:=by
  simpa [lit,qt,qI] using h
theorem qx {R:Rd} {u v:Value} (h:qt G R (.pv (.lit u)) v):v=u/\isLit u=true:=by
  simpa only[qt,qI] using h
theorem eqV_int {kk:IntKind} {x y:PV} {r:Bool} (h:eqV (.int kk) x y=some r):∃ k a b,x=.lit (.int k a)/\y=.lit (.int k b)/\r=(a==b):=by
  unfold eqV at h
  grind
theorem eqV_string {x y:PV} {r:Bool} (h:eqV .string x y=some r):∃ a b,x=.lit (.string a)/\y=.lit (.string b)/\r=(a.toList==b.toList):=by
  unfold eqV at h
  grind
theorem eqV_bool {x y:PV} {r:Bool} (h:eqV .bool x y=some r):∃ a b,x=.lit (.bool a)/\y=.lit (.bool b)/\r=(a==b):=by
  unfold eqV at h
  grind
theorem eqVs_sound {R:Rd} (d:Nat):∀ (fs:List Field) (k:Nat) (ds:List TypeDesc) (xs ys:List PV) (cx cy:Array Value) (vx vy:List Value) (r:Bool),
    (fs.zipIdx k).mapM (fun (x:Field×Nat)=>
      if x.1.name== "_" ||x.1.offset != x.2 then none
      else match Y.underlying x.1.type with
        | some (.int k)=>some (TypeDesc.int k)
        | some .string=>some .string
        | some .bool=>some .bool
        | _=>none)=some ds->
    qw R xs vx->qw R ys vy->(∀ j,vx[j]? =cx[k+j]?)->(∀ j,vy[j]? =cy[k+j]?)->eqVs ds xs ys=some r->
    (Op.eqFields (d+1) cx cy fs).run P w=.ok r w
  | [],k,ds,xs,ys,cx,cy,vx,vy,r,hd,hx,hy,_,_,he=>by
    simp only[List.zipIdx_nil,List.mapM_nil] at hd
    cases hd
    cases xs<;>cases ys<;>simp only[eqVs] at he<;>cases he
    simp[Op.eqFields]
  | f::fs,k,ds,xs,ys,cx,cy,vx,vy,r,hd,hx,hy,ix,iy,he=>by
    simp only[List.zipIdx_cons,List.mapM_cons] at hd
    cases h1:(if f.name== "_" ||f.offset != k then none
      else match Y.underlying f.type with
        | some (.int k)=>some (TypeDesc.int k)
        | some .string=>some .string
        | some .bool=>some .bool
        | _=>none) with
    | none=>rw[h1] at hd;cases hd
    | some d0=>
      rw[h1] at hd
      cases h2:(fs.zipIdx (k+1)).mapM (fun (x:Field×Nat)=>
        if x.1.name== "_" ||x.1.offset != x.2 then none
        else match Y.underlying x.1.type with
          | some (.int k)=>some (TypeDesc.int k)
          | some .string=>some .string
          | some .bool=>some .bool
          | _=>none) with
      | none=>rw[h2] at hd;cases hd
      | some dr=>
        rw[h2] at hd
        cases hd
        cases xs with
        | nil=>simp only[eqVs] at he;cases he
        | cons x xs=>
        cases ys with
        | nil=>simp only[eqVs] at he;cases he
        | cons y ys=>
        simp only[eqVs] at he
        cases e1:eqV d0 x y with
        | none=>rw[e1] at he;cases he
        | some b0=>
          cases e2:eqVs dr xs ys with
          | none=>rw[e1,e2] at he;cases he
          | some br=>
            rw[e1,e2] at he
            cases he
            simp only[qw] at hx hy
            obtain⟨ux,vx',rfl,rx,hx⟩:=hx
            obtain⟨uy,vy',rfl,ry,hy⟩:=hy
            have ih:=eqVs_sound d fs (k+1) dr xs ys cx cy vx' vy' br h2 hx hy
              (fun j=>by have:=ix (j+1);simpa [Kk,KC 1 j] using this)
              (fun j=>by have:=iy (j+1);simpa [Kk,KC 1 j] using this) e2
            split at h1
            · cases h1
            · rename_i hn
              simp only[Jr,Wv,bne_iff_ne,WL,not_or,zi] at hn
              obtain⟨hn1,hn2⟩:=hn
              have gx:cx[k]? =some ux:=by have:=ix 0;simpa using this.symm
              have gy:cy[k]? =some uy:=by have:=iy 0;simpa using this.symm
              have ha:aggT Y f.type=some false:=by
                unfold aggT
                grind
              have p1:(part f.type cx f.offset).run P w=.ok ux w:=by
                simp only[part,qp,kA ha,qo,qk,qm,hn2,gx,qq]
              have p2:(part f.type cy f.offset).run P w=.ok uy w:=by
                simp only[part,qp,kA ha,qo,qk,qm,hn2,gy,qq]
              have p3:(Op.equalIn (d+1) f.type ux uy).run P w=.ok b0 w:=by
                split at h1
                · rename_i kk hu
                  cases h1
                  obtain⟨k1,a1,b1,rfl,rfl,rfl⟩:=eqV_int e1
                  simp only[qI] at rx ry
                  rw[rx.1,ry.1]
                  exact run_equalIn_int w d f.type _ kk _ _ (qH.und P hu)
                · rename_i hu
                  cases h1
                  obtain⟨a1,b1,rfl,rfl,rfl⟩:=eqV_string e1
                  simp only[qI] at rx ry
                  rw[rx.1,ry.1]
                  exact run_equalIn_string w d f.type _ _ (qH.und P hu)
                · rename_i hu
                  cases h1
                  obtain⟨a1,b1,rfl,rfl,rfl⟩:=eqV_bool e1
                  simp only[qI] at rx ry
                  rw[rx.1,ry.1]
                  exact run_equalIn_bool' w d f.type _ _ (qH.und P hu)
                · cases h1
              simp only[Op.eqFields,WL,hn1,X5,ql,qp,p1,p2,p3,qo,Sem.run_ite,qq]
              grind
theorem binQ_sound {op:BinOp} {t:TypeId} {x y:Operand} {a b:DV} {u v:Value} {d:DV} (h:binQ Y op t a b=some (true,d))
    (hu:qt G (G.rd w) a u) (hv:qt G (G.rd w) b v) :
    ∃ r,(do eqGuard op t x y u v;binOp op t u v:Sem Value).run P w=.ok r w/\qt G (G.rd w) d r:=by
  unfold binQ at h
  split at h
  · rename_i k a k' b
    obtain⟨rfl,_⟩:=qx hu
    obtain⟨rfl,_⟩:=qx hv
    have sh:∀ {o},(shQ o k a b).map (fun (x:Bool×Value)=>(x.1,lit x.2))=some (true,d)->o=op->
        ∃ r,(do eqGuard op t x y (.int k a) (.int k' b);binOp op t (.int k a) (.int k' b):Sem Value).run P w=.ok r w/\qt G (G.rd w) d r:=by
      intro o h' ho
      clear h
      subst ho
      cases hq:shQ o k a b with
      | none=>rw[hq] at h';cases h'
      | some z=>
        obtain⟨s,r⟩:=z
        rw[hq] at h'
        cases h'
        obtain⟨h1,h2⟩:=shQ_sound (P:=P) (w:=w) (k':=k') (t:=t) (x:=x) (y:=y) hq
        exact⟨r,h1,qG h2⟩
    split at h
    · exact sh h rfl
    · exact sh h rfl
    · split at h
      · rename_i hk;subst hk
        cases hq:intQ op k a b with
        | none=>rw[hq] at h;cases h
        | some z=>
          obtain⟨s,r⟩:=z
          rw[hq] at h
          cases h
          obtain⟨h1,h2⟩:=intQ_sound (P:=P) (w:=w) (t:=t) (x:=x) (y:=y) hq
          exact⟨r,h1,qG h2⟩
      · cases h
  · rename_i a b
    obtain⟨rfl,_⟩:=qx hu
    obtain⟨rfl,_⟩:=qx hv
    cases hq:strQ op a b with
    | none=>rw[hq] at h;cases h
    | some z=>
      obtain⟨s,r⟩:=z
      rw[hq] at h
      cases h
      obtain⟨h1,h2⟩:=strQ_sound (P:=P) (w:=w) (t:=t) (x:=x) (y:=y) hq
      exact⟨r,h1,qG h2⟩
  · rename_i a b
    obtain⟨rfl,_⟩:=qx hu
    obtain⟨rfl,_⟩:=qx hv
    split at h
    · rename_i hb
      cases h
      refine⟨.bool (a==b),?_,qG rfl⟩
      simp[go_sem,binOp,Op.equal,Op.maxDepth,run_equalIn_bool' w 9999 t a b (qH.und P hb)]
    · rename_i hb
      cases h
      refine⟨.bool (!(a==b)),?_,qG rfl⟩
      simp[go_sem,binOp,Op.equal,Op.maxDepth,run_equalIn_bool' w 9999 t a b (qH.und P hb)]
    · cases h
  · rename_i xs ys
    simp only[qt,qI] at hu hv
    obtain⟨vx,rfl,ox,hx⟩:=hu
    obtain⟨vy,rfl,oy,hy⟩:=hv
    split at h
    · rename_i ds hf
      unfold flatEq at hf
      split at hf
      · rename_i fs hun
        split at hf
        · cases hf
        · rename_i hst
          have hst:=qH.eqs P (by simpa using hst)
          simp only[z7] at hst
          have hun:=qH.und P hun
          have hfo:P.fieldsOf t=fs:=by simp[Program.fieldsOf,hun]
          have key:∀ r,eqVs ds xs ys=some r->(Op.equalIn 10000 t (.agg vx) (.agg vy)).run P w=.ok r w:=by
            intro r hr
            rw[run_equalIn_agg w 9999 t vx vy (by rw[hfo];exact hun) hst.1,hfo]
            exact eqVs_sound (Y:=Y) 9998 fs.toList 0 ds xs ys vx vy vx.toList vy.toList r hf hx hy ao ao hr
          split at h
          · rename_i r hr
            cases h
            refine⟨.bool r,?_,qG rfl⟩
            simp only[qp,run_eqGuard_agg w _ t x y vx vy hst.2,qo,run_eql_struct,key r hr]
          · rename_i r hr
            cases h
            refine⟨.bool (!r),?_,qG rfl⟩
            simp only[qp,run_eqGuard_agg w _ t x y vx vy hst.2,qo,run_neq_struct,key r hr]
          · cases h
      · cases hf
    · cases h
  · cases h
end
section
variable {P:Program} {Y:Tab} [qH P Y] {G:Gh} {w:World} {ρ:Operand->Value} {ev:Operand->DV} {look:Nat->Option MO}
theorem unQ_sound {op:UnOp} {a d:DV} {u:Value} (h:unQ op a=some (true,d)) (hu:qt G (G.rd w) a u) :
  ∃ r,(Op.unary op u).run P w=.ok r w/\qt G (G.rd w) d r:=by
 unfold unQ at h
 split at h
 ·cases h
  obtain⟨rfl,_⟩:=qx hu
  exact⟨_,by simp[Op.unary],qG rfl⟩
 ·obtain⟨h1,rfl⟩:=Wl (JO h)
  obtain⟨rfl,_⟩:=qx hu
  rw[<-wrap_sound h1]
  exact⟨_,by simp[Op.unary,Op.intArith],qG au⟩
 cases h
theorem convQ_sound {s t:TypeId} {a d:DV} {u:Value} (h:convQ Y s t a=some (true,d)) (hu:qt G (G.rd w) a u) :
  ∃ r,(convert s t u).run P w=.ok r w/\qt G (G.rd w) d r:=by
 unfold convQ at h
 split at h
 ·rename_i ds k _ n hs ht
  obtain⟨h1,rfl⟩:=Wl (JO h)
  obtain⟨rfl,_⟩:=qx hu
  rw[<-wrap_sound h1]
  exact⟨_,by simp[convert,qF hs,qF ht,Conv.intToInt],qG rfl⟩
 ·rename_i ds b hs ht
  cases h
  obtain⟨rfl,_⟩:=qx hu
  refine⟨.string b,?_,qG rfl⟩
  simp only[convert,qp,qF hs,qF ht,qo]
  cases ds<;>rfl
 cases h
theorem fieldOf_eq {s:TypeId} {f:Nat} {fd:Field} (h:fieldOf Y s f=some fd):∃ fs,Y.underlying s=some (.struct fs)/\fs[f]? =some fd:=by
 unfold fieldOf at h
 grind
theorem liveArr_eq {h v:Nat} (S:Sees G w ρ ev look) (e:liveArr look h v=true) :
  ∃ esz T es,look h=some (.arr v esz T es)/\(G.ρ h).ver=v:=by
 unfold liveArr at e
 split at e
 ·rename_i v' esz T es hl
  simp only[Wv] at e
  subst e
  exact⟨esz,T,es,hl,(S.look _ _ hl).2.1⟩
 cases e
theorem fieldAddrQ_sound (S:Sees G w ρ ev look) {s:TypeId} {f:Nat} {a d:DV} {u:Value} (h:kf Y s f look a=some (true,d)) (hu:qt G (G.rd w) a u) :
  ∃ r,(Instr.fieldAt s u f).run P w=.ok r w/\qt G (G.rd w) d r:=by
 unfold kf at h
 split at h
 ·rename_i fd hf
  obtain⟨fs,hs,hg⟩:=fieldOf_eq hf
  split at h
  ·rename_i m hm
   have run:∀ b off,(Instr.fieldAt s (.pointer (some ⟨b,off,none⟩)) f).run P w=.ok (.pointer (some ⟨b,off+fd.offset,none⟩)) w:=by
    intro b off
    simp only[Instr.fieldAt,qp,qF hs,qo,hg,Instr.sureAddr,qq,fieldPlace,qX hm,Nat.succ_ne_zero,qm,Sem.run_ite,Addr.add_lit]
   split at h
   ·grind [qt]
   ·rename_i hh vv i c
    split at h
    ·rename_i hl
     cases h
     obtain⟨esz,T,es,_,hv⟩:=liveArr_eq S hl
     grind [qt]
    cases h
   ·rename_i cs
    cases h
    simp only[qt,qI] at hu
    obtain⟨b,off,rfl,H⟩:=hu
    exact⟨_,run _ _,by simp only[qt,qI];exact⟨b,_,rfl,H.drop _⟩⟩
   cases h
  cases h
 cases h
theorem run_part_cells {t:TypeId} {cs:Array Value} {off n:Nat} (ha:aggT Y t=some true) (hs:szT Y t=some n) :
  (part t cs off).run P w=.ok (.agg (cs.extract off (off+n))) w:=by
 simp only[part,qp,kA ha,qo,ql,qX hs,qq]
theorem run_part_cell {t:TypeId} {cs:Array Value} {off:Nat} {v:Value} (ha:aggT Y t=some false) (hv:cs[off]? =some v) :
  (part t cs off).run P w=.ok v w:=by
 simp only[part,qp,kA ha,qo,qk,qm,hv,qq]
theorem ZU (cs:Array Value) (off n:Nat):(cs.extract off (off+n)).toList=(cs.toList.drop off).take n:=by simp
theorem fieldQ_sound {s:TypeId} {f:Nat} {a d:DV} {u:Value} (h:fieldQ Y s f a=some (true,d)) (hu:qt G (G.rd w) a u) :
  ∃ r,(Instr.field s u f).run P w=.ok r w/\qt G (G.rd w) d r:=by
 unfold fieldQ at h
 split at h
 ·rename_i fd hf
  obtain⟨fs,hs,hg⟩:=fieldOf_eq hf
  have run:∀ vs,(Instr.field s (.agg vs) f).run P w=(part fd.type vs fd.offset).run P w:=by
   intro vs
   simp only[Instr.field,qp,qF hs,qo,hg,asAgg,qq]
  split at h
  ·rename_i n cs ha hn
   simp only[zh,zx,zf] at h
   obtain⟨h1,rfl⟩:=h
   simp only[qt,qI] at hu
   obtain⟨vs,rfl,ho,H⟩:=hu
   refine⟨_,(run _).trans (run_part_cells ha hn),?_⟩
   simp only[qt,qI]
   refine⟨_,rfl,?_,?_⟩
   ·rw[ZU];exact fun x hx=>ho x (zw (zu hx))
   rw[ZU];exact (H.drop _).take _
  ·rename_i n cs ha hn
   simp only[zh,zx,zf] at h
   obtain⟨h1,rfl⟩:=h
   simp only[qt,qI] at hu
   obtain⟨vs,rfl,ho,H⟩:=hu
   obtain⟨v,e1,e2⟩:=H.get _ h1
   refine⟨v,(run _).trans (run_part_cell ha (by simpa using e1)),?_⟩
   rw[jK _ _ _ h1];simpa only[qt] using e2
  ·rename_i n cs ha hn
   simp only[zh,zx,zf] at h
   obtain⟨h1,rfl⟩:=h
   simp only[qt] at hu
   obtain⟨vs,rfl,ho,H⟩:=hu
   refine⟨_,(run _).trans (run_part_cells ha hn),?_⟩
   have e:(Value.agg (vs.extract fd.offset (fd.offset+n)))=.agg ((vs.toList.drop fd.offset).take n).toArray:=by rw[<-ZU]
   rw[e]
   exact RelDV_mkAgg (fun x hx=>ho x (zw (zu hx))) ((H.drop _).take _)
  ·rename_i n cs ha hn
   simp only[zh,zx,zf] at h
   obtain⟨h1,rfl⟩:=h
   simp only[qt] at hu
   obtain⟨vs,rfl,ho,H⟩:=hu
   obtain⟨v,e1,e2⟩:=H.get _ h1
   refine⟨v,(run _).trans (run_part_cell ha (by simpa using e1)),?_⟩
   grind
  cases h
 cases h
theorem allLen_get {n:Nat} {es:List (List PV)} (h:j6 n es=true) (i:Nat) (hi:i<es.length):es[i].length=n:=by
 simp only[j6,zr,Wv] at h
 grind
theorem Zz (S:Sees G w ρ ev look) {t:TypeId} {a i d:DV} {u k:Value} (h:jV Y t look a i=some (true,d)) (hu:qt G (G.rd w) a u)
  (hk:qt G (G.rd w) i k):∃ r,(Instr.indexAt t u k).run P w=.ok r w/\qt G (G.rd w) d r:=by
 unfold jV at h
 split at h
 ·rename_i e ik n ht
  obtain⟨rfl,_⟩:=qx hk
  split at h
  ·rename_i sz hsz
   have run:∀ b off len cap,0<=n->n<(len:Nat)->(Instr.indexAt t (.slice (some ⟨b,off,none⟩) len cap) (.int ik n)).run P w=.ok (.pointer (some ⟨b,off+n.toNat*sz,none⟩)) w:=by
    intro b off len cap h0 h1
    simp only[Instr.indexAt,qp,asIntOf,qq,qF ht,qo,h0,h1,WB,ql,Sem.run_ite,qX hsz,Addr.add_lit]
   split at h
   ·rename_i es
    simp only[zh,zx,zj,zf] at h
    obtain⟨⟨⟨h0,h1⟩,h2⟩,rfl⟩:=h
    simp only[qt,qI] at hu
    obtain⟨a0,cap,rfl,hc,H⟩:=hu
    rcases H with rfl|⟨b,off,esz,rfl,H⟩
    ·simp at h1;omega
    have hi:n.toNat<es.length:=aa
    refine⟨_,run b off es.length cap h0 h1,?_⟩
    obtain⟨e1,e2⟩:=H.get n.toNat hi
    grind [jK,qt,qI,allLen_get]
   ·rename_i hh vv
    split at h
    ·rename_i v' sz' T0 es hl
     split at h
     ·rename_i hq
      obtain⟨rfl,rfl⟩:=hq
      simp only[zh,zx,zf] at h
      obtain⟨⟨h0,h1⟩,rfl⟩:=h
      obtain⟨k1,k2,k3,k4,k5,k6,k7⟩:=S.look _ _ hl
      grind [qt]
     cases h
    ·rename_i v' es hl
     split at h
     ·rename_i hq
      subst hq
      simp only[zh,zx,zj,zf] at h
      obtain⟨⟨⟨h0,h1⟩,h2⟩,rfl⟩:=h
      obtain⟨k1,k2,k4,k5,k7⟩:=S.look _ _ hl
      simp only[qt] at hu
      have hv:=hu.2 k2
      subst hv
      rcases k7 with rfl|⟨b,off,esz,e1,e2,H⟩
      ·simp at h1;omega
      have hi:n.toNat<es.length:=aa
      rw[e1]
      refine⟨_,run b off _ _ h0 (by rw[k4];exact h1),?_⟩
      obtain⟨q1,q2⟩:=H.get n.toNat hi
      grind [jK,qt,qI,allLen_get]
     cases h
    cases h
   cases h
  cases h
 ·rename_i len e ik n ht
  obtain⟨rfl,_⟩:=qx hk
  split at h
  ·rename_i sz hsz
   have run:∀ b off,0<=n->n<(len:Nat)->(Instr.indexAt t (.pointer (some ⟨b,off,none⟩)) (.int ik n)).run P w=.ok (.pointer (some ⟨b,off+n.toNat*sz,none⟩)) w:=by
    intro b off h0 h1
    simp only[Instr.indexAt,qp,asIntOf,qq,qF ht,qo,Instr.sureAddr,h0,h1,WB,ql,Sem.run_ite,qX hsz,Addr.add_lit]
   split at h
   ·rename_i hh c
    simp only[zh,zx,zf] at h
    grind [qt]
   ·rename_i cs
    simp only[zh,zx,zf] at h
    obtain⟨⟨h0,h1⟩,rfl⟩:=h
    simp only[qt,qI] at hu
    obtain⟨b,off,rfl,H⟩:=hu
    exact⟨_,run _ _ h0 h1,by simp only[qt,qI];exact⟨b,_,rfl,H.drop _⟩⟩
   cases h
  cases h
 cases h
theorem indexQ_sound {t:TypeId} {a i d:DV} {u k:Value} (h:indexQ Y t a i=some (true,d)) (hu:qt G (G.rd w) a u)
  (hk:qt G (G.rd w) i k):∃ r,(Instr.index t u k).run P w=.ok r w/\qt G (G.rd w) d r:=by
 unfold indexQ at h
 split at h
 ·rename_i s ik n ht
  simp only[zh,zx,zf] at h
  obtain⟨⟨h0,h1⟩,rfl⟩:=h
  obtain⟨rfl,_⟩:=qx hk
  obtain⟨rfl,_⟩:=qx hu
  refine⟨.int .u8 (s.data.toList.getD n.toNat 0).toNat,?_,qG rfl⟩
  have hi:n.toNat<s.size:=aa
  have e:s[n.toNat]? =some s[n.toNat]:=by simp[hi]
  have e2:s.data.toList.getD n.toNat 0=s[n.toNat]:=by rw[jK _ _ _ ar];rfl
  simp only[Instr.index,qp,asIntOf,qq,qF ht,qo,h0,ql,e,e2]
 ·rename_i len e cs ik n ht
  split at h
  ·rename_i ha hs
   simp only[zh,zx,zf] at h
   obtain⟨⟨h0,h1,h2⟩,rfl⟩:=h
   obtain⟨rfl,_⟩:=qx hk
   simp only[qt,qI] at hu
   obtain⟨vs,rfl,ho,H⟩:=hu
   obtain⟨v,e1,e2⟩:=H.get _ h2
   refine⟨v,?_,by rw[jK _ _ _ h2];simpa only[qt] using e2⟩
   simp only[Instr.index,qp,asIntOf,qq,qF ht,qo,h0,h1,WB,ql,Sem.run_ite,qX hs,We]
   exact run_part_cell ha (by simpa using e1)
  cases h
 cases h
end
section
variable {P:Program} {Y:Tab} [qH P Y] {G:Gh} {w:World} {ρ:Operand->Value} {ev:Operand->DV} {look:Nat->Option MO}
def ORel (G:Gh) (R:Rd):Option DV->Option Value->Prop
 | none,none=>True
 | some d,some u=>qt G R d u
 | _,_=>False
def OInt:Option Int->Option Value->Prop
 | none,none=>True
 | some n,some u=>∃ k,u=.int k n
 | _,_=>False
theorem lenOf_sound (S:Sees G w ρ ev look) {a:DV} {n:Nat} {u:Value} (h:lenOf look a=some n) (hu:qt G (G.rd w) a u) :
  ∃ b c,u=.slice b n c:=by
 unfold lenOf at h
 split at h
 ·grind [qt,qI]
 ·grind [qt]
 ·split at h
  ·rename_i v' x T0 es hl
   split at h
   ·rename_i hq;subst hq;cases h
    obtain⟨k1,k2,k3,k4,_⟩:=S.look _ _ hl
    grind [qt,hu.2]
   cases h
  ·rename_i v' es hl
   split at h
   ·rename_i hq;subst hq;cases h
    obtain⟨k1,k2,k4,_⟩:=S.look _ _ hl
    grind [qt,hu.2]
   cases h
  cases h
 ·split at h
  ·rename_i v' x T0 es hl
   split at h
   ·rename_i hq;subst hq;cases h
    obtain⟨k1,k2,k3,k4,_⟩:=S.look _ _ hl
    grind [qt]
   cases h
  ·rename_i v' es hl
   split at h
   ·rename_i hq;subst hq;cases h
    obtain⟨k1,k2,k4,_⟩:=S.look _ _ hl
    grind [qt]
   cases h
  cases h
 ·split at h
  ·rename_i v' x T0 es hl
   split at h
   ·rename_i hq;subst hq;cases h
    obtain⟨k1,k2,k3,k4,_⟩:=S.look _ _ hl
    grind [qt]
   cases h
  ·rename_i v' es hl
   split at h
   ·rename_i hq;subst hq;cases h
    obtain⟨k1,k2,k4,_⟩:=S.look _ _ hl
    simp only[qt] at hu
    grind
   cases h
  cases h
 cases h
theorem lenQ_sound (S:Sees G w ρ ev look) {t ty:TypeId} {a d:DV} {u:Value} (h:lenQ Y t look a=some (true,d)) (hu:qt G (G.rd w) a u) :
  ∃ r,(Builtin.len_ #[t] ty #[u]).run P w=.ok r w/\qt G (G.rd w) d r:=by
 unfold lenQ at h
 split at h
 ·rename_i ht
  split at h
  ·cases h
   obtain⟨rfl,_⟩:=qx hu
   exact⟨_,by simp[Builtin.len_,qF ht,goInt],qG rfl⟩
  cases h
 ·rename_i e ht
  cases hn:lenOf look a with
  | none=>rw[hn] at h;cases h
  | some n=>
   rw[hn] at h
   cases h
   obtain⟨b,c,rfl⟩:=lenOf_sound S hn hu
   exact⟨_,by simp[Builtin.len_,qF ht,goInt],qG rfl⟩
 ·rename_i n e ht
  cases h
  exact⟨_,by simp[Builtin.len_,qF ht,goInt],qG rfl⟩
 ·rename_i kt et ht
  split at h
  ·rename_i ks vs
   cases h
   simp only[qt,qI] at hu
   obtain⟨r,es,rfl,hm,hk,hv⟩:=hu
   have hl:=hk.length
   simp at hl
   have:=S.map _ _ hm
   unfold kL at this
   refine⟨.int .i64 ks.length,?_,qG rfl⟩
   split at this
   ·rename_i es' clock he
    cases this
    simp[Builtin.len_,qF ht,goInt,getObj,Sem.run,he,hl]
   cases this
  ·cases h
   obtain⟨rfl,_⟩:=qx hu
   exact⟨_,by simp[Builtin.len_,qF ht,goInt],qG rfl⟩
  cases h
 cases h
theorem j4 {o:Option DV} {v:Option Value} {b:Option Int} (h:bound o=some b) (ho:ORel G (G.rd w) o v):OInt b v:=by
 unfold bound at h
 split at h
 ·cases h
  cases v<;>simp_all [ORel,OInt]
 ·cases h
  cases v with
  | none=>simp[ORel] at ho
  | some u=>
   obtain⟨rfl,_⟩:=qx (G:=G) (R:=G.rd w) ho
   exact⟨_,rfl⟩
 cases h
theorem jU {isS:Bool} {len cap:Nat} {lo hi:Option Value} {l h:Option Int}
  (h1:OInt l lo) (h2:OInt h hi)
  (b1:0<=l.getD 0) (b2:l.getD 0<=h.getD (len:Int)) (b3:h.getD (len:Int)<=(cap:Int)) :
  (Instr.sliceBounds isS len cap lo hi none).run P w=.ok ((l.getD 0).toNat,(h.getD (len:Int)).toNat,cap) w:=by
 have sb:∀ (k:IntKind) (n:Int) (y:Nat) (c:BoundsCode),0<=n->n<=y->(Instr.sliceBound (.int k n) y c).run P w=.ok n.toNat w:=by
  intro k n y c h0 h1
  simp[Instr.sliceBound,asIntOf,h0,h1]
 cases lo<;>cases l<;>first|(exact h1.elim)|skip
 all_goals
  cases hi<;>cases h<;>first|(exact h2.elim)|skip
 ·simp[Instr.sliceBounds]
 ·obtain⟨k,rfl⟩:=h2
  simp only[zO,Jo] at b1 b2 b3 ⊢
  simp only[Instr.sliceBounds,qp,qq,qo,sb _ _ _ _ b2 b3]
  rfl
 ·obtain⟨k,rfl⟩:=h1
  simp only[zO,Jo] at b1 b2 b3 ⊢
  simp only[Instr.sliceBounds,qp,qq,qo,sb _ _ len _ b1 b2,zT]
 obtain⟨k,rfl⟩:=h1
 obtain⟨k',rfl⟩:=h2
 simp only[zO] at b1 b2 b3 ⊢
 rename_i n1 n2
 simp only[Instr.sliceBounds,qp,qq,qo,sb _ n2 cap _ aa b3,sb _ n1 n2.toNat _ b1 aa]
theorem Zk {t:TypeId} (ht:∀ n e,Y.underlying t≠some (.array n e)) {d:TypeDesc} (hd:Y.underlying t=some d) (u:Value) (lo hi mx:Option Value) :
  (Instr.sliceAt t u lo hi mx).run P w=(Instr.slice t u lo hi mx).run P w:=by
 simp only[Instr.sliceAt,qp,qF hd,qo]
 cases d<;>first|rfl|exact absurd hd (ht _ _)
theorem sliceQ_sound (S:Sees G w ρ ev look) {t:TypeId} {a d:DV} {u:Value} {lo hi mx:Option DV} {vlo vhi vmx:Option Value}
  (h:Za Y t look a lo hi mx=some (true,d)) (hu:qt G (G.rd w) a u)
  (hlo:ORel G (G.rd w) lo vlo) (hhi:ORel G (G.rd w) hi vhi) (hmx:ORel G (G.rd w) mx vmx) :
  ∃ r,(Instr.sliceAt t u vlo vhi vmx).run P w=.ok r w/\qt G (G.rd w) d r:=by
 unfold Za at h
 split at h
 ·rename_i l h' ht hl hh
  have B1:=j4 hl hlo
  have B2:=j4 hh hhi
  have hm0:vmx=none:=by cases vmx<;>simp_all [ORel]
  subst hm0
  rw[Zk av ht]
  split at h
  ·rename_i s
   simp only[zh,zx,zf] at h
   obtain⟨⟨b1,b2,b3⟩,rfl⟩:=h
   obtain⟨rfl,_⟩:=qx hu
   refine⟨.string (s.extract (l.getD 0).toNat (h'.getD (s.size:Int)).toNat),?_,qG rfl⟩
   simp only[Instr.slice,qp,qF ht,qo,XL,qk,qm,qq,jU (P:=P) (w:=w) (isS:=false) (len:=s.size) (cap:=s.size) B1 B2 b1 b2 b3]
  cases h
 ·rename_i e l h' ht hl hh
  have B1:=j4 hl hlo
  have B2:=j4 hh hhi
  have hm0:vmx=none:=by cases vmx<;>simp_all [ORel]
  subst hm0
  rw[Zk av ht]
  split at h
  ·rename_i sz hsz
   have run:∀ (b:Option Addr) (len cap:Nat),len<=cap->0<=l.getD 0->l.getD 0<=h'.getD (len:Int)->h'.getD (len:Int)<=(len:Int)->
     (Instr.slice t (.slice b len cap) vlo vhi none).run P w=.ok (.slice (if cap=(l.getD 0).toNat then b else b.map (·.add ((l.getD 0).toNat*sz))) ((h'.getD (len:Int)).toNat-(l.getD 0).toNat) (cap-(l.getD 0).toNat)) w:=by
    intro b len cap hc b1 b2 b3
    have hb:=jU (P:=P) (w:=w) (isS:=true) (len:=len) (cap:=cap) B1 B2 b1 b2 aa
    simp only[Instr.slice,qp,qF ht,qo,hb,qX hsz,qq]
   have fin:∀ (b:Option Addr) (es:List (List PV)) (cap:Nat),es.length<=cap->(es=[]\/∃ bb off esz,b=some ⟨bb,off,none⟩/\qQ (G.rd w) es bb off esz)->
     0<=l.getD 0->l.getD 0<=h'.getD (es.length:Int)->h'.getD (es.length:Int)<=(es.length:Int)->(l=none\/j6 sz es=true)->
     ∃ r,(Instr.slice t (.slice b es.length cap) vlo vhi none).run P w=.ok r w/\qt G (G.rd w) (.pv (.slice ((es.take (h'.getD (es.length:Int)).toNat).drop (l.getD 0).toNat))) r:=by
    intro b es cap hc He b1 b2 b3 hal
    refine⟨_,run b es.length cap hc b1 b2 b3,?_⟩
    simp only[qt,qI]
    refine⟨_,_,by
     congr 1
     rw[zo,zn]
     omega,by rw[zo,zn];omega,?_⟩
    by_cases hem:(es.take (h'.getD (es.length:Int)).toNat).drop (l.getD 0).toNat=[]
    ·exact .inl hem
    right
    have hlt:(l.getD 0).toNat<(h'.getD (es.length:Int)).toNat:=by grind
    rcases He with rfl|⟨bb,off,esz,rfl,H⟩
    ·grind
    refine⟨bb,off+(l.getD 0).toNat*sz,esz,?_,?_⟩
    ·grind [Addr.add_lit]
    rcases hal with rfl|hal
    ·simp only[Jo,JZ,KU,KD,J3]
     exact H.take _
    have hz:esz=sz:=by
     have hp:0<es.length:=aa
     rw[<-(H.get 0 hp).1];exact allLen_get hal 0 hp
    subst hz
    exact (H.take _).drop _
   split at h
   ·rename_i es
    simp only[zh,zx,zf] at h
    obtain⟨⟨b1,b2⟩,rfl⟩:=h
    simp only[qt,qI] at hu
    obtain⟨b,cap,rfl,hc,H⟩:=hu
    have:=fin b es cap hc H ao aw b2 (.inl rfl)
    simpa using this
   ·rename_i es n
    simp only[zh,zx,zj,zf] at h
    obtain⟨⟨⟨b1,b2,b3⟩,hal⟩,rfl⟩:=h
    simp only[qt,qI] at hu
    obtain⟨b,cap,rfl,hc,H⟩:=hu
    exact fin b es cap hc H b1 b2 b3 (.inr hal)
   ·rename_i hn vv
    split at h
    ·rename_i v' sz' T0 es hlk
     split at h
     ·rename_i hq
      subst hq
      obtain⟨k1,k2,k3,k4,k5,k6,k7⟩:=S.look _ _ hlk
      simp only[qt] at hu
      have hv:=hu.2 k2
      subst hv
      split at h
      ·cases h
       refine⟨_,run _ _ _ (by rw[k4];exact k5) ao ao ao,?_⟩
       simp only[qt]
       refine⟨aa,fun _=>?_⟩
       simp only[Jo,JZ,KU,KQ,zT]
       grind [Addr.add]
      rename_i k
      simp only[zh,zx,zf] at h
      obtain⟨⟨b1,b2⟩,rfl⟩:=h
      refine⟨_,run _ _ _ (by rw[k4];exact k5) ao aw (by simpa [k4] using b2),?_⟩
      simp only[qt]
      refine⟨aa,fun _=>⟨by rw[k4];omega,?_⟩⟩
      simp only[Jo,zO,JZ,KU,KQ]
      split
      ·rfl
      cases (G.ρ hn).addr<;>simp[Addr.add]
     cases h
    ·rename_i v' es hlk
     split at h
     ·rename_i hq
      subst hq
      simp only[zh,zx,zf] at h
      obtain⟨⟨b1,b2⟩,rfl⟩:=h
      obtain⟨k1,k2,k4,k5,k7⟩:=S.look _ _ hlk
      simp only[qt] at hu
      have hv:=hu.2 k2
      subst hv
      rw[k4]
      have:=fin (G.ρ hn).addr es (G.ρ hn).cap k5 (k7.imp id (fun ⟨b,off,esz,e1,_,H⟩=>⟨b,off,esz,e1,H⟩)) ao aw b2 (.inl rfl)
      simpa using this
     cases h
    cases h
   ·rename_i hn vv n
    split at h
    ·rename_i v' es hlk
     split at h
     ·rename_i hq
      subst hq
      simp only[zh,zx,zj,zf] at h
      obtain⟨⟨⟨b1,b2,b3⟩,hal⟩,rfl⟩:=h
      obtain⟨k1,k2,k4,k5,k7⟩:=S.look _ _ hlk
      simp only[qt] at hu
      have hv:=hu.2 k2
      subst hv
      rw[k4]
      exact fin (G.ρ hn).addr es (G.ρ hn).cap k5 (k7.imp id (fun ⟨b,off,esz,e1,_,H⟩=>⟨b,off,esz,e1,H⟩)) b1 b2 b3 (.inr hal)
     cases h
    cases h
   cases h
  cases h
 cases h
theorem maxQ2_sound {mx:Bool} {ds:List DV} {d:DV} {vs:List Value} {ts:Array TypeId} {ty:TypeId} (h:maxQ2 mx ds=some (true,d)) (hv:qz G (G.rd w) ds vs) :
  ∃ r,(if mx then Builtin.max_ ts ty vs.toArray else Builtin.min_ ts ty vs.toArray:Sem Value).run P w=.ok r w/\qt G (G.rd w) d r:=by
 unfold maxQ2 at h
 split at h
 ·rename_i k a k' b
  simp only[qz] at hv
  obtain⟨x,vs1,rfl,hx,y,vs2,rfl,hy,rfl⟩:=hv
  obtain⟨rfl,_⟩:=qx hx
  obtain⟨rfl,_⟩:=qx hy
  split at h
  ·rename_i hk;subst hk
   cases h
   cases mx
   ·exact⟨_,by simp[Builtin.min_,Builtin.min2],qG rfl⟩
   exact⟨_,by simp[Builtin.max_,Builtin.max2],qG rfl⟩
  cases h
 cases h
theorem funcQ_sound {fn:Fn} {first caps:List DV} {d:DV} {x y:List Value} (h:funcQ fn first caps=some (true,d)) (hx:qz G (G.rd w) first x)
  (hy:qz G (G.rd w) caps y):∃ r,(Instr.makeFunc fn x.toArray y.toArray).run P w=.ok r w/\qt G (G.rd w) d r:=by
 unfold funcQ at h
 split at h
 ·split at h
  ·rename_i a b ha hb
   cases h
   rw[allPV_eq ha] at hx
   rw[allPV_eq hb] at hy
   refine⟨_,rfl,?_⟩
   simp only[qt,qI]
   exact⟨_,_,rfl,by simpa using Zv.1 hx,by simpa using Zv.1 hy⟩
  cases h
  refine⟨_,rfl,?_⟩
  grind [qt]
 cases h
end
theorem isLit_oneCell {v:Value} (h:isLit v=true):v.oneCell'=true:=by cases v<;>first|rfl|(simp[isLit] at h)
theorem cellPV_sound {R:Rd} {v:Value} {p:PV} (h:cellPV v=some p):qI R p v/\v.oneCell'=true:=by
 unfold cellPV at h
 split at h
 ·cases h
  simp only[qI]
  exact⟨⟨none,0,rfl,zB _,Or.inl trivial⟩,rfl⟩
 split at h
 ·rename_i hl
  cases h
  simp only[qI]
  exact⟨⟨trivial,hl⟩,isLit_oneCell hl⟩
 cases h
theorem ZI {R:Rd}:∀ {vs:List Value} {ps:List PV},Z7 vs=some ps->qw R ps vs/\∀ x∈vs,x.oneCell'=true
 | [],ps,h=>by simp only[Z7,zh] at h;subst h;simp[qw]
 | v::vs,ps,h=>by
  simp only[Z7] at h
  cases h1:cellPV v with
  | none=>rw[h1] at h;cases h
  | some p=>
   cases h2:Z7 vs with
   | none=>rw[h1,h2] at h;cases h
   | some qs=>
    rw[h1,h2] at h
    cases h
    obtain⟨k1,k2⟩:=ZI (R:=R) h2
    obtain⟨q1,q2⟩:=cellPV_sound (R:=R) h1
    grind [qw]
theorem valPV_sound {R:Rd} {v:Value} {p:PV} (h:valPV v=some p):qI R p v:=by
 unfold valPV at h
 split at h
 ·rename_i cs
  cases hc:Z7 cs.toList with
  | none=>rw[hc] at h;cases h
  | some ps=>
   rw[hc] at h
   cases h
   obtain⟨h1,h2⟩:=ZI (R:=R) hc
   grind [qI]
 exact (cellPV_sound h).1
theorem cellDV_sound {G:Gh} {R:Rd} {v:Value}:qt G R (cellDV v) v:=by
 unfold cellDV
 split
 ·simp only[qt]
 split
 ·rename_i hl;exact qG hl
 simp only[qt]
theorem cellDVs_sound {G:Gh} {R:Rd}:∀ (vs:List Value),qz G R (vs.map cellDV) vs
 | []=>by simp[qz]
 | v::vs=>by
  simp only[zy,qz]
  exact⟨_,_,rfl,cellDV_sound,cellDVs_sound vs⟩
def plainCells (v:Value):Bool:=v.cells.toList.all (·.oneCell')
section
variable {P:Program} {Y:Tab} [qH P Y] {G:Gh} {w:World} {ρ:Operand->Value} {ev:Operand->DV} {look:Nat->Option MO}
theorem Zs {kd:TypeDesc} {kp:PV} (h:plainKey kd kp=true) :
  (kd=.string/\∃ s,kp=.lit (.string s))\/∃ k n,kd=.int k/\kp=.lit (.int k n):=by
 unfold plainKey at h
 grind
theorem plainKeys_find {R:Rd} {kd:TypeDesc} {kp:PV} {key:Value} (hk0:plainKey kd kp=true) (hkv:qI R kp key) :
  ∀ (es:List MapEntry) (ks vs:List PV) (i:Nat),plainKeys kd ks=true->qw R ks (es.map (·.key))->qw R vs (es.map (·.val))->
   ∃ r,Instr.findNow kd key es i=some r/\(match Zx kp ks vs,r with
    | some p,some (_,v)=>qI R p v
    | none,none=>True
    | _,_=>False)
 | [],ks,vs,i,_,hk,hv=>by
  cases ks with
  | nil=>exact⟨none,rfl,by simp[Zx]⟩
  | cons k ks=>simp[qw] at hk
 | e::es,ks,vs,i,hp,hk,hv=>by
  cases ks with
  | nil=>simp[qw] at hk
  | cons k ks=>
  cases vs with
  | nil=>simp[qw] at hv
  | cons p vs=>
  simp only[zy,qw] at hk hv
  obtain⟨ek,eks,e1,rk,hk⟩:=hk
  obtain⟨ev,evs,e2,rv,hv⟩:=hv
  simp only[Jz] at e1 e2
  obtain⟨rfl,rfl⟩:=e1
  obtain⟨rfl,rfl⟩:=e2
  simp only[plainKeys,Kh,zj] at hp
  obtain⟨hp1,hp⟩:=hp
  obtain⟨r,ih1,ih2⟩:=plainKeys_find hk0 hkv es ks vs (i+1) hp hk hv
  rcases Zs hk0 with ⟨rfl,s,rfl⟩|⟨kk,n,rfl,rfl⟩
  ·rcases Zs hp1 with ⟨_,s',rfl⟩|⟨_,_,e,_⟩
   ·simp only[qI] at rk hkv
    obtain⟨rk,_⟩:=rk
    obtain⟨rfl,_⟩:=hkv
    simp only[Instr.findNow,rk,Instr.sameNow,Zx]
    rw[beq_toListBytes]
    grind
   cases e
  rcases Zs hp1 with ⟨e,_⟩|⟨kk',n',e,rfl⟩
  ·cases e
  cases e
  simp only[qI] at rk hkv
  obtain⟨rk,_⟩:=rk
  obtain⟨rfl,_⟩:=hkv
  simp only[Instr.findNow,rk,Instr.sameNow,Zx,ql]
  grind
theorem checkKey_string {kt:TypeId} (h:Y.underlying kt=some .string) (n:Nat) (e:Bool) (v:Value):(Instr.checkKey e (n+1) kt v).run P w=.ok () w:=by simp only[Instr.checkKey,qp,qF h,qo];rfl
theorem checkKey_int {kt:TypeId} {k:IntKind} (h:Y.underlying kt=some (.int k)) (n:Nat) (e:Bool) (v:Value):(Instr.checkKey e (n+1) kt v).run P w=.ok () w:=by simp only[Instr.checkKey,qp,qF h,qo];rfl
theorem lookup_core {t kt et:TypeId} {kd:TypeDesc} {z kp:PV} {ks vs:List PV} {ok:Bool} {key:Value} {r clock:Nat} {es:Array MapEntry} (ht:Y.underlying t=some (.map kt et)) (hkt:Y.underlying kt=some kd)
  (hz:(Y.info? et).bind (fun i=>i.zero.bind valPV)=some z) (hpk:plainKey kd kp=true) (h1:plainKeys kd ks=true) (h2:ks.length=vs.length) (hk:qI (G.rd w) kp key)
  (hh:w.heap[r]? =some (.map es clock)) (hks:qw (G.rd w) ks (es.toList.map (·.key))) (hvs:qw (G.rd w) vs (es.toList.map (·.val))) :
  ∃ v,(Instr.lookup t (.map (some r)) key ok).run P w=.ok v w/\qt G (G.rd w) (if ok then .tup [.pv ((Zx kp ks vs).getD z),lit (.bool (Zx kp ks vs).isSome)] else .pv ((Zx kp ks vs).getD z)) v:=by
 obtain⟨fr,f1,f2⟩:=plainKeys_find hpk hk es.toList ks vs 0 h1 hks hvs
 have hck:(Instr.checkKey es.isEmpty 10000 kt key).run P w=.ok () w:=by
  rcases Zs hpk with ⟨rfl,s,rfl⟩|⟨kk,n,rfl,rfl⟩
  ·exact checkKey_string hkt 9999 es.isEmpty key
  exact checkKey_int hkt 9999 es.isEmpty key
 have hgo:(getObj r).run P w=.ok (.map es clock) w:=by simp[getObj,Sem.run,hh]
 have hfk:(Instr.findKey kt key es.toList).run P w=.ok fr w:=by simp only[Instr.findKey,qp,qF hkt,qo,f1,qq]
 obtain⟨i,hi,hzz⟩:=qg.1 hz
 obtain⟨zv,hzv,hzp⟩:=qg.1 hzz
 have hze:(zeroValue et).run P w=.ok zv w:=by simp[zeroValue,typeInfo,qH.inf P hi,hzv]
 have hzr:qI (G.rd w) z zv:=valPV_sound hzp
 simp only[Instr.lookup,qp,qF ht,qo,hgo,qq,hck,hfk]
 cases hf:Zx kp ks vs with
 | none=>
  rw[hf] at f2
  cases fr with
  | some x=>simp at f2
  | none=>
   simp only[qp,hze,qo,qq]
   cases ok
   ·grind [qt]
   refine⟨_,rfl,?_⟩
   simp only[ql,qt,qz,lit,Jo,XL,qI]
   exact⟨_,rfl,_,_,rfl,hzr,_,_,rfl,⟨rfl,rfl⟩,rfl⟩
 | some p=>
  rw[hf] at f2
  cases fr with
  | none=>simp at f2
  | some x=>
   obtain⟨j,v⟩:=x
   cases ok
   ·exact⟨_,rfl,by simpa [qt] using f2⟩
   refine⟨_,rfl,?_⟩
   simp only[ql,qt,qz,lit,zO,Option.isSome_some,qI]
   exact⟨_,rfl,_,_,rfl,f2,_,_,rfl,⟨rfl,rfl⟩,rfl⟩
theorem ZH (S:Sees G w ρ ev look) {t:TypeId} {a k d:DV} {ok:Bool} {u key:Value} (h:ZS Y t a k ok=some (true,d)) (hu:qt G (G.rd w) a u)
  (hk:qt G (G.rd w) k key):∃ r,(Instr.lookup t u key ok).run P w=.ok r w/\qt G (G.rd w) d r:=by
 unfold ZS at h
 split at h
 ·rename_i kt et ht
  split at h
  ·rename_i kd z ks vs kp hkt hz
   split at h
   ·rename_i hpk
    simp only[zh,zx,zj,Wv] at h
    obtain⟨⟨h1,h2⟩,rfl⟩:=h
    simp only[qt,qI] at hu
    simp only[qt] at hk
    obtain⟨r,es,rfl,hm,hks,hvs⟩:=hu
    have hm:=S.map _ _ hm
    unfold kL at hm
    split at hm
    ·rename_i es' clock hh
     cases hm
     exact lookup_core ht hkt hz hpk h1 h2 hk hh hks hvs
    cases hm
   cases h
  cases h
 cases h
end
section
variable {P:Program} {Y:Tab} [qH P Y] {G:Gh} {w:World} {ρ:Operand->Value} {ev:Operand->DV} {look:Nat->Option MO}
theorem ky {R:Rd} {d:DV} {k:Nat} {b:Bool} {u:Value} (h:nilKind d=some (k,b)) (hu:qt G R d u) :
  (k=0/\((b=true/\u=.pointer none)\/(b=false/\∃ a,u=.pointer (some a))))\/
  (k=1/\((b=true/\u=.map none)\/(b=false/\∃ a,u=.map (some a))))\/
  (k=2/\((b=true/\u=.nilFunc)\/(b=false/\∃ f x y,u=.func f x y))):=by
 unfold nilKind at h
 split at h<;>first|(cases h;done)|skip
 all_goals cases h
 ·exact .inl ⟨rfl,.inl ⟨rfl,(qx hu).1⟩⟩
 ·exact .inr (.inl ⟨rfl,.inl ⟨rfl,(qx hu).1⟩⟩)
 ·exact .inr (.inr ⟨rfl,.inl ⟨rfl,(qx hu).1⟩⟩)
 ·grind [qt]
 ·grind [qt,qI]
 ·grind [qt]
 ·grind [qt,qI]
 ·grind [qt,qI]
 grind [qt]
theorem equalIn_ptr {t e:TypeId} (h:Y.underlying t=some (.pointer e)) (n:Nat) (a b:Option Addr) (hab:a=none\/b=none) :
  (Op.equalIn (n+1) t (.pointer a) (.pointer b)).run P w=.ok (a.isNone&&b.isNone) w:=by
 rcases hab with rfl|rfl
 ·simp[Op.equalIn,qF h]
 cases a<;>simp[Op.equalIn,qF h]
theorem equalIn_map {t k e:TypeId} (h:Y.underlying t=some (.map k e)) (n:Nat) (a b:Option Nat) (hab:a=none\/b=none) :
  (Op.equalIn (n+1) t (.map a) (.map b)).run P w=.ok (a.isNone&&b.isNone) w:=by
 rcases hab with rfl|rfl
 ·simp[Op.equalIn,qF h]
 cases a<;>simp[Op.equalIn,qF h]
def isNilFunc:Value->Bool
 | .nilFunc=>true
 | _=>false
theorem equalIn_func {t:TypeId} {ps rs:Array TypeId} {v:Bool} (h:Y.underlying t=some (.func ps rs v)) (n:Nat) (x y:Value)
  (hx:x=.nilFunc\/∃ f a b,x=.func f a b) (hy:y=.nilFunc\/∃ f a b,y=.func f a b) (hxy:x=.nilFunc\/y=.nilFunc) :
  (Op.equalIn (n+1) t x y).run P w=.ok (isNilFunc x&&isNilFunc y) w:=by
 rcases hx with rfl|⟨f,a,b,rfl⟩<;>rcases hy with rfl|⟨f',a',b',rfl⟩
 ·simp[Op.equalIn,qF h,isNilFunc]
 ·simp[Op.equalIn,qF h,isNilFunc]
 ·simp[Op.equalIn,qF h,isNilFunc]
 grind
theorem nilQ_sound {op:BinOp} {t:TypeId} {x y:Operand} {a b:DV} {u v:Value} {d:DV} {R:Rd} (h:nilQ Y op t a b=some (true,d))
  (hu:qt G R a u) (hv:qt G R b v) :
  ∃ r,(do eqGuard op t x y u v;binOp op t u v:Sem Value).run P w=.ok r w/\qt G R d r:=by
 unfold nilQ at h
 split at h
 ·rename_i k n1 k' n2 kk h1 h2 h3
  split at h
  ·rename_i hq
   obtain⟨rfl,rfl,hor⟩:=hq
   obtain⟨dd,hd,hdk⟩:=qg.1 h3
   have key:(Op.equal t u v).run P w=.ok (n1&&n2) w/\eqGuard op t x y u v=pure ()/\
     (∀ o,o=BinOp.eql->binOp o t u v=do pure (.bool (<-Op.equal t u v)))/\(∀ o,o=BinOp.neq->binOp o t u v=do pure (.bool (!(<-Op.equal t u v)))):=by
    unfold descKind at hdk
    split at hdk<;>cases hdk
    ·rcases ky h1 hu with ⟨_,hU⟩|⟨e,_⟩|⟨e,_⟩<;>first|(cases e;done)|skip
     rcases ky h2 hv with ⟨_,hV⟩|⟨e,_⟩|⟨e,_⟩<;>first|(cases e;done)|skip
     rcases hU with ⟨rfl,rfl⟩|⟨rfl,pa,rfl⟩<;>rcases hV with ⟨rfl,rfl⟩|⟨rfl,pb,rfl⟩
     ·exact⟨equalIn_ptr hd 9999 _ _ ao,eqGuard_at_pointer ..,fun _ e=>by subst e;rfl,fun _ e=>by subst e;rfl⟩
     ·exact⟨equalIn_ptr hd 9999 _ _ ao,eqGuard_at_pointer ..,fun _ e=>by subst e;rfl,fun _ e=>by subst e;rfl⟩
     ·exact⟨equalIn_ptr hd 9999 _ _ ao,eqGuard_at_pointer ..,fun _ e=>by subst e;rfl,fun _ e=>by subst e;rfl⟩
     simp at hor
    ·rcases ky h1 hu with ⟨e,_⟩|⟨_,hU⟩|⟨e,_⟩<;>first|(cases e;done)|skip
     rcases ky h2 hv with ⟨e,_⟩|⟨_,hV⟩|⟨e,_⟩<;>first|(cases e;done)|skip
     rcases hU with ⟨rfl,rfl⟩|⟨rfl,pa,rfl⟩<;>rcases hV with ⟨rfl,rfl⟩|⟨rfl,pb,rfl⟩
     ·exact⟨equalIn_map hd 9999 _ _ ao,eqGuard_at_map ..,fun _ e=>by subst e;rfl,fun _ e=>by subst e;rfl⟩
     ·exact⟨equalIn_map hd 9999 _ _ ao,eqGuard_at_map ..,fun _ e=>by subst e;rfl,fun _ e=>by subst e;rfl⟩
     ·exact⟨equalIn_map hd 9999 _ _ ao,eqGuard_at_map ..,fun _ e=>by subst e;rfl,fun _ e=>by subst e;rfl⟩
     simp at hor
    rcases ky h1 hu with ⟨e,_⟩|⟨e,_⟩|⟨_,hU⟩<;>first|(cases e;done)|skip
    rcases ky h2 hv with ⟨e,_⟩|⟨e,_⟩|⟨_,hV⟩<;>first|(cases e;done)|skip
    rcases hU with ⟨rfl,rfl⟩|⟨rfl,f1,x1,y1,rfl⟩<;>rcases hV with ⟨rfl,rfl⟩|⟨rfl,f2,x2,y2,rfl⟩
    ·exact⟨equalIn_func hd 9999 _ _ ao ao ao,eqGuard_at_nilFunc ..,fun _ e=>by subst e;rfl,fun _ e=>by subst e;rfl⟩
    ·exact⟨equalIn_func hd 9999 _ _ ao ao ao,eqGuard_at_nilFunc ..,fun _ e=>by subst e;rfl,fun _ e=>by subst e;rfl⟩
    ·exact⟨equalIn_func hd 9999 _ _ ao ao ao,eqGuard_at_func ..,fun _ e=>by subst e;rfl,fun _ e=>by subst e;rfl⟩
    simp at hor
   obtain⟨k1,k2,k3,k4⟩:=key
   split at h
   ·cases h
    refine⟨.bool (n1&&n2),?_,qG rfl⟩
    grind [Sem.run_bind,Sem.run_pure,Result.andThen_ok]
   ·cases h
    refine⟨.bool (!(n1&&n2)),?_,qG rfl⟩
    grind [Sem.run_bind,Sem.run_pure,Result.andThen_ok]
   cases h
  cases h
 cases h
theorem Zi (S:Sees G w ρ ev look):∀ (xs:List Operand),qz G (G.rd w) (xs.map ev) (xs.map ρ)
 | []=>by simp[qz]
 | x::xs=>by
  simp only[zy,qz]
  exact⟨_,_,rfl,S.ev x,Zi S xs⟩
theorem ORel_map (S:Sees G w ρ ev look) (o:Option Operand):ORel G (G.rd w) (o.map ev) (o.map ρ):=by
 cases o with
 | none=>exact trivial
 | some x=>exact S.ev x
theorem gdBool_sound {R:Rd} {d:DV} {s x:Bool} {v:Value} (h:gdBool d=some (s,x)) (hs:s=true) (hv:qt G R d v):v=.bool x:=by
 unfold gdBool at h
 split at h
 ·cases h;exact (qx hv).1
 ·obtain⟨rfl,rfl⟩:=Wl (JO h)
  simp only[qt] at hv
  exact (qx (G:=G) (R:=R) (by simpa only[qt] using hv.1 hs)).1
 cases h
theorem qv_sound (S:Sees G w ρ ev look) {o:Oper} {d:DV} (h:qv Y o.op ev look=some (true,d)) :
  ∃ r,(execOp ρ o).run P w=.ok (.value r) w/\qt G (G.rd w) d r:=by
 have lift:∀ {s:Sem Value},(∃ r,s.run P w=.ok r w/\qt G (G.rd w) d r)->∃ r,(do pure (Next.value (<-s)):Sem Next).run P w=.ok (.value r) w/\qt G (G.rd w) d r:=by
  grind [Sem.run_bind,Result.andThen_ok,Sem.run_pure]
 obtain⟨dst,op,ty,pos,after,guard⟩:=o
 simp only at h ⊢
 cases op<;>simp only[qv] at h<;>try (cases h;done)
 case move x=>
  split at h
  ·cases h
  cases h
  exact⟨_,rfl,S.ev x⟩
 case assign x=>
  split at h
  ·cases h
  cases h
  exact⟨_,rfl,S.ev x⟩
 case pick c a b=>
  split at h
  ·rename_i β hc
   have hcv:=S.ev c
   rw[hc] at hcv
   obtain⟨ec,_⟩:=qx hcv
   split at h
   ·rename_i s x t y ha hb
    obtain⟨h1,rfl⟩:=Wl (JO h)
    refine⟨.bool (bif β then x else y),?_,qG rfl⟩
    cases β
    ·have eb:=gdBool_sound hb h1 (S.ev b)
     simp only[execOp,ec,eb,asBool,qp,qq,qo]
     rfl
    have ea:=gdBool_sound ha h1 (S.ev a)
    simp only[execOp,ec,ea,asBool,qp,qq,qo]
    rfl
   cases h
  cases h
 case load t a=>exact lift (Z8 S h (S.ev a))
 case nilCheck x=>
  have hx:=S.ev x
  split at h
  ·rename_i hh c he
   cases h
   rw[he] at hx
   have hx':=hx
   simp only[qt] at hx
   obtain⟨_,b,_,e⟩:=hx
   exact⟨ρ x,by simp only[execOp];rw[e];rfl,hx'⟩
  ·rename_i hh vv i c he
   split at h
   ·rename_i hl
    cases h
    obtain⟨esz,T,es,_,hv⟩:=liveArr_eq S hl
    rw[he] at hx
    have hx':=hx
    simp only[qt] at hx
    obtain⟨b,off,_,e⟩:=hx.2 hv
    exact⟨ρ x,by simp only[execOp];rw[e];rfl,hx'⟩
   cases h
  ·rename_i cs he
   cases h
   rw[he] at hx
   have hx':=hx
   simp only[qt,qI] at hx
   obtain⟨b,off,e,_⟩:=hx
   exact⟨ρ x,by simp only[execOp];rw[e];rfl,hx'⟩
  cases h
 case binOp op t x y yt=>
  split at h
  ·rename_i r hr
   rw[h] at hr
   exact lift (nilQ_sound hr (S.ev x) (S.ev y))
  exact lift (binQ_sound h (S.ev x) (S.ev y))
 case unOp op t x=>exact lift (unQ_sound h (S.ev x))
 case convert s t x=>exact lift (convQ_sound h (S.ev x))
 case makeFunc fn first caps=>
  refine lift ?_
  obtain⟨r,h1,h2⟩:=funcQ_sound (P:=P) (w:=w) h (Zi S first.toList) (Zi S caps.toList)
  refine⟨r,?_,h2⟩
  rw[<-h1]
  congr 2<;>(apply Array.ext';simp)
 case slice t x lo hi mx=>exact lift (sliceQ_sound S h (S.ev x) (ORel_map S lo) (ORel_map S hi) (ORel_map S mx))
 case fieldAddr s x f=>exact lift (fieldAddrQ_sound S h (S.ev x))
 case field s x f=>exact lift (fieldQ_sound h (S.ev x))
 case indexAddr t x i=>exact lift (Zz S h (S.ev x) (S.ev i))
 case index t x i=>exact lift (indexQ_sound h (S.ev x) (S.ev i))
 case lookup t x k ok=>exact lift (ZH S h (S.ev x) (S.ev k))
 case extract x i=>
  refine lift ?_
  have hx:=S.ev x
  split at h
  ·rename_i ds he
   rw[he] at hx
   split at h
   ·rename_i d' hd
    cases h
    simp only[qt] at hx
    obtain⟨vs,e,H⟩:=hx
    obtain⟨hi,hd⟩:=QD.1 hd
    obtain⟨v,e1,e2⟩:=H.get i hi
    rw[hd] at e2
    refine⟨v,?_,e2⟩
    rw[e]
    simp only[Instr.extract]
    rw[show vs[i]? =some v by simpa using e1]
    rfl
   cases h
  cases h
 case call c=>
  obtain⟨callee,args,argTypes⟩:=c
  obtain⟨args⟩:=args
  obtain⟨argTypes⟩:=argTypes
  simp only at h
  split at h
  ·rename_i x t
   obtain⟨r,h1,h2⟩:=lenQ_sound (P:=P) (ty:=ty) S h (S.ev _)
   refine⟨r,?_,h2⟩
   simp only[execOp,resolve,qp,qq,qo,invoke,builtin,Je,zy,zX]
   rw[h1];rfl
  ·obtain⟨r,h1,h2⟩:=maxQ2_sound (P:=P) (w:=w) (ts:=⟨argTypes⟩) (ty:=ty) h (Zi S args)
   refine⟨r,?_,h2⟩
   simp only[ql] at h1
   simp only[execOp,resolve,qp,qq,qo,invoke,builtin,Je]
   rw[h1];rfl
  ·obtain⟨r,h1,h2⟩:=maxQ2_sound (P:=P) (w:=w) (ts:=⟨argTypes⟩) (ty:=ty) h (Zi S args)
   refine⟨r,?_,h2⟩
   simp only[qk,qm] at h1
   simp only[execOp,resolve,qp,qq,qo,invoke,builtin,Je]
   rw[h1];rfl
  cases h
end
end Go.Lens
end
section
namespace Go.Lens
variable [Lz]
structure Out where
 side:Bool
 val:DV
 ms:Na
mutual
def pvOf (look:Nat->Option MO):DV->Option PV
 | .pv p=>some p
 | .nils=>some (.slice [])
 | .aref h v=>match look h with
  | some (.farr v' es)=>if v=v' then some (.slice es) else none
  | _=>none
 | .atrunc h v k=>match look h with
  | some (.farr v' es)=>if v=v' then some (.slice (es.take k)) else none
  | _=>none
 | .bref h c=>match look h with
  | some (.fbox cs)=>some (.box (cs.drop c))
  | _=>none
 | .mref h=>match look h with
  | some (.fmap ks vs)=>some (.map ks vs)
  | _=>none
 | .agg ds=>(pvOfL look ds).map .agg
 | .clos f a b=>match pvOfL look a,pvOfL look b with
  | some x,some y=>some (.fn f x y)
  | _,_=>none
 | _=>none
def pvOfL (look:Nat->Option MO):List DV->Option (List PV)
 | []=>some []
 | d::ds=>match pvOf look d,pvOfL look ds with
  | some p,some ps=>some (p::ps)
  | _,_=>none
end
def conts (look:Nat->Option MO):DV->Option (List (List PV))
 | .pv (.slice es)=>some es
 | .nils=>some []
 | .aref h v=>match look h with
  | some (.arr v' _ _ es)|some (.farr v' es)=>if v=v' then some es else none
  | _=>none
 | .atrunc h v k=>match look h with
  | some (.arr v' _ _ es)|some (.farr v' es)=>if v=v' then some (es.take k) else none
  | _=>none
 | _=>none
def kC:DV->List DV
 | .pv (.agg cs)=>cs.map .pv
 | .agg ds=>ds
 | d=>[d]
def Z9:PV->List PV
 | .agg cs=>cs
 | p=>[p]
structure Stepped (G:Gh) (w:World) (look:Nat->Option MO) (val:DV) (ms:Na) (G':Gh) (w':World) (r:Value):Prop where
 later:Later G w G' w'
 hval:qt G' (G'.rd w') val r
 hms:∀ h o,(h,o)∈ms->qW G' w' h o
 keeps:∀ h o,look h=some o->G.keeps G' h
 old:∀ h,h∉ms.map (·.1)->G'.ρ h=G.ρ h/\∀ b,G.γ b=some h->G'.γ b=some h/\w'.heap[b]? =w.heap[b]?
 fresh:∀ b h,G'.γ b=some h->b<w'.heap.size
 own:∀ b h,G'.γ b=some h->h∈ms.map (·.1)\/G.γ b=some h
 refs:∀ h∈val.refs,h∈ms.map (·.1)\/∃ o,look h=some o
 refsM:∀ k o,(k,o)∈ms->∀ h∈o.refs,h∈ms.map (·.1)\/∃ o',look h=some o'
 newb:∀ b h,G'.γ b=some h->G.γ b=some h\/w.heap.size<=b
 r0:∀ b o v,b<G.base->G'.R0.cell b o=some v->G.R0.cell b o=some v\/(G'.γ b=none/\w'.cell? ⟨b,o,none⟩=some v)
 r0m:∀ r es,r<G.base->G'.R0.map r=some es->G.R0.map r=some es\/(G'.γ r=none/\kL w' r=some es)
def Vw.setT (σ:Vw) (s:Option Nat) (d:DV):Vw:=⟨fun t=>if some t=s then d else σ.get t,σ.look⟩
def jw:Na->Nat->Option MO
 | [],_=>none
 | (k,o)::l,h=>if k=h then some o else jw l h
def Vw.setMs (σ:Vw) (ms:Na):Vw:=⟨σ.get,fun h=>match jw ms h with|some o=>some o|none=>σ.look h⟩
theorem ke:∀ {ms:Na} {h:Nat} {o:MO},jw ms h=some o->(h,o)∈ms
 | [],_,_,e=>by cases e
 | (k,o')::l,h,o,e=>by
  simp only[jw] at e
  split at e
  ·grind
  simp[ke e]
theorem assocM_some:∀ {ms:Na} {h:Nat},h∈ms.map (·.1)->∃ o,jw ms h=some o
 | [],_,e=>by simp at e
 | (k,o')::l,h,e=>by
  simp only[jw]
  split
  ·exact⟨_,rfl⟩
  rename_i hk
  exact assocM_some (by simp at e ⊢;rcases e with e|e;exact absurd e.symm hk;exact e)
theorem assocM_none {ms:Na} {h:Nat} (e:jw ms h=none):h∉ms.map (·.1):=by
 intro hm
 obtain⟨o,ho⟩:=assocM_some hm
 rw[ho] at e;cases e
theorem Act.put_getD (a:Act) (d:Option Tmp) (v:Value) (t:Nat):(a.put d v).tmps.getD t undef=if d=some t/\t<a.tmps.size then v else a.tmps.getD t undef:=by
 cases d with
 | none=>simp[Act.put]
 | some s=>
  simp only[Act.put,zC,Qm]
  grind
theorem Act.Zn (a:Act) (d:Option Tmp) (v:Value):(a.put d v).tmps.size=a.tmps.size:=by
 cases d<;>simp[Act.put]
theorem Inv.out {G G':Gh} {σ:Vw} {a:Act} {w w':World} {val:DV} {ms:Na} {r:Value} (I:Inv G σ a w)
  (S:Stepped G w σ.look val ms G' w' r) (dst:Option Tmp) (hd:∀ d,dst=some d->d<a.tmps.size) :
  Inv G' ((σ.setMs ms).setT dst val) (a.put dst r) w':=by
 have lk:∀ h,(∃ o,σ.look h=some o)->∃ o,((σ.setMs ms).setT dst val).look h=some o:=by
  grind [Vw.setT,Vw.setMs]
 have lk2:∀ h,(h∈ms.map (·.1)\/∃ o,σ.look h=some o)->∃ o,((σ.setMs ms).setT dst val).look h=some o:=by
  rintro h (hm|⟨o,ho⟩)
  ·obtain⟨o,ho⟩:=assocM_some hm
   exact⟨o,by simp only[Vw.setT,Vw.setMs,ho]⟩
  exact lk h ⟨o,ho⟩
 refine I.step S.later (fun s=>?_) (fun s hs=>?_) (fun h o ho=>?_) (fun h o ho=>?_) S.fresh (fun b h hb=>?_) (fun s h hh=>?_) (fun k o h hk hh=>?_) S.r0 S.r0m
 ·simp only[Vw.setT,Vw.setMs,Act.put_getD]
  by_cases e:dst=some s
  ·subst e
   have:=hd s rfl
   right
   simpa [this] using S.hval
  grind
 ·rw[Act.Zn] at hs
  simp only[Vw.setT,Vw.setMs]
  have e':¬some s=dst:=fun h=>by
   grind
  simp only[e',qm]
  exact I.size s hs
 ·simp only[Vw.setT,Vw.setMs] at ho
  cases hm:jw ms h with
  | some o'=>
   rw[hm] at ho
   cases ho
   exact .inr (S.hms h _ (ke hm))
  | none=>
   rw[hm] at ho
   obtain⟨h1,h2⟩:=S.old h (assocM_none hm)
   exact .inl ⟨ho,h1,h2⟩
 ·by_cases hm:h∈ms.map (·.1)
  ·exact S.keeps h o ho
  exact .inl (S.old h hm).1
 ·rcases S.own b h hb with hm|hg
  ·exact lk2 h (.inl hm)
  exact lk h (I.own b h hg)
 ·simp only[Vw.setT,Vw.setMs] at hh
  split at hh
  ·exact lk2 h (S.refs h hh)
  exact lk h (I.refsT s h hh)
 simp only[Vw.setT,Vw.setMs] at hk
 cases hm:jw ms k with
 | some o'=>
  rw[hm] at hk
  cases hk
  exact lk2 h (S.refsM k _ (ke hm) h hh)
 | none=>
  rw[hm] at hk
  exact lk h (I.refsM k o h hk hh)
def Gh.new (G:Gh) (d:Nat) (B:Base) (b:Nat):Gh:={ G with ρ:=fun h=>if h=d then B else G.ρ h,γ:=fun x=>if x=b then some d else G.γ x }
section
variable {P:Program} {Y:Tab} [qH P Y] {G:Gh} {w:World} {ρ:Operand->Value} {ev:Operand->DV} {look:Nat->Option MO}
theorem later_new (d:Nat) (B:Base) (o:Obj):Later G w (G.new d B w.heap.size) (w.alloc o):=by
 refine Later.of Z Z Z Z Z ao fun b hb hg=>⟨heap_alloc_old w o b hb,?_⟩
 grind [Gh.new]
theorem j2 (hfresh:∀ b h,G.γ b=some h->b<w.heap.size) {d:Nat} (hd:look d=none) {B:Base} {o:Obj} {m:MO} {val:DV} {r:Value}
  (hval:qt (G.new d B w.heap.size) ((G.new d B w.heap.size).rd (w.alloc o)) val r) (hm:qW (G.new d B w.heap.size) (w.alloc o) d m)
  (hrv:∀ h∈val.refs,h=d\/∃ o,look h=some o) (hrm:∀ h∈m.refs,h=d\/∃ o,look h=some o) :
  Stepped G w look val [(d,m)] (G.new d B w.heap.size) (w.alloc o) r:=by
 refine⟨later_new d B o,hval,fun h o' hm'=>?_,fun h o' ho=>?_,fun h hh=>⟨?_,fun b hb=>⟨?_,?_⟩⟩,fun b h hb=>?_,fun b h hb=>?_,fun h hh=>?_,fun k o' hk h hh=>?_,fun b h hb=>?_,fun _ _ _ _ h=>.inl h,fun _ _ _ h=>.inl h⟩
 ·grind
 ·have:h≠d:=fun e=>by subst e;rw[hd] at ho;cases ho
  exact .inl (by simp only[Gh.new,this,qm])
 ·simp only[zy,zX,zg] at hh
  simp only[Gh.new,hh,qm]
 ·grind [Gh.new]
 ·exact heap_alloc_old w o b (hfresh b h hb)
 ·simp only[Gh.new] at hb
  split at hb
  ·simp;omega
  have:=hfresh b h hb
  simp;omega
 ·grind [Gh.new]
 ·simpa using hrv h hh
 ·grind
 grind [Gh.new]
end
end Go.Lens
end
section
namespace Go.Lens
variable [Lz]
def Src (ev:Operand->DV) (look:Nat->Option MO) (h:Nat):Prop:=(∃ x,h∈(ev x).refs)\/∃ k o,look k=some o/\h∈o.refs
structure Ctx (G:Gh) (w:World) (ρ:Operand->Value) (ev:Operand->DV) (look fl:Nat->Option MO):Prop where
 sees:Sees G w ρ ev look
 cfl:∀ h o,look h=some o->fl h=some o
 csrc:∀ h,Src ev look h->∃ o,fl h=some o
 cfresh:∀ b h,G.γ b=some h->b<w.heap.size
theorem keeps_new {G:Gh} {d:Nat} {B:Base} {b h:Nat} (hd:h≠d):G.keeps (G.new d B b) h:=.inl (by simp only[Gh.new,hd,qm])
theorem jz:∀ {ds:List DV} {h:Nat},h∈DV.qL ds↔∃ d∈ds,h∈d.refs
 | [],h=>by simp[DV.qL]
 | d::ds,h=>by simp[DV.qL,jz]
theorem refsL_pv (ps:List PV):DV.qL (ps.map .pv)=[]:=by
 induction ps with
 | nil=>rfl
 | cons p ps ih=>simp[DV.qL,DV.refs,ih]
theorem refs_mkAgg {ds:List DV} {h:Nat} (hh:h∈(mkAgg ds).refs):h∈DV.qL ds:=by grind [mkAgg,DV.refs]
theorem refs_cellsDV {d:DV}:∀ h,h∈DV.qL (kC d)->h∈d.refs:=by
 intro h hh
 unfold kC at hh
 grind [refsL_pv,DV.refs,DV.qL]
theorem ZR (v:Value):(cellDV v).refs=[]:=by
 unfold cellDV
 split
 ·rfl
 split<;>rfl
theorem refsL_cellDV (vs:List Value):DV.qL (vs.map cellDV)=[]:=by
 induction vs with
 | nil=>rfl
 | cons v vs ih=>simp[DV.qL,ZR,ih]
theorem ZC {G:Gh} {R:Rd} {d:DV} {v:Value} (h:qt G R d v) (hn:∀ cs,d≠.pv (.agg cs)) (hn2:∀ ds,d≠.agg ds) (hn3:∀ ds,d≠.tup ds) (hn4:d≠.dead) (hn5:∀ c e,d≠.gd c e)
  (ha:∀ h k,d=.aref h k->(G.ρ h).ver=k) (ht:∀ h k n,d=.atrunc h k n->(G.ρ h).ver=k) (he:∀ h k i c,d=.eref h k i c->(G.ρ h).ver=k) (hw:∀ h k o n,d=.awin h k o n->(G.ρ h).ver=k):v.oneCell'=true/\v.cells= #[v]:=by
 cases d<;>simp only[qt] at h
 case dead=>exact absurd Z hn4
 case nils=>subst h;exact⟨rfl,rfl⟩
 case gd c e=>exact absurd Z (hn5 _ _)
 case pv p=>
  cases p<;>simp only[qI] at h
  case lit u=>obtain⟨rfl,h⟩:=h;exact⟨isLit_oneCell h,by cases v<;>first|rfl|simp[isLit] at h⟩
  case slice es=>obtain⟨_,_,rfl,_⟩:=h;exact⟨rfl,rfl⟩
  case agg cs=>exact absurd Z (hn _)
  case box cs=>obtain⟨_,_,rfl,_⟩:=h;exact⟨rfl,rfl⟩
  case fn f a b=>obtain⟨_,_,rfl,_⟩:=h;exact⟨rfl,rfl⟩
  case iface t p=>obtain⟨_,rfl,_⟩:=h;exact⟨rfl,rfl⟩
  case map ks vs=>obtain⟨_,_,rfl,_⟩:=h;exact⟨rfl,rfl⟩
  case any=>exact⟨h,by cases v<;>first|rfl|cases h⟩
 case bref hh c=>obtain⟨_,b,_,rfl⟩:=h;exact⟨rfl,rfl⟩
 case aref hh k=>rw[h.2 (ha _ _ rfl)];exact⟨rfl,rfl⟩
 case atrunc hh k n=>rw[(h.2 (ht _ _ _ rfl)).2];exact⟨rfl,rfl⟩
 case eref hh k i c=>obtain⟨_,_,_,e⟩:=h.2 (he _ _ _ _ rfl);rw[e];exact⟨rfl,rfl⟩
 case awin hh k o n=>obtain⟨_,_,_,_,e⟩:=h.2 (hw _ _ _ _ rfl);rw[e];exact⟨rfl,rfl⟩
 case mref hh=>rw[h.2];exact⟨rfl,rfl⟩
 case agg ds=>exact absurd Z (hn2 _)
 case tup ds=>exact absurd Z (hn3 _)
 case clos f a b=>obtain⟨_,_,rfl,_⟩:=h;exact⟨rfl,rfl⟩
 case yld hh ps asg bd ds=>rw[h.2.1];exact⟨rfl,rfl⟩
def Zg (look:Nat->Option MO):DV->Bool
 | .dead| .gd _ _| .tup _| .atrunc _ _ _| .eref _ _ _ _| .awin _ _ _ _=>false
 | .aref h v=>match look h with
  | some (.arr v' _ _ _)|some (.farr v' _)=>v==v'
  | _=>false
 | _=>true
section
variable {P:Program} {Y:Tab} [qH P Y] {G:Gh} {w:World} {ρ:Operand->Value} {ev:Operand->DV} {look fl:Nat->Option MO}
theorem cellsDV_sound (hl:∀ h m,look h=some m->qW G w h m) {d:DV} {v:Value} (h:qt G (G.rd w) d v) (hok:Zg look d=true) :
  qz G (G.rd w) (kC d) v.cells.toList/\(∀ x∈v.cells.toList,x.oneCell'=true):=by
 have one:v.oneCell'=true/\v.cells= #[v]->kC d=[d]->qz G (G.rd w) (kC d) v.cells.toList/\(∀ x∈v.cells.toList,x.oneCell'=true):=by grind [qz]
 cases d
 case pv p=>
  cases p
  case agg cs=>
   simp only[qt,qI] at h
   obtain⟨vs,rfl,ho,H⟩:=h
   exact⟨by simpa [kC,Value.cells] using Zv.2 H,by simpa [Value.cells] using ho⟩
  all_goals exact one (ZC h ao ao ao ao ao ao ao ao ao) rfl
 case agg ds=>
  grind [qt,kC,Value.cells]
 case aref hh k=>
  refine one (ZC h ao ao ao ao ao ?_ ao ao ao) rfl
  intro h' k' e
  cases e
  simp only[Zg] at hok
  split at hok
  ·rename_i v' _ _ _ he
   simp only[Wv] at hok
   subst hok
   exact (hl _ _ he).2.1
  ·rename_i v' _ he
   simp only[Wv] at hok
   subst hok
   exact (hl _ _ he).2.1
  cases hok
 case dead=>simp[Zg] at hok
 case gd c e=>simp[Zg] at hok
 case tup ds=>simp[Zg] at hok
 case atrunc a b c=>simp[Zg] at hok
 case eref a b c d=>simp[Zg] at hok
 case awin a b c d=>simp[Zg] at hok
 all_goals exact one (ZC h ao ao ao ao ao ao ao ao ao) rfl
theorem run_alloc {T:TypeId} {i:TypeInfo} {z:Value} (hi:Y.info? T=some i) (hz:i.zero=some z) :
  (Instr.alloc T true (.tuple #[])).run P w=.ok (.pointer (some ⟨w.heap.size,0,none⟩)) (w.alloc (.cells z.cells T)):=by
 simp[Instr.alloc,zeroValue,typeInfo,qH.inf P hi,hz,newVar,newRow]
def allocV (Y:Tab) (d:Nat) (T:TypeId) (fl:Nat->Option MO):Option Out:=
 match Y.info? T with
 | some i=>match i.zero with
  | some z=>if (fl d).isNone then some ⟨plainCells z,.bref d 0,[(d,.box T (z.cells.toList.map cellDV))]⟩ else none
  | none=>none
 | none=>none
theorem allocV_sound (C:Ctx G w ρ ev look fl) {d:Nat} {T:TypeId} {out:Out} (h:allocV Y d T fl=some out) (hs:out.side=true) :
  ∃ r w' G',(Instr.alloc T true (.tuple #[])).run P w=.ok r w'/\Stepped G w fl out.val out.ms G' w' r:=by
 unfold allocV at h
 split at h
 ·rename_i i hi
  split at h
  ·rename_i z hz
   split at h
   ·rename_i hd
    cases h
    simp only at hs
    refine⟨_,_,_,run_alloc hi hz,j2 (B:={ addr:=some ⟨w.heap.size,0,none⟩ }) C.cfresh (by simpa using hd) ?_ ?_ ak ?_⟩
    ·simp only[qt,Gh.new,ql]
     exact⟨trivial,w.heap.size,rfl,rfl⟩
    ·simp only[qW]
     refine⟨by simp[Gh.new],w.heap.size,z.cells,by simp[Gh.new],by simp[Gh.new],heap_alloc_new w _,?_,cellDVs_sound _⟩
     simpa only[plainCells,zr] using hs
    grind [MO.refs,refsL_cellDV]
   cases h
  cases h
 cases h
end
end Go.Lens
end
section
namespace Go.Lens
variable [Lz]
section
variable {P:Program} {Y:Tab} [qH P Y] {G:Gh} {w:World} {ρ:Operand->Value} {ev:Operand->DV} {look fl:Nat->Option MO}
mutual
theorem jC (hl:∀ h m,look h=some m->qW G w h m):∀ {d:DV} {p:PV} {v:Value},pvOf look d=some p->qt G (G.rd w) d v->qI (G.rd w) p v
 | .pv p,q,v,h,hv=>by simp only[pvOf,zh] at h;subst h;simpa only[qt] using hv
 | .nils,q,v,h,hv=>by
  grind [pvOf,Option.some.injEq,qt,qI]
 | .aref hh k,q,v,h,hv=>by
  simp only[pvOf] at h
  split at h
  ·rename_i v' es he
   split at h
   ·rename_i hq
    subst hq
    cases h
    obtain⟨k1,k2,k4,k5,k7⟩:=hl _ _ he
    grind [qt,hv.2,qI]
   cases h
  cases h
 | .atrunc hh k n,q,v,h,hv=>by
  simp only[pvOf] at h
  split at h
  ·rename_i v' es he
   split at h
   ·rename_i hq
    subst hq
    cases h
    obtain⟨k1,k2,k4,k5,k7⟩:=hl _ _ he
    simp only[qt] at hv
    obtain⟨h1,rfl⟩:=hv.2 k2
    rw[k4] at h1
    simp only[qI]
    refine⟨_,(G.ρ hh).cap,by rw[zn,JK h1],by rw[zn];omega,?_⟩
    rcases k7 with rfl|⟨b,off,esz,e1,_,H⟩
    ·left;simp
    right;exact⟨b,off,esz,e1,H.take _⟩
   cases h
  cases h
 | .bref hh c,q,v,h,hv=>by
  simp only[pvOf] at h
  split at h
  ·rename_i cs he
   cases h
   obtain⟨k1,b,e1,H⟩:=hl _ _ he
   simp only[qt] at hv
   obtain⟨_,b',e2,rfl⟩:=hv
   rw[e1] at e2
   simp only[zh,Addr.mk.injEq,WC] at e2
   subst e2
   simp only[qI]
   refine⟨b,c,rfl,?_⟩
   have:=H.drop c
   rwa [KT] at this
  cases h
 | .mref hh,q,v,h,hv=>by
  simp only[pvOf] at h
  split at h
  ·rename_i ks vs he
   cases h
   obtain⟨k1,es,e1,e2,e3⟩:=hl _ _ he
   grind [qt,qI]
  cases h
 | .agg ds,q,v,h,hv=>by
  simp only[pvOf] at h
  cases hp:pvOfL look ds with
  | none=>rw[hp] at h;cases h
  | some ps=>
   rw[hp] at h
   cases h
   simp only[qt] at hv
   obtain⟨vs,rfl,ho,H⟩:=hv
   simp only[qI]
   exact⟨vs,rfl,ho,ZQ hl hp H⟩
 | .clos f a b,q,v,h,hv=>by
  simp only[pvOf] at h
  cases hp:pvOfL look a with
  | none=>rw[hp] at h;cases h
  | some x=>
   cases hp2:pvOfL look b with
   | none=>rw[hp,hp2] at h;cases h
   | some y=>
    rw[hp,hp2] at h
    cases h
    simp only[qt] at hv
    obtain⟨vx,vy,rfl,H1,H2⟩:=hv
    simp only[qI]
    exact⟨vx,vy,rfl,ZQ hl hp H1,ZQ hl hp2 H2⟩
 | .dead,_,_,h,_=>by simp[pvOf] at h
 | .gd _ _,_,_,h,_=>by simp[pvOf] at h
 | .eref _ _ _ _,_,_,h,_=>by simp[pvOf] at h
 | .tup _,_,_,h,_=>by simp[pvOf] at h
theorem ZQ (hl:∀ h m,look h=some m->qW G w h m):∀ {ds:List DV} {ps:List PV} {vs:List Value},pvOfL look ds=some ps->qz G (G.rd w) ds vs->qw (G.rd w) ps vs
 | [],ps,vs,h,hv=>by
  simp only[pvOfL,zh] at h
  subst h
  simpa only[qz,qw] using hv
 | d::ds,ps,vs,h,hv=>by
  simp only[pvOfL] at h
  cases hp:pvOf look d with
  | none=>rw[hp] at h;cases h
  | some p=>
   cases hp2:pvOfL look ds with
   | none=>rw[hp,hp2] at h;cases h
   | some qs=>
    rw[hp,hp2] at h
    cases h
    simp only[qz] at hv
    obtain⟨v,vs',rfl,H1,H2⟩:=hv
    simp only[qw]
    exact⟨v,vs',rfl,jC hl hp H1,ZQ hl hp2 H2⟩
end
theorem cellsPV_sound {R:Rd} {p:PV} {v:Value} (h:qI R p v):qw R (Z9 p) v.cells.toList/\∀ x∈v.cells.toList,x.oneCell'=true:=by
 cases p<;>simp only[Z9]
 case agg cs=>
  grind [qI,Value.cells]
 all_goals
  have h0:=h
  simp only[qI] at h0
  have one:v.oneCell'=true/\v.cells= #[v]:=by
   first
    | (obtain⟨rfl,h1⟩:=h0;exact⟨isLit_oneCell h1,by cases v<;>first|rfl|simp[isLit] at h1⟩)
    | (obtain⟨_,_,rfl,_⟩:=h0;exact⟨rfl,rfl⟩)
    | (obtain⟨_,rfl,_⟩:=h0;exact⟨rfl,rfl⟩)
    | exact⟨h0,by cases v<;>first|rfl|cases h0⟩
  grind [one.2,qw]
def boxV (T:TypeId) (d:Nat) (x:DV) (look fl:Nat->Option MO):Option Out:=
 if (fl d).isNone&&Zg look x then some ⟨true,.bref d 0,[(d,.box T (kC x))]⟩ else none
theorem boxV_sound (C:Ctx G w ρ ev look fl) {d:Nat} {T:TypeId} {x:Operand} {out:Out} (h:boxV T d (ev x) look fl=some out) :
  ∃ r w' G',(Instr.box T (ρ x)).run P w=.ok r w'/\Stepped G w fl out.val out.ms G' w' r:=by
 unfold boxV at h
 split at h
 ·rename_i hq
  simp only[zj,QK] at hq
  obtain⟨hd,hok⟩:=hq
  cases h
  obtain⟨H,ho⟩:=cellsDV_sound C.sees.look (C.sees.ev x) hok
  have hsrc:∀ h∈DV.qL (kC (ev x)),∃ o,fl h=some o:=fun h hh=>C.csrc h (.inl ⟨x,refs_cellsDV h hh⟩)
  refine⟨.pointer (some ⟨w.heap.size,0,none⟩),w.alloc (.cells (ρ x).cells T),_,?_,j2 (B:={ addr:=some ⟨w.heap.size,0,none⟩ }) C.cfresh hd ?_ ?_ ak ?_⟩
  ·simp[Instr.box,newVar,newRow]
  ·simp only[qt,Gh.new,ql]
   exact⟨trivial,w.heap.size,rfl,rfl⟩
  ·simp only[qW]
   refine⟨by simp[Gh.new],w.heap.size,(ρ x).cells,by simp[Gh.new],by simp[Gh.new],heap_alloc_new w _,ho,?_⟩
   refine qz.mono (later_new d _ _).rd _ _ (fun h hh=>keeps_new ?_) H
   grind
  grind [MO.refs]
 cases h
def dense (n:Nat) (parts:List (Nat×Operand)):Option (List Operand):=
 if parts.map (·.1)=List.range n then some (parts.map (·.2)) else none
def elems (look:Nat->Option MO):List DV->Option (List (List PV))
 | []=>some []
 | d::ds=>match pvOf look d,elems look ds with
  | some p,some es=>some (Z9 p::es)
  | _,_=>none
theorem elems_sound (hl:∀ h m,look h=some m->qW G w h m):∀ {ds:List DV} {es:List (List PV)} {vs:List Value},elems look ds=some es->qz G (G.rd w) ds vs->
  qw (G.rd w) es.flatten (vs.flatMap fun v=>v.cells.toList)/\(∀ x∈(vs.flatMap fun v=>v.cells.toList),x.oneCell'=true)/\es.map (·.length)=vs.map (fun v=>v.cells.size)
 | [],es,vs,h,hv=>by
  grind [elems,Option.some.injEq,qz,qw]
 | d::ds,es,vs,h,hv=>by
  simp only[elems] at h
  cases hp:pvOf look d with
  | none=>rw[hp] at h;cases h
  | some p=>
   cases hp2:elems look ds with
   | none=>rw[hp,hp2] at h;cases h
   | some qs=>
    rw[hp,hp2] at h
    cases h
    simp only[qz] at hv
    obtain⟨v,vs',rfl,H1,H2⟩:=hv
    obtain⟨k1,k2⟩:=cellsPV_sound (jC hl hp H1)
    obtain⟨q1,q2,q3⟩:=elems_sound hl hp2 H2
    simp only[XW,XV,zy]
    refine⟨k1.append q1,?_,?_⟩
    ·grind
    rw[q3]
    have:=k1.length
    simp at this
    rw[this]
def buildSliceV (Y:Tab) (d:Nat) (t:TypeId) (n:Nat) (parts:List (Nat×Operand)) (ev:Operand->DV) (look fl:Nat->Option MO):Option Out:=
 match Y.underlying t with
 | some (.slice e)=>match Y.info? e,dense n parts with
  | some i,some xs=>match elems look (xs.map ev) with
   | some es=>if (fl d).isNone&&decide (0<i.size)&&decide (n*i.size<=16777216)&&i.zero.isSome&&decide ((i.zero.getD default).cells.size=i.size) then
     some ⟨j6 i.size es,.aref d 0,[(d,.arr 0 i.size e es)]⟩ else none
   | none=>none
  | _,_=>none
 | _=>none
theorem dense_eq {n:Nat} {parts:List (Nat×Operand)} {xs:List Operand} (h:dense n parts=some xs) (f:Operand->Value) :
  parts.map (fun p=>(p.1,f p.2))=((xs.map f).zipIdx 0).map (fun x=>(x.2,x.1))/\xs.length=n:=by
 unfold dense at h
 split at h
 ·rename_i hq
  cases h
  have hl:parts.length=n:=by have:=WD List.length hq;simpa using this
  refine⟨?_,by simpa using hl⟩
  apply XU
  intro i
  by_cases hi:i<parts.length
  ·have h1:(parts.map (·.1))[i]? =some i:=by rw[hq,List.getElem?_range aa]
   simp[hi] at h1 ⊢
   exact h1
  grind
 cases h
theorem buildSliceV_sound (C:Ctx G w ρ ev look fl) {d:Nat} {t:TypeId} {n:Nat} {parts:Array (Nat×Operand)} {out:Out}
  (h:buildSliceV Y d t n parts.toList ev look fl=some out) (hs:out.side=true) :
  ∃ r w' G',(Instr.buildSlice t n (parts.map fun (i,x)=>(i,ρ x))).run P w=.ok r w'/\Stepped G w fl out.val out.ms G' w' r:=by
 unfold buildSliceV at h
 split at h
 ·rename_i e ht
  split at h
  ·rename_i i xs hi hx
   split at h
   ·rename_i es he
    split at h
    ·rename_i hq
     simp only[zj,QK,zf] at hq
     obtain⟨⟨⟨⟨hd,hsz⟩,hn⟩,hz⟩,hzs⟩:=hq
     cases h
     simp only at hs
     obtain⟨z,hz⟩:=QO.1 hz
     rw[hz] at hzs
     simp only[zO] at hzs
     obtain⟨q1,q2⟩:=dense_eq hx ρ
     obtain⟨k1,k2,k3⟩:=elems_sound C.sees.look he (Zi C.sees xs)
     have hlen:es.length=n:=by have:=WD List.length k3;simpa [q2] using this
     have hall:∀ e'∈es,e'.length=i.size:=by
      intro e' he'
      simp only[j6,zr,Wv] at hs
      exact hs e' he'
     have hvs:∀ v∈xs.map ρ,v.cells.size=i.size:=by
      intro v hv
      obtain⟨j,hj,rfl⟩:=Xq hv
      have hj':j<es.length:=by rw[hlen,<-q2];simpa using hj
      have:=WD (fun l=>l[j]?) k3
      grind
     have hfill:=Great.fill_whole hsz (xs.map ρ) ((Array.range (n*i.size)).map (z.cells[· %z.cells.size]!)) hvs (by simp[q2])
     rw[<-q1] at hfill
     have hflat:((xs.map ρ).flatMap fun v=>v.cells.toList).length=n*i.size:=by
      have hfl:∀ (l:List Value),(∀ v∈l,v.cells.size=i.size)->(l.flatMap fun v=>v.cells.toList).length=l.length*i.size:=by
       intro l
       induction l with
       | nil=>simp
       | cons v l ih=>
        grind
      rw[hfl _ hvs];simp[q2]
     refine⟨.slice (some ⟨w.heap.size,0,none⟩) n n,w.alloc (.cells ((xs.map ρ).flatMap fun v=>v.cells.toList).toArray e),_,?_,
      j2 (B:={ addr:=some ⟨w.heap.size,0,none⟩,len:=n,cap:=n,esz:=i.size,arr:=true }) C.cfresh hd ?_ ?_ ak am⟩
     ·have hpm:(parts.map fun (i,x)=>(i,ρ x)).toList=parts.toList.map (fun p=>(p.1,ρ p.2)):=by simp
      by_cases h0:n=0
      ·subst h0
       have hp0:parts.toList=[]:=by
        unfold dense at hx
        split at hx
        ·rename_i hq2;simpa using hq2
        cases hx
       have hx0:xs=[]:=zK q2
       have hpe:parts= #[]:=by apply Array.ext';simpa using hp0
       subst hpe hx0
       simp[Instr.buildSlice,qF ht,sizeOf,typeInfo,qH.inf P hi,Instr.fill,newRow,Array.range_zero']
      have hne:¬n*i.size=0:=by
       intro hh
       rcases JM.1 hh with hh|hh<;>omega
      simp only[Instr.buildSlice,qp,qF ht,qo,sizeOf,typeInfo,run_program,qH.inf P hi,qq,Nat.not_lt.2 hn,gt_iff_lt,qm,hne,zeroValue,hz,hpm,hfill,newRow]
      rfl
     ·simp only[qt,Gh.new,ql]
      exact⟨zB _,fun _=>trivial⟩
     simp only[qW]
     refine⟨by simp[Gh.new],by simp[Gh.new],by simp[Gh.new],by simp[Gh.new,hlen],by simp[Gh.new,hlen],hall,.inr ⟨w.heap.size,_,by simp[Gh.new],by simp[Gh.new],heap_alloc_new w _,?_,?_,?_,?_⟩⟩
     ·simp only[Gh.new,ql,maxLen]
      have:n<=n*i.size:=QV n hsz
      omega
     ·simp only[Gh.new,ql,XZ]
      exact hflat
     ·grind
     rw[zz (by rw[hlen];exact KG hflat)]
     exact qw.mono (later_new d _ _).rd _ _ k1
    cases h
   cases h
  cases h
 cases h
end
end Go.Lens
end
section
namespace Go.Lens
variable [Lz]
def Gh.turn (G:Gh) (d:Nat) (B:Base):Gh:={ G with ρ:=fun h=>if h=d then B else G.ρ h }
section
variable {P:Program} {Y:Tab} [qH P Y] {G:Gh} {w:World} {ρ:Operand->Value} {ev:Operand->DV} {look fl:Nat->Option MO}
theorem kg {h:Nat} {B:Base} {w':World} (hos:w'.os=w.os) (htape:w'.tape=w.tape) (hout:w'.output=w.output) (hsize:w'.heap.size=w.heap.size)
  (hblk:∀ b,G.γ b≠some h->w'.heap[b]? =w.heap[b]?) (hdr:Lz.D=true->w.drawn<=w'.drawn:=by first|(intro _;exact zB _)|(intro _;subst_vars;first|exact zB _|exact Wc _)):Later G w (G.turn h B) w':=
 Later.of Z Z hos htape hout (KG hsize.symm) (fun b _ hg=>⟨hblk b ay,hg⟩) hdr
theorem q8 (C:Ctx G w ρ ev look fl) {h:Nat} {B:Base} {w':World} {m:MO} {val:DV} {r:Value} {o0:MO} (hfl:fl h=some o0) (hk:G.keeps (G.turn h B) h)
  (hos:w'.os=w.os) (htape:w'.tape=w.tape) (hout:w'.output=w.output) (hsize:w'.heap.size=w.heap.size) (hblk:∀ b,G.γ b≠some h->w'.heap[b]? =w.heap[b]?)
  (hval:qt (G.turn h B) ((G.turn h B).rd w') val r) (hm:qW (G.turn h B) w' h m)
  (hrv:∀ k∈val.refs,∃ o,fl k=some o) (hrm:∀ k∈m.refs,∃ o,fl k=some o) (hdr:Lz.D=true->w.drawn<=w'.drawn:=by first|(intro _;exact zB _)|(intro _;subst_vars;first|exact zB _|exact Wc _)) :
  Stepped G w fl val [(h,m)] (G.turn h B) w' r:=by
 refine⟨kg hos htape hout hsize hblk hdr,hval,fun k o hm'=>?_,fun k o _=>?_,fun k hh=>⟨?_,fun b hb=>⟨hb,?_⟩⟩,fun b k hb=>?_,fun b k hb=>.inr hb,fun k hh=>.inr (hrv k hh),fun k o hk' k2 hh=>?_,fun b k hb=>.inl hb,fun _ _ _ _ h=>.inl h,fun _ _ _ h=>.inl h⟩
 ·grind
 ·by_cases e:k=h
  ·subst e;exact hk
  exact .inl (by simp only[Gh.turn,e,qm])
 ·simp only[zy,zX,zg] at hh
  simp only[Gh.turn,hh,qm]
 ·grind
 ·rw[hsize];exact C.cfresh b k hb
 grind
theorem flat_set {R:Rd} {esz:Nat}:∀ {es:List (List PV)} {vs:List Value} {i:Nat} {e:List PV} {xs:List Value},(∀ e∈es,e.length=esz)->i<es.length->e.length=esz->
  qw R es.flatten vs->qw R e xs->qw R (es.set i e).flatten (vs.take (i*esz)++xs++vs.drop (i*esz+esz))
 | [],_,i,_,_,_,hi,_,_,_=>by simp at hi
 | e0::es,vs,i,e,xs,h0,hi,he,H,H'=>by
  simp only[XW] at H
  have hl0:=h0 e0 ao
  have t:=H.take esz
  have d:=H.drop esz
  rw[zJ aa,zz aa] at t
  rw[Ql aa,zM aa,zU] at d
  cases i with
  | zero=>
   simp only[XE,XW,KU,J8,zU,KT]
   exact H'.append d
  | succ i=>
   have ih:=flat_set (fun e' h'=>h0 e' aq) ar he d H'
   simp only[XD,XW]
   have e1:(i+1)*esz=esz+i*esz:=by rw[Wa];omega
   have e2:vs.take ((i+1)*esz)=vs.take esz++(vs.drop esz).take (i*esz):=by rw[e1,List.take_add]
   have e3:vs.drop ((i+1)*esz+esz)=(vs.drop esz).drop (i*esz+esz):=by rw[J0,e1];congr 1;omega
   rw[e2,e3,zZ,zZ]
   rw[zZ] at ih
   exact t.append ih
theorem flat_get {R:Rd} {esz:Nat}:∀ {es:List (List PV)} {vs:List Value} {i:Nat},(∀ e∈es,e.length=esz)->(hi:i<es.length)->
  qw R es.flatten vs->qw R es[i] ((vs.drop (i*esz)).take esz)
 | [],_,i,_,hi,_=>by simp at hi
 | e0::es,vs,i,h0,hi,H=>by
  simp only[XW] at H
  have hl0:=h0 e0 ao
  cases i with
  | zero=>
   have t:=H.take esz
   grind
  | succ i=>
   have d:=H.drop esz
   rw[Ql aa,zM aa,zU] at d
   have ih:=flat_get (fun e' h'=>h0 e' aq) ar d
   rw[J0] at ih
   rw[show (i+1)*esz=esz+i*esz from by rw[Wa];omega]
   simpa using ih
theorem row_store {cc:Array Value} {X:List Value} {i esz c n N:Nat} (h1:i*esz+esz<=N) (h2:N<=cc.size) (h3:c+n<=esz) (hx:X.length=n) :
  (cc.toList.take (i*esz+c)++X++cc.toList.drop (i*esz+c+n)).take N =
   (cc.toList.take N).take (i*esz)++((((cc.toList.take N).drop (i*esz)).take esz).take c++X++(((cc.toList.take N).drop (i*esz)).take esz).drop (c+n))++(cc.toList.take N).drop (i*esz+esz):=by
 apply XU
 intro k
 have hl:cc.toList.length=cc.size:=by simp
 have hN:(cc.toList.take N).length=N:=by simp;omega
 simp only[qj,List.getElem?_append,XB,za,zn,zo,qf,hx]
 by_cases a1:k<i*esz
 ·simp[show k<N by omega,show k<i*esz+c by omega,a1]
  rw[WK aa,WK aa,WK aa,WK aa]
 by_cases a2:k<i*esz+c
 ·rw[WK aa,WK aa,WK aa,WK a2,WK aa,WJ aa,WK aa,WK aa,WK aa,WK aa,WK aa]
  congr 1;omega
 by_cases a3:k<i*esz+c+n
 ·rw[WK aa,WK aa,WJ aa,WK aa,WJ aa,WK aa,WJ aa]
  congr 1;omega
 by_cases a4:k<i*esz+esz
 ·rw[WK aa,WJ aa,WK aa,WJ aa,WJ aa,WK aa,WK aa]
  congr 1;omega
 by_cases a5:k<N
 ·rw[WK a5,WJ aa,WJ aa,WK aa]
  congr 1;omega
 rw[WJ a5,WJ aa,WJ aa]
def storeV (Y:Tab) (t:TypeId) (a x:DV) (look:Nat->Option MO):Option Out:=
 match szT Y t with
 | some n=>
  match a with
  | .bref h c=>match look h with
   | some (.box T ds)=>if Zg look x&&(kC x).length==n then
     some ⟨decide (c+n<=ds.length),.dead,[(h,.box T (ds.take c++kC x++ds.drop (c+n)))]⟩ else none
   | _=>none
  | .eref h v i c=>match look h with
   | some (.arr v' esz T es)=>
    match pvOf look x with
    | some p=>if v=v'/\(Z9 p).length=n then
      some ⟨decide (i<es.length/\c+n<=esz),.dead,[(h,.arr v esz T (es.set i ((es.getD i []).take c++Z9 p++(es.getD i []).drop (c+n))))]⟩ else none
    | none=>none
   | _=>none
  | _=>none
 | none=>none
theorem run_storeAt {t:TypeId} {n b o:Nat} {v:Value} {c:Array Value} {T:TypeId} (hs:szT Y t=some n) (hb:w.heap[b]? =some (.cells c T (0,0))) (hn:v.cells.toList.length=n)
  (hfit:o+n<=c.size) (h1:∀ x∈v.cells.toList,x.oneCell'=true) :
  (Instr.storeAt t (.pointer (some ⟨b,o,none⟩)) v).run P w=.ok () (w.setRow b (c.toList.take o++v.cells.toList++c.toList.drop (o+n)).toArray):=by
 have hst:=run_storeCells_at P b o T v.cells.toList 0 c w hb (by rw[hn];simpa using hfit) h1
 simp only[KD,hn] at hst
 have hne:¬v.cells.size≠n:=by simpa using hn
 simp only[Instr.storeAt,qp,Instr.sureAddr,qq,qo,storeVar,qX hs,Sem.run_ite,hne,qm,hst]
theorem storeV_sound (C:Ctx G w ρ ev look fl) {t:TypeId} {a x:Operand} {out:Out} (h:storeV Y t (ev a) (ev x) look=some out) (hs:out.side=true) :
  ∃ w' G',(Instr.storeAt t (ρ a) (ρ x)).run P w=.ok () w'/\Stepped G w fl out.val out.ms G' w' undef:=by
 unfold storeV at h
 split at h
 ·rename_i n hn
  have hA:=C.sees.ev a
  split at h
  ·rename_i hh c ha
   rw[ha] at hA
   split at h
   ·rename_i T ds hl
    split at h
    ·rename_i hq
     simp only[zj,Wv] at hq
     obtain⟨hok,hlen⟩:=hq
     cases h
     simp only[zf] at hs
     obtain⟨H,ho⟩:=cellsDV_sound C.sees.look (C.sees.ev x) hok
     have hvl:=H.length
     rw[hlen] at hvl
     obtain⟨k1,b,cc,e1,e2,e3,e4,e5⟩:=C.sees.look _ _ hl
     simp only[qt] at hA
     obtain⟨_,b',e1',hav⟩:=hA
     rw[e1] at e1'
     simp only[zh,Addr.mk.injEq,WC] at e1'
     subst e1'
     have hcl:=e5.length
     have hrun:=run_storeAt (P:=P) (w:=w) (o:=c) hn e3 hvl (by simp at hcl;omega) ho
     rw[hav]
     have hturn:G.turn hh (G.ρ hh)=G:=by
      unfold Gh.turn
      congr
      grind
     have hblk:∀ b',G.γ b'≠some hh->(w.setRow b (cc.toList.take c++(ρ x).cells.toList++cc.toList.drop (c+n)).toArray).heap[b']? =w.heap[b']? :=by
      intro b' hb'
      exact setRow_other w b b' _ (fun e=>hb' az)
     have L:Later G w G (w.setRow b (cc.toList.take c++(ρ x).cells.toList++cc.toList.drop (c+n)).toArray):=by
      have:=kg (G:=G) (h:=hh) (B:=G.ρ hh) (w:=w) (w':=w.setRow b (cc.toList.take c++(ρ x).cells.toList++cc.toList.drop (c+n)).toArray) Z Z Z ao hblk
      rwa [hturn] at this
     refine⟨_,G,hrun,?_⟩
     have S:=q8 (m:=.box T (ds.take c++kC (ev x)++ds.drop (c+n))) (val:=.dead) (r:=undef) C (B:=G.ρ hh) (C.cfl _ _ hl) aA
      (w':=w.setRow b (cc.toList.take c++(ρ x).cells.toList++cc.toList.drop (c+n)).toArray) Z Z Z ao hblk aB ?_ ak ?_
     ·rw[hturn] at S;exact S
     ·rw[hturn]
      simp only[qW]
      refine⟨k1,b,_,e1,e2,setRow_heap w b cc _ T _ e3,?_,?_⟩
      ·grind
      exact qz.mono L.rd _ _ (fun k _=>.inl Z) (((e5.take c).append H).append (e5.drop (c+n)))
     intro k hk
     have hk':k∈DV.qL (ds.take c++kC (ev x)++ds.drop (c+n)):=hk
     rw[jz] at hk'
     obtain⟨d,hd,hkd⟩:=hk'
     simp only[zH] at hd
     rcases hd with (hd|hd)|hd
     ·exact C.csrc k (.inr ⟨hh,_,hl,jz.2 ⟨d,zu hd,hkd⟩⟩)
     ·exact C.csrc k (.inl ⟨x,refs_cellsDV k (jz.2 ⟨d,hd,hkd⟩)⟩)
     exact C.csrc k (.inr ⟨hh,_,hl,jz.2 ⟨d,zw hd,hkd⟩⟩)
    cases h
   cases h
  ·rename_i hh v i c ha
   rw[ha] at hA
   split at h
   ·rename_i v' esz T es hl
    split at h
    ·rename_i p hp
     split at h
     ·rename_i hq
      obtain⟨rfl,hlen⟩:=hq
      cases h
      simp only[zf] at hs
      obtain⟨hi,hc⟩:=hs
      obtain⟨H,ho⟩:=cellsPV_sound (jC C.sees.look hp (C.sees.ev x))
      have hvl:=H.length
      rw[hlen] at hvl
      obtain⟨k1,k2,k3,k4,k5,k6,k7⟩:=C.sees.look _ _ hl
      simp only[qt] at hA
      obtain⟨b,off,e1,hav⟩:=hA.2 k2
      rcases k7 with ⟨k7,_⟩|⟨b',cc,e1',e2,e3,e4,e5,e6,e7⟩
      ·rw[k7] at e1;cases e1
      rw[e1'] at e1
      simp only[zh,Addr.mk.injEq,WC] at e1
      obtain⟨rfl,rfl⟩:=e1
      rw[k3,KT] at hav
      have hb1:i*esz+esz<=es.length*esz:=by rw[<-Nat.succ_mul];exact Xh _ hi
      have hb2:es.length*esz<=cc.size:=by rw[e5];exact Xh _ k5
      have hrun:=run_storeAt (P:=P) (w:=w) (o:=i*esz+c) hn e3 hvl aa ho
      rw[hav]
      have hturn:G.turn hh (G.ρ hh)=G:=by
       unfold Gh.turn
       congr
       funext k
       split
       ·rename_i e;rw[e]
       rfl
      have hblk:∀ b'',G.γ b''≠some hh->(w.setRow b' (cc.toList.take (i*esz+c)++(ρ x).cells.toList++cc.toList.drop (i*esz+c+n)).toArray).heap[b'']? =w.heap[b'']? :=by
       intro b'' hb''
       exact setRow_other w b' b'' _ (fun e=>hb'' az)
      have L:Later G w G (w.setRow b' (cc.toList.take (i*esz+c)++(ρ x).cells.toList++cc.toList.drop (i*esz+c+n)).toArray):=by
       have:=kg (G:=G) (h:=hh) (B:=G.ρ hh) (w:=w) (w':=w.setRow b' (cc.toList.take (i*esz+c)++(ρ x).cells.toList++cc.toList.drop (i*esz+c+n)).toArray) Z Z Z ao hblk
       rwa [hturn] at this
      refine⟨_,G,hrun,?_⟩
      have hei:=k6 _ (Jd hi)
      have hnew:((es.getD i []).take c++Z9 p++(es.getD i []).drop (c+n)).length=esz:=by
       rw[jK _ _ _ hi]
       simp only[za,zn,zo,hei,hlen]
       omega
      have S:=q8 (m:=.arr v esz T (es.set i ((es.getD i []).take c++Z9 p++(es.getD i []).drop (c+n)))) (val:=.dead) (r:=undef) C (B:=G.ρ hh) (C.cfl _ _ hl) aA
       (w':=w.setRow b' (cc.toList.take (i*esz+c)++(ρ x).cells.toList++cc.toList.drop (i*esz+c+n)).toArray) Z Z Z ao hblk aB ?_ ak am
      ·rw[hturn] at S;exact S
      rw[hturn]
      simp only[qW,JB]
      refine⟨k1,k2,k3,k4,k5,?_,.inr ⟨b',_,e1',e2,setRow_heap w b' cc _ T _ e3,e4,?_,?_,?_⟩⟩
      ·intro e he
       rcases QE he with he|he
       ·exact k6 e he
       rw[he];exact hnew
      ·simp only[XZ,za,zn,zo,qf,hvl]
       rw[<-e5];omega
      ·intro y hy
       rw[row_store hb1 hb2 hc (by simpa using hvl)] at hy
       simp only[zH] at hy
       rcases hy with (hy|(hy|hy)|hy)|hy
       ·exact e6 y (zu hy)
       ·exact e6 y (zw (zu (zu hy)))
       ·exact ho y hy
       ·exact e6 y (zw (zu (zw hy)))
       exact e6 y (zw hy)
      rw[row_store hb1 hb2 hc (by simpa using hvl)]
      have hel:qw (G.rd w) (es.getD i []) (((cc.toList.take (es.length*esz)).drop (i*esz)).take esz):=by rw[jK _ _ _ hi];exact flat_get k6 hi e7
      have hnv:qw (G.rd w) ((es.getD i []).take c++Z9 p++(es.getD i []).drop (c+n)) ((((cc.toList.take (es.length*esz)).drop (i*esz)).take esz).take c++(ρ x).cells.toList++(((cc.toList.take (es.length*esz)).drop (i*esz)).take esz).drop (c+n)):=
       ((hel.take c).append H).append (hel.drop (c+n))
      exact qw.mono L.rd _ _ (flat_set k6 hi hnew e7 hnv)
     cases h
    cases h
   cases h
  cases h
 cases h
end
def Gh.jf (G:Gh) (h:Nat) (B:Base) (b:Nat):Gh:=
 { G with ρ:=fun k=>if k=h then B else G.ρ k,γ:=fun x=>if x=b then some h else if G.γ x=some h then none else G.γ x }
section
variable {P:Program} {Y:Tab} [qH P Y] {G:Gh} {w:World} {ρ:Operand->Value} {ev:Operand->DV} {look fl:Nat->Option MO}
theorem later_regrow {h:Nat} {B:Base} {w':World} (hos:w'.os=w.os) (htape:w'.tape=w.tape) (hout:w'.output=w.output) (hsize:w.heap.size<w'.heap.size)
  (hblk:∀ b,b<w.heap.size->w'.heap[b]? =w.heap[b]?) (hdr:Lz.D=true->w.drawn<=w'.drawn:=by first|(intro _;exact zB _)|(intro _;subst_vars;first|exact zB _|exact Wc _)):Later G w (G.jf h B w.heap.size) w':=by
 refine Later.of Z Z hos htape hout (KH hsize) (fun b hb hg=>⟨hblk b hb,?_⟩) hdr
 simp only[Gh.jf]
 grind
theorem stepped_regrow (C:Ctx G w ρ ev look fl) {h:Nat} {B:Base} {w':World} {m:MO} {val:DV} {r:Value} (hk:∀ o,fl h=some o->G.keeps (G.jf h B w.heap.size) h)
  (hos:w'.os=w.os) (htape:w'.tape=w.tape) (hout:w'.output=w.output) (hsize:w.heap.size<w'.heap.size) (hblk:∀ b,b<w.heap.size->w'.heap[b]? =w.heap[b]?)
  (hval:qt (G.jf h B w.heap.size) ((G.jf h B w.heap.size).rd w') val r) (hm:qW (G.jf h B w.heap.size) w' h m)
  (hrv:∀ k∈val.refs,k=h) (hrm:m.refs=[]) (hdr:Lz.D=true->w.drawn<=w'.drawn:=by first|(intro _;exact zB _)|(intro _;subst_vars;first|exact zB _|exact Wc _)) :
  Stepped G w fl val [(h,m)] (G.jf h B w.heap.size) w' r:=by
 refine⟨later_regrow hos htape hout hsize hblk hdr,hval,fun k o hm'=>?_,fun k o ho=>?_,fun k hh=>⟨?_,fun b hb=>⟨?_,?_⟩⟩,fun b k hb=>?_,fun b k hb=>?_,fun k hh=>.inl (by simp[hrv k hh]),fun k o hk' k2 hh=>?_,fun b k hb=>?_,fun _ _ _ _ h=>.inl h,fun _ _ _ h=>.inl h⟩
 ·grind
 ·by_cases e:k=h
  ·subst e;exact hk o ho
  exact .inl (by simp only[Gh.jf,e,qm])
 ·simp only[zy,zX,zg] at hh
  simp only[Gh.jf,hh,qm]
 ·simp only[zy,zX,zg] at hh
  have:=C.cfresh b k hb
  simp only[Gh.jf]
  grind
 ·exact hblk b (C.cfresh b k hb)
 ·simp only[Gh.jf] at hb
  split at hb
  ·omega
  split at hb
  ·cases hb
  have:=C.cfresh b k hb;omega
 ·grind [Gh.jf]
 ·grind
 simp only[Gh.jf] at hb
 split at hb
 ·right;omega
 grind
theorem conts_sound (S:Sees G w ρ ev look) {d:DV} {ys:List (List PV)} {v:Value} (h:conts look d=some ys) (hv:qt G (G.rd w) d v) :
  ∃ a cap,v=.slice a ys.length cap/\(ys=[]\/∃ b off esz vs,a=some ⟨b,off,none⟩/\(∀ e∈ys,e.length=esz)/\qw (G.rd w) ys.flatten vs/\(∀ x∈vs,x.oneCell'=true)/\
   ∀ j u,vs[j]? =some u->w.cell? ⟨b,off+j,none⟩=some u):=by
 have flat:∀ {es:List (List PV)} {b off esz:Nat},qQ (G.rd w) es b off esz->(∀ e∈es,e.length=esz)/\∃ vs,qw (G.rd w) es.flatten vs/\(∀ x∈vs,x.oneCell'=true)/\
   ∀ j u,vs[j]? =some u->w.cell? ⟨b,off+j,none⟩=some u:=by
  intro es
  induction es with
  | nil=>intro b off esz _;exact⟨by simp,[],by simp[qw],by simp,by simp⟩
  | cons e es ih=>
   intro b off esz H
   simp only[qQ] at H
   obtain⟨h1,h2,h3⟩:=H
   obtain⟨k1,vs,k2,k3,k4⟩:=ih h3
   obtain⟨us,q1,q2,q3⟩:=h2.list
   have hl:=q1.length
   refine⟨by simpa [h1] using k1,us++vs,by simpa using q1.append k2,?_,?_⟩
   ·grind
   intro j u hj
   by_cases hlt:j<us.length
   ·rw[QC hlt] at hj
    exact S.cell _ _ _ (q3 j u hj)
   grind
 have farr:∀ {es:List (List PV)} {a:Option Addr},(es=[]\/∃ b off esz,a=some ⟨b,off,none⟩/\qQ (G.rd w) es b off esz)->(es=[]\/∃ b off esz vs,a=some ⟨b,off,none⟩/\(∀ e∈es,e.length=esz)/\qw (G.rd w) es.flatten vs/\(∀ x∈vs,x.oneCell'=true)/\
   ∀ j u,vs[j]? =some u->w.cell? ⟨b,off+j,none⟩=some u):=by
  intro es a H
  rcases H with rfl|⟨b,off,esz,e,H⟩
  ·exact .inl rfl
  obtain⟨k1,vs,k2,k3,k4⟩:=flat H
  exact .inr ⟨b,off,esz,vs,e,k1,k2,k3,k4⟩
 have hot:∀ {hh v esz:Nat} {T:TypeId} {es:List (List PV)},look hh=some (.arr v esz T es)->(es=[]\/∃ b off esz vs,(G.ρ hh).addr=some ⟨b,off,none⟩/\(∀ e∈es,e.length=esz)/\qw (G.rd w) es.flatten vs/\(∀ x∈vs,x.oneCell'=true)/\
   ∀ j u,vs[j]? =some u->w.cell? ⟨b,off+j,none⟩=some u):=by
  intro hh v esz T es he
  obtain⟨k1,k2,k3,k4,k5,k6,k7⟩:=S.look _ _ he
  rcases k7 with ⟨e1,e2⟩|⟨b,cc,e1,e2,e3,e4,e5,e6,e7⟩
  ·exact .inl (zK aa)
  refine .inr ⟨b,0,esz,_,e1,k6,e7,e6,fun j u hj=>?_⟩
  rw[World.cell?_of_heap e3,KT]
  grind
 have cut:∀ {es:List (List PV)} {a:Option Addr} (n:Nat),(es=[]\/∃ b off esz vs,a=some ⟨b,off,none⟩/\(∀ e∈es,e.length=esz)/\qw (G.rd w) es.flatten vs/\(∀ x∈vs,x.oneCell'=true)/\
   ∀ j u,vs[j]? =some u->w.cell? ⟨b,off+j,none⟩=some u)->(es.take n=[]\/∃ b off esz vs,a=some ⟨b,off,none⟩/\(∀ e∈es.take n,e.length=esz)/\qw (G.rd w) (es.take n).flatten vs/\(∀ x∈vs,x.oneCell'=true)/\
   ∀ j u,vs[j]? =some u->w.cell? ⟨b,off+j,none⟩=some u):=by
  intro es a n H
  rcases H with rfl|⟨b,off,esz,vs,e,k1,k2,k3,k4⟩
  ·left;simp
  right
  have hf:∀ (es:List (List PV)) (n:Nat),(es.take n).flatten=es.flatten.take (es.take n).flatten.length:=by
   intro es n
   have:es.flatten=(es.take n).flatten++(es.drop n).flatten:=by rw[<-List.flatten_append,Q8]
   rw[this];simp
  refine⟨b,off,esz,vs.take (es.take n).flatten.length,e,fun e' he'=>k1 e' (zu he'),by
   have:=k2.take (es.take n).flatten.length
   rwa [<-hf] at this,fun x hx=>k3 x (zu hx),fun j u hj=>?_⟩
  grind
 unfold conts at h
 split at h
 ·cases h
  simp only[qt,qI] at hv
  obtain⟨a,cap,rfl,hc,H⟩:=hv
  exact⟨a,cap,rfl,farr H⟩
 ·grind [qt]
 ·split at h
  ·rename_i v' x T0 es he
   split at h
   ·rename_i hq;subst hq;cases h
    obtain⟨k1,k2,k3,k4,_⟩:=S.look _ _ he
    simp only[qt] at hv
    exact⟨_,_,by rw[hv.2 k2,k4],hot he⟩
   cases h
  ·rename_i v' es he
   split at h
   ·rename_i hq;subst hq;cases h
    obtain⟨k1,k2,k4,k5,k7⟩:=S.look _ _ he
    simp only[qt] at hv
    exact⟨_,_,by rw[hv.2 k2,k4],farr (k7.imp id (fun ⟨b,off,esz,e1,_,H⟩=>⟨b,off,esz,e1,H⟩))⟩
   cases h
  cases h
 ·split at h
  ·rename_i v' x T0 es he
   split at h
   ·rename_i hq;subst hq;cases h
    obtain⟨k1,k2,k3,k4,_⟩:=S.look _ _ he
    simp only[qt] at hv
    obtain⟨h1,rfl⟩:=hv.2 k2
    rw[k4] at h1
    exact⟨_,_,by rw[zn,JK h1],cut _ (hot he)⟩
   cases h
  ·rename_i v' es he
   split at h
   ·rename_i hq;subst hq;cases h
    obtain⟨k1,k2,k4,k5,k7⟩:=S.look _ _ he
    simp only[qt] at hv
    obtain⟨h1,rfl⟩:=hv.2 k2
    rw[k4] at h1
    exact⟨_,_,by rw[zn,JK h1],cut _ (farr (k7.imp id (fun ⟨b,off,esz,e1,_,H⟩=>⟨b,off,esz,e1,H⟩)))⟩
   cases h
  cases h
 cases h
theorem ZV {t ty e:TypeId} {i:TypeInfo} (ht:Y.underlying t=some (.slice e)) (hi:Y.info? e=some i) (b:Option Addr) (n cap:Nat) (hn:n<=cap) (a:Option Addr) (c:Nat) :
  (Builtin.append_ #[t,t] ty #[.slice b n cap,.slice a 0 c]).run P w=.ok (.slice b n cap) w:=by
 cases a<;>cases b<;>simp[Builtin.append_,qF ht,sizeOf,typeInfo,qH.inf P hi,Builtin.lenOf,Builtin.firstCells,loadCells,loadCellsFrom,hn,storeCells]
structure AppSrc (P:Program) (w:World) (t xt ty e:TypeId) (i:TypeInfo) (z:Value) (x:Value) (n:Nat) (vs:List Value):Prop where
 zero:n=0->∀ (a:Option Addr) (l c:Nat),l<=c->(Builtin.append_ #[t,xt] ty #[.slice a l c,x]).run P w=.ok (.slice a l c) w
 nil:0<n->(n:Int)<=9223372036854775807->n*i.bytes<=281474976710656->(Builtin.append_ #[t,xt] ty #[.slice none 0 0,x]).run P w =
   .ok (.slice (some ⟨w.heap.size,0,none⟩) n (grownCap w n 0 e)) (w.drew.alloc (.cells (vs.toArray++Builtin.zeroCells z.cells (grownCap w n 0 e-n)) e))
 room:0<n->∀ (g sLen sCap:Nat) (cur:Array Value),w.heap[g]? =some (.cells cur e (0,0))->(∀ u∈vs,u.oneCell'=true)->sLen+n<=sCap->sLen*i.size+vs.length<=cur.size->
   (Builtin.append_ #[t,xt] ty #[.slice (some ⟨g,0,none⟩) sLen sCap,x]).run P w =
   .ok (.slice (some ⟨g,0,none⟩) (sLen+n) sCap) (w.setRow g (cur.toList.take (sLen*i.size)++vs++cur.toList.drop (sLen*i.size+vs.length)).toArray)
 grow:0<n->∀ (b:Addr) (sLen sCap:Nat) (olds:List Value),olds.length=sLen*i.size->(∀ j v,olds[j]? =some v->w.cell? (b.add j)=some v)->sCap<sLen+n->((sLen+n:Nat):Int)<=9223372036854775807->
   Builtin.nextslicecap (sLen+n) sCap*i.bytes<=281474976710656->
   (Builtin.append_ #[t,xt] ty #[.slice (some b) sLen sCap,x]).run P w =
   .ok (.slice (some ⟨w.heap.size,0,none⟩) (sLen+n) (grownCap w (sLen+n) sCap e))
    (w.drew.alloc (.cells (olds.toArray++vs.toArray++Builtin.zeroCells z.cells (grownCap w (sLen+n) sCap e-(sLen+n))) e))
theorem appSrc_slice {t ty e:TypeId} {i:TypeInfo} {z:Value} (ht:Y.underlying t=some (.slice e)) (hi:Y.info? e=some i) (hz:i.zero=some z) (a:Addr) (n c:Nat) (vs:List Value) (hl:vs.length=n*i.size)
  (hn:∀ j v,vs[j]? =some v->w.cell? (a.add j)=some v):AppSrc P w t t ty e i z (.slice (some a) n c) n vs:=
 ⟨fun h0 b l cap hlc=>by subst h0;exact ZV ht hi b l cap hlc _ _,
  fun h0 h63 h48=>run_append_nil (P:=P) w t ty e i z (qH.und P ht) (qH.inf P hi) hz a n c vs hl hn h0 h63 h48,
  fun _ g sLen sCap cur hg h1 hr hf=>run_append_room (P:=P) w t ty e i (qH.und P ht) (qH.inf P hi) g sLen sCap cur hg a n c vs hl hn h1 hr hf,
  fun _ b sLen sCap olds hlo ho hg h63 hfit=>run_append_grow (P:=P) w t ty e i z (qH.und P ht) (qH.inf P hi) hz b sLen sCap olds hlo ho a n c vs hl hn hg h63 hfit⟩
def strCells (s:ByteArray):List Value:=s.data.toList.map fun b=>.int .u8 b.toNat
theorem appSrc_string {t xt ty e:TypeId} {i:TypeInfo} {z:Value} (ht:Y.underlying t=some (.slice e)) (hx:Y.underlying xt=some .string) (hi:Y.info? e=some i) (hz:i.zero=some z) (hsz:i.size=1) (s:ByteArray) :
  AppSrc P w t xt ty e i z (.string s) s.size (strCells s):=by
 have hex:s.extract 0 s.size=s:=by simp
 have hmap:(Array.map (fun b:UInt8=>Value.int IntKind.u8 (b.toNat:Int)) s.data)=(strCells s).toArray:=by apply Array.ext';simp[strCells]
 have hmap':(Array.map (fun b:UInt8=>Value.int IntKind.u8 (b.toNat:Int)) (s.extract 0 s.size).data)=(strCells s).toArray:=by rw[hex];exact hmap
 have hmap2:(Array.map (fun b:UInt8=>Value.int IntKind.u8 (b.toNat:Int)) s.data).extract 0 s.size=(strCells s).toArray:=by
  have hs:s.size=(Array.map (fun b:UInt8=>Value.int IntKind.u8 (b.toNat:Int)) s.data).size:=by rw[Array.size_map];rfl
  grind
 refine⟨fun h0 a l c hlc=>?_,fun h0 h63 h48=>?_,fun _ g sLen sCap cur hg h1 hr hf=>?_,fun _ b sLen sCap olds hlo ho hg h63 hfit=>?_⟩
 ·have hs:s=ByteArray.empty:=Kg (Qg h0)
  subst hs
  cases a<;>simp[Builtin.append_,qF ht,qF hx,sizeOf,typeInfo,qH.inf P hi,Builtin.lenOf,Builtin.firstCells,hlc,storeCells]
 ·have:=run_append_nil_string (P:=P) w t xt ty e i z (qH.und P ht) (qH.und P hx) (qH.inf P hi) hz s h0 h63 h48
  rw[hmap] at this
  exact this
 ·have hst:=run_storeCells_at P g (sLen*i.size) e (strCells s) 0 cur w hg (by simpa using hf) h1
  simp only[KD] at hst
  simp[Builtin.append_,qF ht,qF hx,sizeOf,typeInfo,qH.inf P hi,Builtin.lenOf,hr,Builtin.firstCells,hmap2,Addr.add_lit,hst]
 have hn:¬(sLen+s.size<=sCap):=aa
 have h63':¬(9223372036854775807<((sLen:Int)+(s.size:Int))):=aa
 have h48':¬(281474976710656<Builtin.nextslicecap (sLen+s.size) sCap*i.bytes):=aa
 have hfo:=run_firstCells_some (P:=P) w.drew i.size sLen b sLen sCap olds hlo (by simpa using ho)
 have hfo':(loadCells b (sLen*i.size)).run P w.drew=.ok olds.toArray w.drew:=by simpa [Builtin.firstCells] using hfo
 simp[Builtin.append_,qF ht,qF hx,sizeOf,typeInfo,zeroValue,qH.inf P hi,hz,Builtin.lenOf,hn,h63',h48',Question.forced,Builtin.firstCells,hfo',hmap2,newRow,grownCap]
 grind
structure AppNil (P:Program) (w:World) (t xt ty e:TypeId) (i:TypeInfo) (z:Value) (x:Value) (n:Nat) (vs:List Value):Prop where
 zero:n=0->(Builtin.append_ #[t,xt] ty #[.slice none 0 0,x]).run P w=.ok (.slice none 0 0) w
 nil:0<n->(n:Int)<=9223372036854775807->n*i.bytes<=281474976710656->(Builtin.append_ #[t,xt] ty #[.slice none 0 0,x]).run P w =
   .ok (.slice (some ⟨w.heap.size,0,none⟩) n (grownCap w n 0 e)) (w.drew.alloc (.cells (vs.toArray++Builtin.zeroCells z.cells (grownCap w n 0 e-n)) e))
theorem AppSrc.toNil {t xt ty e:TypeId} {i:TypeInfo} {z x:Value} {n:Nat} {vs:List Value} (A:AppSrc P w t xt ty e i z x n vs):AppNil P w t xt ty e i z x n vs:=
 ⟨fun h=>A.zero h none 0 0 (zB _),A.nil⟩
theorem appNil_zeros {t xt ty e:TypeId} {i:TypeInfo} {z:Value} {kx:IntKind} (ht:Y.underlying t=some (.slice e)) (hx:Y.underlying xt=some (.int kx)) (hi:Y.info? e=some i) (hz:i.zero=some z) (hsz:0<i.size) (n:Nat)
  (h63:(n:Int)<=9223372036854775807) (h48:n*i.bytes<=281474976710656) :
  AppNil P w t xt ty e i z (.int .i64 n) n (Builtin.zeroCells z.cells n).toList:=by
 have hw:IntKind.i64.wrap (n:Int)=n:=IntWalk.i64_in _ aa
 have hneg:¬((n:Int)<0):=aa
 have hb:¬((281474976710656:Int)<(n:Int)*(i.bytes:Int)):=aa
 refine⟨fun h0=>?_,fun h0 _ _=>?_⟩
 ·subst h0
  simp only[Int.natCast_zero,Int.cast_ofNat_Int] at hw hb ⊢
  simp[Builtin.append_,qF ht,qF hx,sizeOf,typeInfo,qH.inf P hi,asInt,asIntOf,hw,storeCells]
 have hn:n≠0:=aa
 have hs0:i.size≠0:=aa
 have h63':¬(9223372036854775807<(n:Int)):=aa
 have h48':¬(281474976710656<Builtin.nextslicecap n 0*i.bytes):=by rw[nextslicecap_zero h0];omega
 simp[Builtin.append_,qF ht,qF hx,sizeOf,typeInfo,zeroValue,qH.inf P hi,hz,asInt,asIntOf,hw,hneg,hb,hn,h63',h48',Question.forced,Builtin.firstCells,newRow,grownCap]
 intro h;rcases JM.1 h with h|h<;>omega
def srcOf (Y:Tab) (t xt:TypeId) (i:TypeInfo) (look:Nat->Option MO) (s x:DV):Option (List (List PV)):=
 if t==xt then conts look x
 else match Y.underlying xt,x with
  | some .string,.pv (.lit (.string b))=>if i.size=1 then some (b.data.toList.map fun c=>[.lit (.int .u8 c.toNat)]) else none
  | some (.int _),.pv (.lit (.int .i64 n))=>match s,i.zero.bind (fun z=>Z7 z.cells.toList) with
   | .nils,some zc=>if 0<=n/\n<=9223372036854775807/\n.toNat*i.bytes<=281474976710656 then some (replicate n.toNat zc) else none
   | _,_=>none
  | _,_=>none
theorem RelVals_bytes {R:Rd}:∀ (l:Nb),qw R (l.map fun c=>[PV.lit (.int .u8 c.toNat)]).flatten (l.map fun b=>Value.int .u8 b.toNat)
 | []=>by simp[qw]
 | c::l=>by
  simp only[zy,XW,List.singleton_append,qw,qI]
  exact⟨_,_,rfl,⟨rfl,rfl⟩,RelVals_bytes l⟩
theorem zeroCells_list (z:Array Value) (n:Nat):(Builtin.zeroCells z n).toList=(replicate n z.toList).flatten:=by
 by_cases h0:z.size=0
 ·have hz:z.toList=[]:=by
   grind
  have h1:(replicate n z.toList).flatten=[]:=by rw[hz];simp
  rw[h1];simp[Builtin.zeroCells,h0]
 apply XU
 intro k
 have e:(replicate n z.toList).flatten=(replicate n (Value.agg z)).flatMap fun v=>v.cells.toList:=by simp[List.flatMap_replicate,Value.cells]
 rw[e,Great.flat_get (s:=z.size) aa _ aC k]
 by_cases hk:k<n*z.size
 ·have hd:k / z.size<n:=(Q9 aa).2 hk
  have hm:k%z.size<z.size:=Wu _ aa
  simp[Builtin.zeroCells,hk,hd,Value.cells,hm]
 have hd:¬k / z.size<n:=fun h=>hk ((Q9 aa).1 h)
 simp[Builtin.zeroCells,hk,hd]
theorem RelVals_repl {R:Rd} {zc:List PV} {zs:List Value} (h:qw R zc zs):∀ n,qw R (replicate n zc).flatten (replicate n zs).flatten
 | 0=>by simp[qw]
 | n+1=>by simp only[Xt,XW];exact h.append (RelVals_repl h n)
theorem src_sound (S:Sees G w ρ ev look) {t xt ty e:TypeId} {i:TypeInfo} {z:Value} {s x:DV} {ys:List (List PV)} {u:Value} (h:srcOf Y t xt i look s x=some ys) (ht:Y.underlying t=some (.slice e)) (hi:Y.info? e=some i) (hz:i.zero=some z)
  (hzs:z.cells.size=i.size) (hsz:0<i.size) (hall:∀ e'∈ys,e'.length=i.size) (hu:qt G (G.rd w) x u) :
  ∃ vs,qw (G.rd w) ys.flatten vs/\(∀ v∈vs,v.oneCell'=true)/\vs.length=ys.length*i.size/\AppNil P w t xt ty e i z u ys.length vs/\(s≠.nils->AppSrc P w t xt ty e i z u ys.length vs):=by
 have hflen:∀ (l:List (List PV)),(∀ e∈l,e.length=i.size)->l.flatten.length=l.length*i.size:=by
  intro l
  induction l with
  | nil=>simp
  | cons e l ih=>intro hl;simp only[XW,za,zb,Wa,Wg];rw[hl e ao,ih (fun e' h'=>hl e' aq)];omega
 unfold srcOf at h
 split at h
 ·rename_i hq
  have hq:t=xt:=by simpa using hq
  subst hq
  obtain⟨ax,capx,rfl,HX⟩:=conts_sound S h hu
  rcases HX with rfl|⟨b,off,esz,vs,rfl,q1,q2,q3,q4⟩
  ·refine⟨[],by simp[qw],by simp,by simp,?_,fun _=>?_⟩
   ·exact⟨fun _=>ZV ht hi none 0 0 (zB _) ax capx,fun h=>absurd h ao⟩
   exact⟨fun _ a l c hlc=>ZV ht hi a l c hlc ax capx,fun h=>absurd h ao,fun h=>absurd h ao,fun h=>absurd h ao⟩
  have hfl:vs.length=ys.length*i.size:=by rw[q2.length];exact hflen ys hall
  have A:=appSrc_slice (P:=P) (w:=w) (ty:=ty) ht hi hz ⟨b,off,none⟩ ys.length capx vs hfl (fun j v hj=>by rw[Addr.add_lit];exact q4 j v hj)
  exact⟨vs,q2,q3,hfl,A.toNil,fun _=>A⟩
 split at h
 ·rename_i b hx
  split at h
  ·rename_i h1
   cases h
   obtain⟨rfl,_⟩:=qx hu
   have A:=appSrc_string (P:=P) (w:=w) (ty:=ty) ht hx hi hz h1 b
   have hl:(b.data.toList.map fun c=>[PV.lit (.int .u8 c.toNat)]).length=b.size:=by simp
   refine⟨strCells b,RelVals_bytes _,?_,by rw[hl,h1];simp[strCells],by rw[hl];exact A.toNil,fun _=>by rw[hl];exact A⟩
   intro v hv
   simp only[strCells,zE] at hv
   obtain⟨c,_,rfl⟩:=hv
   rfl
  cases h
 ·rename_i kx n hx
  split at h
  ·rename_i zc hzc
   split at h
   ·rename_i hq
    obtain⟨h0,h63,h48⟩:=hq
    cases h
    rw[hz] at hzc
    simp only[zY] at hzc
    obtain⟨rfl,_⟩:=qx hu
    obtain⟨m,rfl⟩:∃ m:Nat,n=(m:Int):=⟨n.toNat,aa⟩
    simp only[zT] at h48 ⊢
    have A:=appNil_zeros (P:=P) (w:=w) (ty:=ty) ht hx hi hz hsz m h63 h48
    obtain⟨hzr,hz1⟩:=ZI (R:=G.rd w) hzc
    refine⟨(Builtin.zeroCells z.cells m).toList,?_,?_,?_,by simpa using A,fun h=>absurd rfl h⟩
    ·rw[zeroCells_list];exact RelVals_repl hzr m
    ·intro v hv
     rw[zeroCells_list] at hv
     obtain⟨l,hl,hv⟩:=List.mem_flatten.1 hv
     grind
    simp[size_zeroCells,hzs]
   cases h
  cases h
 cases h
def kP (Y:Tab) (d:Nat) (t xt:TypeId) (s x:DV) (look fl:Nat->Option MO):Option Out:=
 match Y.underlying t with
 | some (.slice e)=>match Y.info? e with
  | some i=>match srcOf Y t xt i look s x with
   | some ys=>
    if decide (0<i.size)&&i.zero.isSome&&decide ((i.zero.getD default).cells.size=i.size) then
     match s with
     | .nils=>if (fl d).isNone then some ⟨j6 i.size ys&&decide (ys.length*i.bytes<=140737488355328/\ys.length<=9223372036854775807),.aref d 0,[(d,.arr 0 i.size e ys)]⟩ else none
     | .aref h v=>match look h with
      | some (.arr v' esz T es)=>if v=v'/\esz=i.size/\T=e then
        some ⟨j6 i.size ys&&decide ((es.length+ys.length)*i.bytes<=140737488355328/\es.length+ys.length<=9223372036854775807),.aref h (v+1),[(h,.arr (v+1) esz T (es++ys))]⟩ else none
      | _=>none
     | _=>none
    else none
   | none=>none
  | none=>none
 | _=>none
theorem maxLen_eq:maxLen=9223372036854775807:=ah
theorem appendV_sound (C:Ctx G w ρ ev look fl) {d:Nat} {t xt ty:TypeId} {s x:Operand} {out:Out} (h:kP Y d t xt (ev s) (ev x) look fl=some out) (hs:out.side=true) :
  ∃ r w' G',(Builtin.append_ #[t,xt] ty #[ρ s,ρ x]).run P w=.ok r w'/\Stepped G w fl out.val out.ms G' w' r:=by
 unfold kP at h
 split at h
 ·rename_i e ht
  split at h
  ·rename_i i hi
   split at h
   ·rename_i ys hy
    split at h
    rotate_left
    ·cases h
    rename_i hq
    simp only[zj,zf] at hq
    obtain⟨⟨hsz,hz⟩,hzs⟩:=hq
    obtain⟨z,hz⟩:=QO.1 hz
    rw[hz] at hzs
    simp only[zO] at hzs
    have hS:=C.sees.ev s
    split at h
    ·rename_i hns
     rw[hns] at hS
     simp only[qt] at hS
     split at h
     ·rename_i hd
      simp only[QK] at hd
      cases h
      simp only[zj,zf] at hs
      obtain⟨hal,hb,h63⟩:=hs
      have hall:∀ e'∈ys,e'.length=i.size:=by
       intro e' he'
       simp only[j6,zr,Wv] at hal
       exact hal e' he'
      have hnok:∀ o,fl d=some o->False:=fun o ho=>by rw[hd] at ho;cases ho
      obtain⟨vs,q2,q3,hfl,A,_⟩:=src_sound (P:=P) (ty:=ty) C.sees hy ht hi hz hzs hsz hall (C.sees.ev x)
      by_cases hy0:ys=[]
      ·subst hy0
       refine⟨_,w,G.turn d { arr:=true,esz:=i.size },by rw[hS];exact A.zero Z,?_⟩
       refine⟨kg Z Z Z Z (fun _ _=>rfl),?_,fun k o hm'=>?_,fun k o ho=>?_,fun k hh=>⟨?_,fun b hb=>⟨hb,rfl⟩⟩,fun b k hb=>C.cfresh b k hb,fun b k hb=>.inr hb,fun k hh=>?_,fun k o hk' k2 hh=>?_,fun b k hb=>.inl hb,fun _ _ _ _ h=>.inl h,fun _ _ _ h=>.inl h⟩
       ·simp only[qt,Gh.turn,ql]
        exact⟨zB _,fun _=>trivial⟩
       ·simp only[zg,zx] at hm'
        obtain⟨rfl,rfl⟩:=hm'
        simp[qW,Gh.turn]
       ·have:k≠d:=fun e=>by subst e;exact hnok o ho
        exact .inl (by simp only[Gh.turn,this,qm])
       ·simp only[zy,zX,zg] at hh
        simp only[Gh.turn,hh,qm]
       ·grind [DV.refs,List.mem_singleton]
       grind [List.mem_singleton,Prod.mk.injEq,MO.refs]
      have hyl:0<ys.length:=Xr.2 hy0
      have hr:=A.nil hyl aa aa
      have hge:=grownCap_ge w ys.length 0 e
      have hcm:=grownCap_le_maxLen w ys.length 0 e aD
      rw[hS]
      obtain⟨W',hW'⟩:∃ W',W'=w.drew.alloc (.cells (vs.toArray++Builtin.zeroCells z.cells (grownCap w ys.length 0 e-ys.length)) e):=⟨_,rfl⟩
      rw[<-hW'] at hr
      have hWn:W'.heap[w.heap.size]? =some (.cells (vs.toArray++Builtin.zeroCells z.cells (grownCap w ys.length 0 e-ys.length)) e):=by rw[hW'];exact heap_alloc_new w.drew _
      have hWs:w.heap.size<W'.heap.size:=by rw[hW'];simp
      have hWo:∀ b,b<w.heap.size->W'.heap[b]? =w.heap[b]? :=fun b hb=>by rw[hW'];exact heap_alloc_old w.drew _ b hb
      have h1:W'.os=w.os:=by rw[hW'];rfl
      have h2:W'.tape=w.tape:=by rw[hW'];rfl
      have h3:W'.output=w.output:=by rw[hW'];rfl
      refine⟨_,W',_,hr,stepped_regrow C (h:=d) (B:={ addr:=some ⟨w.heap.size,0,none⟩,len:=ys.length,cap:=grownCap w ys.length 0 e,esz:=i.size,arr:=true }) (fun o ho=>(hnok o ho).elim) h1 h2 h3 hWs hWo ?_ ?_ ak rfl⟩
      ·simp only[qt,Gh.jf,ql]
       exact⟨zB _,fun _=>trivial⟩
      simp only[qW]
      refine⟨by simp[Gh.jf],by simp[Gh.jf],by simp[Gh.jf],by simp[Gh.jf],by simpa [Gh.jf] using hge,hall,.inr ⟨w.heap.size,_,by simp[Gh.jf],by simp[Gh.jf],hWn,by simpa [Gh.jf] using hcm,?_,?_,?_⟩⟩
      ·simp only[Gh.jf,ql,XN,XZ,size_zeroCells,hzs,hfl,<-Nat.add_mul]
       congr 1;omega
      ·grind
      rw[Xk,zJ (by simp[hfl]),zz (by simp[hfl])]
      exact qw.mono (later_regrow h1 h2 h3 hWs hWo).rd _ _ q2
     cases h
    ·rename_i hh v hns
     rw[hns] at hS
     split at h
     ·rename_i v' esz T es hl
      split at h
      ·rename_i hq
       obtain⟨rfl,rfl,rfl⟩:=hq
       cases h
       simp only[zj,zf] at hs
       obtain⟨hal,hb,h63⟩:=hs
       obtain⟨k1,k2,k3,k4,k5,k6,k7⟩:=C.sees.look _ _ hl
       simp only[qt] at hS
       have hv:=hS.2 k2
       have hall:∀ e'∈ys,e'.length=i.size:=by
        intro e' he'
        simp only[j6,zr,Wv] at hal
        exact hal e' he'
       have hall2:∀ e'∈es++ys,e'.length=i.size:=by grind
       have hflen:∀ (l:List (List PV)),(∀ e∈l,e.length=i.size)->l.flatten.length=l.length*i.size:=by
        intro l
        induction l with
        | nil=>simp
        | cons e l ih=>intro hl;simp only[XW,za,zb,Wa,Wg];rw[hl e ao,ih (fun e' h'=>hl e' aq)];omega
       rw[hv,k4]
       obtain⟨vs,q2,q3,hfl,_,A'⟩:=src_sound (P:=P) (ty:=ty) C.sees hy ht hi hz hzs hsz hall (C.sees.ev x)
       have A:=A' (by rw[hns];simp)
       by_cases hy0:ys=[]
       ·subst hy0
        refine⟨_,w,G.turn hh { G.ρ hh with ver:=v+1 },A.zero Z _ _ _ k5,?_⟩
        refine q8 C (C.cfl _ _ hl) (.inr ⟨k1,by simp[Gh.turn];omega⟩) Z Z Z Z (fun _ _=>rfl) ?_ ?_ aE am
        ·simp only[qt,Gh.turn,ql]
         exact⟨zB _,fun _=>by rw[k4]⟩
        simp only[qW,Gh.turn,ql,zR]
        exact⟨k1,trivial,k3,k4,k5,k6,k7⟩
       have hyl:0<ys.length:=Xr.2 hy0
       rcases k7 with ⟨e1,e2⟩|⟨b',cc,e1,e2,e3,e4,e5,e6,e7⟩
       ·-- nothing yet
        have hes:es=[]:=zK aa
        subst hes
        simp only[zd,KT,zU] at hb h63 ⊢
        have hr:=A.nil hyl aa aa
        have hge:=grownCap_ge w ys.length 0 T
        have hcm:=grownCap_le_maxLen w ys.length 0 T aD
        rw[e1,e2]
        obtain⟨W',hW'⟩:∃ W',W'=w.drew.alloc (.cells (vs.toArray++Builtin.zeroCells z.cells (grownCap w ys.length 0 T-ys.length)) T):=⟨_,rfl⟩
        rw[<-hW'] at hr
        have hWn:W'.heap[w.heap.size]? =some (.cells (vs.toArray++Builtin.zeroCells z.cells (grownCap w ys.length 0 T-ys.length)) T):=by rw[hW'];exact heap_alloc_new w.drew _
        have hWs:w.heap.size<W'.heap.size:=by rw[hW'];simp
        have hWo:∀ b,b<w.heap.size->W'.heap[b]? =w.heap[b]? :=fun b hb=>by rw[hW'];exact heap_alloc_old w.drew _ b hb
        have h1:W'.os=w.os:=by rw[hW'];rfl
        have h2:W'.tape=w.tape:=by rw[hW'];rfl
        have h3:W'.output=w.output:=by rw[hW'];rfl
        refine⟨_,W',_,hr,stepped_regrow C (h:=hh) (B:={ addr:=some ⟨w.heap.size,0,none⟩,len:=ys.length,cap:=grownCap w ys.length 0 T,esz:=i.size,ver:=v+1,arr:=true }) (fun o ho=>.inr ⟨k1,by simp[Gh.jf];omega⟩) h1 h2 h3 hWs hWo ?_ ?_ ak rfl⟩
        ·simp only[qt,Gh.jf,ql]
         exact⟨zB _,fun _=>trivial⟩
        simp only[qW]
        refine⟨by simp[Gh.jf],by simp[Gh.jf],by simp[Gh.jf],by simp[Gh.jf],by simpa [Gh.jf] using hge,hall,.inr ⟨w.heap.size,_,by simp[Gh.jf],by simp[Gh.jf],hWn,by simpa [Gh.jf] using hcm,?_,?_,?_⟩⟩
        ·simp only[Gh.jf,ql,XN,XZ,size_zeroCells,hzs,hfl,<-Nat.add_mul]
         congr 1;omega
        ·grind
        rw[Xk,zJ (by simp[hfl]),zz (by simp[hfl])]
        exact qw.mono (later_regrow h1 h2 h3 hWs hWo).rd _ _ q2
       have hxl:(cc.toList.take (es.length*i.size)).length=es.length*i.size:=by
        have:es.length*i.size<=cc.size:=by rw[e5];exact Xh _ k5
        simp;omega
       have hapl:(cc.toList.take (es.length*i.size)++vs).length=(es++ys).length*i.size:=by grind
       rw[e1]
       by_cases hroom:es.length+ys.length<=(G.ρ hh).cap
       ·-- in place
        have hfit:es.length*i.size+vs.length<=cc.size:=by rw[hfl,e5,<-Nat.add_mul];exact Xh _ hroom
        have hr:=A.room hyl b' es.length (G.ρ hh).cap cc e3 q3 hroom hfit
        have hblk:∀ b'',G.γ b''≠some hh->(w.setRow b' (cc.toList.take (es.length*i.size)++vs++cc.toList.drop (es.length*i.size+vs.length)).toArray).heap[b'']? =w.heap[b'']? :=by
         intro b'' hb''
         exact setRow_other w b' b'' _ (fun e=>hb'' az)
        refine⟨_,_,G.turn hh { G.ρ hh with ver:=v+1,len:=es.length+ys.length },hr,?_⟩
        refine q8 C (C.cfl _ _ hl) (.inr ⟨k1,by simp[Gh.turn];omega⟩) Z Z Z ao hblk ?_ ?_ aE am
        ·simp only[qt,Gh.turn,ql]
         exact⟨zB _,fun _=>by rw[e1]⟩
        simp only[qW,Gh.turn,ql]
        have ht2:(cc.toList.take (es.length*i.size)++vs++cc.toList.drop (es.length*i.size+vs.length)).take ((es++ys).length*i.size)=cc.toList.take (es.length*i.size)++vs:=by rw[<-hapl];exact J6
        refine⟨k1,trivial,k3,by simp,by simpa using hroom,hall2,.inr ⟨b',_,e1,e2,setRow_heap w b' cc _ T _ e3,e4,?_,?_,?_⟩⟩
        ·simp only[XZ,za,hxl,zo,qf]
         rw[<-e5];omega
        ·rw[ht2]
         intro y hy
         rcases zH.1 hy with hy|hy
         ·exact e6 y hy
         exact q3 y hy
        rw[ht2,Xn]
        exact qw.mono (kg (G:=G) (h:=hh) (w:=w) (w':=w.setRow b' (cc.toList.take (es.length*i.size)++vs++cc.toList.drop (es.length*i.size+vs.length)).toArray) Z Z Z ao hblk).rd _ _ (e7.append q2)
       -- a new block
       have holds:∀ j u,(cc.toList.take (es.length*i.size))[j]? =some u->w.cell? ((⟨b',0,none⟩:Addr).add j)=some u:=by
        intro j u hj
        rw[Addr.add_lit,KT,World.cell?_of_heap e3]
        rw[qj] at hj
        split at hj
        ·simpa using hj
        cases hj
       have hr:=A.grow hyl ⟨b',0,none⟩ es.length (G.ρ hh).cap (cc.toList.take (es.length*i.size)) hxl holds aa aa (growslice_fits aa hb)
       have hge:=grownCap_ge w (es.length+ys.length) (G.ρ hh).cap T
       have hcm:=grownCap_le_maxLen w (es.length+ys.length) (G.ρ hh).cap T aD
       generalize hnc:grownCap w (es.length+ys.length) (G.ρ hh).cap T=ncap at hr hge hcm
       obtain⟨W',hW'⟩:∃ W',W'=w.drew.alloc (.cells ((cc.toList.take (es.length*i.size)).toArray++vs.toArray++Builtin.zeroCells z.cells (ncap-(es.length+ys.length))) T):=⟨_,rfl⟩
       rw[<-hW'] at hr
       have hWn:W'.heap[w.heap.size]? =some (.cells ((cc.toList.take (es.length*i.size)).toArray++vs.toArray++Builtin.zeroCells z.cells (ncap-(es.length+ys.length))) T):=by rw[hW'];exact heap_alloc_new w.drew _
       have hWs:w.heap.size<W'.heap.size:=by rw[hW'];simp
       have hWo:∀ b,b<w.heap.size->W'.heap[b]? =w.heap[b]? :=fun b hb=>by rw[hW'];exact heap_alloc_old w.drew _ b hb
       have h1:W'.os=w.os:=by rw[hW'];rfl
       have h2:W'.tape=w.tape:=by rw[hW'];rfl
       have h3:W'.output=w.output:=by rw[hW'];rfl
       have ht2:((cc.toList.take (es.length*i.size)).toArray++vs.toArray++Builtin.zeroCells z.cells (ncap-(es.length+ys.length))).toList.take ((es++ys).length*i.size)=cc.toList.take (es.length*i.size)++vs:=by
        rw[<-hapl]
        simp only[Xk]
        exact J6
       refine⟨_,W',_,hr,stepped_regrow C (h:=hh) (B:={ addr:=some ⟨w.heap.size,0,none⟩,len:=es.length+ys.length,cap:=ncap,esz:=i.size,ver:=v+1,arr:=true }) (fun o ho=>.inr ⟨k1,by simp[Gh.jf];omega⟩) h1 h2 h3 hWs hWo ?_ ?_ ak rfl⟩
       ·simp only[qt,Gh.jf,ql]
        exact⟨zB _,fun _=>trivial⟩
       simp only[qW]
       refine⟨by simp[Gh.jf],by simp[Gh.jf],by simp[Gh.jf],by simp[Gh.jf],by simpa [Gh.jf] using hge,hall2,.inr ⟨w.heap.size,_,by simp[Gh.jf],by simp[Gh.jf],hWn,by simpa [Gh.jf] using hcm,?_,?_,?_⟩⟩
       ·simp only[Gh.jf,ql,XN,XZ,size_zeroCells,hzs,hfl,hxl,<-Nat.add_mul]
        congr 1;omega
       ·rw[ht2]
        intro y hy
        rcases zH.1 hy with hy|hy
        ·exact e6 y hy
        exact q3 y hy
       rw[ht2,Xn]
       exact qw.mono (later_regrow h1 h2 h3 hWs hWo).rd _ _ (e7.append q2)
      cases h
     cases h
    cases h
   cases h
  cases h
 cases h
end
structure ZZ (G:Gh) (look:Nat->Option MO) (w:World):Prop where
 ms:∀ h o,look h=some o->qW G w h o
 fresh:∀ b h,G.γ b=some h->b<w.heap.size
 own:∀ b h,G.γ b=some h->∃ o,look h=some o
 refsM:∀ k o h,look k=some o->h∈o.refs->∃ o',look h=some o'
 r0:∀ b o v,b<G.base->G.R0.cell b o=some v->G.γ b=none/\w.cell? ⟨b,o,none⟩=some v
 r0m:∀ r es,r<G.base->G.R0.map r=some es->G.γ r=none/\kL w r=some es
 baseLe:G.base<=w.heap.size
 laid:∀ b o,Lz.L b=some o->G.γ b=none/\w.heap[b]? =some o
theorem Inv.mem {G:Gh} {σ:Vw} {a:Act} {w:World} (I:Inv G σ a w):ZZ G σ.look w:=
 ⟨I.ms,I.fresh,I.own,I.refsM,I.r0,I.r0m,I.baseLe,I.laid⟩
theorem ZZ.inv {G:Gh} {look:Nat->Option MO} {w:World} (M:ZZ G look w):Inv G ⟨fun _=>.dead,look⟩ ⟨#[],[]⟩ w:=
 ⟨fun s=>by simp only[qt],fun _ _=>rfl,M.ms,M.fresh,M.own,fun s h hh=>by simp[DV.refs] at hh,M.refsM,M.r0,M.r0m,M.baseLe,M.laid⟩
theorem ZZ.readable {G:Gh} {look:Nat->Option MO} {w:World} (M:ZZ G look w) :
  (∀ b o v,(G.rd w).cell b o=some v->w.cell? ⟨b,o,none⟩=some v)/\(∀ r es,(G.rd w).map r=some es->kL w r=some es):=M.inv.sees
def upd (ms:Na) (look:Nat->Option MO):Nat->Option MO:=fun h=>match jw ms h with|some o=>some o|none=>look h
theorem ZZ.out {G G':Gh} {look:Nat->Option MO} {w w':World} {val:DV} {ms:Na} {r:Value} (M:ZZ G look w) (S:Stepped G w look val ms G' w' r):ZZ G' (upd ms look) w':=
 (M.inv.out S none ao).mem
theorem upd_some {ms:Na} {look:Nat->Option MO} {h:Nat} (e:h∈ms.map (·.1)\/∃ o,look h=some o):∃ o,upd ms look h=some o:=by
 unfold upd
 cases hm:jw ms h with
 | some o=>exact⟨o,rfl⟩
 | none=>
  rcases e with e|e
  ·obtain⟨o,ho⟩:=assocM_some e;rw[ho] at hm;cases hm
  exact e
theorem upd_or {ms:Na} {look:Nat->Option MO} {h:Nat} (e:∃ o,upd ms look h=some o):h∈ms.map (·.1)\/∃ o,look h=some o:=by
 unfold upd at e
 cases hm:jw ms h with
 | some o=>exact .inl (zE.2 ⟨_,ke hm,rfl⟩)
 | none=>rw[hm] at e;exact .inr e
def mrg (ms2 ms1:Na):Na:=ms2++ms1.filter fun p=>(jw ms2 p.1).isNone
theorem assocM_append (l m:Na) (h:Nat):jw (l++m) h=match jw l h with|some o=>some o|none=>jw m h:=by
 induction l with
 | nil=>rfl
 | cons p l ih=>
  grind [jw]
theorem mem_mrg {ms2 ms1:Na} {h:Nat}:h∈(mrg ms2 ms1).map (·.1)↔h∈ms2.map (·.1)\/h∈ms1.map (·.1):=by
 unfold mrg
 simp only[z8,zH]
 constructor
 ·grind
 rintro (e|e)
 ·exact .inl e
 by_cases h2:h∈ms2.map (·.1)
 ·exact .inl h2
 obtain⟨p,hp,rfl⟩:=zE.1 e
 refine .inr (zE.2 ⟨p,JC.2 ⟨hp,?_⟩,rfl⟩)
 cases hm:jw ms2 p.1 with
 | none=>rfl
 | some o=>exact absurd (zE.2 ⟨_,ke hm,rfl⟩) h2
theorem Gh.keeps.trans {G G' G'':Gh} {h:Nat} (k:G.keeps G' h) (l:G'.keeps G'' h):G.keeps G'' h:=by
 rcases k with e|⟨e1,e2⟩
 ·rcases l with e'|⟨e1',e2'⟩
  ·exact .inl (e'.trans e)
  rw[e] at e1' e2';exact .inr ⟨e1',e2'⟩
 rcases l with e'|⟨_,e2'⟩
 ·exact .inr ⟨e1,by rw[e'];exact e2⟩
 exact .inr ⟨e1,aa⟩
theorem Stepped.trans {G G1 G2:Gh} {w w1 w2:World} {look:Nat->Option MO} {v1 v2:DV} {ms1 ms2:Na} {r1 r2:Value}
  (M:ZZ G look w) (S:Stepped G w look v1 ms1 G1 w1 r1) (T:Stepped G1 w1 (upd ms1 look) v2 ms2 G2 w2 r2):Stepped G w look v2 (mrg ms2 ms1) G2 w2 r2:=by
 have M1:=M.out S
 have L:=S.later.trans T.later
 have back:∀ {b h},G2.γ b=some h->G.γ b=some h\/w.heap.size<=b:=by
  intro b h hb
  rcases T.newb b h hb with e|e
  ·exact S.newb b h e
  exact .inr (qd S.later.size e)
 refine⟨L,T.hval,fun h o hm=>?_,fun h o ho=>?_,fun h hh=>?_,T.fresh,fun b h hb=>?_,fun h hh=>?_,fun k o hk h hh=>?_,fun b h hb=>back hb,fun b o v hb hv=>?_,fun r es hb hv=>?_⟩
 ·simp only[mrg,zH,JC,QK] at hm
  rcases hm with hm|⟨hm,hn⟩
  ·exact T.hms h o hm
  obtain⟨h1,h2⟩:=T.old h (assocM_none hn)
  have hm1:=S.hms h o hm
  refine qW.mono T.later h1 h2 o (fun k hk=>?_) hm1
  obtain⟨o',ho'⟩:=upd_some (S.refsM h o hm k hk)
  exact T.keeps k o' ho'
 ·obtain⟨o',ho'⟩:=upd_some (ms:=ms1) (.inr ⟨o,ho⟩)
  exact (S.keeps h o ho).trans (T.keeps h o' ho')
 ·rw[mem_mrg] at hh
  obtain⟨e1,e2⟩:=S.old h fun e=>hh (.inr e)
  obtain⟨e3,e4⟩:=T.old h fun e=>hh (.inl e)
  grind
 ·rcases T.own b h hb with e|e
  ·exact .inl (mem_mrg.2 (.inl e))
  rcases S.own b h e with e|e
  ·exact .inl (mem_mrg.2 (.inr e))
  exact .inr e
 ·rcases T.refs h hh with e|e
  ·exact .inl (mem_mrg.2 (.inl e))
  rcases upd_or e with e|e
  ·exact .inl (mem_mrg.2 (.inr e))
  exact .inr e
 ·have fin:(h∈ms2.map (·.1)\/∃ o',upd ms1 look h=some o')->h∈(mrg ms2 ms1).map (·.1)\/∃ o',look h=some o':=by
   rintro (e|e)
   ·exact .inl (mem_mrg.2 (.inl e))
   rcases upd_or e with e|e
   ·exact .inl (mem_mrg.2 (.inr e))
   exact .inr e
  simp only[mrg,zH,JC] at hk
  rcases hk with hk|⟨hk,_⟩
  ·exact fin (T.refsM k o hk h hh)
  rcases S.refsM k o hk h hh with e|e
  ·exact .inl (mem_mrg.2 (.inr e))
  exact .inr e
 ·have hb1:b<G1.base:=by rw[S.later.base];exact hb
  rcases T.r0 b o v hb1 hv with e|e
  ·rcases S.r0 b o v hb e with e'|⟨e1,e2⟩
   ·exact .inl e'
   obtain⟨k1,k2⟩:=T.later.cold b (World.cell?_lt e2) e1
   exact .inr ⟨k2,by rw[World.cell?_eq_of k1];exact e2⟩
  exact .inr e
 have hb1:r<G1.base:=by rw[S.later.base];exact hb
 rcases T.r0m r es hb1 hv with e|e
 ·rcases S.r0m r es hb e with e'|⟨e1,e2⟩
  ·exact .inl e'
  obtain⟨k1,k2⟩:=T.later.cold r (mapAt_lt e2) e1
  exact .inr ⟨k2,by unfold kL at e2 ⊢;rw[k1];exact e2⟩
 exact .inr e
def frzStep (look:Nat->Option MO) (h:Nat):Option MO:=
 match look h with
 | some (.arr v _ _ es)=>some (.farr v es)
 | some (.map ks vs)=>some (.fmap ks vs)
 | some (.box _ ds)=>(pvOfL look ds).map .fbox
 | _=>none
section
variable {P:Program} {Y:Tab} [qH P Y] {G:Gh} {w:World} {look:Nat->Option MO}
def Gh.Z3 (G:Gh) (w:World) (h:Nat):Gh:=
 { G with
  γ:=fun b=>if G.γ b=some h then none else G.γ b
  R0:=⟨fun b o=>if b<G.base/\G.γ b=some h then w.cell? ⟨b,o,none⟩ else G.R0.cell b o,fun r=>if r<G.base/\G.γ r=some h then kL w r else G.R0.map r⟩ }
theorem later_cool (M:ZZ G look w) (h:Nat):Later G w (G.Z3 w h) w:=by
 refine⟨rfl,⟨fun b o v hv=>?_,fun r es hr=>?_⟩,fun b o v _ hv=>?_,fun r es _ hr=>?_,rfl,rfl,rfl,zB _,fun b _ hg=>⟨rfl,?_⟩,fun _=>zB _⟩
 ·simp only[Gh.Z3]
  split
  ·rename_i hg
   have:=(M.r0 b o v hg.1 hv).1;rw[hg.2] at this;cases this
  exact hv
 ·simp only[Gh.Z3]
  split
  ·rename_i hg
   have:=(M.r0m r es hg.1 hr).1;rw[hg.2] at this;cases this
  exact hr
 ·grind [Gh.Z3]
 ·grind [Gh.Z3]
 simp only[Gh.Z3];rw[WJ ay];exact hg
theorem cool_rd_cell {h b:Nat} (hb:G.γ b=some h) {c:Array Value} {T:TypeId} (hc:w.heap[b]? =some (.cells c T (0,0))) {j:Nat} {v:Value} (hj:c[j]? =some v):((G.Z3 w h).rd w).cell b j=some v:=by
 have hcell:w.cell? ⟨b,j,none⟩=some v:=by rw[World.cell?_of_heap hc];exact hj
 have hbase:(G.Z3 w h).base=G.base:=rfl
 simp only[Gh.rd,hbase]
 by_cases hlt:b<G.base
 ·rw[WK hlt]
  simp only[Gh.Z3,hlt,hb,WF,ql]
  exact hcell
 rw[WJ hlt,WK (by simp only[Gh.Z3,hb,ql])]
 exact hcell
theorem cool_rd_map {h r:Nat} (hr:G.γ r=some h) {es:Array MapEntry} (hm:kL w r=some es):((G.Z3 w h).rd w).map r=some es:=by
 have hbase:(G.Z3 w h).base=G.base:=rfl
 simp only[Gh.rd,hbase]
 by_cases hlt:r<G.base
 ·rw[WK hlt]
  simp only[Gh.Z3,hlt,hr,WF,ql]
  exact hm
 rw[WJ hlt,WK (by simp only[Gh.Z3,hr,ql])]
 exact hm
theorem cool_r0 (M:ZZ G look w) (h:Nat):∀ b o v,b<G.base->(G.Z3 w h).R0.cell b o=some v->G.R0.cell b o=some v\/((G.Z3 w h).γ b=none/\w.cell? ⟨b,o,none⟩=some v):=by grind [Gh.Z3]
theorem cool_r0m (M:ZZ G look w) (h:Nat):∀ r es,r<G.base->(G.Z3 w h).R0.map r=some es->G.R0.map r=some es\/((G.Z3 w h).γ r=none/\kL w r=some es):=by grind [Gh.Z3]
theorem stepped_cool (M:ZZ G look w) {h:Nat} {o:MO} (hm:qW (G.Z3 w h) w h o) (hr:o.refs=[]):Stepped G w look .dead [(h,o)] (G.Z3 w h) w undef:=by
 refine⟨later_cool M h,by simp only[qt],fun k o' hm'=>?_,fun k o' _=>.inl rfl,fun k hh=>⟨rfl,fun b hb=>⟨?_,rfl⟩⟩,fun b k hb=>?_,fun b k hb=>?_,by simp[DV.refs],fun k o' hk' k2 hh=>?_,fun b k hb=>?_,cool_r0 M h,cool_r0m M h⟩
 ·grind
 ·grind [List.mem_singleton,Gh.Z3]
 ·simp only[Gh.Z3] at hb
  split at hb
  ·cases hb
  exact M.fresh b k hb
 ·grind [Gh.Z3]
 ·grind
 grind [Gh.Z3]
theorem frz_stepped (M:ZZ G look w) {h:Nat} {o:MO} (hf:frzStep look h=some o):∃ G',Stepped G w look .dead [(h,o)] G' w undef:=by
 have L:=later_cool M h
 refine⟨_,stepped_cool M ?_ ?_⟩
 ·unfold frzStep at hf
  split at hf
  ·rename_i v esz T es hl
   cases hf
   obtain⟨k1,k2,k3,k4,k5,k6,k7⟩:=M.ms _ _ hl
   refine⟨k1,k2,k4,k5,?_⟩
   rcases k7 with ⟨e1,e2⟩|⟨b,cc,e1,e2,e3,e4,e5,e6,e7⟩
   ·exact .inl (zK aa)
   refine .inr ⟨b,0,esz,e1,k3,qQ.mk k6 (qw.mono L.rd _ _ e7) e6 (fun j v hj=>?_)⟩
   rw[qj] at hj
   split at hj
   ·rw[KT];exact cool_rd_cell e2 e3 an
   cases hj
  ·rename_i ks vs hl
   cases hf
   obtain⟨k1,es,clock,e1,e2,e3,e4⟩:=M.ms _ _ hl
   exact⟨k1,es,cool_rd_map e1 (by unfold kL;rw[e2]),qw.mono L.rd _ _ e3,qw.mono L.rd _ _ e4⟩
  ·rename_i ds hl
   cases hp:pvOfL look ds with
   | none=>rw[hp] at hf;cases hf
   | some ps=>
    rw[hp] at hf
    cases hf
    obtain⟨k1,b,c,e1,e2,e3,e4,e5⟩:=M.ms _ _ hl
    refine⟨k1,b,e1,?_⟩
    have hv:=ZQ (fun k m hk=>M.ms k m hk) hp e5
    refine qY.mk (qw.mono L.rd _ _ hv) e4 (fun j v hj=>?_)
    rw[KT];exact cool_rd_cell e2 e3 an
  cases hf
 unfold frzStep at hf
 split at hf
 ·cases hf;rfl
 ·cases hf;rfl
 ·obtain⟨ps,_,rfl⟩:=QZ.1 hf;rfl
 cases hf
def frzU (look:Nat->Option MO):List Nat->Na
 | []=>[]
 | h::hs=>match frzStep look h with
  | some o=>mrg (frzU (upd [(h,o)] look) hs) [(h,o)]
  | none=>frzU look hs
theorem frzU_stepped:∀ (hs:List Nat) {G:Gh} {look:Nat->Option MO},ZZ G look w->∃ G',Stepped G w look .dead (frzU look hs) G' w undef
 | [],G,look,M=>⟨G,Later.refl _ _,by simp only[qt],by simp[frzU],fun _ _ _=>.inl rfl,fun _ _=>⟨rfl,fun _ hb=>⟨hb,rfl⟩⟩,M.fresh,fun _ _ hb=>.inr hb,by simp[DV.refs],by simp[frzU],fun _ _ hb=>.inl hb,fun _ _ _ _ h=>.inl h,fun _ _ _ h=>.inl h⟩
 | h::hs,G,look,M=>by
  simp only[frzU]
  split
  ·rename_i o hf
   obtain⟨G1,S1⟩:=frz_stepped M hf
   obtain⟨G2,S2⟩:=frzU_stepped hs (M.out S1)
   exact⟨G2,S1.trans M S2⟩
  exact frzU_stepped hs M
def truncU (look:Nat->Option MO) (d:DV):Option (DV×Nat×MO):=
 match d with
 | .atrunc h v k=>match look h with
  | some (.arr v' esz T es)=>if v=v' then some (.aref h (v+1),h,.arr (v+1) esz T (es.take k)) else none
  | _=>none
 | _=>none
theorem trunc_stepped (M:ZZ G look w) {d e:DV} {h:Nat} {o:MO} {x:Value} (hx:qt G (G.rd w) d x) (ht:truncU look d=some (e,h,o)) :
  ∃ G',Stepped G w look e [(h,o)] G' w x:=by
 unfold truncU at ht
 split at ht
 ·rename_i hh v k
  split at ht
  ·rename_i v' esz T es hl
   split at ht
   ·rename_i hq
    subst hq
    cases ht
    simp only[qt] at hx
    obtain⟨k1,k2,k3,k4,k5,k6,k7⟩:=M.ms _ _ hl
    obtain⟨hk,hv⟩:=hx.2 k2
    rw[k4] at hk
    have S:Stepped G w look (.aref h (v+1)) [(h,.arr (v+1) esz T (es.take k))] (G.turn h { G.ρ h with ver:=v+1,len:=k }) w x:=by
     refine⟨kg Z Z Z Z (fun _ _=>rfl),?_,fun k' o' hm'=>?_,fun k' o' _=>?_,fun k' hh=>⟨?_,fun b hb=>⟨hb,rfl⟩⟩,fun b k' hb=>M.fresh b k' hb,fun b k' hb=>.inr hb,fun k' hh=>?_,fun k' o' hk' k2' hh=>?_,fun b k' hb=>.inl hb,fun _ _ _ _ h=>.inl h,fun _ _ _ h=>.inl h⟩
     ·simp only[qt,Gh.turn,ql]
      exact⟨zB _,fun _=>hv⟩
     ·simp only[zg,zx] at hm'
      obtain⟨rfl,rfl⟩:=hm'
      have hlt:(es.take k).length=k:=by grind
      simp only[qW,Gh.turn,ql]
      refine⟨k1,trivial,k3,hlt.symm,aa,fun e he=>k6 e (zu he),?_⟩
      rcases k7 with ⟨e1,e2⟩|⟨b,cc,e1,e2,e3,e4,e5,e6,e7⟩
      ·exact .inl ⟨e1,e2⟩
      right
      have hle:(es.take k).length*esz<=es.length*esz:=Xh _ aa
      have htk:cc.toList.take ((es.take k).length*esz)=(cc.toList.take (es.length*esz)).take ((es.take k).length*esz):=by grind
      refine⟨b,cc,e1,e2,e3,e4,e5,?_,?_⟩
      ·grind
      rw[htk]
      have hfl:(es.take k).flatten=es.flatten.take ((es.take k).length*esz):=by
       have h0:es.flatten=(es.take k).flatten++(es.drop k).flatten:=by rw[<-List.flatten_append,Q8]
       have h1:(es.take k).flatten.length=(es.take k).length*esz:=by
        have:∀ (l:List (List PV)),(∀ e∈l,e.length=esz)->l.flatten.length=l.length*esz:=by
         intro l
         induction l with
         | nil=>simp
         | cons e l ih=>intro hl;simp only[XW,za,zb,Wa,Wg];rw[hl e ao,ih (fun e' h'=>hl e' aq)];omega
        grind
       rw[h0,<-h1];simp
      rw[hfl]
      exact e7.take _
     ·by_cases e:k'=h
      ·subst e;exact .inr ⟨k1,by simp[Gh.turn];omega⟩
      exact .inl (by simp only[Gh.turn,e,qm])
     ·simp only[zy,zX,zg] at hh
      simp only[Gh.turn,hh,qm]
     ·grind [DV.refs,List.mem_singleton]
     grind [List.mem_singleton,Prod.mk.injEq,MO.refs]
    exact⟨_,S⟩
   cases ht
  cases ht
 cases ht
end
section
variable {P:Program} {Y:Tab} [qH P Y] {G:Gh} {w:World} {ρ:Operand->Value} {ev:Operand->DV} {look fl:Nat->Option MO}
theorem qD (C:Ctx G w ρ ev look fl) {val:DV} {r:Value} (hv:qt G (G.rd w) val r) (hr:∀ h∈val.refs,∃ o,fl h=some o):Stepped G w fl val [] G w r:=
 ⟨Later.refl _ _,hv,by simp,fun _ _ _=>.inl rfl,fun _ _=>⟨rfl,fun _ hb=>⟨hb,rfl⟩⟩,C.cfresh,fun _ _ hb=>.inr hb,fun h hh=>.inr (hr h hh),by simp,fun _ _ hb=>.inl hb,fun _ _ _ _ h=>.inl h,fun _ _ _ h=>.inl h⟩
theorem fold_set (L:List Value):∀ (k off:Nat) (cs:Array Value),off+k+L.length<=cs.size->
  ((L.zipIdx k).foldl (fun cs (x:Value×Nat)=>cs.setIfInBounds (off+x.2) x.1) cs).toList=cs.toList.take (off+k)++L++cs.toList.drop (off+k+L.length):=by
 induction L with
 | nil=>intro k off cs h;simp
 | cons v L ih=>
  intro k off cs h
  simp only[zb] at h
  simp only[List.zipIdx_cons,JA]
  rw[ih (k+1) off _ aF]
  have e:=list_seg_step cs.toList (off+k) v L aF
  simpa [Qq,Kk] using e
def placeOf (Y:Tab) (t:TypeId) (i:Nat):Option (Nat×Nat):=
 match Y.underlying t with
 | some (.struct fs)=>match fs[i]? with
  | some f=>(szT Y f.type).map fun n=>(f.offset,n)
  | none=>none
 | some (.array _ e)=>(szT Y e).map fun n=>(i*n,n)
 | _=>none
def fillDV (look:Nat->Option MO) (place:Nat->Option (Nat×Nat)) (ds:List DV):List (Nat×DV)->Option (List DV)
 | []=>some ds
 | (i,x)::rest=>match place i with
  | some (off,n)=>
   if Zg look x&&(kC x).length==n&&decide (off+n<=ds.length) then fillDV look place (ds.take off++kC x++ds.drop (off+n)) rest else none
  | none=>none
theorem fillDV_sound (S:Sees G w ρ ev look) (place:Nat->Option (Nat×Nat)):∀ (parts:List (Nat×Operand)) (ds ds':List DV) (cs:Array Value),fillDV look place ds (parts.map fun p=>(p.1,ev p.2))=some ds'->
  qz G (G.rd w) ds cs.toList->(∀ x∈cs.toList,x.oneCell'=true)->
  ∃ cs',Instr.fill place cs (parts.map fun p=>(p.1,ρ p.2))=some cs'/\qz G (G.rd w) ds' cs'.toList/\(∀ x∈cs'.toList,x.oneCell'=true)
 | [],ds,ds',cs,h,H,ho=>by
  simp only[zX,fillDV,zh] at h
  subst h
  exact⟨cs,rfl,H,ho⟩
 | (i,x)::rest,ds,ds',cs,h,H,ho=>by
  simp only[zy,fillDV] at h
  cases hp:place i with
  | none=>rw[hp] at h;cases h
  | some pr=>
   obtain⟨off,n⟩:=pr
   rw[hp] at h
   simp only at h
   split at h
   ·rename_i hq
    simp only[zj,Wv,zf] at hq
    obtain⟨⟨hok,hn⟩,hfit⟩:=hq
    obtain⟨X,Xo⟩:=cellsDV_sound S.look (S.ev x) hok
    have hxl:=X.length
    rw[hn] at hxl
    have hcl:=H.length
    have hsz:(ρ x).cells.size=n:=by simpa using hxl
    have hcs:cs.size=ds.length:=by simpa using hcl
    have hf:=fold_set (ρ x).cells.toList 0 off cs (by rw[hxl];omega)
    simp only[KD,hxl] at hf
    have hnew:((ρ x).cells.zipIdx.foldl (fun cs (x:Value×Nat)=>cs.setIfInBounds (off+x.2) x.1) cs).toList=cs.toList.take off++(ρ x).cells.toList++cs.toList.drop (off+n):=by rw[<-Array.foldl_toList,Array.toList_zipIdx];exact hf
    obtain⟨cs',k1,k2,k3⟩:=fillDV_sound S place rest _ ds' ((ρ x).cells.zipIdx.foldl (fun cs (x:Value×Nat)=>cs.setIfInBounds (off+x.2) x.1) cs) h
     (by rw[hnew];exact ((H.take off).append X).append (H.drop (off+n)))
     (by
      rw[hnew]
      intro y hy
      simp only[zH] at hy
      rcases hy with (hy|hy)|hy
      ·grind
      ·exact Xo y hy
      exact ho y (zw hy))
    refine⟨cs',?_,k2,k3⟩
    simp only[zy,Instr.fill,hp]
    grind
   cases h
theorem fillDV_refs (place:Nat->Option (Nat×Nat)):∀ (parts:List (Nat×DV)) (ds ds':List DV),fillDV look place ds parts=some ds'->∀ h∈DV.qL ds',h∈DV.qL ds\/∃ p∈parts,h∈p.2.refs
 | [],ds,ds',h,k,hk=>by simp only[fillDV,zh] at h;subst h;exact .inl hk
 | (i,x)::rest,ds,ds',h,k,hk=>by
  simp only[fillDV] at h
  cases hp:place i with
  | none=>rw[hp] at h;cases h
  | some pr=>
   obtain⟨off,n⟩:=pr
   rw[hp] at h
   simp only at h
   split at h
   ·rcases fillDV_refs place rest _ ds' h k hk with hk|⟨p,hp',hk⟩
    ·rw[jz] at hk
     obtain⟨d,hd,hkd⟩:=hk
     simp only[zH] at hd
     rcases hd with (hd|hd)|hd
     ·exact .inl (jz.2 ⟨d,zu hd,hkd⟩)
     ·exact .inr ⟨(i,x),by simp,refs_cellsDV k (jz.2 ⟨d,hd,hkd⟩)⟩
     exact .inl (jz.2 ⟨d,zw hd,hkd⟩)
    grind
   cases h
def placed (Y:Tab) (t:TypeId):Bool:=
 match Y.underlying t with
 | some (.struct fs)=>fs.toList.all fun f=>(szT Y f.type).isSome
 | some (.array _ e)=>(szT Y e).isSome
 | _=>false
theorem run_places:∀ (fs:List Field),fs.all (fun f=>(szT Y f.type).isSome)=true->
  (fs.mapM (fun f=>do pure (f.offset,<-sizeOf f.type):Field->Sem (Nat×Nat))).run P w=.ok (fs.map fun f=>(f.offset,(szT Y f.type).getD 0)) w
 | [],_=>by simp
 | f::fs,h=>by
  simp only[Kh,zj] at h
  obtain⟨n,hn⟩:=QO.1 h.1
  have ih:=run_places fs h.2
  simp only[List.mapM_cons,qp,qX hn,qo,qq,ih,zy,hn,zO]
def buildV (Y:Tab) (t:TypeId) (parts:List (Nat×Operand)) (ev:Operand->DV) (look:Nat->Option MO):Option Out:=
 match (Y.info? t).bind (·.zero) with
 | some z=>if plainCells z&&placed Y t then
   match fillDV look (placeOf Y t) (z.cells.toList.map cellDV) (parts.map fun p=>(p.1,ev p.2)) with
   | some ds=>some ⟨true,mkAgg ds,[]⟩
   | none=>none
  else none
 | none=>none
theorem buildV_sound (C:Ctx G w ρ ev look fl) {t:TypeId} {parts:Array (Nat×Operand)} {out:Out} (h:buildV Y t parts.toList ev look=some out) :
  ∃ r,(Instr.build t (parts.map fun (i,x)=>(i,ρ x))).run P w=.ok r w/\Stepped G w fl out.val out.ms G w r:=by
 unfold buildV at h
 split at h
 ·rename_i z hz
  split at h
  ·rename_i hpl
   simp only[zj] at hpl
   obtain⟨hpl,hplaced⟩:=hpl
   split at h
   ·rename_i ds hf
    cases h
    obtain⟨i,hi,hz⟩:=qg.1 hz
    simp only[plainCells,zr] at hpl
    have hze:(zeroValue t).run P w=.ok z w:=by simp[zeroValue,typeInfo,qH.inf P hi,hz]
    obtain⟨cs',k1,k2,k3⟩:=fillDV_sound C.sees (placeOf Y t) parts.toList _ ds z.cells hf (cellDVs_sound _) hpl
    have hpm:(parts.map fun (i,x)=>(i,ρ x)).toList=parts.toList.map (fun p=>(p.1,ρ p.2)):=by simp
    refine⟨.agg cs',?_,qD C ?_ ?_⟩
    ·unfold placed at hplaced
     split at hplaced
     ·rename_i fs hu
      have hpl:=run_places (P:=P) (w:=w) fs.toList hplaced
      have hpa:(fs.mapM (fun f=>do pure (f.offset,<-sizeOf f.type):Field->Sem (Nat×Nat))).run P w=.ok (fs.toList.map fun f=>(f.offset,(szT Y f.type).getD 0)).toArray w:=by
       rw[QA]
       simp only[Sem.run_map,hpl,qo]
      have hpe:(fun i=>(fs.toList.map fun f=>(f.offset,(szT Y f.type).getD 0)).toArray[i]?)=placeOf Y t:=by
       funext i
       simp only[placeOf,hu,Q6,qb,qe]
       cases hfi:fs[i]? with
       | none=>simp
       | some f=>
        have hm:f∈fs.toList:=by grind
        obtain⟨n,hn⟩:=QO.1 (zr.1 hplaced f hm)
        simp[hn]
      simp only[Instr.build,qp,hze,qo,qF hu,hpa,hpm,hpe,k1,qq]
     ·rename_i n e hu
      obtain⟨m,hm⟩:=QO.1 hplaced
      have hpe:(fun i=>some (i*m,m))=placeOf Y t:=by
       funext i
       simp[placeOf,hu,hm]
      simp only[Instr.build,qp,hze,qo,qF hu,qX hm,hpm,hpe,k1,qq]
     cases hplaced
    ·have:=RelDV_mkAgg k3 k2
     simpa using this
    intro h hh
    rcases fillDV_refs _ _ _ _ hf h (refs_mkAgg hh) with hk|⟨p,hp,hk⟩
    ·rw[refsL_cellDV] at hk;cases hk
    obtain⟨q,hq,rfl⟩:=zE.1 hp
    exact C.csrc h (.inl ⟨q.2,hk⟩)
   cases h
  cases h
 cases h
end
section
variable {P:Program} {Y:Tab} [qH P Y] {G:Gh} {w:World} {ρ:Operand->Value} {ev:Operand->DV} {look fl:Nat->Option MO}
def makeSliceV (Y:Tab) (d:Nat) (t:TypeId) (l c:DV) (fl:Nat->Option MO):Option Out:=
 match Y.underlying t,l,c with
 | some (.slice e),.pv (.lit (.int _ n)),.pv (.lit (.int _ m))=>
  match Y.info? e with
  | some i=>match i.zero with
   | some z=>match Z7 z.cells.toList with
    | some zc=>if (fl d).isNone&&decide (0<i.size)&&decide (z.cells.size=i.size) then
      some ⟨decide (0<=n/\n<=m/\(i.bytes:Int)*m<=281474976710656/\m<=9223372036854775807),.aref d 0,[(d,.arr 0 i.size e (replicate n.toNat zc))]⟩ else none
    | none=>none
   | none=>none
  | none=>none
 | _,_,_=>none
theorem madeCells_toList (z:Array Value) (m:Nat):(madeCells z (m*z.size)).toList=(replicate m z.toList).flatten:=by
 by_cases h0:z.size=0
 ·have hz:z.toList=[]:=by
   grind
  have h1:(replicate m z.toList).flatten=[]:=by rw[hz];simp
  rw[h1,h0];simp[madeCells]
 apply XU
 intro k
 have e:(replicate m z.toList).flatten=(replicate m (Value.agg z)).flatMap fun v=>v.cells.toList:=by simp[List.flatMap_replicate,Value.cells]
 rw[e,Great.flat_get (s:=z.size) aa _ aC k]
 by_cases hk:k<m*z.size
 ·have hd:k / z.size<m:=(Q9 aa).2 hk
  have hm:k%z.size<z.size:=Wu _ aa
  simp[madeCells,hk,hd,Value.cells,hm]
 have hd:¬k / z.size<m:=fun h=>hk ((Q9 aa).1 h)
 simp[madeCells,hk,hd]
theorem RelVals_rep {R:Rd} {zc:List PV} {zs:List Value} (h:qw R zc zs):∀ n,qw R (replicate n zc).flatten (replicate n zs).flatten
 | 0=>by simp[qw]
 | n+1=>by simp only[Xt,XW];exact h.append (RelVals_rep h n)
theorem makeSliceV_sound (C:Ctx G w ρ ev look fl) {d:Nat} {t:TypeId} {l c:Operand} {out:Out} (h:makeSliceV Y d t (ev l) (ev c) fl=some out) (hs:out.side=true) :
  ∃ r w' G',(Instr.makeSlice t (ρ l) (ρ c)).run P w=.ok r w'/\Stepped G w fl out.val out.ms G' w' r:=by
 unfold makeSliceV at h
 split at h
 ·rename_i e k1 n k2 m ht hl hc
  split at h
  ·rename_i i hi
   split at h
   ·rename_i z hz
    split at h
    ·rename_i zc hzc
     split at h
     ·rename_i hq
      simp only[zj,QK,zf] at hq
      obtain⟨⟨hd,hsz⟩,hzs⟩:=hq
      cases h
      simp only[zf] at hs
      obtain⟨h0,h1,h2,h3⟩:=hs
      have hL:=C.sees.ev l
      rw[hl] at hL
      obtain⟨el,_⟩:=qx hL
      have hC:=C.sees.ev c
      rw[hc] at hC
      obtain⟨ec,_⟩:=qx hC
      have hr:=run_make (P:=P) w t e i z (qH.und P ht) (qH.inf P hi) hz k1 k2 n m h0 h1 h2 h3
      rw[el,ec]
      obtain⟨q1,q2⟩:=ZI (R:=G.rd w) hzc
      have hmc:(madeCells z.cells (m.toNat*i.size)).toList=(replicate m.toNat z.cells.toList).flatten:=by rw[<-hzs];exact madeCells_toList _ _
      have hone:∀ x∈(replicate m.toNat z.cells.toList).flatten,x.oneCell'=true:=by grind [List.mem_flatten]
      have hzl:zc.length=i.size:=by have:=q1.length;simp at this;omega
      have htk:∀ k,k<=m.toNat->(replicate m.toNat z.cells.toList).flatten.take (k*i.size)=(replicate k z.cells.toList).flatten:=by
       intro k hk
       have e1:replicate m.toNat z.cells.toList=replicate k z.cells.toList++replicate (m.toNat-k) z.cells.toList:=by rw[List.replicate_append_replicate];congr 1;omega
       have e2:(replicate k z.cells.toList).flatten.length=k*i.size:=by simp[hzs]
       grind
      refine⟨_,_,_,hr,j2 (B:={ addr:=some ⟨w.heap.size,0,none⟩,len:=n.toNat,cap:=m.toNat,esz:=i.size,arr:=true }) C.cfresh hd ?_ ?_ ak am⟩
      ·simp only[qt,Gh.new,ql]
       exact⟨zB _,fun _=>trivial⟩
      simp only[qW]
      refine⟨by simp[Gh.new],by simp[Gh.new],by simp[Gh.new],by simp[Gh.new],by simp[Gh.new];omega,fun e he=>by simp at he;rw[he.2];exact hzl,.inr ⟨w.heap.size,_,by simp[Gh.new],by simp[Gh.new],heap_alloc_new w _,?_,?_,?_,?_⟩⟩
      ·simp only[Gh.new,ql,maxLen_eq];omega
      ·simp only[Gh.new,ql,size_madeCells]
      ·rw[hmc,qa,htk _ aa]
       intro x hx
       grind
      rw[hmc,qa,htk _ aa]
      exact RelVals_rep (qw.mono (later_new d _ _).rd _ _ q1) _
     cases h
    cases h
   cases h
  cases h
 cases h
def copyV (Y:Tab) (t:TypeId) (dst src:DV) (look:Nat->Option MO):Option Out:=
 match Y.underlying t,dst with
 | some (.slice e),.aref h v=>
  match szT Y e,look h,conts look src with
  | some sz,some (.arr v' esz T es),some ys=>
   if v=v'/\esz=sz/\0<sz then
    some ⟨j6 sz ys,lit (.int .i64 ((min ys.length es.length:Nat):Int)),[(h,.arr v esz T (ys.take (min ys.length es.length)++es.drop (min ys.length es.length)))]⟩
   else none
  | _,_,_=>none
 | _,_=>none
theorem flatten_len {esz:Nat}:∀ {l:List (List PV)},(∀ e∈l,e.length=esz)->l.flatten.length=l.length*esz
 | [],_=>by simp
 | e::l,hl=>by
  simp only[XW,za,zb,Wa,Wg]
  rw[hl e ao,flatten_len (fun e' h'=>hl e' aq)];omega
theorem flatten_take {esz:Nat} {l:List (List PV)} (h:∀ e∈l,e.length=esz) (k:Nat) (hk:k<=l.length):(l.take k).flatten=l.flatten.take (k*esz):=by
 have h0:l.flatten=(l.take k).flatten++(l.drop k).flatten:=by rw[<-List.flatten_append,Q8]
 have h1:(l.take k).flatten.length=k*esz:=by rw[flatten_len (fun e he=>h e (zu he)),zn,JK hk]
 rw[h0,<-h1];simp
theorem flatten_drop {esz:Nat} {l:List (List PV)} (h:∀ e∈l,e.length=esz) (k:Nat) (hk:k<=l.length):(l.drop k).flatten=l.flatten.drop (k*esz):=by
 have h0:l.flatten=(l.take k).flatten++(l.drop k).flatten:=by rw[<-List.flatten_append,Q8]
 have h1:(l.take k).flatten.length=k*esz:=by rw[flatten_len (fun e he=>h e (zu he)),zn,JK hk]
 rw[h0,<-h1];simp
theorem copyV_sound (C:Ctx G w ρ ev look fl) {t st ty:TypeId} {d s:Operand} {out:Out} (h:copyV Y t (ev d) (ev s) look=some out) (hs:out.side=true) :
  ∃ r w' G',(Builtin.copy_ #[t,st] ty #[ρ d,ρ s]).run P w=.ok r w'/\Stepped G w fl out.val out.ms G' w' r:=by
 unfold copyV at h
 split at h
 ·rename_i e hh v ht hd
  split at h
  ·rename_i sz v' esz T es ys hsz hl hy
   split at h
   ·rename_i hq
    obtain⟨rfl,rfl,hpos⟩:=hq
    cases h
    simp only at hs
    have hall:∀ e'∈ys,e'.length=esz:=by
     intro e' he'
     simp only[j6,zr,Wv] at hs
     exact hs e' he'
    obtain⟨k1,k2,k3,k4,k5,k6,k7⟩:=C.sees.look _ _ hl
    have hD:=C.sees.ev d
    rw[hd] at hD
    simp only[qt] at hD
    have hdv:=hD.2 k2
    obtain⟨ax,capx,hx,HX⟩:=conts_sound C.sees hy (C.sees.ev s)
    have hturn:G.turn hh (G.ρ hh)=G:=by
     unfold Gh.turn
     congr
     funext k
     grind
    rw[hdv,hx,k4]
    by_cases hm:min ys.length es.length=0
    ·refine⟨.int .i64 (min ys.length es.length:Nat),w,G,?_,?_⟩
     ·have hm':Nat.min ys.length es.length=0:=hm
      have hm2:((min ys.length es.length:Nat):Int)=0:=by rw[hm];rfl
      cases ax<;>cases (G.ρ hh).addr<;>simp[Builtin.copy_,qF ht,qX hsz,Builtin.lenOf,Builtin.firstCells,loadCells,loadCellsFrom,storeCells,goInt,hm']
     have S:=q8 (m:=.arr v esz T (ys.take (min ys.length es.length)++es.drop (min ys.length es.length))) (val:=lit (.int .i64 (min ys.length es.length:Nat))) (r:=.int .i64 (min ys.length es.length:Nat)) C (B:=G.ρ hh) (C.cfl _ _ hl) aA
      (w':=w) Z Z Z Z (fun _ _=>rfl) (qG Z) (by rw[hturn,hm];simpa using C.sees.look _ _ hl) aG am
     rw[hturn] at S
     simpa using S
    rcases HX with rfl|⟨b,off,esz',vs,rfl,q1,q2,q3,q4⟩
    ·simp at hm
    have hyl:0<ys.length:=aa
    have hez:esz'=esz:=by rw[<-q1 _ (Jd hyl)];exact hall _ (Jd hyl)
    subst hez
    rcases k7 with ⟨e1,e2⟩|⟨b',cc,e1,e2,e3,e4,e5,e6,e7⟩
    ·omega
    generalize hM:min ys.length es.length=M at*
    have hMy:M<=ys.length:=aa
    have hMe:M<=es.length:=aa
    have hvl:vs.length=ys.length*esz':=by rw[q2.length];exact flatten_len hall
    have hle1:M*esz'<=ys.length*esz':=Xh _ hMy
    have hle2:M*esz'<=es.length*esz':=Xh _ hMe
    have hle3:es.length*esz'<=cc.size:=by rw[e5];exact Xh _ k5
    have hcs:(vs.take (M*esz')).length=M*esz':=by rw[zn];omega
    have hnat:Nat.min ys.length es.length=M:=hM
    have hf:=run_firstCells_some (P:=P) w esz' M ⟨b,off,none⟩ ys.length capx (vs.take (M*esz')) hcs (fun j u hj=>by
     rw[Addr.add_lit]
     rw[qj] at hj
     split at hj
     ·exact q4 j u hj
     cases hj)
    have hst:=run_storeCells_at P b' 0 T (vs.take (M*esz')) 0 cc w e3 (by rw[hcs];omega) (fun x hx=>q3 x (zu hx))
    simp only[KD,KT,hcs,J8,zU] at hst
    have hblk:∀ b'',G.γ b''≠some hh->(w.setRow b' (vs.take (M*esz')++cc.toList.drop (M*esz')).toArray).heap[b'']? =w.heap[b'']? :=by
     intro b'' hb''
     exact setRow_other w b' b'' _ (fun e=>hb'' az)
    have L:Later G w G (w.setRow b' (vs.take (M*esz')++cc.toList.drop (M*esz')).toArray):=by
     have:=kg (G:=G) (h:=hh) (B:=G.ρ hh) (w:=w) (w':=w.setRow b' (vs.take (M*esz')++cc.toList.drop (M*esz')).toArray) Z Z Z ao hblk
     rwa [hturn] at this
    have hlen:(ys.take M++es.drop M).length=es.length:=by simp;omega
    have htk:(vs.take (M*esz')++cc.toList.drop (M*esz')).take (es.length*esz')=vs.take (M*esz')++(cc.toList.take (es.length*esz')).drop (M*esz'):=by rw[List.take_append,hcs,zz (by rw[hcs];exact hle2),J2]
    refine⟨.int .i64 M,w.setRow b' (vs.take (M*esz')++cc.toList.drop (M*esz')).toArray,G,?_,?_⟩
    ·rw[e1]
     simp only[Builtin.copy_,Q6,QQ,QP,qp,qF ht,qo,Builtin.lenOf,qq,qX hsz,hnat,hf,hst]
     rfl
    have S:=q8 (m:=.arr v esz' T (ys.take M++es.drop M)) (val:=lit (.int .i64 M)) (r:=.int .i64 M) C (B:=G.ρ hh) (C.cfl _ _ hl) aA
     (w':=w.setRow b' (vs.take (M*esz')++cc.toList.drop (M*esz')).toArray) Z Z Z ao hblk (qG rfl) ?_ aG am
    ·grind
    rw[hturn]
    simp only[qW,hlen]
    refine⟨k1,k2,k3,k4,k5,?_,.inr ⟨b',_,e1,e2,setRow_heap w b' cc _ T _ e3,e4,?_,?_,?_⟩⟩
    ·intro e he
     rcases zH.1 he with he|he
     ·exact hall e (zu he)
     exact k6 e (zw he)
    ·simp only[XZ,za,hcs,zo,qf]
     rw[<-e5];omega
    ·rw[htk]
     intro x hx
     rcases zH.1 hx with hx|hx
     ·exact q3 x (zu hx)
     exact e6 x (zw hx)
    rw[htk,Xn,flatten_take hall M hMy,flatten_drop k6 M hMe]
    exact qw.mono L.rd _ _ ((q2.take _).append (e7.drop _))
   cases h
  cases h
 cases h
def makeMapV (d:Nat) (fl:Nat->Option MO):Option Out:=
 if (fl d).isNone then some ⟨true,.mref d,[(d,.map [] [])]⟩ else none
theorem makeMapV_sound (C:Ctx G w ρ ev look fl) {d:Nat} {t:TypeId} {out:Out} (h:makeMapV d fl=some out) :
  ∃ r w' G',(Instr.makeMap t none).run P w=.ok r w'/\Stepped G w fl out.val out.ms G' w' r:=by
 unfold makeMapV at h
 split at h
 ·rename_i hd
  simp only[QK] at hd
  cases h
  refine⟨.map (some w.heap.size),w.alloc (.map #[] 0),_,by simp[Instr.makeMap],j2 (B:={ map:=w.heap.size }) C.cfresh hd ?_ ?_ ak am⟩
  ·simp[qt,Gh.new]
  simp only[qW]
  exact⟨by simp[Gh.new], #[],0,by simp[Gh.new],by simp only[Gh.new,ql];exact heap_alloc_new w _,by simp[qw],by simp[qw]⟩
 cases h
def insertV (Y:Tab) (t:TypeId) (m k x:DV) (look:Nat->Option MO):Option Out:=
 match Y.underlying t,m,k with
 | some (.map kt _),.mref h,.pv kp=>
  match Y.underlying kt,look h,pvOf look x with
  | some kd,some (.map ks vs),some p=>
   if plainKey kd kp then
    some ⟨plainKeys kd ks&&ks.length==vs.length&&(Zx kp ks vs).isNone,.dead,[(h,.map (ks++[kp]) (vs++[p]))]⟩
   else none
  | _,_,_=>none
 | _,_,_=>none
theorem insertV_sound (C:Ctx G w ρ ev look fl) {t:TypeId} {m k x:Operand} {out:Out} (h:insertV Y t (ev m) (ev k) (ev x) look=some out) (hs:out.side=true) :
  ∃ w' G',(Instr.mapUpdate t (ρ m) (ρ k) (ρ x)).run P w=.ok () w'/\Stepped G w fl out.val out.ms G' w' undef:=by
 unfold insertV at h
 split at h
 ·rename_i kt et hh kp ht hm hk
  split at h
  ·rename_i kd ks vs p hkd hl hp
   split at h
   ·rename_i hpk
    cases h
    simp only[zj,Wv,QK] at hs
    obtain⟨⟨h1,h2⟩,h3⟩:=hs
    obtain⟨k1,es,clock,e1,e2,e3,e4⟩:=C.sees.look _ _ hl
    have hM:=C.sees.ev m
    rw[hm] at hM
    simp only[qt] at hM
    have hK:=C.sees.ev k
    rw[hk] at hK
    simp only[qt] at hK
    have hX:=jC C.sees.look hp (C.sees.ev x)
    obtain⟨fr,f1,f2⟩:=plainKeys_find hpk hK es.toList ks vs 0 h1 e3 e4
    rw[h3] at f2
    have hfr:fr=none:=by cases fr<;>simp_all
    subst hfr
    rw[hM.2]
    have hck:(Instr.checkKey false 10000 kt (ρ k)).run P w=.ok () w:=by
     rcases Zs hpk with ⟨rfl,s,rfl⟩|⟨kk,n,rfl,rfl⟩
     ·exact checkKey_string hkd 9999 false _
     exact checkKey_int hkd 9999 false _
    have hgo:(getObj (G.ρ hh).map).run P w=.ok (.map es clock) w:=by simp[getObj,Sem.run,e2]
    have hfk:(Instr.findKey kt (ρ k) es.toList).run P w=.ok none w:=by simp only[Instr.findKey,qp,qF hkd,qo,f1,qq]
    have hset:(setObj (G.ρ hh).map (.map (es.push { key:=ρ k,val:=ρ x,born:=clock }) (clock+1))).run P w =
      .ok () { w with heap:=w.heap.setIfInBounds (G.ρ hh).map (.map (es.push { key:=ρ k,val:=ρ x,born:=clock }) (clock+1)) }:=by
     simp[setObj,Sem.run,e2]
    have hlt:(G.ρ hh).map<w.heap.size:=(zS.1 e2).1
    have hturn:G.turn hh (G.ρ hh)=G:=by
     unfold Gh.turn
     congr
     grind
    have hblk:∀ b,G.γ b≠some hh->(w.heap.setIfInBounds (G.ρ hh).map (.map (es.push { key:=ρ k,val:=ρ x,born:=clock }) (clock+1)))[b]? =w.heap[b]? :=by grind
    have L:Later G w G { w with heap:=w.heap.setIfInBounds (G.ρ hh).map (.map (es.push { key:=ρ k,val:=ρ x,born:=clock }) (clock+1)) }:=by
     have:=kg (G:=G) (h:=hh) (B:=G.ρ hh) (w:=w) (w':={ w with heap:=w.heap.setIfInBounds (G.ρ hh).map (.map (es.push { key:=ρ k,val:=ρ x,born:=clock }) (clock+1)) }) Z Z Z ao hblk
     rwa [hturn] at this
    refine⟨_,G,by simp only[Instr.mapUpdate,qp,qF ht,qo,hgo,hck,hfk];exact hset,?_⟩
    have S:=q8 (m:=.map (ks++[kp]) (vs++[p])) (val:=.dead) (r:=undef) C (B:=G.ρ hh) (C.cfl _ _ hl) aA
     (w':={ w with heap:=w.heap.setIfInBounds (G.ρ hh).map (.map (es.push { key:=ρ k,val:=ρ x,born:=clock }) (clock+1)) }) Z Z Z ao hblk aB ?_ ak am
    ·rw[hturn] at S;exact S
    rw[hturn]
    simp only[qW]
    refine⟨k1,es.push { key:=ρ k,val:=ρ x,born:=clock },clock+1,e1,?_,?_,?_⟩
    ·grind
    ·simp only[XO,z8,zy,zX]
     exact qw.mono L.rd _ _ (e3.append (by simp only[qw];exact⟨_,_,rfl,hK,rfl⟩))
    simp only[XO,z8,zy,zX]
    exact qw.mono L.rd _ _ (e4.append (by simp only[qw];exact⟨_,_,rfl,hX,rfl⟩))
   cases h
  cases h
 cases h
theorem RelDVs_lits {R:Rd}:∀ {vs:List Value},(∀ v∈vs,isLit v=true)->qz G R (vs.map lit) vs
 | [],_=>by simp[qz]
 | v::vs,h=>by
  simp only[zy,qz]
  exact⟨v,vs,rfl,by simp only[lit,qt,qI];exact⟨trivial,h v ao⟩,RelDVs_lits fun u hu=>h u (by simp[hu])⟩
end
section
variable {P:Program} {Y:Tab} [qH P Y] {G:Gh} {w:World} {ρ:Operand->Value} {ev:Operand->DV} {look fl:Nat->Option MO}
theorem stepped_coolW {fl:Nat->Option MO} (hsee:∀ b h,G.γ b=some h->b<w.heap.size) (hr0:∀ b o v,b<G.base->G.R0.cell b o=some v->G.γ b=none/\w.cell? ⟨b,o,none⟩=some v) (hr0m:∀ r es,r<G.base->G.R0.map r=some es->G.γ r=none/\kL w r=some es)
  {h:Nat} {o:MO} {val:DV} {r:Value} {w':World} (hos:w'.os=w.os) (htape:w'.tape=w.tape) (hout:w'.output=w.output) (hsize:w'.heap.size=w.heap.size)
  (hcell:∀ b o,w'.cell? ⟨b,o,none⟩=w.cell? ⟨b,o,none⟩) (hmap:∀ b,kL w' b=kL w b) (hblk:∀ b,G.γ b≠some h->w'.heap[b]? =w.heap[b]?)
  (hval:qt (G.Z3 w h) ((G.Z3 w h).rd w') val r) (hvr:val.refs=[]) (hm:qW (G.Z3 w h) w' h o) (hr:o.refs=[]) (hdr:Lz.D=true->w.drawn<=w'.drawn:=by intro _;first|exact zB _|(unfold World.freeze;split<;>exact zB _)):Stepped G w fl val [(h,o)] (G.Z3 w h) w' r:=by
 have L:Later G w (G.Z3 w h) w':=by
  refine⟨rfl,⟨fun b o v hv=>?_,fun r es hr=>?_⟩,fun b o v _ hv=>?_,fun r es _ hr=>?_,hos,htape,hout,KG hsize.symm,fun b _ hg=>⟨hblk b ay,?_⟩,hdr⟩
  ·grind [Gh.Z3]
  ·grind [Gh.Z3]
  ·grind [Gh.Z3]
  ·grind [Gh.Z3]
  simp only[Gh.Z3];rw[WJ ay];exact hg
 refine⟨L,hval,fun k o' hm'=>?_,fun k o' _=>.inl Z,fun k hh=>⟨rfl,fun b hb=>⟨?_,?_⟩⟩,fun b k hb=>?_,fun b k hb=>?_,by rw[hvr];simp,fun k o' hk' k2 hh=>?_,fun b k hb=>?_,fun b o v hb hv=>?_,fun b es hb hv=>?_⟩
 ·grind
 ·grind [List.mem_singleton,Gh.Z3]
 ·grind
 ·simp only[Gh.Z3] at hb
  split at hb
  ·cases hb
  rw[hsize];exact hsee b k hb
 ·grind [Gh.Z3]
 ·grind
 ·grind [Gh.Z3]
 ·grind [Gh.Z3]
 grind [Gh.Z3]
def usdQ (look:Nat->Option MO) (x:DV):Option (Bool×DV):=
 match x with
 | .nils=>some (true,lit (.pointer none))
 | .aref h v=>match look h with
  | some (.arr v' _ _ (_::_))=>if v=v' then some (true,.eref h v 0 0) else none
  | _=>none
 | _=>none
theorem usdQ_sound (S:Sees G w ρ ev look) {ts:Array TypeId} {ty:TypeId} {a d:DV} {u:Value} (h:usdQ look a=some (true,d)) (hu:qt G (G.rd w) a u) :
  ∃ r,(Builtin.unsafeSliceData_ ts ty #[u]).run P w=.ok r w/\qt G (G.rd w) d r:=by
 unfold usdQ at h
 split at h
 ·cases h
  simp only[qt] at hu
  subst hu
  exact⟨_,Lib.run_unsafeSliceData_nil w ts ty 0 0,qG rfl⟩
 ·rename_i hh v
  split at h
  ·rename_i v' sz T e es hl
   split at h
   ·rename_i hq
    subst hq
    cases h
    obtain⟨k1,k2,k3,k4,k5,k6,k7⟩:=S.look _ _ hl
    simp only[qt] at hu
    have hv:=hu.2 k2
    subst hv
    simp only[zb] at k5
    rcases k7 with ⟨e1,e2⟩|⟨b,c,e1,_⟩
    ·omega
    rw[e1]
    refine⟨_,Lib.run_unsafeSliceData_row w ts ty ⟨b,0,none⟩ _ _ aa,?_⟩
    simp only[qt]
    grind
   cases h
  cases h
 cases h
theorem usdQ_refs {x r:DV} {s:Bool} (h:usdQ look x=some (s,r)):∀ k∈r.refs,k∈x.refs:=by
 intro k hk
 unfold usdQ at h
 grind [lit,DV.refs]
def bytesOf:List (List PV)->Option Nb
 | []=>some []
 | [.lit (.int .u8 (.ofNat n))]::l=>bif Nat.blt n 256 then (bytesOf l).map (UInt8.ofNat n::·) else none
 | _=>none
theorem bytesOf_sound {R:Rd}:∀ {es:List (List PV)} {l:Nb} {vs:List Value},bytesOf es=some l->qw R es.flatten vs->vs=l.map fun b=>Value.int .u8 b.toNat
 | [],l,vs,h,H=>by
  grind [bytesOf,List.flatten_nil,qw]
 | e::es,l,vs,h,H=>by
  unfold bytesOf at h
  split at h
  ·rename_i heq;cases heq
  ·rename_i n l' heq
   cases heq
   cases hb:Nat.blt n 256 with
   | false=>rw[hb] at h;cases h
   | true=>
    rw[hb] at h
    simp only[Wy] at h
    obtain⟨l2,h2,rfl⟩:=QZ.1 h
    simp only[XW,List.singleton_append,qw,qI] at H
    obtain⟨v,vs',rfl,⟨rfl,_⟩,H⟩:=H
    have:=bytesOf_sound h2 H
    subst this
    have hn:n<256:=by simpa using hb
    have:((UInt8.ofNat n).toNat:Int)=(n:Int):=by simp[Jm hn]
    grind
  cases h
def ustrV (Y:Tab) (pt:TypeId) (p n:DV) (look:Nat->Option MO):Option Out:=
 match p,n with
 | .eref h v 0 0,.pv (.lit (.int .i64 k))=>match look h with
  | some (.arr v' 1 T es)=>match Y.underlying pt with
   | some (.pointer e)=>match szT Y e,bytesOf es with
    | some 1,some l=>if v=v'/\T=e/\k=es.length/\l≠[]/\l.length=es.length then some ⟨true,lit (.string ⟨l.toArray⟩),[(h,.farr v es)]⟩ else none
    | _,_=>none
   | _=>none
  | _=>none
 | .pv (.lit (.pointer none)),.pv (.lit (.int .i64 0))=>some ⟨true,lit (.string .empty),[]⟩
 | _,_=>none
theorem freeze_facts (w:World) {b n:Nat} {c:Array Value} {T:TypeId} (hb:w.heap[b]? =some (.cells c T (0,0))) :
  (w.freeze ⟨b,0,none⟩ n).os=w.os/\(w.freeze ⟨b,0,none⟩ n).tape=w.tape/\(w.freeze ⟨b,0,none⟩ n).output=w.output/\(w.freeze ⟨b,0,none⟩ n).heap.size=w.heap.size/\
  (∀ b' o,(w.freeze ⟨b,0,none⟩ n).cell? ⟨b',o,none⟩=w.cell? ⟨b',o,none⟩)/\(∀ b',kL (w.freeze ⟨b,0,none⟩ n) b'=kL w b')/\(∀ b',b'≠b->(w.freeze ⟨b,0,none⟩ n).heap[b']? =w.heap[b']?):=by
 unfold World.freeze
 split
 ·grind
 refine⟨rfl,rfl,rfl,by simp,fun b' o=>?_,fun b'=>?_,fun b' hb'=>?_⟩
 ·simp only[World.cell?,Q0]
  by_cases e:b=b'
  ·subst e;simp[hb]
  simp[e]
 ·simp only[kL,Q0]
  by_cases e:b=b'
  ·subst e;simp[hb]
  simp[e]
 grind
theorem ustrV_sound (C:Ctx G w ρ ev look fl) (hr0:∀ b o v,b<G.base->G.R0.cell b o=some v->G.γ b=none/\w.cell? ⟨b,o,none⟩=some v) (hr0m:∀ r es,r<G.base->G.R0.map r=some es->G.γ r=none/\kL w r=some es)
  {pt it ty:TypeId} {p n:Operand} {out:Out} (h:ustrV Y pt (ev p) (ev n) look=some out) :
  ∃ r w' G',(Builtin.unsafeString_ #[pt,it] ty #[ρ p,ρ n]).run P w=.ok r w'/\Stepped G w fl out.val out.ms G' w' r:=by
 unfold ustrV at h
 split at h
 ·rename_i hh v k hp hn
  split at h
  ·rename_i v' T es hl
   split at h
   ·rename_i e hpt
    split at h
    ·rename_i l hsz hb
     split at h
     ·rename_i hq
      obtain⟨rfl,rfl,rfl,h0,hll⟩:=hq
      cases h
      obtain⟨k1,k2,k3,k4,k5,k6,k7⟩:=C.sees.look _ _ hl
      have hP:=C.sees.ev p
      rw[hp] at hP
      simp only[qt] at hP
      obtain⟨b,off,e1,hv⟩:=hP.2 k2
      have hN:=C.sees.ev n
      rw[hn] at hN
      have hN':=(qx hN).1
      have hpos:0<es.length:=by grind
      rcases k7 with ⟨e1',e2⟩|⟨b',c,e1',e2,e3,e4,e5,e6,e7⟩
      ·rw[e1] at e1';cases e1'
      rw[e1] at e1'
      simp only[zh,Addr.mk.injEq,WC] at e1'
      obtain⟨rfl,rfl⟩:=e1'
      simp only[We] at e5 e6 e7
      have hcl:=bytesOf_sound hb e7
      have hcell:∀ j x,l[j]? =some x->w.cell? ((⟨b,0,none⟩:Addr).add j)=some (.int .u8 x.toNat):=by
       intro j x hj
       rw[Addr.add_lit,KT,World.cell?_of_heap e3]
       have h1:(c.toList.take es.length)[j]? =some (.int .u8 x.toNat):=by rw[hcl];simp[hj]
       grind
      have hshape:w.shape? b=some (T,c.size):=by simp[World.shape?,e3]
      have hcells:P.cellsOf T=1:=by
       unfold szT at hsz
       cases hi:Y.info? T with
       | none=>rw[hi] at hsz;cases hsz
       | some i=>
        rw[hi] at hsz
        simp only[qc,zh] at hsz
        simp[Program.cellsOf,qH.inf P hi,hsz]
      have hc63:es.length<=9223372036854775807:=by have:=maxLen_eq;omega
      have hr:=Lib.run_unsafeString_row (P:=P) w pt it ty T (qH.und P hpt) hcells b c.size hshape l h0 aa aa hcell
      obtain⟨f1,f2,f3,f4,f5,f6,f7⟩:=freeze_facts w (n:=l.length) e3
      have hρp:ρ p=.pointer (some ⟨b,0,none⟩):=by rw[hv];simp
      have hρn:ρ n=.int .i64 l.length:=by rw[hN',hll]
      refine⟨_,_,_,by rw[hρp,hρn];exact hr,stepped_coolW C.cfresh hr0 hr0m f1 f2 f3 f4 f5 f6 (fun b'' hb''=>f7 b'' (fun e=>hb'' az)) (qG Z) aG ?_ rfl⟩
      have rdc:∀ j v,c[j]? =some v->((G.Z3 w hh).rd (w.freeze ⟨b,0,none⟩ l.length)).cell b j=some v:=by
       intro j v hj
       have hcell:w.cell? ⟨b,j,none⟩=some v:=by rw[World.cell?_of_heap e3];exact hj
       have hbase:(G.Z3 w hh).base=G.base:=rfl
       simp only[Gh.rd,hbase]
       by_cases hlt:b<G.base
       ·rw[WK hlt]
        simp only[Gh.Z3,hlt,e2,WF,ql]
        exact hcell
       rw[WJ hlt,WK (by simp only[Gh.Z3,e2,ql]),f5]
       exact hcell
      have L:(G.rd w).Le ((G.Z3 w hh).rd (w.freeze ⟨b,0,none⟩ l.length)):=by
       have S:=stepped_coolW (fl:=fl) (h:=hh) (o:=.gone) (val:=.dead) (r:=undef) C.cfresh hr0 hr0m f1 f2 f3 f4 f5 f6 (fun b'' hb''=>f7 b'' (fun e=>hb'' az)) aB ak trivial rfl
       exact S.later.rd
      refine⟨k1,k2,k4,k5,.inr ⟨b,0,1,e1,k3,qQ.mk k6 (qw.mono L _ _ e7) e6 (fun j v hj=>?_)⟩⟩
      grind
     cases h
    cases h
   cases h
  cases h
 ·rename_i hp hn
  cases h
  have hP:=C.sees.ev p
  rw[hp] at hP
  have hN:=C.sees.ev n
  rw[hn] at hN
  refine⟨.string .empty,w,G,?_,qD C (qG Z) aG⟩
  rw[(qx hP).1,(qx hN).1]
  exact Lib.run_unsafeString_none w pt it ty none
 cases h
theorem liesAt_self {e:TypeId} (hc:P.cellsOf e≠0) (count n:Nat) (hn:n<=count):liesAt P P.depth e count 0 e n=true:=by
 have hd:P.depth=(2*(P.types.size+Made.depth)+1)+1:=rfl
 rw[hd]
 simp only[liesAt,Jr]
 left
 rw[hd]
 simp[rowAt,hc,hn,sameLayout]
def convPQ (Y:Tab) (s t:TypeId) (look:Nat->Option MO) (x:DV):Option (Bool×DV):=
 match x with
 | .bref h 0=>match look h with
  | some (.box T ds)=>match Y.underlying s,Y.underlying t with
   | some (.pointer e),some .unsafePointer=>match szT Y e with
    | some (_+1)=>some (decide (0<ds.length),.bref h 0)
    | _=>none
   | some .unsafePointer,some (.pointer e)=>match szT Y e with
    | some (k+1)=>if e=T/\ds.length=k+1 then some (true,.bref h 0) else none
    | _=>none
   | _,_=>none
  | _=>none
 | _=>none
theorem convPQ_sound (S:Sees G w ρ ev look) {s t:TypeId} {a d:DV} {u:Value} (h:convPQ Y s t look a=some (true,d)) (hu:qt G (G.rd w) a u) :
  ∃ r,(convert s t u).run P w=.ok r w/\qt G (G.rd w) d r:=by
 unfold convPQ at h
 split at h
 ·rename_i hh
  split at h
  ·rename_i T ds hl
   obtain⟨k1,b,c,e1,e2,e3,e4,e5⟩:=S.look _ _ hl
   have hu0:=hu
   simp only[qt] at hu
   obtain⟨_,b',e1',rfl⟩:=hu
   rw[e1] at e1'
   simp only[zh,Addr.mk.injEq,WC] at e1'
   subst e1'
   have hlen:=e5.length
   simp only[qf] at hlen
   have hshape:w.shape? b=some (T,c.size):=by simp[World.shape?,e3]
   split at h
   ·rename_i e hs ht
    split at h
    ·rename_i k hsz
     simp only[zh,zx,zf] at h
     obtain⟨h0,rfl⟩:=h
     unfold szT at hsz
     obtain⟨i,hi,hi2⟩:=QZ.1 hsz
     exact⟨_,Lib.run_to_unsafe (P:=P) w ⟨b,0,none⟩ (qH.und P hs) (qH.und P ht) (qH.inf P hi) aa hshape aF,hu0⟩
    cases h
   ·rename_i e hs ht
    split at h
    ·rename_i k hsz
     split at h
     ·rename_i hq
      obtain⟨rfl,hk⟩:=hq
      cases h
      unfold szT at hsz
      obtain⟨i,hi,hi2⟩:=QZ.1 hsz
      have hce:P.cellsOf e=k+1:=by simp[Program.cellsOf,qH.inf P hi,hi2]
      have hq:c.size / P.cellsOf e=1:=by rw[hce,hlen,hk];exact Nat.div_self aa
      exact⟨_,Lib.run_from_unsafe (P:=P) w ⟨b,0,none⟩ (qH.und P hs) (qH.und P ht) (qH.inf P hi) hshape (by rw[hq];exact liesAt_self aa 1 1 aa),hu0⟩
     cases h
    cases h
   cases h
  cases h
 cases h
theorem convPQ_refs {s t:TypeId} {x r:DV} {sd:Bool} (h:convPQ Y s t look x=some (sd,r)):∀ k∈r.refs,k∈x.refs:=by
 intro k hk
 unfold convPQ at h
 grind
def samePQ (Y:Tab) (op:BinOp) (t:TypeId) (x y:DV):Option (Bool×DV):=
 match x,y,Y.underlying t with
 | .bref h c,.bref h' c',some (.pointer e)=>match Y.info? e with
  | some _=>if h=h'/\c=c' then (match op with
   | .eql=>some (true,lit (.bool true))
   | .neq=>some (true,lit (.bool false))
   | _=>none) else none
  | none=>none
 | _,_,_=>none
theorem samePQ_sound {op:BinOp} {t:TypeId} {x y:Operand} {a b d:DV} {u v:Value} {R:Rd} (h:samePQ Y op t a b=some (true,d)) (hu:qt G R a u) (hv:qt G R b v) :
  ∃ r,(do eqGuard op t x y u v;binOp op t u v:Sem Value).run P w=.ok r w/\qt G R d r:=by
 unfold samePQ at h
 split at h
 ·rename_i hh c h' c' e ht
  split at h
  ·rename_i j hj
   split at h
   ·rename_i hq
    obtain⟨rfl,rfl⟩:=hq
    simp only[qt] at hu hv
    obtain⟨_,b1,e1,rfl⟩:=hu
    obtain⟨_,b2,e2,rfl⟩:=hv
    rw[e1] at e2
    simp only[zh,Addr.mk.injEq,WC] at e2
    subst e2
    rw[eqGuard_at_pointer]
    have he:∀ d:Nat,(Op.equalIn (d+1) t (.pointer (some ⟨b1,c,none⟩)) (.pointer (some ⟨b1,c,none⟩))).run P w=.ok true w:=fun d=>by
     simp[Op.equalIn,qF ht,sizeOf,typeInfo,qH.inf P hj,run_sameAddr_same]
    split at h
    ·cases h
     refine⟨.bool true,?_,qG rfl⟩
     simp only[binOp,qp,qq,qo]
     have:(Op.equal t (.pointer (some ⟨b1,c,none⟩)) (.pointer (some ⟨b1,c,none⟩))).run P w=.ok true w:=he 9999
     simp only[this,qo]
    ·cases h
     refine⟨.bool false,?_,qG rfl⟩
     have:=Lib.run_neq_ptr_same (P:=P) w ⟨b1,c,none⟩ (qH.und P ht) (qH.inf P hj)
     grind
    cases h
   cases h
  cases h
 cases h
theorem samePQ_refs {op:BinOp} {t:TypeId} {x y r:DV} {s:Bool} (h:samePQ Y op t x y=some (s,r)):r.refs=[]:=by
 unfold samePQ at h
 split at h
 ·split at h
  ·split at h
   ·split at h<;>first|(cases h;rfl)|cases h
   cases h
  cases h
 cases h
theorem kT (C:Ctx G w ρ ev look fl) {w':World} {val:DV} {r:Value} (hos:w'.os=w.os) (htape:w'.tape=w.tape) (hout:w'.output=w.output) (hsize:w.heap.size<=w'.heap.size)
  (hblk:∀ b,b<w.heap.size->w'.heap[b]? =w.heap[b]?) (hval:qt G (G.rd w') val r) (hr:val.refs=[]) (hdr:Lz.D=true->w.drawn<=w'.drawn:=by first|(intro _;exact zB _)|(intro _;subst_vars;first|exact zB _|exact Wc _)):Stepped G w fl val [] G w' r:=by
 refine⟨Later.of Z Z hos htape hout hsize (fun b hb hg=>⟨hblk b hb,hg⟩) hdr,hval,by simp,fun _ _ _=>.inl rfl,fun _ _=>⟨rfl,fun b hb=>⟨hb,hblk b (C.cfresh _ _ hb)⟩⟩,fun b h hb=>XJ (C.cfresh b h hb) hsize,
  fun _ _ hb=>.inr hb,by rw[hr];simp,by simp,fun _ _ hb=>.inl hb,fun _ _ _ _ h=>.inl h,fun _ _ _ h=>.inl h⟩
def s2bV (Y:Tab) (s d:TypeId) (x:DV):Option Out:=
 match x with
 | .pv (.lit (.string b))=>match Y.underlying s,Y.underlying d with
  | some .string,some (.slice e)=>match Y.underlying e with
   | some (.int .u8)=>some ⟨true,.pv (.slice (b.data.toList.map fun c=>[.lit (.int .u8 (c.toNat:Int))])),[]⟩
   | _=>none
  | _,_=>none
 | _=>none
theorem relElems_bytes {R:Rd} {b:Nat}:∀ (l:Nb) (off:Nat),(∀ j c,l[j]? =some c->R.cell b (off+j)=some (.int .u8 (c.toNat:Int)))->
  qQ R (l.map fun c=>[PV.lit (.int .u8 (c.toNat:Int))]) b off 1
 | [],_,_=>by simp only[zX,qQ]
 | c::l,off,h=>by
  simp only[zy,qQ,qY]
  refine⟨rfl,⟨⟨_,by simpa using h 0 c rfl,rfl,by simp[qI,isLit]⟩,trivial⟩,relElems_bytes l (off+1) fun j c' hj=>?_⟩
  have:=h (j+1) c' an
  grind
theorem s2bV_sound (C:Ctx G w ρ ev look fl) (hbl:G.base<=w.heap.size) {s d:TypeId} {x:Operand} {out:Out} (h:s2bV Y s d (ev x)=some out) :
  ∃ r w' G',(convert s d (ρ x)).run P w=.ok r w'/\Stepped G w fl out.val out.ms G' w' r:=by
 unfold s2bV at h
 split at h
 ·rename_i b hx
  split at h
  ·rename_i e hs hd
   split at h
   ·rename_i he
    cases h
    have hv:=C.sees.ev x
    rw[hx] at hv
    obtain⟨ex,_⟩:=qx hv
    rw[ex]
    have hr:=Lib.run_convert_string_bytes (P:=P) w s d e b (qH.und P hs) (qH.und P hd) (qH.und P he)
    obtain⟨W,hW⟩:∃ W,W=Lib.bytesWorld w e b:=⟨_,rfl⟩
    rw[<-hW] at hr
    have hb:b.data.toList.length=b.size:=qf
    have hγ:G.γ w.heap.size=none:=by
     cases hg:G.γ w.heap.size with
     | none=>rfl
     | some k=>have:=C.cfresh _ _ hg;omega
    have hbase:¬w.heap.size<G.base:=aa
    refine⟨_,W,G,hr,kT C (by rw[hW];rfl) (by rw[hW];rfl) (by rw[hW];rfl) (by rw[hW,Lib.bytesWorld_size];omega) (fun k hk=>by rw[hW];exact Lib.bytesWorld_at_old w e b k hk) ?_ ak⟩
    simp only[qt,qI]
    have hl:(b.data.toList.map fun c=>[PV.lit (.int .u8 (c.toNat:Int))]).length=b.size:=by rw[zI,hb]
    refine⟨_,_,by rw[hl],by rw[hl];exact grownCap_ge w b.size 0 e,?_⟩
    right
    refine⟨w.heap.size,0,1,rfl,relElems_bytes _ _ fun j c hj=>?_⟩
    simp only[Gh.rd,WJ hbase,hγ,ql,KT]
    have hlt:j<b.size:=by grind
    rw[hW,Lib.bytesWorld_cell w e b j hlt,ze,hj];rfl
   cases h
  cases h
 cases h
end
end Go.Lens
end
