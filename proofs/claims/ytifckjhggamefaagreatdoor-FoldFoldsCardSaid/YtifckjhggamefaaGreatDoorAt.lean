/- The rules by which the rounds are walked. No condition. -/
import Derived.Test.YtifckjhggamefaaGreatDoorVg
import Derived.Test.YtifckjhggamefaaGreatDoorVxCfg
namespace Go.Proofs.YtifckjhggamefaaGreatDoor
open Go Go.Vx
theorem u0 : type_of% @cond3.eq_def := @cond3.eq_def
theorem u1 : type_of% @bagRes.eq_def := @bagRes.eq_def
theorem u2 : type_of% @bagOut.eq_def := @bagOut.eq_def
theorem u3 : type_of% @bagStore.eq_def := @bagStore.eq_def
theorem u4 : type_of% @isNilC.eq_def := @isNilC.eq_def
theorem u5 : type_of% @aNil.eq_def := @aNil.eq_def
theorem u6 : type_of% @D.nilQ.eq_def := @D.nilQ.eq_def
theorem u7 : type_of% @nilRes.eq_def := @nilRes.eq_def
theorem u8 : type_of% @isFnCall.eq_def := @isFnCall.eq_def
theorem u9 : type_of% @isTake.eq_def := @isTake.eq_def
theorem u10 : type_of% @tvOf.eq_def := @tvOf.eq_def
theorem u11 : type_of% @plainOp.eq_def := @plainOp.eq_def
theorem u12 : type_of% @plainV.eq_def := @plainV.eq_def
theorem u13 : type_of% @bagVal.eq_def := @bagVal.eq_def
theorem u14 : type_of% @bagCells.eq_def := @bagCells.eq_def
theorem u15 : type_of% @bagBox.eq_def := @bagBox.eq_def
theorem u16 : type_of% @fetch.eq_def := @fetch.eq_def
theorem u17 : type_of% @takeAt.eq_def := @takeAt.eq_def
theorem u18 : type_of% @moveTup.eq_def := @moveTup.eq_def
theorem u19 : type_of% @PV.ofValue.eq_def := @PV.ofValue.eq_def
theorem u20 : type_of% @D.ofCell.eq_def := @D.ofCell.eq_def
theorem u21 : type_of% @isTmp.eq_def := @isTmp.eq_def
theorem u22 : type_of% @PV.maySrc.eq_def := @PV.maySrc.eq_def
theorem u23 : type_of% @aBin.eq_def := @aBin.eq_def
theorem u24 : type_of% @eqCell.eq_def := @eqCell.eq_def
theorem u25 : type_of% @binLit.eq_def := @binLit.eq_def
theorem u26 : type_of% @eqKind.eq_def := @eqKind.eq_def
theorem u27 : type_of% @abool.eq_def := @abool.eq_def
theorem u28 : type_of% @aint.eq_def := @aint.eq_def
theorem u29 : type_of% @aUn.eq_def := @aUn.eq_def
theorem u30 : type_of% @okRes.eq_def := @okRes.eq_def
theorem u31 : type_of% @okAl.eq_def := @okAl.eq_def
theorem u32 : type_of% @tupOf.eq_def := @tupOf.eq_def
theorem u33 : type_of% @PV.noPtr.eq_def := @PV.noPtr.eq_def
theorem u34 : type_of% @PV.isDat.eq_def := @PV.isDat.eq_def
theorem u35 : type_of% @PV.isOwn.eq_def := @PV.isOwn.eq_def
theorem u36 : type_of% @PV.strip.eq_def := @PV.strip.eq_def
theorem u37 : type_of% @freezeC.eq_def := @freezeC.eq_def
theorem u38 : type_of% @PV.frz.eq_def := @PV.frz.eq_def
theorem u39 : type_of% @PV.frozen.eq_def := @PV.frozen.eq_def
theorem u40 : type_of% @eqRes.eq_def := @eqRes.eq_def
theorem u41 : type_of% @noCellAl.eq_def := @noCellAl.eq_def
theorem u42 : type_of% @addOff.eq_def := @addOff.eq_def
theorem u43 : type_of% @rdV.eq_def := @rdV.eq_def
theorem u44 : type_of% @lenV.eq_def := @lenV.eq_def
theorem u45 : type_of% @maxV.eq_def := @maxV.eq_def
theorem u46 : type_of% @ptrBox.eq_def := @ptrBox.eq_def
theorem u47 : type_of% @frzOut.eq_def := @frzOut.eq_def
theorem u48 : type_of% @frzIf.eq_def := @frzIf.eq_def
theorem u49 : type_of% @aopT1.eq_def := @aopT1.eq_def
theorem u50 : type_of% @refLt.eq_def := @refLt.eq_def
theorem u51 : type_of% @TK.isAgg.eq_def := @TK.isAgg.eq_def
theorem u52 : type_of% @Value.oneCell'.eq_def := @Value.oneCell'.eq_def
attribute [congr] seqO_congr iteB_congr
attribute [go_sem ↓] tri_some thenC_n thenC_e thenC_r thenC_f sO_some sO_none iB_true iB_false
attribute [go_sem] stepJ.eq_1 stepJ.eq_2 u0 tri_some tri_none joinF.eq_1 bothO_same inX.eq_1 inX.eq_2 inX.eq_3 inX.eq_4 retX.eq_1 retX.eq_2 retX.eq_3 retX.eq_4 resO.eq_1 resO.eq_2 u1 u2 takeCells.eq_1 takeCells.eq_2 takeCells.eq_3 u3 bagLoad.eq_1 aggT.eq_1 Bool.false_and aBinN.eq_1 aBinN.eq_2 u4 u5 u6 u7 sO_some sO_none iB_true iB_false seqO_iteB startSt.eq_1 acode.eq_1 acode.eq_2 acode.eq_3 acode.eq_4 acode.eq_5 acode.eq_6 acode.eq_7 acode.eq_8 acode.eq_9 acode.eq_10 aops.eq_1 aops.eq_2 aopR.eq_1 wantsR.eq_1 aopX.eq_1 u8 aop.eq_1 u9 aopTC.eq_1 aopTX.eq_1 u10 u11 u12 plainE.eq_1 setO.eq_1 setO.eq_2 applyP.eq_1 u13 bagVals.eq_1 bagVals.eq_2 u14 bagFill.eq_1 bagFill.eq_2 bagTake.eq_1 bagTake.eq_2 bagTake.eq_3 bagTake.eq_4 bagBuild.eq_1 u15 u16 u17 u18 St.val.eq_1 St.val.eq_2 St.val.eq_3 St.val.eq_4 u19 u20 put.eq_1 put.eq_2 u21 u22 u23 eqFieldsA.eq_1 eqFieldsA.eq_2 u24 u25 u26 u27 u28 u29 inBlockC.eq_1 polOf.eq_1 aConv.eq_1 retOf.eq_1 aress.eq_1 aress.eq_2 ares.eq_1 ares.eq_2 u30 u31 Vx.dstsOf.eq_1 Vx.dstsOf.eq_2 stays.eq_1 outOf.eq_1 u32 u33 u34 u35 u36 aLoad.eq_1 frz0 frz1 frz2 frz3 frz4 frz5 frz6 frz7 frz8 frz9 frz10 frz11 frz12 u37 u38 u39 aStore.eq_1 aConv0.eq_1 u40 aAppendR.eq_1 zeros.eq_1 Vx.keyOf.eq_1 ksz.eq_1 Vx.stored.eq_1 undef.eq_1 Nat.le_refl Nat.sub_self List.take_length List.drop_length List.range'.eq_1 List.range'.eq_2 amix.eq_1 amix.eq_2 aopE.eq_1 outE.eq_1 outE.eq_2 applyE.eq_1 applyE.eq_2 nOk.eq_1 loadBox.eq_1 stab.eq_1 stab.eq_2 stabL.eq_1 stabL.eq_2 mixOf.eq_1 mixIn.eq_1 u41 eq_self aFieldAddr.eq_1 aIndexAddr.eq_1 u42 rowPtr.eq_1 rowPtr.eq_2 rd_eq u43 rdPV_dat rdPV_own rdI_nil rdI_sl oneC_lit oneC_nil oneC_sl Rd.rows.eq_1 Rd.rows.eq_2 Rd.fits.eq_1 Rd.fits.eq_2 cut.eq_1 setCells.eq_1 isCell_dat isCell_own isCell_ptr isCell_iptr isCell_clo cells_dat cells_own cells_ptr cells_iptr cells_clo cells_agg toD_dat toDs.eq_1 toDs.eq_2 aBuild.eq_1 aBuild.eq_2 canBuild.eq_1 aRows.eq_1 aRows.eq_2 fetchs.eq_1 fetchs.eq_2 fetchN.eq_1 fetchNs.eq_1 fetchNs.eq_2 aSlice.eq_1 aSlice.eq_2 aSlice.eq_3 aSlice.eq_4 aAppend.eq_1 builtin_len u44 builtin_append builtin_max u45 u46 ptrBoxes.eq_1 ptrBoxes.eq_2 prep.eq_1 prepN.eq_1 fin.eq_1 fin.eq_2 fin.eq_3 noAlias.eq_1 aopN.eq_1 aopNX.eq_1 aopNR.eq_1 anseg.eq_1 anseg.eq_2 segE.eq_1 segC.eq_1 preF.eq_1 frzV.eq_1 u47 u48 allocOf.eq_1 adopts.eq_1 adopts.eq_2 asegs.eq_1 asegs.eq_2 asegs.eq_3 asegs.eq_4 segFree.eq_1 segsOf.eq_1 takesOf.eq_1 takesIn.eq_1 takeOf.eq_1 ateg.eq_1 ateg.eq_2 aopT.eq_1 u49 atHead.eq_1 atExit.eq_1 loopCode.eq_1 loopAt.eq_1 loopAt.eq_2 loopAt.eq_3 loopAt.eq_4 loopAt.eq_5 gc.eq_1 u50 cl_dat cl_own cl_ptr cl_clo cl_iptr cl_dead cl_alias cl_eptr ridOf.eq_1 ridOf.eq_2 ridOf.eq_3 ridOf.eq_4 ridOf.eq_5 ridOf.eq_6 keepAt.eq_1 keepAt.eq_2 St.at.eq_1 St.at.eq_2 St.mark.eq_1 St.mark.eq_2 touch.eq_1 u51 u52 iteB_not wl_0 wl_1 wl_2 wl_3 wl_4 wl_5 wl_6 wl_7 wl_8 wl_9 wl_10 wl_11 wl_12 wl_13 wl_14 wl_15 wl_16 wl_17 wl_18 wl_19 wl_20 wl_21 wl_22 wl_23 wl_24 wl_25 wl_26 wl_27 wl_28 wl_29 wl_30 beq_true' beq_false' app_get app_get0 app_set app_set0 app_take app_takek app_drop set_old get_old get_set take_set take_set0 take_setk drop_set get_setn get_setn0 set_setn set_setn0 lt_addk List.set_set List.getElem?_toArray List.size_toArray Array.size_empty lt_irr add_lt_irr lt_add add_lt_add le_add add_sub List.getD_cons_zero List.getD_cons_succ List.set_cons_zero List.set_cons_succ List.replicate.eq_1 List.replicate.eq_2 List.length_cons List.length_nil List.length_set List.cons_append List.nil_append List.append_nil List.append_assoc List.map_cons List.map_nil List.all_cons List.all_nil List.any_cons List.any_nil List.take_succ_cons List.take_zero List.take_nil List.drop_succ_cons List.drop_zero List.drop_nil List.zip_cons_cons List.zip_nil_left List.zip_nil_right List.find?.eq_1 List.find?.eq_2 List.contains.eq_1 List.elem.eq_1 List.elem.eq_2 List.getElem?_cons_zero List.getElem?_cons_succ List.getElem?_nil List.length_append List.length_map List.isEmpty.eq_1 List.isEmpty.eq_2 Option.getD_none Option.getD_some Option.map_none Option.map_some Option.bind_some Option.bind_none Option.isSome_none Option.isSome_some Nat.min_self Nat.add_zero Nat.zero_add Nat.add_assoc ne_eq not_false_eq_true not_true_eq_false BEq.rfl beq_self_eq_true if_true if_false Bool.false_eq_true Bool.and_true Bool.true_and Bool.and_false Bool.false_and Bool.or_true Bool.or_false Bool.true_or Bool.false_or Bool.not_false Bool.not_true Bool.not_not Bool.and_self and_self and_true true_and and_false false_and or_self or_false false_or or_true true_or decide_true decide_false
attribute [go_sem] frzBC byteTC cmpC
attribute [go_sem] Jq.eq_1 fnC cxC tiC fnT.eq_1 fnT.eq_2 fnT.eq_3 fnT.eq_4 fnT.eq_5 fnT.eq_6 fnT.eq_7 fnT.eq_8 fnT.eq_9 fnT.eq_10 fnT.eq_11 fnT.eq_12 fnT.eq_13 fnT.eq_14 fnT.eq_15 fnT.eq_16 fnT.eq_17 fnT.eq_18 fnT.eq_19 fnT.eq_20 fnT.eq_21 fnT.eq_22 fnT.eq_23 fnT.eq_24 fnT.eq_25 fnT.eq_26 fnT.eq_27 fnT.eq_28 fnT.eq_29 fnT.eq_30 fnT.eq_31 fnT.eq_32 fnT.eq_33 fnT.eq_34 fnT.eq_35 fnT.eq_36 fnT.eq_37 fnT.eq_38 fnT.eq_39 fnT.eq_40 fnT.eq_41 fnT.eq_42 fnT.eq_43 fnT.eq_44 fnT.eq_45 fnT.eq_46 fnT.eq_47 fnT.eq_48 fnT.eq_49 fnT.eq_50 fnT.eq_51 fnT.eq_52 fnT.eq_53 fnT.eq_54 fnT.eq_55 fnT.eq_56 fnT.eq_57 fnT.eq_58 fnT.eq_59 fnT.eq_60 fnT.eq_61 fnT.eq_62 fnT.eq_63 fnT.eq_64 fnT.eq_65 fnT.eq_66 fnT.eq_67 fnT.eq_68 fnT.eq_69 fnT.eq_70 fnT.eq_71 fnT.eq_72 fnT.eq_73 fnT.eq_74 fnT.eq_75 fnT.eq_76 fnT.eq_77 fnT.eq_78 fnT.eq_79 fnT.eq_80 fnT.eq_81 fnT.eq_82 fnT.eq_83 fnT.eq_84 fnT.eq_85 fnT.eq_86 fnT.eq_87 fnT.eq_88 fnT.eq_89 fnT.eq_90 fnT.eq_91 fnT.eq_92 fnT.eq_93 fnT.eq_94 fnT.eq_95 fnT.eq_96 fnT.eq_97 fnT.eq_98 fnT.eq_99 fnT.eq_100 fnT.eq_101 fnT.eq_102 fnT.eq_103 fnT.eq_104 fnT.eq_105 fnT.eq_106 fnT.eq_107 fnT.eq_108 fnT.eq_109 fnT.eq_110 fnT.eq_111 fnT.eq_112 tiT.eq_1 tiT.eq_2 tiT.eq_3 tiT.eq_4 tiT.eq_5 tiT.eq_6 tiT.eq_7 tiT.eq_8 tiT.eq_9 tiT.eq_10 tiT.eq_11 tiT.eq_12 tiT.eq_13 tiT.eq_14 tiT.eq_15 tiT.eq_16 tiT.eq_17 tiT.eq_18 tiT.eq_19 tiT.eq_20 tiT.eq_21 tiT.eq_22 tiT.eq_23 tiT.eq_24 tiT.eq_25 tiT.eq_26 tiT.eq_27 tiT.eq_28 tiT.eq_29 tiT.eq_30 tiT.eq_31 tiT.eq_32 tiT.eq_33 tiT.eq_34 tiT.eq_35 tiT.eq_36 tiT.eq_37 tiT.eq_38 tiT.eq_39 tiT.eq_40 tiT.eq_41 tiT.eq_42 tiT.eq_43 tiT.eq_44 tiT.eq_45 tiT.eq_46 tiT.eq_47 tiT.eq_48 tiT.eq_49 tiT.eq_50 tiT.eq_51 tiT.eq_52 tiT.eq_53 tiT.eq_54 tiT.eq_55 tiT.eq_56 tiT.eq_57 tiT.eq_58 tiT.eq_59 tiT.eq_60 tiT.eq_61 tiT.eq_62 tiT.eq_63 tiT.eq_64 tiT.eq_65 tiT.eq_66 tiT.eq_67 tiT.eq_68 tiT.eq_69 tiT.eq_70 tiT.eq_71 tiT.eq_72 tiT.eq_73 tiT.eq_74 tiT.eq_75 tiT.eq_76 tiT.eq_77 tiT.eq_78 tiT.eq_79 tiT.eq_80 tiT.eq_81 tiT.eq_82 tiT.eq_83 tiT.eq_84 tiT.eq_85 tiT.eq_86 tiT.eq_87 tiT.eq_88 tiT.eq_89 tiT.eq_90 tiT.eq_91 cxT.eq_1 cxT.eq_2 cxT.eq_3 cxT.eq_4 cxT.eq_5 cxT.eq_6 cxT.eq_7 cxT.eq_8 cxT.eq_9 cxT.eq_10 cxT.eq_11 cxT.eq_12 cxT.eq_13 cxT.eq_14 cxT.eq_15 cxT.eq_16 cxT.eq_17 cxT.eq_18 cxT.eq_19 cxT.eq_20 cxT.eq_21 cxT.eq_22 cxT.eq_23 cxT.eq_24 cxT.eq_25 cxT.eq_26 cxT.eq_27 cxT.eq_28 cxT.eq_29 cxT.eq_30 cxT.eq_31 cxT.eq_32 cxT.eq_33 cxT.eq_34 cxT.eq_35 cxT.eq_36 cxT.eq_37 cxT.eq_38 cxT.eq_39 cxT.eq_40 cxT.eq_41 cxT.eq_42 cxT.eq_43 cxT.eq_44 cxT.eq_45 cxT.eq_46 cxT.eq_47 cxT.eq_48 cxT.eq_49 cxT.eq_50 cxT.eq_51 cxT.eq_52 cxT.eq_53 cxT.eq_54 cxT.eq_55 cxT.eq_56 cxT.eq_57 cxT.eq_58 cxT.eq_59 cxT.eq_60 cxT.eq_61 cxT.eq_62 cxT.eq_63 cxT.eq_64 cxT.eq_65 cxT.eq_66 cxT.eq_67 cxT.eq_68 cxT.eq_69 cxT.eq_70 cxT.eq_71 cxT.eq_72 cxT.eq_73 cxT.eq_74 cxT.eq_75 cxT.eq_76 cxT.eq_77 cxT.eq_78 cxT.eq_79 cxT.eq_80 cxT.eq_81 cxT.eq_82 cxT.eq_83 cxT.eq_84 cxT.eq_85 cxT.eq_86 cxT.eq_87 cxT.eq_88 cxT.eq_89 cxT.eq_90 cxT.eq_91 cxT.eq_92 cxT.eq_93 cxT.eq_94 cxT.eq_95 cxT.eq_96 cxT.eq_97 cxT.eq_98 cxT.eq_99 cxT.eq_100 cxT.eq_101 cxT.eq_102 cxT.eq_103 cxT.eq_104 cxT.eq_105 cxT.eq_106 cxT.eq_107 cxT.eq_108 cxT.eq_109 cxT.eq_110 cxT.eq_111 cxT.eq_112 Tryz.f3.eq_1 Tryz.f7.eq_1 Tryz.f8.eq_1 Tryz.f9.eq_1 Tryz.f10.eq_1 Tryz.f11.eq_1 Tryz.f12.eq_1 Tryz.f13.eq_1 Tryz.f14.eq_1 Tryz.f18.eq_1 Tryz.f25.eq_1 Tryz.f26.eq_1 Tryz.f27.eq_1 Tryz.f28.eq_1 Tryz.f29.eq_1 Tryz.f30.eq_1 Tryz.f31.eq_1 Tryz.f32.eq_1 Tryz.f33.eq_1 Tryz.f37.eq_1 Tryz.f38.eq_1 Tryz.f39.eq_1 Tryz.f40.eq_1 Tryz.f41.eq_1 Tryz.f42.eq_1 Tryz.f49.eq_1 Tryz.f54.eq_1 Tryz.f55.eq_1 Tryz.f56.eq_1 Tryz.f57.eq_1 Tryz.f58.eq_1 Tryz.f59.eq_1 Tryz.f60.eq_1 Tryz.f61.eq_1 Tryz.f62.eq_1 Tryz.f63.eq_1 Tryz.f64.eq_1 Tryz.f65.eq_1 Tryz.f66.eq_1 Tryz.f67.eq_1 Tryz.f68.eq_1 Tryz.f69.eq_1 Tryz.f70.eq_1 Tryz.f71.eq_1 Tryz.f72.eq_1 Tryz.f76.eq_1 Tryz.f78.eq_1 Tryz.f81.eq_1 Tryz.f82.eq_1 Tryz.f83.eq_1 Tryz.f84.eq_1 Tryz.f89.eq_1 Tryz.f90.eq_1 Tryz.f91.eq_1 Tryz.f92.eq_1 Tryz.f93.eq_1 Tryz.f94.eq_1 Tryz.f95.eq_1 Tryz.f96.eq_1 Tryz.f97.eq_1 Tryz.f98.eq_1 Tryz.f99.eq_1 Tryz.f100.eq_1 Tryz.f101.eq_1 Tryz.f102.eq_1 Tryz.f103.eq_1 Tryz.f104.eq_1 Tryz.f105.eq_1 Tryz.f106.eq_1 Tryz.f107.eq_1 Tryz.f108.eq_1 Tryz.f109.eq_1 Tryz.f110.eq_1 Tryz.f111.eq_1 Tryz.f112.eq_1 Tryz.f113.eq_1 Tryz.f114.eq_1 Tryz.f115.eq_1 Tryz.f116.eq_1 Tryz.f117.eq_1 Tryz.f118.eq_1 Tryz.f123.eq_1 Tryz.f124.eq_1 Tryz.f127.eq_1 Tryz.f128.eq_1 Tryz.f129.eq_1 Tryz.f130.eq_1 Tryz.f132.eq_1 Tryz.f133.eq_1 Tryz.f134.eq_1 Tryz.f135.eq_1 Tryz.f136.eq_1 Tryz.f137.eq_1 Tryz.f138.eq_1 Tryz.f139.eq_1 Tryz.f140.eq_1 Tryz.f141.eq_1 Tryz.f142.eq_1 Tryz.f143.eq_1 Tryz.f158.eq_1 Tryz.f159.eq_1 Tryz.f160.eq_1 Tryz.f167.eq_1 Tryz.f168.eq_1 Tryz.f169.eq_1 Tryz.f171.eq_1 Tryz.f172.eq_1 Tryz.f173.eq_1 Tryz.f174.eq_1 Tryz.f175.eq_1 Tryz.f176.eq_1 Tryz.f177.eq_1
end Go.Proofs.YtifckjhggamefaaGreatDoor
