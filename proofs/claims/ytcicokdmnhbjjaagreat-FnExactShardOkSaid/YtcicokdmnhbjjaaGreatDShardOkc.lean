/- That functions of the program compute what the plain functions say: printed by a program of the prover's own (tool/dec.py). Conditions: each theorem's own. -/
import Derived.Test.YtcicokdmnhbjjaaGreatMShardOk
import Derived.Test.YtcicokdmnhbjjaaGreatGShardOk
import Derived.Test.YtcicokdmnhbjjaaGreatSShardOk
import Derived.Test.YtcicokdmnhbjjaaGreatYt
import Derived.KernelRfl
import Derived.Test.YtcicokdmnhbjjaaGreatDShardOka
import Derived.Test.YtcicokdmnhbjjaaGreatDShardOkb
set_option linter.unusedVariables false
set_option linter.unusedSimpArgs false
set_option maxRecDepth 100000
namespace Go.AW
open Go.Proofs
theorem c_impl_ShardOk {a1 : TShard} {r : Bool} (H : m_impl_ShardOk a1 = some r) : Fn Tryz.prog k_impl_ShardOk (lent [(.agg (d_TShard a1))]) true [(.bool r)] := by
 refine i_impl_ShardOk_fn (fle rfl) ?_
 rw [init_mk]
 refine AW.weaken (t := mk [(0, (.agg [(dI a1.Me), (.d (.sl 2 (List.map d_TRange a1.Own))), (.d (.sl 2 (List.map d_TRange a1.Frozen))), (.d (.sl 2 (List.map d_TCell a1.Cells))), (.d (.sl 4 (List.map d_TLock a1.Locks))), (.d (.sl 2 (List.map d_THeld a1.Helds))), (.d (.sl 1 (List.map d_i64 a1.Wounded))), (.d (.sl 1 (List.map d_i64 a1.Ended))), (dI a1.Rank)]))] [] (lk [])) (wk_mk [] (kv 0 (.agg [(dI a1.Me), (.d (.sl 2 (List.map d_TRange a1.Own))), (.d (.sl 2 (List.map d_TRange a1.Frozen))), (.d (.sl 2 (List.map d_TCell a1.Cells))), (.d (.sl 4 (List.map d_TLock a1.Locks))), (.d (.sl 2 (List.map d_THeld a1.Helds))), (.d (.sl 1 (List.map d_i64 a1.Wounded))), (.d (.sl 1 (List.map d_i64 a1.Ended))), (dI a1.Rank)]) rfl rfl SL.nil) BL.nil BK.nil) ?_
 unfold m_impl_ShardOk at H
 unfold i_impl_ShardOk
 refine aV (oBox (n := 64) (m := 9) (cs := [(dI a1.Me), (.d (.sl 2 (List.map d_TRange a1.Own))), (.d (.sl 2 (List.map d_TRange a1.Frozen))), (.d (.sl 2 (List.map d_TCell a1.Cells))), (.d (.sl 4 (List.map d_TLock a1.Locks))), (.d (.sl 2 (List.map d_THeld a1.Helds))), (.d (.sl 1 (List.map d_i64 a1.Wounded))), (.d (.sl 1 (List.map d_i64 a1.Ended))), (dI a1.Rank)]) rfl eZ rfl rfl nZ (oMov eC (xQ (aS (AW.seqJ (fun t2 : Bool => (impl_ShardOk_j2 a1) t2 = some r) (fun t2 => mk [(1, (.one (.ptr (.nm 64 0 0)))), (55, (oB t2))] [(64, (.vars 9 [(dI a1.Me), (.d (.sl 2 (List.map d_TRange a1.Own))), (.d (.sl 2 (List.map d_TRange a1.Frozen))), (.d (.sl 2 (List.map d_TCell a1.Cells))), (.d (.sl 4 (List.map d_TLock a1.Locks))), (.d (.sl 2 (List.map d_THeld a1.Helds))), (.d (.sl 1 (List.map d_i64 a1.Wounded))), (.d (.sl 1 (List.map d_i64 a1.Ended))), (dI a1.Rank)]))] (lk [])) ?_ ?_)))))
 ·intro t2 H
  unfold impl_ShardOk_j2 at H
  rcases oite H with ⟨h4, H⟩ | ⟨h4, H⟩
  ·refine AW.condT (eR rfl) h4 (aV (oMov eC (xQ (AW.ret (TQ.qr ?_)))))
   cases H
   exact eE rfl rfl
  ·refine AW.condF (eR rfl) (nt h4) (AW.skip (TQ.qn (aS (AW.seqJ (fun t5 : Bool => (impl_ShardOk_j5 a1) t5 = some r) (fun t5 => mk [(1, (.one (.ptr (.nm 64 0 0)))), (65, (oB t5))] [(64, (.vars 9 [(dI a1.Me), (.d (.sl 2 (List.map d_TRange a1.Own))), (.d (.sl 2 (List.map d_TRange a1.Frozen))), (.d (.sl 2 (List.map d_TCell a1.Cells))), (.d (.sl 4 (List.map d_TLock a1.Locks))), (.d (.sl 2 (List.map d_THeld a1.Helds))), (.d (.sl 1 (List.map d_i64 a1.Wounded))), (.d (.sl 1 (List.map d_i64 a1.Ended))), (dI a1.Rank)]))] (lk [])) ?_ ?_))))
   ·intro t5 H
    unfold impl_ShardOk_j5 at H
    rcases oite H with ⟨h7, H⟩ | ⟨h7, H⟩
    ·refine AW.condT (eR rfl) h7 (aV (oMov eC (xQ (AW.ret (TQ.qr ?_)))))
     cases H
     exact eE rfl rfl
    ·refine AW.condF (eR rfl) (nt h7) (AW.skip (TQ.qn (aS (AW.regm (rmOne (oFaddrN (m := 6) eZ rfl (xNil (rmOne (oLoadV (q := 6) (c := (.d (.sl 1 (List.map d_i64 a1.Wounded)))) eZ bZ rfl rfl (xNil (rmOne (oFaddrN (m := 7) (eR rfl) rfl (xNil (rmOne (oLoadV (q := 7) (c := (.d (.sl 1 (List.map d_i64 a1.Ended)))) eZ bZ rfl rfl (xNil (rmOne (oBslice (m := 4480) (q := 2) (cs := [(.d (.sl 1 (List.map d_i64 a1.Wounded))), (.d (.sl 1 (List.map d_i64 a1.Ended)))]) rfl (PsCons (eR rfl) (PsCons eZ PsNil)) rfl (List.cons_ne_nil _ _) (by simp) (nS rfl nZ) (xNil (rmOne ?_))))))))))))))))))))
     obtain ⟨v8, h9, H⟩ := obind H
     refine oCall (u := (.one (.d (.sl 1 (List.map d_i64 v8))))) eC Cl.fn (c_slices_Concat_int h9) (Evs.cons eZ Evs.nil) (VDs.cons (VD.vars [(.sl 1 (List.map d_i64 a1.Wounded)), (.sl 1 (List.map d_i64 a1.Ended))] bZ rfl rfl) VDs.nil) rfl (xNil (rmOne (oVar (n := 192) (m := 1) rfl rfl (nS rfl (nS rfl nZ)) (xNil (rmOne (oStoreV (es := [(.d (.sl 1 (List.map d_i64 v8)))]) eZ (eR rfl) rfl rfl bZ rfl (xNil (rmRest (xQ (aS (aV (oFaddrN (m := 4) (eR rfl) rfl (oLoadV (q := 4) (c := (.d (.sl 4 (List.map d_TLock a1.Locks)))) eZ (bS rfl (bS rfl (bS rfl bZ))) rfl rfl (oMkfn (ps := [(.nm 64 0 0), (.nm 192 0 0)]) (Evs.cons (eR rfl) (Evs.cons (eR rfl) Evs.nil)) ?_))))))))))))))
     obtain ⟨v10, h11, H⟩ := obind H
     refine oCall (u := (oB v10)) eC Cl.fn (c_slices_ContainsFunc_Lock__ShardOk_3 h11) (Evs.cons (eR rfl) (Evs.cons eZ Evs.nil)) (VDs.cons VD.plain (VDs.cons (VD.fn (PDs.cons (VD.ptrN (bS rfl (bS rfl (bS rfl bZ))) (CDs.plain (CDs.plain (CDs.plain (CDs.plain (CDs.plain (CDs.plain (CDs.plain (CDs.plain (CDs.plain CDs.nil)))))))))) (PDs.cons (VD.ptrN bZ (CDs.plain CDs.nil)) PDs.nil))) VDs.nil)) rfl (xQ ?_)
     rcases oite H with ⟨h12, H⟩ | ⟨h12, H⟩
     ·refine AW.condT eZ h12 (aV (oMov eC (xQ (AW.ret (TQ.qr ?_)))))
      cases H
      exact eE rfl rfl
     ·refine AW.condF eZ (nt h12) (AW.skip (TQ.qn (aS (AW.regd (oFaddrN (m := 5) (eR rfl) rfl (oLoadV (q := 5) (c := (.d (.sl 2 (List.map d_THeld a1.Helds)))) eZ (bS rfl (bS rfl (bS rfl bZ))) rfl rfl ?_))))))
      obtain ⟨v13, h14, H⟩ := obind H
      refine oCallN (u := (.one (.sl 4992 0 v13.length))) (bs := [(4992, (.data 1 (List.map d_i64 v13) true none))]) eC Cl.fn (c_impl_txsOf h14) (Evs.cons eZ Evs.nil) (VDs.cons VD.plain VDs.nil) (by simp [bindR, bindV, bindVs, bindC, bindCs]) rfl (fC (nS rfl (nS rfl (nS rfl (nS rfl nZ)))) rfl (fC (nS rfl (nS rfl (nS rfl (nS rfl nZ)))) rfl fN)) (oLoadV (q := 0) (c := (.d (.sl 1 (List.map d_i64 v8)))) (eR rfl) (hB rfl (bS rfl bZ)) rfl rfl ?_)
      obtain ⟨h15, H⟩ := oguard H
      refine oAppNG (f := d_i64) (xs := v13) (ys := v8) (q := (v13 ++ v8).length) (eR rfl) eZ bZ rfl (El.lent fun _ _ => rfl) rfl h15 (by decide) (by decide) (erL.cons (v' := (.one (.d (.sl 1 (List.map d_i64 v8))))) rfl (erL.cons (v' := (.one .any)) rfl (erL.cons (v' := (.one (.d (.sl 2 (List.map d_THeld a1.Helds))))) rfl (erL.cons (v' := (.one (.ptr (.nm 64 0 5)))) rfl (erL.cons (v' := (oB v10)) rfl (erL.cons (v' := (.one (.fn k_impl_ShardOk_3 [(.nm 64 0 0), (.nm 192 0 0)]))) rfl (erL.cons (v' := (.one (.d (.sl 4 (List.map d_TLock a1.Locks))))) rfl (erL.cons (v' := (.one (.ptr (.nm 64 0 4)))) rfl (erL.cons (v' := (.one (.ptr (.nm 192 0 0)))) rfl (erL.cons (v' := (.one (.d (.sl 1 (List.map d_i64 v8))))) rfl (erL.cons (v' := (.one (.sl 4480 0 2))) rfl (erL.cons (v' := (.one (.d (.sl 1 (List.map d_i64 a1.Ended))))) rfl (erL.cons (v' := (.one (.ptr (.nm 64 0 7)))) rfl (erL.cons (v' := (.one (.d (.sl 1 (List.map d_i64 a1.Wounded))))) rfl (erL.cons (v' := (.one (.ptr (.nm 64 0 6)))) rfl (erL.cons (v' := (.one (.ptr (.nm 64 0 0)))) rfl (erL.cons (v' := (oB t5)) rfl erL.nil))))))))))))))))) (erH.drop rfl (erH.cons (v' := (.vars 1 [(.d (.sl 1 (List.map d_i64 v8)))])) rfl rfl (erH.cons (v' := (.vars 1 [.zs])) rfl rfl (erH.cons (v' := (.vars 1 [(.d (.sl 1 (List.map d_i64 a1.Wounded))), (.d (.sl 1 (List.map d_i64 a1.Ended)))])) rfl rfl (erH.cons (v' := (.vars 9 [(dI a1.Me), (.d (.sl 2 (List.map d_TRange a1.Own))), (.d (.sl 2 (List.map d_TRange a1.Frozen))), (.d (.sl 2 (List.map d_TCell a1.Cells))), (.d (.sl 4 (List.map d_TLock a1.Locks))), (.d (.sl 2 (List.map d_THeld a1.Helds))), (.d (.sl 1 (List.map d_i64 a1.Wounded))), (.d (.sl 1 (List.map d_i64 a1.Ended))), (dI a1.Rank)])) rfl rfl erH.nil))))) GK.nil (oMov eZ (xQ (AW.weaken (wk_mkG [192, 4480] (kr 4 rfl rfl (kr 1 rfl rfl SL.nil)) (BL.keep rfl (BL.drop rfl (BL.drop rfl (BL.drop rfl (BL.keep rfl BL.nil))))) (BK.cons (n := 4992) rfl bZ rfl rfl (BK.cons (n := 64) rfl (bS rfl (bS rfl (bS rfl (bS rfl bZ)))) rfl rfl BK.nil)) GK.nil) (aS (AW.regm (rmOne (oMov eZ (xNil ?_))))))))
      obtain ⟨v16, h17, H⟩ := obind H
      obtain ⟨h18, H⟩ := oguard H
      refine rmCallI (ON := [4992]) (ls := []) (G := []) (E := [subKey 4992]) (MB := [(4992, (.data 1 (List.map d_i64 v16) true none))]) (u := (.tup [])) eC Cl.fn (c_slices_Sort_int h17) (Evs.cons eZ Evs.nil) (AO.mut (VO.sl bZ (List.length_map _) (allFlat fun _ => rfl)) AO.nil) rfl rfl rfl (SZ.cons bZ SZ.nil) (erL.cons (v' := (.one (.sl 4992 0 ((v13 ++ v8).length)))) rfl (erL.cons (v' := (.one (.sl 4992 0 ((v13 ++ v8).length)))) rfl (erL.cons (v' := (.one (.ptr (.nm 64 0 0)))) rfl erL.nil))) (erH.cons (v' := (.data 1 (List.map d_i64 (v13 ++ v8)) true none)) rfl rfl (erH.cons (v' := (.vars 9 [(dI a1.Me), (.d (.sl 2 (List.map d_TRange a1.Own))), (.d (.sl 2 (List.map d_TRange a1.Frozen))), (.d (.sl 2 (List.map d_TCell a1.Cells))), (.d (.sl 4 (List.map d_TLock a1.Locks))), (.d (.sl 2 (List.map d_THeld a1.Helds))), (.d (.sl 1 (List.map d_i64 a1.Wounded))), (.d (.sl 1 (List.map d_i64 a1.Ended))), (dI a1.Rank)])) rfl rfl erH.nil)) erL.nil rfl rfl (rmRest (xQ (aS (AW.regm (rmOne (oMov (eR rfl) (xNil (rmOne ?_))))))))
      obtain ⟨v19, h20, H⟩ := obind H
      refine oCallN (u := (.one (.sl 5376 0 v19.length))) (bs := [(5376, (.data 1 (List.map d_i64 v19) true none))]) eC Cl.fn (c_slices_Clone_int h20) (Evs.cons eZ Evs.nil) (VDs.cons (VD.sl bZ (by first | (simp; done) | (simp; omega) | omega | (simp only [List.length_map]; omega))) VDs.nil) (by simp [bindR, bindV, bindVs, bindC, bindCs]) rfl (fC (nS rfl (nS rfl (nS rfl nZ))) rfl (fC (nS rfl (nS rfl (nS rfl nZ))) rfl fN)) (xNil ?_)
      obtain ⟨v21, h22, H⟩ := obind H
      refine rmCallI (ON := [5376]) (ls := []) (G := [5376]) (E := [5376]) (MB := []) (u := (.one (.d (.sl 1 (List.map d_i64 v21))))) eC Cl.fn (c_slices_Compact_int h22) (Evs.cons eZ Evs.nil) (AO.give (VO.sl bZ (List.length_map _) (allFlat fun _ => rfl)) AO.nil) rfl rfl rfl SZ.nil (erL.cons (v' := (.one .any)) rfl (erL.cons (v' := (.one (.sl 4992 0 ((v13 ++ v8).length)))) rfl (erL.cons (v' := (.tup [])) rfl (erL.cons (v' := (.one (.sl 4992 0 ((v13 ++ v8).length)))) rfl (erL.cons (v' := (.one (.sl 4992 0 ((v13 ++ v8).length)))) rfl (erL.cons (v' := (.one (.ptr (.nm 64 0 0)))) rfl erL.nil)))))) (erH.drop rfl (erH.cons (v' := (.data 1 (List.map d_i64 v16) true none)) rfl rfl (erH.cons (v' := (.data 1 (List.map d_i64 (v13 ++ v8)) true none)) rfl rfl (erH.cons (v' := (.vars 9 [(dI a1.Me), (.d (.sl 2 (List.map d_TRange a1.Own))), (.d (.sl 2 (List.map d_TRange a1.Frozen))), (.d (.sl 2 (List.map d_TCell a1.Cells))), (.d (.sl 4 (List.map d_TLock a1.Locks))), (.d (.sl 2 (List.map d_THeld a1.Helds))), (.d (.sl 1 (List.map d_i64 a1.Wounded))), (.d (.sl 1 (List.map d_i64 a1.Ended))), (dI a1.Rank)])) rfl rfl erH.nil)))) erL.nil rfl rfl (rmRest (oLenD eZ (n := v21.length) (List.length_map _) (oMov (eR rfl) (oLenN eZ (oEql (eR rfl) eZ (oMov eZ ?_))))))
      rcases oite H with ⟨h23, H⟩ | ⟨h23, H⟩
      ·refine gDo eZ (decide_eq_true h23) (oLoadVA (es := [(dI a1.Me), (.d (.sl 2 (List.map d_TRange a1.Own))), (.d (.sl 2 (List.map d_TRange a1.Frozen))), (.d (.sl 2 (List.map d_TCell a1.Cells))), (.d (.sl 4 (List.map d_TLock a1.Locks))), (.d (.sl 2 (List.map d_THeld a1.Helds))), (.d (.sl 1 (List.map d_i64 a1.Wounded))), (.d (.sl 1 (List.map d_i64 a1.Ended))), (dI a1.Rank)]) (eR rfl) (bS rfl (bS rfl bZ)) rfl (gDo (eR rfl) (decide_eq_true h23) ?_))
       obtain ⟨v24, h25, H⟩ := obind H
       refine oCall (u := (oI v24)) eC Cl.fn (c_impl_room h25) (Evs.cons eZ Evs.nil) (VDs.cons (VD.agg rfl) VDs.nil) rfl (gDo (eR rfl) (decide_eq_true h23) (oLeq eZ eC (oPickT (eR rfl) (decide_eq_true h23) eZ (oMov eZ (xQ (AW.weaken (wk_mkG [4992, 64] (kr 2 rfl rfl SL.nil) (BL.drop rfl (BL.drop rfl (BL.drop rfl BL.nil))) BK.nil GK.nil) (AW.ret ?_)))))))
       cases H
       exact eE rfl rfl
      ·refine gSkip eZ (decide_eq_false h23) rfl (gSkip (eR rfl) (decide_eq_false h23) rfl (gSkip (eR rfl) (decide_eq_false h23) rfl (oPickF (eR rfl) (decide_eq_false h23) eC (oMov eZ (xQ (AW.weaken (wk_mkG [4992, 64] (kr 2 rfl rfl SL.nil) (BL.drop rfl (BL.drop rfl (BL.drop rfl BL.nil))) BK.nil GK.nil) (AW.ret ?_)))))))
       cases H
       exact eE rfl rfl
   ·refine aR (oFaddrN (m := 2) eZ rfl (oLoadV (q := 2) (c := (.d (.sl 2 (List.map d_TRange a1.Frozen)))) eZ bZ rfl rfl (oMkfn (ps := [(.nm 64 0 0)]) (Evs.cons (eR rfl) Evs.nil) ?_)))
    obtain ⟨v26, h27, H⟩ := obind H
    refine oCall (u := (oB v26)) eC Cl.fn (c_slices_ContainsFunc_Range__ShardOk_1 h27) (Evs.cons (eR rfl) (Evs.cons eZ Evs.nil)) (VDs.cons VD.plain (VDs.cons (VD.fn (PDs.cons (VD.ptrN bZ (CDs.plain (CDs.plain (CDs.plain (CDs.plain (CDs.plain (CDs.plain (CDs.plain (CDs.plain (CDs.plain CDs.nil)))))))))) PDs.nil)) VDs.nil)) rfl (oMov eZ ?_)
    rcases oite H with ⟨h28, H⟩ | ⟨h28, H⟩
    ·exact gSkip eZ h28 rfl (gSkip (eR rfl) h28 rfl (gSkip (eR rfl) h28 rfl (gSkip (eR rfl) h28 rfl (oPickT (eR rfl) h28 eC (xNil (TQ.qn ⟨true, H, (wk_mkG [] (kR rfl rfl (kR rfl rfl SL.nil)) (BL.keep rfl BL.nil) (BK.cons rfl bZ rfl rfl BK.nil) GK.nil)⟩))))))
    ·refine gDo eZ (nt h28) (oFaddrN (m := 3) (eR rfl) rfl (gDo (eR rfl) (nt h28) (oLoadV (q := 3) (c := (.d (.sl 2 (List.map d_TCell a1.Cells)))) eZ bZ rfl rfl (gDo (eR rfl) (nt h28) (oMkfn (ps := [(.nm 64 0 0)]) (Evs.cons (eR rfl) Evs.nil) (gDo (eR rfl) (nt h28) ?_))))))
     obtain ⟨v29, h30, H⟩ := obind H
     exact oCall (u := (oB v29)) eC Cl.fn (c_slices_ContainsFunc_Cell__ShardOk_2 h30) (Evs.cons (eR rfl) (Evs.cons eZ Evs.nil)) (VDs.cons VD.plain (VDs.cons (VD.fn (PDs.cons (VD.ptrN bZ (CDs.plain (CDs.plain (CDs.plain (CDs.plain (CDs.plain (CDs.plain (CDs.plain (CDs.plain (CDs.plain CDs.nil)))))))))) PDs.nil)) VDs.nil)) rfl (oPickF (eR rfl) (nt h28) eZ (xNil (TQ.qn ⟨v29, H, (wk_mkG [] (kR rfl rfl (kR rfl rfl SL.nil)) (BL.keep rfl BL.nil) (BK.cons rfl bZ rfl rfl BK.nil) GK.nil)⟩)))
 ·refine aR (oFaddrN (m := 0) (eR rfl) rfl (oLoadV (q := 0) (c := (dI a1.Me)) eZ bZ rfl rfl ?_))
  obtain ⟨v31, h32, H⟩ := obind H
  refine oCall (u := (oB v31)) eC Cl.fn (c_impl_isGroup h32) (Evs.cons eZ Evs.nil) (VDs.cons VD.plain VDs.nil) rfl (oInv eZ (oMov eZ ?_))
  rcases oite H with ⟨h33, H⟩ | ⟨h33, H⟩
  ·refine gDo eZ (congrArg Bool.not h33) (oFaddrN (m := 1) (eR rfl) rfl (gDo (eR rfl) (congrArg Bool.not h33) (oLoadV (q := 1) (c := (.d (.sl 2 (List.map d_TRange a1.Own)))) eZ bZ rfl rfl (gDo (eR rfl) (congrArg Bool.not h33) ?_))))
   obtain ⟨v34, h35, H⟩ := obind H
   refine oCall (u := (oB v34)) eC Cl.fn (c_impl_RangesOk h35) (Evs.cons eZ Evs.nil) (VDs.cons VD.plain VDs.nil) rfl (gDo (eR rfl) (congrArg Bool.not h33) (oInv eZ (oPickF (eR rfl) (congrArg Bool.not h33) eZ (oMov eZ ?_))))
   rcases oite H with ⟨h36, H⟩ | ⟨h36, H⟩
   ·refine gDo eZ (congrArg Bool.not h36) (oFaddrN (m := 2) (eR rfl) rfl (gDo (eR rfl) (congrArg Bool.not h36) (oLoadV (q := 2) (c := (.d (.sl 2 (List.map d_TRange a1.Frozen)))) eZ bZ rfl rfl (gDo (eR rfl) (congrArg Bool.not h36) ?_))))
    obtain ⟨v37, h38, H⟩ := obind H
    refine oCall (u := (oB v37)) eC Cl.fn (c_impl_RangesOk h38) (Evs.cons eZ Evs.nil) (VDs.cons VD.plain VDs.nil) rfl (gDo (eR rfl) (congrArg Bool.not h36) (oInv eZ (oPickF (eR rfl) (congrArg Bool.not h36) eZ (oMov eZ ?_))))
    rcases oite H with ⟨h39, H⟩ | ⟨h39, H⟩
    ·refine gDo eZ (congrArg Bool.not h39) (oFaddrN (m := 3) (eR rfl) rfl (gDo (eR rfl) (congrArg Bool.not h39) (oLoadV (q := 3) (c := (.d (.sl 2 (List.map d_TCell a1.Cells)))) eZ bZ rfl rfl (gDo (eR rfl) (congrArg Bool.not h39) ?_))))
     obtain ⟨v40, h41, H⟩ := obind H
     refine oCall (u := (oB v40)) eC Cl.fn (c_impl_StoreOk h41) (Evs.cons eZ Evs.nil) (VDs.cons VD.plain VDs.nil) rfl (gDo (eR rfl) (congrArg Bool.not h39) (oInv eZ (oPickF (eR rfl) (congrArg Bool.not h39) eZ (oMov eZ ?_))))
     rcases oite H with ⟨h42, H⟩ | ⟨h42, H⟩
     ·refine gDo eZ (congrArg Bool.not h42) (oFaddrN (m := 4) (eR rfl) rfl (gDo (eR rfl) (congrArg Bool.not h42) (oLoadV (q := 4) (c := (.d (.sl 4 (List.map d_TLock a1.Locks)))) eZ bZ rfl rfl (gDo (eR rfl) (congrArg Bool.not h42) ?_))))
      obtain ⟨v43, h44, H⟩ := obind H
      refine oCall (u := (oB v43)) eC Cl.fn (c_impl_LocksOk h44) (Evs.cons eZ Evs.nil) (VDs.cons VD.plain VDs.nil) rfl (gDo (eR rfl) (congrArg Bool.not h42) (oInv eZ (oPickF (eR rfl) (congrArg Bool.not h42) eZ (oMov eZ ?_))))
      rcases oite H with ⟨h45, H⟩ | ⟨h45, H⟩
      ·refine gDo eZ (congrArg Bool.not h45) (oLoadVA (es := [(dI a1.Me), (.d (.sl 2 (List.map d_TRange a1.Own))), (.d (.sl 2 (List.map d_TRange a1.Frozen))), (.d (.sl 2 (List.map d_TCell a1.Cells))), (.d (.sl 4 (List.map d_TLock a1.Locks))), (.d (.sl 2 (List.map d_THeld a1.Helds))), (.d (.sl 1 (List.map d_i64 a1.Wounded))), (.d (.sl 1 (List.map d_i64 a1.Ended))), (dI a1.Rank)]) (eR rfl) bZ rfl (gDo (eR rfl) (congrArg Bool.not h45) ?_))
       obtain ⟨v46, h47, H⟩ := obind H
       refine oCall (u := (oB v46)) eC Cl.fn (c_impl_heldsOk h47) (Evs.cons eZ Evs.nil) (VDs.cons (VD.agg rfl) VDs.nil) rfl (gDo (eR rfl) (congrArg Bool.not h45) (oInv eZ (oPickF (eR rfl) (congrArg Bool.not h45) eZ (oMov eZ ?_))))
       rcases oite H with ⟨h48, H⟩ | ⟨h48, H⟩
       ·refine gDo eZ (congrArg Bool.not h48) (oFaddrN (m := 6) (eR rfl) rfl (gDo (eR rfl) (congrArg Bool.not h48) (oLoadV (q := 6) (c := (.d (.sl 1 (List.map d_i64 a1.Wounded)))) eZ bZ rfl rfl (gDo (eR rfl) (congrArg Bool.not h48) ?_))))
        obtain ⟨v49, h50, H⟩ := obind H
        refine oCall (u := (oB v49)) eC Cl.fn (c_impl_ascending h50) (Evs.cons eZ Evs.nil) (VDs.cons VD.plain VDs.nil) rfl (gDo (eR rfl) (congrArg Bool.not h48) (oInv eZ (oPickF (eR rfl) (congrArg Bool.not h48) eZ (oMov eZ ?_))))
        rcases oite H with ⟨h51, H⟩ | ⟨h51, H⟩
        ·refine gDo eZ (congrArg Bool.not h51) (oFaddrN (m := 7) (eR rfl) rfl (gDo (eR rfl) (congrArg Bool.not h51) (oLoadV (q := 7) (c := (.d (.sl 1 (List.map d_i64 a1.Ended)))) eZ bZ rfl rfl (gDo (eR rfl) (congrArg Bool.not h51) ?_))))
         obtain ⟨v52, h53, H⟩ := obind H
         refine oCall (u := (oB v52)) eC Cl.fn (c_impl_ascending h53) (Evs.cons eZ Evs.nil) (VDs.cons VD.plain VDs.nil) rfl (gDo (eR rfl) (congrArg Bool.not h51) (oInv eZ (oPickF (eR rfl) (congrArg Bool.not h51) eZ (oMov eZ ?_))))
         rcases oite H with ⟨h54, H⟩ | ⟨h54, H⟩
         ·refine gDo eZ (congrArg Bool.not h54) (oFaddrN (m := 8) (eR rfl) rfl (gDo (eR rfl) (congrArg Bool.not h54) (oLoadV (q := 8) (c := (dI a1.Rank)) eZ bZ rfl rfl (gDo (eR rfl) (congrArg Bool.not h54) ?_))))
          obtain ⟨v55, h56, H⟩ := obind H
          exact oCall (u := (oB v55)) eC Cl.fn (c_impl_from h56) (Evs.cons eZ (Evs.cons eC (Evs.cons eC Evs.nil))) (VDs.cons VD.plain (VDs.cons VD.plain (VDs.cons VD.plain VDs.nil))) rfl (gDo (eR rfl) (congrArg Bool.not h54) (oInv eZ (oPickF (eR rfl) (congrArg Bool.not h54) eZ (xNil (TQ.qn ⟨(!v55), H, (wk_mkG [] (kR rfl rfl (kR rfl rfl SL.nil)) (BL.keep rfl BL.nil) (BK.cons rfl bZ rfl rfl BK.nil) GK.nil)⟩)))))
         ·exact gSkip eZ (congrArg Bool.not (nt h54)) rfl (gSkip (eR rfl) (congrArg Bool.not (nt h54)) rfl (gSkip (eR rfl) (congrArg Bool.not (nt h54)) rfl (gSkip (eR rfl) (congrArg Bool.not (nt h54)) rfl (oPickT (eR rfl) (congrArg Bool.not (nt h54)) eC (xNil (TQ.qn ⟨true, H, (wk_mkG [] (kR rfl rfl (kR rfl rfl SL.nil)) (BL.keep rfl BL.nil) (BK.cons rfl bZ rfl rfl BK.nil) GK.nil)⟩))))))
        ·exact gSkip eZ (congrArg Bool.not (nt h51)) rfl (gSkip (eR rfl) (congrArg Bool.not (nt h51)) rfl (gSkip (eR rfl) (congrArg Bool.not (nt h51)) rfl (gSkip (eR rfl) (congrArg Bool.not (nt h51)) rfl (oPickT (eR rfl) (congrArg Bool.not (nt h51)) eC (oMov eZ (gSkip eZ rfl rfl (gSkip (eR rfl) rfl rfl (gSkip (eR rfl) rfl rfl (gSkip (eR rfl) rfl rfl (oPickT (eR rfl) rfl eC (xNil (TQ.qn ⟨true, H, (wk_mkG [] (kR rfl rfl (kR rfl rfl SL.nil)) (BL.keep rfl BL.nil) (BK.cons rfl bZ rfl rfl BK.nil) GK.nil)⟩))))))))))))
       ·exact gSkip eZ (congrArg Bool.not (nt h48)) rfl (gSkip (eR rfl) (congrArg Bool.not (nt h48)) rfl (gSkip (eR rfl) (congrArg Bool.not (nt h48)) rfl (gSkip (eR rfl) (congrArg Bool.not (nt h48)) rfl (oPickT (eR rfl) (congrArg Bool.not (nt h48)) eC (oMov eZ (gSkip eZ rfl rfl (gSkip (eR rfl) rfl rfl (gSkip (eR rfl) rfl rfl (gSkip (eR rfl) rfl rfl (oPickT (eR rfl) rfl eC (oMov eZ (gSkip eZ rfl rfl (gSkip (eR rfl) rfl rfl (gSkip (eR rfl) rfl rfl (gSkip (eR rfl) rfl rfl (oPickT (eR rfl) rfl eC (xNil (TQ.qn ⟨true, H, (wk_mkG [] (kR rfl rfl (kR rfl rfl SL.nil)) (BL.keep rfl BL.nil) (BK.cons rfl bZ rfl rfl BK.nil) GK.nil)⟩))))))))))))))))))
      ·exact gSkip eZ (congrArg Bool.not (nt h45)) rfl (gSkip (eR rfl) (congrArg Bool.not (nt h45)) rfl (gSkip (eR rfl) (congrArg Bool.not (nt h45)) rfl (oPickT (eR rfl) (congrArg Bool.not (nt h45)) eC (oMov eZ (gSkip eZ rfl rfl (gSkip (eR rfl) rfl rfl (gSkip (eR rfl) rfl rfl (gSkip (eR rfl) rfl rfl (oPickT (eR rfl) rfl eC (oMov eZ (gSkip eZ rfl rfl (gSkip (eR rfl) rfl rfl (gSkip (eR rfl) rfl rfl (gSkip (eR rfl) rfl rfl (oPickT (eR rfl) rfl eC (oMov eZ (gSkip eZ rfl rfl (gSkip (eR rfl) rfl rfl (gSkip (eR rfl) rfl rfl (gSkip (eR rfl) rfl rfl (oPickT (eR rfl) rfl eC (xNil (TQ.qn ⟨true, H, (wk_mkG [] (kR rfl rfl (kR rfl rfl SL.nil)) (BL.keep rfl BL.nil) (BK.cons rfl bZ rfl rfl BK.nil) GK.nil)⟩)))))))))))))))))))))))
     ·exact gSkip eZ (congrArg Bool.not (nt h42)) rfl (gSkip (eR rfl) (congrArg Bool.not (nt h42)) rfl (gSkip (eR rfl) (congrArg Bool.not (nt h42)) rfl (gSkip (eR rfl) (congrArg Bool.not (nt h42)) rfl (oPickT (eR rfl) (congrArg Bool.not (nt h42)) eC (oMov eZ (gSkip eZ rfl rfl (gSkip (eR rfl) rfl rfl (gSkip (eR rfl) rfl rfl (oPickT (eR rfl) rfl eC (oMov eZ (gSkip eZ rfl rfl (gSkip (eR rfl) rfl rfl (gSkip (eR rfl) rfl rfl (gSkip (eR rfl) rfl rfl (oPickT (eR rfl) rfl eC (oMov eZ (gSkip eZ rfl rfl (gSkip (eR rfl) rfl rfl (gSkip (eR rfl) rfl rfl (gSkip (eR rfl) rfl rfl (oPickT (eR rfl) rfl eC (oMov eZ (gSkip eZ rfl rfl (gSkip (eR rfl) rfl rfl (gSkip (eR rfl) rfl rfl (gSkip (eR rfl) rfl rfl (oPickT (eR rfl) rfl eC (xNil (TQ.qn ⟨true, H, (wk_mkG [] (kR rfl rfl (kR rfl rfl SL.nil)) (BL.keep rfl BL.nil) (BK.cons rfl bZ rfl rfl BK.nil) GK.nil)⟩)))))))))))))))))))))))))))))
    ·exact gSkip eZ (congrArg Bool.not (nt h39)) rfl (gSkip (eR rfl) (congrArg Bool.not (nt h39)) rfl (gSkip (eR rfl) (congrArg Bool.not (nt h39)) rfl (gSkip (eR rfl) (congrArg Bool.not (nt h39)) rfl (oPickT (eR rfl) (congrArg Bool.not (nt h39)) eC (oMov eZ (gSkip eZ rfl rfl (gSkip (eR rfl) rfl rfl (gSkip (eR rfl) rfl rfl (gSkip (eR rfl) rfl rfl (oPickT (eR rfl) rfl eC (oMov eZ (gSkip eZ rfl rfl (gSkip (eR rfl) rfl rfl (gSkip (eR rfl) rfl rfl (oPickT (eR rfl) rfl eC (oMov eZ (gSkip eZ rfl rfl (gSkip (eR rfl) rfl rfl (gSkip (eR rfl) rfl rfl (gSkip (eR rfl) rfl rfl (oPickT (eR rfl) rfl eC (oMov eZ (gSkip eZ rfl rfl (gSkip (eR rfl) rfl rfl (gSkip (eR rfl) rfl rfl (gSkip (eR rfl) rfl rfl (oPickT (eR rfl) rfl eC (oMov eZ (gSkip eZ rfl rfl (gSkip (eR rfl) rfl rfl (gSkip (eR rfl) rfl rfl (gSkip (eR rfl) rfl rfl (oPickT (eR rfl) rfl eC (xNil (TQ.qn ⟨true, H, (wk_mkG [] (kR rfl rfl (kR rfl rfl SL.nil)) (BL.keep rfl BL.nil) (BK.cons rfl bZ rfl rfl BK.nil) GK.nil)⟩)))))))))))))))))))))))))))))))))))
   ·refine gSkip eZ (congrArg Bool.not (nt h36)) rfl (gSkip (eR rfl) (congrArg Bool.not (nt h36)) rfl (gSkip (eR rfl) (congrArg Bool.not (nt h36)) rfl (gSkip (eR rfl) (congrArg Bool.not (nt h36)) rfl (oPickT (eR rfl) (congrArg Bool.not (nt h36)) eC (oMov eZ (gSkip eZ rfl rfl (gSkip (eR rfl) rfl rfl (gSkip (eR rfl) rfl rfl (gSkip (eR rfl) rfl rfl (oPickT (eR rfl) rfl eC (oMov eZ (gSkip eZ rfl rfl (gSkip (eR rfl) rfl rfl (gSkip (eR rfl) rfl rfl (gSkip (eR rfl) rfl rfl (oPickT (eR rfl) rfl eC (oMov eZ (gSkip eZ rfl rfl (gSkip (eR rfl) rfl rfl (gSkip (eR rfl) rfl rfl (oPickT (eR rfl) rfl eC (oMov eZ (gSkip eZ rfl rfl (gSkip (eR rfl) rfl rfl (gSkip (eR rfl) rfl rfl (gSkip (eR rfl) rfl rfl (oPickT (eR rfl) rfl eC (oMov eZ (gSkip eZ rfl rfl (gSkip (eR rfl) rfl rfl (gSkip (eR rfl) rfl rfl (gSkip (eR rfl) rfl rfl (oPickT (eR rfl) rfl eC (oMov eZ (gSkip eZ rfl rfl (gSkip (eR rfl) rfl rfl (gSkip (eR rfl) rfl rfl (gSkip (eR rfl) rfl rfl (oPickT (eR rfl) rfl eC ?_)))))))))))))))))))))))))))))))))))))))
    exact xNil (TQ.qn ⟨true, H, (wk_mkG [] (kR rfl rfl (kR rfl rfl SL.nil)) (BL.keep rfl BL.nil) (BK.cons rfl bZ rfl rfl BK.nil) GK.nil)⟩)
  ·refine gSkip eZ (congrArg Bool.not (nt h33)) rfl (gSkip (eR rfl) (congrArg Bool.not (nt h33)) rfl (gSkip (eR rfl) (congrArg Bool.not (nt h33)) rfl (gSkip (eR rfl) (congrArg Bool.not (nt h33)) rfl (oPickT (eR rfl) (congrArg Bool.not (nt h33)) eC (oMov eZ (gSkip eZ rfl rfl (gSkip (eR rfl) rfl rfl (gSkip (eR rfl) rfl rfl (gSkip (eR rfl) rfl rfl (oPickT (eR rfl) rfl eC (oMov eZ (gSkip eZ rfl rfl (gSkip (eR rfl) rfl rfl (gSkip (eR rfl) rfl rfl (gSkip (eR rfl) rfl rfl (oPickT (eR rfl) rfl eC (oMov eZ (gSkip eZ rfl rfl (gSkip (eR rfl) rfl rfl (gSkip (eR rfl) rfl rfl (gSkip (eR rfl) rfl rfl (oPickT (eR rfl) rfl eC (oMov eZ (gSkip eZ rfl rfl (gSkip (eR rfl) rfl rfl (gSkip (eR rfl) rfl rfl (oPickT (eR rfl) rfl eC (oMov eZ (gSkip eZ rfl rfl (gSkip (eR rfl) rfl rfl (gSkip (eR rfl) rfl rfl (gSkip (eR rfl) rfl rfl (oPickT (eR rfl) rfl eC (oMov eZ (gSkip eZ rfl rfl (gSkip (eR rfl) rfl rfl (gSkip (eR rfl) rfl rfl (gSkip (eR rfl) rfl rfl (oPickT (eR rfl) rfl eC ?_)))))))))))))))))))))))))))))))))))))))
   exact oMov eZ (gSkip eZ rfl rfl (gSkip (eR rfl) rfl rfl (gSkip (eR rfl) rfl rfl (gSkip (eR rfl) rfl rfl (oPickT (eR rfl) rfl eC (xNil (TQ.qn ⟨true, H, (wk_mkG [] (kR rfl rfl (kR rfl rfl SL.nil)) (BL.keep rfl BL.nil) (BK.cons rfl bZ rfl rfl BK.nil) GK.nil)⟩)))))))
theorem c_laws_eqRange {a1 : TRange} {a2 : TRange} {r : Bool} (H : m_laws_eqRange a1 a2 = some r) : Fn Tryz.prog k_laws_eqRange (lent [(.agg (d_TRange a1)), (.agg (d_TRange a2))]) true [(.bool r)] := by
 refine i_laws_eqRange_fn (fle rfl) ?_
 rw [init_mk]
 refine AW.weaken (wk_mk [] (kv 0 (.agg [(dI a1.Lo), (dI a1.Hi)]) rfl rfl (kv 1 (.agg [(dI a2.Lo), (dI a2.Hi)]) rfl rfl SL.nil)) BL.nil BK.nil) ?_
 unfold m_laws_eqRange at H
 unfold i_laws_eqRange
 refine aV (oBox (n := 128) (m := 2) (cs := [(dI a1.Lo), (dI a1.Hi)]) rfl eZ rfl rfl nZ (oBox (n := 192) (m := 2) (cs := [(dI a2.Lo), (dI a2.Hi)]) rfl (eR rfl) rfl rfl (nS rfl nZ) (oMov eC (xQ (aS (aV (oFaddrN (m := 0) (eR rfl) rfl (oLoadV (q := 0) (c := (dI a1.Lo)) eZ (bS rfl bZ) rfl rfl (oFaddrN (m := 0) (eR rfl) rfl (oLoadV (q := 0) (c := (dI a2.Lo)) eZ bZ rfl rfl (oNeq (eR rfl) eZ (xQ ?_))))))))))))
 rcases oite H with ⟨h3, H⟩ | ⟨h3, H⟩
 ·refine AW.condT eZ (decide_eq_true h3) (aV (oMov eC (xQ (AW.ret (TQ.qr ?_)))))
  cases H
  exact eE rfl rfl
 ·refine AW.condF eZ (decide_eq_false h3) (AW.skip (TQ.qn (aS (aV (oFaddrN (m := 1) (eR rfl) rfl (oLoadV (q := 1) (c := (dI a1.Hi)) eZ (bS rfl bZ) rfl rfl (oFaddrN (m := 1) (eR rfl) rfl (oLoadV (q := 1) (c := (dI a2.Hi)) eZ bZ rfl rfl (oNeq (eR rfl) eZ (xQ ?_))))))))))
  rcases oite H with ⟨h4, H⟩ | ⟨h4, H⟩
  ·refine AW.condT eZ (decide_eq_true h4) (aV (oMov eC (xQ (AW.weaken (wk_mk [192, 128] (kr 4 rfl rfl SL.nil) (BL.drop rfl (BL.drop rfl BL.nil)) BK.nil) (AW.ret (TQ.qr ?_))))))
   cases H
   exact eE rfl rfl
  ·refine AW.condF eZ (decide_eq_false h4) (AW.skip (TQ.qn (aV (oMov eC (xQ (AW.weaken (wk_mk [192, 128] (kr 4 rfl rfl SL.nil) (BL.drop rfl (BL.drop rfl BL.nil)) BK.nil) (AW.ret ?_)))))))
   cases H
   exact eE rfl rfl
theorem c_laws_eqRangeS {a1 : (List TRange)} {a2 : (List TRange)} {r : Bool} (H : m_laws_eqRangeS a1 a2 = some r) : Fn Tryz.prog k_laws_eqRangeS (lent [(.sl 2 (List.map d_TRange a1)), (.sl 2 (List.map d_TRange a2))]) true [(.bool r)] := by
 refine i_laws_eqRangeS_fn (fle rfl) ?_
 rw [init_mk]
 refine AW.weaken (wk_mk [] (kv 0 (.one (.d (.sl 2 (List.map d_TRange a1)))) rfl rfl (kv 1 (.one (.d (.sl 2 (List.map d_TRange a2)))) rfl rfl SL.nil)) BL.nil BK.nil) ?_
 unfold m_laws_eqRangeS at H
 unfold i_laws_eqRangeS
 refine aV (oMov eC (xQ (aS (aV (oMov (eR rfl) (oLenD eZ (n := a1.length) (List.length_map _) (oMov (eR rfl) (oLenD eZ (n := a2.length) (List.length_map _) (oNeq (eR rfl) eZ (xQ ?_))))))))))
 rcases oite H with ⟨h3, H⟩ | ⟨h3, H⟩
 ·refine AW.condT eZ (decide_eq_true h3) (aV (oMov eC (xQ (AW.ret (TQ.qr ?_)))))
  cases H
  exact eE rfl rfl
 ·refine AW.condF eZ (decide_eq_false h3) (AW.skip (TQ.qn (AW.seqJ (fun t4 : Unit => laws_eqRangeS_j4 t4 = some r) (fun t4 => mk [] [] noG) ?_ ?_)))
  ·intro t4 H
   unfold laws_eqRangeS_j4 at H
   refine aV (oMov eC (xQ (AW.ret ?_)))
   cases H
   exact eE rfl rfl
  ·refine aV (oMov eC (xQ (AW.block (AW.iter (fun s6 : Int => mk [(0, (.one (.d (.sl 2 (List.map d_TRange a1))))), (1, (.one (.d (.sl 2 (List.map d_TRange a2))))), (5, (oI s6))] [] noG) H (wk_mk [] (kR rfl rfl (kR rfl rfl (kR rfl rfl SL.nil))) BL.nil BK.nil) ?_))))
   intro kb7 s6 H
   unfold laws_eqRangeS_b6 at H
   refine aS (aV (oMov (eR rfl) (oMov (eR rfl) (oLenD eZ (n := a1.length) (List.length_map _) (oLss (eR rfl) eZ (xQ ?_))))))
   rcases oite H with ⟨h8, H⟩ | ⟨h8, H⟩
   ·refine AW.condT eZ (decide_eq_true h8) (AW.skip (TQ.qn (aS (AW.block (aS (AW.regd (oMov (eR rfl) (oMov (eR rfl) ?_))))))))
    obtain ⟨v9, h10, H⟩ := obind H
    refine oAtD (eR rfl) eZ h10 (oLoadBA (es := [(dI v9.Lo), (dI v9.Hi)]) eZ rfl (oMov (eR rfl) (oMov (eR rfl) ?_)))
    obtain ⟨v11, h12, H⟩ := obind H
    refine oAtD (eR rfl) eZ h12 (oLoadBA (es := [(dI v11.Lo), (dI v11.Hi)]) eZ rfl ?_)
    obtain ⟨v13, h14, H⟩ := obind H
    refine oCall (u := (oB v13)) eC Cl.fn (c_laws_eqRange h14) (Evs.cons (eR rfl) (Evs.cons eZ Evs.nil)) (VDs.cons (VD.agg rfl) (VDs.cons (VD.agg rfl) VDs.nil)) rfl (oInv eZ (xQ (AW.weaken (wk_mk [] (kr 26 rfl rfl (kr 0 rfl rfl (kr 1 rfl rfl (kr 5 rfl rfl SL.nil)))) BL.nil BK.nil) ?_)))
    rcases oite H with ⟨h15, H⟩ | ⟨h15, H⟩
    ·exact AW.condF eZ (congrArg Bool.not h15) (AW.skip (BQ.qn (TQ.qn (aR (oMov (eR rfl) (oAdd eZ eC (oMov eZ (xNil (TQ.qn ⟨(IntKind.wrap .i64 (s6 + 1)), H, (wk_mk [] (kR rfl rfl (kR rfl rfl (kR rfl rfl SL.nil))) BL.nil BK.nil)⟩)))))))))
    ·refine AW.condT eZ (congrArg Bool.not (nt h15)) (aV (oMov eC (xQ (AW.ret (BQ.qr (TQ.qr (TQ.qr (BQ.qr (TQ.qr ?_)))))))))
     cases H
     exact eE rfl rfl
   ·exact AW.condF eZ (decide_eq_false h8) (AW.exit (TQ.qe (TQ.qe (BQ.qe (TQ.qn ⟨(), H, (wk_mk [] SL.nil BL.nil BK.nil)⟩)))))
theorem c_laws_eqCell {a1 : TCell} {a2 : TCell} {r : Bool} (H : m_laws_eqCell a1 a2 = some r) : Fn Tryz.prog k_laws_eqCell (lent [(.agg (d_TCell a1)), (.agg (d_TCell a2))]) true [(.bool r)] := by
 refine i_laws_eqCell_fn (fle rfl) ?_
 rw [init_mk]
 refine AW.weaken (wk_mk [] (kv 0 (.agg [(dI a1.Key), (dI a1.Value)]) rfl rfl (kv 1 (.agg [(dI a2.Key), (dI a2.Value)]) rfl rfl SL.nil)) BL.nil BK.nil) ?_
 unfold m_laws_eqCell at H
 unfold i_laws_eqCell
 refine aV (oBox (n := 128) (m := 2) (cs := [(dI a1.Key), (dI a1.Value)]) rfl eZ rfl rfl nZ (oBox (n := 192) (m := 2) (cs := [(dI a2.Key), (dI a2.Value)]) rfl (eR rfl) rfl rfl (nS rfl nZ) (oMov eC (xQ (aS (aV (oFaddrN (m := 0) (eR rfl) rfl (oLoadV (q := 0) (c := (dI a1.Key)) eZ (bS rfl bZ) rfl rfl (oFaddrN (m := 0) (eR rfl) rfl (oLoadV (q := 0) (c := (dI a2.Key)) eZ bZ rfl rfl (oNeq (eR rfl) eZ (xQ ?_))))))))))))
 rcases oite H with ⟨h3, H⟩ | ⟨h3, H⟩
 ·refine AW.condT eZ (decide_eq_true h3) (aV (oMov eC (xQ (AW.ret (TQ.qr ?_)))))
  cases H
  exact eE rfl rfl
 ·refine AW.condF eZ (decide_eq_false h3) (AW.skip (TQ.qn (aS (aV (oFaddrN (m := 1) (eR rfl) rfl (oLoadV (q := 1) (c := (dI a1.Value)) eZ (bS rfl bZ) rfl rfl (oFaddrN (m := 1) (eR rfl) rfl (oLoadV (q := 1) (c := (dI a2.Value)) eZ bZ rfl rfl (oNeq (eR rfl) eZ (xQ ?_))))))))))
  rcases oite H with ⟨h4, H⟩ | ⟨h4, H⟩
  ·refine AW.condT eZ (decide_eq_true h4) (aV (oMov eC (xQ (AW.weaken (wk_mk [192, 128] (kr 4 rfl rfl SL.nil) (BL.drop rfl (BL.drop rfl BL.nil)) BK.nil) (AW.ret (TQ.qr ?_))))))
   cases H
   exact eE rfl rfl
  ·refine AW.condF eZ (decide_eq_false h4) (AW.skip (TQ.qn (aV (oMov eC (xQ (AW.weaken (wk_mk [192, 128] (kr 4 rfl rfl SL.nil) (BL.drop rfl (BL.drop rfl BL.nil)) BK.nil) (AW.ret ?_)))))))
   cases H
   exact eE rfl rfl
theorem c_laws_eqCellS {a1 : (List TCell)} {a2 : (List TCell)} {r : Bool} (H : m_laws_eqCellS a1 a2 = some r) : Fn Tryz.prog k_laws_eqCellS (lent [(.sl 2 (List.map d_TCell a1)), (.sl 2 (List.map d_TCell a2))]) true [(.bool r)] := by
 refine i_laws_eqCellS_fn (fle rfl) ?_
 rw [init_mk]
 refine AW.weaken (wk_mk [] (kv 0 (.one (.d (.sl 2 (List.map d_TCell a1)))) rfl rfl (kv 1 (.one (.d (.sl 2 (List.map d_TCell a2)))) rfl rfl SL.nil)) BL.nil BK.nil) ?_
 unfold m_laws_eqCellS at H
 unfold i_laws_eqCellS
 refine aV (oMov eC (xQ (aS (aV (oMov (eR rfl) (oLenD eZ (n := a1.length) (List.length_map _) (oMov (eR rfl) (oLenD eZ (n := a2.length) (List.length_map _) (oNeq (eR rfl) eZ (xQ ?_))))))))))
 rcases oite H with ⟨h3, H⟩ | ⟨h3, H⟩
 ·refine AW.condT eZ (decide_eq_true h3) (aV (oMov eC (xQ (AW.ret (TQ.qr ?_)))))
  cases H
  exact eE rfl rfl
 ·refine AW.condF eZ (decide_eq_false h3) (AW.skip (TQ.qn (AW.seqJ (fun t4 : Unit => laws_eqCellS_j4 t4 = some r) (fun t4 => mk [] [] noG) ?_ ?_)))
  ·intro t4 H
   unfold laws_eqCellS_j4 at H
   refine aV (oMov eC (xQ (AW.ret ?_)))
   cases H
   exact eE rfl rfl
  ·refine aV (oMov eC (xQ (AW.block (AW.iter (fun s6 : Int => mk [(0, (.one (.d (.sl 2 (List.map d_TCell a1))))), (1, (.one (.d (.sl 2 (List.map d_TCell a2))))), (5, (oI s6))] [] noG) H (wk_mk [] (kR rfl rfl (kR rfl rfl (kR rfl rfl SL.nil))) BL.nil BK.nil) ?_))))
   intro kb7 s6 H
   unfold laws_eqCellS_b6 at H
   refine aS (aV (oMov (eR rfl) (oMov (eR rfl) (oLenD eZ (n := a1.length) (List.length_map _) (oLss (eR rfl) eZ (xQ ?_))))))
   rcases oite H with ⟨h8, H⟩ | ⟨h8, H⟩
   ·refine AW.condT eZ (decide_eq_true h8) (AW.skip (TQ.qn (aS (AW.block (aS (AW.regd (oMov (eR rfl) (oMov (eR rfl) ?_))))))))
    obtain ⟨v9, h10, H⟩ := obind H
    refine oAtD (eR rfl) eZ h10 (oLoadBA (es := [(dI v9.Key), (dI v9.Value)]) eZ rfl (oMov (eR rfl) (oMov (eR rfl) ?_)))
    obtain ⟨v11, h12, H⟩ := obind H
    refine oAtD (eR rfl) eZ h12 (oLoadBA (es := [(dI v11.Key), (dI v11.Value)]) eZ rfl ?_)
    obtain ⟨v13, h14, H⟩ := obind H
    refine oCall (u := (oB v13)) eC Cl.fn (c_laws_eqCell h14) (Evs.cons (eR rfl) (Evs.cons eZ Evs.nil)) (VDs.cons (VD.agg rfl) (VDs.cons (VD.agg rfl) VDs.nil)) rfl (oInv eZ (xQ (AW.weaken (wk_mk [] (kr 26 rfl rfl (kr 0 rfl rfl (kr 1 rfl rfl (kr 5 rfl rfl SL.nil)))) BL.nil BK.nil) ?_)))
    rcases oite H with ⟨h15, H⟩ | ⟨h15, H⟩
    ·exact AW.condF eZ (congrArg Bool.not h15) (AW.skip (BQ.qn (TQ.qn (aR (oMov (eR rfl) (oAdd eZ eC (oMov eZ (xNil (TQ.qn ⟨(IntKind.wrap .i64 (s6 + 1)), H, (wk_mk [] (kR rfl rfl (kR rfl rfl (kR rfl rfl SL.nil))) BL.nil BK.nil)⟩)))))))))
    ·refine AW.condT eZ (congrArg Bool.not (nt h15)) (aV (oMov eC (xQ (AW.ret (BQ.qr (TQ.qr (TQ.qr (BQ.qr (TQ.qr ?_)))))))))
     cases H
     exact eE rfl rfl
   ·exact AW.condF eZ (decide_eq_false h8) (AW.exit (TQ.qe (TQ.qe (BQ.qe (TQ.qn ⟨(), H, (wk_mk [] SL.nil BL.nil BK.nil)⟩)))))
theorem c_laws_eqLock {a1 : TLock} {a2 : TLock} {r : Bool} (H : m_laws_eqLock a1 a2 = some r) : Fn Tryz.prog k_laws_eqLock (lent [(.agg (d_TLock a1)), (.agg (d_TLock a2))]) true [(.bool r)] := by
 refine i_laws_eqLock_fn (fle rfl) ?_
 rw [init_mk]
 refine AW.weaken (wk_mk [] (kv 0 (.agg [(dI a1.Tx), (dI a1.Lo), (dI a1.Hi), (dI a1.Mode)]) rfl rfl (kv 1 (.agg [(dI a2.Tx), (dI a2.Lo), (dI a2.Hi), (dI a2.Mode)]) rfl rfl SL.nil)) BL.nil BK.nil) ?_
 unfold m_laws_eqLock at H
 unfold i_laws_eqLock
 refine aV (oBox (n := 128) (m := 4) (cs := [(dI a1.Tx), (dI a1.Lo), (dI a1.Hi), (dI a1.Mode)]) rfl eZ rfl rfl nZ (oBox (n := 192) (m := 4) (cs := [(dI a2.Tx), (dI a2.Lo), (dI a2.Hi), (dI a2.Mode)]) rfl (eR rfl) rfl rfl (nS rfl nZ) (oMov eC (xQ (aS (aV (oFaddrN (m := 0) (eR rfl) rfl (oLoadV (q := 0) (c := (dI a1.Tx)) eZ (bS rfl bZ) rfl rfl (oFaddrN (m := 0) (eR rfl) rfl (oLoadV (q := 0) (c := (dI a2.Tx)) eZ bZ rfl rfl (oNeq (eR rfl) eZ (xQ ?_))))))))))))
 rcases oite H with ⟨h3, H⟩ | ⟨h3, H⟩
 ·refine AW.condT eZ (decide_eq_true h3) (aV (oMov eC (xQ (AW.ret (TQ.qr ?_)))))
  cases H
  exact eE rfl rfl
 ·refine AW.condF eZ (decide_eq_false h3) (AW.skip (TQ.qn (aS (aV (oFaddrN (m := 1) (eR rfl) rfl (oLoadV (q := 1) (c := (dI a1.Lo)) eZ (bS rfl bZ) rfl rfl (oFaddrN (m := 1) (eR rfl) rfl (oLoadV (q := 1) (c := (dI a2.Lo)) eZ bZ rfl rfl (oNeq (eR rfl) eZ (xQ ?_))))))))))
  rcases oite H with ⟨h4, H⟩ | ⟨h4, H⟩
  ·refine AW.condT eZ (decide_eq_true h4) (aV (oMov eC (xQ (AW.weaken (wk_mk [192, 128] (kr 4 rfl rfl SL.nil) (BL.drop rfl (BL.drop rfl BL.nil)) BK.nil) (AW.ret (TQ.qr ?_))))))
   cases H
   exact eE rfl rfl
  ·refine AW.condF eZ (decide_eq_false h4) (AW.skip (TQ.qn (aS (aV (oFaddrN (m := 2) (eR rfl) rfl (oLoadV (q := 2) (c := (dI a1.Hi)) eZ (bS rfl bZ) rfl rfl (oFaddrN (m := 2) (eR rfl) rfl (oLoadV (q := 2) (c := (dI a2.Hi)) eZ bZ rfl rfl (oNeq (eR rfl) eZ (xQ (AW.weaken (wk_mk [] (kr 19 rfl rfl (kr 3 rfl rfl (kr 2 rfl rfl SL.nil))) (BL.keep rfl (BL.keep rfl BL.nil)) (BK.cons (n := 192) rfl bZ rfl rfl (BK.cons (n := 128) rfl (bS rfl bZ) rfl rfl BK.nil))) ?_)))))))))))
   rcases oite H with ⟨h5, H⟩ | ⟨h5, H⟩
   ·refine AW.condT eZ (decide_eq_true h5) (aV (oMov eC (xQ (AW.ret (TQ.qr ?_)))))
    cases H
    exact eE rfl rfl
   ·refine AW.condF eZ (decide_eq_false h5) (AW.skip (TQ.qn (aS (aV (oFaddrN (m := 3) (eR rfl) rfl (oLoadV (q := 3) (c := (dI a1.Mode)) eZ (bS rfl bZ) rfl rfl (oFaddrN (m := 3) (eR rfl) rfl (oLoadV (q := 3) (c := (dI a2.Mode)) eZ bZ rfl rfl (oNeq (eR rfl) eZ (xQ ?_))))))))))
    rcases oite H with ⟨h6, H⟩ | ⟨h6, H⟩
    ·refine AW.condT eZ (decide_eq_true h6) (aV (oMov eC (xQ (AW.ret (TQ.qr ?_)))))
     cases H
     exact eE rfl rfl
    ·refine AW.condF eZ (decide_eq_false h6) (AW.skip (TQ.qn (aV (oMov eC (xQ (AW.ret ?_))))))
     cases H
     exact eE rfl rfl
theorem c_laws_eqLockS {a1 : (List TLock)} {a2 : (List TLock)} {r : Bool} (H : m_laws_eqLockS a1 a2 = some r) : Fn Tryz.prog k_laws_eqLockS (lent [(.sl 4 (List.map d_TLock a1)), (.sl 4 (List.map d_TLock a2))]) true [(.bool r)] := by
 refine i_laws_eqLockS_fn (fle rfl) ?_
 rw [init_mk]
 refine AW.weaken (wk_mk [] (kv 0 (.one (.d (.sl 4 (List.map d_TLock a1)))) rfl rfl (kv 1 (.one (.d (.sl 4 (List.map d_TLock a2)))) rfl rfl SL.nil)) BL.nil BK.nil) ?_
 unfold m_laws_eqLockS at H
 unfold i_laws_eqLockS
 refine aV (oMov eC (xQ (aS (aV (oMov (eR rfl) (oLenD eZ (n := a1.length) (List.length_map _) (oMov (eR rfl) (oLenD eZ (n := a2.length) (List.length_map _) (oNeq (eR rfl) eZ (xQ ?_))))))))))
 rcases oite H with ⟨h3, H⟩ | ⟨h3, H⟩
 ·refine AW.condT eZ (decide_eq_true h3) (aV (oMov eC (xQ (AW.ret (TQ.qr ?_)))))
  cases H
  exact eE rfl rfl
 ·refine AW.condF eZ (decide_eq_false h3) (AW.skip (TQ.qn (AW.seqJ (fun t4 : Unit => laws_eqLockS_j4 t4 = some r) (fun t4 => mk [] [] noG) ?_ ?_)))
  ·intro t4 H
   unfold laws_eqLockS_j4 at H
   refine aV (oMov eC (xQ (AW.ret ?_)))
   cases H
   exact eE rfl rfl
  ·refine aV (oMov eC (xQ (AW.block (AW.iter (fun s6 : Int => mk [(0, (.one (.d (.sl 4 (List.map d_TLock a1))))), (1, (.one (.d (.sl 4 (List.map d_TLock a2))))), (5, (oI s6))] [] noG) H (wk_mk [] (kR rfl rfl (kR rfl rfl (kR rfl rfl SL.nil))) BL.nil BK.nil) ?_))))
   intro kb7 s6 H
   unfold laws_eqLockS_b6 at H
   refine aS (aV (oMov (eR rfl) (oMov (eR rfl) (oLenD eZ (n := a1.length) (List.length_map _) (oLss (eR rfl) eZ (xQ ?_))))))
   rcases oite H with ⟨h8, H⟩ | ⟨h8, H⟩
   ·refine AW.condT eZ (decide_eq_true h8) (AW.skip (TQ.qn (aS (AW.block (aS (AW.regd (oMov (eR rfl) (oMov (eR rfl) ?_))))))))
    obtain ⟨v9, h10, H⟩ := obind H
    refine oAtD (eR rfl) eZ h10 (oLoadBA (es := [(dI v9.Tx), (dI v9.Lo), (dI v9.Hi), (dI v9.Mode)]) eZ rfl (oMov (eR rfl) (oMov (eR rfl) ?_)))
    obtain ⟨v11, h12, H⟩ := obind H
    refine oAtD (eR rfl) eZ h12 (oLoadBA (es := [(dI v11.Tx), (dI v11.Lo), (dI v11.Hi), (dI v11.Mode)]) eZ rfl ?_)
    obtain ⟨v13, h14, H⟩ := obind H
    refine oCall (u := (oB v13)) eC Cl.fn (c_laws_eqLock h14) (Evs.cons (eR rfl) (Evs.cons eZ Evs.nil)) (VDs.cons (VD.agg rfl) (VDs.cons (VD.agg rfl) VDs.nil)) rfl (oInv eZ (xQ (AW.weaken (wk_mk [] (kr 26 rfl rfl (kr 0 rfl rfl (kr 1 rfl rfl (kr 5 rfl rfl SL.nil)))) BL.nil BK.nil) ?_)))
    rcases oite H with ⟨h15, H⟩ | ⟨h15, H⟩
    ·exact AW.condF eZ (congrArg Bool.not h15) (AW.skip (BQ.qn (TQ.qn (aR (oMov (eR rfl) (oAdd eZ eC (oMov eZ (xNil (TQ.qn ⟨(IntKind.wrap .i64 (s6 + 1)), H, (wk_mk [] (kR rfl rfl (kR rfl rfl (kR rfl rfl SL.nil))) BL.nil BK.nil)⟩)))))))))
    ·refine AW.condT eZ (congrArg Bool.not (nt h15)) (aV (oMov eC (xQ (AW.ret (BQ.qr (TQ.qr (TQ.qr (BQ.qr (TQ.qr ?_)))))))))
     cases H
     exact eE rfl rfl
   ·exact AW.condF eZ (decide_eq_false h8) (AW.exit (TQ.qe (TQ.qe (BQ.qe (TQ.qn ⟨(), H, (wk_mk [] SL.nil BL.nil BK.nil)⟩)))))
theorem c_laws_eqWrite {a1 : TCell} {a2 : TCell} {r : Bool} (H : m_laws_eqWrite a1 a2 = some r) : Fn Tryz.prog k_laws_eqWrite (lent [(.agg (d_TCell a1)), (.agg (d_TCell a2))]) true [(.bool r)] := by
 refine i_laws_eqWrite_fn (fle rfl) ?_
 rw [init_mk]
 refine AW.weaken (wk_mk [] (kv 0 (.agg [(dI a1.Key), (dI a1.Value)]) rfl rfl (kv 1 (.agg [(dI a2.Key), (dI a2.Value)]) rfl rfl SL.nil)) BL.nil BK.nil) ?_
 unfold m_laws_eqWrite at H
 unfold i_laws_eqWrite
 refine aV (oBox (n := 128) (m := 2) (cs := [(dI a1.Key), (dI a1.Value)]) rfl eZ rfl rfl nZ (oBox (n := 192) (m := 2) (cs := [(dI a2.Key), (dI a2.Value)]) rfl (eR rfl) rfl rfl (nS rfl nZ) (oMov eC (xQ (aS (aV (oFaddrN (m := 0) (eR rfl) rfl (oLoadV (q := 0) (c := (dI a1.Key)) eZ (bS rfl bZ) rfl rfl (oFaddrN (m := 0) (eR rfl) rfl (oLoadV (q := 0) (c := (dI a2.Key)) eZ bZ rfl rfl (oNeq (eR rfl) eZ (xQ ?_))))))))))))
 rcases oite H with ⟨h3, H⟩ | ⟨h3, H⟩
 ·refine AW.condT eZ (decide_eq_true h3) (aV (oMov eC (xQ (AW.ret (TQ.qr ?_)))))
  cases H
  exact eE rfl rfl
 ·refine AW.condF eZ (decide_eq_false h3) (AW.skip (TQ.qn (aS (aV (oFaddrN (m := 1) (eR rfl) rfl (oLoadV (q := 1) (c := (dI a1.Value)) eZ (bS rfl bZ) rfl rfl (oFaddrN (m := 1) (eR rfl) rfl (oLoadV (q := 1) (c := (dI a2.Value)) eZ bZ rfl rfl (oNeq (eR rfl) eZ (xQ ?_))))))))))
  rcases oite H with ⟨h4, H⟩ | ⟨h4, H⟩
  ·refine AW.condT eZ (decide_eq_true h4) (aV (oMov eC (xQ (AW.weaken (wk_mk [192, 128] (kr 4 rfl rfl SL.nil) (BL.drop rfl (BL.drop rfl BL.nil)) BK.nil) (AW.ret (TQ.qr ?_))))))
   cases H
   exact eE rfl rfl
  ·refine AW.condF eZ (decide_eq_false h4) (AW.skip (TQ.qn (aV (oMov eC (xQ (AW.weaken (wk_mk [192, 128] (kr 4 rfl rfl SL.nil) (BL.drop rfl (BL.drop rfl BL.nil)) BK.nil) (AW.ret ?_)))))))
   cases H
   exact eE rfl rfl
theorem c_laws_eqWriteS {a1 : (List TCell)} {a2 : (List TCell)} {r : Bool} (H : m_laws_eqWriteS a1 a2 = some r) : Fn Tryz.prog k_laws_eqWriteS (lent [(.sl 2 (List.map d_TCell a1)), (.sl 2 (List.map d_TCell a2))]) true [(.bool r)] := by
 refine i_laws_eqWriteS_fn (fle rfl) ?_
 rw [init_mk]
 refine AW.weaken (wk_mk [] (kv 0 (.one (.d (.sl 2 (List.map d_TCell a1)))) rfl rfl (kv 1 (.one (.d (.sl 2 (List.map d_TCell a2)))) rfl rfl SL.nil)) BL.nil BK.nil) ?_
 unfold m_laws_eqWriteS at H
 unfold i_laws_eqWriteS
 refine aV (oMov eC (xQ (aS (aV (oMov (eR rfl) (oLenD eZ (n := a1.length) (List.length_map _) (oMov (eR rfl) (oLenD eZ (n := a2.length) (List.length_map _) (oNeq (eR rfl) eZ (xQ ?_))))))))))
 rcases oite H with ⟨h3, H⟩ | ⟨h3, H⟩
 ·refine AW.condT eZ (decide_eq_true h3) (aV (oMov eC (xQ (AW.ret (TQ.qr ?_)))))
  cases H
  exact eE rfl rfl
 ·refine AW.condF eZ (decide_eq_false h3) (AW.skip (TQ.qn (AW.seqJ (fun t4 : Unit => laws_eqWriteS_j4 t4 = some r) (fun t4 => mk [] [] noG) ?_ ?_)))
  ·intro t4 H
   unfold laws_eqWriteS_j4 at H
   refine aV (oMov eC (xQ (AW.ret ?_)))
   cases H
   exact eE rfl rfl
  ·refine aV (oMov eC (xQ (AW.block (AW.iter (fun s6 : Int => mk [(0, (.one (.d (.sl 2 (List.map d_TCell a1))))), (1, (.one (.d (.sl 2 (List.map d_TCell a2))))), (5, (oI s6))] [] noG) H (wk_mk [] (kR rfl rfl (kR rfl rfl (kR rfl rfl SL.nil))) BL.nil BK.nil) ?_))))
   intro kb7 s6 H
   unfold laws_eqWriteS_b6 at H
   refine aS (aV (oMov (eR rfl) (oMov (eR rfl) (oLenD eZ (n := a1.length) (List.length_map _) (oLss (eR rfl) eZ (xQ ?_))))))
   rcases oite H with ⟨h8, H⟩ | ⟨h8, H⟩
   ·refine AW.condT eZ (decide_eq_true h8) (AW.skip (TQ.qn (aS (AW.block (aS (AW.regd (oMov (eR rfl) (oMov (eR rfl) ?_))))))))
    obtain ⟨v9, h10, H⟩ := obind H
    refine oAtD (eR rfl) eZ h10 (oLoadBA (es := [(dI v9.Key), (dI v9.Value)]) eZ rfl (oMov (eR rfl) (oMov (eR rfl) ?_)))
    obtain ⟨v11, h12, H⟩ := obind H
    refine oAtD (eR rfl) eZ h12 (oLoadBA (es := [(dI v11.Key), (dI v11.Value)]) eZ rfl ?_)
    obtain ⟨v13, h14, H⟩ := obind H
    refine oCall (u := (oB v13)) eC Cl.fn (c_laws_eqWrite h14) (Evs.cons (eR rfl) (Evs.cons eZ Evs.nil)) (VDs.cons (VD.agg rfl) (VDs.cons (VD.agg rfl) VDs.nil)) rfl (oInv eZ (xQ (AW.weaken (wk_mk [] (kr 26 rfl rfl (kr 0 rfl rfl (kr 1 rfl rfl (kr 5 rfl rfl SL.nil)))) BL.nil BK.nil) ?_)))
    rcases oite H with ⟨h15, H⟩ | ⟨h15, H⟩
    ·exact AW.condF eZ (congrArg Bool.not h15) (AW.skip (BQ.qn (TQ.qn (aR (oMov (eR rfl) (oAdd eZ eC (oMov eZ (xNil (TQ.qn ⟨(IntKind.wrap .i64 (s6 + 1)), H, (wk_mk [] (kR rfl rfl (kR rfl rfl (kR rfl rfl SL.nil))) BL.nil BK.nil)⟩)))))))))
    ·refine AW.condT eZ (congrArg Bool.not (nt h15)) (aV (oMov eC (xQ (AW.ret (BQ.qr (TQ.qr (TQ.qr (BQ.qr (TQ.qr ?_)))))))))
     cases H
     exact eE rfl rfl
   ·exact AW.condF eZ (decide_eq_false h8) (AW.exit (TQ.qe (TQ.qe (BQ.qe (TQ.qn ⟨(), H, (wk_mk [] SL.nil BL.nil BK.nil)⟩)))))
theorem c_laws_eqHeld {a1 : THeld} {a2 : THeld} {r : Bool} (H : m_laws_eqHeld a1 a2 = some r) : Fn Tryz.prog k_laws_eqHeld (lent [(.agg (d_THeld a1)), (.agg (d_THeld a2))]) true [(.bool r)] := by
 refine i_laws_eqHeld_fn (fle rfl) ?_
 rw [init_mk]
 refine AW.weaken (wk_mk [] (kv 0 (.agg [(dI a1.Tx), (.d (.sl 2 (List.map d_TCell a1.Writes)))]) rfl rfl (kv 1 (.agg [(dI a2.Tx), (.d (.sl 2 (List.map d_TCell a2.Writes)))]) rfl rfl SL.nil)) BL.nil BK.nil) ?_
 unfold m_laws_eqHeld at H
 unfold i_laws_eqHeld
 refine aV (oBox (n := 128) (m := 2) (cs := [(dI a1.Tx), (.d (.sl 2 (List.map d_TCell a1.Writes)))]) rfl eZ rfl rfl nZ (oBox (n := 192) (m := 2) (cs := [(dI a2.Tx), (.d (.sl 2 (List.map d_TCell a2.Writes)))]) rfl (eR rfl) rfl rfl (nS rfl nZ) (oMov eC (xQ (aS (aV (oFaddrN (m := 0) (eR rfl) rfl (oLoadV (q := 0) (c := (dI a1.Tx)) eZ (bS rfl bZ) rfl rfl (oFaddrN (m := 0) (eR rfl) rfl (oLoadV (q := 0) (c := (dI a2.Tx)) eZ bZ rfl rfl (oNeq (eR rfl) eZ (xQ ?_))))))))))))
 rcases oite H with ⟨h3, H⟩ | ⟨h3, H⟩
 ·refine AW.condT eZ (decide_eq_true h3) (aV (oMov eC (xQ (AW.ret (TQ.qr ?_)))))
  cases H
  exact eE rfl rfl
 ·refine AW.condF eZ (decide_eq_false h3) (AW.skip (TQ.qn (aS (aV (oFaddrN (m := 1) (eR rfl) rfl (oLoadV (q := 1) (c := (.d (.sl 2 (List.map d_TCell a1.Writes)))) eZ (bS rfl bZ) rfl rfl (oFaddrN (m := 1) (eR rfl) rfl (oLoadV (q := 1) (c := (.d (.sl 2 (List.map d_TCell a2.Writes)))) eZ bZ rfl rfl ?_))))))))
  obtain ⟨v4, h5, H⟩ := obind H
  refine oCall (u := (oB v4)) eC Cl.fn (c_laws_eqWriteS h5) (Evs.cons (eR rfl) (Evs.cons eZ Evs.nil)) (VDs.cons VD.plain (VDs.cons VD.plain VDs.nil)) rfl (oInv eZ (xQ (AW.weaken (wk_mk [192, 128] (kr 15 rfl rfl SL.nil) (BL.drop rfl (BL.drop rfl BL.nil)) BK.nil) ?_)))
  rcases oite H with ⟨h6, H⟩ | ⟨h6, H⟩
  ·refine AW.condF eZ (congrArg Bool.not h6) (AW.skip (TQ.qn (aV (oMov eC (xQ (AW.ret ?_))))))
   cases H
   exact eE rfl rfl
  ·refine AW.condT eZ (congrArg Bool.not (nt h6)) (aV (oMov eC (xQ (AW.ret (TQ.qr ?_)))))
   cases H
   exact eE rfl rfl
theorem c_laws_eqHeldS {a1 : (List THeld)} {a2 : (List THeld)} {r : Bool} (H : m_laws_eqHeldS a1 a2 = some r) : Fn Tryz.prog k_laws_eqHeldS (lent [(.sl 2 (List.map d_THeld a1)), (.sl 2 (List.map d_THeld a2))]) true [(.bool r)] := by
 refine i_laws_eqHeldS_fn (fle rfl) ?_
 rw [init_mk]
 refine AW.weaken (wk_mk [] (kv 0 (.one (.d (.sl 2 (List.map d_THeld a1)))) rfl rfl (kv 1 (.one (.d (.sl 2 (List.map d_THeld a2)))) rfl rfl SL.nil)) BL.nil BK.nil) ?_
 unfold m_laws_eqHeldS at H
 unfold i_laws_eqHeldS
 refine aV (oMov eC (xQ (aS (aV (oMov (eR rfl) (oLenD eZ (n := a1.length) (List.length_map _) (oMov (eR rfl) (oLenD eZ (n := a2.length) (List.length_map _) (oNeq (eR rfl) eZ (xQ ?_))))))))))
 rcases oite H with ⟨h3, H⟩ | ⟨h3, H⟩
 ·refine AW.condT eZ (decide_eq_true h3) (aV (oMov eC (xQ (AW.ret (TQ.qr ?_)))))
  cases H
  exact eE rfl rfl
 ·refine AW.condF eZ (decide_eq_false h3) (AW.skip (TQ.qn (AW.seqJ (fun t4 : Unit => laws_eqHeldS_j4 t4 = some r) (fun t4 => mk [] [] noG) ?_ ?_)))
  ·intro t4 H
   unfold laws_eqHeldS_j4 at H
   refine aV (oMov eC (xQ (AW.ret ?_)))
   cases H
   exact eE rfl rfl
  ·refine aV (oMov eC (xQ (AW.block (AW.iter (fun s6 : Int => mk [(0, (.one (.d (.sl 2 (List.map d_THeld a1))))), (1, (.one (.d (.sl 2 (List.map d_THeld a2))))), (5, (oI s6))] [] noG) H (wk_mk [] (kR rfl rfl (kR rfl rfl (kR rfl rfl SL.nil))) BL.nil BK.nil) ?_))))
   intro kb7 s6 H
   unfold laws_eqHeldS_b6 at H
   refine aS (aV (oMov (eR rfl) (oMov (eR rfl) (oLenD eZ (n := a1.length) (List.length_map _) (oLss (eR rfl) eZ (xQ ?_))))))
   rcases oite H with ⟨h8, H⟩ | ⟨h8, H⟩
   ·refine AW.condT eZ (decide_eq_true h8) (AW.skip (TQ.qn (aS (AW.block (aS (AW.regd (oMov (eR rfl) (oMov (eR rfl) ?_))))))))
    obtain ⟨v9, h10, H⟩ := obind H
    refine oAtD (eR rfl) eZ h10 (oLoadBA (es := [(dI v9.Tx), (.d (.sl 2 (List.map d_TCell v9.Writes)))]) eZ rfl (oMov (eR rfl) (oMov (eR rfl) ?_)))
    obtain ⟨v11, h12, H⟩ := obind H
    refine oAtD (eR rfl) eZ h12 (oLoadBA (es := [(dI v11.Tx), (.d (.sl 2 (List.map d_TCell v11.Writes)))]) eZ rfl ?_)
    obtain ⟨v13, h14, H⟩ := obind H
    refine oCall (u := (oB v13)) eC Cl.fn (c_laws_eqHeld h14) (Evs.cons (eR rfl) (Evs.cons eZ Evs.nil)) (VDs.cons (VD.agg rfl) (VDs.cons (VD.agg rfl) VDs.nil)) rfl (oInv eZ (xQ (AW.weaken (wk_mk [] (kr 26 rfl rfl (kr 0 rfl rfl (kr 1 rfl rfl (kr 5 rfl rfl SL.nil)))) BL.nil BK.nil) ?_)))
    rcases oite H with ⟨h15, H⟩ | ⟨h15, H⟩
    ·exact AW.condF eZ (congrArg Bool.not h15) (AW.skip (BQ.qn (TQ.qn (aR (oMov (eR rfl) (oAdd eZ eC (oMov eZ (xNil (TQ.qn ⟨(IntKind.wrap .i64 (s6 + 1)), H, (wk_mk [] (kR rfl rfl (kR rfl rfl (kR rfl rfl SL.nil))) BL.nil BK.nil)⟩)))))))))
    ·refine AW.condT eZ (congrArg Bool.not (nt h15)) (aV (oMov eC (xQ (AW.ret (BQ.qr (TQ.qr (TQ.qr (BQ.qr (TQ.qr ?_)))))))))
     cases H
     exact eE rfl rfl
   ·exact AW.condF eZ (decide_eq_false h8) (AW.exit (TQ.qe (TQ.qe (BQ.qe (TQ.qn ⟨(), H, (wk_mk [] SL.nil BL.nil BK.nil)⟩)))))
theorem c_laws_eqIntS {a1 : (List Int)} {a2 : (List Int)} {r : Bool} (H : m_laws_eqIntS a1 a2 = some r) : Fn Tryz.prog k_laws_eqIntS (lent [(.sl 1 (List.map d_i64 a1)), (.sl 1 (List.map d_i64 a2))]) true [(.bool r)] := by
 refine i_laws_eqIntS_fn (fle rfl) ?_
 rw [init_mk]
 refine AW.weaken (wk_mk [] (kv 0 (.one (.d (.sl 1 (List.map d_i64 a1)))) rfl rfl (kv 1 (.one (.d (.sl 1 (List.map d_i64 a2)))) rfl rfl SL.nil)) BL.nil BK.nil) ?_
 unfold m_laws_eqIntS at H
 unfold i_laws_eqIntS
 refine aV (oMov eC (xQ (aS (aV (oMov (eR rfl) (oLenD eZ (n := a1.length) (List.length_map _) (oMov (eR rfl) (oLenD eZ (n := a2.length) (List.length_map _) (oNeq (eR rfl) eZ (xQ ?_))))))))))
 rcases oite H with ⟨h3, H⟩ | ⟨h3, H⟩
 ·refine AW.condT eZ (decide_eq_true h3) (aV (oMov eC (xQ (AW.ret (TQ.qr ?_)))))
  cases H
  exact eE rfl rfl
 ·refine AW.condF eZ (decide_eq_false h3) (AW.skip (TQ.qn (AW.seqJ (fun t4 : Unit => laws_eqIntS_j4 t4 = some r) (fun t4 => mk [] [] noG) ?_ ?_)))
  ·intro t4 H
   unfold laws_eqIntS_j4 at H
   refine aV (oMov eC (xQ (AW.ret ?_)))
   cases H
   exact eE rfl rfl
  ·refine aV (oMov eC (xQ (AW.block (AW.iter (fun s6 : Int => mk [(0, (.one (.d (.sl 1 (List.map d_i64 a1))))), (1, (.one (.d (.sl 1 (List.map d_i64 a2))))), (5, (oI s6))] [] noG) H (wk_mk [] (kR rfl rfl (kR rfl rfl (kR rfl rfl SL.nil))) BL.nil BK.nil) ?_))))
   intro kb7 s6 H
   unfold laws_eqIntS_b6 at H
   refine aS (aV (oMov (eR rfl) (oMov (eR rfl) (oLenD eZ (n := a1.length) (List.length_map _) (oLss (eR rfl) eZ (xQ ?_))))))
   rcases oite H with ⟨h8, H⟩ | ⟨h8, H⟩
   ·refine AW.condT eZ (decide_eq_true h8) (AW.skip (TQ.qn (aS (AW.block (aS (AW.regd (oMov (eR rfl) (oMov (eR rfl) ?_))))))))
    obtain ⟨v9, h10, H⟩ := obind H
    refine oAtD (eR rfl) eZ h10 (oLoadB (e := (.int .i64 v9)) eZ rfl (oMov (eR rfl) (oMov (eR rfl) ?_)))
    obtain ⟨v11, h12, H⟩ := obind H
    refine oAtD (eR rfl) eZ h12 (oLoadB (e := (.int .i64 v11)) eZ rfl (oNeq (eR rfl) eZ (xQ (AW.weaken (wk_mk [] (kr 25 rfl rfl (kr 0 rfl rfl (kr 1 rfl rfl (kr 5 rfl rfl SL.nil)))) BL.nil BK.nil) ?_))))
    rcases oite H with ⟨h13, H⟩ | ⟨h13, H⟩
    ·refine AW.condT eZ (decide_eq_true h13) (aV (oMov eC (xQ (AW.ret (BQ.qr (TQ.qr (TQ.qr (BQ.qr (TQ.qr ?_)))))))))
     cases H
     exact eE rfl rfl
    ·exact AW.condF eZ (decide_eq_false h13) (AW.skip (BQ.qn (TQ.qn (aR (oMov (eR rfl) (oAdd eZ eC (oMov eZ (xNil (TQ.qn ⟨(IntKind.wrap .i64 (s6 + 1)), H, (wk_mk [] (kR rfl rfl (kR rfl rfl (kR rfl rfl SL.nil))) BL.nil BK.nil)⟩)))))))))
   ·exact AW.condF eZ (decide_eq_false h8) (AW.exit (TQ.qe (TQ.qe (BQ.qe (TQ.qn ⟨(), H, (wk_mk [] SL.nil BL.nil BK.nil)⟩)))))
theorem c_laws_eqShard {a1 : TShard} {a2 : TShard} {r : Bool} (H : m_laws_eqShard a1 a2 = some r) : Fn Tryz.prog k_laws_eqShard (lent [(.agg (d_TShard a1)), (.agg (d_TShard a2))]) true [(.bool r)] := by
 refine i_laws_eqShard_fn (fle rfl) ?_
 rw [init_mk]
 refine AW.weaken (wk_mk [] (kv 0 (.agg [(dI a1.Me), (.d (.sl 2 (List.map d_TRange a1.Own))), (.d (.sl 2 (List.map d_TRange a1.Frozen))), (.d (.sl 2 (List.map d_TCell a1.Cells))), (.d (.sl 4 (List.map d_TLock a1.Locks))), (.d (.sl 2 (List.map d_THeld a1.Helds))), (.d (.sl 1 (List.map d_i64 a1.Wounded))), (.d (.sl 1 (List.map d_i64 a1.Ended))), (dI a1.Rank)]) rfl rfl (kv 1 (.agg [(dI a2.Me), (.d (.sl 2 (List.map d_TRange a2.Own))), (.d (.sl 2 (List.map d_TRange a2.Frozen))), (.d (.sl 2 (List.map d_TCell a2.Cells))), (.d (.sl 4 (List.map d_TLock a2.Locks))), (.d (.sl 2 (List.map d_THeld a2.Helds))), (.d (.sl 1 (List.map d_i64 a2.Wounded))), (.d (.sl 1 (List.map d_i64 a2.Ended))), (dI a2.Rank)]) rfl rfl SL.nil)) BL.nil BK.nil) ?_
 unfold m_laws_eqShard at H
 unfold i_laws_eqShard
 refine aV (oBox (n := 128) (m := 9) (cs := [(dI a1.Me), (.d (.sl 2 (List.map d_TRange a1.Own))), (.d (.sl 2 (List.map d_TRange a1.Frozen))), (.d (.sl 2 (List.map d_TCell a1.Cells))), (.d (.sl 4 (List.map d_TLock a1.Locks))), (.d (.sl 2 (List.map d_THeld a1.Helds))), (.d (.sl 1 (List.map d_i64 a1.Wounded))), (.d (.sl 1 (List.map d_i64 a1.Ended))), (dI a1.Rank)]) rfl eZ rfl rfl nZ (oBox (n := 192) (m := 9) (cs := [(dI a2.Me), (.d (.sl 2 (List.map d_TRange a2.Own))), (.d (.sl 2 (List.map d_TRange a2.Frozen))), (.d (.sl 2 (List.map d_TCell a2.Cells))), (.d (.sl 4 (List.map d_TLock a2.Locks))), (.d (.sl 2 (List.map d_THeld a2.Helds))), (.d (.sl 1 (List.map d_i64 a2.Wounded))), (.d (.sl 1 (List.map d_i64 a2.Ended))), (dI a2.Rank)]) rfl (eR rfl) rfl rfl (nS rfl nZ) (oMov eC (xQ (aS (aV (oFaddrN (m := 0) (eR rfl) rfl (oLoadV (q := 0) (c := (dI a1.Me)) eZ (bS rfl bZ) rfl rfl (oFaddrN (m := 0) (eR rfl) rfl (oLoadV (q := 0) (c := (dI a2.Me)) eZ bZ rfl rfl (oNeq (eR rfl) eZ (xQ ?_))))))))))))
 rcases oite H with ⟨h3, H⟩ | ⟨h3, H⟩
 ·refine AW.condT eZ (decide_eq_true h3) (aV (oMov eC (xQ (AW.ret (TQ.qr ?_)))))
  cases H
  exact eE rfl rfl
 ·refine AW.condF eZ (decide_eq_false h3) (AW.skip (TQ.qn (aS (aV (oFaddrN (m := 1) (eR rfl) rfl (oLoadV (q := 1) (c := (.d (.sl 2 (List.map d_TRange a1.Own)))) eZ (bS rfl bZ) rfl rfl (oFaddrN (m := 1) (eR rfl) rfl (oLoadV (q := 1) (c := (.d (.sl 2 (List.map d_TRange a2.Own)))) eZ bZ rfl rfl ?_))))))))
  obtain ⟨v4, h5, H⟩ := obind H
  refine oCall (u := (oB v4)) eC Cl.fn (c_laws_eqRangeS h5) (Evs.cons (eR rfl) (Evs.cons eZ Evs.nil)) (VDs.cons VD.plain (VDs.cons VD.plain VDs.nil)) rfl (oInv eZ (xQ (AW.weaken (wk_mk [] (kr 15 rfl rfl (kr 3 rfl rfl (kr 2 rfl rfl SL.nil))) (BL.keep rfl (BL.keep rfl BL.nil)) (BK.cons (n := 192) rfl bZ rfl rfl (BK.cons (n := 128) rfl (bS rfl bZ) rfl rfl BK.nil))) ?_)))
  rcases oite H with ⟨h6, H⟩ | ⟨h6, H⟩
  ·refine AW.condF eZ (congrArg Bool.not h6) (AW.skip (TQ.qn (aS (aV (oFaddrN (m := 2) (eR rfl) rfl (oLoadV (q := 2) (c := (.d (.sl 2 (List.map d_TRange a1.Frozen)))) eZ (bS rfl bZ) rfl rfl (oFaddrN (m := 2) (eR rfl) rfl (oLoadV (q := 2) (c := (.d (.sl 2 (List.map d_TRange a2.Frozen)))) eZ bZ rfl rfl ?_))))))))
   obtain ⟨v7, h8, H⟩ := obind H
   refine oCall (u := (oB v7)) eC Cl.fn (c_laws_eqRangeS h8) (Evs.cons (eR rfl) (Evs.cons eZ Evs.nil)) (VDs.cons VD.plain (VDs.cons VD.plain VDs.nil)) rfl (oInv eZ (xQ ?_))
   rcases oite H with ⟨h9, H⟩ | ⟨h9, H⟩
   ·refine AW.condF eZ (congrArg Bool.not h9) (AW.skip (TQ.qn (aS (aV (oFaddrN (m := 3) (eR rfl) rfl (oLoadV (q := 3) (c := (.d (.sl 2 (List.map d_TCell a1.Cells)))) eZ (bS rfl bZ) rfl rfl (oFaddrN (m := 3) (eR rfl) rfl (oLoadV (q := 3) (c := (.d (.sl 2 (List.map d_TCell a2.Cells)))) eZ bZ rfl rfl ?_))))))))
    obtain ⟨v10, h11, H⟩ := obind H
    refine oCall (u := (oB v10)) eC Cl.fn (c_laws_eqCellS h11) (Evs.cons (eR rfl) (Evs.cons eZ Evs.nil)) (VDs.cons VD.plain (VDs.cons VD.plain VDs.nil)) rfl (oInv eZ (xQ ?_))
    rcases oite H with ⟨h12, H⟩ | ⟨h12, H⟩
    ·refine AW.condF eZ (congrArg Bool.not h12) (AW.skip (TQ.qn (aS (aV (oFaddrN (m := 4) (eR rfl) rfl (oLoadV (q := 4) (c := (.d (.sl 4 (List.map d_TLock a1.Locks)))) eZ (bS rfl bZ) rfl rfl (oFaddrN (m := 4) (eR rfl) rfl (oLoadV (q := 4) (c := (.d (.sl 4 (List.map d_TLock a2.Locks)))) eZ bZ rfl rfl ?_))))))))
     obtain ⟨v13, h14, H⟩ := obind H
     refine oCall (u := (oB v13)) eC Cl.fn (c_laws_eqLockS h14) (Evs.cons (eR rfl) (Evs.cons eZ Evs.nil)) (VDs.cons VD.plain (VDs.cons VD.plain VDs.nil)) rfl (oInv eZ (xQ (AW.weaken (wk_mk [] (kr 33 rfl rfl (kr 3 rfl rfl (kr 2 rfl rfl SL.nil))) (BL.keep rfl (BL.keep rfl BL.nil)) (BK.cons (n := 192) rfl bZ rfl rfl (BK.cons (n := 128) rfl (bS rfl bZ) rfl rfl BK.nil))) ?_)))
     rcases oite H with ⟨h15, H⟩ | ⟨h15, H⟩
     ·refine AW.condF eZ (congrArg Bool.not h15) (AW.skip (TQ.qn (aS (aV (oFaddrN (m := 5) (eR rfl) rfl (oLoadV (q := 5) (c := (.d (.sl 2 (List.map d_THeld a1.Helds)))) eZ (bS rfl bZ) rfl rfl (oFaddrN (m := 5) (eR rfl) rfl (oLoadV (q := 5) (c := (.d (.sl 2 (List.map d_THeld a2.Helds)))) eZ bZ rfl rfl ?_))))))))
      obtain ⟨v16, h17, H⟩ := obind H
      refine oCall (u := (oB v16)) eC Cl.fn (c_laws_eqHeldS h17) (Evs.cons (eR rfl) (Evs.cons eZ Evs.nil)) (VDs.cons VD.plain (VDs.cons VD.plain VDs.nil)) rfl (oInv eZ (xQ ?_))
      rcases oite H with ⟨h18, H⟩ | ⟨h18, H⟩
      ·refine AW.condF eZ (congrArg Bool.not h18) (AW.skip (TQ.qn (aS (aV (oFaddrN (m := 6) (eR rfl) rfl (oLoadV (q := 6) (c := (.d (.sl 1 (List.map d_i64 a1.Wounded)))) eZ (bS rfl bZ) rfl rfl (oFaddrN (m := 6) (eR rfl) rfl (oLoadV (q := 6) (c := (.d (.sl 1 (List.map d_i64 a2.Wounded)))) eZ bZ rfl rfl ?_))))))))
       obtain ⟨v19, h20, H⟩ := obind H
       refine oCall (u := (oB v19)) eC Cl.fn (c_laws_eqIntS h20) (Evs.cons (eR rfl) (Evs.cons eZ Evs.nil)) (VDs.cons VD.plain (VDs.cons VD.plain VDs.nil)) rfl (oInv eZ (xQ ?_))
       rcases oite H with ⟨h21, H⟩ | ⟨h21, H⟩
       ·refine AW.condF eZ (congrArg Bool.not h21) (AW.skip (TQ.qn (aS (aV (oFaddrN (m := 7) (eR rfl) rfl (oLoadV (q := 7) (c := (.d (.sl 1 (List.map d_i64 a1.Ended)))) eZ (bS rfl bZ) rfl rfl (oFaddrN (m := 7) (eR rfl) rfl (oLoadV (q := 7) (c := (.d (.sl 1 (List.map d_i64 a2.Ended)))) eZ bZ rfl rfl ?_))))))))
        obtain ⟨v22, h23, H⟩ := obind H
        refine oCall (u := (oB v22)) eC Cl.fn (c_laws_eqIntS h23) (Evs.cons (eR rfl) (Evs.cons eZ Evs.nil)) (VDs.cons VD.plain (VDs.cons VD.plain VDs.nil)) rfl (oInv eZ (xQ (AW.weaken (wk_mk [] (kr 51 rfl rfl (kr 3 rfl rfl (kr 2 rfl rfl SL.nil))) (BL.keep rfl (BL.keep rfl BL.nil)) (BK.cons (n := 192) rfl bZ rfl rfl (BK.cons (n := 128) rfl (bS rfl bZ) rfl rfl BK.nil))) ?_)))
        rcases oite H with ⟨h24, H⟩ | ⟨h24, H⟩
        ·refine AW.condF eZ (congrArg Bool.not h24) (AW.skip (TQ.qn (aS (aV (oFaddrN (m := 8) (eR rfl) rfl (oLoadV (q := 8) (c := (dI a1.Rank)) eZ (bS rfl bZ) rfl rfl (oFaddrN (m := 8) (eR rfl) rfl (oLoadV (q := 8) (c := (dI a2.Rank)) eZ bZ rfl rfl (oNeq (eR rfl) eZ (xQ ?_))))))))))
         rcases oite H with ⟨h25, H⟩ | ⟨h25, H⟩
         ·refine AW.condT eZ (decide_eq_true h25) (aV (oMov eC (xQ (AW.ret (TQ.qr ?_)))))
          cases H
          exact eE rfl rfl
         ·refine AW.condF eZ (decide_eq_false h25) (AW.skip (TQ.qn (aV (oMov eC (xQ (AW.ret ?_))))))
          cases H
          exact eE rfl rfl
        ·refine AW.condT eZ (congrArg Bool.not (nt h24)) (aV (oMov eC (xQ (AW.ret (TQ.qr ?_)))))
         cases H
         exact eE rfl rfl
       ·refine AW.condT eZ (congrArg Bool.not (nt h21)) (aV (oMov eC (xQ (AW.weaken (wk_mk [192, 128] (kr 4 rfl rfl SL.nil) (BL.drop rfl (BL.drop rfl BL.nil)) BK.nil) (AW.ret (TQ.qr ?_))))))
        cases H
        exact eE rfl rfl
      ·refine AW.condT eZ (congrArg Bool.not (nt h18)) (aV (oMov eC (xQ (AW.ret (TQ.qr ?_)))))
       cases H
       exact eE rfl rfl
     ·refine AW.condT eZ (congrArg Bool.not (nt h15)) (aV (oMov eC (xQ (AW.ret (TQ.qr ?_)))))
      cases H
      exact eE rfl rfl
    ·refine AW.condT eZ (congrArg Bool.not (nt h12)) (aV (oMov eC (xQ (AW.weaken (wk_mk [192, 128] (kr 4 rfl rfl SL.nil) (BL.drop rfl (BL.drop rfl BL.nil)) BK.nil) (AW.ret (TQ.qr ?_))))))
     cases H
     exact eE rfl rfl
   ·refine AW.condT eZ (congrArg Bool.not (nt h9)) (aV (oMov eC (xQ (AW.ret (TQ.qr ?_)))))
    cases H
    exact eE rfl rfl
  ·refine AW.condT eZ (congrArg Bool.not (nt h6)) (aV (oMov eC (xQ (AW.ret (TQ.qr ?_)))))
   cases H
   exact eE rfl rfl
theorem c_laws_FnExactShardOk {a1 : TShard} {r : Bool} (H : m_laws_FnExactShardOk a1 = some r) : Fn Tryz.prog k_laws_FnExactShardOk (lent [(.agg (d_TShard a1))]) true [(.bool r)] := by
 refine i_laws_FnExactShardOk_fn (fle rfl) ?_
 rw [init_mk]
 refine AW.weaken (t := mk [(0, (.agg [(dI a1.Me), (.d (.sl 2 (List.map d_TRange a1.Own))), (.d (.sl 2 (List.map d_TRange a1.Frozen))), (.d (.sl 2 (List.map d_TCell a1.Cells))), (.d (.sl 4 (List.map d_TLock a1.Locks))), (.d (.sl 2 (List.map d_THeld a1.Helds))), (.d (.sl 1 (List.map d_i64 a1.Wounded))), (.d (.sl 1 (List.map d_i64 a1.Ended))), (dI a1.Rank)]))] [] (lk [])) (wk_mk [] (kv 0 (.agg [(dI a1.Me), (.d (.sl 2 (List.map d_TRange a1.Own))), (.d (.sl 2 (List.map d_TRange a1.Frozen))), (.d (.sl 2 (List.map d_TCell a1.Cells))), (.d (.sl 4 (List.map d_TLock a1.Locks))), (.d (.sl 2 (List.map d_THeld a1.Helds))), (.d (.sl 1 (List.map d_i64 a1.Wounded))), (.d (.sl 1 (List.map d_i64 a1.Ended))), (dI a1.Rank)]) rfl rfl SL.nil) BL.nil BK.nil) ?_
 unfold m_laws_FnExactShardOk at H
 unfold i_laws_FnExactShardOk
 refine aV (oBox (n := 64) (m := 9) (cs := [(dI a1.Me), (.d (.sl 2 (List.map d_TRange a1.Own))), (.d (.sl 2 (List.map d_TRange a1.Frozen))), (.d (.sl 2 (List.map d_TCell a1.Cells))), (.d (.sl 4 (List.map d_TLock a1.Locks))), (.d (.sl 2 (List.map d_THeld a1.Helds))), (.d (.sl 1 (List.map d_i64 a1.Wounded))), (.d (.sl 1 (List.map d_i64 a1.Ended))), (dI a1.Rank)]) rfl eZ rfl rfl nZ (oMov eC (xQ (aV (oMov eC (xQ (aV (oLoadVA (es := [(dI a1.Me), (.d (.sl 2 (List.map d_TRange a1.Own))), (.d (.sl 2 (List.map d_TRange a1.Frozen))), (.d (.sl 2 (List.map d_TCell a1.Cells))), (.d (.sl 4 (List.map d_TLock a1.Locks))), (.d (.sl 2 (List.map d_THeld a1.Helds))), (.d (.sl 1 (List.map d_i64 a1.Wounded))), (.d (.sl 1 (List.map d_i64 a1.Ended))), (dI a1.Rank)]) (eR rfl) bZ rfl (oMov (eR rfl) ?_)))))))))
 obtain ⟨v2, h3, H⟩ := obind H
 refine oCall (u := (oI v2)) eC Cl.fn (c_laws_szShard h3) (Evs.cons (eR rfl) (Evs.cons eZ Evs.nil)) (VDs.cons (VD.agg rfl) (VDs.cons VD.plain VDs.nil)) rfl (oMov eZ (xQ (aS (aV (oMov eZ (oLss eZ eC (xQ ?_)))))))
 rcases oite H with ⟨h4, H⟩ | ⟨h4, H⟩
 ·refine AW.condT eZ (decide_eq_true h4) (aV (oMov eC (xQ (AW.ret (TQ.qr ?_)))))
  cases H
  exact eE rfl rfl
 ·refine AW.condF eZ (decide_eq_false h4) (AW.skip (TQ.qn (aV (oLoadVA (es := [(dI a1.Me), (.d (.sl 2 (List.map d_TRange a1.Own))), (.d (.sl 2 (List.map d_TRange a1.Frozen))), (.d (.sl 2 (List.map d_TCell a1.Cells))), (.d (.sl 4 (List.map d_TLock a1.Locks))), (.d (.sl 2 (List.map d_THeld a1.Helds))), (.d (.sl 1 (List.map d_i64 a1.Wounded))), (.d (.sl 1 (List.map d_i64 a1.Ended))), (dI a1.Rank)]) (eR rfl) bZ rfl ?_))))
  obtain ⟨v5, h6, H⟩ := obind H
  refine oCall (u := (.agg [(dI v5.Me), (.d (.sl 2 (List.map d_TRange v5.Own))), (.d (.sl 2 (List.map d_TRange v5.Frozen))), (.d (.sl 2 (List.map d_TCell v5.Cells))), (.d (.sl 4 (List.map d_TLock v5.Locks))), (.d (.sl 2 (List.map d_THeld v5.Helds))), (.d (.sl 1 (List.map d_i64 v5.Wounded))), (.d (.sl 1 (List.map d_i64 v5.Ended))), (dI v5.Rank)])) eC Cl.fn (c_laws_toShard h6) (Evs.cons eZ Evs.nil) (VDs.cons (VD.agg rfl) VDs.nil) rfl ?_
  obtain ⟨v7, h8, H⟩ := obind H
  refine oCall (u := (oB v7)) eC Cl.fn (c_spec_ShardOk h8) (Evs.cons eZ Evs.nil) (VDs.cons (VD.agg rfl) VDs.nil) rfl (oMov eZ (xQ (aS (AW.regm (rmOne (oLoadVA (es := [(dI a1.Me), (.d (.sl 2 (List.map d_TRange a1.Own))), (.d (.sl 2 (List.map d_TRange a1.Frozen))), (.d (.sl 2 (List.map d_TCell a1.Cells))), (.d (.sl 4 (List.map d_TLock a1.Locks))), (.d (.sl 2 (List.map d_THeld a1.Helds))), (.d (.sl 1 (List.map d_i64 a1.Wounded))), (.d (.sl 1 (List.map d_i64 a1.Ended))), (dI a1.Rank)]) (eR rfl) bZ rfl (xNil (rmOne ?_))))))))
  obtain ⟨v9, h10, H⟩ := obind H
  refine oCall (u := (.agg [(dI v9.Me), (.d (.sl 2 (List.map d_TRange v9.Own))), (.d (.sl 2 (List.map d_TRange v9.Frozen))), (.d (.sl 2 (List.map d_TCell v9.Cells))), (.d (.sl 4 (List.map d_TLock v9.Locks))), (.d (.sl 2 (List.map d_THeld v9.Helds))), (.d (.sl 1 (List.map d_i64 v9.Wounded))), (.d (.sl 1 (List.map d_i64 v9.Ended))), (dI v9.Rank)])) eC Cl.fn (c_laws_toShard h10) (Evs.cons eZ Evs.nil) (VDs.cons (VD.agg rfl) VDs.nil) rfl (xNil (rmOne (oVar (n := 320) (m := 9) rfl rfl (nS rfl nZ) (xNil (rmOne (oStoreV (es := [(dI v9.Me), (.d (.sl 2 (List.map d_TRange v9.Own))), (.d (.sl 2 (List.map d_TRange v9.Frozen))), (.d (.sl 2 (List.map d_TCell v9.Cells))), (.d (.sl 4 (List.map d_TLock v9.Locks))), (.d (.sl 2 (List.map d_THeld v9.Helds))), (.d (.sl 1 (List.map d_i64 v9.Wounded))), (.d (.sl 1 (List.map d_i64 v9.Ended))), (dI v9.Rank)]) eZ (eR rfl) rfl rfl bZ rfl (xNil (rmRest (xQ (AW.weaken (wk_mkG [] (kr 5 rfl rfl (kr 4 rfl rfl (kr 1 rfl rfl SL.nil))) (BL.keep rfl (BL.keep rfl (BL.keep rfl BL.nil))) (BK.cons (n := 320) rfl bZ rfl rfl (BK.cons (n := 64) rfl (bS rfl (bS rfl bZ)) rfl rfl BK.nil)) GK.nil) (aV (oLoadVA (es := [(dI v9.Me), (.d (.sl 2 (List.map d_TRange v9.Own))), (.d (.sl 2 (List.map d_TRange v9.Frozen))), (.d (.sl 2 (List.map d_TCell v9.Cells))), (.d (.sl 4 (List.map d_TLock v9.Locks))), (.d (.sl 2 (List.map d_THeld v9.Helds))), (.d (.sl 1 (List.map d_i64 v9.Wounded))), (.d (.sl 1 (List.map d_i64 v9.Ended))), (dI v9.Rank)]) eZ bZ rfl ?_))))))))))))
  obtain ⟨v11, h12, H⟩ := obind H
  refine oCall (u := (oB v11)) eC Cl.fn (c_impl_ShardOk h12) (Evs.cons eZ Evs.nil) (VDs.cons (VD.agg rfl) VDs.nil) rfl (oMov eZ (xQ (aS (aV (oMov eZ (oMov (eR rfl) (oBne (eR rfl) eZ (xQ ?_))))))))
  rcases oite H with ⟨h13, H⟩ | ⟨h13, H⟩
  ·refine AW.condT eZ h13 (aV (oMov eC (xQ (AW.ret (TQ.qr ?_)))))
   cases H
   exact eE rfl rfl
  ·refine AW.condF eZ (nt h13) (AW.skip (TQ.qn (aS (aS (AW.regd (oLoadVA (es := [(dI v9.Me), (.d (.sl 2 (List.map d_TRange v9.Own))), (.d (.sl 2 (List.map d_TRange v9.Frozen))), (.d (.sl 2 (List.map d_TCell v9.Cells))), (.d (.sl 4 (List.map d_TLock v9.Locks))), (.d (.sl 2 (List.map d_THeld v9.Helds))), (.d (.sl 1 (List.map d_i64 v9.Wounded))), (.d (.sl 1 (List.map d_i64 v9.Ended))), (dI v9.Rank)]) (eR rfl) (hB rfl bZ) rfl (oLoadVA (es := [(dI a1.Me), (.d (.sl 2 (List.map d_TRange a1.Own))), (.d (.sl 2 (List.map d_TRange a1.Frozen))), (.d (.sl 2 (List.map d_TCell a1.Cells))), (.d (.sl 4 (List.map d_TLock a1.Locks))), (.d (.sl 2 (List.map d_THeld a1.Helds))), (.d (.sl 1 (List.map d_i64 a1.Wounded))), (.d (.sl 1 (List.map d_i64 a1.Ended))), (dI a1.Rank)]) (eR rfl) (bS rfl bZ) rfl ?_)))))))
   obtain ⟨v14, h15, H⟩ := obind H
   refine oCall (u := (.agg [(dI v14.Me), (.d (.sl 2 (List.map d_TRange v14.Own))), (.d (.sl 2 (List.map d_TRange v14.Frozen))), (.d (.sl 2 (List.map d_TCell v14.Cells))), (.d (.sl 4 (List.map d_TLock v14.Locks))), (.d (.sl 2 (List.map d_THeld v14.Helds))), (.d (.sl 1 (List.map d_i64 v14.Wounded))), (.d (.sl 1 (List.map d_i64 v14.Ended))), (dI v14.Rank)])) eC Cl.fn (c_laws_toShard h15) (Evs.cons eZ Evs.nil) (VDs.cons (VD.agg rfl) VDs.nil) rfl ?_
   obtain ⟨v16, h17, H⟩ := obind H
   refine oCall (u := (oB v16)) eC Cl.fn (c_laws_eqShard h17) (Evs.cons (eR rfl) (Evs.cons eZ Evs.nil)) (VDs.cons (VD.agg rfl) (VDs.cons (VD.agg rfl) VDs.nil)) rfl (oInv eZ (xQ ?_))
   rcases oite H with ⟨h18, H⟩ | ⟨h18, H⟩
   ·refine AW.condF eZ (congrArg Bool.not h18) (AW.skip (TQ.qn (aV (oMov eC (xQ (AW.ret ?_))))))
    cases H
    exact eE rfl rfl
   ·refine AW.condT eZ (congrArg Bool.not (nt h18)) (aV (oMov eC (xQ (AW.ret (TQ.qr ?_)))))
    cases H
    exact eE rfl rfl
end Go.AW
