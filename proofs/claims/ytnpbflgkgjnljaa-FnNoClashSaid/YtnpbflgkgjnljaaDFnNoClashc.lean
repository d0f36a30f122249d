/- That functions of the program compute what the plain functions say. Conditions: each theorem's own. -/
import Derived.Test.YtnpbflgkgjnljaaMFnNoClash
import Derived.Test.YtnpbflgkgjnljaaGFnNoClash
import Derived.Test.YtnpbflgkgjnljaaDFnNoClasha
import Derived.Test.YtnpbflgkgjnljaaDFnNoClashb
set_option linter.unusedVariables false
set_option linter.unusedSimpArgs false
set_option maxRecDepth 100000
namespace Go.AW
open Go.Proofs
theorem c_impl_LocksDrop {a1 : (List TLock)} {a2 : Int} {r : (List TLock)} (H : m_impl_LocksDrop a1 a2 = some r) : Fn Try.prog 32 (lent [(.sl 4 (List.map d_TLock a1)), (.int .i64 a2)]) true [(.sl 4 (List.map d_TLock r))] := by
 refine f32 (fle rfl) ?_
 rw [init_mk]
 refine AW.weaken (t := mk [(0, (.one (.d (.sl 4 (List.map d_TLock a1))))), (1, (oI a2))] [] (lk [])) (wk_mk [] (kv 0 (.one (.d (.sl 4 (List.map d_TLock a1)))) rfl rfl (kv 1 (oI a2) rfl rfl SL.nil)) BL.nil BK.nil) ?_
 unfold m_impl_LocksDrop at H
 unfold i32
 refine aV (oBox (n := 192) (m := 1) (cs := [(dI a2)]) rfl (eR rfl) rfl rfl nZ (oMov eC (xQ (aS (aV (oMov (eR rfl) ?_))))))
 obtain ⟨v3, h4, H⟩ := obind H
 refine oCall (u := (oB v3)) eC Cl.fn (c_impl_LocksOk h4) (Evs.cons eZ Evs.nil) (VDs.cons VD.plain VDs.nil) rfl (oInv eZ (xQ ?_))
 rcases oite H with ⟨h5, H⟩ | ⟨h5, H⟩
 ·refine AW.condF eZ (cN h5) (AW.skip (TQ.qn (aS (AW.regm (rmOne (oMov (eR rfl) (xNil (rmOne ?_))))))))
  obtain ⟨v6, h7, H⟩ := obind H
  refine oCallN (u := (.one (.sl 576 0 v6.length))) (bs := [(576, (.data 4 (List.map d_TLock v6) true none))]) eC Cl.fn (c_slices_Clone_Lock h7) (Evs.cons eZ Evs.nil) (VDs.cons VD.plain VDs.nil) (by simp [bindR, bindV, bindVs, bindC, bindCs]) rfl (fC (nS rfl nZ) rfl (fC (nS rfl nZ) rfl fN)) (xNil (rmOne (oMkfn (ps := [(.nm 192 0 0)]) (Evs.cons (eR rfl) Evs.nil) (xNil ?_))))
  obtain ⟨v8, h9, H⟩ := obind H
  refine rmCall (ON := [576]) (ls := [192]) (G := [576]) (E := [576]) (MB := []) (u := (.one (.sl 704 0 v8.length))) (bs := [(704, (.data 4 (List.map d_TLock v8) true none))]) eC Cl.fn (c_slices_DeleteFunc_Lock__LocksDrop_1 h9) (Evs.cons (eR rfl) (Evs.cons eZ Evs.nil)) (AO.give (VO.sl bZ (List.length_map _) (allFlat fun _ => rfl)) (AO.lent (VD.fn (PDs.cons (VD.ptrN (bS rfl bZ) (CDs.plain CDs.nil)) PDs.nil)) rfl AO.nil)) rfl rfl rfl SZ.nil (erL.cons (v' := (.one (.fn 77 [(.nm 192 0 0)]))) rfl (erL.cons (v' := (.one .any)) rfl (erL.cons (v' := (.one (.d (.sl 4 (List.map d_TLock a1))))) rfl (erL.cons (v' := (oB (!v3))) rfl (erL.cons (v' := (oB v3)) rfl (erL.cons (v' := (.one (.d (.sl 4 (List.map d_TLock a1))))) rfl (erL.cons (v' := (.one .zs)) rfl (erL.cons (v' := (.one (.ptr (.nm 192 0 0)))) rfl (erL.cons (v' := (.one (.d (.sl 4 (List.map d_TLock a1))))) rfl (erL.cons (v' := (oI a2)) rfl erL.nil)))))))))) (erH.drop rfl (erH.cons (v' := (.vars 1 [(dI a2)])) rfl rfl erH.nil)) erL.nil (by simp [bindR, bindV, bindVs, bindC, bindCs]) rfl (fC (nS rfl nZ) rfl (fC (nS rfl nZ) rfl fN)) (rmRest (oMov eZ (xQ (AW.ret ?_))))
  cases H
  exact endsR (RL.cons (RV.tmp eZ) (VO.sl bZ (List.length_map _) (allFlat fun _ => rfl)) RL.nil) (by decide)
 ·refine AW.condT eZ (cN (nt h5)) (aV (oMov eC (xQ (AW.ret (TQ.qr ?_)))))
  cases H
  exact endsR (RL.cons (RV.tmp eZ) VO.zs RL.nil) List.nodup_nil
theorem c_laws_FnNoClash {a1 : (List Int)} {r : Bool} (H : m_laws_FnNoClash a1 = some r) : Fn Try.prog 5 (lent [(.sl 1 (List.map d_u8 a1))]) true [(.bool r)] := by
 refine f5 (fle rfl) ?_
 rw [init_mk]
 refine AW.weaken (wk_mk [] (kv 0 (.one (.d (.sl 1 (List.map d_u8 a1)))) rfl rfl SL.nil) BL.nil BK.nil) ?_
 unfold m_laws_FnNoClash at H
 unfold i5
 refine aV (oMov eC (xQ (aS (aV (oMov (eR rfl) ?_)))))
 obtain ⟨v2, h3, H⟩ := obind H
 refine oCall (u := (oB v2)) eC Cl.fn (c_laws_big h3) (Evs.cons eZ Evs.nil) (VDs.cons VD.plain VDs.nil) rfl (xQ ?_)
 rcases oite H with ⟨h4, H⟩ | ⟨h4, H⟩
 ·refine AW.condT eZ h4 (aV (oMov eC (xQ (AW.ret (TQ.qr ?_)))))
  cases H
  exact eE rfl rfl
 ·refine AW.condF eZ (nt h4) (AW.skip (TQ.qn (aV (oMov (eR rfl) ?_))))
  obtain ⟨v5, h6, H⟩ := obind H
  refine oCall (u := (.tup [(.one (.d (.sl 4 (List.map d_TLock v5.1)))), (.one (.d (.sl 1 (List.map d_i64 v5.2.1)))), (oI v5.2.2.1), (.agg [(dI v5.2.2.2.1.Lo), (dI v5.2.2.2.1.Hi)]), (oI v5.2.2.2.2)])) eC Cl.fn (c_spec_DrawLockAsk h6) (Evs.cons eZ Evs.nil) (VDs.cons VD.plain VDs.nil) rfl (oMov eZ (oExt (v := (.one (.d (.sl 4 (List.map d_TLock v5.1))))) eZ rfl (oExt (v := (.one (.d (.sl 1 (List.map d_i64 v5.2.1))))) (eR rfl) rfl (oExt (v := (oI v5.2.2.1)) (eR rfl) rfl (oExt (v := (.agg [(dI v5.2.2.2.1.Lo), (dI v5.2.2.2.1.Hi)])) (eR rfl) rfl (oExt (v := (oI v5.2.2.2.2)) (eR rfl) rfl (oVar (n := 384) (m := 2) rfl rfl nZ (oMov (eR rfl) (oMov (eR rfl) (oMov (eR rfl) (oStoreV (es := [(dI v5.2.2.2.1.Lo), (dI v5.2.2.2.1.Hi)]) (eR rfl) (eR rfl) rfl rfl bZ rfl (oMov (eR rfl) (xQ (AW.weaken (wk_mk [] (kr 7 rfl rfl (kr 5 rfl rfl (kr 4 rfl rfl (kr 3 rfl rfl (kr 6 rfl rfl SL.nil))))) (BL.keep rfl (BL.keep rfl BL.nil)) (BK.cons (n := 384) rfl bZ rfl rfl BK.nil)) (aV (oMov (eR rfl) (oMov (eR rfl) (oMov (eR rfl) (oLoadVA (es := [(dI v5.2.2.2.1.Lo), (dI v5.2.2.2.1.Hi)]) (eR rfl) bZ rfl (oMov (eR rfl) ?_))))))))))))))))))))
  obtain ⟨v7, h8, H⟩ := obind H
  refine oCall (u := (.tup [(.one (.d (.sl 4 (List.map d_TLock v7.1)))), (.one (.d (.sl 1 (List.map d_i64 v7.2.1)))), (oI v7.2.2)])) eC Cl.fn (c_impl_LockAsk h8) (Evs.cons (eR rfl) (Evs.cons (eR rfl) (Evs.cons (eR rfl) (Evs.cons (eR rfl) (Evs.cons eZ Evs.nil))))) (VDs.cons VD.plain (VDs.cons VD.plain (VDs.cons VD.plain (VDs.cons (VD.agg rfl) (VDs.cons VD.plain VDs.nil))))) rfl (oMov eZ (oExt (v := (.one (.d (.sl 4 (List.map d_TLock v7.1))))) eZ rfl (oExt (v := (.one (.d (.sl 1 (List.map d_i64 v7.2.1))))) (eR rfl) rfl (oExt (v := (oI v7.2.2)) (eR rfl) rfl (oMov (eR rfl) (oMov (eR rfl) (oMov (eR rfl) (xQ (AW.weaken (wk_mk [] (kr 10 rfl rfl (kr 9 rfl rfl (kr 8 rfl rfl (kr 7 rfl rfl (kr 5 rfl rfl (kr 4 rfl rfl (kr 3 rfl rfl (kr 6 rfl rfl SL.nil)))))))) (BL.keep rfl BL.nil) (BK.cons (n := 384) rfl bZ rfl rfl BK.nil)) (aV (oMov (eR rfl) (oMov (eR rfl) (oMov (eR rfl) (oLoadVA (es := [(dI v5.2.2.2.1.Lo), (dI v5.2.2.2.1.Hi)]) (eR rfl) bZ rfl (oMov (eR rfl) ?_)))))))))))))))
  obtain ⟨v9, h10, H⟩ := obind H
  refine oCall (u := (.tup [(.one (.d (.sl 4 (List.map d_TLock v9.1)))), (.one (.d (.sl 1 (List.map d_i64 v9.2.1)))), (oI v9.2.2)])) eC Cl.fn (c_spec_LockAsk h10) (Evs.cons (eR rfl) (Evs.cons (eR rfl) (Evs.cons (eR rfl) (Evs.cons (eR rfl) (Evs.cons eZ Evs.nil))))) (VDs.cons VD.plain (VDs.cons VD.plain (VDs.cons VD.plain (VDs.cons (VD.agg rfl) (VDs.cons VD.plain VDs.nil))))) rfl (oMov eZ (oExt (v := (.one (.d (.sl 4 (List.map d_TLock v9.1))))) eZ rfl (oExt (v := (.one (.d (.sl 1 (List.map d_i64 v9.2.1))))) (eR rfl) rfl (oExt (v := (oI v9.2.2)) (eR rfl) rfl (oMov (eR rfl) (oMov (eR rfl) (oMov (eR rfl) (xQ (AW.weaken (wk_mk [] (kr 13 rfl rfl (kr 12 rfl rfl (kr 10 rfl rfl (kr 9 rfl rfl (kr 8 rfl rfl (kr 7 rfl rfl (kr 5 rfl rfl (kr 4 rfl rfl (kr 3 rfl rfl (kr 6 rfl rfl SL.nil)))))))))) (BL.keep rfl BL.nil) (BK.cons (n := 384) rfl bZ rfl rfl BK.nil)) (aS (AW.seqJ (fun t11 : Bool => (laws_FnNoClash_j11 v7 v5) t11 = some r) (fun t11 => mk [(3, (.one (.d (.sl 4 (List.map d_TLock v5.1))))), (4, (.one (.d (.sl 1 (List.map d_i64 v5.2.1))))), (5, (oI v5.2.2.1)), (6, (.one (.ptr (.nm 384 0 0)))), (7, (oI v5.2.2.2.2)), (8, (.one (.d (.sl 4 (List.map d_TLock v7.1))))), (9, (.one (.d (.sl 1 (List.map d_i64 v7.2.1))))), (10, (oI v7.2.2)), (53, (oB t11))] [(384, (.vars 2 [(dI v5.2.2.2.1.Lo), (dI v5.2.2.2.1.Hi)]))] noG) ?_ ?_)))))))))))
  ·intro t11 H
   unfold laws_FnNoClash_j11 at H
   rcases oite H with ⟨h13, H⟩ | ⟨h13, H⟩
   ·refine AW.condT (eR rfl) h13 (aV (oMov eC (xQ (AW.ret (TQ.qr ?_)))))
    cases H
    exact eE rfl rfl
   ·refine AW.condF (eR rfl) (nt h13) (AW.skip (TQ.qn (aS (aV (oMov (eR rfl) (oEql eZ eC (xQ ?_)))))))
    rcases oite H with ⟨h14, H⟩ | ⟨h14, H⟩
    ·refine AW.condT eZ (dT h14) (aV (oMov (eR rfl) (oLenD eZ (n := v7.1.length) (List.length_map _) (oEql eZ eC (oMov eZ (xQ (AW.ret (TQ.qr ?_))))))))
     cases H
     exact eE rfl rfl
    ·refine AW.condF eZ (dF h14) (AW.skip (TQ.qn (aS (aV (oMov (eR rfl) ?_)))))
     obtain ⟨v15, h16, H⟩ := obind H
     refine oCall (u := (oB v15)) eC Cl.fn (c_impl_LocksOk h16) (Evs.cons eZ Evs.nil) (VDs.cons VD.plain VDs.nil) rfl (oInv eZ (xQ ?_))
     rcases oite H with ⟨h17, H⟩ | ⟨h17, H⟩
     ·refine AW.condF eZ (cN h17) (AW.skip (TQ.qn (aS (aV (oMov (eR rfl) (oNeq eZ eC (xQ (AW.weaken (wk_mk [] (kr 63 rfl rfl (kr 3 rfl rfl (kr 4 rfl rfl (kr 5 rfl rfl (kr 6 rfl rfl (kr 7 rfl rfl (kr 8 rfl rfl (kr 9 rfl rfl SL.nil)))))))) (BL.keep rfl BL.nil) (BK.cons (n := 384) rfl bZ rfl rfl BK.nil)) ?_))))))))
      rcases oite H with ⟨h18, H⟩ | ⟨h18, H⟩
      ·refine AW.condT eZ (dT h18) (aV (oMov (eR rfl) (oMov (eR rfl) ?_)))
       obtain ⟨v19, h20, H⟩ := obind H
       refine oCall (u := (oB v19)) eC Cl.fn (c_laws_sameLocks h20) (Evs.cons (eR rfl) (Evs.cons eZ Evs.nil)) (VDs.cons VD.plain (VDs.cons VD.plain VDs.nil)) rfl (oMov eZ ?_)
       rcases oite H with ⟨h21, H⟩ | ⟨h21, H⟩
       ·refine gDo eZ h21 (oMov (eR rfl) (gDo (eR rfl) h21 (oLenD eZ (n := v7.2.1.length) (List.length_map _) (gDo (eR rfl) h21 (oEql eZ eC (oPickT (eR rfl) h21 eZ (oMov eZ ?_)))))))
        rcases oite H with ⟨h22, H⟩ | ⟨h22, H⟩
        ·refine gDo eZ (dT h22) (oMov (eR rfl) (gDo (eR rfl) (dT h22) (oMov (eR rfl) (gDo (eR rfl) (dT h22) (oLoadVA (es := [(dI v5.2.2.2.1.Lo), (dI v5.2.2.2.1.Hi)]) (eR rfl) bZ rfl (gDo (eR rfl) (dT h22) (oMov (eR rfl) (gDo (eR rfl) (dT h22) ?_))))))))
         obtain ⟨v23, h24, H⟩ := obind H
         refine oCall (u := (oB v23)) eC Cl.fn (c_impl_LocksHold h24) (Evs.cons (eR rfl) (Evs.cons (eR rfl) (Evs.cons (eR rfl) (Evs.cons eZ Evs.nil)))) (VDs.cons VD.plain (VDs.cons VD.plain (VDs.cons (VD.agg rfl) (VDs.cons VD.plain VDs.nil)))) rfl (gDo (eR rfl) (dT h22) (oInv eZ (oPickT (eR rfl) (dT h22) eZ (oMov eZ (xQ (AW.weaken (wk_mk [384] (kr 2 rfl rfl SL.nil) (BL.drop rfl BL.nil) BK.nil) (AW.ret (TQ.qr ?_))))))))
         cases H
         exact eE rfl rfl
        ·refine gSkip eZ (dF h22) rfl (gSkip (eR rfl) (dF h22) rfl (gSkip (eR rfl) (dF h22) rfl (gSkip (eR rfl) (dF h22) rfl (gSkip (eR rfl) (dF h22) rfl (gSkip (eR rfl) (dF h22) rfl (oPickF (eR rfl) (dF h22) eC (oMov eZ (xQ (AW.weaken (wk_mk [384] (kr 2 rfl rfl SL.nil) (BL.drop rfl BL.nil) BK.nil) (AW.ret (TQ.qr ?_)))))))))))
         cases H
         exact eE rfl rfl
       ·refine gSkip eZ (nt h21) rfl (gSkip (eR rfl) (nt h21) rfl (gSkip (eR rfl) (nt h21) rfl (oPickF (eR rfl) (nt h21) eC (oMov eZ (gSkip eZ rfl rfl (gSkip (eR rfl) rfl rfl (gSkip (eR rfl) rfl rfl (gSkip (eR rfl) rfl rfl (gSkip (eR rfl) rfl rfl (gSkip (eR rfl) rfl rfl (oPickF (eR rfl) rfl eC (oMov eZ (xQ (AW.weaken (wk_mk [384] (kr 2 rfl rfl SL.nil) (BL.drop rfl BL.nil) BK.nil) (AW.ret (TQ.qr ?_))))))))))))))))
        cases H
        exact eE rfl rfl
      ·refine AW.condF eZ (dF h18) (AW.skip (TQ.qn (AW.seqJ (fun t25 : Unit => (laws_FnNoClash_j25 v7 v5) t25 = some r) (fun t25 => mk [(5, (oI v5.2.2.1)), (6, (.one (.ptr (.nm 384 0 0)))), (7, (oI v5.2.2.2.2)), (8, (.one (.d (.sl 4 (List.map d_TLock v7.1)))))] [(384, (.vars 2 [(dI v5.2.2.2.1.Lo), (dI v5.2.2.2.1.Hi)]))] noG) ?_ ?_)))
       ·intro t25 H
        unfold laws_FnNoClash_j25 at H
        refine aV (oMov (eR rfl) (oMov (eR rfl) (oLoadVA (es := [(dI v5.2.2.2.1.Lo), (dI v5.2.2.2.1.Hi)]) (eR rfl) bZ rfl (oMov (eR rfl) ?_))))
        obtain ⟨v27, h28, H⟩ := obind H
        refine oCall (u := (oB v27)) eC Cl.fn (c_impl_LocksHold h28) (Evs.cons (eR rfl) (Evs.cons (eR rfl) (Evs.cons (eR rfl) (Evs.cons eZ Evs.nil)))) (VDs.cons VD.plain (VDs.cons VD.plain (VDs.cons (VD.agg rfl) (VDs.cons VD.plain VDs.nil)))) rfl (oMov eZ ?_)
        rcases oite H with ⟨h29, H⟩ | ⟨h29, H⟩
        ·refine gDo eZ h29 (oMov (eR rfl) (gDo (eR rfl) h29 (oMov (eR rfl) (gDo (eR rfl) h29 ?_))))
         obtain ⟨v30, h31, H⟩ := obind H
         refine oCall (u := (.one (.d (.sl 4 (List.map d_TLock v30))))) eC Cl.fn (c_impl_LocksDrop h31) (Evs.cons (eR rfl) (Evs.cons eZ Evs.nil)) (VDs.cons VD.plain (VDs.cons VD.plain VDs.nil)) rfl (gDo (eR rfl) h29 (oLenD eZ (n := v30.length) (List.length_map _) (gDo (eR rfl) h29 (oMov (eR rfl) (gDo (eR rfl) h29 (oMov (eR rfl) (gDo (eR rfl) h29 ?_)))))))
         obtain ⟨v32, h33, H⟩ := obind H
         refine oCall (u := (.one (.d (.sl 4 (List.map d_TLock v32))))) eC Cl.fn (c_impl_LocksOf h33) (Evs.cons (eR rfl) (Evs.cons eZ Evs.nil)) (VDs.cons VD.plain (VDs.cons VD.plain VDs.nil)) rfl (gDo (eR rfl) h29 (oLenD eZ (n := v32.length) (List.length_map _) (gDo (eR rfl) h29 (oAdd (eR rfl) eZ (gDo (eR rfl) h29 (oMov (eR rfl) (gDo (eR rfl) h29 (oLenD eZ (n := v7.1.length) (List.length_map _) (gDo (eR rfl) h29 (oEql (eR rfl) eZ (oPickT (eR rfl) h29 eZ (oMov eZ (xQ (AW.weaken (wk_mk [384] (kr 2 rfl rfl SL.nil) (BL.drop rfl BL.nil) BK.nil) (AW.ret ?_)))))))))))))))
         cases H
         exact eE rfl rfl
        ·refine gSkip eZ (nt h29) rfl (gSkip (eR rfl) (nt h29) rfl (gSkip (eR rfl) (nt h29) rfl (gSkip (eR rfl) (nt h29) rfl (gSkip (eR rfl) (nt h29) rfl (gSkip (eR rfl) (nt h29) rfl (gSkip (eR rfl) (nt h29) rfl (gSkip (eR rfl) (nt h29) rfl (gSkip (eR rfl) (nt h29) rfl (gSkip (eR rfl) (nt h29) rfl (gSkip (eR rfl) (nt h29) rfl (gSkip (eR rfl) (nt h29) rfl (oPickF (eR rfl) (nt h29) eC (oMov eZ (xQ (AW.weaken (wk_mk [384] (kr 2 rfl rfl SL.nil) (BL.drop rfl BL.nil) BK.nil) (AW.ret ?_))))))))))))))))
         cases H
         exact eE rfl rfl
       ·refine aV (oMov eC (xQ (AW.block (AW.iter (fun s34 : Int => mk [(4, (.one (.d (.sl 1 (List.map d_i64 v5.2.1))))), (5, (oI v5.2.2.1)), (6, (.one (.ptr (.nm 384 0 0)))), (7, (oI v5.2.2.2.2)), (8, (.one (.d (.sl 4 (List.map d_TLock v7.1))))), (9, (.one (.d (.sl 1 (List.map d_i64 v7.2.1))))), (14, (oI s34))] [(384, (.vars 2 [(dI v5.2.2.2.1.Lo), (dI v5.2.2.2.1.Hi)]))] noG) H (wk_mk [] (kR rfl rfl (kR rfl rfl (kR rfl rfl (kR rfl rfl (kR rfl rfl (kR rfl rfl (kR rfl rfl SL.nil))))))) (BL.keep rfl BL.nil) (BK.cons rfl bZ rfl rfl BK.nil)) ?_))))
        intro kb35 s34 H
        unfold laws_FnNoClash_b34 at H
        refine aS (aV (oMov (eR rfl) (oMov (eR rfl) (oLenD eZ (n := v7.2.1.length) (List.length_map _) (oLss (eR rfl) eZ (xQ ?_))))))
        rcases oite H with ⟨h36, H⟩ | ⟨h36, H⟩
        ·refine AW.condT eZ (dT h36) (AW.skip (TQ.qn (aS (AW.block (AW.seqJ (fun t37 : Bool => (laws_FnNoClash_j37 kb35 s34) t37 = some r) (fun t37 => mk [(4, (.one (.d (.sl 1 (List.map d_i64 v5.2.1))))), (5, (oI v5.2.2.1)), (6, (.one (.ptr (.nm 384 0 0)))), (7, (oI v5.2.2.2.2)), (8, (.one (.d (.sl 4 (List.map d_TLock v7.1))))), (9, (.one (.d (.sl 1 (List.map d_i64 v7.2.1))))), (14, (oI s34)), (109, (oB t37))] [(384, (.vars 2 [(dI v5.2.2.2.1.Lo), (dI v5.2.2.2.1.Hi)]))] noG) ?_ ?_)))))
         ·intro t37 H
          unfold laws_FnNoClash_j37 at H
          rcases oite H with ⟨h39, H⟩ | ⟨h39, H⟩
          ·refine AW.condT (eR rfl) h39 (aV (oMov eC (xQ (AW.ret (BQ.qr (TQ.qr (TQ.qr (BQ.qr (TQ.qr ?_)))))))))
           cases H
           exact eE rfl rfl
          ·exact AW.condF (eR rfl) (nt h39) (AW.skip (BQ.qn (TQ.qn (aR (oMov (eR rfl) (oAdd eZ eC (oMov eZ (xNil (TQ.qn ⟨(IntKind.wrap .i64 (s34 + 1)), H, (wk_mk [] (kR rfl rfl (kR rfl rfl (kR rfl rfl (kR rfl rfl (kR rfl rfl (kR rfl rfl (kR rfl rfl SL.nil))))))) (BL.keep rfl BL.nil) (BK.cons rfl bZ rfl rfl BK.nil))⟩)))))))))
         ·refine aR (oMov (eR rfl) (oMov (eR rfl) ?_))
          obtain ⟨v40, h41, H⟩ := obind H
          refine oAtD (eR rfl) eZ h41 (oLoadB (e := (.int .i64 v40)) eZ rfl (oMov (eR rfl) (oLeq (eR rfl) eZ (oMov eZ ?_))))
          rcases oite H with ⟨h42, H⟩ | ⟨h42, H⟩
          ·exact gSkip eZ (dT h42) rfl (gSkip (eR rfl) (dT h42) rfl (gSkip (eR rfl) (dT h42) rfl (gSkip (eR rfl) (dT h42) rfl (gSkip (eR rfl) (dT h42) rfl (gSkip (eR rfl) (dT h42) rfl (oPickT (eR rfl) (dT h42) eC (oMov eZ (gSkip eZ rfl rfl (gSkip (eR rfl) rfl rfl (gSkip (eR rfl) rfl rfl (gSkip (eR rfl) rfl rfl (gSkip (eR rfl) rfl rfl (gSkip (eR rfl) rfl rfl (gSkip (eR rfl) rfl rfl (gSkip (eR rfl) rfl rfl (oPickT (eR rfl) rfl eC (xNil (TQ.qn ⟨true, H, (wk_mk [] (kR rfl rfl (kR rfl rfl (kR rfl rfl (kR rfl rfl (kR rfl rfl (kR rfl rfl (kR rfl rfl (kR rfl rfl SL.nil)))))))) (BL.keep rfl BL.nil) (BK.cons rfl bZ rfl rfl BK.nil))⟩))))))))))))))))))
          ·refine gDo eZ (dF h42) (oMov (eR rfl) (gDo (eR rfl) (dF h42) (oMov (eR rfl) (gDo (eR rfl) (dF h42) (oMov (eR rfl) (gDo (eR rfl) (dF h42) ?_))))))
           obtain ⟨v43, h44, H⟩ := obind H
           refine oAtD (eR rfl) eZ h44 (gDo (eR rfl) (dF h42) (oLoadB (e := (.int .i64 v43)) eZ rfl (gDo (eR rfl) (dF h42) ?_)))
           obtain ⟨v45, h46, H⟩ := obind H
           refine oCall (u := (oB v45)) eC Cl.fn (c_laws_within h46) (Evs.cons (eR rfl) (Evs.cons eZ Evs.nil)) (VDs.cons VD.plain (VDs.cons VD.plain VDs.nil)) rfl (oPickF (eR rfl) (dF h42) eZ (oMov eZ ?_))
           rcases oite H with ⟨h47, H⟩ | ⟨h47, H⟩
           ·exact gSkip eZ h47 rfl (gSkip (eR rfl) h47 rfl (gSkip (eR rfl) h47 rfl (gSkip (eR rfl) h47 rfl (gSkip (eR rfl) h47 rfl (gSkip (eR rfl) h47 rfl (gSkip (eR rfl) h47 rfl (gSkip (eR rfl) h47 rfl (oPickT (eR rfl) h47 eC (xNil (TQ.qn ⟨true, H, (wk_mk [] (kR rfl rfl (kR rfl rfl (kR rfl rfl (kR rfl rfl (kR rfl rfl (kR rfl rfl (kR rfl rfl (kR rfl rfl SL.nil)))))))) (BL.keep rfl BL.nil) (BK.cons rfl bZ rfl rfl BK.nil))⟩))))))))))
           ·refine gDo eZ (nt h47) (oMov (eR rfl) (gDo (eR rfl) (nt h47) (oMov (eR rfl) (gDo (eR rfl) (nt h47) (oMov (eR rfl) (gDo (eR rfl) (nt h47) ?_))))))
            obtain ⟨v48, h49, H⟩ := obind H
            refine oAtD (eR rfl) eZ h49 (gDo (eR rfl) (nt h47) (oLoadB (e := (.int .i64 v48)) eZ rfl (gDo (eR rfl) (nt h47) ?_)))
            obtain ⟨v50, h51, H⟩ := obind H
            exact oCall (u := (.one (.d (.sl 4 (List.map d_TLock v50))))) eC Cl.fn (c_impl_LocksOf h51) (Evs.cons (eR rfl) (Evs.cons eZ Evs.nil)) (VDs.cons VD.plain (VDs.cons VD.plain VDs.nil)) rfl (gDo (eR rfl) (nt h47) (oLenD eZ (n := v50.length) (List.length_map _) (gDo (eR rfl) (nt h47) (oNeq eZ eC (oPickF (eR rfl) (nt h47) eZ (xNil (TQ.qn ⟨(decide (¬ (v50.length : Int) = 0)), H, (wk_mk [] (kR rfl rfl (kR rfl rfl (kR rfl rfl (kR rfl rfl (kR rfl rfl (kR rfl rfl (kR rfl rfl (kR rfl rfl SL.nil)))))))) (BL.keep rfl BL.nil) (BK.cons rfl bZ rfl rfl BK.nil))⟩)))))))
        ·exact AW.condF eZ (dF h36) (AW.exit (TQ.qe (TQ.qe (BQ.qe (TQ.qn ⟨(), H, (wk_mk [] (kR rfl rfl (kR rfl rfl (kR rfl rfl (kR rfl rfl SL.nil)))) (BL.keep rfl BL.nil) (BK.cons rfl bZ rfl rfl BK.nil))⟩)))))
     ·refine AW.condT eZ (cN (nt h17)) (aV (oMov eC (xQ (AW.ret (TQ.qr ?_)))))
      cases H
      exact eE rfl rfl
  ·refine aR (oMov (eR rfl) (oMov (eR rfl) (oNeq (eR rfl) eZ (oMov eZ ?_))))
   rcases oite H with ⟨h52, H⟩ | ⟨h52, H⟩
   ·exact gSkip eZ (dT h52) rfl (gSkip (eR rfl) (dT h52) rfl (gSkip (eR rfl) (dT h52) rfl (gSkip (eR rfl) (dT h52) rfl (oPickT (eR rfl) (dT h52) eC (xNil (TQ.qn ⟨true, H, (wk_mk [] (kR rfl rfl (kR rfl rfl (kR rfl rfl (kR rfl rfl (kR rfl rfl (kR rfl rfl (kR rfl rfl (kR rfl rfl (kR rfl rfl SL.nil))))))))) (BL.keep rfl BL.nil) (BK.cons rfl bZ rfl rfl BK.nil))⟩))))))
   ·refine gDo eZ (dF h52) (oMov (eR rfl) (gDo (eR rfl) (dF h52) (oMov (eR rfl) (gDo (eR rfl) (dF h52) ?_))))
    obtain ⟨v53, h54, H⟩ := obind H
    exact oCall (u := (oB v53)) eC Cl.fn (c_laws_sameInts h54) (Evs.cons (eR rfl) (Evs.cons eZ Evs.nil)) (VDs.cons VD.plain (VDs.cons VD.plain VDs.nil)) rfl (gDo (eR rfl) (dF h52) (oInv eZ (oPickF (eR rfl) (dF h52) eZ (xNil (TQ.qn ⟨(!v53), H, (wk_mk [] (kR rfl rfl (kR rfl rfl (kR rfl rfl (kR rfl rfl (kR rfl rfl (kR rfl rfl (kR rfl rfl (kR rfl rfl (kR rfl rfl SL.nil))))))))) (BL.keep rfl BL.nil) (BK.cons rfl bZ rfl rfl BK.nil))⟩)))))
end Go.AW
