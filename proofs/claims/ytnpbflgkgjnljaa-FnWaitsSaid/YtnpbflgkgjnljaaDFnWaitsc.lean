/- That functions of the program compute what the plain functions say. Conditions: each theorem's own. -/
import Derived.Test.YtnpbflgkgjnljaaMFnWaits
import Derived.Test.YtnpbflgkgjnljaaGFnWaits
import Derived.Test.YtnpbflgkgjnljaaDFnWaitsa
import Derived.Test.YtnpbflgkgjnljaaDFnWaitsb
set_option linter.unusedVariables false
set_option linter.unusedSimpArgs false
set_option maxRecDepth 100000
namespace Go.AW
open Go.Proofs
theorem c_laws_FnWaits {a1 : (List Int)} {r : Bool} (H : m_laws_FnWaits a1 = some r) : Fn Try.prog 6 (lent [(.sl 1 (List.map d_u8 a1))]) true [(.bool r)] := by
 refine f6 (fle rfl) ?_
 rw [init_mk]
 refine AW.weaken (wk_mk [] (kv 0 (.one (.d (.sl 1 (List.map d_u8 a1)))) rfl rfl SL.nil) BL.nil BK.nil) ?_
 unfold m_laws_FnWaits at H
 unfold i6
 refine aV (oMov eC (xQ (aS (aV (oMov (eR rfl) ?_)))))
 obtain ⟨v2, h3, H⟩ := obind H
 refine oCall (u := (oB v2)) eC Cl.fn (c_laws_big h3) (Evs.cons eZ Evs.nil) (VDs.cons VD.plain VDs.nil) rfl (xQ ?_)
 rcases oite H with ⟨h4, H⟩ | ⟨h4, H⟩
 ·refine AW.condT eZ h4 (aV (oMov eC (xQ (AW.ret (TQ.qr ?_)))))
  cases H
  exact eE rfl rfl
 ·refine AW.condF eZ (nt h4) (AW.skip (TQ.qn (aV (oMov (eR rfl) ?_))))
  obtain ⟨v5, h6, H⟩ := obind H
  refine oCall (u := (.tup [(.one (.d (.sl 4 (List.map d_TLock v5.1)))), (.one (.d (.sl 1 (List.map d_i64 v5.2.1)))), (oI v5.2.2.1), (.agg [(dI v5.2.2.2.1.Lo), (dI v5.2.2.2.1.Hi)]), (oI v5.2.2.2.2)])) eC Cl.fn (c_spec_DrawLocksWaits h6) (Evs.cons eZ Evs.nil) (VDs.cons VD.plain VDs.nil) rfl (oMov eZ (oExt (v := (.one (.d (.sl 4 (List.map d_TLock v5.1))))) eZ rfl (oExt (v := (.one (.d (.sl 1 (List.map d_i64 v5.2.1))))) (eR rfl) rfl (oExt (v := (oI v5.2.2.1)) (eR rfl) rfl (oExt (v := (.agg [(dI v5.2.2.2.1.Lo), (dI v5.2.2.2.1.Hi)])) (eR rfl) rfl (oExt (v := (oI v5.2.2.2.2)) (eR rfl) rfl (oVar (n := 384) (m := 2) rfl rfl nZ (oMov (eR rfl) (oMov (eR rfl) (oMov (eR rfl) (oStoreV (es := [(dI v5.2.2.2.1.Lo), (dI v5.2.2.2.1.Hi)]) (eR rfl) (eR rfl) rfl rfl bZ rfl (oMov (eR rfl) (xQ (AW.weaken (wk_mk [] (kr 7 rfl rfl (kr 5 rfl rfl (kr 4 rfl rfl (kr 3 rfl rfl (kr 6 rfl rfl SL.nil))))) (BL.keep rfl (BL.keep rfl BL.nil)) (BK.cons (n := 384) rfl bZ rfl rfl BK.nil)) (aV (oMov (eR rfl) (oMov (eR rfl) (oMov (eR rfl) (oLoadVA (es := [(dI v5.2.2.2.1.Lo), (dI v5.2.2.2.1.Hi)]) (eR rfl) bZ rfl (oMov (eR rfl) ?_))))))))))))))))))))
  obtain ⟨v7, h8, H⟩ := obind H
  refine oCall (u := (.one (.d (.sl 1 (List.map d_i64 v7))))) eC Cl.fn (c_impl_LocksWaits h8) (Evs.cons (eR rfl) (Evs.cons (eR rfl) (Evs.cons (eR rfl) (Evs.cons (eR rfl) (Evs.cons eZ Evs.nil))))) (VDs.cons VD.plain (VDs.cons VD.plain (VDs.cons VD.plain (VDs.cons (VD.agg rfl) (VDs.cons VD.plain VDs.nil))))) rfl (oMov eZ (xQ (aV (oMov (eR rfl) (oMov (eR rfl) (oMov (eR rfl) (oLoadVA (es := [(dI v5.2.2.2.1.Lo), (dI v5.2.2.2.1.Hi)]) (eR rfl) bZ rfl (oMov (eR rfl) ?_))))))))
  obtain ⟨v9, h10, H⟩ := obind H
  refine oCall (u := (.tup [(.one (.d (.sl 4 (List.map d_TLock v9.1)))), (.one (.d (.sl 1 (List.map d_i64 v9.2.1)))), (oI v9.2.2)])) eC Cl.fn (c_impl_LockAsk h10) (Evs.cons (eR rfl) (Evs.cons (eR rfl) (Evs.cons (eR rfl) (Evs.cons (eR rfl) (Evs.cons eZ Evs.nil))))) (VDs.cons VD.plain (VDs.cons VD.plain (VDs.cons VD.plain (VDs.cons (VD.agg rfl) (VDs.cons VD.plain VDs.nil))))) rfl (oMov eZ (oExt (v := (.one (.d (.sl 4 (List.map d_TLock v9.1))))) eZ rfl (oExt (v := (.one (.d (.sl 1 (List.map d_i64 v9.2.1))))) (eR rfl) rfl (oExt (v := (oI v9.2.2)) (eR rfl) rfl (oMov (eR rfl) (oMov (eR rfl) (oMov (eR rfl) (xQ (AW.weaken (wk_mk [] (kr 11 rfl rfl (kr 8 rfl rfl (kr 7 rfl rfl (kr 5 rfl rfl (kr 4 rfl rfl (kr 3 rfl rfl (kr 6 rfl rfl SL.nil))))))) (BL.keep rfl BL.nil) (BK.cons (n := 384) rfl bZ rfl rfl BK.nil)) (aV (oMov (eR rfl) (oMov (eR rfl) (oMov (eR rfl) (oLoadVA (es := [(dI v5.2.2.2.1.Lo), (dI v5.2.2.2.1.Hi)]) (eR rfl) bZ rfl (oMov (eR rfl) ?_)))))))))))))))
  obtain ⟨v11, h12, H⟩ := obind H
  refine oCall (u := (.one (.d (.sl 1 (List.map d_i64 v11))))) eC Cl.fn (c_spec_LocksWaits h12) (Evs.cons (eR rfl) (Evs.cons (eR rfl) (Evs.cons (eR rfl) (Evs.cons (eR rfl) (Evs.cons eZ Evs.nil))))) (VDs.cons VD.plain (VDs.cons VD.plain (VDs.cons VD.plain (VDs.cons (VD.agg rfl) (VDs.cons VD.plain VDs.nil))))) rfl (oMov eZ (xQ (aS (AW.seqJ (fun t13 : Bool => (laws_FnWaits_j13 v7 v5) t13 = some r) (fun t13 => mk [(3, (.one (.d (.sl 4 (List.map d_TLock v5.1))))), (4, (.one (.d (.sl 1 (List.map d_i64 v5.2.1))))), (5, (oI v5.2.2.1)), (6, (.one (.ptr (.nm 384 0 0)))), (8, (.one (.d (.sl 1 (List.map d_i64 v7))))), (60, (oB t13))] [(384, (.vars 2 [(dI v5.2.2.2.1.Lo), (dI v5.2.2.2.1.Hi)]))] noG) ?_ ?_))))
  ·intro t13 H
   unfold laws_FnWaits_j13 at H
   rcases oite H with ⟨h15, H⟩ | ⟨h15, H⟩
   ·refine AW.condT (eR rfl) h15 (aV (oMov eC (xQ (AW.ret (TQ.qr ?_)))))
    cases H
    exact eE rfl rfl
   ·refine AW.condF (eR rfl) (nt h15) (AW.skip (TQ.qn (AW.seqJ (fun t16 : Unit => laws_FnWaits_j16 t16 = some r) (fun t16 => mk [] [] noG) ?_ ?_)))
    ·intro t16 H
     unfold laws_FnWaits_j16 at H
     refine aV (oMov eC (xQ (AW.ret ?_)))
     cases H
     exact eE rfl rfl
    ·refine aV (oMov eC (xQ (AW.block (AW.iter (fun s18 : Int => mk [(3, (.one (.d (.sl 4 (List.map d_TLock v5.1))))), (4, (.one (.d (.sl 1 (List.map d_i64 v5.2.1))))), (5, (oI v5.2.2.1)), (6, (.one (.ptr (.nm 384 0 0)))), (8, (.one (.d (.sl 1 (List.map d_i64 v7))))), (13, (oI s18))] [(384, (.vars 2 [(dI v5.2.2.2.1.Lo), (dI v5.2.2.2.1.Hi)]))] noG) H (wk_mk [] (kR rfl rfl (kR rfl rfl (kR rfl rfl (kR rfl rfl (kR rfl rfl (kR rfl rfl SL.nil)))))) (BL.keep rfl BL.nil) (BK.cons rfl bZ rfl rfl BK.nil)) ?_))))
     intro kb19 s18 H
     unfold laws_FnWaits_b18 at H
     refine aS (aV (oMov (eR rfl) (oMov (eR rfl) (oLenD eZ (n := v7.length) (List.length_map _) (oLss (eR rfl) eZ (xQ ?_))))))
     rcases oite H with ⟨h20, H⟩ | ⟨h20, H⟩
     ·refine AW.condT eZ (dT h20) (AW.skip (TQ.qn (AW.seqJ (fun t21 : Unit => (laws_FnWaits_j21 kb19 s18) t21 = some r) (fun t21 => mk [(3, (.one (.d (.sl 4 (List.map d_TLock v5.1))))), (4, (.one (.d (.sl 1 (List.map d_i64 v5.2.1))))), (5, (oI v5.2.2.1)), (6, (.one (.ptr (.nm 384 0 0)))), (8, (.one (.d (.sl 1 (List.map d_i64 v7))))), (13, (oI s18))] [(384, (.vars 2 [(dI v5.2.2.2.1.Lo), (dI v5.2.2.2.1.Hi)]))] noG) ?_ ?_)))
      ·intro t21 H
       unfold laws_FnWaits_j21 at H
       exact aR (oMov (eR rfl) (oAdd eZ eC (oMov eZ (xNil (TQ.qn ⟨(IntKind.wrap .i64 (s18 + 1)), H, (wk_mk [] (kR rfl rfl (kR rfl rfl (kR rfl rfl (kR rfl rfl (kR rfl rfl (kR rfl rfl SL.nil)))))) (BL.keep rfl BL.nil) (BK.cons rfl bZ rfl rfl BK.nil))⟩)))))
      ·refine AW.block (aS (AW.seqJ (fun t23 : Bool => (laws_FnWaits_j23 v7 s18 v5 (laws_FnWaits_j21 kb19 s18)) t23 = some r) (fun t23 => mk [(3, (.one (.d (.sl 4 (List.map d_TLock v5.1))))), (4, (.one (.d (.sl 1 (List.map d_i64 v5.2.1))))), (5, (oI v5.2.2.1)), (6, (.one (.ptr (.nm 384 0 0)))), (8, (.one (.d (.sl 1 (List.map d_i64 v7))))), (13, (oI s18)), (89, (oB t23))] [(384, (.vars 2 [(dI v5.2.2.2.1.Lo), (dI v5.2.2.2.1.Hi)]))] noG) ?_ ?_))
       ·intro t23 H
        unfold laws_FnWaits_j23 at H
        rcases oite H with ⟨h25, H⟩ | ⟨h25, H⟩
        ·refine AW.condT (eR rfl) h25 (aV (oMov eC (xQ (AW.ret (TQ.qr (BQ.qr (TQ.qr (TQ.qr (BQ.qr (TQ.qr ?_))))))))))
         cases H
         exact eE rfl rfl
        ·refine AW.condF (eR rfl) (nt h25) (AW.skip (TQ.qn (aV (oMov eZ (oMov (eR rfl) (oMov (eR rfl) ?_))))))
         obtain ⟨v26, h27, H⟩ := obind H
         refine oAtD (eR rfl) eZ h27 (oLoadB (e := (.int .i64 v26)) eZ rfl ?_)
         obtain ⟨v28, h29, H⟩ := obind H
         refine oCall (u := (.one (.d (.sl 4 (List.map d_TLock v28))))) eC Cl.fn (c_impl_LocksOf h29) (Evs.cons (eR rfl) (Evs.cons eZ Evs.nil)) (VDs.cons VD.plain (VDs.cons VD.plain VDs.nil)) rfl (oMov eZ (xQ (aV (oMov eC (xQ (AW.seqJ (fun t30 : Bool => (laws_FnWaits_j30 (laws_FnWaits_j21 kb19 s18)) t30 = some r) (fun t30 => mk [(3, (.one (.d (.sl 4 (List.map d_TLock v5.1))))), (4, (.one (.d (.sl 1 (List.map d_i64 v5.2.1))))), (5, (oI v5.2.2.1)), (6, (.one (.ptr (.nm 384 0 0)))), (8, (.one (.d (.sl 1 (List.map d_i64 v7))))), (13, (oI s18)), (15, (oB t30))] [(384, (.vars 2 [(dI v5.2.2.2.1.Lo), (dI v5.2.2.2.1.Hi)]))] noG) ?_ ?_))))))
         ·intro t30 H
          unfold laws_FnWaits_j30 at H
          refine aV (oMov (eR rfl) (oInv eZ (xQ ?_)))
          rcases oite H with ⟨h32, H⟩ | ⟨h32, H⟩
          ·exact AW.condF eZ (cN h32) (AW.skip (BQ.qn (TQ.qn ⟨(), H, (wk_mk [] (kR rfl rfl (kR rfl rfl (kR rfl rfl (kR rfl rfl (kR rfl rfl (kR rfl rfl SL.nil)))))) (BL.keep rfl BL.nil) (BK.cons rfl bZ rfl rfl BK.nil))⟩)))
          ·refine AW.condT eZ (cN (nt h32)) (aV (oMov eC (xQ (AW.ret (BQ.qr (TQ.qr (TQ.qr (BQ.qr (TQ.qr ?_)))))))))
           cases H
           exact eE rfl rfl
         ·refine aV (oMov eC (xQ (AW.weaken (wk_mk [] (kr 16 rfl rfl (kr 15 rfl rfl (kr 14 rfl rfl (kr 3 rfl rfl (kr 4 rfl rfl (kr 5 rfl rfl (kr 6 rfl rfl (kr 8 rfl rfl (kr 13 rfl rfl SL.nil))))))))) (BL.keep rfl BL.nil) (BK.cons (n := 384) rfl bZ rfl rfl BK.nil)) (AW.block (AW.iter (fun s33 : (Bool × Int) => mk [(3, (.one (.d (.sl 4 (List.map d_TLock v5.1))))), (4, (.one (.d (.sl 1 (List.map d_i64 v5.2.1))))), (5, (oI v5.2.2.1)), (6, (.one (.ptr (.nm 384 0 0)))), (8, (.one (.d (.sl 1 (List.map d_i64 v7))))), (13, (oI s18)), (14, (.one (.d (.sl 4 (List.map d_TLock v28))))), (15, (oB s33.1)), (16, (oI s33.2))] [(384, (.vars 2 [(dI v5.2.2.2.1.Lo), (dI v5.2.2.2.1.Hi)]))] noG) H (wk_mk [] (kR rfl rfl (kR rfl rfl (kR rfl rfl (kR rfl rfl (kR rfl rfl (kR rfl rfl (kR rfl rfl (kR rfl rfl (kR rfl rfl SL.nil))))))))) (BL.keep rfl BL.nil) (BK.cons rfl bZ rfl rfl BK.nil)) ?_)))))
          intro kb34 s33 H
          unfold laws_FnWaits_b33 at H
          refine aS (aV (oMov (eR rfl) (oMov (eR rfl) (oLenD eZ (n := v28.length) (List.length_map _) (oLss (eR rfl) eZ (xQ ?_))))))
          rcases oite H with ⟨h35, H⟩ | ⟨h35, H⟩
          ·refine AW.condT eZ (dT h35) (AW.skip (TQ.qn (aS (AW.block (AW.regd (oMov (eR rfl) (oMov eZ ?_)))))))
           rcases oite H with ⟨h36, H⟩ | ⟨h36, H⟩
           ·exact gSkip eZ h36 rfl (gSkip (eR rfl) h36 rfl (gSkip (eR rfl) h36 rfl (gSkip (eR rfl) h36 rfl (gSkip (eR rfl) h36 rfl (gSkip (eR rfl) h36 rfl (gSkip (eR rfl) h36 rfl (gSkip (eR rfl) h36 rfl (gSkip (eR rfl) h36 rfl (gSkipU eZ rfl (gSkipU (eR rfl) rfl (gSkipU (eR rfl) rfl (gSkipU (eR rfl) rfl (gSkipU (eR rfl) rfl (gSkipU (eR rfl) rfl (gSkipU (eR rfl) rfl (gSkipU (eR rfl) rfl (gSkip (eR rfl) h36 rfl (oPickT (eR rfl) h36 eC (oMov eZ (xNil (BQ.qn (TQ.qn (AW.weaken (wk_mk [] (kr 15 rfl rfl (kr 3 rfl rfl (kr 4 rfl rfl (kr 5 rfl rfl (kr 6 rfl rfl (kr 8 rfl rfl (kr 13 rfl rfl (kr 14 rfl rfl (kr 16 rfl rfl SL.nil))))))))) (BL.keep rfl BL.nil) (BK.cons (n := 384) rfl bZ rfl rfl BK.nil)) (aR (oMov (eR rfl) (oAdd eZ eC (oMov eZ (xNil (TQ.qn ⟨(true, (IntKind.wrap .i64 (s33.2 + 1))), H, (wk_mk [] (kR rfl rfl (kR rfl rfl (kR rfl rfl (kR rfl rfl (kR rfl rfl (kR rfl rfl (kR rfl rfl (kR rfl rfl (kR rfl rfl SL.nil))))))))) (BL.keep rfl BL.nil) (BK.cons rfl bZ rfl rfl BK.nil))⟩)))))))))))))))))))))))))))))
           ·refine gDo eZ (nt h36) (oMov (eR rfl) (gDo (eR rfl) (nt h36) (oMov (eR rfl) (gDo (eR rfl) (nt h36) ?_))))
            obtain ⟨v37, h38, H⟩ := obind H
            refine oAtD (eR rfl) eZ h38 (gDo (eR rfl) (nt h36) (oFaddrB (m := 1) eZ rfl (gDo (eR rfl) (nt h36) (oLoadB (e := (.int .i64 v37.Lo)) eZ rfl (gDo (eR rfl) (nt h36) (oFaddrN (m := 1) (eR rfl) rfl (gDo (eR rfl) (nt h36) (oLoadV (q := 1) (c := (dI v5.2.2.2.1.Hi)) eZ bZ rfl rfl (gDo (eR rfl) (nt h36) (oLss (eR rfl) eZ (gDo (eR rfl) (nt h36) (oMov eZ ?_))))))))))))
            rcases oite H with ⟨h39, H⟩ | ⟨h39, H⟩
            ·refine gDo eZ (dT h39) (oFaddrN (m := 0) (eR rfl) rfl (gDo (eR rfl) (dT h39) (oLoadV (q := 0) (c := (dI v5.2.2.2.1.Lo)) eZ bZ rfl rfl (gDo (eR rfl) (dT h39) (oMov (eR rfl) (gDo (eR rfl) (dT h39) (oMov (eR rfl) (gDo (eR rfl) (dT h39) ?_))))))))
             obtain ⟨v40, h41, H⟩ := obind H
             exact oAtD (eR rfl) eZ h41 (gDo (eR rfl) (dT h39) (oFaddrB (m := 2) eZ rfl (gDo (eR rfl) (dT h39) (oLoadB (e := (.int .i64 v40.Hi)) eZ rfl (gDo (eR rfl) (dT h39) (oLss (eR rfl) eZ (gDo (eR rfl) (nt h36) (oPickT (eR rfl) (dT h39) eZ (oPickF (eR rfl) (nt h36) eZ (oMov eZ (xNil (BQ.qn (TQ.qn (AW.weaken (wk_mk [] (kr 15 rfl rfl (kr 3 rfl rfl (kr 4 rfl rfl (kr 5 rfl rfl (kr 6 rfl rfl (kr 8 rfl rfl (kr 13 rfl rfl (kr 14 rfl rfl (kr 16 rfl rfl SL.nil))))))))) (BL.keep rfl BL.nil) (BK.cons (n := 384) rfl bZ rfl rfl BK.nil)) (aR (oMov (eR rfl) (oAdd eZ eC (oMov eZ (xNil (TQ.qn ⟨((decide (v5.2.2.2.1.Lo < v40.Hi)), (IntKind.wrap .i64 (s33.2 + 1))), H, (wk_mk [] (kR rfl rfl (kR rfl rfl (kR rfl rfl (kR rfl rfl (kR rfl rfl (kR rfl rfl (kR rfl rfl (kR rfl rfl (kR rfl rfl SL.nil))))))))) (BL.keep rfl BL.nil) (BK.cons rfl bZ rfl rfl BK.nil))⟩))))))))))))))))))))
            ·exact gSkip eZ (dF h39) rfl (gSkip (eR rfl) (dF h39) rfl (gSkip (eR rfl) (dF h39) rfl (gSkip (eR rfl) (dF h39) rfl (gSkip (eR rfl) (dF h39) rfl (gSkip (eR rfl) (dF h39) rfl (gSkip (eR rfl) (dF h39) rfl (gSkip (eR rfl) (dF h39) rfl (gDo (eR rfl) (nt h36) (oPickF (eR rfl) (dF h39) eC (oPickF (eR rfl) (nt h36) eZ (oMov eZ (xNil (BQ.qn (TQ.qn (AW.weaken (wk_mk [] (kr 15 rfl rfl (kr 3 rfl rfl (kr 4 rfl rfl (kr 5 rfl rfl (kr 6 rfl rfl (kr 8 rfl rfl (kr 13 rfl rfl (kr 14 rfl rfl (kr 16 rfl rfl SL.nil))))))))) (BL.keep rfl BL.nil) (BK.cons (n := 384) rfl bZ rfl rfl BK.nil)) (aR (oMov (eR rfl) (oAdd eZ eC (oMov eZ (xNil (TQ.qn ⟨(false, (IntKind.wrap .i64 (s33.2 + 1))), H, (wk_mk [] (kR rfl rfl (kR rfl rfl (kR rfl rfl (kR rfl rfl (kR rfl rfl (kR rfl rfl (kR rfl rfl (kR rfl rfl (kR rfl rfl SL.nil))))))))) (BL.keep rfl BL.nil) (BK.cons rfl bZ rfl rfl BK.nil))⟩)))))))))))))))))))))
          ·exact AW.condF eZ (dF h35) (AW.exit (TQ.qe (TQ.qe (BQ.qe (TQ.qn ⟨s33.1, H, (wk_mk [] (kR rfl rfl (kR rfl rfl (kR rfl rfl (kR rfl rfl (kR rfl rfl (kR rfl rfl (kR rfl rfl SL.nil))))))) (BL.keep rfl BL.nil) (BK.cons rfl bZ rfl rfl BK.nil))⟩)))))
       ·refine aR (oMov (eR rfl) (oMov (eR rfl) ?_))
        obtain ⟨v42, h43, H⟩ := obind H
        refine oAtD (eR rfl) eZ h43 (oLoadB (e := (.int .i64 v42)) eZ rfl (oMov (eR rfl) (oEql (eR rfl) eZ (oMov eZ ?_))))
        rcases oite H with ⟨h44, H⟩ | ⟨h44, H⟩
        ·exact gSkip eZ (dT h44) rfl (gSkip (eR rfl) (dT h44) rfl (gSkip (eR rfl) (dT h44) rfl (gSkip (eR rfl) (dT h44) rfl (gSkip (eR rfl) (dT h44) rfl (gSkip (eR rfl) (dT h44) rfl (gSkip (eR rfl) (dT h44) rfl (gSkipU eZ rfl (gSkipU (eR rfl) rfl (gSkipU (eR rfl) rfl (gSkipU (eR rfl) rfl (gSkipU (eR rfl) rfl (gSkipU (eR rfl) rfl (gSkipU (eR rfl) rfl (gSkip (eR rfl) (dT h44) rfl (oPickT (eR rfl) (dT h44) eC (xNil (TQ.qn ⟨true, H, (wk_mk [] (kR rfl rfl (kR rfl rfl (kR rfl rfl (kR rfl rfl (kR rfl rfl (kR rfl rfl (kR rfl rfl SL.nil))))))) (BL.keep rfl BL.nil) (BK.cons rfl bZ rfl rfl BK.nil))⟩)))))))))))))))))
        ·refine gDo eZ (dF h44) (oMov (eR rfl) (gDo (eR rfl) (dF h44) (oMov (eR rfl) (gDo (eR rfl) (dF h44) ?_))))
         obtain ⟨v45, h46, H⟩ := obind H
         refine oAtD (eR rfl) eZ h46 (gDo (eR rfl) (dF h44) (oLoadB (e := (.int .i64 v45)) eZ rfl (gDo (eR rfl) (dF h44) (oMov (eR rfl) (gDo (eR rfl) (dF h44) (oGtr (eR rfl) eZ (gDo (eR rfl) (dF h44) (oMov eZ ?_))))))))
         rcases oite H with ⟨h47, H⟩ | ⟨h47, H⟩
         ·refine gDo eZ (dT h47) (oMov (eR rfl) (gDo (eR rfl) (dT h47) (oMov (eR rfl) (gDo (eR rfl) (dT h47) (oMov (eR rfl) (gDo (eR rfl) (dT h47) ?_))))))
          obtain ⟨v48, h49, H⟩ := obind H
          refine oAtD (eR rfl) eZ h49 (gDo (eR rfl) (dT h47) (oLoadB (e := (.int .i64 v48)) eZ rfl (gDo (eR rfl) (dT h47) ?_)))
          obtain ⟨v50, h51, H⟩ := obind H
          exact oCall (u := (oB v50)) eC Cl.fn (c_laws_within h51) (Evs.cons (eR rfl) (Evs.cons eZ Evs.nil)) (VDs.cons VD.plain (VDs.cons VD.plain VDs.nil)) rfl (gDo (eR rfl) (dT h47) (oInv eZ (gDo (eR rfl) (dF h44) (oPickT (eR rfl) (dT h47) eZ (oPickF (eR rfl) (dF h44) eZ (xNil (TQ.qn ⟨(!v50), H, (wk_mk [] (kR rfl rfl (kR rfl rfl (kR rfl rfl (kR rfl rfl (kR rfl rfl (kR rfl rfl (kR rfl rfl SL.nil))))))) (BL.keep rfl BL.nil) (BK.cons rfl bZ rfl rfl BK.nil))⟩)))))))
         ·exact gSkip eZ (dF h47) rfl (gSkip (eR rfl) (dF h47) rfl (gSkip (eR rfl) (dF h47) rfl (gSkip (eR rfl) (dF h47) rfl (gSkip (eR rfl) (dF h47) rfl (gSkip (eR rfl) (dF h47) rfl (gSkip (eR rfl) (dF h47) rfl (gDo (eR rfl) (dF h44) (oPickF (eR rfl) (dF h47) eC (oPickF (eR rfl) (dF h44) eZ (xNil (TQ.qn ⟨false, H, (wk_mk [] (kR rfl rfl (kR rfl rfl (kR rfl rfl (kR rfl rfl (kR rfl rfl (kR rfl rfl (kR rfl rfl SL.nil))))))) (BL.keep rfl BL.nil) (BK.cons rfl bZ rfl rfl BK.nil))⟩)))))))))))
     ·exact AW.condF eZ (dF h20) (AW.exit (TQ.qe (TQ.qe (BQ.qe (TQ.qn ⟨(), H, (wk_mk [384] SL.nil (BL.drop rfl BL.nil) BK.nil)⟩)))))
  ·refine aR (oMov (eR rfl) (oMov (eR rfl) ?_))
   obtain ⟨v52, h53, H⟩ := obind H
   refine oCall (u := (oB v52)) eC Cl.fn (c_laws_sameInts h53) (Evs.cons (eR rfl) (Evs.cons eZ Evs.nil)) (VDs.cons VD.plain (VDs.cons VD.plain VDs.nil)) rfl (oInv eZ (oMov eZ ?_))
   rcases oite H with ⟨h54, H⟩ | ⟨h54, H⟩
   ·exact gDo eZ (cN h54) (oMov (eR rfl) (gDo (eR rfl) (cN h54) (oEql eZ eC (gDo (eR rfl) (cN h54) (oMov (eR rfl) (gDo (eR rfl) (cN h54) (oLenD eZ (n := v11.length) (List.length_map _) (gDo (eR rfl) (cN h54) (oGtr eZ eC (gDo (eR rfl) (cN h54) (oBne (eR rfl) eZ (oPickF (eR rfl) (cN h54) eZ (xNil (TQ.qn ⟨((decide (v9.2.2 = 2)) != (decide (0 < (v11.length : Int)))), H, (wk_mk [] (kR rfl rfl (kR rfl rfl (kR rfl rfl (kR rfl rfl (kR rfl rfl (kR rfl rfl SL.nil)))))) (BL.keep rfl BL.nil) (BK.cons rfl bZ rfl rfl BK.nil))⟩))))))))))))))
   ·exact gSkip eZ (cN (nt h54)) rfl (gSkip (eR rfl) (cN (nt h54)) rfl (gSkip (eR rfl) (cN (nt h54)) rfl (gSkip (eR rfl) (cN (nt h54)) rfl (gSkip (eR rfl) (cN (nt h54)) rfl (gSkip (eR rfl) (cN (nt h54)) rfl (oPickT (eR rfl) (cN (nt h54)) eC (xNil (TQ.qn ⟨true, H, (wk_mk [] (kR rfl rfl (kR rfl rfl (kR rfl rfl (kR rfl rfl (kR rfl rfl (kR rfl rfl SL.nil)))))) (BL.keep rfl BL.nil) (BK.cons rfl bZ rfl rfl BK.nil))⟩))))))))
end Go.AW
