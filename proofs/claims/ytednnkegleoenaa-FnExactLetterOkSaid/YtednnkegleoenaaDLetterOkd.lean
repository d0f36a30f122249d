/- That functions of the program compute what the plain functions say: printed by a program of the prover's own (tool/dec.py). Conditions: each theorem's own. -/
import Derived.Test.YtednnkegleoenaaMLetterOk
import Derived.Test.YtednnkegleoenaaGLetterOk
import Derived.Test.YtednnkegleoenaaDLetterOka
import Derived.Test.YtednnkegleoenaaDLetterOkb
import Derived.Test.YtednnkegleoenaaDLetterOkc
set_option linter.unusedVariables false
set_option linter.unusedSimpArgs false
set_option maxRecDepth 100000
namespace Go.AW
open Go.Proofs
theorem c_laws_FnExactLetterOk {a1 : TLetter} {r : Bool} (H : m_laws_FnExactLetterOk a1 = some r) : Fn Try.prog k_laws_FnExactLetterOk (lent [(.agg (d_TLetter a1))]) true [(.bool r)] := by
 refine i_laws_FnExactLetterOk_fn (fle rfl) ?_
 rw [init_mk]
 refine AW.weaken (t := mk [(0, (.agg [(dI a1.Kind), (dI a1.Group), (dI a1.Client), (dI a1.Req), (dI a1.Tx), (dI a1.Lo), (dI a1.Hi), (dI a1.Rank), (dI a1.Code), (.d (.bool a1.Yes)), (.d (.sl 2 (List.map d_TRange a1.Reads))), (.d (.sl 2 (List.map d_TCell a1.Writes))), (.d (.sl 2 (List.map d_TCell a1.Cells))), (.d (.sl 4 (List.map d_TShare a1.Shares)))]))] [] (lk [])) (wk_mk [] (kv 0 (.agg [(dI a1.Kind), (dI a1.Group), (dI a1.Client), (dI a1.Req), (dI a1.Tx), (dI a1.Lo), (dI a1.Hi), (dI a1.Rank), (dI a1.Code), (.d (.bool a1.Yes)), (.d (.sl 2 (List.map d_TRange a1.Reads))), (.d (.sl 2 (List.map d_TCell a1.Writes))), (.d (.sl 2 (List.map d_TCell a1.Cells))), (.d (.sl 4 (List.map d_TShare a1.Shares)))]) rfl rfl SL.nil) BL.nil BK.nil) ?_
 unfold m_laws_FnExactLetterOk at H
 unfold i_laws_FnExactLetterOk
 refine aV (oBox (n := 64) (m := 14) (cs := [(dI a1.Kind), (dI a1.Group), (dI a1.Client), (dI a1.Req), (dI a1.Tx), (dI a1.Lo), (dI a1.Hi), (dI a1.Rank), (dI a1.Code), (.d (.bool a1.Yes)), (.d (.sl 2 (List.map d_TRange a1.Reads))), (.d (.sl 2 (List.map d_TCell a1.Writes))), (.d (.sl 2 (List.map d_TCell a1.Cells))), (.d (.sl 4 (List.map d_TShare a1.Shares)))]) rfl eZ rfl rfl nZ (oMov eC (xQ (aV (oMov eC (xQ (aV (oLoadVA (es := [(dI a1.Kind), (dI a1.Group), (dI a1.Client), (dI a1.Req), (dI a1.Tx), (dI a1.Lo), (dI a1.Hi), (dI a1.Rank), (dI a1.Code), (.d (.bool a1.Yes)), (.d (.sl 2 (List.map d_TRange a1.Reads))), (.d (.sl 2 (List.map d_TCell a1.Writes))), (.d (.sl 2 (List.map d_TCell a1.Cells))), (.d (.sl 4 (List.map d_TShare a1.Shares)))]) (eR rfl) bZ rfl (oMov (eR rfl) ?_)))))))))
 obtain ⟨v2, h3, H⟩ := obind H
 refine oCall (u := (oI v2)) eC Cl.fn (c_laws_szLetter h3) (Evs.cons (eR rfl) (Evs.cons eZ Evs.nil)) (VDs.cons (VD.agg rfl) (VDs.cons VD.plain VDs.nil)) rfl (oMov eZ (xQ (aS (aV (oMov eZ (oLss eZ eC (xQ ?_)))))))
 rcases oite H with ⟨h4, H⟩ | ⟨h4, H⟩
 ·refine AW.condT eZ (decide_eq_true h4) (aV (oMov eC (xQ (AW.ret (TQ.qr ?_)))))
  cases H
  exact eE rfl rfl
 ·refine AW.condF eZ (decide_eq_false h4) (AW.skip (TQ.qn (aV (oLoadVA (es := [(dI a1.Kind), (dI a1.Group), (dI a1.Client), (dI a1.Req), (dI a1.Tx), (dI a1.Lo), (dI a1.Hi), (dI a1.Rank), (dI a1.Code), (.d (.bool a1.Yes)), (.d (.sl 2 (List.map d_TRange a1.Reads))), (.d (.sl 2 (List.map d_TCell a1.Writes))), (.d (.sl 2 (List.map d_TCell a1.Cells))), (.d (.sl 4 (List.map d_TShare a1.Shares)))]) (eR rfl) bZ rfl ?_))))
  obtain ⟨v5, h6, H⟩ := obind H
  refine oCall (u := (.agg [(dI v5.Kind), (dI v5.Group), (dI v5.Client), (dI v5.Req), (dI v5.Tx), (dI v5.Lo), (dI v5.Hi), (dI v5.Rank), (dI v5.Code), (.d (.bool v5.Yes)), (.d (.sl 2 (List.map d_TRange v5.Reads))), (.d (.sl 2 (List.map d_TCell v5.Writes))), (.d (.sl 2 (List.map d_TCell v5.Cells))), (.d (.sl 4 (List.map d_TShare v5.Shares)))])) eC Cl.fn (c_laws_toLetter h6) (Evs.cons eZ Evs.nil) (VDs.cons (VD.agg rfl) VDs.nil) rfl ?_
  obtain ⟨v7, h8, H⟩ := obind H
  refine oCall (u := (oB v7)) eC Cl.fn (c_spec_LetterOk h8) (Evs.cons eZ Evs.nil) (VDs.cons (VD.agg rfl) VDs.nil) rfl (oMov eZ (xQ (aS (AW.regm (rmOne (oLoadVA (es := [(dI a1.Kind), (dI a1.Group), (dI a1.Client), (dI a1.Req), (dI a1.Tx), (dI a1.Lo), (dI a1.Hi), (dI a1.Rank), (dI a1.Code), (.d (.bool a1.Yes)), (.d (.sl 2 (List.map d_TRange a1.Reads))), (.d (.sl 2 (List.map d_TCell a1.Writes))), (.d (.sl 2 (List.map d_TCell a1.Cells))), (.d (.sl 4 (List.map d_TShare a1.Shares)))]) (eR rfl) bZ rfl (xNil (rmOne ?_))))))))
  obtain ⟨v9, h10, H⟩ := obind H
  refine oCall (u := (.agg [(dI v9.Kind), (dI v9.Group), (dI v9.Client), (dI v9.Req), (dI v9.Tx), (dI v9.Lo), (dI v9.Hi), (dI v9.Rank), (dI v9.Code), (.d (.bool v9.Yes)), (.d (.sl 2 (List.map d_TRange v9.Reads))), (.d (.sl 2 (List.map d_TCell v9.Writes))), (.d (.sl 2 (List.map d_TCell v9.Cells))), (.d (.sl 4 (List.map d_TShare v9.Shares)))])) eC Cl.fn (c_laws_toLetter h10) (Evs.cons eZ Evs.nil) (VDs.cons (VD.agg rfl) VDs.nil) rfl (xNil (rmOne (oVar (n := 320) (m := 14) rfl rfl (nS rfl nZ) (xNil (rmOne (oStoreV (es := [(dI v9.Kind), (dI v9.Group), (dI v9.Client), (dI v9.Req), (dI v9.Tx), (dI v9.Lo), (dI v9.Hi), (dI v9.Rank), (dI v9.Code), (.d (.bool v9.Yes)), (.d (.sl 2 (List.map d_TRange v9.Reads))), (.d (.sl 2 (List.map d_TCell v9.Writes))), (.d (.sl 2 (List.map d_TCell v9.Cells))), (.d (.sl 4 (List.map d_TShare v9.Shares)))]) eZ (eR rfl) rfl rfl bZ rfl (xNil (rmRest (xQ (AW.weaken (wk_mkG [] (kr 5 rfl rfl (kr 4 rfl rfl (kr 1 rfl rfl SL.nil))) (BL.keep rfl (BL.keep rfl (BL.keep rfl BL.nil))) (BK.cons (n := 320) rfl bZ rfl rfl (BK.cons (n := 64) rfl (bS rfl (bS rfl bZ)) rfl rfl BK.nil)) GK.nil) (aV (oLoadVA (es := [(dI v9.Kind), (dI v9.Group), (dI v9.Client), (dI v9.Req), (dI v9.Tx), (dI v9.Lo), (dI v9.Hi), (dI v9.Rank), (dI v9.Code), (.d (.bool v9.Yes)), (.d (.sl 2 (List.map d_TRange v9.Reads))), (.d (.sl 2 (List.map d_TCell v9.Writes))), (.d (.sl 2 (List.map d_TCell v9.Cells))), (.d (.sl 4 (List.map d_TShare v9.Shares)))]) eZ bZ rfl ?_))))))))))))
  obtain ⟨v11, h12, H⟩ := obind H
  refine oCall (u := (oB v11)) eC Cl.fn (c_impl_LetterOk h12) (Evs.cons eZ Evs.nil) (VDs.cons (VD.agg rfl) VDs.nil) rfl (oMov eZ (xQ (aS (aV (oMov eZ (oMov (eR rfl) (oBne (eR rfl) eZ (xQ ?_))))))))
  rcases oite H with ⟨h13, H⟩ | ⟨h13, H⟩
  ·refine AW.condT eZ h13 (aV (oMov eC (xQ (AW.ret (TQ.qr ?_)))))
   cases H
   exact eE rfl rfl
  ·refine AW.condF eZ (nt h13) (AW.skip (TQ.qn (aS (aS (AW.regd (oLoadVA (es := [(dI v9.Kind), (dI v9.Group), (dI v9.Client), (dI v9.Req), (dI v9.Tx), (dI v9.Lo), (dI v9.Hi), (dI v9.Rank), (dI v9.Code), (.d (.bool v9.Yes)), (.d (.sl 2 (List.map d_TRange v9.Reads))), (.d (.sl 2 (List.map d_TCell v9.Writes))), (.d (.sl 2 (List.map d_TCell v9.Cells))), (.d (.sl 4 (List.map d_TShare v9.Shares)))]) (eR rfl) (hB rfl bZ) rfl (oLoadVA (es := [(dI a1.Kind), (dI a1.Group), (dI a1.Client), (dI a1.Req), (dI a1.Tx), (dI a1.Lo), (dI a1.Hi), (dI a1.Rank), (dI a1.Code), (.d (.bool a1.Yes)), (.d (.sl 2 (List.map d_TRange a1.Reads))), (.d (.sl 2 (List.map d_TCell a1.Writes))), (.d (.sl 2 (List.map d_TCell a1.Cells))), (.d (.sl 4 (List.map d_TShare a1.Shares)))]) (eR rfl) (bS rfl bZ) rfl ?_)))))))
   obtain ⟨v14, h15, H⟩ := obind H
   refine oCall (u := (.agg [(dI v14.Kind), (dI v14.Group), (dI v14.Client), (dI v14.Req), (dI v14.Tx), (dI v14.Lo), (dI v14.Hi), (dI v14.Rank), (dI v14.Code), (.d (.bool v14.Yes)), (.d (.sl 2 (List.map d_TRange v14.Reads))), (.d (.sl 2 (List.map d_TCell v14.Writes))), (.d (.sl 2 (List.map d_TCell v14.Cells))), (.d (.sl 4 (List.map d_TShare v14.Shares)))])) eC Cl.fn (c_laws_toLetter h15) (Evs.cons eZ Evs.nil) (VDs.cons (VD.agg rfl) VDs.nil) rfl ?_
   obtain ⟨v16, h17, H⟩ := obind H
   refine oCall (u := (oB v16)) eC Cl.fn (c_laws_eqLetter h17) (Evs.cons (eR rfl) (Evs.cons eZ Evs.nil)) (VDs.cons (VD.agg rfl) (VDs.cons (VD.agg rfl) VDs.nil)) rfl (oInv eZ (xQ ?_))
   rcases oite H with ⟨h18, H⟩ | ⟨h18, H⟩
   ·refine AW.condF eZ (congrArg Bool.not h18) (AW.skip (TQ.qn (aV (oMov eC (xQ (AW.ret ?_))))))
    cases H
    exact eE rfl rfl
   ·refine AW.condT eZ (congrArg Bool.not (nt h18)) (aV (oMov eC (xQ (AW.ret (TQ.qr ?_)))))
    cases H
    exact eE rfl rfl
end Go.AW
