/-
  Proved: for every input the law FnSplitJoin answers true, and the argument reads afterwards as it read before. Conditions: none beyond the row's own cells (Rows.FnSplitJoinSaid as given).
  Own work (the frame after the guide's template). The texts before hold a program logic over any program, the annotated codes of this program's functions, and what they answer.
-/
import Derived.Test.YtckkmhcccbnccaaT04
import Derived.Test.YtckkmhcccbnccaaRows
import Derived.ProofKit
set_option linter.all false
namespace Go.Proofs.Ytckkmhcccbnccaa
open Go.ChangeShapes Go.WideShapes Go.ChangeAt Go.RowKit Go.Fd
theorem Try.own:ownKnob Try.prog.godebug=none:=by kernel_rfl
theorem Try.laidOut:laidOutB Try.prog=true:=by kernel_rfl
theorem rd_u8:UK Go.Proofs.Try.prog 5 (fun n:Int=>[Tr.v (.int .u8 n)]) (V0 .u8):=DA Go.Proofs.Try.underlying5
theorem rd_bytes:UK Go.Proofs.Try.prog 22 (fun l:List Int=>[Tr.sl (l.map (fun n:Int=>[Tr.v (.int .u8 n)]))]) (fun l=>l.length<=9223372036854775807/\∀ x∈l,(V0 .u8) x):=WR (k:=0) Go.Proofs.Try.underlying22 (by kernel_rfl) (fun _=>rfl) rd_u8
theorem fits_u8{n:Int}(h:V0 .u8 n):0<=n/\n<=255:=by
 unfold V0 at h
 simpa [IntKind.min,IntKind.max,IntKind.signed,IntKind.bits] using h
set_option maxRecDepth 100000 in
theorem splitJoin_lifted(os:Os)(started:os.Started)(H:Type)(enc:TypeId×Value->H) :
  ReturnsInHanded {} Try.checked os 3 .any (Rows.fnSplitJoinSpec.pre6 enc Try.prog Try.f3 Rows.fnSplitJoinRow.domain false) (Rows.fnSplitJoinSpec.post enc Try.prog Try.f3 false true false false):=by
 refine returnsInHanded_of_change (C:=Try.checked) Try.own started (by kernel_rfl) Try.func3
  (ChangeSpec.witness6 (enc:=enc) (C:=Try.checked) false ⟨#[],#[.slice none 0 0],[]⟩ 8 (by kernel_rfl) (by kernel_rfl) (by kernel_rfl) (by kernel_rfl)) ?_
 intro W base args ds gs before hval0 hW hcnd _
 have hval:∀(j:Nat) t v,Try.f3.params[j]? = some t->args[j]? = some v->Value.okWide Try.prog W .any base t v:=hval0
 have hW':=hW
 obtain⟨p,q,hA0,hV,rfl,hfz,hnd⟩:=hW
 have hA:DataW.TrodAll enc Try.prog W 0 (fun _=>true) true Try.f3.params.toList args.toList ds p:=hA0
 rw[Try.params3] at hA hval
 obtain⟨v0,d0,rfl,rfl,h0⟩:=trodAll_one hA
 obtain⟨rfl,rfl⟩:=trodVars_none hV
 obtain⟨x,⟨hx,hq⟩,r0⟩:=ZaE rd_bytes Try.underlying22 (hval 0 22 v0 rfl rfl) h0
 simp only[List.append_nil] at hW'
 have hlt:∀ x∈p,x.block<W.heap.size:=fun x hx=>by simpa using hW'.lt x hx
 have hc:=We (vs:=[v0]) (w:=W) (QP x hx (fun y hy=>fits_u8 (hq y hy)) 0 S0) (by
  simp only[VRs]
  exact⟨v0,[],rfl,r0,rfl⟩) trivial
 refine hc.mono fun e W' ⟨he,hb⟩=>?_
 subst he
 refine⟨_,rfl,XF (pa:=p) (pv:=[]) hW' hb ?_ ?_ ?_⟩
 ·exact trodAll_mk1 (shut_bool Try.underlying4 true)
 ·exact trodAll_mk1 (Below.trod Try.laidOut (by kernel_rfl) (of_decide_eq_true (by kernel_rfl)) h0 hb hlt)
 ·rfl
theorem splitJoin_holds:Rows.FnSplitJoinSaid :=
 OpenClaim.holds_of_wide 3 Try.f3 rfl rfl rfl rfl rfl rfl rfl ⟨rfl,rfl,rfl,rfl,rfl⟩ rfl rfl rfl rfl rfl (by kernel_rfl) Try.func3 (by kernel_rfl)
  (of_decide_eq_true (by kernel_rfl)) (by unfold Func.isWrapper;first | (rw[if_pos (by decide +kernel)];kernel_rfl) | (rw[if_neg (by decide +kernel)];exact⟨rfl,rfl⟩))
  (fun os started H enc _=>splitJoin_lifted os started H enc)
end Go.Proofs.Ytckkmhcccbnccaa
