/-
  Proved: for every input the law FnExactApplyAxiom answers true, and each argument reads afterwards as it read before. Conditions: none beyond the row's own cells (Rows.FnExactApplyAxiomCardSaid as given); the card ties the listed variables to the pruned copy of the program.
  Own work (the frame after the guide's template). The texts Fa.. hold a program logic over any program, Co the annotated codes of this program's functions, La what the laws' helpers do, Se what the functions on both sides answer.
-/
import Derived.Test.YtcpcocfmpcmbpaaGreatDoorT11
import Derived.Test.YtcpcocfmpcmbpaaGreatDoorCards
import Derived.Test.YtcpcocfmpcmbpaaGreatDoorTie
import Derived.ProofKit
import Derived.OpenShut
import Derived.LaidMore
import Derived.Lay
import Derived.SevenTiedAt
import Derived.Stop.Joined
set_option linter.all false
namespace Go.Proofs.YtcpcocfmpcmbpaaGreatDoor
open Go.ChangeShapes Go.WideShapes Go.ChangeAt Go.RowKit Go.Fd
theorem Tryz.own:ownKnob Tryz.prog.godebug=none:=by kernel_rfl
theorem Tryz.laidOut:laidOutB Tryz.prog=true:=by kernel_rfl
def applyAxiom_laid:List (String×DataW Unit):=[("unicode/utf8.acceptRanges",Rows.laid_unicode_utf8_acceptRanges),("unicode/utf8.first",Rows.laid_unicode_utf8_first)]
set_option maxRecDepth 100000 in
theorem applyAxiom_lifted(os:Os)(started:os.Started)(H:Type)(enc:TypeId×Value->H) :
  ReturnsInHanded {} Tryz.checked os 3 .any (fun w args=>(Rows.fnExactApplyAxiomSpec.pre enc Tryz.prog Tryz.f3 [] false w args/\laidMetH Tryz.prog applyAxiom_laid w)/\sizedMet enc Tryz.prog Tryz.f3 (OpenSpec.ofChange Rows.fnExactApplyAxiomSpec) false w args) (Rows.fnExactApplyAxiomSpec.post enc Tryz.prog Tryz.f3 false true false false):=by
 refine returnsInHanded_of_change_and (C:=Tryz.checked) (X:=fun w _=>laidMetH Tryz.prog applyAxiom_laid w) (fun _ _ _ hh h=>h.of_heap hh) Tryz.own started (by kernel_rfl) Tryz.func3
  (ChangeSpec.witness_shaped (enc:=enc) (C:=Tryz.checked) (os:=os) (X:=fun w _=>laidMetH Tryz.prog applyAxiom_laid w) false (World.laidAll Tryz.prog os applyAxiom_laid) #[.slice none 0 0,.slice none 0 0,.int .i64 0,.int .i64 0] 8 (World.laidAll_os _ _ _)
   (World.shaped_of_ZipB (by kernel_rfl) (by kernel_rfl)) (by kernel_rfl) (by kernel_rfl) (by kernel_rfl)
   (by rw[MakeChecks.laidMetH_plain _ _ _ (by kernel_rfl)];exact laidMet_laidAll _ (by kernel_rfl) (by kernel_rfl))) ?_
 intro W base args ds gs before hval0 hW _ _ _ _
 have hval:∀(j:Nat) t v,Tryz.f3.params[j]? = some t->args[j]? = some v->Value.okWide Tryz.prog W .any base t v:=hval0
 have hW':=hW
 obtain⟨p,q,hA0,hV,rfl,hfz,hnd⟩:=hW
 have hA:DataW.TrodAll enc Tryz.prog W 0 (fun _=>true) true Tryz.f3.params.toList args.toList ds p:=hA0
 rw[Tryz.params3] at hA hval
 obtain⟨v0,v1,v2,v3,d0,d1,d2,d3,p0,p1,p2,p3,rfl,rfl,rfl,h0,h1,h2,h3⟩:=trodAll_four hA
 obtain⟨rfl,rfl⟩:=trodVars_none hV
 obtain⟨x0,⟨hb0_0,hq0⟩,r0⟩:=ZkB ZHj Tryz.underlying22 (hval 0 22 v0 rfl rfl) h0
 obtain⟨x1,⟨hb1_0,hq1⟩,r1⟩:=ZkB ZHm Tryz.underlying23 (hval 1 23 v1 rfl rfl) h1
 obtain⟨x2,hf2,r2⟩:=ZkP Tryz.underlying3 (hval 2 3 v2 rfl rfl) h2
 obtain⟨x3,hf3,r3⟩:=ZkP Tryz.underlying3 (hval 3 3 v3 rfl rfl) h3
 simp only[List.append_nil] at hW'
 have hlt:∀ x∈p0++p1++p2++p3,x.block<W.heap.size:=fun x hx=>by simpa using hW'.lt x hx
 have hc:=ZzL (vs:=[v0,v1,v2,v3]) (w:=W) (ZHh x0 x1 x2 x3 hb0_0 (fun y hy=>(hq0 y hy).1) hb1_0 (fun y hy=>(hq1 y hy).1) 0 S0) (by
  simp only[Zu]
  exact⟨v0,[v1,v2,v3],rfl,r0,v1,[v2,v3],rfl,r1,v2,[v3],rfl,r2,v3,[],rfl,r3,rfl⟩) trivial
 refine hc.mono fun e W' ⟨he,hb⟩=>?_
 subst he
 refine⟨_,rfl,ZzN (pa:=p0++p1++p2++p3) (pv:=[]) hW' hb ?_ ?_ ?_⟩
 ·exact trodAll_mk1 (shut_bool Tryz.underlying4 true)
 ·have hm:=trodAll_mk4 (Below.trod Tryz.laidOut (by kernel_rfl) (of_decide_eq_true (by kernel_rfl)) h0 hb (fun x hx=>hlt x (by simp [hx])))
   (Below.trod Tryz.laidOut (by kernel_rfl) (of_decide_eq_true (by kernel_rfl)) h1 hb (fun x hx=>hlt x (by simp [hx])))
   (Below.trod Tryz.laidOut (by kernel_rfl) (of_decide_eq_true (by kernel_rfl)) h2 hb (fun x hx=>hlt x (by simp [hx])))
   (Below.trod Tryz.laidOut (by kernel_rfl) (of_decide_eq_true (by kernel_rfl)) h3 hb (fun x hx=>hlt x (by simp [hx])))
  simp only[<-List.append_assoc] at hm
  exact hm
 ·rfl
set_option maxHeartbeats 40000000 in
theorem applyAxiom_facts:joinedFacts Tryz.prog 3 Tryz.f3 Rows.fnExactApplyAxiomSpec Rows.fnExactApplyAxiomRow=true:=by
 unfold joinedFacts
 simp only[Bool.and_eq_true]
 repeat' apply And.intro
 all_goals as_aux_lemma=>kernel_rfl
set_option maxHeartbeats 40000000 in
theorem applyAxiom_holds:Rows.FnExactApplyAxiomSaid :=
 OpenClaim.holds_of_wide 3 Tryz.f3 rfl rfl rfl rfl rfl rfl rfl ⟨rfl,rfl,rfl,rfl,rfl⟩ rfl rfl rfl rfl rfl (by as_aux_lemma=>kernel_rfl) Tryz.func3 applyAxiom_facts
  (of_decide_eq_true (by as_aux_lemma=>kernel_rfl)) (by as_aux_lemma=>unfold Func.isWrapper;first | (rw[if_pos (by decide +kernel)];kernel_rfl) | (rw[if_neg (by decide +kernel)];exact⟨rfl,rfl⟩))
  (fun os started H enc _=>applyAxiom_lifted os started H enc)
set_option maxHeartbeats 40000000 in
theorem applyAxiom_card:Rows.FnExactApplyAxiomCardSaid :=
 Claim7.holds_tied_plain_at .later [] [.data,.pinned] true (true, "cfd362bbeba8603b07ab04f80da74a893752913c504ab224200b5cbce23156e6") false applyAxiom_holds (fun _ h=>by cases h) (by as_aux_lemma=>kernel_rfl) (fun _ h=>by cases h) fnExactApplyAxiom_row_tie rfl ⟨rfl,rfl⟩ (by as_aux_lemma=>kernel_rfl) rfl
  (fun f fn hf hfn=>by
   obtain rfl:f=3:=Option.some.inj ((show Tryz.prog.funcNamed Rows.fnExactApplyAxiomRow.func=some 3 by as_aux_lemma=>kernel_rfl).symm.trans hf) |>.symm
   obtain rfl:fn=Tryz.f3:=(Option.some.inj (Tryz.func3.symm.trans hfn)).symm
   exact⟨by as_aux_lemma=>kernel_rfl,fun j t ht=>by
    rw[Tryz.params3] at ht
    have hm:t∈[22,23,3,3]:=by simpa using Array.mem_of_getElem? ht
    have hall:([22,23,3,3].all fun u=>!Tryz.prog.wantsStandIn u)=true:=by as_aux_lemma=>kernel_rfl
    exact(show Tryz.prog.wantsStandIn t=false by simpa using List.all_eq_true.1 hall t hm)⟩)
  (by as_aux_lemma=>kernel_rfl)
end Go.Proofs.YtcpcocfmpcmbpaaGreatDoor
