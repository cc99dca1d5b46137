/-
  AN AXIOM, THE REFERENCE'S SIDE, STEPS WITH ONE OPERAND OR NONE. Own work.
-/
import Derived.Test.YtcpcocfmpcmbpaaGreatDoorT08
set_option linter.all false
namespace Go.Fd
open Go.Proofs.Tryz renaming prog->Ucb
set_option maxRecDepth 20000
set_option maxHeartbeats 8000000 in
theorem ZGz(sig:List TControl)(t:List TTermStep)(hn:sig.length<=4294967296)(hbs:∀ y∈sig,Z9 4294967296 y)(hbt:∀ y∈t,Jm 4294967296 y)(hs:Jj sig)(hl:t.length<=60){y:Jz}(hr:Z3 sig t=some y)(j:Nat)(hj:j<t.length)(n:Int)(hT2:¬ ZE (Zi t j).kind_=2)(lvl:Nat)(S:Zb) :
  Sem Ucb ZaX lvl [.tr (.sl (sig.map Zx)),.tr (.sl (t.map Zg)),tI (ZI t t.length).1,iI n,iI j] S (.tu [.tr (.sl ((Qx t n j).map Zg)),iB (dc (okT sig t n (ZL t j) (ZL t (j-1)) j))]) S:=by
 obtain⟨f,hf,hfj⟩:=WI hr hj;have hfA:ZL t j=f:=by unfold ZL;rw[hf];rfl
 have hSl:(ZI t t.length).1.length=t.length:=stS_one;have gs:=JC (l:=(ZI t t.length).1) (i:=j) (by omega);rw[VQ hj,hf] at gs;have ga:(t.map Zg)[j]? = some (Zg (Zi t j)):=by rw[JF hj];exact Jb (c:=Zg) hj
 have q0:((j:Int)+1)=((j+1:Nat):Int):=by omega
 have hone:cut (t.map Zg) j (j+1-j)=[Zg (Zi t j)]:=by rw[QO,ZbG hj];rfl
 have unr0:ZC 4 (t.map Zg):=VD Zg (fun _=>rfl) t;have hso:stepOK sig t[j]:=by obtain⟨z,_,h2,_⟩:=Vu hr hj;exact h2
 have hkn:=hso.kind;have hT:ZE (Zi t j).kind_=ZE t[j].kind_:=by rw[JF hj]
 rw[<-JF hj] at hso hkn;have rep4:List.replicate 4 [Tr.sl []]=[[Tr.sl []],[Tr.sl []],[Tr.sl []],[Tr.sl []]]:=rfl;have rep3:List.replicate 3 [Tr.sl []]=[[Tr.sl []],[Tr.sl []],[Tr.sl []]]:=rfl;have hno:¬ ZV n=(Zi t j).kind_->Qx t n j=[]/\dc (okT sig t n (ZL t j) (ZL t (j-1)) j)=false:=fun h=>⟨by unfold Qx;rw[if_neg h],Zt fun g=>h g.want⟩;have hye:ZV n=(Zi t j).kind_->Qx t n j=YD t n (ZL t j) (ZL t (j-1)) j:=fun h=>by unfold Qx;rw[if_pos h]
 refine Zl Zle (by simp [low,men,Zc]) ?_;simp only[Zg5,Uaa,gs,ga,q0,hone,Zg,Int.toNat_natCast,Za,seval,Zc,men];refine⟨by rw[Ze];omega,fun _=>unr0,by omega,by omega,?_⟩;refine Zf (Zd2 (Zi t j).kind_) ?_;have hTc:¬ ((ZE (Zi t j).kind_:Nat):Int)=2:=by omega
 have hjl:j-1<t.length:=by omega
 obtain⟨b,e2,hbj⟩:=WI hr hjl;have hbA:ZL t (j-1)=b:=by unfold ZL;rw[e2];rfl
 rw[hfA,hbA] at hno hye ⊢;have hkc:(Zi t j).kind_=0\/(Zi t j).kind_=1\/(Zi t j).kind_=2\/(Zi t j).kind_=3\/(Zi t j).kind_=6\/(Zi t j).kind_=7:=by
  unfold ZE at hT2;split at hT2
  ·exact absurd rfl hT2
  ·omega
 by_cases hk:(Zi t j).kind_=3
 ·have hk0:=hk;by_cases h1:n=1
  ·subst h1;have hne:¬ ZV 1=(Zi t j).kind_:=by rw[hk];decide
   rw[(hno hne).1,(hno hne).2];simp only[gs,hk,ZY,Uaa,List.length_cons,List.length_nil,Int.toNat_natCast,Za,seval];repeat refine⟨by first | (rw[Ze];omega) | omega | exact fun _=>unr0 | (simp;done),?_⟩
   try (rw[Ze];omega)
   try decide
   try rfl
  by_cases h2:n=2
  ·subst h2;have hne:¬ ZV 2=(Zi t j).kind_:=by rw[hk];decide
   rw[(hno hne).1,(hno hne).2];simp only[gs,hk,ZY,Uaa,List.length_cons,List.length_nil,Int.toNat_natCast,Za,seval];repeat refine⟨by first | (rw[Ze];omega) | omega | exact fun _=>unr0 | (simp;done),?_⟩
   try (rw[Ze];omega)
   try decide
   try rfl
  by_cases h3:n=3
  ·subst h3;have hne:¬ ZV 3=(Zi t j).kind_:=by rw[hk];decide
   rw[(hno hne).1,(hno hne).2];simp only[gs,hk,ZY,Uaa,List.length_cons,List.length_nil,Int.toNat_natCast,Za,seval];repeat refine⟨by first | (rw[Ze];omega) | omega | exact fun _=>unr0 | (simp;done),?_⟩
   try (rw[Ze];omega)
   try decide
   try rfl
  by_cases h4:n=4
  ·subst h4;have hne:¬ ZV 4=(Zi t j).kind_:=by rw[hk];decide
   rw[(hno hne).1,(hno hne).2];simp only[gs,hk,ZY,Uaa,List.length_cons,List.length_nil,Int.toNat_natCast,Za,seval];repeat refine⟨by first | (rw[Ze];omega) | omega | exact fun _=>unr0 | (simp;done),?_⟩
   try (rw[Ze];omega)
   try decide
   try rfl
  by_cases h5:n=5
  ·subst h5;have hne:¬ ZV 5=(Zi t j).kind_:=by rw[hk];decide
   rw[(hno hne).1,(hno hne).2];simp only[gs,hk,ZY,Uaa,List.length_cons,List.length_nil,Int.toNat_natCast,Za,seval];repeat refine⟨by first | (rw[Ze];omega) | omega | exact fun _=>unr0 | (simp;done),?_⟩
   try (rw[Ze];omega)
   try decide
   try rfl
  by_cases h6:n=6
  ·subst h6;obtain⟨f',e1,hfb⟩:=opA hr hj (by rw[<-hT,hk];rfl);have hff:f'=f:=by omega
   subst hff;have q3:(j:Int)-1=((j-1:Nat):Int):=by omega
   have l3:(Zr t f' (j-1)).length=j-1-f':=J6 (by omega);have c17:cut (t.map Zg) (j-1) (j-(j-1))=[Zg (Zi t (j-1))]:=by
    have:=QO (t:=t) (a:=j-1) (e:=j);rw[this,show Zr t (j-1) j=[Zi t (j-1)] from by
     have h9:=ZbG (t:=t) (j:=j-1) hjl;rwa [show j-1+1=j by omega] at h9]
    rfl
   have c44:cut (t.map Zg) f' (j-1-f')=(Zr t f' (j-1)).map Zg:=QO;have hb1:stepOK sig (Zi t (j-1)):=(by obtain⟨z,_,h2,_⟩:=Vu hr hjl;rw[JF hjl];exact h2);have hwk:ZV 6=(Zi t j).kind_:=(by rw[hk];rfl);have hraw:YD t 6 f' b j=Zr t f' (j-1)++[Zi t j]++[Zi t (j-1)]:=(by show Zr t f' (j-1)++[Zi t j,Zi t (j-1)]=_;simp);rw[hye hwk,hraw];have hcc:=Zed (Zr t f' (j-1)) [Zi t j] [Zi t (j-1)] (by simp;omega);simp only[Uah,Uam,Zg,hk] at hcc;have hnb:(Zi t j).names.length<=4294967296:=(by rw[JF hj];exact(hbt _ (Uaj hj)).1);by_cases k1:(Zi t (j-1)).kind_=6
   ·have hnl:=hb1.one (.inl k1);have gn:(rS (Zi t (j-1)).names)[0]? = some [ts (JJ (Zi t (j-1)))]:=JS (e0:=Ja) (c:=fun n:ByteArray=>[ts n]) (i:=0) (by omega);by_cases k2:JJ (Zi t (j-1))∈(Zi t j).names
    ·have hok:¬ okT sig t 6 f' b j:=fun h=>(h.close (by omega)).2 k2;have k3:¬ Jh (Zi t j).names (JJ (Zi t (j-1)))<0:=(by have:=ixS_nn.2 k2;omega);rw[Zt hok];simp only[q3,gs,hk,ZY,rep3,List.set_cons_zero,List.set_cons_succ,Uaa,List.length_cons,List.length_nil,Int.toNat_natCast,c17,c44,Zg,Za,seval,Zc,men];repeat refine⟨by first | (rw[Ze];omega) | omega | exact fun _=>unr0 | (simp;done),?_⟩
     refine Zf hcc ?_;simp only[List.length_cons,List.length_nil,gn,k1,Za,seval,Zc,men];repeat refine⟨by first | (rw[Ze];omega) | omega | exact fun _=>unr0 | (simp;done),?_⟩
     refine Zf (Q7 (Zi t j).names (JJ (Zi t (j-1))) hnb) ?_;simp only[k3,Za,seval];repeat refine⟨by first | (rw[Ze];omega) | omega | exact fun _=>unr0 | (simp;done),?_⟩
     try (rw[Ze];omega)
     try decide
     try rfl
    ·have hok:okT sig t 6 f' b j:=⟨hwk,fun h=>by omega,fun h=>by omega,fun _=>⟨k1,k2⟩,fun h=>by omega⟩;have k3:Jh (Zi t j).names (JJ (Zi t (j-1)))<0:=(by rw[DV k2];decide);rw[ZU hok];simp only[q3,gs,hk,ZY,rep3,List.set_cons_zero,List.set_cons_succ,Uaa,List.length_cons,List.length_nil,Int.toNat_natCast,c17,c44,Zg,Za,seval,Zc,men];repeat refine⟨by first | (rw[Ze];omega) | omega | exact fun _=>unr0 | (simp;done),?_⟩
     refine Zf hcc ?_;simp only[List.length_cons,List.length_nil,gn,k1,Za,seval,Zc,men];repeat refine⟨by first | (rw[Ze];omega) | omega | exact fun _=>unr0 | (simp;done),?_⟩
     refine Zf (Q7 (Zi t j).names (JJ (Zi t (j-1))) hnb) ?_;simp only[k3,Za,seval];repeat refine⟨by first | (rw[Ze];omega) | omega | exact fun _=>unr0 | (simp;done),?_⟩
     try (rw[Ze];omega)
     try decide
     try rfl
   ·have hok:¬ okT sig t 6 f' b j:=fun h=>k1 (h.close (by omega)).1;rw[Zt hok];simp only[q3,gs,hk,ZY,rep3,List.set_cons_zero,List.set_cons_succ,Uaa,List.length_cons,List.length_nil,Int.toNat_natCast,c17,c44,Zg,Za,seval,Zc,men];repeat refine⟨by first | (rw[Ze];omega) | omega | exact fun _=>unr0 | (simp;done),?_⟩
    refine Zf hcc ?_;simp only[List.length_cons,List.length_nil,k1,Za,seval];repeat refine⟨by first | (rw[Ze];omega) | omega | exact fun _=>unr0 | (simp;done),?_⟩
    try (rw[Ze];omega)
    try decide
    try rfl
  by_cases h7:n=7
  ·subst h7;have hne:¬ ZV 7=(Zi t j).kind_:=by rw[hk];decide
   rw[(hno hne).1,(hno hne).2];simp only[gs,hk,ZY,Uaa,List.length_cons,List.length_nil,Int.toNat_natCast,Za,seval];repeat refine⟨by first | (rw[Ze];omega) | omega | exact fun _=>unr0 | (simp;done),?_⟩
   try (rw[Ze];omega)
   try decide
   try rfl
  have hne:¬ ZV n=(Zi t j).kind_:=by unfold ZV;rw[if_neg h1,if_neg h2,if_neg h3,if_neg h4,if_neg h5,if_neg h6,if_neg h7,hk];decide
  rw[(hno hne).1,(hno hne).2];simp only[gs,hk,ZY,Uaa,List.length_cons,List.length_nil,Int.toNat_natCast,h1,h2,h3,h4,h5,h6,h7,Za,seval];repeat refine⟨by first | (rw[Ze];omega) | omega | exact fun _=>unr0 | (simp;done),?_⟩
  try (rw[Ze];omega)
  try decide
  try rfl
 have hk3:¬ (Zi t j).kind_=3:=hk;by_cases hk:(Zi t j).kind_=6
 ·have hk0:=hk;by_cases h1:n=1
  ·subst h1;have hne:¬ ZV 1=(Zi t j).kind_:=by rw[hk];decide
   rw[(hno hne).1,(hno hne).2];simp only[gs,hk,ZY,Uaa,List.length_cons,List.length_nil,Int.toNat_natCast,Za,seval];repeat refine⟨by first | (rw[Ze];omega) | omega | exact fun _=>unr0 | (simp;done),?_⟩
   try (rw[Ze];omega)
   try decide
   try rfl
  by_cases h2:n=2
  ·subst h2;have hne:¬ ZV 2=(Zi t j).kind_:=by rw[hk];decide
   rw[(hno hne).1,(hno hne).2];simp only[gs,hk,ZY,Uaa,List.length_cons,List.length_nil,Int.toNat_natCast,Za,seval];repeat refine⟨by first | (rw[Ze];omega) | omega | exact fun _=>unr0 | (simp;done),?_⟩
   try (rw[Ze];omega)
   try decide
   try rfl
  by_cases h3:n=3
  ·subst h3;have hne:¬ ZV 3=(Zi t j).kind_:=by rw[hk];decide
   rw[(hno hne).1,(hno hne).2];simp only[gs,hk,ZY,Uaa,List.length_cons,List.length_nil,Int.toNat_natCast,Za,seval];repeat refine⟨by first | (rw[Ze];omega) | omega | exact fun _=>unr0 | (simp;done),?_⟩
   try (rw[Ze];omega)
   try decide
   try rfl
  by_cases h4:n=4
  ·subst h4;have hne:¬ ZV 4=(Zi t j).kind_:=by rw[hk];decide
   rw[(hno hne).1,(hno hne).2];simp only[gs,hk,ZY,Uaa,List.length_cons,List.length_nil,Int.toNat_natCast,Za,seval];repeat refine⟨by first | (rw[Ze];omega) | omega | exact fun _=>unr0 | (simp;done),?_⟩
   try (rw[Ze];omega)
   try decide
   try rfl
  by_cases h5:n=5
  ·subst h5;obtain⟨f',e1,hfb⟩:=opA hr hj (by rw[<-hT,hk];rfl);have hff:f'=f:=by omega
   subst hff;have q3:(j:Int)-1=((j-1:Nat):Int):=by omega
   have l3:(Zr t f' (j-1)).length=j-1-f':=J6 (by omega);have c17:cut (t.map Zg) (j-1) (j-(j-1))=[Zg (Zi t (j-1))]:=by
    have:=QO (t:=t) (a:=j-1) (e:=j);rw[this,show Zr t (j-1) j=[Zi t (j-1)] from by
     have h9:=ZbG (t:=t) (j:=j-1) hjl;rwa [show j-1+1=j by omega] at h9]
    rfl
   have c44:cut (t.map Zg) f' (j-1-f')=(Zr t f' (j-1)).map Zg:=QO;have hb1:stepOK sig (Zi t (j-1)):=(by obtain⟨z,_,h2,_⟩:=Vu hr hjl;rw[JF hjl];exact h2);have hwk:ZV 5=(Zi t j).kind_:=(by rw[hk];rfl);have hraw:YD t 5 f' b j=Zr t f' (j-1)++[Zi t j]++[Zi t (j-1)]:=(by show Zr t f' (j-1)++[Zi t j,Zi t (j-1)]=_;simp);rw[hye hwk,hraw];have hcc:=Zed (Zr t f' (j-1)) [Zi t j] [Zi t (j-1)] (by simp;omega);simp only[Uah,Uam,Zg,hk] at hcc;have hnb:(Zi t j).names.length<=4294967296:=(by rw[JF hj];exact(hbt _ (Uaj hj)).1);by_cases k1:(Zi t (j-1)).kind_=6
   ·have hnl:=hb1.one (.inl k1);have gn:(rS (Zi t (j-1)).names)[0]? = some [ts (JJ (Zi t (j-1)))]:=JS (e0:=Ja) (c:=fun n:ByteArray=>[ts n]) (i:=0) (by omega);have hml:=hso.one (.inl hk);have gm:(rS (Zi t j).names)[0]? = some [ts (JJ (Zi t j))]:=JS (e0:=Ja) (c:=fun n:ByteArray=>[ts n]) (i:=0) (by omega);have hone2:(Zi t j).names=[JJ (Zi t j)]:=(by obtain⟨y0,hy0⟩:=List.length_eq_one_iff.1 (show (Zi t j).names.length=1 by omega);unfold JJ;rw[hy0];rfl);by_cases k2:JJ (Zi t (j-1))∈(Zi t j).names
    ·have hok:¬ okT sig t 5 f' b j:=fun h=>(h.close (by omega)).2 k2;have k3:(JJ (Zi t (j-1))=JJ (Zi t j))=True:=eq_true (by rw[hone2] at k2;exact UaI.1 k2);rw[Zt hok];simp only[q3,gs,hk,ZY,rep3,List.set_cons_zero,List.set_cons_succ,Uaa,List.length_cons,List.length_nil,Int.toNat_natCast,c17,c44,Zg,Za,seval,Zc,men];repeat refine⟨by first | (rw[Ze];omega) | omega | exact fun _=>unr0 | (simp;done),?_⟩
     refine Zf hcc ?_;simp only[List.length_cons,List.length_nil,gn,gm,k1,k3,Za,seval];repeat refine⟨by first | (rw[Ze];omega) | omega | exact fun _=>unr0 | (simp;done),?_⟩
     try (rw[Ze];omega)
     try decide
     try rfl
    ·have hok:okT sig t 5 f' b j:=⟨hwk,fun h=>by omega,fun h=>by omega,fun _=>⟨k1,k2⟩,fun h=>by omega⟩;have k3:(JJ (Zi t (j-1))=JJ (Zi t j))=False:=eq_false (fun h=>k2 (by rw[hone2,h];exact UaI.2 rfl));rw[ZU hok];simp only[q3,gs,hk,ZY,rep3,List.set_cons_zero,List.set_cons_succ,Uaa,List.length_cons,List.length_nil,Int.toNat_natCast,c17,c44,Zg,Za,seval,Zc,men];repeat refine⟨by first | (rw[Ze];omega) | omega | exact fun _=>unr0 | (simp;done),?_⟩
     refine Zf hcc ?_;simp only[List.length_cons,List.length_nil,gn,gm,k1,k3,Za,seval];repeat refine⟨by first | (rw[Ze];omega) | omega | exact fun _=>unr0 | (simp;done),?_⟩
     try (rw[Ze];omega)
     try decide
     try rfl
   ·have hok:¬ okT sig t 5 f' b j:=fun h=>k1 (h.close (by omega)).1;rw[Zt hok];simp only[q3,gs,hk,ZY,rep3,List.set_cons_zero,List.set_cons_succ,Uaa,List.length_cons,List.length_nil,Int.toNat_natCast,c17,c44,Zg,Za,seval,Zc,men];repeat refine⟨by first | (rw[Ze];omega) | omega | exact fun _=>unr0 | (simp;done),?_⟩
    refine Zf hcc ?_;simp only[List.length_cons,List.length_nil,k1,Za,seval];repeat refine⟨by first | (rw[Ze];omega) | omega | exact fun _=>unr0 | (simp;done),?_⟩
    try (rw[Ze];omega)
    try decide
    try rfl
  by_cases h6:n=6
  ·subst h6;have hne:¬ ZV 6=(Zi t j).kind_:=by rw[hk];decide
   rw[(hno hne).1,(hno hne).2];simp only[gs,hk,ZY,Uaa,List.length_cons,List.length_nil,Int.toNat_natCast,Za,seval];repeat refine⟨by first | (rw[Ze];omega) | omega | exact fun _=>unr0 | (simp;done),?_⟩
   try (rw[Ze];omega)
   try decide
   try rfl
  by_cases h7:n=7
  ·subst h7;have hne:¬ ZV 7=(Zi t j).kind_:=by rw[hk];decide
   rw[(hno hne).1,(hno hne).2];simp only[gs,hk,ZY,Uaa,List.length_cons,List.length_nil,Int.toNat_natCast,Za,seval];repeat refine⟨by first | (rw[Ze];omega) | omega | exact fun _=>unr0 | (simp;done),?_⟩
   try (rw[Ze];omega)
   try decide
   try rfl
  have hne:¬ ZV n=(Zi t j).kind_:=by unfold ZV;rw[if_neg h1,if_neg h2,if_neg h3,if_neg h4,if_neg h5,if_neg h6,if_neg h7,hk];decide
  rw[(hno hne).1,(hno hne).2];simp only[gs,hk,ZY,Uaa,List.length_cons,List.length_nil,Int.toNat_natCast,h1,h2,h3,h4,h5,h6,h7,Za,seval];repeat refine⟨by first | (rw[Ze];omega) | omega | exact fun _=>unr0 | (simp;done),?_⟩
  try (rw[Ze];omega)
  try decide
  try rfl
 have hk6:¬ (Zi t j).kind_=6:=hk;have hk4:¬ (Zi t j).kind_=4:=by omega
 have hk5:¬ (Zi t j).kind_=5:=by omega
 ·skip;by_cases h1:n=1
  ·subst h1;have hne:¬ ZV 1=(Zi t j).kind_:=fun e=>hk4 (by rw[<-e];rfl);rw[(hno hne).1,(hno hne).2];simp only[hTc,gs,hk4,ZY,Uaa,List.length_cons,List.length_nil,Int.toNat_natCast,Za,seval];repeat refine⟨by first | (rw[Ze];omega) | omega | exact fun _=>unr0 | (simp;done),?_⟩
   try (rw[Ze];omega)
   try decide
   try rfl
  by_cases h2:n=2
  ·subst h2;have hne:¬ ZV 2=(Zi t j).kind_:=fun e=>hk4 (by rw[<-e];rfl);rw[(hno hne).1,(hno hne).2];simp only[hTc,gs,hk4,ZY,Uaa,List.length_cons,List.length_nil,Int.toNat_natCast,Za,seval];repeat refine⟨by first | (rw[Ze];omega) | omega | exact fun _=>unr0 | (simp;done),?_⟩
   try (rw[Ze];omega)
   try decide
   try rfl
  by_cases h3:n=3
  ·subst h3;have hne:¬ ZV 3=(Zi t j).kind_:=fun e=>hk4 (by rw[<-e];rfl);rw[(hno hne).1,(hno hne).2];simp only[hTc,gs,hk4,ZY,Uaa,List.length_cons,List.length_nil,Int.toNat_natCast,Za,seval];repeat refine⟨by first | (rw[Ze];omega) | omega | exact fun _=>unr0 | (simp;done),?_⟩
   try (rw[Ze];omega)
   try decide
   try rfl
  by_cases h4:n=4
  ·subst h4;have hne:¬ ZV 4=(Zi t j).kind_:=fun e=>hk5 (by rw[<-e];rfl);rw[(hno hne).1,(hno hne).2];simp only[hTc,gs,hk5,ZY,Uaa,List.length_cons,List.length_nil,Int.toNat_natCast,Za,seval];repeat refine⟨by first | (rw[Ze];omega) | omega | exact fun _=>unr0 | (simp;done),?_⟩
   try (rw[Ze];omega)
   try decide
   try rfl
  by_cases h5:n=5
  ·subst h5;have hne:¬ ZV 5=(Zi t j).kind_:=fun e=>hk6 (by rw[<-e];rfl);rw[(hno hne).1,(hno hne).2];simp only[hTc,gs,hk6,ZY,Uaa,List.length_cons,List.length_nil,Int.toNat_natCast,Za,seval];repeat refine⟨by first | (rw[Ze];omega) | omega | exact fun _=>unr0 | (simp;done),?_⟩
   try (rw[Ze];omega)
   try decide
   try rfl
  by_cases h6:n=6
  ·subst h6;have hne:¬ ZV 6=(Zi t j).kind_:=fun e=>hk3 (by rw[<-e];rfl);rw[(hno hne).1,(hno hne).2];simp only[hTc,gs,hk3,ZY,Uaa,List.length_cons,List.length_nil,Int.toNat_natCast,Za,seval];repeat refine⟨by first | (rw[Ze];omega) | omega | exact fun _=>unr0 | (simp;done),?_⟩
   try (rw[Ze];omega)
   try decide
   try rfl
  by_cases h7:n=7
  ·subst h7;have hne:¬ ZV 7=(Zi t j).kind_:=fun e=>hk5 (by rw[<-e];rfl);rw[(hno hne).1,(hno hne).2];simp only[hTc,gs,hk5,ZY,Uaa,List.length_cons,List.length_nil,Int.toNat_natCast,Za,seval];repeat refine⟨by first | (rw[Ze];omega) | omega | exact fun _=>unr0 | (simp;done),?_⟩
   try (rw[Ze];omega)
   try decide
   try rfl
  have hne:¬ ZV n=(Zi t j).kind_:=by unfold ZV;rw[if_neg h1,if_neg h2,if_neg h3,if_neg h4,if_neg h5,if_neg h6,if_neg h7];omega
  rw[(hno hne).1,(hno hne).2];simp only[hTc,gs,ZY,Uaa,List.length_cons,List.length_nil,Int.toNat_natCast,h1,h2,h3,h4,h5,h6,h7,Za,seval];repeat refine⟨by first | (rw[Ze];omega) | omega | exact fun _=>unr0 | (simp;done),?_⟩
  try (rw[Ze];omega)
  try decide
  try rfl
end Go.Fd
