/-
  AN AXIOM, THE REFERENCE'S SIDE, STEPS WITH TWO OPERANDS. Own work.
-/
import Derived.Test.YtcpcocfmpcmbpaaGreatDoorT09
set_option linter.all false
namespace Go.Fd
open Go.Proofs.Tryz renaming prog->Ucb
set_option maxRecDepth 20000
set_option maxHeartbeats 8000000 in
theorem ZGA(sig:List TControl)(t:List TTermStep)(hn:sig.length<=4294967296)(hbs:∀ y∈sig,Z9 4294967296 y)(hbt:∀ y∈t,Jm 4294967296 y)(hs:Jj sig)(hl:t.length<=60){y:Jz}(hr:Z3 sig t=some y)(j:Nat)(hj:j<t.length)(n:Int)(hTwo:ZE (Zi t j).kind_=2)(lvl:Nat)(S:Zb) :
  Sem Ucb ZaX lvl [.tr (.sl (sig.map Zx)),.tr (.sl (t.map Zg)),tI (ZI t t.length).1,iI n,iI j] S (.tu [.tr (.sl ((Qx t n j).map Zg)),iB (dc (okT sig t n (ZL t j) (ZL t (j-1)) j))]) S:=by
 obtain⟨f,hf,hfj⟩:=WI hr hj;have hfA:ZL t j=f:=by unfold ZL;rw[hf];rfl
 have hSl:(ZI t t.length).1.length=t.length:=stS_one;have gs:=JC (l:=(ZI t t.length).1) (i:=j) (by omega);rw[VQ hj,hf] at gs;have ga:(t.map Zg)[j]? = some (Zg (Zi t j)):=by rw[JF hj];exact Jb (c:=Zg) hj
 have q0:((j:Int)+1)=((j+1:Nat):Int):=by omega
 have hone:cut (t.map Zg) j (j+1-j)=[Zg (Zi t j)]:=by rw[QO,ZbG hj];rfl
 have unr0:ZC 4 (t.map Zg):=VD Zg (fun _=>rfl) t;have hso:stepOK sig t[j]:=by obtain⟨z,_,h2,_⟩:=Vu hr hj;exact h2
 have hkn:=hso.kind;have hT:ZE (Zi t j).kind_=ZE t[j].kind_:=by rw[JF hj]
 rw[<-JF hj] at hso hkn;have rep4:List.replicate 4 [Tr.sl []]=[[Tr.sl []],[Tr.sl []],[Tr.sl []],[Tr.sl []]]:=rfl;have rep3:List.replicate 3 [Tr.sl []]=[[Tr.sl []],[Tr.sl []],[Tr.sl []]]:=rfl;have hno:¬ ZV n=(Zi t j).kind_->Qx t n j=[]/\dc (okT sig t n (ZL t j) (ZL t (j-1)) j)=false:=fun h=>⟨by unfold Qx;rw[if_neg h],Zt fun g=>h g.want⟩;have hye:ZV n=(Zi t j).kind_->Qx t n j=YD t n (ZL t j) (ZL t (j-1)) j:=fun h=>by unfold Qx;rw[if_pos h]
 refine Zl Zle (by simp [low,men,Zc]) ?_;simp only[Zg5,Uaa,gs,ga,q0,hone,Zg,Int.toNat_natCast,Za,seval,Zc,men];refine⟨by rw[Ze];omega,fun _=>unr0,by omega,by omega,?_⟩;refine Zf (Zd2 (Zi t j).kind_) ?_;have hTk:=hkn;by_cases hT2:ZE (Zi t j).kind_=2
 ·obtain⟨f',b,x,w',e1,e2,hfb,hbj,⟨m1,r1⟩,⟨m2,r2⟩⟩:=U3 hr hj (by rw[<-hT,hT2]);have hff:f'=f:=by omega
  subst hff;have hbA:ZL t (j-1)=b:=by unfold ZL;rw[e2];rfl
  have q3:(j:Int)-1=((j-1:Nat):Int):=by omega
  have gsb:=JC (l:=(ZI t t.length).1) (i:=j-1) (by omega);rw[VQ (by omega),e2] at gsb;have hjl:j-1<t.length:=by omega
  have hTc:((ZE (Zi t j).kind_:Nat):Int)=2:=by rw[hT2];rfl
  have l1:(Zr t f' b).length=b-f':=J6 (by omega);have l2:(Zr t b j).length=j-b:=J6 (by omega);have l3:(Zr t f' (b-1)).length=b-1-f':=J6 (by omega);have c48:cut (t.map Zg) f' (b-f')=(Zr t f' b).map Zg:=QO;have c52:cut (t.map Zg) b (j-b)=(Zr t b j).map Zg:=QO;have q5:((b-f':Nat):Int)-1=((b-f' - 1:Nat):Int):=by omega
  have c84:cut ((Zr t f' b).map Zg) 0 (b-f' - 1-0)=(Zr t f' (b-1)).map Zg:=by rw[Yq (by omega),show f'+(b-f' - 1)=b-1 by omega,Nat.add_zero]
  have g94:=WG (t:=t) (f:=f') (g:=b) (k:=b-f' - 1) (by omega) (by omega);rw[show f'+(b-f' - 1)=b-1 by omega] at g94;have bl1:b-f' - 1<b-f':=by omega
  have hb1:stepOK sig (Zi t (b-1)):=by obtain⟨z,_,h2,_⟩:=Vu hr (show b-1<t.length by omega);rw[JF (by omega)];exact h2
  have hkc:(Zi t j).kind_=4\/(Zi t j).kind_=5:=by
   unfold ZE at hT2;split at hT2
   ·assumption
   ·split at hT2<;>omega
  rw[hfA,hbA] at hno hye ⊢;rcases hkc with hk | hk
  ·have hk0:=hk;by_cases h1:n=1
   ·subst h1;have hwk:ZV 1=(Zi t j).kind_:=by rw[hk];rfl
    have hok:okT sig t 1 f' b j:=⟨hwk,fun h=>by omega,fun h=>by omega,fun h=>by omega,fun h=>by omega⟩;rw[hye hwk,ZU hok];simp only[q3,gsb,gs,hk,ZY,rep3,c48,c52,List.set_cons_zero,List.set_cons_succ,Uaa,List.length_cons,List.length_nil,Int.toNat_natCast,Za,seval,Zc,men];repeat refine⟨by first | (rw[Ze];omega) | omega | exact fun _=>unr0 | (simp;done),?_⟩
    have hcc:=Zed (Zr t b j) (Zr t f' b) [Zi t j] (by simp;omega);simp only[Uah,Uam,Zg,hk] at hcc;refine Zf hcc ?_;simp only[List.length_nil,Za,seval];repeat refine⟨by first | (rw[Ze];omega) | omega | exact fun _=>unr0 | (simp;done),?_⟩
    try (rw[Ze];omega)
    try decide
    try rfl
   by_cases h2:n=2
   ·subst h2;have hwk:ZV 2=(Zi t j).kind_:=by rw[hk];rfl
    have hraw:YD t 2 f' b j=Zr t f' (b-1)++Zr t b j++[Zi t j]++[Zi t j]:=(by show Zr t f' (b-1)++Zr t b j++[Zi t j,Zi t j]=_;simp);rw[hye hwk,hraw];have hcc:=Zh6 (Zr t f' (b-1)) (Zr t b j) [Zi t j] [Zi t j] (by simp;omega);simp only[Uah,Uam,Zg,hk] at hcc;by_cases hss:(Zi t (b-1)).kind_=4
    ·have hok:okT sig t 2 f' b j:=⟨hwk,fun _=>by rw[hss,hk],fun h=>by omega,fun h=>by omega,fun h=>by omega⟩;rw[ZU hok];simp only[q3,gsb,gs,hk,l1,ZY,rep4,c48,c52,List.set_cons_zero,List.set_cons_succ,Uaa,List.length_cons,List.length_nil,Int.toNat_natCast,q5,c84,Za,seval,Zc,men];repeat refine⟨by first | (rw[Ze];omega) | omega | exact fun _=>unr0 | (simp;done),?_⟩
     refine Zf hcc ?_;simp only[l1,Uaa,List.length_cons,List.length_nil,Int.toNat_natCast,q5,g94,hss,Zg,Za,seval];repeat refine⟨by first | (rw[Ze];omega) | omega | exact fun _=>unr0 | (simp;done),?_⟩
     try (rw[Ze];omega)
     try decide
     try rfl
    ·have hok:¬ okT sig t 2 f' b j:=fun h=>hss (by rw[h.shift (by omega),hk]);rw[Zt hok];simp only[q3,gsb,gs,hk,l1,ZY,rep4,c48,c52,List.set_cons_zero,List.set_cons_succ,Uaa,List.length_cons,List.length_nil,Int.toNat_natCast,q5,c84,Za,seval,Zc,men];repeat refine⟨by first | (rw[Ze];omega) | omega | exact fun _=>unr0 | (simp;done),?_⟩
     refine Zf hcc ?_;simp only[l1,Uaa,List.length_cons,List.length_nil,Int.toNat_natCast,q5,g94,hss,Zg,Za,seval];repeat refine⟨by first | (rw[Ze];omega) | omega | exact fun _=>unr0 | (simp;done),?_⟩
     try (rw[Ze];omega)
     try decide
     try rfl
   by_cases h3:n=3
   ·subst h3;have hwk:ZV 3=(Zi t j).kind_:=by rw[hk];rfl
    have hraw:YD t 3 f' b j=Zr t f' b:=rfl;rw[hye hwk,hraw];have hcc:=ZGt (Zr t f' b) (by omega);have hro:=ZGw sig (Zr t f' b) hn hbs (Zee hbt) hs (by omega) r1;have hlb:=Zeb r1;have g109:=WG (t:=t) (f:=b) (g:=j) (k:=0) (by omega) (by omega);rw[Nat.add_zero] at g109;have bz:0<j-b:=(by omega);simp only[q3,gsb,gs,hk,ZY,c48,c52,List.set_cons_zero,Uaa,List.length_cons,List.length_nil,Int.toNat_natCast,Za,seval,Zc,men];repeat refine⟨by first | (rw[Ze];omega) | omega | exact fun _=>unr0 | (simp;done),?_⟩
    refine Zf hcc ?_;by_cases k1:j-b=1
    ·have k1':((j-b:Nat):Int)=1:=(by omega);by_cases k2:(Zi t b).kind_=1
     ·by_cases k3:x.1.roots=1
      ·have hok:okT sig t 3 f' b j:=⟨hwk,fun h=>by omega,fun _=>⟨k1,k2,by rw[hlb];exact k3⟩,fun h=>by omega,fun h=>by omega⟩;rw[ZU hok];simp only[l2,Uaa,List.length_cons,List.length_nil,k1',k2,g109,Zg,Za,seval,Zc,men];repeat refine⟨by first | (rw[Ze];omega) | omega | exact fun _=>unr0 | (simp;done),?_⟩
       refine Zf hro ?_;simp only[List.length_nil,k3,Za,seval];repeat refine⟨by first | (rw[Ze];omega) | omega | exact fun _=>unr0 | (simp;done),?_⟩
       try (rw[Ze];omega)
       try decide
       try rfl
      ·have hok:¬ okT sig t 3 f' b j:=fun h=>k3 (by rw[<-hlb];exact(h.drop rfl).2.2);rw[Zt hok];simp only[l2,Uaa,List.length_cons,List.length_nil,k1',k2,g109,Zg,Za,seval,Zc,men];repeat refine⟨by first | (rw[Ze];omega) | omega | exact fun _=>unr0 | (simp;done),?_⟩
       refine Zf hro ?_;simp only[List.length_nil,k3,Za,seval];repeat refine⟨by first | (rw[Ze];omega) | omega | exact fun _=>unr0 | (simp;done),?_⟩
       try (rw[Ze];omega)
       try decide
       try rfl
     ·have hok:¬ okT sig t 3 f' b j:=fun h=>k2 (h.drop rfl).2.1;rw[Zt hok];simp only[l2,Uaa,List.length_cons,List.length_nil,k1',k2,g109,Zg,Za,seval];repeat refine⟨by first | (rw[Ze];omega) | omega | exact fun _=>unr0 | (simp;done),?_⟩
      try (rw[Ze];omega)
      try decide
      try rfl
    ·have k1':¬ ((j-b:Nat):Int)=1:=(by omega);have hok:¬ okT sig t 3 f' b j:=fun h=>k1 (h.drop rfl).1;rw[Zt hok];simp only[l2,Uaa,List.length_nil,k1',Za,seval];repeat refine⟨by first | (rw[Ze];omega) | omega | exact fun _=>unr0 | (simp;done),?_⟩
     try (rw[Ze];omega)
     try decide
     try rfl
   by_cases h4:n=4
   ·subst h4;have hne:¬ ZV 4=(Zi t j).kind_:=by rw[hk];decide
    rw[(hno hne).1,(hno hne).2];simp only[q3,gsb,gs,hk,ZY,c48,c52,Uaa,List.length_cons,List.length_nil,Int.toNat_natCast,Za,seval];repeat refine⟨by first | (rw[Ze];omega) | omega | exact fun _=>unr0 | (simp;done),?_⟩
    try (rw[Ze];omega)
    try decide
    try rfl
   by_cases h5:n=5
   ·subst h5;have hne:¬ ZV 5=(Zi t j).kind_:=by rw[hk];decide
    rw[(hno hne).1,(hno hne).2];simp only[q3,gsb,gs,hk,ZY,c48,c52,Uaa,List.length_cons,List.length_nil,Int.toNat_natCast,Za,seval];repeat refine⟨by first | (rw[Ze];omega) | omega | exact fun _=>unr0 | (simp;done),?_⟩
    try (rw[Ze];omega)
    try decide
    try rfl
   by_cases h6:n=6
   ·subst h6;have hne:¬ ZV 6=(Zi t j).kind_:=by rw[hk];decide
    rw[(hno hne).1,(hno hne).2];simp only[q3,gsb,gs,hk,ZY,c48,c52,Uaa,List.length_cons,List.length_nil,Int.toNat_natCast,Za,seval];repeat refine⟨by first | (rw[Ze];omega) | omega | exact fun _=>unr0 | (simp;done),?_⟩
    try (rw[Ze];omega)
    try decide
    try rfl
   by_cases h7:n=7
   ·subst h7;have hne:¬ ZV 7=(Zi t j).kind_:=by rw[hk];decide
    rw[(hno hne).1,(hno hne).2];simp only[q3,gsb,gs,hk,ZY,c48,c52,Uaa,List.length_cons,List.length_nil,Int.toNat_natCast,Za,seval];repeat refine⟨by first | (rw[Ze];omega) | omega | exact fun _=>unr0 | (simp;done),?_⟩
    try (rw[Ze];omega)
    try decide
    try rfl
   have hne:¬ ZV n=(Zi t j).kind_:=(by unfold ZV;rw[if_neg h1,if_neg h2,if_neg h3,if_neg h4,if_neg h5,if_neg h6,if_neg h7,hk];decide);rw[(hno hne).1,(hno hne).2];simp only[q3,gsb,gs,hk,ZY,c48,c52,Uaa,List.length_cons,List.length_nil,Int.toNat_natCast,h1,h2,h3,h4,h5,h6,h7,Za,seval];repeat refine⟨by first | (rw[Ze];omega) | omega | exact fun _=>unr0 | (simp;done),?_⟩
   try (rw[Ze];omega)
   try decide
   try rfl
  ·have hk0:=hk;by_cases h1:n=1
   ·subst h1;have hne:¬ ZV 1=(Zi t j).kind_:=by rw[hk];decide
    rw[(hno hne).1,(hno hne).2];simp only[q3,gsb,gs,hk,ZY,c48,c52,Uaa,List.length_cons,List.length_nil,Int.toNat_natCast,Za,seval];repeat refine⟨by first | (rw[Ze];omega) | omega | exact fun _=>unr0 | (simp;done),?_⟩
    try (rw[Ze];omega)
    try decide
    try rfl
   by_cases h2:n=2
   ·subst h2;have hne:¬ ZV 2=(Zi t j).kind_:=by rw[hk];decide
    rw[(hno hne).1,(hno hne).2];simp only[q3,gsb,gs,hk,ZY,c48,c52,Uaa,List.length_cons,List.length_nil,Int.toNat_natCast,Za,seval];repeat refine⟨by first | (rw[Ze];omega) | omega | exact fun _=>unr0 | (simp;done),?_⟩
    try (rw[Ze];omega)
    try decide
    try rfl
   by_cases h3:n=3
   ·subst h3;have hne:¬ ZV 3=(Zi t j).kind_:=by rw[hk];decide
    rw[(hno hne).1,(hno hne).2];simp only[q3,gsb,gs,hk,ZY,c48,c52,Uaa,List.length_cons,List.length_nil,Int.toNat_natCast,Za,seval];repeat refine⟨by first | (rw[Ze];omega) | omega | exact fun _=>unr0 | (simp;done),?_⟩
    try (rw[Ze];omega)
    try decide
    try rfl
   by_cases h4:n=4
   ·subst h4;have hwk:ZV 4=(Zi t j).kind_:=by rw[hk];rfl
    have hraw:YD t 4 f' b j=Zr t f' (b-1)++Zr t b j++[Zi t j]++[Zi t j]:=(by show Zr t f' (b-1)++Zr t b j++[Zi t j,Zi t j]=_;simp);rw[hye hwk,hraw];have hcc:=Zh6 (Zr t f' (b-1)) (Zr t b j) [Zi t j] [Zi t j] (by simp;omega);simp only[Uah,Uam,Zg,hk] at hcc;by_cases hss:(Zi t (b-1)).kind_=5
    ·have hok:okT sig t 4 f' b j:=⟨hwk,fun _=>by rw[hss,hk],fun h=>by omega,fun h=>by omega,fun h=>by omega⟩;rw[ZU hok];simp only[q3,gsb,gs,hk,l1,ZY,rep4,c48,c52,List.set_cons_zero,List.set_cons_succ,Uaa,List.length_cons,List.length_nil,Int.toNat_natCast,q5,c84,Za,seval,Zc,men];repeat refine⟨by first | (rw[Ze];omega) | omega | exact fun _=>unr0 | (simp;done),?_⟩
     refine Zf hcc ?_;simp only[l1,Uaa,List.length_cons,List.length_nil,Int.toNat_natCast,q5,g94,hss,Zg,Za,seval];repeat refine⟨by first | (rw[Ze];omega) | omega | exact fun _=>unr0 | (simp;done),?_⟩
     try (rw[Ze];omega)
     try decide
     try rfl
    ·have hok:¬ okT sig t 4 f' b j:=fun h=>hss (by rw[h.shift (by omega),hk]);rw[Zt hok];simp only[q3,gsb,gs,hk,l1,ZY,rep4,c48,c52,List.set_cons_zero,List.set_cons_succ,Uaa,List.length_cons,List.length_nil,Int.toNat_natCast,q5,c84,Za,seval,Zc,men];repeat refine⟨by first | (rw[Ze];omega) | omega | exact fun _=>unr0 | (simp;done),?_⟩
     refine Zf hcc ?_;simp only[l1,Uaa,List.length_cons,List.length_nil,Int.toNat_natCast,q5,g94,hss,Zg,Za,seval];repeat refine⟨by first | (rw[Ze];omega) | omega | exact fun _=>unr0 | (simp;done),?_⟩
     try (rw[Ze];omega)
     try decide
     try rfl
   by_cases h5:n=5
   ·subst h5;have hne:¬ ZV 5=(Zi t j).kind_:=by rw[hk];decide
    rw[(hno hne).1,(hno hne).2];simp only[q3,gsb,gs,hk,ZY,c48,c52,Uaa,List.length_cons,List.length_nil,Int.toNat_natCast,Za,seval];repeat refine⟨by first | (rw[Ze];omega) | omega | exact fun _=>unr0 | (simp;done),?_⟩
    try (rw[Ze];omega)
    try decide
    try rfl
   by_cases h6:n=6
   ·subst h6;have hne:¬ ZV 6=(Zi t j).kind_:=by rw[hk];decide
    rw[(hno hne).1,(hno hne).2];simp only[q3,gsb,gs,hk,ZY,c48,c52,Uaa,List.length_cons,List.length_nil,Int.toNat_natCast,Za,seval];repeat refine⟨by first | (rw[Ze];omega) | omega | exact fun _=>unr0 | (simp;done),?_⟩
    try (rw[Ze];omega)
    try decide
    try rfl
   by_cases h7:n=7
   ·subst h7;have hwk:ZV 7=(Zi t j).kind_:=by rw[hk];rfl
    have hraw:YD t 7 f' b j=Zr t f' (b-1)++Zr t b j++[Zi t j]++[Zi t (b-1)]:=(by show Zr t f' (b-1)++Zr t b j++[Zi t j,Zi t (b-1)]=_;simp);rw[hye hwk,hraw];have c19:cut ((Zr t f' b).map Zg) (b-f' - 1) (b-f' - (b-f' - 1))=[Zg (Zi t (b-1))]:=(by rw[Yq (by omega),show f'+(b-f' - 1)=b-1 by omega,show f'+(b-f')=b-1+1 by omega,ZbG (by omega)];rfl);have hcc:=Zh6 (Zr t f' (b-1)) (Zr t b j) [Zi t j] [Zi t (b-1)] (by simp;omega);simp only[Uah,Uam,Zg,hk] at hcc;have hle:=Zpz sig (Zr t b j) hn hbs (Zee hbt) hs (by omega) r2;have hlb:=Zeb r2;have hpw:=(WC hs (t:=Zr t b j) (j:=(Zr t b j).length) (Ual _) (by rw[Uap];exact r2)).1 w' (by simp);have hol:w'.1.outer.length<=4294967296:=(by have:=hpw.big.outer.2;omega);simp only[q3,gsb,gs,hk,l1,ZY,rep4,c48,c52,List.set_cons_zero,List.set_cons_succ,Uaa,List.length_cons,List.length_nil,Int.toNat_natCast,q5,c84,c19,Zg,Za,seval,Zc,men];repeat refine⟨by first | (rw[Ze];omega) | omega | exact fun _=>unr0 | (simp;done),?_⟩
    refine Zf hcc ?_;by_cases k1:(Zi t (b-1)).kind_=6
    ·have hnl:=hb1.one (.inl k1);have gn:(rS (Zi t (b-1)).names)[0]? = some [ts (JJ (Zi t (b-1)))]:=JS (e0:=Ja) (c:=fun n:ByteArray=>[ts n]) (i:=0) (by omega);by_cases k2:JJ (Zi t (b-1))∈w'.1.outer
     ·have hok:¬ okT sig t 7 f' b j:=fun h=>(h.lift rfl).2 (by rw[hlb];exact k2);have k3:¬ Jh w'.1.outer (JJ (Zi t (b-1)))<0:=(by have:=ixS_nn.2 k2;omega);rw[Zt hok];simp only[List.length_cons,List.length_nil,k1,Za,seval,Zc,men];repeat refine⟨by first | (rw[Ze];omega) | omega | exact fun _=>unr0 | (simp;done),?_⟩
      refine Zf hle ?_;simp only[List.length_cons,List.length_nil,gn,Zh,Za,seval,Zc,men];repeat refine⟨by first | (rw[Ze];omega) | omega | exact fun _=>unr0 | (simp;done),?_⟩
      refine Zf (Q7 w'.1.outer (JJ (Zi t (b-1))) hol) ?_;simp only[k3,Za,seval];repeat refine⟨by first | (rw[Ze];omega) | omega | exact fun _=>unr0 | (simp;done),?_⟩
      try (rw[Ze];omega)
      try decide
      try rfl
     ·have hok:okT sig t 7 f' b j:=⟨hwk,fun h=>by omega,fun h=>by omega,fun h=>by omega,fun _=>⟨k1,by rw[hlb];exact k2⟩⟩;have k3:Jh w'.1.outer (JJ (Zi t (b-1)))<0:=(by rw[DV k2];decide);rw[ZU hok];simp only[List.length_cons,List.length_nil,k1,Za,seval,Zc,men];repeat refine⟨by first | (rw[Ze];omega) | omega | exact fun _=>unr0 | (simp;done),?_⟩
      refine Zf hle ?_;simp only[List.length_cons,List.length_nil,gn,Zh,Za,seval,Zc,men];repeat refine⟨by first | (rw[Ze];omega) | omega | exact fun _=>unr0 | (simp;done),?_⟩
      refine Zf (Q7 w'.1.outer (JJ (Zi t (b-1))) hol) ?_;simp only[k3,Za,seval];repeat refine⟨by first | (rw[Ze];omega) | omega | exact fun _=>unr0 | (simp;done),?_⟩
      try (rw[Ze];omega)
      try decide
      try rfl
    ·have hok:¬ okT sig t 7 f' b j:=fun h=>k1 (h.lift rfl).1;rw[Zt hok];simp only[List.length_cons,List.length_nil,k1,Za,seval];repeat refine⟨by first | (rw[Ze];omega) | omega | exact fun _=>unr0 | (simp;done),?_⟩
     try (rw[Ze];omega)
     try decide
     try rfl
   have hne:¬ ZV n=(Zi t j).kind_:=(by unfold ZV;rw[if_neg h1,if_neg h2,if_neg h3,if_neg h4,if_neg h5,if_neg h6,if_neg h7,hk];decide);rw[(hno hne).1,(hno hne).2];simp only[q3,gsb,gs,hk,ZY,c48,c52,Uaa,List.length_cons,List.length_nil,Int.toNat_natCast,h1,h2,h3,h4,h5,h6,h7,Za,seval];repeat refine⟨by first | (rw[Ze];omega) | omega | exact fun _=>unr0 | (simp;done),?_⟩
   try (rw[Ze];omega)
   try decide
   try rfl
 ·exact absurd hTwo hT2
end Go.Fd
