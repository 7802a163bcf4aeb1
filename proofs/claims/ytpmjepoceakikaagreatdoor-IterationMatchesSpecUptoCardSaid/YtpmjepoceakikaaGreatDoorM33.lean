/-IterationMatchesSpec:the given statement. Condition:what the law reads is of bulk at most 1048576 (the second form);the listed variables start as the program's text lays them. -/
import Derived.Test.YtpmjepoceakikaaGreatDoorM32
import Derived.ProofKit
import Derived.OpenShut
import Derived.ShutString
import Derived.Deep.Matrix
import Derived.Test.YtpmjepoceakikaaGreatDoorCards
import Derived.Test.YtpmjepoceakikaaGreatDoorTie
import Derived.Lib.LaidU8T
import Derived.Deep.DeepWitnessRowRef
import Derived.PinnedBridge
import Derived.Lib.LaidSlice
namespace Go.Proofs.YtpmjepoceakikaaGreatDoor
open Go.RowKit
variable{md me:Bool}
def Iz.coZ(k:Nat):Nat:=81000000+100000*k
theorem Iz.coZ_le{k:Nat}(h:k<=9):Iz.coZ k<=90000000:=by unfold Iz.coZ;omega
theorem Iz.coZ_succ{k:Nat}:Iz.coZ k+50000<=Iz.coZ (k+1):=by unfold Iz.coZ;omega
theorem Iz.Rd.up{h H:List Ob}{v it m:Vl}{C C':Nat}(x:Iz.Rd h v it m C H)(hC:C<=C'):Iz.Rd h v it m C' H:=⟨x.g,x.hh,Au x.co hC,x.ln,x.vv,x.vi,x.mv,x.mi,x.tv,x.ti⟩
structure Iz.Lp(h:List Ob)(v it m:Vl)where
 k:Nat
 le:k<=8
 H:List Ob
 rd:Iz.Rd h v it m (Iz.coZ k) H
set_option maxHeartbeats 4000000 in
theorem Law43_ok(h:List Ob)(v m:Vl)(a9:Int)(hh:HpIn h)(hiv:VlIn v)(him:VlIn m):Fx 3 [hpD md h,.agg (vlD v),.agg (vlD m),.v (.int .i64 a9)] (.v (.bool true)):=by
 have hhl:=hh.len;refine yF zJ Tryz.func3 rfl rfl rfl rfl rfl rfl ?_;intro w0 s0 mx;refine zK 100 ?_;refine zB ?_;refine zB (zE zJ [] 200 rfl ?_);refine zF ?_;refine zQ _ ((Usable_ok h [v,m] hh (fun u hu=>by simp only[Bl,List.not_mem_nil,or_false]at hu;rcases hu with rfl|rfl<;>assumption) (by show 2<=2000000;omega)).args ⟨u6 _,u18 rfl,trivial⟩) rfl ?_
 refine zF ?_;refine zC (zA (zW rfl (fun c1=>?_) (fun c1=>?_)))
 ·
  refine zK 300 ?_;refine zM (zP ?_);exact u4 rfl (u6 _)
 ·have hq:(qJ h).1=0/\uB h v=true/\uB h m=true:=by
   have hu:dF h [v,m]=true:=by simpa using c1
   simp only[dF,Aj,Ao,List.all_cons,List.all_nil,Bool.and_true]at hu;exact hu
  have g:Uh h:=vI1 hq.1;have pI:=itIterR_G h v hh g hiv hq.2.1;have pD:=Iterated_G h v hh g hiv hq.2.1;have pC:=itCheck_ok (md:=md) h v hh g hiv hq.2.1;have pE:=tH (md:=md) h v hh g hiv hq.2.1;obtain⟨rS,rd0⟩:=Iz.rd_start g hh hq.1 hq.2.1 hiv hq.2.2 him;obtain⟨S,hS⟩:∃S,S=itG h v:=⟨_,rfl⟩;obtain⟨H0,hH⟩:∃H0,H0=itH h v:=⟨_,rfl⟩;obtain⟨K,hK⟩:∃K,K=ckG h v:=⟨_,rfl⟩;rw[<-hS,<-hH]at pI pD rd0 rS;rw[<-hK]at pC pE;obtain⟨IT,hIT⟩:∃IT,IT=(if S.k=0 then S.v else v):=⟨_,rfl⟩;rw[<-hIT]at rd0;have hl0:=rd0.hh.len;have sk0:=mN0 (tA0 rd0.g rd0.hh) hl0 rS (by have:=rd0.co;omega);clear hS hH hK;refine zL (zA ?_);refine zB (zX zJ [1026,1028] mK11 400 yT kr rfl ?_);refine zF ?_;refine yP _ _ (vG1 h hh) rfl ?_;refine zF ?_;refine yP _ _ (vG1 h hh) rfl ?_;refine zf (zA ?_);refine yK [3,4,5,6,9,10] [0,1,2,204,205] 410 [] [(201,.mrow 43 10 (.map h obD ob0)),(203,.mrow 43 10 (.map h obD ob0)),(204,.box 24 [.mo 201 h.length]),(205,.box 24 [.mo 203 h.length])] ?_;refine⟨⟨yG,⟨SubO.mp rfl,SubO.mp rfl,⟨rfl,SubL.same rfl⟩,⟨rfl,SubL.same rfl⟩,yE⟩,rfl,rfl⟩,?_⟩;refine zB (zX zJ [1030,1032] mK11 500 yT kr rfl ?_);refine zF ?_;refine yP _ _ (pI) (bY _ _) ?_;refine zF ?_;refine yP _ _ (pD) (bY _ _) ?_;refine zf (zA (zB ?_));refine yK [3,4,5,6,9,10,11,12] [0,1,2,201,203,204,205,414,415] 510 [] [(201,.mrow 43 10 (.map H0 obD ob0)),(203,.mrow 43 10 (.map H0 obD ob0)),(204,.box 24 [.mo 201 H0.length]),(205,.box 24 [.mo 203 H0.length]),(414,.box 34 (stD S)),(415,.box 34 (stD S))] ?_;refine⟨⟨yG,⟨SubO.mp rfl,SubO.mp rfl,⟨rfl,Sub.mo rfl,rfl,trivial⟩,⟨rfl,Sub.mo rfl,rfl,trivial⟩,⟨rfl,SubL.same rfl⟩,⟨rfl,SubL.same rfl⟩,yE⟩,rfl,rfl⟩,?_⟩;refine zB (zX zJ [] [[],[],[],[],[],(rgN 5),(rgN 6),(rgN 7),(rgN 8),(rgN 8),(rgN 10),(rgN 8),(rgN 8),(rgN 13),(rgN 14),(rgN 15),(rgN 16)] 600 yT kr rfl ?_);refine zF ?_;refine qC _ (((vO h H0 S H0 S hhl rS.i rS.i sk0 sk0).out (u7 (dN rd0.ln)))) rfl rfl ?_;refine zF ?_;refine yN _ (fun hg10=>pC) rfl ?_;refine zF ?_;refine yN _ (fun hg13=>pE) rfl ?_;refine zF ?_;refine yN _ (fun hg14=>SameStep_ok K K) rfl ?_;refine zF ?_;refine zC (zA (zY (fun c5=>?_) (fun c5=>?_)))
  ·
   simp[smSt_self]at c5
  ·
   refine zL (zA ?_);refine zB (zX zJ [] [[],[],[],[],[0,2,3],(rgN 5)] 800 yT kr rfl ?_);refine zf (zA ?_);refine yK [3,4,5,6,9,10,11,12,13,14] [0,1,2,201,203,204,205,414,415,602,603] 810 [] [(602,.box 29 (vlD v)),(603,.box 29 (vlD v))] ?_;refine⟨⟨yG,⟨⟨rfl,SubL.same rfl⟩,⟨rfl,SubL.same rfl⟩,yE⟩,rfl,rfl⟩,?_⟩;refine pU (ι:=Unit) [3,4,5,6,9,10,13,14] [0,1,2,201,203,204,205] 1200 (fun _=>[]) (fun _=>[(602,.box 29 (vlD IT)),(603,.box 29 (vlD IT))]) ?_;refine⟨?_,fun _=>?_⟩
   ·refine zK 900 ?_;refine zY (fun c8=>?_) (fun c8=>?_)
    ·
     refine zX zJ [] [[],[0],[],[2],[0,1],(rgN 5)] 1000 yT kr rfl ?_;refine zf ?_;have e9:IT=S.v:=hIT.trans (Ab c8);exact qI () ⟨yG,⟨⟨rfl,by rw[e9];exact SubL.same rfl⟩,⟨rfl,by rw[e9];exact SubL.same rfl⟩,yE⟩,rfl,rfl⟩
    ·
     refine zL ?_;have e9:IT=v:=hIT.trans (Aa c8);exact qI () ⟨yG,⟨⟨rfl,by rw[e9];exact SubL.same rfl⟩,⟨rfl,by rw[e9];exact SubL.same rfl⟩,yE⟩,rfl,rfl⟩
   refine zB (zK 1300 ?_);refine zO ?_;refine yC (ι:=Iz.Lp h v IT m) [3,4,5,6,9,10,13,14] [0,1,2,602,603] 1300 (fun x=>[(59,.v (.int .i64 x.k))]) (fun x=>[(201,.mrow 43 10 (.map x.H obD ob0)),(203,.mrow 43 10 (.map x.H obD ob0)),(204,.box 24 [.mo 201 x.H.length]),(205,.box 24 [.mo 203 x.H.length])]) (fun x=>8-x.k) ⟨0,by decide,H0,rd0⟩ ?_;refine⟨⟨⟨u21 rfl,yG⟩,⟨SubO.mp rfl,SubO.mp rfl,⟨rfl,SubL.same rfl⟩,⟨rfl,SubL.same rfl⟩,yE⟩,rfl,rfl⟩,fun x=>?_⟩;have hxk:=x.le;refine zK 1400 ?_;refine zB (zW rfl (fun c11=>?_) (fun c11=>?_))
   ·have c11:x.k<8:=by
     have h9:(x.k:Int)<8:=by simpa using c11
     omega
    refine zL (zA (zB (zO (zK 1500 ?_))));refine pU (ι:={H1:List Ob//Iz.Rd h v IT m (Iz.coZ x.k+50000) H1}) [3,4,5,6,9,10,13,14,59] [0,1,2,602,603] 2200 (fun _=>[]) (fun j=>[(201,.mrow 43 10 (.map j.1 obD ob0)),(203,.mrow 43 10 (.map j.1 obD ob0)),(204,.box 24 [.mo 201 j.1.length]),(205,.box 24 [.mo 203 j.1.length])]) ?_;refine⟨?_,fun j=>?_⟩
    ·refine zB (zE zJ [] 1600 rfl ?_);refine zF ?_;refine qC _ (jH x.H v) rfl rfl ?_;refine zf (zA ?_);by_cases hG:((x.k:Int)=a9/\¬(zU x.H v).kind=2)/\(zU x.H v).kind=4
     ·refine yK [3,4,5,6,9,10,13,14,15,16,59] [0,1,2,201,203,204,205,602,603,1503] 1610 [] [(1503,.box 43 (obD (zU x.H v)))] ?_;refine⟨⟨yG,⟨⟨rfl,SubL.same rfl⟩,yE⟩,rfl,rfl⟩,?_⟩;refine zB (zE zJ [] 1700 rfl ?_);refine zF ?_;refine uZ (fun hz9=>?_) (fun hz9=>by exfalso;revert hz9;simp;omega);refine zF ?_;refine jH0 _ (fun hz8=>bD0 x.H m x.rd.hh) rfl rfl ?_;refine zF ?_;refine zC (zA (zW rfl (fun c14=>?_) (fun c14=>?_)))
      ·have c14:(x.k:Int)=a9/\((zU x.H v).kind=2\/(zU x.H v).kind=4):=by
        have h9:=c14;simp only[Aj,Cl,Ao]at h9;refine⟨h9.1,?_⟩;rcases h9.2 with h9|h9
        ·exact .inl h9
        ·exact .inr h9.1
       refine zK 1800 ?_;refine zW rfl (fun c15=>?_) (fun c15=>?_)
       ·have c15:(zU x.H v).kind=2:=by simpa using c15
        first|omega|(simp at c15;omega)|(simp at c15)
       ·have c15:(zU x.H v).kind=4:=by
         have h9:=c15;first|omega|(simp at h9;omega)
        obtain⟨R1,H1,pA1,pB1,w1⟩:=x.rd.inc c15;refine zB (zE zJ [1096] 1900 rfl ?_);refine zF ?_;refine yP _ _ (pA1) (bY _ _) ?_;refine zf (zA ?_);refine yK [3,4,5,6,9,10,13,14,59] [0,1,2,201,203,204,205,602,603] 1910 [] [(201,.mrow 43 10 (.map H1 obD ob0)),(204,.box 24 [.mo 201 H1.length])] ?_;refine⟨⟨yG,⟨SubO.mp rfl,⟨rfl,Sub.mo rfl,rfl,trivial⟩,yE⟩,rfl,rfl⟩,?_⟩;refine zE zJ [1099] 2000 rfl ?_;refine zF ?_;refine yP _ _ (pB1) (bY _ _) ?_;refine zf ?_;exact qI ⟨H1,w1⟩ ⟨yG,⟨SubO.mp rfl,SubO.mp rfl,⟨rfl,Sub.mo rfl,rfl,trivial⟩,⟨rfl,Sub.mo rfl,rfl,trivial⟩,yE⟩,rfl,rfl⟩
      ·
       refine zL ?_;exact qI ⟨x.H,x.rd.up (Nat.le_add_right _ _)⟩ ⟨yG,⟨SubO.mp rfl,SubO.mp rfl,⟨rfl,SubL.same rfl⟩,⟨rfl,SubL.same rfl⟩,yE⟩,rfl,rfl⟩
     ·refine yK [3,4,5,6,9,10,13,14,15,16,59] [0,1,2,201,203,204,205,602,603,1503] 1610 [] [(1503,.box 43 (obD (zU x.H v)))] ?_;refine⟨⟨yG,⟨⟨rfl,SubL.same rfl⟩,yE⟩,rfl,rfl⟩,?_⟩;refine zB (zE zJ [] 1700 rfl ?_);refine zF ?_;refine uZ (fun hz9=>by exfalso;revert hz9;simp;omega) (fun hz9=>?_);refine zF ?_;refine yN (.v (.bool false)) (fun hz9=>by exfalso;revert hz9;simp;omega) rfl ?_;refine zF ?_;refine zC (zA (zW rfl (fun c14=>?_) (fun c14=>?_)))
      ·have c14:(x.k:Int)=a9/\((zU x.H v).kind=2\/(zU x.H v).kind=4):=by
        have h9:=c14;simp only[Aj,Cl,Ao]at h9;refine⟨h9.1,?_⟩;rcases h9.2 with h9|h9
        ·exact .inl h9
        ·exact .inr h9.1
       refine zK 1800 ?_;refine zW rfl (fun c15=>?_) (fun c15=>?_)
       ·have c15:(zU x.H v).kind=2:=by simpa using c15
        obtain⟨R1,H1,pA1,pB1,w1⟩:=x.rd.ext c15;refine zB (zE zJ [1089] 1900 rfl ?_);refine zF ?_;refine yP _ _ (pA1.args ⟨u0 _,Sub.ofP (u6 _) rfl rfl,Sub.ofP (u18 rfl) rfl rfl,trivial⟩) (bY _ _) ?_;refine zf (zA ?_);refine yK [3,4,5,6,9,10,13,14,59] [0,1,2,201,203,204,205,602,603] 1910 [] [(201,.mrow 43 10 (.map H1 obD ob0)),(204,.box 24 [.mo 201 H1.length])] ?_;refine⟨⟨yG,⟨SubO.mp rfl,⟨rfl,Sub.mo rfl,rfl,trivial⟩,yE⟩,rfl,rfl⟩,?_⟩;refine zE zJ [1093] 2000 rfl ?_;refine zF ?_;refine yP _ _ (pB1.args ⟨u0 _,Sub.ofP (u6 _) rfl rfl,Sub.ofP (u18 rfl) rfl rfl,trivial⟩) (bY _ _) ?_;refine zf ?_;exact qI ⟨H1,w1⟩ ⟨yG,⟨SubO.mp rfl,SubO.mp rfl,⟨rfl,Sub.mo rfl,rfl,trivial⟩,⟨rfl,Sub.mo rfl,rfl,trivial⟩,yE⟩,rfl,rfl⟩
       ·have c15:(zU x.H v).kind=4:=by
         have h9:=c15;first|omega|(simp at h9;omega)
        first|omega|(simp at c15;omega)|(simp at c15)
      ·
       refine zL ?_;exact qI ⟨x.H,x.rd.up (Nat.le_add_right _ _)⟩ ⟨yG,⟨SubO.mp rfl,SubO.mp rfl,⟨rfl,SubL.same rfl⟩,⟨rfl,SubL.same rfl⟩,yE⟩,rfl,rfl⟩
    obtain⟨H1,w1⟩:=j;obtain⟨R2,H2,pA2,pB2,s2,w2,g2⟩:=w1.next;have hl2:=w2.hh.len;have hc2:=w2.co;have hcz:=Iz.coZ_le (show x.k<=9 by omega);have sk2:=mN0 (tA0 w2.g w2.hh) hl2 s2 om;refine zB (zX zJ [1101,1103] mK11 2300 yT kr rfl ?_);refine zF ?_;refine yP _ _ (pA2) (bY _ _) ?_;refine zF ?_;refine yP _ _ (pB2) (bY _ _) ?_;refine zf (zA (zB ?_));by_cases hG2:R2.k=2
    ·refine yK [3,4,5,6,9,10,13,14,17,18,59] [0,1,2,201,203,204,205,602,603,2204,2205] 2310 [] [(201,.mrow 43 10 (.map H2 obD ob0)),(203,.mrow 43 10 (.map H2 obD ob0)),(204,.box 24 [.mo 201 H2.length]),(205,.box 24 [.mo 203 H2.length]),(2204,.box 34 (stD R2)),(2205,.box 34 (stD R2))] ?_;refine⟨⟨yG,⟨SubO.mp rfl,SubO.mp rfl,⟨rfl,Sub.mo rfl,rfl,trivial⟩,⟨rfl,Sub.mo rfl,rfl,trivial⟩,⟨rfl,SubL.same rfl⟩,⟨rfl,SubL.same rfl⟩,yE⟩,rfl,rfl⟩,?_⟩;refine zB (zE zJ [] 2400 rfl ?_);refine zF ?_;refine uZ (fun hz9=>?_) (fun hz9=>by exfalso;revert hz9;simp;omega);refine zF ?_;refine jH0 _ (fun hz8=>jH H2 IT) rfl rfl ?_;refine zF ?_;refine zC (zA (zW rfl (fun c21=>?_) (fun c21=>?_)))
     ·have c21:R2.k=2/\(zU H2 IT).kind=17:=by simpa using c21
      have e2:=g2 c21.2;subst e2;refine zB (zE zJ [] 2500 rfl ?_);refine zF ?_;refine yN _ (fun hg7=>vV IT IT) rfl ?_;refine zf (zA (zM (zP (zR (zP (yS (zR (zP ?_))))))));exact u4 rfl (u7 (by simp[caI]))
     ·
      refine zL (zA ?_);refine zB (zE zJ [] 2500 rfl ?_);refine zF ?_;refine qC _ (((vO h H2 R2 H2 R2 hhl s2.i s2.i sk2 sk2).out (u7 (dN w2.ln)))) rfl rfl ?_;refine zF ?_;refine zC (zA (zY (fun c23=>?_) (fun c23=>?_)))
      ·
       simp at c23
      ·
       refine zL (zN (zA (yM zJ [] 2600 ?_)));exact zS (⟨x.k+1,by omega,H2,w2.up Iz.coZ_succ⟩:Iz.Lp h v IT m) ⟨⟨u21 (by push_cast;rfl),yG⟩,⟨SubO.mp rfl,SubO.mp rfl,⟨rfl,SubL.same rfl⟩,⟨rfl,SubL.same rfl⟩,yE⟩,rfl,rfl⟩ (by show 8-(x.k+1)<8-x.k;omega)
    ·refine yK [3,4,5,6,9,10,13,14,17,18,59] [0,1,2,201,203,204,205,602,603,2204,2205] 2310 [] [(201,.mrow 43 10 (.map H2 obD ob0)),(203,.mrow 43 10 (.map H2 obD ob0)),(204,.box 24 [.mo 201 H2.length]),(205,.box 24 [.mo 203 H2.length]),(2204,.box 34 (stD R2)),(2205,.box 34 (stD R2))] ?_;refine⟨⟨yG,⟨SubO.mp rfl,SubO.mp rfl,⟨rfl,Sub.mo rfl,rfl,trivial⟩,⟨rfl,Sub.mo rfl,rfl,trivial⟩,⟨rfl,SubL.same rfl⟩,⟨rfl,SubL.same rfl⟩,yE⟩,rfl,rfl⟩,?_⟩;refine zB (zE zJ [] 2400 rfl ?_);refine zF ?_;refine uZ (fun hz9=>by exfalso;revert hz9;simp;omega) (fun hz9=>?_);refine zF ?_;refine yN (.agg (obD ob0)) (fun hz9=>by exfalso;revert hz9;simp;omega) rfl ?_;refine zF ?_;refine zC (zA (zW rfl (fun c21=>?_) (fun c21=>?_)))
     ·
      first|omega|exact absurd c21.1 hG2|(simp at c21;omega)
     ·
      refine zL (zA ?_);refine zB (zE zJ [] 2500 rfl ?_);refine zF ?_;refine qC _ (((vO h H2 R2 H2 R2 hhl s2.i s2.i sk2 sk2).out (u7 (dN w2.ln)))) rfl rfl ?_;refine zF ?_;refine zC (zA (zY (fun c23=>?_) (fun c23=>?_)))
      ·
       simp at c23
      ·
       refine zL (zN (zA (yM zJ [] 2600 ?_)));exact zS (⟨x.k+1,by omega,H2,w2.up Iz.coZ_succ⟩:Iz.Lp h v IT m) ⟨⟨u21 (by push_cast;rfl),yG⟩,⟨SubO.mp rfl,SubO.mp rfl,⟨rfl,SubL.same rfl⟩,⟨rfl,SubL.same rfl⟩,yE⟩,rfl,rfl⟩ (by show 8-(x.k+1)<8-x.k;omega)
   ·
    refine yD (yA (yB (zZ (zA (zK 2700 ?_)))));refine zM ?_;exact u4 rfl (u6 _)
open Go.ChangeShapes Go.WideShapes Go.ChangeAt Go.RowKit Go.Deep
theorem dR0{H:Type}{d:DataW H}{l:List (DataW H)}(h:d∈l):Rows.uptoBulk d<=Rows.uptoBulkAll l:=by
 induction l with
 |nil=>cases h
 |cons x r ih=>
  simp only[Rows.uptoBulkAll]
  cases Bl.1 h with
  |inl e=>subst e;omega
  |inr e=>have:=ih e;omega
theorem bulk_one{H:Type}(d:DataW H):1<=Rows.uptoBulk d:=by
 cases d with
 |lit l=>cases l<;>simp[Rows.uptoBulk]
 |nil=>simp[Rows.uptoBulk]
 |ptr d=>simp[Rows.uptoBulk]
 |slice elems spare=>simp[Rows.uptoBulk]
 |agg parts=>simp[Rows.uptoBulk]
 |iface t d=>simp[Rows.uptoBulk]
 |map entries=>simp[Rows.uptoBulk]
 |held h=>simp[Rows.uptoBulk]
theorem bulk_length{H:Type}(l:List (DataW H)):l.length<=Rows.uptoBulkAll l:=by
 induction l with
 |nil=>simp[Rows.uptoBulkAll]
 |cons x r ih=>have:=bulk_one x;simp only[Rows.uptoBulkAll,An];omega
theorem qP{H:Type}{l:List (DataW H×List MemPlace)}{i:Nat}{y:DataW H×List MemPlace}(h:l[i]?=some y){n:Nat}(hn:Rows.uptoBulk (DataW.agg (l.map (·.1)))<=n):Rows.uptoBulk y.1<=n:=by
 have h1:y.1∈l.map (·.1):=Dc.2 ⟨y,Bi h,rfl⟩;have h2:=dR0 h1;simp only[Rows.uptoBulk]at hn;omega
def sW(W:World):Sb:=⟨fun b _=>b<W.heap.size,fun b _=>b<W.heap.size,fun _ _ h=>h⟩
def I64(x:Int):Prop:= -9223372036854775808<=x/\x<=9223372036854775807
theorem i64_wf{x:Int}(h:(Lit.int .i64 x).wf=true):I64 x:=by
 simp[Lit.wf]at h;have h1:IntKind.i64.min= -9223372036854775808:=by decide
 have h2:IntKind.i64.max=9223372036854775807:=by decide
 unfold I64;omega
theorem u32_wf{x:Int}(h:(Lit.int .u32 x).wf=true):0<=x/\x<4294967296:=by
 simp[Lit.wf]at h;have h1:IntKind.u32.min=0:=by decide
 have h2:IntKind.u32.max=4294967295:=by decide
 omega
def Opn{H:Type}(enc:TypeId×Value->H)(P:Program)(W:World)(t:TypeId){α:Type}(f:α->List D)(Q:α->Nat->Prop):Prop:=
 ∀(fuel:Nat)(cs:List Value)(d:DataW H)(ps:List MemPlace),cs.length=P.cellsOf t->DataW.trod enc P W 0 (fun _=>true) true fuel t cs=some (d,ps)->
  ∃x,AllV W (sW W) (D.pvs (f x)) cs/\(∀c∈cs,c.oneCell'=true)/\∀n,Rows.uptoBulk d<=n->Q x n
section
variable{H:Type}{enc:TypeId×Value->H}{P:Program}{W:World}
theorem dU{c:Value}(h:c.oneCell'=true):∀x∈[c],x.oneCell'=true:=fun x hx=>by rw[Bv]at hx;rw[hx];exact h
theorem Opn.int{t:TypeId}(ht:P.underlying t=some (.int .i64)):Opn enc P W t iD (fun x _=>I64 x):=by
 intro fuel cs d ps _ h;obtain⟨k,rfl,_,wf⟩:=DataW.trod_int ht h;exact⟨k,⟨rfl,trivial⟩,dU rfl,fun _ _=>i64_wf wf⟩
theorem Opn.u32{t:TypeId}(ht:P.underlying t=some (.int .u32)):Opn enc P W t uD (fun x _=>x<4294967296):=by
 intro fuel cs d ps _ h;obtain⟨k,rfl,_,wf⟩:=DataW.trod_int ht h;have h1:=u32_wf wf;refine⟨k.toNat,⟨?_,trivial⟩,dU rfl,fun _ _=>by omega⟩;show Value.int .u32 k= .int .u32 (k.toNat:Nat);rw[Int.toNat_of_nonneg h1.1]
theorem Opn.bool{t:TypeId}(ht:P.underlying t=some .bool):Opn enc P W t (fun b:Bool=>[.v (.bool b)]) (fun _ _=>True):=by
 intro fuel cs d ps _ h;obtain⟨k,rfl,_⟩:=DataW.trod_bool ht h;exact⟨k,⟨rfl,trivial⟩,dU rfl,fun _ _=>trivial⟩
theorem Opn.str{t:TypeId}(ht:P.underlying t=some .string):Opn enc P W t sD (fun s n=>s.size<=n):=by
 intro fuel cs d ps _ h;obtain⟨k,rfl,hx,_⟩:=DataW.trod_string ht h;refine⟨k,⟨rfl,trivial⟩,dU rfl,fun n hn=>?_⟩;simp only[Prod.mk.injEq]at hx;rw[hx.1]at hn;simp only[Rows.uptoBulk]at hn;have e:k.data.toList.length=k.size:=by rw[Eg];rfl
 omega
theorem Opn.sl{α:Type}{f:α->List D}{Q:α->Nat->Prop}{t e:TypeId}{sz:Nat}(e0:α)(ht:P.underlying t=some (.slice e))(hc:P.cellsOf e=sz)(hz:0<sz)(he:Opn enc P W e f Q):
  Opn enc P W t (fun l=>[.sl false sz l f e0]) (fun l n=>l.length<=n/\∀x∈l,Q x n):=by
 intro fuel cs d ps _ h;rcases open_slice ht h with⟨rfl,hx⟩|⟨a,len,cap,m,n,D',Pl,rfl,_,hl,hm,hmm,hx,hel⟩
 ·exact⟨[],⟨PV.sl_nil,trivial⟩,dU rfl,fun _ _=>⟨Ap _,fun x hx=>by cases hx⟩⟩
 ·simp only[if_true]at hmm;subst hmm;have hq:∀i,i<len->∃x:α,∃cs',W.cells? 0 (a.add (i*sz)) sz=some cs'/\AllV W (sW W) (D.pvs (f x)) cs'/\(∀c∈cs',c.oneCell'=true)/\∀n,Rows.uptoBulk (D' i)<=n->Q x n:=fun i hi=>by
   obtain⟨cs',h1,h2⟩:=hel i om;rw[hc]at h1;obtain⟨_,hlen,_⟩:=World.cells?_some h1;obtain⟨x,hx1,hx2,hx3⟩:=he n cs' (D' i) (Pl i) om h2;exact⟨x,cs',h1,hx1,hx2,hx3⟩
  obtain⟨g,hg⟩:∃g:Nat->α,∀i,i<len->∃cs',W.cells? 0 (a.add (i*sz)) sz=some cs'/\AllV W (sW W) (D.pvs (f (g i))) cs'/\(∀c∈cs',c.oneCell'=true)/\∀n,Rows.uptoBulk (D' i)<=n->Q (g i) n:=
   ⟨fun i=>if h:i<len then Classical.choose (hq i h)else e0,fun i hi=>by simp only[dif_pos hi];exact Classical.choose_spec (hq i hi)⟩
  have hrl:(((List.range len).map g).map fun a=>D.pvs (f a)).length=len:=by simp
  refine⟨(List.range len).map g,⟨⟨some a,m,?_,?_,?_,?_,?_⟩,trivial⟩,dU rfl,fun n hn=>?_⟩
  ·show Value.slice (some a) len m=Value.slice (some a) (((List.range len).map g).map fun a=>D.pvs (f a)).length m;rw[hrl]
  ·show(((List.range len).map g).map fun a=>D.pvs (f a)).length<=m;rw[hrl];exact hl
  ·have:maxLen=9223372036854775807:=by decide
   omega
  ·intro row hrow;have hrow:row∈((List.range len).map g).map fun a=>D.pvs (f a):=hrow;rw[Cp]at hrow;obtain⟨i,hi,rfl⟩:=Dc.1 hrow;obtain⟨cs',h1,h2,-⟩:=hg i (Ct.1 hi);have h3:=h2.length;obtain⟨_,h4,_⟩:=World.cells?_some h1;show(D.pvs (f (g i))).length=sz;omega
  ·intro i row hrow;have hrow:(((List.range len).map g).map fun a=>D.pvs (f a))[i]?=some row:=hrow;rw[Cp,Cc]at hrow;obtain⟨j,hj,rfl⟩:=Option.map_eq_some_iff.1 hrow;have hi:i<len:=by have:=(Am.1 hj).1;simpa using this
   rw[List.getElem?_range hi]at hj
   cases hj;obtain⟨cs',h1,h2,h3,-⟩:=hg i hi;obtain⟨_,h4,h5⟩:=World.cells?_some h1;obtain⟨b,off,spot⟩:=a
   cases spot with
   |some sp=>
    obtain⟨cs0,k1,-⟩:=hg 0 om;obtain⟨_,k4,k5⟩:=World.cells?_some k1;have h6:=k5 0 hz;rw[Ae om]at h6;have:=World.cell?_spot h6;simp[Addr.add]at this
   |none=>
    refine⟨b,off,rfl,fun j d hd=>?_⟩;obtain⟨v,hv,hp⟩:=h2.get hd;have hj:j<cs'.length:=(Am.1 hv).1;have h6:=h5 j om;rw[hv]at h6;have h7:W.cell? ⟨b,off+i*sz+j,none⟩=some v:=by rw[add_plain,add_plain]at h6;exact h6
    exact⟨v,h7,(World.block_lt_of_cell? _ _ h7:b<W.heap.size),hp,h3 v (Bi hv)⟩
  ·simp only[Prod.mk.injEq]at hx;rw[hx.1]at hn;simp only[Rows.uptoBulk]at hn;have h1:=bulk_length ((List.range len).map D');simp only[Ar,List.length_range]at h1;refine⟨by simp;omega,fun x hx=>?_⟩;obtain⟨i,hi,rfl⟩:=Dc.1 hx;obtain⟨cs',-,-,-,h4⟩:=hg i (Ct.1 hi);exact h4 n (by have:=dR0 (d:=D' i) (l:=(List.range len).map D') (Dc.2 ⟨i,hi,rfl⟩);omega)
end
theorem list5{α:Type}{l:List α}(h:l.length=5):∃c0 c1 c2 c3 c4,l=[c0,c1,c2,c3,c4]:=by
 match l,h with
 |[c0,c1,c2,c3,c4],_=>exact⟨c0,c1,c2,c3,c4,rfl⟩
theorem list7{α:Type}{l:List α}(h:l.length=7):∃c0 c1 c2 c3 c4 c5 c6,l=[c0,c1,c2,c3,c4,c5,c6]:=by
 match l,h with
 |[c0,c1,c2,c3,c4,c5,c6],_=>exact⟨c0,c1,c2,c3,c4,c5,c6,rfl⟩
theorem jY1{α:Type}{l:List α}(h:l.length=10):∃c0 c1 c2 c3 c4 c5 c6 c7 c8 c9,l=[c0,c1,c2,c3,c4,c5,c6,c7,c8,c9]:=by
 match l,h with
 |[c0,c1,c2,c3,c4,c5,c6,c7,c8,c9],_=>exact⟨c0,c1,c2,c3,c4,c5,c6,c7,c8,c9,rfl⟩
theorem jX{W:World}{s:Sb}{d:D}{c:Value}(h:AllV W s (D.pvs [d]) [c]):d.pv.p W s c:=h.1
section
variable{H:Type}{enc:TypeId×Value->H}{W:World}
def intD(p:Bool×List Nat):List D:=[.v (.bool p.1),usD p.2]
set_option maxRecDepth 100000 in
theorem Opn.bigI:Opn enc Tryz.prog W 27 intD (fun p n=>p.2.length<=n/\∀x∈p.2,x<4294967296):=by
 intro fuel cs d ps hl h;have e4:Tryz.prog.cellsOf 4=1:=by kernel_rfl
 have e22:Tryz.prog.cellsOf 25=1:=by kernel_rfl
 have eI:Tryz.prog.cellsOf 27=2:=by kernel_rfl
 rw[eI]at hl
 match cs,hl with
 |[c0,c1],_=>
  obtain⟨xs,n1,_,hx,_,hlen,hg⟩:=DataW.trod_struct Tryz.underlying27 h
  match xs,hlen with
  |[y0,y1],_=>
   have g0:DataW.trod enc Tryz.prog W 0 (fun _=>true) true n1 4 (([c0,c1].drop 0).take (Tryz.prog.cellsOf 4))=some y0:=hg 0 _ rfl;rw[e4]at g0
   replace g0:DataW.trod enc Tryz.prog W 0 (fun _=>true) true n1 4 [c0]=some y0:=g0
   have g1:DataW.trod enc Tryz.prog W 0 (fun _=>true) true n1 25 (([c0,c1].drop 1).take (Tryz.prog.cellsOf 25))=some y1:=hg 1 _ rfl;rw[e22]at g1
   replace g1:DataW.trod enc Tryz.prog W 0 (fun _=>true) true n1 25 [c1]=some y1:=g1
   obtain⟨x0,a0,o0,q0⟩:=Opn.bool Tryz.underlying4 _ _ y0.1 y0.2 (by rw[e4];rfl) g0;obtain⟨x1,a1,o1,q1⟩:=Opn.sl 0 Tryz.underlying25 (sz:=1) kr de (Opn.u32 Tryz.underlying100) _ _ y1.1 y1.2 (by rw[e22];rfl) g1;simp only[Prod.mk.injEq]at hx;refine⟨(x0,x1),⟨jX a0,jX a1,trivial⟩,fun c hc=>?_,fun n hn=>?_⟩
   ·simp only[Bl,List.not_mem_nil,or_false]at hc;rcases hc with rfl|rfl
    ·exact o0 _ (by simp)
    ·exact o1 _ (by simp)
   ·rw[hx.1]at hn;exact q1 n (qP (i:=1) (y:=y1) rfl hn)
set_option maxRecDepth 100000 in
theorem Opn.val:Opn enc Tryz.prog W 29 vlD (fun v n=>n<=1048576->VlIn v):=by
 intro fuel cs d ps hl h;have e3:Tryz.prog.cellsOf 3=1:=by kernel_rfl
 have e9:Tryz.prog.cellsOf 9=1:=by kernel_rfl
 have e24:Tryz.prog.cellsOf 27=2:=by kernel_rfl
 have eV:Tryz.prog.cellsOf 29=7:=by kernel_rfl
 rw[eV]at hl;obtain⟨c0,c1,c2,c3,c4,c5,c6,rfl⟩:=list7 hl;obtain⟨xs,n1,_,hx,_,hlen,hg⟩:=DataW.trod_struct Tryz.underlying29 h;obtain⟨y0,y1,y2,y3,y4,rfl⟩:=list5 hlen;have g0:DataW.trod enc Tryz.prog W 0 (fun _=>true) true n1 3 (([c0,c1,c2,c3,c4,c5,c6].drop 0).take (Tryz.prog.cellsOf 3))=some y0:=hg 0 _ rfl;rw[e3]at g0
 replace g0:DataW.trod enc Tryz.prog W 0 (fun _=>true) true n1 3 [c0]=some y0:=g0
 have g1:DataW.trod enc Tryz.prog W 0 (fun _=>true) true n1 27 (([c0,c1,c2,c3,c4,c5,c6].drop 1).take (Tryz.prog.cellsOf 27))=some y1:=hg 1 _ rfl;rw[e24]at g1
 replace g1:DataW.trod enc Tryz.prog W 0 (fun _=>true) true n1 27 [c1,c2]=some y1:=g1
 have g2:DataW.trod enc Tryz.prog W 0 (fun _=>true) true n1 27 (([c0,c1,c2,c3,c4,c5,c6].drop 3).take (Tryz.prog.cellsOf 27))=some y2:=hg 2 _ rfl;rw[e24]at g2
 replace g2:DataW.trod enc Tryz.prog W 0 (fun _=>true) true n1 27 [c3,c4]=some y2:=g2
 have g3:DataW.trod enc Tryz.prog W 0 (fun _=>true) true n1 9 (([c0,c1,c2,c3,c4,c5,c6].drop 5).take (Tryz.prog.cellsOf 9))=some y3:=hg 3 _ rfl;rw[e9]at g3
 replace g3:DataW.trod enc Tryz.prog W 0 (fun _=>true) true n1 9 [c5]=some y3:=g3
 have g4:DataW.trod enc Tryz.prog W 0 (fun _=>true) true n1 3 (([c0,c1,c2,c3,c4,c5,c6].drop 6).take (Tryz.prog.cellsOf 3))=some y4:=hg 4 _ rfl;rw[e3]at g4
 replace g4:DataW.trod enc Tryz.prog W 0 (fun _=>true) true n1 3 [c6]=some y4:=g4
 obtain⟨x0,a0,o0,q0⟩:=Opn.int Tryz.underlying3 _ _ y0.1 y0.2 (by rw[e3];rfl) g0;obtain⟨x1,a1,o1,q1⟩:=Opn.bigI _ _ y1.1 y1.2 (by rw[e24];rfl) g1;obtain⟨x2,a2,o2,q2⟩:=Opn.bigI _ _ y2.1 y2.2 (by rw[e24];rfl) g2;obtain⟨x3,a3,o3,q3⟩:=Opn.str Tryz.underlying9 _ _ y3.1 y3.2 (by rw[e9];rfl) g3;obtain⟨x4,a4,o4,q4⟩:=Opn.int Tryz.underlying3 _ _ y4.1 y4.2 (by rw[e3];rfl) g4;simp only[Prod.mk.injEq]at hx;refine⟨⟨x0,x1.1,x1.2,x2.1,x2.2,x3,x4⟩,⟨jX a0,a1.1,a1.2.1,a2.1,a2.2.1,jX a3,jX a4,trivial⟩,fun c hc=>?_,fun n hn hn2=>?_⟩
 ·simp only[Bl,List.not_mem_nil,or_false]at hc;rcases hc with rfl|rfl|rfl|rfl|rfl|rfl|rfl
  ·exact o0 _ (by simp)
  ·exact o1 _ (by simp)
  ·exact o1 _ (by simp)
  ·exact o2 _ (by simp)
  ·exact o2 _ (by simp)
  ·exact o3 _ (by simp)
  ·exact o4 _ (by simp)
 ·rw[hx.1]at hn;have b0:=q0 n (qP (i:=0) (y:=y0) rfl hn);have b1:=q1 n (qP (i:=1) (y:=y1) rfl hn);have b2:=q2 n (qP (i:=2) (y:=y2) rfl hn);have b3:=q3 n (qP (i:=3) (y:=y3) rfl hn);have b4:=q4 n (qP (i:=4) (y:=y4) rfl hn);exact⟨b0.1,b0.2,b4.1,b4.2,b1.2,b2.2,by show x1.2.length<=_;omega,by show x2.2.length<=_;omega,by show x3.size<=_;omega⟩
set_option maxRecDepth 100000 in
theorem Opn.obj:Opn enc Tryz.prog W 43 obD (fun o n=>n<=1048576->ObIn o):=by
 intro fuel cs d ps hl h;have e3:Tryz.prog.cellsOf 3=1:=by kernel_rfl
 have e9:Tryz.prog.cellsOf 9=1:=by kernel_rfl
 have eI:Tryz.prog.cellsOf 40=1:=by kernel_rfl
 have eS:Tryz.prog.cellsOf 41=1:=by kernel_rfl
 have eV:Tryz.prog.cellsOf 32=1:=by kernel_rfl
 have eO:Tryz.prog.cellsOf 43=10:=by kernel_rfl
 rw[eO]at hl;obtain⟨c0,c1,c2,c3,c4,c5,c6,c7,c8,c9,rfl⟩:=jY1 hl;obtain⟨xs,n1,_,hx,_,hlen,hg⟩:=DataW.trod_struct Tryz.underlying43 h;obtain⟨y0,y1,y2,y3,y4,y5,y6,y7,y8,y9,rfl⟩:=jY1 hlen;have g0:DataW.trod enc Tryz.prog W 0 (fun _=>true) true n1 3 (([c0,c1,c2,c3,c4,c5,c6,c7,c8,c9].drop 0).take (Tryz.prog.cellsOf 3))=some y0:=hg 0 _ rfl;rw[e3]at g0
 replace g0:DataW.trod enc Tryz.prog W 0 (fun _=>true) true n1 3 [c0]=some y0:=g0
 have g1:DataW.trod enc Tryz.prog W 0 (fun _=>true) true n1 9 (([c0,c1,c2,c3,c4,c5,c6,c7,c8,c9].drop 1).take (Tryz.prog.cellsOf 9))=some y1:=hg 1 _ rfl;rw[e9]at g1
 replace g1:DataW.trod enc Tryz.prog W 0 (fun _=>true) true n1 9 [c1]=some y1:=g1
 have g2:DataW.trod enc Tryz.prog W 0 (fun _=>true) true n1 3 (([c0,c1,c2,c3,c4,c5,c6,c7,c8,c9].drop 2).take (Tryz.prog.cellsOf 3))=some y2:=hg 2 _ rfl;rw[e3]at g2
 replace g2:DataW.trod enc Tryz.prog W 0 (fun _=>true) true n1 3 [c2]=some y2:=g2
 have g3:DataW.trod enc Tryz.prog W 0 (fun _=>true) true n1 40 (([c0,c1,c2,c3,c4,c5,c6,c7,c8,c9].drop 3).take (Tryz.prog.cellsOf 40))=some y3:=hg 3 _ rfl;rw[eI]at g3
 replace g3:DataW.trod enc Tryz.prog W 0 (fun _=>true) true n1 40 [c3]=some y3:=g3
 have g4:DataW.trod enc Tryz.prog W 0 (fun _=>true) true n1 40 (([c0,c1,c2,c3,c4,c5,c6,c7,c8,c9].drop 4).take (Tryz.prog.cellsOf 40))=some y4:=hg 4 _ rfl;rw[eI]at g4
 replace g4:DataW.trod enc Tryz.prog W 0 (fun _=>true) true n1 40 [c4]=some y4:=g4
 have g5:DataW.trod enc Tryz.prog W 0 (fun _=>true) true n1 41 (([c0,c1,c2,c3,c4,c5,c6,c7,c8,c9].drop 5).take (Tryz.prog.cellsOf 41))=some y5:=hg 5 _ rfl;rw[eS]at g5
 replace g5:DataW.trod enc Tryz.prog W 0 (fun _=>true) true n1 41 [c5]=some y5:=g5
 have g6:DataW.trod enc Tryz.prog W 0 (fun _=>true) true n1 32 (([c0,c1,c2,c3,c4,c5,c6,c7,c8,c9].drop 6).take (Tryz.prog.cellsOf 32))=some y6:=hg 6 _ rfl;rw[eV]at g6
 replace g6:DataW.trod enc Tryz.prog W 0 (fun _=>true) true n1 32 [c6]=some y6:=g6
 have g7:DataW.trod enc Tryz.prog W 0 (fun _=>true) true n1 32 (([c0,c1,c2,c3,c4,c5,c6,c7,c8,c9].drop 7).take (Tryz.prog.cellsOf 32))=some y7:=hg 7 _ rfl;rw[eV]at g7
 replace g7:DataW.trod enc Tryz.prog W 0 (fun _=>true) true n1 32 [c7]=some y7:=g7
 have g8:DataW.trod enc Tryz.prog W 0 (fun _=>true) true n1 3 (([c0,c1,c2,c3,c4,c5,c6,c7,c8,c9].drop 8).take (Tryz.prog.cellsOf 3))=some y8:=hg 8 _ rfl;rw[e3]at g8
 replace g8:DataW.trod enc Tryz.prog W 0 (fun _=>true) true n1 3 [c8]=some y8:=g8
 have g9:DataW.trod enc Tryz.prog W 0 (fun _=>true) true n1 3 (([c0,c1,c2,c3,c4,c5,c6,c7,c8,c9].drop 9).take (Tryz.prog.cellsOf 3))=some y9:=hg 9 _ rfl;rw[e3]at g9
 replace g9:DataW.trod enc Tryz.prog W 0 (fun _=>true) true n1 3 [c9]=some y9:=g9
 obtain⟨x0,a0,o0,q0⟩:=Opn.int Tryz.underlying3 _ _ y0.1 y0.2 (by rw[e3];rfl) g0;obtain⟨x1,a1,o1,q1⟩:=Opn.str Tryz.underlying9 _ _ y1.1 y1.2 (by rw[e9];rfl) g1;obtain⟨x2,a2,o2,q2⟩:=Opn.int Tryz.underlying3 _ _ y2.1 y2.2 (by rw[e3];rfl) g2;obtain⟨x3,a3,o3,q3⟩:=Opn.sl 0 Tryz.underlying40 (sz:=1) kr de (Opn.int Tryz.underlying3) _ _ y3.1 y3.2 (by rw[eI];rfl) g3;obtain⟨x4,a4,o4,q4⟩:=Opn.sl 0 Tryz.underlying40 (sz:=1) kr de (Opn.int Tryz.underlying3) _ _ y4.1 y4.2 (by rw[eI];rfl) g4;obtain⟨x5,a5,o5,q5⟩:=Opn.sl ByteArray.empty Tryz.underlying41 (sz:=1) kr de (Opn.str Tryz.underlying9) _ _ y5.1 y5.2 (by rw[eS];rfl) g5;obtain⟨x6,a6,o6,q6⟩:=Opn.sl vl0 Tryz.underlying32 (sz:=7) kr de Opn.val _ _ y6.1 y6.2 (by rw[eV];rfl) g6;obtain⟨x7,a7,o7,q7⟩:=Opn.sl vl0 Tryz.underlying32 (sz:=7) kr de Opn.val _ _ y7.1 y7.2 (by rw[eV];rfl) g7;obtain⟨x8,a8,o8,q8⟩:=Opn.int Tryz.underlying3 _ _ y8.1 y8.2 (by rw[e3];rfl) g8;obtain⟨x9,a9,o9,q9⟩:=Opn.int Tryz.underlying3 _ _ y9.1 y9.2 (by rw[e3];rfl) g9;simp only[Prod.mk.injEq]at hx;refine⟨⟨x0,x1,x2,x3,x4,x5,x6,x7,x8,x9⟩,⟨jX a0,jX a1,jX a2,jX a3,jX a4,jX a5,jX a6,jX a7,jX a8,jX a9,trivial⟩,fun c hc=>?_,fun n hn hn2=>?_⟩
 ·simp only[Bl,List.not_mem_nil,or_false]at hc;rcases hc with rfl|rfl|rfl|rfl|rfl|rfl|rfl|rfl|rfl|rfl
  ·exact o0 _ (by simp)
  ·exact o1 _ (by simp)
  ·exact o2 _ (by simp)
  ·exact o3 _ (by simp)
  ·exact o4 _ (by simp)
  ·exact o5 _ (by simp)
  ·exact o6 _ (by simp)
  ·exact o7 _ (by simp)
  ·exact o8 _ (by simp)
  ·exact o9 _ (by simp)
 ·rw[hx.1]at hn;have b0:=q0 n (qP (i:=0) (y:=y0) rfl hn);have b1:=q1 n (qP (i:=1) (y:=y1) rfl hn);have b2:=q2 n (qP (i:=2) (y:=y2) rfl hn);have b3:=q3 n (qP (i:=3) (y:=y3) rfl hn);have b4:=q4 n (qP (i:=4) (y:=y4) rfl hn);have b5:=q5 n (qP (i:=5) (y:=y5) rfl hn);have b6:=q6 n (qP (i:=6) (y:=y6) rfl hn);have b7:=q7 n (qP (i:=7) (y:=y7) rfl hn);have b8:=q8 n (qP (i:=8) (y:=y8) rfl hn);have b9:=q9 n (qP (i:=9) (y:=y9) rfl hn)
  exact⟨b0,b2,b8,b9,by show x1.size<=_;omega,by show x3.length<=_;omega,by show x4.length<=_;omega,by show x5.length<=_;omega,by show x6.length<=_;omega,by show x7.length<=_;omega,
   fun s hs=>by have:=b5.2 s hs;omega,fun v hv=>b6.2 v hv hn2,fun v hv=>b7.2 v hv hn2⟩
def hpL(h:List Ob):List D:=[.sl false 10 h obD ob0]
set_option maxRecDepth 100000 in
theorem Opn.heap:Opn enc Tryz.prog W 24 hpL (fun h n=>n<=1048576->HpIn h):=by
 intro fuel cs d ps hl h;have eH:Tryz.prog.cellsOf 24=1:=by kernel_rfl
 have eO:Tryz.prog.cellsOf 22=1:=by kernel_rfl
 rw[eH]at hl
 match cs,hl with
 |[c0],_=>
  obtain⟨xs,n1,_,hx,_,hlen,hg⟩:=DataW.trod_struct Tryz.underlying24 h
  match xs,hlen with
  |[y0],_=>
   have g0:DataW.trod enc Tryz.prog W 0 (fun _=>true) true n1 22 (([c0].drop 0).take (Tryz.prog.cellsOf 22))=some y0:=hg 0 _ rfl;rw[eO]at g0
   replace g0:DataW.trod enc Tryz.prog W 0 (fun _=>true) true n1 22 [c0]=some y0:=g0
   obtain⟨x0,a0,o0,q0⟩:=Opn.sl ob0 Tryz.underlying22 (sz:=10) kr de Opn.obj _ _ y0.1 y0.2 (by rw[eO];rfl) g0;simp only[Prod.mk.injEq]at hx;refine⟨x0,a0,o0,fun n hn hn2=>?_⟩;rw[hx.1]at hn;have b0:=q0 n (qP (i:=0) (y:=y0) rfl hn);exact⟨fun o ho=>b0.2 o ho hn2,by omega⟩
theorem Opn.agg{P:Program}{α:Type}{f:α->List D}{Q:α->Nat->Prop}{t:TypeId}{fs:Array Field}{base:Nat}(ho:Opn enc P W t f Q)(ht:P.underlying t=some (.struct fs)){v:Value}{d:DataW H}{ps:List MemPlace}
  (hv:Value.okWide P W .any base t v) (h:DataW.Trod enc P W 0 (fun _=>true) true t v d ps):
  ∃x,(D.agg (f x)).pv.p W (sW W) v/\∀n,Rows.uptoBulk d<=n->Q x n:=by
 obtain⟨cs,rfl,hsz⟩:=okWide_struct ht hv;obtain⟨l⟩:=cs;obtain⟨fuel,hf⟩:=h;obtain⟨x,h1,-,h3⟩:=ho fuel l d ps hsz hf;exact⟨x,⟨l,rfl,h1⟩,h3⟩
end
theorem fits_of_wf{x:Int}(h:(Lit.int .i64 x).wf=true):Fits x:=by
 simp[Lit.wf]at h;have h1:IntKind.i64.min= -9223372036854775808:=by decide
 have h2:IntKind.i64.max=9223372036854775807:=by decide
 unfold Fits;omega
theorem Int_open{H:Type}{enc:TypeId×Value->H}{P:Program}{W:World}{base:Nat}{t:TypeId}{v:Value}{d:DataW H}{ps:List MemPlace}
  (ht:P.underlying t=some (.int .i64)) (hv:Value.okWide P W .any base t v) (h:DataW.Trod enc P W 0 (fun _=>true) true t v d ps):
  ∃x,v= .int .i64 x/\Fits x:=by
 obtain⟨x,rfl,_,_,hw⟩:=open_int ht hv h;exact⟨x,rfl,fits_of_wf hw⟩
open Go.ChangeShapes Go.WideShapes Go.ChangeAt Go.RowKit
theorem pZ{H:Type}{enc:TypeId×Value->H}{P:Program}(hl:laidOutB P=true){W W':World}(hb:Below W.heap.size W W'):
  ∀(ts:List TypeId)(vs:List Value)(ds:List (DataW H))(ps:List MemPlace),(∀t∈ts,P.readableRec t=true/\t<P.types.size)->
   DataW.TrodAll enc P W 0 (fun _=>true) true ts vs ds ps->DataW.TrodAll enc P W' 0 (fun b=>decide (b<W.heap.size)) true ts vs ds ps
 |[],[],[],ps,_,h=>h
 |t::ts,v::vs,d::ds,ps,hr,h=>by
  obtain⟨p,q,hp,hq,e⟩:=h;have lt:∀x∈p,x.block<W.heap.size:=by obtain⟨m,hm⟩:=hp;exact DataW.trod_lt m _ _ _ hm
  have ht:=hr t (by simp);exact⟨p,q,Below.trod hl ht.1 ht.2 hp hb lt,pZ hl hb ts vs ds q (fun x hx=>hr x (by simp[hx])) hq,e⟩
 |[],[],_::_,_,_,h=>by simp[DataW.TrodAll]at h
 |[],_::_,_,_,_,h=>by simp[DataW.TrodAll]at h
 |_::_,[],_,_,_,h=>by simp[DataW.TrodAll]at h
 |_::_,_::_,[],_,_,h=>by simp[DataW.TrodAll]at h
open Go.ChangeShapes Go.WideShapes Go.ChangeAt Go.RowKit Go.Shelf
theorem Law_own:ownKnob Tryz.prog.godebug=none:=by kernel_rfl
theorem accept_same:(Rows.laid_unicode_utf8_acceptRanges:DataW Unit)=Lib.acceptData:=by kernel_rfl
theorem first_same:(Rows.laid_unicode_utf8_first:DataW Unit)=Lib.firstData:=by kernel_rfl
theorem space_same:(Rows.laid_strings_asciiSpace:DataW Unit)=Lib.tabData .u8 Lib.asciiSpaceTab:=by kernel_rfl
theorem pow_same:(Rows.laid_internal_strconv_uint64pow10:DataW Unit)=Lib.tabData .u64 Lib.pow10Tab:=by kernel_rfl
theorem cF0{W:World}(hL:laidMetH Tryz.prog Rows.iterationMatchesSpecUptoRow.laid W):Lib.TabIs Tryz.prog W "internal/strconv.uint64pow10" .u64 Lib.pow10Tab:=by
 have h5:Lib.VarReads Tryz.prog W "internal/strconv.uint64pow10" Rows.laid_internal_strconv_uint64pow10:=Lib.laidMet.reads hL (.tail _ (.tail _ (.head _)));rw[pow_same]at h5;obtain⟨g,t,cs,fuel,p,hg,hty,hvar,hd⟩:=h5;obtain rfl:=Option.some.inj ((show Tryz.prog.globalNamed "internal/strconv.uint64pow10" =some 5 by kernel_rfl).symm.trans hg);obtain rfl:=Option.some.inj ((show(Tryz.prog.globals[5]?).map (·.type)=some 265 by kernel_rfl).symm.trans hty);have:=Lib.cells_of_tab Tryz.underlying265 Tryz.underlying101 kr kr hd;unfold Lib.TabIs;rw[hvar,<-this]
theorem Law_z{W:World}(hL:laidMetH Tryz.prog Rows.iterationMatchesSpecUptoRow.laid W)(o:Nat)(ho:20<=o):W.cell? ⟨5,o,none⟩=none/\sW W 5 o:=by
 have h:=cF0 hL;have hg:Tryz.prog.globalNamed "internal/strconv.uint64pow10" =some 5:=by kernel_rfl
 refine⟨?_,?_⟩
 ·rw[World.var?_cell hg h o,Dt];exact Dq (by rw[Ar,Lib.pow10Tab_length];exact ho)
 ·exact World.block_lt_of_cell? _ _ (h.cell hg 0 (by rw[Lib.pow10Tab_length];decide))
theorem tab_p16{W:World}(hL:laidMetH Tryz.prog Rows.iterationMatchesSpecUptoRow.laid W):Lib.TabSlice 6 .u16 Lib.goPrintTabs.p16 W:=
 Lib.tabSlice_of_reads (name:= "strconv.isPrint16") (t:=268) (e:=221) kr kr Tryz.underlying268 Tryz.underlying221 kr (by decide+kernel) (by
  have h:Lib.VarReads Tryz.prog W "strconv.isPrint16" Rows.laid_strconv_isPrint16:=Lib.laidMet.reads hL (.tail _ (.tail _ (.tail _ (.tail _ (.tail _ (.tail _ (.tail _ (.tail _ (.tail _ (.head _))))))))))
  rwa[show(Rows.laid_strconv_isPrint16:DataW Unit)=Lib.sliceData .u16 Lib.goPrintTabs.p16 from Go.Pinned.isPrint16_eq]at h)
theorem tab_n16{W:World}(hL:laidMetH Tryz.prog Rows.iterationMatchesSpecUptoRow.laid W):Lib.TabSlice 7 .u16 Lib.goPrintTabs.n16 W:=
 Lib.tabSlice_of_reads (name:= "strconv.isNotPrint16") (t:=268) (e:=221) kr kr Tryz.underlying268 Tryz.underlying221 kr (by decide+kernel) (by
  have h:Lib.VarReads Tryz.prog W "strconv.isNotPrint16" Rows.laid_strconv_isNotPrint16:=Lib.laidMet.reads hL (.tail _ (.tail _ (.tail _ (.tail _ (.tail _ (.tail _ (.tail _ (.head _))))))))
  rwa[show(Rows.laid_strconv_isNotPrint16:DataW Unit)=Lib.sliceData .u16 Lib.goPrintTabs.n16 from Go.Pinned.isNotPrint16_eq]at h)
theorem tab_p32{W:World}(hL:laidMetH Tryz.prog Rows.iterationMatchesSpecUptoRow.laid W):Lib.TabSlice 8 .u32 Lib.goPrintTabs.p32 W:=
 Lib.tabSlice_of_reads (name:= "strconv.isPrint32") (t:=25) (e:=100) kr kr Tryz.underlying25 Tryz.underlying100 kr (by decide+kernel) (by
  have h:Lib.VarReads Tryz.prog W "strconv.isPrint32" Rows.laid_strconv_isPrint32:=Lib.laidMet.reads hL (.tail _ (.tail _ (.tail _ (.tail _ (.tail _ (.tail _ (.tail _ (.tail _ (.tail _ (.tail _ (.head _)))))))))))
  rwa[show(Rows.laid_strconv_isPrint32:DataW Unit)=Lib.sliceData .u32 Lib.goPrintTabs.p32 from Go.Pinned.isPrint32_eq]at h)
theorem tab_n32{W:World}(hL:laidMetH Tryz.prog Rows.iterationMatchesSpecUptoRow.laid W):Lib.TabSlice 9 .u16 Lib.goPrintTabs.n32 W:=
 Lib.tabSlice_of_reads (name:= "strconv.isNotPrint32") (t:=268) (e:=221) kr kr Tryz.underlying268 Tryz.underlying221 kr (by decide+kernel) (by
  have h:Lib.VarReads Tryz.prog W "strconv.isNotPrint32" Rows.laid_strconv_isNotPrint32:=Lib.laidMet.reads hL (.tail _ (.tail _ (.tail _ (.tail _ (.tail _ (.tail _ (.tail _ (.tail _ (.head _)))))))))
  rwa[show(Rows.laid_strconv_isNotPrint32:DataW Unit)=Lib.sliceData .u16 Lib.goPrintTabs.n32 from Go.Pinned.isNotPrint32_eq]at h)
def pK0:List (DataW Unit)->List Value
 |[]=>[]
 | .lit (.int k n)::l=> .int k n::pK0 l
 |_::l=>undef::pK0 l
def qW1:DataW Unit->Array Value
 | .agg l=>(pK0 l).toArray
 | .slice l _=>(pK0 l).toArray
 |_=> #[]
theorem Law_glob{W:World}(hL:laidMetH Tryz.prog Rows.iterationMatchesSpecUptoRow.laid W)(hs:W.ShapedOpen Tryz.prog):Glb W (sW W):=by
 have h3:Lib.VarReads Tryz.prog W "unicode/utf8.first" Rows.laid_unicode_utf8_first:=Lib.laidMet.reads hL (.tail _ (.tail _ (.tail _ (.tail _ (.tail _ (.tail _ (.tail _ (.tail _ (.tail _ (.tail _ (.tail _ (.head _))))))))))));have h4:Lib.VarReads Tryz.prog W "unicode/utf8.acceptRanges" Rows.laid_unicode_utf8_acceptRanges:=Lib.laidMet.reads hL (.tail _ (.tail _ (.tail _ (.head _))));have h5:Lib.VarReads Tryz.prog W "strings.asciiSpace" Rows.laid_strings_asciiSpace:=Lib.laidMet.reads hL (.tail _ (.tail _ (.tail _ (.tail _ (.tail _ (.head _))))));rw[first_same]at h3;rw[accept_same]at h4;rw[space_same]at h5;have hT:Lib.Utf8Tabs 1 2 W:=utf8Tabs_of_readsT (U8Types.of196 Tryz.laysValid) ⟨by kernel_rfl,by kernel_rfl,by kernel_rfl,by kernel_rfl,by kernel_rfl,by kernel_rfl,by kernel_rfl⟩ h3 h4;have hS:Lib.TabIs Tryz.prog W "strings.asciiSpace" .u8 Lib.asciiSpaceTab:=by
  obtain⟨g,t,cs,fuel,p,hg,hty,hvar,hd⟩:=h5;obtain rfl:=Option.some.inj ((show Tryz.prog.globalNamed "strings.asciiSpace" =some 0 by kernel_rfl).symm.trans hg);obtain rfl:=Option.some.inj ((show(Tryz.prog.globals[0]?).map (·.type)=some 172 by kernel_rfl).symm.trans hty);have:=Lib.cells_of_tab Tryz.underlying172 Tryz.underlying5 kr kr hd;unfold Lib.TabIs;rw[hvar,<-this]
 have hM:=Go.Proofs.cell_of_shapedOpen_int (g:=4) (t:=3) (zero:= #[.int .i64 0]) hs (Ag kr) kr rfl kr kr Tryz.underlying3;refine⟨fun b o=>W.cell? ⟨b,o,none⟩,⟨hM,fun c hc=>hT.1 c hc,fun i hi=>hT.2 i hi,fun c hc=>?_,fun i hi=>(cF0 hL).cell kr i (by rw[Lib.pow10Tab_length];exact hi),tab_p16 hL,tab_n16 hL,tab_p32 hL,tab_n32 hL⟩,fun b o v hv=>⟨hv,World.block_lt_of_cell? _ _ hv⟩,fun b o h=>by cases h with|pow10 o ho=>exact Law_z hL _ ho⟩;show W.cell? ⟨0,c,none⟩=_;rw[hS.cell kr c (by rw[Lib.asciiSpaceTab_length];exact hc),Lib.asciiSpaceTab_at c hc]
noncomputable def Law_world (os:Os):World:=
 let N:=(World.settled Tryz.prog os).heap.size
 let w0:=World.holding Tryz.prog os ⟨#[.cells (Lib.whiteT.map fun(z:Nat)=>Value.int .u16 (z:Int)).toArray 223,.cells #[.slice (some ⟨N,0,none⟩) 7 7,.slice none 0 0,.int .i64 2] 220,.cells (qW1 Rows.laid_strconv_isGraphic) 221,.cells (Lib.intCellsOf .u16 Lib.goPrintTabs.n16) 221,.cells (Lib.intCellsOf .u16 Lib.goPrintTabs.n32) 221,.cells (Lib.intCellsOf .u16 Lib.goPrintTabs.p16) 221,.cells (Lib.intCellsOf .u32 Lib.goPrintTabs.p32) 100],#[],[]⟩
 let put (h:Array Obj) (g:Nat) (cs:Array Value):Array Obj:=h.modify g fun
  | .cells _ t frozen=> .cells cs t frozen
  |o=>o
 let h1:=put w0.heap 0 (Lib.asciiSpaceTab.map fun z=>Value.int .u8 z).toArray
 let h2:=put h1 1 (Lib.firstTab.map fun z=>Value.int .u8 z).toArray
 let h3:=put h2 2 ((List.range 16).flatMap fun i=>[Value.int .u8 (Lib.accLo i),Value.int .u8 (Lib.accHi i)]).toArray
 let h4:=put h3 3 #[.pointer (some ⟨N+1,0,none⟩)]
 let h5:=put h4 11 (qW1 Rows.laid_math_bits_deBruijn32tab)
 let h6:=put h5 12 (qW1 Rows.laid_math_bits_deBruijn64tab)
 let h7:=put h6 5 (qW1 Rows.laid_internal_strconv_uint64pow10)
 let h8:=put h7 10 #[.slice (some ⟨N+2,0,none⟩) 16 16]
 let h9:=put h8 7 #[.slice (some ⟨N+3,0,none⟩) Lib.goPrintTabs.n16.length Lib.goPrintTabs.n16.length]
 let h10:=put h9 9 #[.slice (some ⟨N+4,0,none⟩) Lib.goPrintTabs.n32.length Lib.goPrintTabs.n32.length]
 let h11:=put h10 6 #[.slice (some ⟨N+5,0,none⟩) Lib.goPrintTabs.p16.length Lib.goPrintTabs.p16.length]
 let h12:=put h11 8 #[.slice (some ⟨N+6,0,none⟩) Lib.goPrintTabs.p32.length Lib.goPrintTabs.p32.length]
 {w0 with heap:=h12}
def Law_arg:Array Value:= #[.agg #[.slice none 0 0],.agg #[.int .i64 0,.bool false,.slice none 0 0,.bool false,.slice none 0 0,.string ⟨#[]⟩,.int .i64 0],.agg #[.int .i64 0,.bool false,.slice none 0 0,.bool false,.slice none 0 0,.string ⟨#[]⟩,.int .i64 0],.int .i64 0]
noncomputable abbrev N0:Nat:=(World.settled Tryz.prog default).heap.size
theorem Law_pc0(os:Os):LaidIn Tryz.prog ((Law_world os).forCall (fun _ _=>0) ⟨#[],Law_arg,[]⟩).memory ((Rows.iterationMatchesSpecUptoRow.laid.drop 0).take 7) [11,12,5,2,3,N0,N0+1,0,10,N0+2]:=
 LaidIn.of_run [11,12,5,2,3,N0,N0+1,0,10,N0+2] 10 kr kr kr kr
set_option maxRecDepth 1000000 in
theorem Law_pc1(os:Os):LaidIn Tryz.prog ((Law_world os).forCall (fun _ _=>0) ⟨#[],Law_arg,[]⟩).memory [("strconv.isNotPrint16",Rows.laid_strconv_isNotPrint16)] [7,N0+3]:=by
 rw[show(Rows.laid_strconv_isNotPrint16:DataW Unit)=Lib.sliceData .u16 Lib.goPrintTabs.n16 from Go.Pinned.isNotPrint16_eq];exact Lib.laidIn_slice (t:=268) (e:=221) (te:=221) Lib.goPrintTabs.n16 (N0+3) kr kr kr kr kr kr kr kr (Ag kr) (Ag kr)
set_option maxRecDepth 1000000 in
theorem Law_pc2(os:Os):LaidIn Tryz.prog ((Law_world os).forCall (fun _ _=>0) ⟨#[],Law_arg,[]⟩).memory [("strconv.isNotPrint32",Rows.laid_strconv_isNotPrint32)] [9,N0+4]:=by
 rw[show(Rows.laid_strconv_isNotPrint32:DataW Unit)=Lib.sliceData .u16 Lib.goPrintTabs.n32 from Go.Pinned.isNotPrint32_eq];exact Lib.laidIn_slice (t:=268) (e:=221) (te:=221) Lib.goPrintTabs.n32 (N0+4) kr kr kr kr kr kr kr kr (Ag kr) (Ag kr)
set_option maxRecDepth 1000000 in
theorem Law_pc3(os:Os):LaidIn Tryz.prog ((Law_world os).forCall (fun _ _=>0) ⟨#[],Law_arg,[]⟩).memory [("strconv.isPrint16",Rows.laid_strconv_isPrint16)] [6,N0+5]:=by
 rw[show(Rows.laid_strconv_isPrint16:DataW Unit)=Lib.sliceData .u16 Lib.goPrintTabs.p16 from Go.Pinned.isPrint16_eq];exact Lib.laidIn_slice (t:=268) (e:=221) (te:=221) Lib.goPrintTabs.p16 (N0+5) kr kr kr kr kr kr kr kr (Ag kr) (Ag kr)
set_option maxRecDepth 1000000 in
theorem Law_pc4(os:Os):LaidIn Tryz.prog ((Law_world os).forCall (fun _ _=>0) ⟨#[],Law_arg,[]⟩).memory [("strconv.isPrint32",Rows.laid_strconv_isPrint32)] [8,N0+6]:=by
 rw[show(Rows.laid_strconv_isPrint32:DataW Unit)=Lib.sliceData .u32 Lib.goPrintTabs.p32 from Go.Pinned.isPrint32_eq];exact Lib.laidIn_slice (t:=25) (e:=100) (te:=100) Lib.goPrintTabs.p32 (N0+6) kr kr kr kr kr kr kr kr (Ag kr) (Ag kr)
theorem Law_pc5(os:Os):LaidIn Tryz.prog ((Law_world os).forCall (fun _ _=>0) ⟨#[],Law_arg,[]⟩).memory ((Rows.iterationMatchesSpecUptoRow.laid.drop 11).take 1) [1]:=
 LaidIn.of_run [1] 10 kr kr kr kr
theorem Law_met(os:Os):laidMet Tryz.prog Rows.iterationMatchesSpecUptoRow.laid ((Law_world os).forCall (fun _ _=>0) ⟨#[],Law_arg,[]⟩).memory:=
 ((((((Law_pc0 os).append (Law_pc1 os) kr).append (Law_pc2 os) kr).append (Law_pc3 os) kr).append (Law_pc4 os) kr).append (Law_pc5 os) kr).met
theorem Law_row(os:Os){H:Type}(enc:TypeId×Value->H):
  (Rows.OpenSpec.upto Rows.iterationMatchesSpecSpec).preRow enc Tryz.prog Tryz.f3 Rows.iterationMatchesSpecUptoRow.domain false Rows.iterationMatchesSpecUptoRow.laid ((Law_world os).forCall (fun _ _=>0) ⟨#[],Law_arg,[]⟩).memory Law_arg:=by
 have hw:(DataW.whole enc Tryz.prog ((Law_world os).forCall (fun _ _=>0) ⟨#[],Law_arg,[]⟩).memory Tryz.f3.params.toList Rows.iterationMatchesSpecSpec.vars false Law_arg.toList 8).map (fun x=>(x.1,x.2.1))=
   some ([.agg [.nil],.agg [.lit (.int .i64 0),.agg [.lit (.bool false),.nil],.agg [.lit (.bool false),.nil],.lit (.string []),.lit (.int .i64 0)],.agg [.lit (.int .i64 0),.agg [.lit (.bool false),.nil],.agg [.lit (.bool false),.nil],.lit (.string []),.lit (.int .i64 0)],.lit (.int .i64 0)],[]):=by kernel_rfl
 obtain⟨⟨x1,x2,x3⟩,hx,hx1⟩:=Option.map_eq_some_iff.1 hw;simp only[Prod.mk.injEq]at hx1;obtain⟨rfl,rfl⟩:=hx1;exact OpenSpec.preRow_of_cond 8 hx kr (fun k hk=>by cases hk;kernel_rfl) kr (Law_met os)
set_option maxRecDepth 100000 in
set_option maxHeartbeats 2000000 in
theorem Law_lifted(os:Os)(started:os.Started)(H:Type)(enc:TypeId×Value->H)(F:Stop.Interp):
  ReturnsInHanded {} Tryz.checked os 3 .any ((Rows.OpenSpec.upto Rows.iterationMatchesSpecSpec).preRow enc Tryz.prog Tryz.f3 Rows.iterationMatchesSpecUptoRow.domain false Rows.iterationMatchesSpecUptoRow.laid) (((Rows.OpenSpec.upto Rows.iterationMatchesSpecSpec).at F).post enc Tryz.prog Tryz.f3 false true false false):=by
 refine returnsInHanded_of_row (C:=Tryz.checked) (s:=Rows.OpenSpec.upto Rows.iterationMatchesSpecSpec) Law_own started kr Tryz.func3
  (witness_row_atRef (enc:=enc) (C:=Tryz.checked) false (Law_world os) Law_arg rfl kr kr kr (Law_row os enc)) ?_
 intro W base args ds gs before hval0 hW _ hk _ hL hS _;have hval:∀(j:Nat)t v,Tryz.f3.params[j]?=some t->args[j]?=some v->Value.okWide Tryz.prog W .any base t v:=hval0;have hW':=hW;obtain⟨p,q,hA0,hV,rfl,hfz,hnd⟩:=hW;have hA:DataW.TrodAll enc Tryz.prog W 0 (fun _=>true) true Tryz.f3.params.toList args.toList ds p:=hA0;obtain⟨rfl,rfl⟩:=trodVars_none hV;have hA1:=hA;rw[Tryz.params3]at hA hval;obtain⟨v0,vs0,d0,ds0,p0,q0,hargs,rfl,rfl,h0,r0⟩:=trodAll_cons hA;obtain⟨v1,vs1,d1,ds1,p1,q1,rfl,rfl,rfl,h1,r1⟩:=trodAll_cons r0;obtain⟨v2,vs2,d2,ds2,p2,q2,rfl,rfl,rfl,h2,r2⟩:=trodAll_cons r1;obtain⟨v3,vs3,d3,ds3,p3,q3,rfl,rfl,rfl,h3,r3⟩:=trodAll_cons r2;obtain⟨rfl,rfl,rfl⟩:=trodAll_nil r3;obtain rfl:args= #[v0,v1,v2,v3]:=by cases args;simp_all
 have hb:Rows.uptoBulkAll [d0,d1,d2,d3]<=1048576:=by
  have:=hk _ rfl;simpa[Rows.uptoSmall]using this
 simp only[Rows.uptoBulkAll]at hb;obtain⟨x0,a0,i0⟩:=Opn.agg Opn.heap Tryz.underlying24 (hval 0 24 v0 rfl rfl) h0;obtain⟨x1,a1,i1⟩:=Opn.agg Opn.val Tryz.underlying29 (hval 1 29 v1 rfl rfl) h1;obtain⟨x2,a2,i2⟩:=Opn.agg Opn.val Tryz.underlying29 (hval 2 29 v2 rfl rfl) h2;obtain⟨z3,rfl,-⟩:=Int_open Tryz.underlying3 (hval 3 3 v3 rfl rfl) h3;have hG:=Law_glob hL hS;refine((Law43_ok x0 x1 x2 z3 (i0 1048576 om (Aq _)) (i1 1048576 om (Aq _)) (i2 1048576 om (Aq _))).2 W (sW W) [v0,v1,v2,.int .i64 z3] (fun _ _ h=>h) hG ⟨a0,a1,a2,rfl,trivial⟩).mono fun e W' hQ=>?_;obtain⟨s',x,he,hp,hst⟩:=hQ;have hp:x= .bool true:=hp;subst hp;subst he;have bel:=hst.below;have hl:laidOutB Tryz.prog=true:=by kernel_rfl
 have hread:Tryz.f3.params.toList.all (fun t=>Tryz.prog.readableRec t&&decide (t<Tryz.prog.types.size))=true:=by kernel_rfl
 refine⟨_,rfl,[d0,d1,d2,d3],[],_,[],(p0++(p1++(p2++(p3++([]))))),[],hW',?_,?_,?_,bel.frame _,fun h=>by cases h⟩
 ·exact trodAll_mk1 (shut_bool Tryz.underlying4 _)
 ·exact pZ hl bel _ _ _ _ (fun t ht=>by have:=Be.1 hread t ht;simpa using this) hA1
 ·rfl
theorem Law_fi:(Rows.iterationMatchesSpecUptoRow.inPlace==Tryz.pinned.checked.prog.inPlace 3)=true:=by kernel_rfl
theorem Law_fu:(Rows.iterationMatchesSpecUptoRow.unfollowed==Tryz.pinned.checked.prog.unfollowed 3)=true:=by kernel_rfl
theorem Law_fr:(Rows.iterationMatchesSpecUptoRow.recurses==Tryz.pinned.checked.prog.recurses 3)=true:=by kernel_rfl
theorem Law_fn:(Rows.iterationMatchesSpecUptoRow.named==Tryz.pinned.checked.prog.varsNamed 3)=true:=by kernel_rfl
theorem Law_facts:joinedFacts Tryz.pinned.checked.prog 3 Tryz.f3 (Rows.OpenSpec.upto Rows.iterationMatchesSpecSpec).bare Rows.iterationMatchesSpecUptoRow=true:=by
 unfold joinedFacts;rw[Law_fi,Law_fu,Law_fr,Law_fn];kernel_rfl
theorem Law_inst:Tryz.f3.isInstance Tryz.pinned.checked.prog Rows.iterationMatchesSpecUptoRow.origin Rows.iterationMatchesSpecUptoRow.targs:=Ag kr
theorem Law_wrap:Tryz.f3.isWrapper Tryz.pinned.checked.prog Rows.iterationMatchesSpecUptoRow.wrapper Rows.iterationMatchesSpecUptoRow.mainSum:=by unfold Func.isWrapper;first|(rw[Ab (by decide+kernel)];kernel_rfl)|(rw[Aa (by decide+kernel)];exact⟨rfl,rfl⟩)
theorem Law_named:Tryz.pinned.checked.prog.funcNamed Rows.iterationMatchesSpecUptoRow.func=some 3:=by kernel_rfl
theorem Law_looks:false=Tryz.pinned.checked.prog.looks []:=by kernel_rfl
theorem Law_goes:false=Rows.iterationMatchesSpecUptoRow.goesBy Tryz.pinned.checked.prog:=by kernel_rfl
theorem Law_wf:Rows.iterationMatchesSpecUptoRow.wfByText (Rows.OpenSpec.upto Rows.iterationMatchesSpecSpec)=true:=by kernel_rfl
theorem Law_main:Tryz.pinned.checked.prog.mainIs=some (Rows.iterationMatchesSpecUptoCard.stood.harness.1,Rows.iterationMatchesSpecUptoCard.stood.harness.2.toList):=by kernel_rfl
theorem Law_said:Rows.IterationMatchesSpecUptoSaid:=
 OpenClaim.holds_of_cond 3 Tryz.f3 rfl rfl rfl rfl rfl rfl rfl ⟨rfl,rfl,rfl,rfl,rfl⟩ rfl rfl rfl rfl rfl Law_named Tryz.func3 Law_facts Law_inst Law_wrap
  (fun os started H enc _ F=>by rw[OpenClaim.pre_eq_preRow];exact Law_lifted os started H enc F)
theorem Law_plain(f:FuncId)(fn:Func)(hf:Tryz.pinned.checked.prog.funcNamed "brindlewood/brindlewoodlaw7.IterationMatchesSpec" =some f)(hfn:Tryz.pinned.checked.prog.funcs[f]?=some fn):
  false=Tryz.pinned.checked.prog.looks []/\∀(j:Nat)t,fn.params[j]?=some t->Tryz.pinned.checked.prog.wantsStandIn t=false:=by
 obtain rfl:f=3:=Option.some.inj (Law_named.symm.trans hf)|>.symm;obtain rfl:fn=Tryz.f3:=(Option.some.inj (Tryz.func3.symm.trans hfn)).symm;refine⟨Law_looks,fun j t ht=>?_⟩;rw[Tryz.params3]at ht;have hm:=Array.mem_of_getElem? ht;simp only[List.mem_toArray,Bl,List.not_mem_nil,or_false]at hm;have wh:Tryz.prog.wantsStandIn 24=false:=by kernel_rfl
 have wi:Tryz.prog.wantsStandIn 3=false:=by kernel_rfl
 have wv:Tryz.prog.wantsStandIn 29=false:=by kernel_rfl
 rcases hm with rfl|rfl|rfl|rfl
 ·exact wh
 ·exact wv
 ·exact wv
 ·exact wi
theorem Law_holds:Rows.IterationMatchesSpecUptoCardSaid:=
 Claim7.holds_tied_plain_at .later [] _ _ _ _ Law_said (fun _ h=>by cases h) Law_wf (fun _ h=>by cases h) iterationMatchesSpecUpto_row_tie rfl ⟨rfl,rfl⟩ Law_main rfl Law_plain Law_goes
end Go.Proofs.YtpmjepoceakikaaGreatDoor
