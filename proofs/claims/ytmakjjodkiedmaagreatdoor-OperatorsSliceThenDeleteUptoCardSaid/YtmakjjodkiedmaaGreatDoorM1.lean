/-Part 1 of the proof. -/
import Derived.Shelf.Unicode.DecodeSlow
import Derived.Lib.Space
import Derived.Lib.ItoaNum
import Derived.Lib.PrintData
import Derived.WalkSpells
import Derived.WalkLawsBesides
import Derived.Laws.AppendOwnNone
namespace Go.Proofs.YtmakjjodkiedmaaGreatDoor
theorem ao{p:Prop}(h:p:=by first|assumption|omega|(simp_all;done)):p:=h
theorem de{p:Prop}(h:p:=by decide):p:=h
theorem om{p:Prop}(h:p:=by omega):p:=h
abbrev Aa.{u}:= @if_neg.{u}
abbrev Ab:= @Nat.eq_of_beq_eq_true
abbrev Ac.{u_1}:= @List.getElem?_eq_some_iff.{u_1}
abbrev Ad.{u_1,u_2}:= @List.map_append.{u_1,u_2}
abbrev Ae.{u}:= @List.length_append.{u}
abbrev Af.{u_1}:= @List.getElem?_eq_getElem.{u_1}
abbrev Ag.{u}:= @if_pos.{u}
abbrev Ah:= @Bool.and_eq_true
abbrev Ai:= @decide_eq_true_eq
abbrev Aj.{u_1}:= @List.getD_eq_getElem?_getD.{u_1}
abbrev Ak.{u}:= @List.length_cons.{u}
abbrev Am.{u_1}:= @List.take_of_length_le.{u_1}
abbrev An:= @Nat.le_of_ble_eq_true
abbrev Ao.{u_1,u_2}:= @List.length_map.{u_1,u_2}
abbrev Ap:= @Nat.le_refl
abbrev Aq:= @Nat.zero_le
abbrev Ar:= @of_decide_eq_true
abbrev As:= @Int.toNat_natCast
abbrev At.{u_1}:= @List.length_take.{u_1}
abbrev Au.{u}:= @List.length_nil.{u}
abbrev Av:= @decide_eq_false_iff_not
abbrev Aw.{u_1}:= @List.mem_of_getElem?.{u_1}
abbrev Ax.{u_1}:= @List.eq_nil_of_length_eq_zero.{u_1}
abbrev Ay.{u_1}:= @List.length_drop.{u_1}
abbrev Az.{u_1}:= @List.mem_append.{u_1}
abbrev Bb.{u_1}:= @List.getElem?_append_left.{u_1}
abbrev Bc.{u_1}:= @List.mem_cons.{u_1}
abbrev Bd:= @Bool.not_eq_true'
abbrev Be:= @Bool.not_eq_false'
abbrev Bf.{u_1,u_2}:= @List.getElem?_map.{u_1,u_2}
abbrev Bg:= @Nat.le_trans
abbrev Bh:= @Nat.add_mul
abbrev Bi.{u_1}:= @Array.getElem?_eq_some_iff.{u_1}
abbrev Bk.{u_1}:= @List.getElem?_append_right.{u_1}
abbrev Bl.{u_1}:= @List.mem_cons_of_mem.{u_1}
abbrev Bm:= @Nat.lt_or_ge
abbrev Bo:= @decide_eq_true
abbrev Bp:= @Nat.eq_zero_or_pos
abbrev Bq.{u_1}:= @List.drop_of_length_le.{u_1}
abbrev Br.{u}:= @List.size_toArray.{u}
abbrev Bs:= @Nat.mul_le_mul_right
abbrev Bt.{u_1}:= @List.all_eq_true.{u_1}
abbrev Bu.{u_1,u_2}:= @List.mem_map.{u_1,u_2}
abbrev Bv:= @Nat.zero_add
abbrev Bw:= @Bool.false_eq_true
abbrev Bx.{u_1}:= @Array.toList_inj.{u_1}
abbrev By.{u_1}:= @List.mem_cons_self.{u_1}
abbrev Bz.{u_1,u_2,u_3}:= @List.map_map.{u_1,u_2,u_3}
abbrev Ca.{u}:= @List.append_nil.{u}
abbrev Cb.{u_1}:= @List.getElem?_drop.{u_1}
abbrev Cc:= @Bool.or_eq_true
abbrev Ce:= @Nat.add_zero
abbrev Cf:= @Nat.mul_comm
abbrev Cg:= @Bool.or_eq_false_iff
abbrev Ch.{u_1}:= @List.getElem?_take.{u_1}
abbrev Ci.{u,v}:= @List.map_cons.{u,v}
abbrev Cj.{u_1}:= @List.any_eq_true.{u_1}
abbrev Ck.{u}:= @List.length_set.{u}
abbrev Cl:= @decide_eq_false
abbrev Cn.{u_1}:= @List.flatten_cons.{u_1}
abbrev Co.{u}:= @List.append_assoc.{u}
abbrev Cp:= @Nat.pow_le_pow_right
abbrev Cr:= @Nat.lt_of_lt_of_le
abbrev Cs:= @Nat.pow_succ
abbrev Ct:= @Int.eq_ofNat_of_zero_le
abbrev Cu.{u_1}:= @Array.getElem?_append_left.{u_1}
abbrev Cv.{u_1,u_2}:= @List.map_drop.{u_1,u_2}
abbrev Cw.{u_1}:= @List.getElem?_of_mem.{u_1}
abbrev Cx:= @List.mem_range
abbrev Cy.{u_1,u_2}:= @List.map_take.{u_1,u_2}
abbrev Cz.{u_1}:= @Array.length_toList.{u_1}
abbrev Da.{u_1}:= @List.take_append_drop.{u_1}
abbrev Db.{u}:= @List.getElem?_toArray.{u}
abbrev Dc.{u_1}:= @List.getElem?_eq_none.{u_1}
abbrev Dd:= @Nat.ble_eq_true_of_le
abbrev De.{u_1}:= @Array.getD_eq_getD_getElem?.{u_1}
abbrev Df.{u_1}:= @List.take_succ_eq_append_getElem.{u_1}
abbrev Dh.{u}:= @List.nil_append.{u}
abbrev Di.{u_1}:= @List.getElem_mem.{u_1}
abbrev Dj:= @Bool.not_eq_true
abbrev Dk.{u_1}:= @List.drop_eq_getElem_cons.{u_1}
def rgN:Nat->List Nat:=List.range
def mK1:List (List Nat):=[[],[],[0,1],[0,1,2],[],[],[4,5],[4,5,6],(rgN 8)]
def mK2:List (List Nat):=[[],[0],[0,1],[],[0,1,2,3],(rgN 5),(rgN 6),(rgN 7),(rgN 8),(rgN 9),(rgN 10),(rgN 11),(rgN 12),(rgN 13),(rgN 14),(rgN 15),(rgN 16),(rgN 17),(rgN 16),[0,1,2,3,4,5,6,7,8,9,10,11,12,13,14,15,18],[0,1,2,3,4,5,6,7,8,9,10,11,12,13,14,15,18,19],(rgN 21),(rgN 22),(rgN 23),(rgN 24),(rgN 25),(rgN 26),(rgN 27),(rgN 28),(rgN 29),(rgN 30),(rgN 31),(rgN 32),(rgN 33)]
def mK3:List (List Nat):=[[],[],[1],[1,2],[1,2,3],(rgN 5),[],(rgN 7)]
def mK4:List (List Nat):=[[],[0],[],[2],[],[4],[2,3,4,5],(rgN 7),(rgN 8)]
def mK5:List (List Nat):=[[],[0],[0,1],[],[0,1,2,3],[],(rgN 6)]
def mK6:List (List Nat):=[[],[],[1],[1,2],[1,2,3],(rgN 5),[],[],[7],[7,8],[7,8,9],(rgN 11),[],[],(rgN 14),(rgN 15)]
def mK7:List (List Nat):=[[],[],[0,1],[0,1,2],[0,1,2,3],(rgN 5),(rgN 6),(rgN 6),(rgN 8),(rgN 9),(rgN 10),(rgN 11),(rgN 12),(rgN 11),(rgN 14),(rgN 15),(rgN 16),(rgN 11),[0,1,2,3,4,5,6,7,8,9,10,17],(rgN 19),(rgN 20),(rgN 21)]
def mK8:List (List Nat):=[[],[0],[0,1],[],[3],(rgN 5),[],[6],(rgN 8),[0,1,2,3,4,6,7],(rgN 10),(rgN 11),(rgN 12),(rgN 13),(rgN 14)]
def mK9:List (List Nat):=[[],[0],[0,1],[],[3],(rgN 5),(rgN 5),(rgN 7),(rgN 8),(rgN 9)]
open Go.RowKit
structure GSpec(G:Nat->Nat->Option Value):Prop where
 maxLen:∃m:Int,G 5 0=some (.int .i64 m)
 first:∀c,c<256->G 1 c=some (.int .u8 (Lib.firstT c))
 accept:∀i,i<16->G 2 (2*i)=some (.int .u8 (Lib.accLo i))/\G 2 (2*i+1)=some (.int .u8 (Lib.accHi i))
 space:∀c:Nat,c<256->G 0 c=some (.int .u8 (if Lib.isSp (UInt8.ofNat c)then 1 else 0))
 pow10:∀i:Nat,i<20->G 4 i=some (.int .u64 (Lib.pow10Tab.getD i 0))
inductive ZAt:Nat->Nat->Prop
 |pow10 (o:Nat):20<=o->ZAt 4 o
def Mk(fz:Nat×Nat)(n:Nat):Prop:=∀o,o<n->¬(fz.1<=o/\o<fz.2)
theorem Mk.zero(n:Nat):Mk (0,0) n:=fun o _ h=>Nat.not_lt_zero _ h.2
theorem Mk.behind{a b n:Nat}(h:n<=a):Mk (a,b) n:=fun o ho h2=>by
 have:a<=o:=h2.1;omega
def CellB(w:World)(G:Nat)(cur:Array Value)(e:TypeId):Prop:=∃fz,w.heap[G]?=some (.cells cur e fz)/\Mk fz cur.size
theorem CellB.of{w:World}{G:Nat}{cur:Array Value}{e:TypeId}(h:w.heap[G]?=some (.cells cur e (0,0))):CellB w G cur e:=⟨_,h,Mk.zero _⟩
theorem CellB.lt{w:World}{G:Nat}{cur:Array Value}{e:TypeId}(h:CellB w G cur e):G<w.heap.size:=by
 obtain⟨fz,h,_⟩:=h;exact(Bi.1 h).1
theorem CellB.keep{w w':World}{G:Nat}{cur:Array Value}{e:TypeId}(h:CellB w G cur e)(hk:w'.heap[G]?=w.heap[G]?):CellB w' G cur e:=by
 obtain⟨fz,h,m⟩:=h;exact⟨fz,hk.trans h,m⟩
theorem CellB.cell{w:World}{G:Nat}{cur:Array Value}{e:TypeId}(h:CellB w G cur e)(o:Nat):w.cell? ⟨G,o,none⟩=cur[o]?:=by
 obtain⟨fz,h,_⟩:=h;exact cell_of_row w G o cur e fz h
theorem CellB.setRow{w:World}{G:Nat}{cur cs:Array Value}{e:TypeId}(h:CellB w G cur e)(hs:cs.size=cur.size):CellB (w.setRow G cs) G cs e:=by
 obtain⟨fz,h,m⟩:=h;exact⟨fz,setRow_heap w G cur cs e fz h,by rw[hs];exact m⟩
theorem qM(P:Program)(g o:Nat)(t:TypeId)(fz:Nat×Nat):∀(vs:List Value)(i:Nat)(cur:Array Value)(w:World),w.heap[g]?=some (.cells cur t fz)->Mk fz cur.size->o+i+vs.length<=cur.size->(∀v∈vs,v.oneCell'=true)->
  (storeCells ⟨g,o,none⟩ vs i).run P w= .ok () (w.setRow g (cur.toList.take (o+i)++vs++cur.toList.drop (o+i+vs.length)).toArray)
 |[],i,cur,w,hg,_,_,_=>by
  simp only[storeCells,Ca,Au,Ce,Da,Array.toArray_toList];rw[setRow_self w g cur t fz hg];rfl
 |v::rest,i,cur,w,hg,hfz,hl,h1=>by
  have hi:o+i<cur.size:=by simp at hl;omega
  have hadd:(⟨g,o,none⟩:Addr).add i=⟨g,o+i,none⟩:=by unfold Addr.add;split<;>simp_all
  have hcell:w.cell? ⟨g,o+i,none⟩=some cur[o+i]:=by simp[World.cell?,hg,hi]
  have hfro:w.frozen? ⟨g,o+i,none⟩=false:=by
   have h2:=hfz (o+i) hi;obtain⟨lo,hi'⟩:=fz;simp only[World.frozen?,hg];simp only at h2;simp only[Bool.and_eq_false_iff,Av];omega
  have hst:(store ((⟨g,o,none⟩:Addr).add i) v).run P w= .ok () (w.setRow g (cur.setIfInBounds (o+i) v)):=by
   rw[hadd,run_store P w _ v _ (h1 v (by simp)),hcell];simp[hfro,setCell_eq_setRow w g (o+i) cur t fz v hg]
  have ih:=qM P g o t fz rest (i+1) (cur.setIfInBounds (o+i) v) (w.setRow g (cur.setIfInBounds (o+i) v)) (setRow_heap w g cur _ t _ hg) (by simpa using hfz) (by simp at hl⊢;omega) (fun x hx=>h1 x (by simp[hx]));simp only[storeCells,Sem.run_bind,hst,Result.andThen_ok,ih,setRow_setRow];congr 3;have e:=list_seg_step cur.toList (o+i) v rest (by simp at hl⊢;omega);simpa[Array.toList_setIfInBounds,Nat.add_assoc]using e
section
variable{P:Program}(w:World)
theorem uK(t ty e:TypeId)(i:TypeInfo)(ht:P.underlying t=some (.slice e))(hi:P.info? e=some i)
  (g sLen sCap:Nat) (cur:Array Value) (hg:CellB w g cur e)
  (a:Addr) (m c:Nat) (news:List Value) (hl:news.length=m*i.size) (hnews:∀j u,news[j]?=some u->w.cell? (a.add j)=some u) (h1:∀u∈news,u.oneCell'=true)
  (hroom:sLen+m<=sCap) (hfit:sLen*i.size+news.length<=cur.size):
  (Builtin.append_ #[t,t] ty #[.slice (some ⟨g,0,none⟩) sLen sCap,.slice (some a) m c]).run P w=
   .ok (.slice (some ⟨g,0,none⟩) (sLen+m) sCap) (w.setRow g (cur.toList.take (sLen*i.size)++news++cur.toList.drop (sLen*i.size+news.length)).toArray):=by
 obtain⟨fz,hg,hfz⟩:=hg;have hf:=run_firstCells_some (P:=P) w i.size m a m c news hl hnews;have hst:=qM P g (sLen*i.size) e fz news 0 cur w hg hfz (by simpa using hfit) h1;simp only[Ce]at hst;simp[Builtin.append_,run_underlying ht,sizeOf,typeInfo,hi,Builtin.lenOf,hroom,hf,Addr.add_lit,hst]
theorem run_append_room_stringK(t u ty e:TypeId)(i:TypeInfo)(ht:P.underlying t=some (.slice e))(hu:P.underlying u=some .string)(hi:P.info? e=some i)(hs1:i.size=1)
  (g sLen sCap:Nat) (cur:Array Value) (hg:CellB w g cur e) (s:ByteArray)
  (hroom:sLen+s.size<=sCap) (hfit:sLen+s.size<=cur.size):
  (Builtin.append_ #[t,u] ty #[.slice (some ⟨g,0,none⟩) sLen sCap,.string s]).run P w=
   .ok (.slice (some ⟨g,0,none⟩) (sLen+s.size) sCap) (w.setRow g (cur.toList.take sLen++Lib.strCells s++cur.toList.drop (sLen+s.size)).toArray):=by
 obtain⟨fz,hg,hfz⟩:=hg;have hf:=Lib.run_firstCells_string (P:=P) w 1 s;have hst:=qM P g sLen e fz (Lib.strCells s) 0 cur w hg hfz (by simpa[Lib.strCells_length]using hfit) (Lib.strCells_oneCell s);simp only[Ce,Lib.strCells_length]at hst;simp[Builtin.append_,run_underlying ht,run_underlying hu,sizeOf,typeInfo,hi,hs1,Builtin.lenOf,hroom,hf,Addr.add_lit,hst]
theorem run_copy_rowK(dT sT ty elem:TypeId)(g o dLen dCap:Nat)(a:Addr)(sLen sCap:Nat)(cur:Array Value)(t:TypeId)(cs:List Value)
  (hu:P.underlying dT=some (.slice elem)) (hs:(P.info? elem).map (·.size)=some 1)
  (hg:CellB w g cur t) (hn:cs.length=Nat.min sLen dLen)
  (hsrc:∀j v,cs[j]?=some v->w.cell? (a.add j)=some v) (hfit:o+cs.length<=cur.size) (h1:∀v∈cs,v.oneCell'=true):
  (Builtin.copy_ #[dT,sT] ty #[.slice (some ⟨g,o,none⟩) dLen dCap,.slice (some a) sLen sCap]).run P w=
   .ok (goInt cs.length) (w.setRow g (cur.toList.take o++cs++cur.toList.drop (o+cs.length)).toArray):=by
 obtain⟨fz,hg,hfz⟩:=hg;have hl:=run_loadCells_list (P:=P) w a cs hsrc;have hst:=qM P g o t fz cs 0 cur w hg hfz (by simpa using hfit) h1;simp only[Ce]at hst
 cases hq:P.info? elem with
 |none=>simp[hq]at hs
 |some i=>
  have hi:i.size=1:=by simpa[hq]using hs
  simp[Builtin.copy_,run_underlying hu,Builtin.lenOf,Builtin.firstCells,sizeOf,typeInfo,hq,hi,<-hn,hl,hst]
end
end Go.Proofs.YtmakjjodkiedmaaGreatDoor
