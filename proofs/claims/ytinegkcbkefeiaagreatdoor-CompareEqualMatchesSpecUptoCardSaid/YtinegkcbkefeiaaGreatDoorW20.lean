/- Part 20 of the proof. -/
import Derived.Test.YtinegkcbkefeiaaGreatDoorW19
namespace Go.Proofs.YtinegkcbkefeiaaGreatDoor
open Go.RowKit
variable {md me : Bool}
theorem hi32 {e : Int} {s : Nat} (h : e = (s : Int)) : Int.fdiv e (2 ^ min (Int.toNat 32) IntKind.u64.bits) = ((s / 4294967296 : Nat) : Int) := by rw [h];exact tJ (by decide)
theorem lo32 {e : Int} {s : Nat} (h : e = (s : Int)) : IntKind.u32.wrap e = ((s % 4294967296 : Nat) : Int) := by
 rw [h];simp only [IntKind.wrap,IntKind.signed,IntKind.bits,Ck,Ay,if_false];omega
theorem vZ {l : List Nat} {y : Nat} {e : Int} (h : e = (y : Int)) : l.map uD ++ [[.v (.int .u32 e)]] = (l ++ [y]).map uD := by rw [Af,h];rfl
theorem uU0 {a b : List Nat} (x : PlL a b) {e : Int} (h : e = (x.c : Int) + ((a.getD x.k 0 : Nat) : Int) + ((b.getD x.k 0 : Nat) : Int)) : e = ((x.s : Nat) : Int) := by
 rw [h];unfold PlL.s;omega
theorem natAdd0_ok (a b : Nat) (ha : (lim a).length ≤ 100000) (hb : (lim b).length ≤ 100000) : Fn Tryz.prog 247 [usD (lim a),usD (lim b)] (usD (lim (a + b))) := by
 refine yE zK Tryz.func247 rfl rfl rfl rfl rfl rfl ?_;intro w0 s0 mx;refine zJ 100 ?_;refine zB (zJ 200 ?_);refine zY (fun c1 => ?_) (fun c1 => ?_)
 ·
  refine yM zK [] 300 ?_;refine zA (ev_R zK [1019] 400 ?_);refine jX 303 rfl (by repeat (first | exact trivial | exact rfl | refine ⟨?_,?_⟩)) (by repeat (first | exact trivial | refine ⟨?_,?_⟩)) ?_;refine zJ 500 ?_;refine zB (zJ 600 ?_);refine zR ?_;refine yC (ι := PlL (lim b) (lim a)) [1,20,21] [] 650 (fun x => [(22,.v (.int .i64 (x.k : Nat))),(6,.v (.int .u64 (x.c : Nat))),(5,.own 303 1 (x.o.map uD))]) (fun x => [(303,.row 126 1 (x.o.map uD).length)]) (fun x => (lim b).length - x.k) (PlL.start _ _) ?_;refine ⟨⟨yK,yH,rfl,rfl⟩,fun x => ?_⟩;have hk := x.le;have hk2 := x.lo;have hk3 := x.hc;have hk4 := qG (yU b) x.k;have hk5 := qG (yU a) x.k;refine zJ 700 ?_;refine zB (zY (fun c6 => ?_) (fun c6 => ?_))
  ·
   refine zM (zA (zB (zR (zJ 800 ?_))));refine zJ 900 ?_;refine zB (zJ 1000 ?_);refine zY (fun c9 => ?_) (fun c9 => ?_)
   ·
    refine yM zK [] 1100 ?_;refine zA (zJ 1200 ?_);refine yM zK [] 1300 ?_;refine zO (zA (yM zK [] 1400 ?_));have zb := @uE (lim a) x.k;exact zS (x.next (yU b) (yU a) (by omega)) ⟨(by first | exact trivial | (repeat (first | exact trivial | exact u0 _ | refine ⟨?_,?_⟩ | exact u21 (by first | rfl | omega | (push_cast;omega)) | exact u17 | exact Sub.own rfl | exact u13 rfl | exact u5 (Af).symm | exact u5 rfl | exact u21 (by show (x.k : Int) + 1 = ((x.k + 1 : Nat) : Int);omega) | exact u21 (hi32 (uU0 x (by (try simp only [Ab]);simp only [IntKind.wrap,IntKind.signed,IntKind.bits,Ck,Ay,if_false];omega))) | exact Sub.own (vZ (lo32 (uU0 x (by (try simp only [Ab]);simp only [IntKind.wrap,IntKind.signed,IntKind.bits,Ck,Ay,if_false];omega))))))),(by repeat (first | exact trivial | exact u15 rfl | exact ⟨rfl,rfl,by show _ = (List.map uD (x.o ++ _)).length;simp⟩ | refine ⟨?_,?_⟩)),rfl,rfl⟩ (by show (lim b).length - (x.k + 1) < (lim b).length - x.k;omega)
   ·
    refine zM (zA (zJ 1200 ?_));refine yM zK [] 1300 ?_;refine zO (zA (yM zK [] 1400 ?_));have zb := @uE (lim a) x.k;exact zS (x.next (yU b) (yU a) (by omega)) ⟨(by first | exact trivial | (repeat (first | exact trivial | exact u0 _ | refine ⟨?_,?_⟩ | exact u21 (by first | rfl | omega | (push_cast;omega)) | exact u17 | exact Sub.own rfl | exact u13 rfl | exact u5 (Af).symm | exact u5 rfl | exact u21 (by show (x.k : Int) + 1 = ((x.k + 1 : Nat) : Int);omega) | exact u21 (hi32 (uU0 x (by (try simp only [Ab]);simp only [IntKind.wrap,IntKind.signed,IntKind.bits,Ck,Ay,if_false];omega))) | exact Sub.own (vZ (lo32 (uU0 x (by (try simp only [Ab]);simp only [IntKind.wrap,IntKind.signed,IntKind.bits,Ck,Ay,if_false];omega))))))),(by repeat (first | exact trivial | exact u15 rfl | exact ⟨rfl,rfl,by show _ = (List.map uD (x.o ++ _)).length;simp⟩ | refine ⟨?_,?_⟩)),rfl,rfl⟩ (by show (lim b).length - (x.k + 1) < (lim b).length - x.k;omega)
  ·
   refine yD (yA (yB (zX (zA ?_))));refine zB (zE zK [] 1500 rfl ?_);refine zF ?_;refine zP _ ((jN (x.o ++ [x.c]) (x.lg.snoc (by omega)) (by simp;omega)).args ⟨SubP.ownSl (vZ (by simp only [IntKind.wrap,IntKind.signed,IntKind.bits,Ck,Ay,if_false];omega)),trivial⟩) rfl ?_;refine zF ?_;refine zC (zA (zL ?_));have e := (x.fin (by omega) (by omega)).1;rw [vO,vO] at e;exact u4 rfl (u9 (by rw [e];(try rw [Nat.add_comm])))
 ·
  refine zM (zA (ev_R zK [1019] 400 ?_));refine jX 203 rfl (by repeat (first | exact trivial | exact rfl | refine ⟨?_,?_⟩)) (by repeat (first | exact trivial | refine ⟨?_,?_⟩)) ?_;refine zJ 500 ?_;refine zB (zJ 600 ?_);refine zR ?_;refine yC (ι := PlL (lim a) (lim b)) [1,20,21] [] 650 (fun x => [(22,.v (.int .i64 (x.k : Nat))),(6,.v (.int .u64 (x.c : Nat))),(5,.own 203 1 (x.o.map uD))]) (fun x => [(203,.row 126 1 (x.o.map uD).length)]) (fun x => (lim a).length - x.k) (PlL.start _ _) ?_;refine ⟨⟨yK,yH,rfl,rfl⟩,fun x => ?_⟩;have hk := x.le;have hk2 := x.lo;have hk3 := x.hc;have hk4 := qG (yU a) x.k;have hk5 := qG (yU b) x.k;refine zJ 700 ?_;refine zB (zY (fun c6 => ?_) (fun c6 => ?_))
  ·
   refine zM (zA (zB (zR (zJ 800 ?_))));refine zJ 900 ?_;refine zB (zJ 1000 ?_);refine zY (fun c9 => ?_) (fun c9 => ?_)
   ·
    refine yM zK [] 1100 ?_;refine zA (zJ 1200 ?_);refine yM zK [] 1300 ?_;refine zO (zA (yM zK [] 1400 ?_));have zb := @uE (lim b) x.k;exact zS (x.next (yU a) (yU b) (by omega)) ⟨(by first | exact trivial | (repeat (first | exact trivial | exact u0 _ | refine ⟨?_,?_⟩ | exact u21 (by first | rfl | omega | (push_cast;omega)) | exact u17 | exact Sub.own rfl | exact u13 rfl | exact u5 (Af).symm | exact u5 rfl | exact u21 (by show (x.k : Int) + 1 = ((x.k + 1 : Nat) : Int);omega) | exact u21 (hi32 (uU0 x (by (try simp only [Ab]);simp only [IntKind.wrap,IntKind.signed,IntKind.bits,Ck,Ay,if_false];omega))) | exact Sub.own (vZ (lo32 (uU0 x (by (try simp only [Ab]);simp only [IntKind.wrap,IntKind.signed,IntKind.bits,Ck,Ay,if_false];omega))))))),(by repeat (first | exact trivial | exact u15 rfl | exact ⟨rfl,rfl,by show _ = (List.map uD (x.o ++ _)).length;simp⟩ | refine ⟨?_,?_⟩)),rfl,rfl⟩ (by show (lim a).length - (x.k + 1) < (lim a).length - x.k;omega)
   ·
    refine zM (zA (zJ 1200 ?_));refine yM zK [] 1300 ?_;refine zO (zA (yM zK [] 1400 ?_));have zb := @uE (lim b) x.k;exact zS (x.next (yU a) (yU b) (by omega)) ⟨(by first | exact trivial | (repeat (first | exact trivial | exact u0 _ | refine ⟨?_,?_⟩ | exact u21 (by first | rfl | omega | (push_cast;omega)) | exact u17 | exact Sub.own rfl | exact u13 rfl | exact u5 (Af).symm | exact u5 rfl | exact u21 (by show (x.k : Int) + 1 = ((x.k + 1 : Nat) : Int);omega) | exact u21 (hi32 (uU0 x (by (try simp only [Ab]);simp only [IntKind.wrap,IntKind.signed,IntKind.bits,Ck,Ay,if_false];omega))) | exact Sub.own (vZ (lo32 (uU0 x (by (try simp only [Ab]);simp only [IntKind.wrap,IntKind.signed,IntKind.bits,Ck,Ay,if_false];omega))))))),(by repeat (first | exact trivial | exact u15 rfl | exact ⟨rfl,rfl,by show _ = (List.map uD (x.o ++ _)).length;simp⟩ | refine ⟨?_,?_⟩)),rfl,rfl⟩ (by show (lim a).length - (x.k + 1) < (lim a).length - x.k;omega)
  ·
   refine yD (yA (yB (zX (zA ?_))));refine zB (zE zK [] 1500 rfl ?_);refine zF ?_;refine zP _ ((jN (x.o ++ [x.c]) (x.lg.snoc (by omega)) (by simp;omega)).args ⟨SubP.ownSl (vZ (by simp only [IntKind.wrap,IntKind.signed,IntKind.bits,Ck,Ay,if_false];omega)),trivial⟩) rfl ?_;refine zF ?_;refine zC (zA (zL ?_));have e := (x.fin (by omega) (by omega)).1;rw [vO,vO] at e;exact u4 rfl (u9 (by rw [e];(try rw [Nat.add_comm])))
theorem cC0 (n : Nat) : (MR.map (List.replicate n ()) (fun _ => jV [.int .u32 0]) ()).rows = (MR.map (List.replicate n 0) uD 0).rows := by
 simp only [MR.rows,List.map_replicate];rfl
theorem tB (o : List Nat) (j v : Nat) : (MR.upd (.map o uD 0) j (uD v)).rows = (MR.map (o.set j v) uD 0).rows := by
 simp only [MR.rows,List.map_set]
theorem w64 {n : Nat} (h : n < 18446744073709551616) : IntKind.u64.wrap (n : Int) = (n : Int) := by
 simp only [IntKind.wrap,IntKind.signed,IntKind.bits,Ck,Ay,if_false];omega
theorem w32n {n : Nat} (h : n < 4294967296) : IntKind.u32.wrap (n : Int) = (n : Int) := by
 simp only [IntKind.wrap,IntKind.signed,IntKind.bits,Ck,Ay,if_false];omega
theorem muI_s {a b : List Nat} {i : Nat} (y : MuI a b i) (ha : Lg a) (hb : Lg b) : IntKind.u64.wrap ((y.c : Int) + IntKind.u64.wrap (IntKind.u64.wrap (IntKind.u64.wrap ((a.getD i 0 : Nat) : Int) * IntKind.u64.wrap ((b.getD y.k 0 : Nat) : Int)) + IntKind.u64.wrap ((y.o.getD (i + y.k) 0 : Nat) : Int))) = ((y.s : Nat) : Int) := by
 have h0 := y.s_lt ha hb;have h1 := qG ha i;have h2 := qG hb y.k;have h3 := qG y.lg (i + y.k);have h4 := tG h1 h2;have h5 := y.hc;unfold MuI.s at *;rw [w64 (n := a.getD i 0) (by omega),w64 (n := b.getD y.k 0) (by omega),w64 (n := y.o.getD (i + y.k) 0) (by omega),← Int.natCast_mul,w64 (n := a.getD i 0 * b.getD y.k 0) (by omega),← Int.natCast_add,w64 (n := a.getD i 0 * b.getD y.k 0 + y.o.getD (i + y.k) 0) (by omega),← Int.natCast_add,w64 (by omega)];congr 1;omega
theorem yW1 {P : Program} {E : Pn} {K : DS → Prop} {p : Prop} {r : Out} (hr : r.sat P E K) (hp : p := by first | exact ⟨hm2,by rw [← hm2];omega⟩ | exact ⟨hm2,by omega⟩ | exact ⟨hm,by rw [← hm];omega⟩ | exact ⟨hm,by omega⟩ | exact Eh) : (Out.need p r).sat P E K := ⟨hp,hr⟩
theorem natMul0_ok (a b : Nat) (ha : (lim a).length ≤ 100000) (hb : (lim b).length ≤ 100000) : Fn Tryz.prog 209 [usD (lim a),usD (lim b)] (usD (lim (a * b))) := by
 refine yE zK Tryz.func209 rfl rfl rfl rfl rfl rfl ?_;intro w0 s0 mx;refine zJ 100 ?_;refine ev_R zK [1016] 200 ?_;refine qA [0,1] [] 210 [(5,.mo 105 ((lim a).length + (lim b).length))] [(105,.mrow 126 1 (.map (List.replicate ((lim a).length + (lim b).length) 0) uD 0))] ?_;refine ⟨⟨⟨Sub.mo (by omega),yK⟩,⟨SubO.mr (by rw [cC0];congr 3),yH⟩,rfl,rfl⟩,?_⟩;refine zB (zJ 300 ?_);refine zR ?_;refine yC (ι := MuO (lim a) (lim b)) [1,5,17,18] [] 350 (fun x => [(19,.v (.int .i64 (x.i : Nat)))]) (fun x => [(105,.mrow 126 1 (.map x.o uD 0))]) (fun x => (lim a).length - x.i) (MuO.start _ _) ?_;refine ⟨⟨yK,yH,rfl,rfl⟩,fun x => ?_⟩;have hk := x.le;have hlo := x.lo;have hm : ((lim a).length + (lim b).length) = (MR.map x.o uD 0).len := by rw [MR.len,hlo]
 refine zJ 400 ?_;refine zB (zY (fun c3 => ?_) (fun c3 => ?_))
 ·
  refine zM (zA (zB (zR (zJ 500 ?_))));refine zJ 600 ?_;refine zB (zJ 700 ?_);refine zR ?_;refine yC (ι := MuI (lim a) (lim b) x.i) [1,5,6,7,17,18,19,24,25] [] 750 (fun y => [(26,.v (.int .i64 (y.k : Nat))),(8,.v (.int .u64 (y.c : Nat)))]) (fun y => [(105,.mrow 126 1 (.map y.o uD 0))]) (fun y => (lim b).length - y.k) (MuI.start x) ?_;refine ⟨⟨yK,yH,rfl,rfl⟩,fun y => ?_⟩;have hky := y.le;have hly := y.lo;have hm2 : ((lim a).length + (lim b).length) = (MR.map y.o uD 0).len := by rw [MR.len,hly]
  have hj : ((x.i : Int) + (y.k : Int)).toNat = x.i + y.k := by omega
  have es := muI_s y (yU a) (yU b);refine zJ 800 ?_;refine zB (zY (fun c7 => ?_) (fun c7 => ?_))
  ·
   refine zM (zA (zB (zR (zJ 900 ?_))));refine zB (zE zK [] 1000 rfl ?_);repeat (first | refine zG ?_ | refine zH ?_ | refine yW1 ?_)
   refine zC (zA ?_);refine zB (zE zK [] 1100 rfl ?_);repeat (first | refine zG ?_ | refine zH ?_ | refine yW1 ?_)
   refine zC (zA (yM zK [] 1200 ?_));refine zO (zA (yM zK [] 1300 ?_));exact zS (y.next (yU a) (yU b) (by omega) (by omega)) ⟨(by first | exact trivial | (repeat (first | exact trivial | exact u0 _ | refine ⟨?_,?_⟩ | exact u21 (by first | rfl | omega | (push_cast;omega)) | exact u17 | exact Sub.own rfl | exact u13 rfl | exact u5 (Af).symm | exact u5 rfl | exact u21 (by show (y.k : Int) + 1 = ((y.k + 1 : Nat) : Int);omega) | exact u21 (by (try simp only [hj,Ab]);rw [es];exact hi32 rfl)))),⟨SubO.mr (by (try simp only [hj,Ab]);rw [es,lo32 rfl];exact tB _ _ _),yH⟩,rfl,rfl⟩ (by show (lim b).length - (y.k + 1) < (lim b).length - y.k;omega)
  ·
   refine yD (yA (yB (zX (zA ?_))));refine zE zK [] 1400 rfl ?_;repeat (first | refine zG ?_ | refine zH ?_ | refine yW1 ?_)
   refine zC (zO (zA (yM zK [] 1500 ?_)));exact zS (y.fin (by omega) (by omega)) ⟨(by first | exact trivial | (repeat (first | exact trivial | exact u0 _ | refine ⟨?_,?_⟩ | exact u21 (by first | rfl | omega | (push_cast;omega)) | exact u17 | exact Sub.own rfl | exact u13 rfl | exact u5 (Af).symm | exact u5 rfl | exact u21 (by show (x.i : Int) + 1 = ((x.i + 1 : Nat) : Int);omega)))),⟨SubO.mr (by have hj : ((x.i : Int) + ((lim b).length : Int)).toNat = x.i + (lim b).length := (by omega);(try simp only [hj]);rw [w32n y.hc];exact tB _ _ _),yH⟩,rfl,rfl⟩ (by show (lim a).length - (x.i + 1) < (lim a).length - x.i;omega)
 ·
  refine yD (yA (yB (zX (zA ?_))));refine jX 105 rfl (by repeat (first | exact trivial | exact hm | refine ⟨?_,?_⟩)) (by repeat (first | exact trivial | refine ⟨?_,?_⟩)) ?_;refine zB (zE zK [] 1600 rfl ?_);refine zF ?_;refine zP _ ((jN x.o x.lg (by omega)).args ⟨SubP.ownSl rfl,trivial⟩) rfl ?_;refine zF ?_;refine zC (zA (zL ?_));have e := x.fin (by omega);rw [vO,vO] at e;exact u4 rfl (u9 (by rw [e]))
theorem or64 {h l : Nat} (hh : h < 4294967296) (hl : l < 4294967296) : bOr .u64 (IntKind.u64.wrap (IntKind.u64.wrap (h : Int) * 2 ^ min (Int.toNat 32) IntKind.u64.bits)) (IntKind.u64.wrap (l : Int)) = ((h * 4294967296 + l : Nat) : Int) := by
 rw [show ((2 : Int) ^ min (Int.toNat 32) IntKind.u64.bits) = ((4294967296 : Nat) : Int) by decide,w64 (n := h) (by omega),w64 (n := l) (by omega),← Int.natCast_mul,w64 (n := h * 4294967296) (by omega)];show IntKind.u64.wrap ((BitVec.ofInt 64 ((h * 4294967296 : Nat) : Int) ||| BitVec.ofInt 64 ((l : Nat) : Int)).toNat : Int) = _;rw [BitVec.ofInt_natCast,BitVec.ofInt_natCast,BitVec.toNat_or,BitVec.toNat_ofNat,BitVec.toNat_ofNat,Dt (by omega),Dt (by omega)];have e := Nat.two_pow_add_eq_or_of_lt (i := 32) (b := l) (by simpa using hl) h;rw [show (2 : Nat) ^ 32 = 4294967296 by decide,Au 4294967296 h] at e;rw [← e,w64 (by omega)]
theorem div32_ok {h l d : Int} (hh : I32 h) (hl : I32 l) (hd : I32 d) (hlt : h < d) :
  bOr .u64 (IntKind.u64.wrap (IntKind.u64.wrap h * 2 ^ min (Int.toNat 32) IntKind.u64.bits)) (IntKind.u64.wrap l) = ((h.toNat * 4294967296 + l.toNat : Nat) : Int) ∧ IntKind.u64.wrap d = ((d.toNat : Nat) : Int) ∧ (h.toNat * 4294967296 + l.toNat) / d.toNat < 4294967296 ∧ (h.toNat * 4294967296 + l.toNat) % d.toNat < 4294967296 := by
 obtain ⟨h,rfl⟩ := Cg hh.1;obtain ⟨l,rfl⟩ := Cg hl.1;obtain ⟨d,rfl⟩ := Cg hd.1;have h1 := hh.2;have h2 := hl.2;have h3 := hd.2;simp only [Ab];refine ⟨or64 (by omega) (by omega),w64 (by omega),?_,?_⟩
 ·rw [Dh (by omega)];omega
 ·exact Bi (Ce _ (by omega)) (by omega)
theorem cG0 {P : Program} {E : Pn} {K : DS → Prop} {p : Prop} {r : Out} (hr : r.sat P E K) (hp : p := by first | (rw [e2];omega) | exact Eh) : (Out.need p r).sat P E K := ⟨hp,hr⟩
theorem Div32_ok (h l d : Int) (hh : I32 h) (hl : I32 l) (hd : I32 d) (hlt : h < d) : Fn Tryz.prog 261 [.v (.int .u32 h),.v (.int .u32 l),.v (.int .u32 d)] (.tup [.v (.int .u32 ((h.toNat * 4294967296 + l.toNat) / d.toNat : Nat)),.v (.int .u32 ((h.toNat * 4294967296 + l.toNat) % d.toNat : Nat))]) := by
 obtain ⟨e1,e2,e3,e4⟩ := div32_ok hh hl hd hlt;have hd0 : 0 < d := by have := hh.1;omega
 refine yE zK Tryz.func261 rfl rfl rfl rfl rfl rfl ?_;intro w0 s0 mx;refine zB (zE zK [] 100 rfl ?_);repeat (first | refine zG ?_ | refine zH ?_ | refine cG0 ?_)
 refine zC (zA (zB ?_));refine zB (zE zK [] 200 rfl ?_);repeat (first | refine zG ?_ | refine zH ?_ | refine cG0 ?_)
 refine zC (zA (zY (fun c1 => ?_) (fun c1 => ?_)))
 ·
  exact absurd c1 (by simp;omega)
 ·
  refine zM (zA ?_);refine zB (zE zK [] 400 rfl ?_);repeat (first | refine zG ?_ | refine zH ?_ | refine cG0 ?_)
  refine zC (zA ?_);refine zB (zZ zK [] [[],[],[1],[0,1,2],[0,1,2,3],[],[],[6],[5,6,7],[5,6,7,8],(rgN 5),(rgN 11)] 500 yQ (by kernel_rfl) rfl ?_);repeat (first | refine zG ?_ | refine zH ?_ | refine cG0 ?_)
  refine zC (zA (zL ?_));exact u4 rfl (u19 ⟨u10 (by rw [e1,e2,← Int.ofNat_tdiv,w64 (Nat.lt_trans e3 (by decide)),w32n e3]),u10 (by rw [e1,e2,← Int.ofNat_tmod,w32n e4]),trivial⟩)
variable {md me : Bool}
theorem vB0 (a b : Nat) (ha : (lim a).length ≤ 600) (hb : (lim b).length ≤ 600) (hab : (lim (a + b)).length ≤ 600) : Fn Tryz.prog 222 [usD (lim a),usD (lim b)] (.tup [usD (lim (a + b)),faD 0 0]) := by
 refine yE zK Tryz.func222 rfl rfl rfl rfl rfl rfl ?_;intro w0 s0 mx;refine zJ 100 ?_;refine zB ?_;refine zB (zE zK [] 200 rfl ?_);refine zF ?_;refine zP _ (vJ _ _ (by first | assumption | omega | (simp_all;done)) (by first | assumption | omega | (simp_all;done))) rfl ?_;refine zF ?_;refine zC (zA (zJ 300 ?_));refine zY (fun c2 => ?_) (fun c2 => ?_)
 ·
  exact absurd c2 (by decide)
 ·
  refine zM (zA ?_);refine zB (zE zK [] 500 rfl ?_);refine zF ?_;refine zP _ (natAdd0_ok a b (by omega) (by omega)) rfl ?_;refine zF ?_;refine zP _ (vA0 (lim (a + b)) (yU _) (by omega) (by rw [vO];exact hab)) rfl ?_;refine zF ?_;refine zC (zA (zL ?_));exact u4 rfl (u19 ⟨u9 (by rw [vO]),u6 _,trivial⟩)
theorem cL (a b : Nat) (ha : (lim a).length ≤ 600) (hb : (lim b).length ≤ 600) (hab : (lim (a * b)).length ≤ 600) : Fn Tryz.prog 162 [usD (lim a),usD (lim b)] (.tup [usD (lim (a * b)),faD 0 0]) := by
 refine yE zK Tryz.func162 rfl rfl rfl rfl rfl rfl ?_;intro w0 s0 mx;refine zJ 100 ?_;refine zB ?_;refine zB (zE zK [] 200 rfl ?_);refine zF ?_;refine zP _ (vJ _ _ (by first | assumption | omega | (simp_all;done)) (by first | assumption | omega | (simp_all;done))) rfl ?_;refine zF ?_;refine zC (zA (zJ 300 ?_));refine zY (fun c2 => ?_) (fun c2 => ?_)
 ·
  exact absurd c2 (by decide)
 ·
  refine zM (zA ?_);refine zB (zE zK [] 500 rfl ?_);refine zF ?_;refine zP _ (natMul0_ok a b (by omega) (by omega)) rfl ?_;refine zF ?_;refine zP _ (vA0 (lim (a * b)) (yU _) (by omega) (by rw [vO];exact hab)) rfl ?_;refine zF ?_;refine zC (zA (zL ?_));exact u4 rfl (u19 ⟨u9 (by rw [vO]),u6 _,trivial⟩)
theorem cK (a b : Nat) (ha : (lim a).length ≤ 600) (hb : (lim b).length ≤ 600) (hle : b ≤ a) : Fn Tryz.prog 223 [usD (lim a),usD (lim b)] (.tup [usD (lim (a - b)),faD 0 0]) := by
 have hneg := mJ0 a b;refine yE zK Tryz.func223 rfl rfl rfl rfl rfl rfl ?_;intro w0 s0 mx;refine zJ 100 ?_;refine zB ?_;refine zB (zE zK [] 200 rfl ?_);refine zF ?_;refine zP _ (vJ _ _ (by first | assumption | omega | (simp_all;done)) (by first | assumption | omega | (simp_all;done))) rfl ?_;refine zF ?_;refine zC (zA (zJ 300 ?_));refine zY (fun c2 => ?_) (fun c2 => ?_)
 ·
  exact absurd c2 (by decide)
 ·
  refine zM (zA (zB ?_));refine zB (zE zK [] 500 rfl ?_);refine zF ?_;refine zP _ (gC a b (by omega) (by omega)) rfl ?_;refine zF ?_;refine zC (zA (zY (fun c4 => ?_) (fun c4 => ?_)))
  ·
   exact absurd c4 (by simp;omega)
  ·
   refine zM (zA ?_);refine zB (zE zK [] 700 rfl ?_);refine zF ?_;refine zP _ (natSub0_ok _ _ (by first | assumption | omega | (simp_all;done)) (by first | assumption | omega | (simp_all;done)) (by first | assumption | omega | (simp_all;done))) rfl ?_;refine zF ?_;refine zC (zA (zL ?_));exact u4 rfl (u6 _)
theorem jE1 {P : Program} {E : Pn} {K : DS → Prop} {p : Prop} {r : Out} (hr : r.sat P E K) (hp : p := by first | exact ⟨hm,by rw [← hm];omega⟩ | exact ⟨hm,by omega⟩ | exact Eh) : (Out.need p r).sat P E K := ⟨hp,hr⟩
theorem natShort_ok (a d : Nat) (ha : (lim a).length ≤ 100000) (h0 : 0 < d) (hd : d < 4294967296) : Fn Tryz.prog 254 [usD (lim a),.v (.int .u32 d)] (.tup [usD (lim (a / d)),.v (.int .u32 (a % d : Nat))]) := by
 refine yE zK Tryz.func254 rfl rfl rfl rfl rfl rfl ?_;intro w0 s0 mx;refine zJ 100 ?_;refine ev_R zK [1011] 200 ?_;refine qA [0,1] [] 210 [(6,.mo 102 (lim a).length)] [(102,.mrow 126 1 (.map (List.replicate (lim a).length 0) uD 0))] ?_;refine ⟨⟨⟨Sub.mo (by omega),yK⟩,⟨SubO.mr (by rw [cC0];congr 3),yH⟩,rfl,rfl⟩,?_⟩;refine zJ 300 ?_;refine zB (zJ 400 ?_);refine zR ?_;refine yC (ι := Sho (lim a) d) [0,1,6] [] 450 (fun x => [(8,.v (.int .i64 ((x.k : Int) - 1))),(7,.v (.int .u32 (x.r : Nat)))]) (fun x => [(102,.mrow 126 1 (.map x.o uD 0))]) (fun x => x.k) (Sho.start _ h0) ?_;refine ⟨⟨yK,yH,rfl,rfl⟩,fun x => ?_⟩;have hk := x.le;have hlo := x.lo;have hr := x.hr;have hm : (lim a).length = (MR.map x.o uD 0).len := by rw [MR.len,hlo]
 have hkt : ((x.k : Int) - 1).toNat = x.k - 1 := by omega
 refine zB (zJ 500 ?_);refine zY (fun c4 => ?_) (fun c4 => ?_)
 ·
  refine zM (zA (zB (zR ?_)));refine zE zK [] 700 rfl ?_;repeat (first | refine zG ?_ | refine zH ?_ | refine jE1 ?_)
  refine zP _ (Div32_ok _ _ _ ⟨by omega,by omega⟩ (pO (yU a) _) ⟨by omega,by omega⟩ (by omega)) rfl ?_;repeat (first | refine zG ?_ | refine zH ?_ | refine jE1 ?_)
  refine zC (zO (zA (yM zK [] 800 ?_)));have es : x.s = x.r * 4294967296 + (lim a).getD (x.k - 1) 0 := rfl;exact zS (x.next (yU a) hd (by omega)) ⟨⟨u21 (by show (x.k : Int) - 1 - 1 = ((x.k - 1 : Nat) : Int) - 1;omega),u21 (by simp only [hkt,Ab];show _ = ((x.s % d : Nat) : Int);rw [es]),yK⟩,⟨SubO.mr (by simp only [hkt,Ab];show _ = (MR.map (x.o.set (x.k - 1) (x.s / d)) uD 0).rows;rw [es];exact tB _ _ _),yH⟩,rfl,rfl⟩ (by show x.k - 1 < x.k;omega)
 ·
  refine yD (yA (yB (zX (zA ?_))));refine jX 102 rfl (by repeat (first | exact trivial | exact hm | refine ⟨?_,?_⟩)) (by repeat (first | exact trivial | refine ⟨?_,?_⟩)) ?_;refine zB (zE zK [] 800 rfl ?_);refine zF ?_;refine zP _ ((jN x.o x.lg (by omega)).args ⟨SubP.ownSl rfl,trivial⟩) rfl ?_;refine zF ?_;refine zC (zA (zL ?_));have e := x.fin (by omega);rw [vO] at e;exact u4 rfl (u19 ⟨u9 (by rw [e.1]),u10 (by rw [e.2]),trivial⟩)
theorem tV (n : Nat) : 2 ^ n = 4294967296 ^ (n / 32) * 2 ^ (n % 32) := by
 conv => lhs;rw [← Cl n 32]
 rw [Ea,Nat.pow_mul]
theorem qZ1 (n : Nat) : 4294967296 = 2 ^ (n % 32) * 2 ^ (32 - n % 32) := by
 have h := Ce n (show 0 < 32 by decide);rw [← Ea,show n % 32 + (32 - n % 32) = 32 by omega]
theorem cX0 (n : Nat) : 0 < 2 ^ (n % 32) := Nat.pow_pos (by decide)
theorem P_le (n : Nat) : 2 ^ (n % 32) ≤ 2147483648 := by
 have h := Ce n (show 0 < 32 by decide);have h1 : 2 ^ (n % 32) ≤ 2 ^ 31 := Be (by decide) (by omega);simpa using h1
structure Lf (l : List Nat) (n : Nat) where
 k : Nat
 c : Nat
 o : List Nat
 eq : VL o + c * 4294967296 ^ (n / 32 + k) = VL (l.take k) * 2 ^ n
 lo : o.length = n / 32 + k
 lg : Lg o
 hc : c < 2 ^ (n % 32)
 le : k ≤ l.length
def Lf.start (l : List Nat) (n : Nat) : Lf l n := ⟨0,0,List.replicate (n / 32) 0,by simp [gI0,VL],by simp,tR _,cX0 n,Ar _⟩
def Lf.w {l : List Nat} {n : Nat} (x : Lf l n) : Nat := l.getD x.k 0 * 2 ^ (n % 32)
theorem zV1 (x n : Nat) : x * 2 ^ (n % 32) % 4294967296 = 2 ^ (n % 32) * (x % 2 ^ (32 - n % 32)) := by
 conv => lhs;rw [qZ1 n,Au x]
 rw [Nat.mul_mod_mul_left]
theorem lf_or {x n c : Nat} (hc : c < 2 ^ (n % 32)) : x * 2 ^ (n % 32) % 4294967296 ||| c = x * 2 ^ (n % 32) % 4294967296 + c := by
 rw [zV1,Nat.two_pow_add_eq_or_of_lt hc]
theorem jU1 {x n c : Nat} (hc : c < 2 ^ (n % 32)) : x * 2 ^ (n % 32) % 4294967296 + c < 4294967296 := by
 have h0 := qZ1 n;have h1 : x % 2 ^ (32 - n % 32) < 2 ^ (32 - n % 32) := Ce _ (Nat.pow_pos (by decide));have h2 : 2 ^ (n % 32) * (x % 2 ^ (32 - n % 32) + 1) ≤ 2 ^ (n % 32) * 2 ^ (32 - n % 32) := Ch _ h1;rw [Br] at h2;rw [zV1];omega
theorem lf_w_lt {x : Nat} (n : Nat) (h : x < 4294967296) : x * 2 ^ (n % 32) < 18446744073709551616 := by
 have h1 : x * 2 ^ (n % 32) ≤ 4294967295 * 2147483648 := Nat.mul_le_mul (by omega) (P_le n);omega
theorem jV1 {x : Nat} (n : Nat) (h : x < 4294967296) : x * 2 ^ (n % 32) / 4294967296 < 2 ^ (n % 32) := by
 rw [Dh (by decide),Au];exact Nat.mul_lt_mul_of_pos_left h (cX0 n)
theorem lf_step {l o : List Nat} {n k c : Nat} (h : VL o + c * 4294967296 ^ (n / 32 + k) = VL (l.take k) * 2 ^ n) (ho : o.length = n / 32 + k) :
  VL (o ++ [l.getD k 0 * 2 ^ (n % 32) % 4294967296 + c]) + l.getD k 0 * 2 ^ (n % 32) / 4294967296 * 4294967296 ^ (n / 32 + (k + 1)) = VL (l.take (k + 1)) * 2 ^ n := by
 have e0 : 4294967296 ^ k * l.getD k 0 * 2 ^ n = 4294967296 ^ (n / 32 + k) * (l.getD k 0 * 2 ^ (n % 32)) := by
  rw [tV n,Ea,Nat.mul_mul_mul_comm,Au (4294967296 ^ k)]
 rw [pX,ho,qM l,Bf,e0,← Dw (n / 32) k 1,Bx];generalize 4294967296 ^ (n / 32 + k) = B at *;generalize l.getD k 0 * 2 ^ (n % 32) = w at *;generalize VL (l.take k) * 2 ^ n = R at *;have e := Cl w 4294967296;have e2 : B * w = B * (4294967296 * (w / 4294967296)) + B * (w % 4294967296) := by rw [← Br,e]
 have e3 : B * (w % 4294967296 + c) = B * (w % 4294967296) + B * c := Br _ _ _;have e4 : w / 4294967296 * (B * 4294967296) = B * (4294967296 * (w / 4294967296)) := by rw [Au,Bo]
 have e5 : c * B = B * c := Au _ _;omega
def Lf.next {l : List Nat} {n : Nat} (x : Lf l n) (hg : Lg l) (h : x.k < l.length) : Lf l n := ⟨x.k + 1,x.w / 4294967296,x.o ++ [x.w % 4294967296 + x.c],lf_step x.eq x.lo,by simp [x.lo];omega,x.lg.snoc (jU1 x.hc),jV1 n (qG hg _),h⟩
theorem Lf.fin {l : List Nat} {n : Nat} (x : Lf l n) (h : l.length ≤ x.k) : VL (x.o ++ [x.c]) = VL l * 2 ^ n ∧ Lg (x.o ++ [x.c]) ∧ (x.o ++ [x.c]).length = n / 32 + l.length + 1 := by
 have hk := x.le;have h1 := x.eq;have h2 := P_le n;have h3 := x.hc;rw [Ak h] at h1;refine ⟨by rw [pX,x.lo,Au];exact h1,x.lg.snoc (by omega),by rw [Am,x.lo,Ec];omega⟩
theorem tX0 {l : List Nat} (hg : Lg l) (i : Nat) : VL l / 4294967296 ^ i = VL (l.drop i) := by
 rcases Bs i l.length with h | h
 ·have h1 := wQ l i (Cr h);have h2 := L_lt (hg.take i);rw [Ap,Cy (Cr h)] at h2;rw [h1,Nat.add_mul_div_left _ _ (Nat.pow_pos (by decide)),Ee h2,Cd]
 ·rw [Az h,wK0];exact Ee (Bi (L_lt hg) (Be (by decide) h))
theorem vN (l : List Nat) (i : Nat) : VL (l.drop i) = l.getD i 0 + 4294967296 * VL (l.drop (i + 1)) := by
 rcases Bs i l.length with h | h
 ·rw [Bw h,uX,qV h]
 ·rw [Az h,Az (by omega),uE h];rfl
structure Rg (l : List Nat) (n : Nat) where
 k : Nat
 o : List Nat
 eq : VL o = VL l / 2 ^ n % 4294967296 ^ k
 lo : o.length = k
 lg : Lg o
 le : k ≤ l.length
def Rg.start (l : List Nat) (n : Nat) : Rg l n := ⟨0,[],by rw [Nat.pow_zero,Nat.mod_one];rfl,rfl,Lg.nil,Ar _⟩
def Rg.w {l : List Nat} {n : Nat} (x : Rg l n) : Nat := l.getD (n / 32 + x.k) 0 + 4294967296 * l.getD (n / 32 + x.k + 1) 0
theorem rg_limb {l : List Nat} {n k : Nat} (hg : Lg l) : VL l / 2 ^ n / 4294967296 ^ k % 4294967296 = (l.getD (n / 32 + k) 0 + 4294967296 * l.getD (n / 32 + k + 1) 0) / 2 ^ (n % 32) % 4294967296 := by
 rw [Nat.div_div_eq_div_mul,tV n,Nat.mul_right_comm,← Ea,← Nat.div_div_eq_div_mul,tX0 hg,vN,vN l (n / 32 + k + 1),Br,← Dw];generalize l.getD (n / 32 + k) 0 + 4294967296 * l.getD (n / 32 + k + 1) 0 = W;generalize VL (l.drop (n / 32 + k + 1 + 1)) = R;have e : 4294967296 * (4294967296 * R) = 2 ^ (n % 32) * (4294967296 * (2 ^ (32 - n % 32) * R)) := by
  have h := qZ1 n;generalize 2 ^ (n % 32) = P at *;generalize 2 ^ (32 - n % 32) = T at *
  calc 4294967296 * (4294967296 * R) = (P * T) * (4294967296 * R) := by rw [← h]
   _ = P * (4294967296 * (T * R)) := by rw [Bo,Nat.mul_left_comm T]
 rw [e,Nat.add_mul_div_left _ _ (cX0 n),Nat.add_mul_mod_self_left]
def Rg.next {l : List Nat} {n : Nat} (x : Rg l n) (hg : Lg l) (h : n / 32 + x.k < l.length) : Rg l n := ⟨x.k + 1,x.o ++ [x.w / 2 ^ (n % 32) % 4294967296],by
 rw [pX,x.lo,x.eq];unfold Rg.w;rw [← rg_limb hg,Bx,Nat.mod_mul],by simp [x.lo],x.lg.snoc (Ce _ (by decide)),by omega⟩
theorem Rg.fin {l : List Nat} {n : Nat} (x : Rg l n) (hg : Lg l) (h : l.length ≤ n / 32 + x.k) : VL x.o = VL l / 2 ^ n := by
 rw [x.eq];refine Dt ?_;have h1 : VL l < 4294967296 ^ (n / 32 + x.k) := Bi (L_lt hg) (Be (by decide) h);rw [Dh (Nat.pow_pos (by decide))];refine Bi h1 ?_;rw [Ea,Au,tV n];exact Ch _ (Nat.le_mul_of_pos_right _ (cX0 n))
variable {md me : Bool}
theorem jI1 (n : Nat) : min (Int.tmod (n : Int) 32).toNat IntKind.u64.bits = n % 32 := by
 rw [Int.tmod_eq_emod_of_nonneg (by omega)];have h : ((n : Int) % 32).toNat = n % 32 := by omega
 rw [h];have := Ce n (show 0 < 32 by decide);show min (n % 32) 64 = n % 32;omega
theorem zH1 (n : Nat) : ((2 : Int) ^ (n % 32)) = ((2 ^ (n % 32) : Nat) : Int) := by rw [Int.natCast_pow];rfl
theorem lf_w {l : List Nat} {n : Nat} (x : Lf l n) (hg : Lg l) : IntKind.u64.wrap (IntKind.u64.wrap ((l.getD x.k 0 : Nat) : Int) * 2 ^ min (Int.tmod (n : Int) 32).toNat IntKind.u64.bits) = ((x.w : Nat) : Int) := by
 have h1 := qG hg x.k;have h2 := lf_w_lt n h1;rw [jI1,zH1,w64 (n := l.getD x.k 0) (by omega),← Int.natCast_mul,w64 h2];rfl
theorem lf_o {l : List Nat} {n : Nat} (x : Lf l n) : bOr .u32 (IntKind.u32.wrap ((x.w : Nat) : Int)) ((x.c : Nat) : Int) = ((x.w % 4294967296 + x.c : Nat) : Int) := by
 have hP := P_le n;have hc := x.hc;rw [lo32 rfl];show IntKind.u32.wrap ((BitVec.ofInt 32 ((x.w % 4294967296 : Nat) : Int) ||| BitVec.ofInt 32 ((x.c : Nat) : Int)).toNat : Int) = _;rw [BitVec.ofInt_natCast,BitVec.ofInt_natCast,BitVec.toNat_or,BitVec.toNat_ofNat,BitVec.toNat_ofNat,Dt (Ce _ (by decide)),Dt (show x.c < 2 ^ 32 by omega)];unfold Lf.w;rw [lf_or hc,w32n (jU1 hc)]
theorem lf_c {l : List Nat} {n : Nat} (x : Lf l n) (hg : Lg l) : IntKind.u32.wrap (Int.fdiv ((x.w : Nat) : Int) (2 ^ min (Int.toNat 32) IntKind.u64.bits)) = ((x.w / 4294967296 : Nat) : Int) := by
 have h1 := jV1 n (qG hg x.k);have hP := P_le n;rw [hi32 rfl,w32n (by unfold Lf.w;omega)]
theorem td32 (n : Nat) : Int.tdiv (n : Int) 32 = ((n / 32 : Nat) : Int) := by rw [Int.tdiv_eq_ediv_of_nonneg (by omega)];rfl
theorem yV1 {P : Program} {E : Pn} {K : DS → Prop} {p : Prop} {r : Out} (hr : r.sat P E K) (hp : p := by first | (rw [Int.tmod_eq_emod_of_nonneg (by omega)];omega) | exact Eh) : (Out.need p r).sat P E K := ⟨hp,hr⟩
theorem natLeft_ok (a n : Nat) (ha : (lim a).length ≤ 100000) (hn : n ≤ 1000000) : Fn Tryz.prog 263 [usD (lim a),.v (.int .i64 n)] (usD (lim (a * 2 ^ n))) := by
 have htd := td32 n;refine yE zK Tryz.func263 rfl rfl rfl rfl rfl rfl ?_;intro w0 s0 mx;refine zJ 100 ?_;refine zB (zE zK [1018] 200 rfl ?_);repeat (first | refine zG ?_ | refine zH ?_ | refine zW (by first | (rw [td32];omega) | (simp only [td32];omega) | exact ⟨by decide,by rw [td32];exact ini (by omega) (by omega)⟩ | (rw [td32];exact ini (by omega) (by omega)) | (simp only [td32];exact ini (by omega) (by omega)) | (simp only [td32];refine ⟨?_,?_⟩ <;> omega) | exact Eh) ?_)
 refine zC (zA ?_);refine qA [0,1] [] 210 [(5,.mo 108 (n / 32))] [(108,.mrow 126 1 (.map (List.replicate (n / 32) 0) uD 0))] ?_;refine ⟨⟨⟨Sub.mo (by rw [td32];omega),yK⟩,⟨SubO.mr (by rw [cC0,td32];congr 3),yH⟩,rfl,rfl⟩,?_⟩;refine jX 108 rfl (by repeat (first | exact trivial | exact (List.length_replicate).symm | refine ⟨?_,?_⟩)) (by repeat (first | exact trivial | refine ⟨?_,?_⟩)) ?_;refine zJ 300 ?_;refine zB (zJ 400 ?_);refine zR ?_;refine yC (ι := Lf (lim a) n) [1,19,20] [] 450 (fun x => [(21,.v (.int .i64 (x.k : Nat))),(6,.v (.int .u32 (x.c : Nat))),(5,.own 108 1 (x.o.map uD))]) (fun x => [(108,.row 126 1 (x.o.map uD).length)]) (fun x => (lim a).length - x.k) (Lf.start _ _) ?_;refine ⟨⟨yK,yH,rfl,rfl⟩,fun x => ?_⟩;have hk := x.le;have hlo := x.lo;have hc1 := x.hc;have hP := P_le n;have ew := lf_w x (yU a);have eo := lf_o x;have ec := lf_c x (yU a);refine zJ 500 ?_;refine zB (zY (fun c4 => ?_) (fun c4 => ?_))
 ·
  refine zM (zA (zB (zR (zJ 600 ?_))));refine zB (zE zK [] 700 rfl ?_);repeat (first | refine zG ?_ | refine zH ?_ | refine yV1 ?_)
  refine zC (zA (zJ 800 ?_));refine yM zK [] 900 ?_;refine zO (zA (yM zK [] 1000 ?_));exact zS (x.next (yU a) (by omega)) ⟨⟨u21 (by show (x.k : Int) + 1 = ((x.k + 1 : Nat) : Int);omega),u21 (by (try simp only [Ab]);rw [ew];exact ec),Sub.own (vZ (by (try simp only [Ab]);rw [ew];exact eo)),yK⟩,(by repeat (first | exact trivial | exact u15 rfl | exact ⟨rfl,rfl,by show _ = (List.map uD (x.o ++ _)).length;simp⟩ | refine ⟨?_,?_⟩)),rfl,rfl⟩ (by show (lim a).length - (x.k + 1) < (lim a).length - x.k;omega)
 ·
  refine yD (yA (yB (zX (zA ?_))));refine zB (zE zK [] 1100 rfl ?_);refine zF ?_;refine zP _ ((jN (x.o ++ [x.c]) (x.lg.snoc (by omega)) (by simp;omega)).args ⟨SubP.ownSl (vZ rfl),trivial⟩) rfl ?_;refine zF ?_;refine zC (zA (zL ?_));have e := (x.fin (by omega)).1;rw [vO] at e;exact u4 rfl (u9 (by rw [e]))
theorem or64r {h l : Nat} (hh : h < 4294967296) (hl : l < 4294967296) : bOr .u64 (IntKind.u64.wrap (l : Int)) (IntKind.u64.wrap (IntKind.u64.wrap (h : Int) * 2 ^ min (Int.toNat 32) IntKind.u64.bits)) = ((l + 4294967296 * h : Nat) : Int) := by
 have e := or64 hh hl;rw [show l + 4294967296 * h = h * 4294967296 + l by omega,← e];unfold bOr;rw [BitVec.or_comm]
theorem rg_T {l : List Nat} {n : Nat} (x : Rg l n) (hg : Lg l) : bOr .u64 (IntKind.u64.wrap ((l.getD (n / 32 + x.k) 0 : Nat) : Int)) (IntKind.u64.wrap (IntKind.u64.wrap ((l.getD (n / 32 + x.k + 1) 0 : Nat) : Int) * 2 ^ min (Int.toNat 32) IntKind.u64.bits)) = ((x.w : Nat) : Int) := by
 rw [or64r (qG hg _) (qG hg _)];rfl
theorem rg_F {l : List Nat} {n : Nat} (x : Rg l n) (hg : Lg l) (h : l.length ≤ n / 32 + x.k + 1) : IntKind.u64.wrap ((l.getD (n / 32 + x.k) 0 : Nat) : Int) = ((x.w : Nat) : Int) := by
 have h1 := qG hg (n / 32 + x.k);unfold Rg.w;rw [uE h,w64 (by omega)];simp
theorem rg_l {n w : Nat} : IntKind.u32.wrap (Int.fdiv ((w : Nat) : Int) (2 ^ min (Int.tmod (n : Int) 32).toNat IntKind.u64.bits)) = ((w / 2 ^ (n % 32) % 4294967296 : Nat) : Int) := by
 rw [jI1,tJ (zH1 n),lo32 rfl]
theorem natRight_ok (a n : Nat) (ha : (lim a).length ≤ 100000) (hn : n ≤ 1000000) : Fn Tryz.prog 265 [usD (lim a),.v (.int .i64 n)] (usD (lim (a / 2 ^ n))) := by
 refine yE zK Tryz.func265 rfl rfl rfl rfl rfl rfl ?_;intro w0 s0 mx;refine zJ 100 ?_;refine zJ 200 ?_;refine qC 5 126 1 rfl ?_;refine zB ?_;refine zB (zE zK [] 300 rfl ?_);repeat (first | refine zG ?_ | refine zH ?_ | refine zW (by first | exact ⟨by decide,by rw [td32];exact ini (by omega) (by omega)⟩ | (rw [td32];exact ini (by omega) (by omega)) | exact Eh) ?_)
 refine zC (zA (zR ?_));refine yC (ι := Rg (lim a) n) [0,1] [] 350 (fun x => [(6,.v (.int .i64 (n / 32 + x.k : Nat))),(5,.own 200 1 (x.o.map uD))]) (fun x => [(200,.row 126 1 (x.o.map uD).length)]) (fun x => (lim a).length - (n / 32 + x.k)) (Rg.start _ _) ?_;refine ⟨⟨⟨u21 (by rw [td32];rfl),Sub.own rfl,yK⟩,yH,rfl,rfl⟩,fun x => ?_⟩;have hk := x.le;have hlo := x.lo;refine zB (zJ 400 ?_);refine zY (fun c3 => ?_) (fun c3 => ?_)
 ·
  refine zM (zA (zB (zR (zJ 600 ?_))));refine zB (zJ 700 ?_);refine zY (fun c6 => ?_) (fun c6 => ?_)
  ·
   refine yM zK [] 800 ?_;refine zA ?_;refine zE zK [] 900 rfl ?_;repeat (first | refine zG ?_ | refine zH ?_ | refine yV1 ?_)
   refine zC (zO (zA (yM zK [] 1000 ?_)));have hj : (((n / 32 + x.k : Nat) : Int) + 1).toNat = n / 32 + x.k + 1 := by omega
   have e := rg_T x (yU a);exact zS (x.next (yU a) (by omega)) ⟨⟨u21 (by show ((n / 32 + x.k : Nat) : Int) + 1 = ((n / 32 + (x.k + 1) : Nat) : Int);omega),Sub.own (vZ (by (try simp only [hj,Ab]);rw [e];exact rg_l)),yK⟩,(by repeat (first | exact trivial | exact u15 rfl | exact ⟨rfl,rfl,by show _ = (List.map uD (x.o ++ _)).length;simp⟩ | refine ⟨?_,?_⟩)),rfl,rfl⟩ (by show (lim a).length - (n / 32 + (x.k + 1)) < (lim a).length - (n / 32 + x.k);omega)
  ·
   refine zM (zA ?_);refine zE zK [] 900 rfl ?_;repeat (first | refine zG ?_ | refine zH ?_ | refine yV1 ?_)
   refine zC (zO (zA (yM zK [] 1000 ?_)));have hj : (((n / 32 + x.k : Nat) : Int) + 1).toNat = n / 32 + x.k + 1 := by omega
   have e := rg_F x (yU a) (by omega);exact zS (x.next (yU a) (by omega)) ⟨⟨u21 (by show ((n / 32 + x.k : Nat) : Int) + 1 = ((n / 32 + (x.k + 1) : Nat) : Int);omega),Sub.own (vZ (by (try simp only [hj,Ab]);rw [e];exact rg_l)),yK⟩,(by repeat (first | exact trivial | exact u15 rfl | exact ⟨rfl,rfl,by show _ = (List.map uD (x.o ++ _)).length;simp⟩ | refine ⟨?_,?_⟩)),rfl,rfl⟩ (by show (lim a).length - (n / 32 + (x.k + 1)) < (lim a).length - (n / 32 + x.k);omega)
 ·
  refine yD (yA (yB (zX (zA ?_))));refine zB (zE zK [] 1000 rfl ?_);refine zF ?_;refine zP _ ((jN x.o x.lg (by omega)).args ⟨SubP.ownSl rfl,trivial⟩) rfl ?_;refine zF ?_;refine zC (zA (zL ?_));have e := x.fin (yU a) (by omega);rw [vO] at e;exact u4 rfl (u9 (by rw [e]))
variable {md me : Bool}
theorem cmpN_neg (x y : Nat) : uC x y < 0 ↔ x < y := by
 unfold uC;split
 ·exact ⟨fun _ => by assumption,fun _ => by decide⟩
 ·constructor
  ·intro h;split at h <;> exact absurd h (by decide)
  ·intro h;contradiction
theorem lim_add600 {x y : Nat} (hx : (lim x).length ≤ 128) (hy : (lim y).length ≤ 128) : (lim (x + y)).length ≤ 600 := by
 have h1 := Bi (kD x) (Be (by decide) hx);have h2 := Bi (kD y) (Be (by decide) hy);have h3 : x + y < 4294967296 ^ 129 := by
  rw [Bx];generalize 4294967296 ^ 128 = B at *;omega
 have := jG h3;omega
theorem lim_mul600 {x y : Nat} (hx : (lim x).length ≤ 128) (hy : (lim y).length ≤ 128) : (lim (x * y)).length ≤ 600 := by
 have h1 := Bi (kD x) (Be (by decide) hx);have h2 := Bi (kD y) (Be (by decide) hy);have h3 : x * y < 4294967296 ^ (128 + 128) := by
  rw [Ea];exact Nat.mul_lt_mul'' h1 h2
 have := jG h3;omega
def plSg (s : Bool) (x : Nat) (t : Bool) (y : Nat) : Bool := if s = t then s else if x < y then t else s
def plN (s : Bool) (x : Nat) (t : Bool) (y : Nat) : Nat := if s = t then x + y else if x < y then y - x else x - y
theorem plZ (s t : Bool) (x y : Nat) : ZI (plSg s x t y) (plN s x t y) = ZI s x + ZI t y := by
 unfold plSg plN;by_cases h : s = t
 ·subst h;rw [Ae rfl,Ae rfl]
  cases s <;> unfold ZI <;> simp <;> omega
 ·rw [Aa h,Aa h];by_cases h2 : x < y
  ·rw [Ae h2,Ae h2]
   cases s <;> cases t <;> unfold ZI <;> simp at * <;> omega
  ·rw [Aa h2,Aa h2]
   cases s <;> cases t <;> unfold ZI <;> simp at * <;> omega
abbrev zV (z : Int) : List D := iV (decide (z < 0),lim z.natAbs)
theorem sg_z {b : Bool} {n : Nat} (h : (lim n).length ≤ 128) : sgD b (lim n) = .tup [.agg (zV (ZI b n)),faD 0 0] := by
 rw [← zI1 h,lim_len];have e1 : (ZI b n).natAbs = n := by cases b <;> unfold ZI <;> simp
 have e2 : (b && decide (0 < n)) = decide (ZI b n < 0) := by
  cases b
  ·unfold ZI;simp
  ·unfold ZI;simp
 rw [zV,e1,e2]
theorem zOk {z : Int} (h : (lim z.natAbs).length ≤ 128) : uR (decide (z < 0)) (lim z.natAbs) = true := by
 unfold uR;rw [Ai,Cz,Ai,Ai,An,An,An,An];refine ⟨h,?_⟩;rcases Bv (lim z.natAbs).length with h0 | h0
 ·refine Or.inl ⟨h0,?_⟩;have h1 := lim_nil.1 (Bk h0);have h2 : z = 0 := by omega
  subst h2;rfl
 ·exact Or.inr ⟨h0,qT0 h0⟩
theorem zOks {a b : Int} (ha : (lim a.natAbs).length ≤ 128) (hb : (lim b.natAbs).length ≤ 128) : ∀ k < [(decide (a < 0),lim a.natAbs),(decide (b < 0),lim b.natAbs)].length,uR ([(decide (a < 0),lim a.natAbs),(decide (b < 0),lim b.natAbs)].getD k (false,[])).1 ([(decide (a < 0),lim a.natAbs),(decide (b < 0),lim b.natAbs)].getD k (false,[])).2 = true ∧ ([(decide (a < 0),lim a.natAbs),(decide (b < 0),lim b.natAbs)].getD k (false,[])).2.length ≤ 2000000 := by
 intro k hk;rcases k with _ | _ | k
 ·exact ⟨zOk ha,by show (lim a.natAbs).length ≤ 2000000;omega⟩
 ·exact ⟨zOk hb,by show (lim b.natAbs).length ≤ 2000000;omega⟩
 ·exact absurd hk (by simp)
theorem ZI_not (b : Int) : ZI (!decide (b < 0)) b.natAbs = -b := by
 unfold ZI;by_cases h : b < 0
 ·simp [h];omega
 ·simp [h];omega
theorem yO1 (q : Bool) (n : Nat) : (ZI q n).natAbs = n := by cases q <;> unfold ZI <;> simp
theorem ZI_mul (s t : Bool) (x y : Nat) : ZI (!(s == t)) (x * y) = ZI s x * ZI t y := by
 cases s <;> cases t <;> unfold ZI <;> simp [Int.neg_mul,Int.mul_neg]
theorem mulZ (a b : Int) : ZI (!(decide (a < 0) == decide (b < 0))) (a.natAbs * b.natAbs) = a * b := by rw [ZI_mul,gH0,gH0]
theorem yL0 (s t : Bool) (x y : Nat) (hx : (lim x).length ≤ 128) (hy : (lim y).length ≤ 128) : Fn Tryz.prog 225 [.agg (iV (s,lim x)),.agg (iV (t,lim y))] (sgD (plSg s x t y) (lim (plN s x t y))) := by
 have hcm := cmpN_neg x y;refine yE zK Tryz.func225 rfl rfl rfl rfl rfl rfl ?_;intro w0 s0 mx;refine zJ 100 ?_;refine zB (zJ 200 ?_);refine zY (fun c1 => ?_) (fun c1 => ?_)
 ·
  refine zB (zE zK [] 300 rfl ?_);refine zF ?_;refine zP _ (vB0 _ _ (by omega) (by omega) (lim_add600 hx hy)) rfl ?_;refine zF ?_;refine zC (zA ?_);refine zB (zE zK [] 400 rfl ?_);refine zF ?_;refine zP _ (vW _ _) rfl ?_;refine zF ?_;refine zC (zA (zL (zN ?_)));have hst : s = t := by simpa using c1
  exact u4 rfl (u9 (by rw [plSg,plN,Ae hst,Ae hst];rfl))
 ·
  refine zM (zA (zB ?_));refine zB (zE zK [] 500 rfl ?_);refine zF ?_;refine zP _ (cM _ _ (by omega) (by omega)) rfl ?_;refine zF ?_;refine zC (zA (zJ 600 ?_));refine zY (fun c5 => ?_) (fun c5 => ?_)
  ·
   refine yM zK [] 700 ?_;refine zA ?_;refine zB (zE zK [] 800 rfl ?_);refine zF ?_;refine zP _ (cK _ _ (by omega) (by omega) (by omega)) rfl ?_;refine zF ?_;refine zC (zA ?_);refine zB (zE zK [] 900 rfl ?_);refine zF ?_;refine zP _ (vW _ _) rfl ?_;refine zF ?_;refine zC (zA (zL ?_));have hst : ¬ s = t := by simpa using c1
   by_cases hxy : x < y
   ·first | (exact absurd hxy (by omega)) | exact u4 rfl (u9 (by rw [plSg,plN,Aa hst,Aa hst,Ae hxy,Ae hxy];rfl))
   ·first | (exact absurd hxy (by omega)) | exact u4 rfl (u9 (by rw [plSg,plN,Aa hst,Aa hst,Aa hxy,Aa hxy];rfl))
  ·
   refine zM (zA ?_);refine zB (zE zK [] 800 rfl ?_);refine zF ?_;refine zP _ (cK _ _ (by omega) (by omega) (by omega)) rfl ?_;refine zF ?_;refine zC (zA ?_);refine zB (zE zK [] 900 rfl ?_);refine zF ?_;refine zP _ (vW _ _) rfl ?_;refine zF ?_;refine zC (zA (zL ?_));have hst : ¬ s = t := by simpa using c1
   by_cases hxy : x < y
   ·first | (exact absurd hxy (by omega)) | exact u4 rfl (u9 (by rw [plSg,plN,Aa hst,Aa hst,Ae hxy,Ae hxy];rfl))
   ·first | (exact absurd hxy (by omega)) | exact u4 rfl (u9 (by rw [plSg,plN,Aa hst,Aa hst,Aa hxy,Aa hxy];rfl))
theorem intAdd_ok (a b : Int) (ha : (lim a.natAbs).length ≤ 128) (hb : (lim b.natAbs).length ≤ 128) (hab : (lim (a + b).natAbs).length ≤ 128) : Fn Tryz.prog 227 [.agg (zV a),.agg (zV b)] (.tup [.agg (zV (a + b)),faD 0 0]) := by
 have e := plZ (decide (a < 0)) (decide (b < 0)) a.natAbs b.natAbs;rw [gH0,gH0] at e;have e2 : (ZI (plSg (decide (a < 0)) a.natAbs (decide (b < 0)) b.natAbs) (plN (decide (a < 0)) a.natAbs (decide (b < 0)) b.natAbs)).natAbs = plN (decide (a < 0)) a.natAbs (decide (b < 0)) b.natAbs := by generalize plSg (decide (a < 0)) a.natAbs (decide (b < 0)) b.natAbs = q;cases q <;> unfold ZI <;> simp
 rw [e] at e2;refine yE zK Tryz.func227 rfl rfl rfl rfl rfl rfl ?_;intro w0 s0 mx;refine zJ 100 ?_;refine zB ?_;refine zB (zE zK [] 200 rfl ?_);refine zF ?_;refine zP _ ((wK [(decide (a < 0),lim a.natAbs),(decide (b < 0),lim b.natAbs)] (zOks ha hb) (by show 2 ≤ 100;omega)).args ⟨SubP.slrSl rfl,trivial⟩) rfl ?_;refine zF ?_;refine zC (zA (zJ 300 ?_));refine zY (fun c2 => ?_) (fun c2 => ?_)
 ·
  exact absurd c2 (by decide)
 ·
  refine zM (zA ?_);refine zB (zE zK [] 500 rfl ?_);refine zF ?_;refine zP _ (yL0 (decide (a < 0)) (decide (b < 0)) a.natAbs b.natAbs ha hb) rfl ?_;refine zF ?_;refine zC (zA (zL ?_));exact u4 rfl (u9 (by have e3 := sg_z (b := plSg (decide (a < 0)) a.natAbs (decide (b < 0)) b.natAbs) (n := plN (decide (a < 0)) a.natAbs (decide (b < 0)) b.natAbs) (by rw [← e2];exact hab);rw [e] at e3;exact e3))
theorem intSub_ok (a b : Int) (ha : (lim a.natAbs).length ≤ 128) (hb : (lim b.natAbs).length ≤ 128) (hab : (lim (a - b).natAbs).length ≤ 128) : Fn Tryz.prog 180 [.agg (zV a),.agg (zV b)] (.tup [.agg (zV (a - b)),faD 0 0]) := by
 have e := plZ (decide (a < 0)) (!decide (b < 0)) a.natAbs b.natAbs;rw [gH0,ZI_not,← Int.sub_eq_add_neg] at e;have e2 := yO1 (plSg (decide (a < 0)) a.natAbs (!decide (b < 0)) b.natAbs) (plN (decide (a < 0)) a.natAbs (!decide (b < 0)) b.natAbs);rw [e] at e2;refine yE zK Tryz.func180 rfl rfl rfl rfl rfl rfl ?_;intro w0 s0 mx;refine zJ 100 ?_;refine zB ?_;refine zB (zE zK [] 200 rfl ?_);refine zF ?_;refine zP _ ((wK [(decide (a < 0),lim a.natAbs),(decide (b < 0),lim b.natAbs)] (zOks ha hb) (by show 2 ≤ 100;omega)).args ⟨SubP.slrSl rfl,trivial⟩) rfl ?_;refine zF ?_;refine zC (zA (zJ 300 ?_));refine zY (fun c2 => ?_) (fun c2 => ?_)
 ·
  exact absurd c2 (by decide)
 ·
  refine zM (zA ?_);refine zB (zE zK [] 500 rfl ?_);refine zF ?_;refine zP _ (yL0 (decide (a < 0)) (!decide (b < 0)) a.natAbs b.natAbs ha hb) rfl ?_;refine zF ?_;refine zC (zA (zL ?_));exact u4 rfl (u9 (by have e3 := sg_z (b := plSg (decide (a < 0)) a.natAbs (!decide (b < 0)) b.natAbs) (n := plN (decide (a < 0)) a.natAbs (!decide (b < 0)) b.natAbs) (by rw [← e2];exact hab);rw [e] at e3;exact e3))
theorem intMul_ok (a b : Int) (ha : (lim a.natAbs).length ≤ 128) (hb : (lim b.natAbs).length ≤ 128) (hab : (lim (a * b).natAbs).length ≤ 128) : Fn Tryz.prog 226 [.agg (zV a),.agg (zV b)] (.tup [.agg (zV (a * b)),faD 0 0]) := by
 have e := mulZ a b;have e2 := yO1 (!(decide (a < 0) == decide (b < 0))) (a.natAbs * b.natAbs);rw [e] at e2;refine yE zK Tryz.func226 rfl rfl rfl rfl rfl rfl ?_;intro w0 s0 mx;refine zJ 100 ?_;refine zB ?_;refine zB (zE zK [] 200 rfl ?_);refine zF ?_;refine zP _ ((wK [(decide (a < 0),lim a.natAbs),(decide (b < 0),lim b.natAbs)] (zOks ha hb) (by show 2 ≤ 100;omega)).args ⟨SubP.slrSl rfl,trivial⟩) rfl ?_;refine zF ?_;refine zC (zA (zJ 300 ?_));refine zY (fun c2 => ?_) (fun c2 => ?_)
 ·
  exact absurd c2 (by decide)
 ·
  refine zM (zA ?_);refine zB (zE zK [] 500 rfl ?_);refine zF ?_;refine zP _ (cL _ _ (by omega) (by omega) (lim_mul600 ha hb)) rfl ?_;refine zF ?_;refine zC (zA ?_);refine zB (zE zK [] 600 rfl ?_);refine zF ?_;refine zP _ (vW _ _) rfl ?_;refine zF ?_;refine zC (zA (zL ?_));exact u4 rfl (u9 (by have e3 := sg_z (b := !(decide (a < 0) == decide (b < 0))) (n := a.natAbs * b.natAbs) (by rw [← e2];exact hab);rw [e] at e3;exact e3))
variable {md me : Bool}
theorem cmpZ_of {a b : Int} : (a < 0 → b < 0 → -uC a.natAbs b.natAbs = cmpZ a b) ∧ (a < 0 → ¬ b < 0 → -1 = cmpZ a b) ∧ (¬ a < 0 → b < 0 → 1 = cmpZ a b) ∧ (¬ a < 0 → ¬ b < 0 → uC a.natAbs b.natAbs = cmpZ a b) := by
 unfold cmpZ uC;refine ⟨fun h1 h2 => ?_,fun h1 h2 => ?_,fun h1 h2 => ?_,fun h1 h2 => ?_⟩
 ·by_cases h : a < b
  ·rw [Ae h,Aa (by omega),Ae (by omega)]
  ·rw [Aa h];by_cases h3 : b < a
   ·rw [Ae h3,Ae (by omega)];rfl
   ·rw [Aa h3,Aa (by omega),Aa (by omega)];rfl
 ·rw [Ae (by omega)]
 ·rw [Aa (by omega),Ae (by omega)]
 ·by_cases h : a < b
  ·rw [Ae h,Ae (by omega)]
  ·rw [Aa h,Aa (by omega)];by_cases h3 : b < a
   ·rw [Ae h3,Ae (by omega)]
   ·rw [Aa h3,Aa (by omega)]
theorem intCmp_ok (a b : Int) (ha : (lim a.natAbs).length ≤ 128) (hb : (lim b.natAbs).length ≤ 128) : Fn Tryz.prog 181 [.agg (zV a),.agg (zV b)] (.tup [.v (.int .i64 (cmpZ a b)),faD 0 0]) := by
 have hcz := @cmpZ_of a b;have hcn : -1 ≤ uC a.natAbs b.natAbs ∧ uC a.natAbs b.natAbs ≤ 1 := by unfold uC;split;exact ⟨by decide,by decide⟩;split <;> exact ⟨by decide,by decide⟩
 refine yE zK Tryz.func181 rfl rfl rfl rfl rfl rfl ?_;intro w0 s0 mx;refine zJ 100 ?_;refine zB ?_;refine zB (zE zK [] 200 rfl ?_);refine zF ?_;refine zP _ ((wK [(decide (a < 0),lim a.natAbs),(decide (b < 0),lim b.natAbs)] (zOks ha hb) (by show 2 ≤ 100;omega)).args ⟨SubP.slrSl rfl,trivial⟩) rfl ?_;refine zF ?_;refine zC (zA (zJ 300 ?_));refine zY (fun c2 => ?_) (fun c2 => ?_)
 ·
  exact absurd c2 (by decide)
 ·
  refine zM (zA ?_);refine zB (zE zK [] 500 rfl ?_);refine zF ?_;refine zP _ (cM _ _ (by omega) (by omega)) rfl ?_;refine zF ?_;refine zC (zA (zB (zR (zJ 600 ?_))));refine zY (fun c5 => ?_) (fun c5 => ?_)
  ·
   refine zJ 700 ?_;refine zL (zQ (zN ?_));have h := hcz.1 (by omega) (by omega);exact u4 rfl (u19 ⟨u10 (by rw [InI.wrap (ini (by omega) (by omega)),← h];omega),u6 _,trivial⟩)
  ·
   refine zJ 800 ?_;refine zY (fun c7 => ?_) (fun c7 => ?_)
   ·
    refine zJ 900 ?_;refine zL (zQ (zN ?_));exact u4 rfl (u19 ⟨u10 (by first | (have h := hcz.1 (by first | omega | (clear hcz;simp_all;done) | (clear hcz;simp_all;omega)) (by first | omega | (clear hcz;simp_all;done) | (clear hcz;simp_all;omega));first | exact h | omega | (rw [← h];simp;done)) | exact hcz.2.1 (by first | omega | (clear hcz;simp_all;done) | (clear hcz;simp_all;omega)) (by first | omega | (clear hcz;simp_all;done) | (clear hcz;simp_all;omega)) | exact hcz.2.2.1 (by first | omega | (clear hcz;simp_all;done) | (clear hcz;simp_all;omega)) (by first | omega | (clear hcz;simp_all;done) | (clear hcz;simp_all;omega)) | exact hcz.2.2.2 (by first | omega | (clear hcz;simp_all;done) | (clear hcz;simp_all;omega)) (by first | omega | (clear hcz;simp_all;done) | (clear hcz;simp_all;omega))),u6 _,trivial⟩)
   ·
    refine zJ 1000 ?_;refine zY (fun c9 => ?_) (fun c9 => ?_)
    ·
     refine zJ 1100 ?_;refine zL (zQ (zN ?_));exact u4 rfl (u19 ⟨u10 (by first | (have h := hcz.1 (by first | omega | (clear hcz;simp_all;done) | (clear hcz;simp_all;omega)) (by first | omega | (clear hcz;simp_all;done) | (clear hcz;simp_all;omega));first | exact h | omega | (rw [← h];simp;done)) | exact hcz.2.1 (by first | omega | (clear hcz;simp_all;done) | (clear hcz;simp_all;omega)) (by first | omega | (clear hcz;simp_all;done) | (clear hcz;simp_all;omega)) | exact hcz.2.2.1 (by first | omega | (clear hcz;simp_all;done) | (clear hcz;simp_all;omega)) (by first | omega | (clear hcz;simp_all;done) | (clear hcz;simp_all;omega)) | exact hcz.2.2.2 (by first | omega | (clear hcz;simp_all;done) | (clear hcz;simp_all;omega)) (by first | omega | (clear hcz;simp_all;done) | (clear hcz;simp_all;omega))),u6 _,trivial⟩)
    ·
     refine zM (zO (zA (zJ 1200 ?_)));refine zL ?_;exact u4 rfl (u19 ⟨u10 (by first | (have h := hcz.1 (by first | omega | (clear hcz;simp_all;done) | (clear hcz;simp_all;omega)) (by first | omega | (clear hcz;simp_all;done) | (clear hcz;simp_all;omega));first | exact h | omega | (rw [← h];simp;done)) | exact hcz.2.1 (by first | omega | (clear hcz;simp_all;done) | (clear hcz;simp_all;omega)) (by first | omega | (clear hcz;simp_all;done) | (clear hcz;simp_all;omega)) | exact hcz.2.2.1 (by first | omega | (clear hcz;simp_all;done) | (clear hcz;simp_all;omega)) (by first | omega | (clear hcz;simp_all;done) | (clear hcz;simp_all;omega)) | exact hcz.2.2.2 (by first | omega | (clear hcz;simp_all;done) | (clear hcz;simp_all;omega)) (by first | omega | (clear hcz;simp_all;done) | (clear hcz;simp_all;omega))),u6 _,trivial⟩)
theorem cD (a : Int) (ha : (lim a.natAbs).length ≤ 40) : Fn Tryz.prog 120 [.agg (zV a)] (.v (.bool true)) := by
 have hk := zOk (z := a) (by omega);refine yE zK Tryz.func120 rfl rfl rfl rfl rfl rfl ?_;intro w0 s0 mx;refine zJ 100 ?_;refine zB (zE zK [] 200 rfl ?_);refine zF ?_;refine zP _ (gF (decide (a < 0)) (lim a.natAbs) (by omega)) rfl ?_;refine zF ?_;refine zC (zA (zL ?_));exact u4 rfl (u7 (by simp [hk];omega))
variable {md me : Bool}
theorem qJ0 (a b : Int) (ha : (lim a.natAbs).length ≤ 128) (hb : (lim b.natAbs).length ≤ 128) (hab : (lim (a + b).natAbs).length ≤ 128) : Fn Tryz.prog 184 [.agg (zV a),.agg (zV b)] (.agg (zV (a + b))) := by
 refine yE zK Tryz.func184 rfl rfl rfl rfl rfl rfl ?_;intro w0 s0 mx;refine zJ 100 ?_;refine zB (zE zK [] 200 rfl ?_);refine zF ?_;refine zP _ (intAdd_ok a b ha hb hab) rfl ?_;refine zF ?_;refine zC (zA (zJ 300 ?_));refine zL ?_;exact u4 rfl (u6 _)
theorem gA (a b : Int) (ha : (lim a.natAbs).length ≤ 128) (hb : (lim b.natAbs).length ≤ 128) (hab : (lim (a - b).natAbs).length ≤ 128) : Fn Tryz.prog 122 [.agg (zV a),.agg (zV b)] (.agg (zV (a - b))) := by
 refine yE zK Tryz.func122 rfl rfl rfl rfl rfl rfl ?_;intro w0 s0 mx;refine zJ 100 ?_;refine zB (zE zK [] 200 rfl ?_);refine zF ?_;refine zP _ (intSub_ok a b ha hb hab) rfl ?_;refine zF ?_;refine zC (zA (zJ 300 ?_));refine zL ?_;exact u4 rfl (u6 _)
theorem gY0 (a b : Int) (ha : (lim a.natAbs).length ≤ 128) (hb : (lim b.natAbs).length ≤ 128) (hab : (lim (a * b).natAbs).length ≤ 128) : Fn Tryz.prog 182 [.agg (zV a),.agg (zV b)] (.agg (zV (a * b))) := by
 refine yE zK Tryz.func182 rfl rfl rfl rfl rfl rfl ?_;intro w0 s0 mx;refine zJ 100 ?_;refine zB (zE zK [] 200 rfl ?_);refine zF ?_;refine zP _ (intMul_ok a b ha hb hab) rfl ?_;refine zF ?_;refine zC (zA (zJ 300 ?_));refine zL ?_;exact u4 rfl (u6 _)
theorem mZ (a b : Int) (ha : (lim a.natAbs).length ≤ 128) (hb : (lim b.natAbs).length ≤ 128) : Fn Tryz.prog 124 [.agg (zV a),.agg (zV b)] (.v (.bool (decide (a < b)))) := by
 refine yE zK Tryz.func124 rfl rfl rfl rfl rfl rfl ?_;intro w0 s0 mx;refine zJ 100 ?_;refine zB (zE zK [] 200 rfl ?_);refine zF ?_;refine zP _ (intCmp_ok a b ha hb) rfl ?_;refine zF ?_;refine zC (zA (zJ 300 ?_));refine zL ?_;exact u4 rfl (u7 (by unfold cmpZ;split <;> (try split) <;> simp_all <;> omega))
abbrev rgD (a b c : Int) : List D := [.v (.bool (decide (a < 0))),usD (lim a.natAbs),.v (.bool (decide (b < 0))),usD (lim b.natAbs),.v (.bool (decide (c < 0))),usD (lim c.natAbs)]
theorem rgValid_ok (a b c : Int) (ha : (lim a.natAbs).length ≤ 40) (hb : (lim b.natAbs).length ≤ 40) (hc : (lim c.natAbs).length ≤ 40) (h0 : 0 < (lim c.natAbs).length) : Fn Tryz.prog 117 [.agg (rgD a b c)] (.v (.bool true)) := by
 refine yE zK Tryz.func117 rfl rfl rfl rfl rfl rfl ?_;intro w0 s0 mx;refine zJ 100 ?_;refine zB (zE zK [] 200 rfl ?_);refine zF ?_;refine zP _ (cD a ha) rfl ?_;refine zF ?_;refine yJ _ (fun hg6 => cD _ (by first | assumption | omega | (simp_all;done))) rfl ?_;refine zF ?_;refine yJ _ (fun hg11 => cD _ (by first | assumption | omega | (simp_all;done))) rfl ?_;refine zF ?_;refine zC (zA (zL ?_));exact u4 rfl (u7 (by simp_all))
structure KD (U V H u2 v1 v2 : Nat) where
 E : Nat
 u' : Nat
 v' : Nat
 hU : U = H * (4294967296 * E) + u2 * E + u'
 hV : V = v1 * (4294967296 * E) + v2 * E + v'
 lu : u' < E
 lv : v' < E
 lu2 : u2 < 4294967296
 lv2 : v2 < 4294967296
 lv1 : 0 < v1
 lt : U < V * 4294967296
theorem kQ0 {g v1 r H : Nat} (e : g * v1 + r = H) (E : Nat) : H * (4294967296 * E) = g * v1 * (4294967296 * E) + r * 4294967296 * E := by rw [← e,Bf,Bo r]
section
variable {U V H u2 v1 v2 : Nat} (K : KD U V H u2 v1 v2)
include K
theorem KD.V_pos : 0 < V := by
 have h1 := K.lv;have h2 := K.lv1;have h3 : 0 < v1 * (4294967296 * K.E) := Nat.mul_pos h2 (by omega);have := K.hV;omega
theorem KD.V_lt : V < (v1 + 1) * (4294967296 * K.E) := by
 have h1 := K.hV;have h2 : (v2 + 1) * K.E ≤ 4294967296 * K.E := Bh _ K.lv2;have h3 := K.lv;rw [Bf] at h2 ⊢;omega
theorem KD.U_lt : U < (H + 1) * (4294967296 * K.E) := by
 have h1 := K.hU;have h2 : (u2 + 1) * K.E ≤ 4294967296 * K.E := Bh _ K.lu2;have h3 := K.lu;rw [Bf] at h2 ⊢;omega
theorem KD.H_lt : H < (v1 + 1) * 4294967296 := by
 have h1 := K.V_lt;have h2 := K.lt;have h3 : V * 4294967296 < (v1 + 1) * (4294967296 * K.E) * 4294967296 := by omega
 have h4 : H * (4294967296 * K.E) < (v1 + 1) * 4294967296 * (4294967296 * K.E) := by
  have := K.hU;rw [Nat.mul_right_comm (v1 + 1)];omega
 exact Nat.lt_of_mul_lt_mul_right h4
theorem KD.q_lt : U / V < 4294967296 := (Dh K.V_pos).2 (by rw [Au];exact K.lt)
theorem KD.q_le : U / V ≤ H / v1 := by
 rw [Nat.le_div_iff_mul_le K.lv1];have h1 : U / V * V ≤ U := Nat.div_mul_le_self U V;have h2 := K.U_lt;have h3 : U / V * v1 * (4294967296 * K.E) ≤ U / V * V := by
  rw [Bo];refine Ch _ ?_;have := K.hV;omega
 exact Nat.le_of_lt_succ (Nat.lt_of_mul_lt_mul_right (Nat.lt_of_le_of_lt (Av h3 h1) h2))
theorem KD.down {g r : Nat} (e : g * v1 + r = H) (hq : U / V ≤ g) (h : 4294967296 ≤ g ∨ r * 4294967296 + u2 < g * v2) : U / V < g := by
 rcases Bs (U / V) g with h0 | h0
 ·exact h0
 ·exfalso;have hb := K.q_lt;have h := h.resolve_left (by omega);have h1 : g * V ≤ U := Av (Bh _ h0) (Nat.div_mul_le_self U V);rw [K.hV,Br,Br,← Bo,← Bo g v2] at h1;have h2 := K.hU;have h3 := K.lu;have h4 := kQ0 e K.E;have h5 : (r * 4294967296 + u2 + 1) * K.E ≤ g * v2 * K.E := Bh _ h;rw [Bf,Bf] at h5;omega
theorem KD.fin {g r : Nat} (e : g * v1 + r = H) (hq : U / V ≤ g) (h : 4294967296 ≤ r ∨ g < 4294967296 ∧ g * v2 ≤ r * 4294967296 + u2) : g < 4294967296 ∧ g ≤ U / V + 1 := by
 have hU := K.hU;have h4 := kQ0 e K.E;have hV : g * V = g * v1 * (4294967296 * K.E) + g * v2 * K.E + g * K.v' := by
  conv => lhs;rw [K.hV]
  rw [Br,Br,← Bo,← Bo g v2]
 have hg : g < 4294967296 := by
  rcases h with h | h
  ·have h1 := K.H_lt;rw [Bf] at h1;have h2 : g * v1 < 4294967296 * v1 := by rw [Au 4294967296];omega
   exact Nat.lt_of_mul_lt_mul_right h2
  ·exact h.1
 refine ⟨hg,?_⟩;have hv' : g * K.v' ≤ 4294967296 * K.E := Nat.mul_le_mul (Cr hg) (Cr K.lv);have hVp := K.V_pos;rcases h with h | h
 ·have h1 : (v2 * K.E + K.v') ≤ 4294967296 * K.E := by
   have h2 : (v2 + 1) * K.E ≤ 4294967296 * K.E := Bh _ K.lv2;have h3 := K.lv;rw [Bf] at h2;omega
  have h2 : g * (v2 * K.E + K.v') ≤ r * (4294967296 * K.E) := Nat.mul_le_mul (by omega) h1;rw [Br,← Bo,← Bo] at h2;have : g * V ≤ U := by omega
  have := (Nat.le_div_iff_mul_le hVp).2 this;omega
 ·have h1 : g * v2 * K.E ≤ (r * 4294967296 + u2) * K.E := Bh _ h.2;rw [Bf] at h1;have h2 : 4294967296 * K.E ≤ V := by
   have h3 : 1 * (4294967296 * K.E) ≤ v1 * (4294967296 * K.E) := Bh _ K.lv1;have := K.hV;omega
  have h3 : g * V ≤ U + V := by omega
  have h4 : (g - 1) * V ≤ U := by rw [Nat.sub_mul];omega
  have := (Nat.le_div_iff_mul_le hVp).2 h4;omega
end
theorem kd_lists {u v : List Nat} {n : Nat} (hu : u.length = n + 1) (hv : v.length = n) (hn : 2 ≤ n) (gu : Lg u) (gv : Lg v) (ht : 0 < v.getD (n - 1) 0) (h : VL u < VL v * 4294967296) :
  Nonempty (KD (VL u) (VL v) (u.getD n 0 * 4294967296 + u.getD (n - 1) 0) (u.getD (n - 2) 0) (v.getD (n - 1) 0) (v.getD (n - 2) 0)) := by
 obtain ⟨m,rfl⟩ : ∃ m,n = m + 2 := ⟨n - 2,by omega⟩;rw [show m + 2 - 1 = m + 1 by omega,show m + 2 - 2 = m by omega] at *;have t1 := pD0 hu;have t2 := qM u (m + 1);have t3 := qM u m;have s1 := pD0 (l := v) (n := m + 1) hv;have s2 := qM v m;have lu := L_lt (gu.take m);have lv := L_lt (gv.take m);rw [Ap,Cy (by omega)] at lu lv;have p1 : 4294967296 ^ (m + 1) = 4294967296 * 4294967296 ^ m := by rw [Bx,Au]
 have p2 : 4294967296 ^ (m + 2) = 4294967296 * (4294967296 * 4294967296 ^ m) := by rw [Bx,Bx,Au,Au (4294967296 ^ m)]
 rw [p2] at t1;rw [p1] at t2 s1;refine ⟨⟨4294967296 ^ m,VL (u.take m),VL (v.take m),?_,?_,lu,lv,qG gu _,qG gv _,ht,h⟩⟩
 ·rw [t1,t2,t3,Bf,Au (4294967296 ^ m),Au (u.getD (m + 2) 0 * 4294967296),Au (u.getD (m + 1) 0)];have e : 4294967296 * (4294967296 * 4294967296 ^ m) * u.getD (m + 2) 0 = 4294967296 * 4294967296 ^ m * (u.getD (m + 2) 0 * 4294967296) := by
   rw [Au (u.getD (m + 2) 0),← Bo (4294967296 * 4294967296 ^ m),Au 4294967296 (4294967296 * 4294967296 ^ m)]
  omega
 ·rw [s1,s2,Au (4294967296 ^ m),Au (v.getD (m + 1) 0)];omega
structure Gu (U V H v1 : Nat) where
 g : Nat
 r : Nat
 e : g * v1 + r = H
 q : U / V ≤ g
 lr : r < 4294967296
def Gu.start {U V H u2 v1 v2 : Nat} (K : KD U V H u2 v1 v2) (h : v1 < 4294967296) : Gu U V H v1 := ⟨H / v1,H % v1,by rw [Au];exact Cl H v1,K.q_le,Nat.lt_trans (Ce _ K.lv1) h⟩
theorem Gu.pos {U V H u2 v1 v2 : Nat} (x : Gu U V H v1) (K : KD U V H u2 v1 v2) (h : 4294967296 ≤ x.g ∨ x.r * 4294967296 + u2 < x.g * v2) : U / V ≤ x.g - 1 ∧ 0 < x.g ∧ (x.g - 1) * v1 + (x.r + v1) = H := by
 have h1 := K.down x.e x.q h;have h2 := x.e;have h0 : 0 < x.g := Nat.lt_of_le_of_lt (Ar _) h1;refine ⟨Nat.le_sub_one_of_lt h1,h0,?_⟩;have h3 : (x.g - 1 + 1) * v1 = (x.g - 1) * v1 + v1 := by rw [Bf,Nat.one_mul]
 rw [show x.g - 1 + 1 = x.g from Nat.sub_add_cancel h0] at h3;clear h1 h;omega
def Gu.next {U V H u2 v1 v2 : Nat} (x : Gu U V H v1) (K : KD U V H u2 v1 v2) (h : 4294967296 ≤ x.g ∨ x.r * 4294967296 + u2 < x.g * v2) (hr : x.r + v1 < 4294967296) : Gu U V H v1 := ⟨x.g - 1,x.r + v1,(x.pos K h).2.2,(x.pos K h).1,hr⟩
theorem Gu.stop {U V H u2 v1 v2 : Nat} (x : Gu U V H v1) (K : KD U V H u2 v1 v2) (h : 4294967296 ≤ x.g ∨ x.r * 4294967296 + u2 < x.g * v2) (hr : 4294967296 ≤ x.r + v1) : x.g - 1 < 4294967296 ∧ U / V ≤ x.g - 1 ∧ x.g - 1 ≤ U / V + 1 :=
 have h1 := K.fin (x.pos K h).2.2 (x.pos K h).1 (Or.inl hr)
 ⟨h1.1,(x.pos K h).1,h1.2⟩
theorem Gu.done {U V H u2 v1 v2 : Nat} (x : Gu U V H v1) (K : KD U V H u2 v1 v2) (h : x.g < 4294967296) (h2 : x.g * v2 ≤ x.r * 4294967296 + u2) : x.g < 4294967296 ∧ U / V ≤ x.g ∧ x.g ≤ U / V + 1 :=
 have h1 := K.fin x.e x.q (Or.inr ⟨h,h2⟩)
 ⟨h1.1,x.q,h1.2⟩
structure SuD (u v : List Nat) (g : Nat) where
 k : Nat
 c : Nat
 b : Nat
 o : List Nat
 eq : VL o + g * VL (v.take k) = VL (u.take k) + (b + c) * 4294967296 ^ k
 lo : o.length = k
 lg : Lg o
 hc : c < 4294967296
 hb : b ≤ 1
 h0 : v.length < k → c = 0
 le : k ≤ u.length
def SuD.start (u v : List Nat) (g : Nat) : SuD u v g := ⟨0,0,0,[],by simp [VL],rfl,Lg.nil,by decide,by decide,fun _ => rfl,Ar _⟩
def SuD.s {u v : List Nat} {g : Nat} (x : SuD u v g) : Nat := x.c + g * v.getD x.k 0
theorem SuD.s_lt {u v : List Nat} {g : Nat} (x : SuD u v g) (hg : g < 4294967296) (gv : Lg v) : x.s < 18446744073709551616 := by
 have h1 := tG hg (qG gv x.k);have h3 := x.hc;unfold SuD.s;omega
theorem su_step {u v o : List Nat} {g k c b s y d : Nat} (h : VL o + g * VL (v.take k) = VL (u.take k) + (b + c) * 4294967296 ^ k) (ho : o.length = k) (hs : s = c + g * v.getD k 0) (hy : y + s % 4294967296 + b = u.getD k 0 + 4294967296 * d) :
  VL (o ++ [y]) + g * VL (v.take (k + 1)) = VL (u.take (k + 1)) + (d + s / 4294967296) * 4294967296 ^ (k + 1) := by
 rw [pX,ho,qM u,qM v,Bx,Br g];have e0 : g * (4294967296 ^ k * v.getD k 0) = 4294967296 ^ k * (g * v.getD k 0) := Nat.mul_left_comm _ _ _;rw [e0];generalize 4294967296 ^ k = B at *;generalize g * v.getD k 0 = M at *;generalize g * VL (v.take k) = R at *;have e : s = 4294967296 * (s / 4294967296) + s % 4294967296 := (Cl s 4294967296).symm;have e1 : y + b + c + M = u.getD k 0 + 4294967296 * (d + s / 4294967296) := by omega
 have e2 : B * y + B * b + B * c + B * M = B * u.getD k 0 + B * (4294967296 * (d + s / 4294967296)) := by rw [← Br,← Br,← Br,e1,Br]
 have e4 : (d + s / 4294967296) * (B * 4294967296) = B * (4294967296 * (d + s / 4294967296)) := by rw [Au,Bo]
 have e5 : (b + c) * B = B * b + B * c := by rw [Bf,Au b,Au c]
 omega
def SuD.next {u v : List Nat} {g : Nat} (x : SuD u v g) (gu : Lg u) (gv : Lg v) (hg : g < 4294967296) (h : x.k < u.length) : SuD u v g := ⟨x.k + 1,x.s / 4294967296,lsB (u.getD x.k 0) (x.s % 4294967296) x.b,x.o ++ [lsD (u.getD x.k 0) (x.s % 4294967296) x.b],su_step x.eq x.lo rfl (qA1 (qG gu _) (Ce _ (by decide)) x.hb),by simp [x.lo],x.lg.snoc (yZ1 _ _ _),by have := x.s_lt hg gv;omega,zS1 _ _ _,fun h1 => by
 have h2 : x.s = x.c := by unfold SuD.s;rw [uE (by omega)];omega
 rw [h2];exact Ee x.hc,h⟩
theorem SuD.fin {u v : List Nat} {g : Nat} (x : SuD u v g) (h : u.length ≤ x.k) (hl : v.length < u.length) : VL x.o + g * VL v = VL u + x.b * 4294967296 ^ u.length ∧ x.o.length = u.length := by
 have hk := x.le;have e : x.k = u.length := by omega
 have h1 := x.eq;rw [x.h0 (by omega),e,Ak (Aj _),Ak (by omega)] at h1;exact ⟨h1,by rw [x.lo,e]⟩
theorem dg_exact {u v : List Nat} {g : Nat} (x : SuD u v g) (h : u.length ≤ x.k) (hl : v.length < u.length) (hb : x.b = 0) (hp : 0 < VL v) (hq : VL u / VL v ≤ g) : g = VL u / VL v ∧ VL x.o = VL u % VL v := by
 have h1 := (x.fin h hl).1;rw [hb] at h1;have h2 : g * VL v ≤ VL u := by omega
 have h3 := (Nat.le_div_iff_mul_le hp).2 h2;have e : g = VL u / VL v := by omega
 refine ⟨e,?_⟩;have h4 := Cl (VL u) (VL v);rw [← e,Au] at h4;omega
theorem ad_fin {w v : List Nat} {n : Nat} (x : PlL w v) (hw : w.length = n + 1) (hv : v.length = n) (hk : x.k = n) : VL (x.o ++ [(w.getD n 0 + x.c) % 4294967296]) + (w.getD n 0 + x.c) / 4294967296 * 4294967296 ^ (n + 1) = VL w + VL v := by
 have h1 := x.eq;rw [hk,Ak (l := v) (by omega)] at h1;rw [pX,x.lo,hk,pD0 hw,Bx];generalize w.getD n 0 = t at *;generalize x.c = c at *;generalize 4294967296 ^ n = B at *;have e := Cl (t + c) 4294967296;have e2 : B * (t + c) = B * (4294967296 * ((t + c) / 4294967296)) + B * ((t + c) % 4294967296) := by rw [← Br,e]
 have e3 : B * (t + c) = B * t + B * c := Br _ _ _;have e4 : (t + c) / 4294967296 * (B * 4294967296) = B * (4294967296 * ((t + c) / 4294967296)) := by rw [Au,Bo]
 have e5 : c * B = B * c := Au _ _;omega
theorem dg_back {u v : List Nat} {g n : Nat} (x : SuD u v g) (hu : u.length = n + 1) (hv : v.length = n) (h : u.length ≤ x.k) (gv : Lg v) (hb : x.b = 1) (hp : 0 < VL v) (hq : g ≤ VL u / VL v + 1) (y : PlL x.o v) (hk : y.k = n) :
  0 < g ∧ g - 1 = VL u / VL v ∧ VL (y.o ++ [(x.o.getD n 0 + y.c) % 4294967296]) = VL u % VL v := by
 obtain ⟨h1,h2⟩ := x.fin h (by omega);rw [hb,hu] at h1;have h3 := ad_fin y (by omega) hv hk;have h4 := L_lt x.lg;rw [h2,hu] at h4;have h5 : Lg (y.o ++ [(x.o.getD n 0 + y.c) % 4294967296]) := y.lg.snoc (Ce _ (by decide));have h6 := L_lt h5;rw [Am,y.lo,hk,Ec] at h6;have h7 : VL u < g * VL v := by omega
 have h8 : VL u / VL v < g := (Dh hp).2 h7;have e : g = VL u / VL v + 1 := Nat.le_antisymm hq h8;have h9 := Cl (VL u) (VL v);have h10 := Ce (VL u) hp;have h11 := L_lt gv;rw [hv] at h11;have h12 : 4294967296 ^ n ≤ 4294967296 ^ (n + 1) := Be (by decide) (by omega);refine ⟨by rw [e];exact Nat.succ_pos _,by rw [e];exact Nat.add_sub_cancel _ _,?_⟩;have h13 : g * VL v = VL v * (VL u / VL v) + VL v := by rw [e,Bf,Nat.one_mul,Au]
 generalize VL (y.o ++ [(x.o.getD n 0 + y.c) % 4294967296]) = R at *;generalize (x.o.getD n 0 + y.c) / 4294967296 = d at *;generalize 4294967296 ^ (n + 1) = B at *;generalize VL v * (VL u / VL v) = Q at *;generalize VL u % VL v = M at *;clear h7 h8 hq;have h14 : R + d * B = M + B := by omega
 have h15 : d = 1 := by
  rcases Bs d 1 with h16 | h16
  ·rw [show d = 0 by omega] at h14;omega
  ·rcases Bs d 2 with h17 | h17
   ·omega
   ·have : 2 * B ≤ d * B := Bh _ h17;omega
 rw [h15] at h14;omega
theorem win_V {U : List Nat} {j n V : Nat} (hg : Lg U) (hj : j + n + 1 ≤ U.length) (hV : V ≤ 4294967296 ^ n) (hlt : VL (U.drop (j + 1)) < V) :
  VL ((U.drop j).take (n + 1)) = VL (U.drop j) ∧ VL ((U.drop j).take (n + 1)) < V * 4294967296 ∧ VL (U.drop (j + n + 1)) = 0 ∧ VL (U.drop j) = U.getD j 0 + 4294967296 * VL (U.drop (j + 1)) := by
 have h1 := vN U j;have h2 := qG hg j;have h3 := wQ (U.drop j) (n + 1) (by rw [Bm];omega);rw [List.drop_drop,← Dw] at h3;have h4 : VL (U.drop j) < V * 4294967296 := by omega
 have h5 : V * 4294967296 ≤ 4294967296 ^ (n + 1) := by rw [Bx];exact Bh _ hV
 have h6 : VL (U.drop (j + n + 1)) = 0 := by
  rcases Bv (VL (U.drop (j + n + 1))) with h | h
  ·exact h
  ·have : 4294967296 ^ (n + 1) * 1 ≤ 4294967296 ^ (n + 1) * VL (U.drop (j + n + 1)) := Ch _ h;omega
 rw [h6,Nat.mul_zero,Cb] at h3;exact ⟨h3.symm,by omega,h6,h1⟩
structure DvL (u v : List Nat) (m n : Nat) where
 k : Nat
 U : List Nat
 o : List Nat
 hU : U.length = m + n
 gU : Lg U
 ho : o.length = m
 go : Lg o
 low : U.take k = u.take k
 lt : VL (U.drop k) < VL v
 eq : VL (u.drop k) = VL (o.drop k) * VL v + VL (U.drop k)
 le : k ≤ m
def DvL.start {u v : List Nat} {m n : Nat} (hu : u.length = m + n) (gu : Lg u) (h : VL (u.drop m) < VL v) : DvL u v m n :=
 ⟨m,u,List.replicate m 0,hu,gu,by simp,tR _,rfl,h,by rw [Az (l := List.replicate m 0) (by simp),wK0,Nat.zero_mul,Cd],Aj _⟩
theorem drop_ge_congr {u U : List Nat} {k j : Nat} (h : U.take k = u.take k) (hj : j < k) : U.getD j 0 = u.getD j 0 := by
 have : (U.take k)[j]? = (u.take k)[j]? := by rw [h]
 rw [Cp,Cp,Ae hj,Ae hj] at this;rw [Ao,Ao,this]
section
variable {u v : List Nat} {m n : Nat}
def DvL.W (x : DvL u v m n) : List Nat := (x.U.drop (x.k - 1)).take (n + 1)
def DvL.q (x : DvL u v m n) : Nat := VL x.W / VL v
def DvL.R (x : DvL u v m n) : List Nat := x.U.take (x.k - 1) ++ limN (n + 1) (VL x.W % VL v) ++ x.U.drop (x.k - 1 + n + 1)
theorem DvL.facts (x : DvL u v m n) (gv : Lg v) (hv : v.length = n) (h : 0 < x.k) : VL x.W = VL (x.U.drop (x.k - 1)) ∧ VL x.W < VL v * 4294967296 ∧ VL (x.U.drop (x.k - 1 + n + 1)) = 0 ∧ VL (x.U.drop (x.k - 1)) = x.U.getD (x.k - 1) 0 + 4294967296 * VL (x.U.drop x.k) ∧ x.W.length = n + 1 ∧ Lg x.W ∧ x.q < 4294967296 := by
 have h1 := x.le;have h2 := x.hU;have h3 := L_lt gv;rw [hv] at h3;have h4 : x.k - 1 + 1 = x.k := by omega
 have h5 := win_V (U := x.U) (j := x.k - 1) (n := n) (V := VL v) x.gU (by omega) (Cr h3) (by rw [h4];exact x.lt);rw [h4] at h5;refine ⟨h5.1,h5.2.1,h5.2.2.1,h5.2.2.2,by unfold DvL.W;rw [Ap,Bm];omega,fun y hy => x.gU y (Df (Da hy)),?_⟩;unfold DvL.q;have hp : 0 < VL v := Nat.lt_of_le_of_lt (Ar _) x.lt;rw [Dh hp,Au];exact h5.2.1
theorem DvL.rlt (x : DvL u v m n) (gv : Lg v) (hv : v.length = n) : VL x.W % VL v < 4294967296 ^ (n + 1) := by
 have h3 := L_lt gv;rw [hv] at h3;have hp : 0 < VL v := Nat.lt_of_le_of_lt (Ar _) x.lt;have h4 := Ce (VL x.W) hp;have h5 : 4294967296 ^ n ≤ 4294967296 ^ (n + 1) := Be (by decide) (by omega);omega
theorem DvL.Rd (x : DvL u v m n) (gv : Lg v) (hv : v.length = n) (h : 0 < x.k) : x.R.length = m + n ∧ x.R.take (x.k - 1) = u.take (x.k - 1) ∧ VL (x.R.drop (x.k - 1)) = VL x.W % VL v ∧ Lg x.R := by
 have h1 := x.le;have h2 := x.hU;obtain ⟨f1,f2,f3,f4,f5,f6,f7⟩ := x.facts gv hv h;have ht : (x.U.take (x.k - 1)).length = x.k - 1 := by rw [Ap];omega
 refine ⟨?_,?_,?_,?_⟩
 ·unfold DvL.R;rw [Am,Am,gE,Bm,ht];omega
 ·unfold DvL.R;rw [Cx,Dv (by omega),List.take_take,Nat.min_self];have := x.low;have e : x.k - 1 = min (x.k - 1) x.k := by omega
  rw [e,← List.take_take,this,List.take_take]
 ·unfold DvL.R;rw [Cx,List.drop_append,Az (by omega),ht,Nat.sub_self,Dc,Dj,jY0,f3,Nat.mul_zero,Cb,mZ0 (x.rlt gv hv)]
 ·unfold DvL.R;intro y hy;rcases Bc.1 hy with hy | hy
  ·rcases Bc.1 hy with hy | hy
   ·exact x.gU y (Da hy)
   ·exact dW _ _ y hy
  ·exact x.gU y (Df hy)
theorem dv_step {a b q V W Q R S : Nat} (h1 : b = Q * V + S) (h2 : a + 4294967296 * S = W) (hq : V * q + R = W) : a + 4294967296 * b = (q + 4294967296 * Q) * V + R := by
 rw [h1,Br,Bf,Au q V,Bo 4294967296 Q V];omega
def DvL.next (x : DvL u v m n) (gv : Lg v) (hv : v.length = n) (h : 0 < x.k) : DvL u v m n :=
 ⟨x.k - 1,x.R,x.o.set (x.k - 1) x.q,(x.Rd gv hv h).1,(x.Rd gv hv h).2.2.2,by rw [Cv];exact x.ho,Lg.set x.go _ (x.facts gv hv h).2.2.2.2.2.2,(x.Rd gv hv h).2.1,by
  rw [(x.Rd gv hv h).2.2.1];exact Ce _ (Nat.lt_of_le_of_lt (Ar _) x.lt),by
  have h1 := x.le;have h2 := x.ho;obtain ⟨f1,f2,f3,f4,f5,f6,f7⟩ := x.facts gv hv h;rw [(x.Rd gv hv h).2.2.1,vN u,vN (x.o.set (x.k - 1) x.q),show x.k - 1 + 1 = x.k by omega,← drop_ge_congr x.low (show x.k - 1 < x.k by omega)];have e1 : (x.o.set (x.k - 1) x.q).getD (x.k - 1) 0 = x.q := by rw [Ao,List.getElem?_set_self (by omega)];rfl
  have e2 : (x.o.set (x.k - 1) x.q).drop x.k = x.o.drop x.k := by rw [List.drop_set_of_lt (by omega)]
  rw [e1,e2];exact dv_step x.eq (by rw [← f4,← f1]) (Cl _ _),by have := x.le;omega⟩
theorem DvL.fin (x : DvL u v m n) (h : x.k = 0) (gv : Lg v) (hv : v.length = n) : VL x.o = VL u / VL v ∧ VL (x.U.take n) = VL u % VL v := by
 have h1 := x.eq;have h2 := x.lt;have h3 := x.hU;rw [h,Dc,Dc,Dc] at h1;rw [h,Dc] at h2;have hp : 0 < VL v := Nat.lt_of_le_of_lt (Ar _) h2;have e1 : VL u / VL v = VL x.o := by
  rw [h1,Nat.add_comm,Nat.add_mul_div_right _ _ hp,Ee h2,Cd]
 have e2 : VL u % VL v = VL x.U := by
  rw [h1,Nat.add_comm,Nat.add_mul_mod_self_right,Dt h2]
 refine ⟨e1.symm,?_⟩;rw [e2];have h4 := L_lt gv;rw [hv] at h4;have h5 := wQ x.U n (by omega);rcases Bv (VL (x.U.drop n)) with h6 | h6
 ·rw [h6,Nat.mul_zero,Cb] at h5;exact h5.symm
 ·have : 4294967296 ^ n * 1 ≤ 4294967296 ^ n * VL (x.U.drop n) := Ch _ h6;omega
end
theorem top_lt {a b s n m L : Nat} (ha : a < 4294967296 ^ L) (hm : m + n = L + 1) (hn : 0 < n) (hs : 2 ^ s ≤ 2147483648) (hv : 2147483648 * 4294967296 ^ (n - 1) ≤ b) : VL ((limN (L + 1) (a * 2 ^ s)).drop m) < b := by
 have hP : 0 < 2 ^ s := Nat.pow_pos (by decide);have h1 : a * 2 ^ s < 4294967296 ^ L * 2 ^ s := Nat.mul_lt_mul_of_pos_right ha hP;have h2 : 4294967296 ^ L * 2 ^ s ≤ 4294967296 ^ (L + 1) := by rw [Bx];exact Ch _ (by omega)
 rw [← tX0 (dW _ _),mZ0 (by omega),Dh (Nat.pow_pos (by decide))];refine Bi h1 ?_;have h3 : 4294967296 ^ L = 4294967296 ^ (n - 1) * 4294967296 ^ m := by rw [← Ea];congr 1;omega
 rw [h3,Nat.mul_right_comm];refine Bh _ ?_;rw [Au];exact Av (Bh _ hs) hv
theorem sh_div (a b s : Nat) : a * 2 ^ s / (b * 2 ^ s) = a / b := Nat.mul_div_mul_right _ _ (Nat.pow_pos (by decide))
theorem sh_mod (a b s : Nat) : a * 2 ^ s % (b * 2 ^ s) / 2 ^ s = a % b := by rw [Nat.mul_mod_mul_right,Nat.mul_div_cancel _ (Nat.pow_pos (by decide))]
end Go.Proofs.YtinegkcbkefeiaaGreatDoor
