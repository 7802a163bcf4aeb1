/- Part 22 of the proof. -/
import Derived.Test.YtinegkcbkefeiaaGreatDoorN21
namespace Go.Proofs.YtinegkcbkefeiaaGreatDoor
open Go.RowKit
variable {md me : Bool}
theorem win_at {U : List Nat} {j n k : Nat} (hk : k <= n) : ((U.drop j).take (n + 1)).getD k 0 = U.getD (j + k) 0 := by
 rw [An,Ct,Ab om,De,An]
theorem win_len {U : List Nat} {j n : Nat} (h : j + n + 1 <= U.length) : ((U.drop j).take (n + 1)).length = n + 1 := by rw [As,Bm];omega
theorem win_Lg {U : List Nat} (h : Lg U) (j n : Nat) : Lg ((U.drop j).take n) := fun y hy => h y (Dh (Dc hy))
def wnC (U : List Nat) (j : Nat) (o : List Nat) : List Nat := (U.take j ++ o) ++ U.drop (j + o.length)
theorem xS {U : List Nat} {j : Nat} {o : List Nat} (h : j + o.length <= U.length) : (wnC U j o).length = U.length := by
 unfold wnC;rw [Ag,Ag,As,Bm];omega
theorem gL0 {U : List Nat} {j : Nat} {o : List Nat} (hU : Lg U) (ho : Lg o) : Lg (wnC U j o) := by
 intro y hy;rcases Az.1 hy with hy | hy
 ·rcases Az.1 hy with hy | hy
  ·exact hU y (Dc hy)
  ·exact ho y hy
 ·exact hU y (Dh hy)
theorem pT0 {U : List Nat} {j : Nat} : wnC U j [] = U := by unfold wnC;rw [Cn,Bc,Cb,Ec]
theorem zU0 {U : List Nat} {j : Nat} {o : List Nat} (h : j <= U.length) : (U.take j ++ o).length = j + o.length := by rw [Ag,As];omega
theorem tS {U : List Nat} {j k : Nat} {o : List Nat} (h : j <= U.length) (hk : o.length = k) : (wnC U j o).getD (j + k) 0 = U.getD (j + k) 0 := by
 subst hk;exact uP0 (zU0 h)
theorem yW0 {U : List Nat} {j k y : Nat} {o : List Nat} (hk : o.length = k) (h : j + k < U.length) : ((wnC U j o).map uD).set (j + k) (uD y) = (wnC U j (o ++ [y])).map uD := by
 subst hk;have h1 := qD0 (x := U) (o := U.take j ++ o) (k := j + o.length) (v := y) (zU0 om) h;unfold wnC;rw [Ag,Dm,<- Dx,<- Cz];exact h1
theorem wnC_drop {U : List Nat} {j n : Nat} {o : List Nat} (h : j <= U.length) (ho : o.length = n + 1) : wnC U j o = U.take j ++ o ++ U.drop (j + n + 1) := by unfold wnC;rw [ho];rfl
theorem wnC_wnC {U : List Nat} {j n : Nat} {o y : List Nat} (h : j + n + 1 <= U.length) (ho : o.length = n + 1) (hy : y.length = n + 1) : wnC (wnC U j o) j y = wnC U j y := by
 have e : wnC U j o = U.take j ++ (o ++ U.drop (j + o.length)) := by unfold wnC;rw [Cz]
 have ht : (U.take j).length = j := by rw [As];omega
 unfold wnC;rw [Dw (by rw [zU0 om];omega),Dw om,List.take_take,Nat.min_self,hy,List.drop_append,Ax (by rw [zU0 om,ho];omega),Da,List.drop_drop,zU0 om,ho];congr 2;omega
theorem pU0 {U : List Nat} {j n : Nat} {o : List Nat} (h : j <= U.length) (ho : o.length = n + 1) (k : Nat) (hk : k <= n) : (wnC U j o).getD (j + k) 0 = o.getD k 0 := by
 unfold wnC;rw [An,An,Bt (by rw [zU0 h];omega),Ce (by rw [As];omega),As,Db h,Nat.add_sub_cancel_left]
structure GuF (U V : Nat) where
 g : Nat
 lt : g < 4294967296
 lo : U / V <= g
 hi : g <= U / V + 1
theorem q64 {a b : Nat} (ha : a < 18446744073709551616) : IntKind.u64.wrap (Int.tdiv (a : Int) (b : Int)) = ((a / b : Nat) : Int) := by
 rw [<- Int.ofNat_tdiv];exact w64 (Nat.lt_of_le_of_lt (Nat.div_le_self _ _) ha)
theorem r64 {a b : Nat} : Int.tmod (a : Int) (b : Int) = ((a % b : Nat) : Int) := (Int.ofNat_tmod _ _).symm
theorem wT0 {g : Nat} (h0 : 0 < g) (h : g < 18446744073709551616) : IntKind.u64.wrap ((g : Int) - 1) = ((g - 1 : Nat) : Int) := by
 have e : (g : Int) - 1 = ((g - 1 : Nat) : Int) := by omega
 rw [e,w64 om]
theorem jI1 {h l : Nat} (hh : h < 4294967296) (hl : l < 4294967296) : bOr .u64 (IntKind.u64.wrap ((h : Int) * 2 ^ min (Int.toNat 32) IntKind.u64.bits)) (IntKind.u64.wrap (l : Int)) = ((h * 4294967296 + l : Nat) : Int) := by
 have := or64 hh hl
 rwa [w64 (n := h) om] at this
theorem qC1 {g v2 : Nat} (hg : g < 4294967296) (hv : v2 < 4294967296) : IntKind.u64.wrap ((g : Int) * IntKind.u64.wrap (v2 : Int)) = ((g * v2 : Nat) : Int) := by
 have h := tK hg hv;rw [w64 (n := v2) om,<- Int.natCast_mul,w64 om]
theorem gu_T {g r u2 v2 : Nat} (hr : r < 4294967296) (h2 : u2 < 4294967296) (hv : v2 < 4294967296) (c : ¬ Int.fdiv (g : Int) (2 ^ min (Int.toNat 32) IntKind.u64.bits) = 0 \/ bOr .u64 (IntKind.u64.wrap ((r : Int) * 2 ^ min (Int.toNat 32) IntKind.u64.bits)) (IntKind.u64.wrap (u2 : Int)) < IntKind.u64.wrap ((g : Int) * IntKind.u64.wrap (v2 : Int))) :
  4294967296 <= g \/ r * 4294967296 + u2 < g * v2 := by
 rcases Bs g 4294967296 with h | h
 ·right;rcases c with c | c
  ·rw [hi32 rfl,Eg h] at c;exact absurd rfl c
  ·rw [jI1 hr h2,qC1 h hv] at c;exact Int.ofNat_lt.1 c
 ·exact .inl h
theorem gu_F {g r u2 v2 : Nat} (hr : r < 4294967296) (h2 : u2 < 4294967296) (hv : v2 < 4294967296) (c : Int.fdiv (g : Int) (2 ^ min (Int.toNat 32) IntKind.u64.bits) = 0 /\ IntKind.u64.wrap ((g : Int) * IntKind.u64.wrap (v2 : Int)) <= bOr .u64 (IntKind.u64.wrap ((r : Int) * 2 ^ min (Int.toNat 32) IntKind.u64.bits)) (IntKind.u64.wrap (u2 : Int))) :
  g < 4294967296 /\ g * v2 <= r * 4294967296 + u2 := by
 obtain ⟨c1,c2⟩ := c;rw [hi32 rfl] at c1;have h : g < 4294967296 := by omega
 rw [jI1 hr h2,qC1 h hv] at c2;exact ⟨h,Int.ofNat_le.1 c2⟩
theorem jR1 (e : Int) : I32 (IntKind.u32.wrap e) := by
 unfold I32;simp only [IntKind.wrap,IntKind.signed,IntKind.bits,Cl,Ay,if_false];omega
theorem sud_s {u v : List Nat} {g : Nat} (y : SuD u v g) (hg : g < 4294967296) (gv : Lg v) : IntKind.u64.wrap ((y.c : Int) + IntKind.u64.wrap ((g : Int) * IntKind.u64.wrap ((v.getD y.k 0 : Nat) : Int))) = ((y.s : Nat) : Int) := by
 have h := y.s_lt hg gv;rw [qC1 hg (qG gv _),<- Int.natCast_add,w64 (by unfold SuD.s at h;exact h)];rfl
theorem sud_0 {u v : List Nat} {g : Nat} (y : SuD u v g) (h : v.length <= y.k) : (y.c : Int) = ((y.s : Nat) : Int) := by
 unfold SuD.s;rw [jX h,Nat.mul_zero,Cb]
theorem gu_le {U V H v1 : Nat} (x : Gu U V H v1) (h : 0 < v1) : x.g <= H := by
 have h1 := x.e;have h2 : x.g * 1 <= x.g * v1 := Ci _ h;omega
theorem uB {P : Program} {E : Pn} {K : DS -> Prop} {p : Prop} {r : Out} (hr : r.sat P E K) (hp : p := by first | exact trivial | omega | exact ⟨hm3,by rw [<- hm3];omega⟩ | exact ⟨hm2,by rw [<- hm2];omega⟩ | exact ⟨hm,by rw [<- hm];omega⟩ | exact ini om om | (constructor <;> omega) | (intro hh;simp only [Bp,Bw,Ak,Av] at hh;first | exact ⟨hm,by rw [<- hm];omega⟩ | omega | (constructor <;> omega) | exact ini om om) | (intro _;first | exact ⟨hm,by rw [<- hm];omega⟩ | omega | (constructor <;> omega) | exact ini om om) | (simp only [Ad];constructor <;> omega)) : (Out.need p r).sat P E K := ⟨hp,hr⟩
theorem natDigit_G (U v : List Nat) (q j n : Nat) (hU : U.length = q) (hj : j + n + 1 <= q) (hv : v.length = n) (hn : 2 <= n) (gU : Lg U) (gv : Lg v) (ht : 0 < v.getD (n - 1) 0) (hlt : VL ((U.drop j).take (n + 1)) < VL v * 4294967296) (hq : q <= 100000000) : FnG Tryz.prog 264 [.mw 0 q j 1 (n + 1),usD v] [.mrow 126 1 (.map U uD 0)] (.v (.int .u32 (VL ((U.drop j).take (n + 1)) / VL v : Nat))) [.mrow 126 1 (.map (wnC U j (limN (n + 1) (VL ((U.drop j).take (n + 1)) % VL v))) uD 0)] := by
 have hWa : ∀ k,k <= n -> ((U.drop j).take (n + 1)).getD k 0 = U.getD (j + k) 0 := fun k hk => win_at hk;have gW := win_Lg gU j (n + 1);have lW : ((U.drop j).take (n + 1)).length = n + 1 := win_len om;generalize ((U.drop j).take (n + 1)) = W at *;obtain ⟨K⟩ := kd_lists (u := W) (v := v) (n := n) lW hv hn gW gv ht hlt;have hV1 := qG gv (n - 1);have hp : 0 < VL v := K.V_pos;have hm : q = (MR.map U uD 0).len := hU.symm;have hHn := qG gW n;have hHn1 := qG gW (n - 1);have hHn2 := qG gW (n - 2);have hjn : (n : Int).toNat = n := Ad n;have hj1 : ((n : Int) - 1).toNat = n - 1 := by omega
 have hj2 : ((n : Int) - 2).toNat = n - 2 := by omega
 refine mK zL Tryz.func264 rfl rfl rfl rfl rfl rfl rfl ?_;intros;refine zB (zE zL [] 100 rfl ?_);repeat (first | refine zH ?_ | refine uB ?_)
 refine zC (zA ?_);refine zB (zE zL [] 200 rfl ?_);repeat (first | refine zH ?_ | refine uB ?_)
 refine zC (zA ?_);refine yW [0,1] [0] 210 [(5,.v (.int .i64 (n : Nat)))] [] ?_;refine ⟨⟨⟨u21 (by rw [hv]),yM⟩,yH,rfl,rfl⟩,?_⟩;refine zB (zZ zL [] [[],[],[0,1],[0,1,2],[0,1,2,3],(rgN 5),[],[],[7],[6,7,8],[6,7,8,9],[6,7,8,9,10],(rgN 12),[],[],[14],[13,14,15],[13,14,15,16],[13,14,15,16,17],(rgN 13),(rgN 20)] 300 yQ kr rfl ?_);repeat (first | refine zH ?_ | refine uB ?_)
 refine zC (zA ?_);refine yW [0,1,5] [0] 310 [(6,.v (.int .u64 ((W.getD n 0 * 4294967296 + W.getD (n - 1) 0) : Nat))),(7,.v (.int .u64 ((v.getD (n - 1) 0) : Nat)))] [] ?_;refine ⟨⟨⟨u21 (by simp only [hjn,hj1];rw [or64 (qG gU _) (qG gU _),hWa _ (Ao _),hWa _ om]),u21 (by simp only [hj1];exact w64 om),yM⟩,yH,rfl,rfl⟩,?_⟩;refine zB (zZ zL [] [[],[],[0,1],[],[],[3,4],[0,1,2],(rgN 7)] 400 yQ kr rfl ?_);repeat (first | refine zH ?_ | refine uB ?_)
 refine zC (zA ?_);refine ev_joinK (ι := GuF (VL W) (VL v)) [0,1,5] [0] 1000 (fun x => [(8,.v (.int .u64 (x.g : Nat)))]) (fun _ => []) ?_;refine ⟨?_,fun x => ?_⟩
 ·refine zR ?_;refine yC (ι := Gu (VL W) (VL v) (W.getD n 0 * 4294967296 + W.getD (n - 1) 0) (v.getD (n - 1) 0)) [0,1,5,7] [0] 450 (fun x => [(8,.v (.int .u64 (x.g : Nat))),(9,.v (.int .u64 (x.r : Nat)))]) (fun _ => []) (fun x => x.g) (Gu.start K hV1) ?_;refine ⟨⟨⟨u21 (q64 om),u21 r64,yM⟩,yH,rfl,rfl⟩,fun x => ?_⟩;have hr := x.lr;have hgH := gu_le x ht;refine zB ?_;refine zB (zZ zL [] [[],[0],[0,1],[0,1,2],[0,1,2,3],[0,1,2,3],[0,1,2,3],[0,1,2,3,6],[0,1,2,3,5,6,7],[0,1,2,3,5,6,7,8],[0,1,2,3,5,6,7,8,9],(rgN 11),[0,1,2,3],[0,1,2,3,12],[0,1,2,3],[0,1,2,3],[0,1,2,3,15],[0,1,2,3,14,15,16],[0,1,2,3,14,15,16,17],[0,1,2,3,14,15,16,17,18],[0,1,2,3,12,13,14,15,16,17,18,19],(rgN 21),(rgN 22)] 500 yQ kr rfl ?_);repeat (first | refine zH ?_ | refine uB ?_)
  refine zC (zA (zW (fun c4 => ?_) (fun c4 => ?_)))
  ·
   refine zM (zA (zR ?_));simp only [hj2] at c4;rw [<- hWa (n - 2) om] at c4;have hc := gu_T hr (qG gW _) (qG gv _) c4;refine zB (zE zL [] 600 rfl ?_);repeat (first | refine zH ?_ | refine uB ?_)
   refine zC (zA ?_);refine zB (zE zL [] 700 rfl ?_);repeat (first | refine zH ?_ | refine uB ?_)
   refine zC (zA ?_);refine zB (zE zL [] 800 rfl ?_);repeat (first | refine zH ?_ | refine uB ?_)
   refine zC (zA (zW (fun c7 => ?_) (fun c7 => ?_)))
   ·
    refine yE (exBl_other rfl (yB (zX ?_)));rw [hi32 (show _ = ((x.r + v.getD (n - 1) 0 : Nat) : Int) from by rw [<- Int.natCast_add,w64 om])] at c7;obtain ⟨f1,f2,f3⟩ := x.stop K hc om;exact yM0 ⟨x.g - 1,f1,f2,f3⟩ ⟨⟨u21 (wT0 (x.pos K hc).2.1 om),yM⟩,yH,rfl,rfl⟩
   ·
    refine zM (zP ?_);rw [hi32 (show _ = ((x.r + v.getD (n - 1) 0 : Nat) : Int) from by rw [<- Int.natCast_add,w64 om])] at c7;exact zS (x.next K hc om) ⟨⟨u21 (wT0 (x.pos K hc).2.1 om),u21 (by rw [<- Int.natCast_add,w64 om];rfl),yM⟩,yH,rfl,rfl⟩ (by show x.g - 1 < x.g;have := (x.pos K hc).2.1;omega)
  ·
   refine yE (yA (yB (zX ?_)));simp only [hj2] at c4;rw [<- hWa (n - 2) om] at c4;obtain ⟨f0,f00⟩ := gu_F hr (qG gW _) (qG gv _) c4;obtain ⟨f1,f2,f3⟩ := x.done K f0 f00;exact yM0 ⟨x.g,f1,f2,f3⟩ ⟨⟨u21 rfl,yM⟩,yH,rfl,rfl⟩
 refine zB (zE zL [] 1100 rfl ?_);repeat (first | refine zH ?_ | refine uB ?_)
 refine zC (zA (zB ?_));refine zB (zE zL [] 1200 rfl ?_);repeat (first | refine zH ?_ | refine uB ?_)
 refine zC (zA (zR ?_));refine yC (ι := SuD W v x.g) [0,1,5,8,74] [] 1200 (fun y => [(75,.v (.int .i64 (y.k : Nat))),(10,.v (.int .u64 (y.c : Nat))),(11,.v (.int .u32 (y.b : Nat)))]) (fun y => [(0,.mrow 126 1 (.map (wnC U j y.o) uD 0))]) (fun y => n + 1 - y.k) (SuD.start W v x.g) ?_;refine ⟨⟨yM,⟨SubO.mr (by show U.map uD = (wnC U j []).map uD;rw [pT0]),yH⟩,rfl,rfl⟩,fun y => ?_⟩;have hk := y.le;have hlo := y.lo;have hbb := y.hb;have hm2 : q = (MR.map (wnC U j y.o) uD 0).len := by rw [MR.len,xS (by omega),hU]
 refine zB (zE zL [] 1300 rfl ?_);repeat (first | refine zH ?_ | refine uB ?_)
 refine zC (zA (zB (zW (fun c10 => ?_) (fun c10 => ?_))))
 ·
  refine zM (zA (zB (zR ?_)));refine zB (zE zL [] 1400 rfl ?_);repeat (first | refine zH ?_ | refine uB ?_)
  refine zC (zA (zB ?_));refine zB (zE zL [] 1500 rfl ?_);repeat (first | refine zH ?_ | refine uB ?_)
  refine zC (zA (zW (fun c12 => ?_) (fun c12 => ?_)))
  ·
   refine zE zL [] 1600 rfl ?_;repeat (first | refine zH ?_ | refine uB ?_)
   refine zC (zA ?_);refine zB (zE zL [] 1700 rfl ?_);repeat (first | refine zH ?_ | refine uB ?_)
   refine zO _ (tQ _ _ _ (pR (gL0 gU y.lg) _) (jR1 _) ⟨by omega,by omega⟩) rfl ?_;repeat (first | refine zH ?_ | refine uB ?_)
   refine zC (zA ?_);refine zE zL [] 1800 rfl ?_;repeat (first | refine zH ?_ | refine uB ?_)
   refine zC (zP (zA ?_));refine zE zL [] 1900 rfl ?_;repeat (first | refine zH ?_ | refine uB ?_)
   refine zC ?_;have es : _ = ((y.s : Nat) : Int) := sud_s y x.lt gv;exact zS (y.next gW gv x.lt om) ⟨⟨u21 (by show (y.k : Int) + 1 = ((y.k + 1 : Nat) : Int);omega),u21 (hi32 es),u21 (by simp only [Ad];rw [lo32 es];simp only [Ad];rw [tS om y.lo,<- hWa _ om];rfl),yM⟩,⟨SubO.mr (by simp only [Ad];rw [lo32 es];simp only [Ad];rw [tS om y.lo,<- hWa _ om];exact yW0 y.lo om),yH⟩,rfl,rfl⟩ (by show n + 1 - (y.k + 1) < n + 1 - y.k;omega)
  ·
   refine zM (zA ?_);refine zB (zE zL [] 1600 rfl ?_);repeat (first | refine zH ?_ | refine uB ?_)
   refine zO _ (tQ _ _ _ (pR (gL0 gU y.lg) _) (jR1 _) ⟨by omega,by omega⟩) rfl ?_;repeat (first | refine zH ?_ | refine uB ?_)
   refine zC (zA ?_);refine zE zL [] 1700 rfl ?_;repeat (first | refine zH ?_ | refine uB ?_)
   refine zC (zP (zA ?_));refine zE zL [] 1800 rfl ?_;repeat (first | refine zH ?_ | refine uB ?_)
   refine zC ?_;have es : _ = ((y.s : Nat) : Int) := sud_0 y om;exact zS (y.next gW gv x.lt om) ⟨⟨u21 (by show (y.k : Int) + 1 = ((y.k + 1 : Nat) : Int);omega),u21 (hi32 es),u21 (by simp only [Ad];rw [lo32 es];simp only [Ad];rw [tS om y.lo,<- hWa _ om];rfl),yM⟩,⟨SubO.mr (by simp only [Ad];rw [lo32 es];simp only [Ad];rw [tS om y.lo,<- hWa _ om];exact yW0 y.lo om),yH⟩,rfl,rfl⟩ (by show n + 1 - (y.k + 1) < n + 1 - y.k;omega)
 ·
  refine yE (yA (yB (zX (zA (zB ?_)))));refine zB (zE zL [] 1800 rfl ?_);repeat (first | refine zH ?_ | refine uB ?_)
  refine zC (zA (zW (fun c17 => ?_) (fun c17 => ?_)))
  ·
   have hb1 : y.b = 1 := by omega
   have hyl : y.o.length = n + 1 := by omega
   refine zB (zE zL [] 1900 rfl ?_);repeat (first | refine zH ?_ | refine uB ?_)
   refine zC (zA ?_);refine zB (zE zL [] 2000 rfl ?_);repeat (first | refine zH ?_ | refine uB ?_)
   refine zC (zA (zB ?_));refine zB (zE zL [] 2100 rfl ?_);repeat (first | refine zH ?_ | refine uB ?_)
   refine zC (zA (zR ?_));refine yC (ι := {z : PlL y.o v // z.k <= n}) [0,1,5,8,111] [] 2150 (fun z => [(112,.v (.int .i64 (z.1.k : Nat))),(13,.v (.int .u32 (z.1.c : Nat)))]) (fun z => [(0,.mrow 126 1 (.map (wnC (wnC U j y.o) j z.1.o) uD 0))]) (fun z => n - z.1.k) ⟨PlL.start _ _,Ap _⟩ ?_;refine ⟨⟨yM,⟨SubO.mr (by show (wnC U j y.o).map uD = (wnC (wnC U j y.o) j []).map uD;rw [pT0]),yH⟩,rfl,rfl⟩,fun z => ?_⟩;have hzk := z.2;have hzo := z.1.lo;have hzc := z.1.hc;have hm3 : q = (MR.map (wnC (wnC U j y.o) j z.1.o) uD 0).len := by rw [MR.len,xS (by rw [xS (by omega)];omega),xS om,hU]
   refine zB (zE zL [] 2200 rfl ?_);repeat (first | refine zH ?_ | refine uB ?_)
   refine zC (zA (zB (zW (fun c21 => ?_) (fun c21 => ?_))))
   ·
    refine zM (zA (zB (zR ?_)));refine zB (zE zL [] 2300 rfl ?_);repeat (first | refine zH ?_ | refine uB ?_)
    refine zC (zA ?_);refine zZ zL [] [[],[],[],[],[2,3],[2,3,4],[],[],[6,7],[6,7,8],[],[2,3,4,5,6,7,8,9,10],[2,3,4,5,6,7,8,9,10,11],[2,3,4,5,6,7,8,9,10,11,12],[2,3,4,5,6,7,8,9,10,11,12],(rgN 14),[0,1,2,3,4,5,6,7,8,9,10,11,12,13,15],(rgN 17)] 2400 yQ kr rfl ?_;repeat (first | refine zH ?_ | refine uB ?_)
    refine zO _ (Add32_ok _ _ _ (pR (gL0 (gL0 gU y.lg) z.1.lg) _) (pR gv _) ⟨by omega,by omega⟩) rfl ?_;repeat (first | refine zH ?_ | refine uB ?_)
    refine zC (zP (zA ?_));refine zE zL [] 2500 rfl ?_;repeat (first | refine zH ?_ | refine uB ?_)
    refine zC ?_;exact zS ⟨z.1.next y.lg gv om,by show z.1.k + 1 <= n;omega⟩ ⟨⟨u21 (by show (z.1.k : Int) + 1 = ((z.1.k + 1 : Nat) : Int);omega),u21 (by simp only [Ad];rw [tS (by rw [xS om];omega) z.1.lo,pU0 om hyl _ om];rfl),yM⟩,⟨SubO.mr (by simp only [Ad];rw [tS (by rw [xS om];omega) z.1.lo,pU0 om hyl _ om];exact yW0 z.1.lo (by rw [xS om];omega)),yH⟩,rfl,rfl⟩ (by show n - (z.1.k + 1) < n - z.1.k;omega)
   ·
    refine yE (yA (yB (zX (zA ?_))));refine zE zL [] 2600 rfl ?_;repeat (first | refine zH ?_ | refine uB ?_)
    refine zC (zA ?_);refine zB (zE zL [] 2700 rfl ?_);repeat (first | refine zH ?_ | refine uB ?_)
    refine zC (zA (zK ?_));obtain ⟨e4,e5,e6⟩ := dg_back y lW hv om gv hb1 hp x.hi z.1 om;have hx := x.lt;exact u11 1 rfl rfl (u21 (by rw [wT0 e4 om,w32n om,e5])) ⟨SubO.mr (by simp only [hjn];rw [tS (by rw [xS om];omega) (by rw [z.1.lo];omega),pU0 om hyl n (Ao _),lo32 (Int.natCast_add _ _).symm];refine (yW0 (by rw [z.1.lo];omega) (by rw [xS om];omega)).trans ?_;show List.map uD _ = List.map uD _;rw [wnC_wnC (U := U) (j := j) (o := y.o) (n := n) om hyl (by simp [z.1.lo];omega),xJ0 (n := n + 1) (z.1.lg.snoc (Cj _ de)) (by simp [z.1.lo];omega) e6]),trivial⟩
  ·
   refine zM (zA ?_);refine zB (zE zL [] 2700 rfl ?_);repeat (first | refine zH ?_ | refine uB ?_)
   refine zC (zA (zK ?_));have hb0 : y.b = 0 := by omega
   obtain ⟨e1,e2⟩ := dg_exact y om om hb0 hp x.lo;obtain ⟨_,e3⟩ := y.fin om om;exact u11 1 rfl rfl (u21 (by rw [w32n x.lt,e1])) ⟨SubO.mr (by show List.map uD _ = List.map uD _;rw [xJ0 y.lg (by rw [e3,lW]) e2]),trivial⟩
end Go.Proofs.YtinegkcbkefeiaaGreatDoor
