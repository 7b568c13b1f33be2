/- Contracts of functions, and plain lemmas; each theorem's conditions stand in its statement. -/
import Derived.Test.YtcoackmdmohnhaaGreatDoorV18
set_option linter.unusedVariables false
set_option linter.unusedSimpArgs false
set_option maxRecDepth 100000
set_option maxHeartbeats 4000000
namespace Go.Proofs.YtcoackmdmohnhaaGreatDoor
section
open Go.RowKit Go.Shelf
theorem e84:∀args w,(callFunc 84 args).run Tryz.prog w= .ok (.enter 84 args) w:=enters_of Tryz.func84 kR rfl
theorem e86:∀args w,(callFunc 86 args).run Tryz.prog w= .ok (.enter 86 args) w:=enters_of Tryz.func86 kR rfl
theorem e88:∀args w,(callFunc 88 args).run Tryz.prog w= .ok (.enter 88 args) w:=enters_of Tryz.func88 kR rfl
theorem e90:∀args w,(callFunc 90 args).run Tryz.prog w= .ok (.enter 90 args) w:=enters_of Tryz.func90 kR rfl
theorem ln88 (B b n c:Nat) (A:Option Addr) (f t:Int) (h:Bool) (w:World) (hn:n≤9223372036854775807) (hb:b<w.heap.size) (hBl:B<w.heap.size)
  (hB:w.cell? ⟨B,0,none⟩=some (.func (.func 84) #[] #[pt b 0])) (hc:w.cell? ⟨b,0,none⟩=some (.slice A n c)):
  Calls Tryz.prog 88 #[.agg #[f,t, .bool h],pt B 0] w fun e w'=>e= .returned (.bool (outI n f||outI n t))∧Below w.heap.size w w':=by
 have hb1:Below w.heap.size w (w.alloc (.cells #[f,t, .bool h] 77)):=bR.alloc (Nat.le_refl _) _;have hB1:(w.alloc (.cells #[f,t, .bool h] 77)).cell? ⟨B,0,none⟩=some (.func (.func 84) #[] #[pt b 0]):=(hb1.cell (p:=⟨B,0,none⟩) hBl).trans hB;have hc1:(w.alloc (.cells #[f,t, .bool h] 77)).cell? ⟨b,0,none⟩=some (.slice A n c):=(hb1.cell (p:=⟨b,0,none⟩) hb).trans hc;have H1:=out84 b n c A f _ hn hc1;have H2:=out84 b n c A t _ hn hc1;have eg:=e84;clear hc hc1 hB
 cases hq:outI n f with
 | true=>
  rw[hq]at H1;rw[Bool.true_or];clear H2 hq;go_enter Tryz.func88,Tryz.ntmps88
  go_wp2_with (go_at_fn 84;(with_reducible refine H1.mono ?_);rintro e w' ⟨rfl,rfl⟩)
  go_ret
  exact⟨rfl,hb1⟩
 | false=>
  rw[hq]at H1;rw[Bool.false_or];clear hq;generalize outI n t=q at H2 ⊢;go_enter Tryz.func88,Tryz.ntmps88
  go_wp2_with (first|(go_at_fn 84;(with_reducible refine H1.mono ?_);rintro e w' ⟨rfl,rfl⟩)|(go_at_fn 84;(with_reducible refine H2.mono ?_);rintro e w' ⟨rfl,rfl⟩))
  go_ret
  exact⟨rfl,hb1⟩
theorem end90 (B b c n:Nat) (A:Option Addr) (x:Int) (d:Diag) (w:World) (hR:Rd 2 spC w A n d.sp) (hb:b<w.heap.size) (hBl:B<w.heap.size)
  (hB:w.cell? ⟨B,0,none⟩=some (.func (.func 84) #[] #[pt b 0])) (hc:w.cell? ⟨b,0,none⟩=some (.slice A n c)):
  Calls Tryz.prog 90 #[x,pt B 0,pt b 0] w fun e w'=>e= .returned (.bool (d.badEnd x))∧Below w.heap.size w w':=by
 have hn:=hR.big;have H1:=out84 b n c A x _ hn hc;have eg:=e84;have hlen:=hR.len;unfold Diag.badEnd;rw[hlen]
 cases hq:outI n x with
 | true=>
  rw[hq]at H1;rw[Bool.true_or];clear hq hR hlen;go_enter Tryz.func90,Tryz.ntmps90
  go_wp2_with (go_at_fn 84;(with_reducible refine H1.mono ?_);rintro e w' ⟨rfl,rfl⟩)
  go_ret
  exact⟨rfl,Below.refl _ _⟩
 | false=>
  rw[hq]at H1;rw[Bool.false_or];unfold outI at hq;simp only[Bool.or_eq_false_iff,decide_eq_false_iff_not]at hq;obtain⟨k,rfl⟩:∃k:Nat,x=(k:Int):=⟨x.toNat,oM⟩;have hlt:k<n:=oM
  have hltz:(k:Int)<(n:Int):=oM
  obtain⟨s,hs⟩:∃s,d.sp[k]?=some s:=⟨d.sp[k]'(by rw[hlen];exact hlt),by simp⟩;have e1:d.kindAt (k:Int)=s.kind:=by unfold Diag.kindAt;rw[Int.toNat_natCast,hs]
  rw[e1];obtain⟨b2,o,hA,_,c0,c1⟩:=hR.at2 hs rfl;subst hA;generalize hkd:s.kind=kd at c0;clear hR hlen hs e1 hkd hq
  by_cases h0:kd=0
  · subst h0;go_enter Tryz.func90,Tryz.ntmps90
    go_wp2_with (go_at_fn 84;(with_reducible refine H1.mono ?_);rintro e w' ⟨rfl,rfl⟩)
    go_ret
    exact⟨rfl,Below.refl _ _⟩
  have h1:(kd==0)=false:=by simpa using h0
  have h2:(kd != 0)=true:=by simpa using h0
  rw[decide_eq_false h0];go_enter Tryz.func90,Tryz.ntmps90
  go_wp2_with (go_at_fn 84;(with_reducible refine H1.mono ?_);rintro e w' ⟨rfl,rfl⟩)
  go_ret
  refine⟨?_,Below.refl _ _⟩
  simp[h1,h2,h0]
theorem sp86P (xs:List Spider) (w:World):PredP 86 #[] (fun x:Spider=> .agg #[x.kind,x.phase]) (fun s=>badSp s.kind s.phase) xs w:=
 fun x _ W _=>bad86 x.kind x.phase W
theorem ln88P (B b n c:Nat) (A:Option Addr) (d:Diag) (w:World) (hn:d.sp.length=n) (hbig:n≤9223372036854775807) (hb:b<w.heap.size) (hBl:B<w.heap.size)
  (hB:w.cell? ⟨B,0,none⟩=some (.func (.func 84) #[] #[pt b 0])) (hc:w.cell? ⟨b,0,none⟩=some (.slice A n c)):
  PredP 88 #[pt B 0] (fun x:Line=> .agg #[x.f,x.t, .bool x.hat]) d.badLn d.ln w:=by
 intro x _ W hW;have:=ln88 B b n c A x.f x.t x.hat W hbig (Nat.lt_of_lt_of_le hb hW.size) (Nat.lt_of_lt_of_le hBl hW.size) ((hW.cell (p:=⟨B,0,none⟩) hBl).trans hB) ((hW.cell (p:=⟨b,0,none⟩) hb).trans hc);unfold Diag.badLn;rw[hn];exact this
theorem end90P (B b n c:Nat) (A:Option Addr) (d:Diag) (w:World) (hR:Rd 2 spC w A n d.sp) (hb:b<w.heap.size) (hBl:B<w.heap.size)
  (hB:w.cell? ⟨B,0,none⟩=some (.func (.func 84) #[] #[pt b 0])) (hc:w.cell? ⟨b,0,none⟩=some (.slice A n c)):
  PredP 90 #[pt B 0,pt b 0] (fun x:Int=> .int .i64 x) d.badEnd d.ends w:=by
 intro x _ W hW;exact end90 B b c n A x d W (hR.below hW) (Nat.lt_of_lt_of_le hb hW.size) (Nat.lt_of_lt_of_le hBl hW.size) ((hW.cell (p:=⟨B,0,none⟩) hBl).trans hB) ((hW.cell (p:=⟨b,0,none⟩) hb).trans hc)
end
section
open Go.RowKit Go.Shelf
theorem any85' (v:DV) (d:Diag) (w:World) (hd:DRd w v d):
  Calls Tryz.prog 85 #[.slice v.A1 v.n1 v.c1, .func (.func 86) #[] #[]] w fun e w'=>e= .returned (.bool (d.sp.any fun s=>badSp s.kind s.phase))∧Below w.heap.size w w':=
 any85 spC Spider.kind Spider.phase (fun _=>rfl) _ 86 #[] e86 _ _ _ _ _ hd.sp (sp86P _ _)
theorem any87' (v:DV) (d:Diag) (w:World) (b B:Nat) (u1 u2 u3 u4 u5 u6 u7 u8:Value) (h0:Blk w b [.slice v.A1 v.n1 v.c1,u1,u2,u3,u4,u5,u6,u7,u8] 28) (h1:Blk w B [.func (.func 84) #[] #[pt b 0]] 120) (hd:DRd w v d):
  Calls Tryz.prog 87 #[.slice v.A2 v.n2 v.c2, .func (.func 88) #[] #[pt B 0]] w fun e w'=>e= .returned (.bool (d.ln.any d.badLn))∧Below w.heap.size w w':=
 any87 lnC Line.f Line.t Line.hat (fun _=>rfl) _ 88 _ e88 _ _ _ _ _ hd.ln (ln88P B b v.n1 v.c1 v.A1 d w hd.sp.len hd.sp.big h0.lt h1.lt (h1.cell 0 _ rfl) (h0.cell 0 _ rfl))
theorem any89' (v:DV) (d:Diag) (w:World) (b B:Nat) (u1 u2 u3 u4 u5 u6 u7 u8:Value) (A:Option Addr) (n c:Nat) (h0:Blk w b [.slice v.A1 v.n1 v.c1,u1,u2,u3,u4,u5,u6,u7,u8] 28) (h1:Blk w B [.func (.func 84) #[] #[pt b 0]] 120) (hd:DRd w v d) (hE:Rd 1 inC w A n d.ends):
  Calls Tryz.prog 89 #[.slice A n c, .func (.func 90) #[] #[pt B 0,pt b 0]] w fun e w'=>e= .returned (.bool (d.ends.any d.badEnd))∧Below w.heap.size w w':=
 any89 inC id (fun _=>rfl) _ 90 _ e90 _ _ _ _ _ hE (end90P B b v.n1 v.c1 v.A1 d w hd.sp h0.lt h1.lt (h1.cell 0 _ rfl) (h0.cell 0 _ rfl))
theorem xc17_0 {p:Prop} (h:p:=by
 clear h;go_enter Tryz.func37,Tryz.ntmps37
 go_wp2_with (first|(go_at_call 80;(with_reducible refine H80.mono ?_);rintro e w' ⟨A,cA,rfl,hE,hb⟩;replace hB0:=hB0.below hb;replace hB1:=hB1.below hb;replace hD:=hD.below hb;replace hQ:=below_then hQ hb;clear hb;obtain⟨c0,c1,c2,c3,c4,c5,c6,c7,c8,cf⟩:=hB0.nine;obtain⟨f0,ff⟩:=hB1.one)|(go_at_call 85;(with_reducible refine(H85 _ hD).mono ?_);rintro e w' ⟨rfl,hb⟩;replace hE:=hE.below hb;replace hB0:=hB0.below hb;replace hB1:=hB1.below hb;replace hD:=hD.below hb;replace hQ:=below_then hQ hb;clear hb;obtain⟨c0,c1,c2,c3,c4,c5,c6,c7,c8,cf⟩:=hB0.nine;obtain⟨f0,ff⟩:=hB1.one)|(go_at_call 87;(with_reducible refine(H87 _ hB0 hB1 hD).mono ?_);rintro e w' ⟨rfl,hb⟩;replace hE:=hE.below hb;replace hB0:=hB0.below hb;replace hB1:=hB1.below hb;replace hD:=hD.below hb;replace hQ:=below_then hQ hb;clear hb;obtain⟨c0,c1,c2,c3,c4,c5,c6,c7,c8,cf⟩:=hB0.nine;obtain⟨f0,ff⟩:=hB1.one)|(go_at_call 89;(with_reducible refine(H89 _ _ _ hB0 hB1 hD hE).mono ?_);rintro e w' ⟨rfl,hb⟩;replace hE:=hE.below hb;replace hB0:=hB0.below hb;replace hB1:=hB1.below hb;replace hD:=hD.below hb;replace hQ:=below_then hQ hb;clear hb;obtain⟨c0,c1,c2,c3,c4,c5,c6,c7,c8,cf⟩:=hB0.nine;obtain⟨f0,ff⟩:=hB1.one))
 go_ret
 exact⟨rfl,hQ⟩):p:=h
theorem check37_many (v:DV) (d:Diag) (w:World) (hd:DRd w v d) (hs:v.n3+v.n4≤4398046511104) (h:40<v.n1∨100<v.n2):
  Calls Tryz.prog 37 #[.agg (a9 v d.sc)] w fun e w'=>e= .returned (.int .i64 2)∧Below w.heap.size w w':=by
 have hb1:Below w.heap.size w (w.alloc (.cells (a9 v d.sc) 28)):=bR.alloc (Nat.le_refl _) _;have hQ:Below w.heap.size w ((w.alloc (.cells (a9 v d.sc) 28)).alloc (.cells #[.func (.func 84) #[] #[pt w.heap.size 0]] 120)):=hb1.alloc sI _;have hB0:Blk ((w.alloc (.cells (a9 v d.sc) 28)).alloc (.cells #[.func (.func 84) #[] #[pt w.heap.size 0]] 120)) w.heap.size (l9 v d.sc) 28:=(Blk.new w _ 28).alloc _
 have hB1:Blk ((w.alloc (.cells (a9 v d.sc) 28)).alloc (.cells #[.func (.func 84) #[] #[pt w.heap.size 0]] 120)) (w.heap.size+1) [.func (.func 84) #[] #[pt w.heap.size 0]] 120:=by
  have:=Blk.new (w.alloc (.cells (a9 v d.sc) 28)) #[.func (.func 84) #[] #[pt w.heap.size 0]] 120;simpa using this
 have hD:=hd.below hQ;have H80:=ends80 v d.sc d _ hD hs;have H85:=fun(W:World) (hD:DRd W v d)=>any85' v d W hD;have H87:=fun(W:World) h0 h1 hD=>any87' v d W w.heap.size (w.heap.size+1) (.slice v.A2 v.n2 v.c2) (.slice v.A3 v.n3 v.c3) (.slice v.A4 v.n4 v.c4) d.sc.a d.sc.b d.sc.c d.sc.d d.sc.k h0 h1 hD;have H89:=fun(W:World) A c h0 h1 hD hE=>any89' v d W w.heap.size (w.heap.size+1) (.slice v.A2 v.n2 v.c2) (.slice v.A3 v.n3 v.c3) (.slice v.A4 v.n4 v.c4) d.sc.a d.sc.b d.sc.c d.sc.d d.sc.k A (v.n3+v.n4) c h0 h1 hD hE;have hn1:=hd.sp.big;have hn2:=hd.ln.big;clear hd hb1
 by_cases h1:40<v.n1
 · have h1z:(40:Int)<(v.n1:Int):=oM
   exact xc17_0
 have h1z:¬(40:Int)<(v.n1:Int):=oM
 have h2z:(100:Int)<(v.n2:Int):=oM
 exact xc17_0
theorem check37_range (v:DV) (d:Diag) (w:World) (hd:DRd w v d) (hs:v.n3+v.n4≤4398046511104) (h1:¬40<v.n1) (h2:¬100<v.n2) (h3:(d.sp.any fun s=>badSp s.kind s.phase)=true):
  Calls Tryz.prog 37 #[.agg (a9 v d.sc)] w fun e w'=>e= .returned (.int .i64 3)∧Below w.heap.size w w':=by
 have hb1:Below w.heap.size w (w.alloc (.cells (a9 v d.sc) 28)):=bR.alloc (Nat.le_refl _) _;have hQ:Below w.heap.size w ((w.alloc (.cells (a9 v d.sc) 28)).alloc (.cells #[.func (.func 84) #[] #[pt w.heap.size 0]] 120)):=hb1.alloc sI _;have hB0:Blk ((w.alloc (.cells (a9 v d.sc) 28)).alloc (.cells #[.func (.func 84) #[] #[pt w.heap.size 0]] 120)) w.heap.size (l9 v d.sc) 28:=(Blk.new w _ 28).alloc _
 have hB1:Blk ((w.alloc (.cells (a9 v d.sc) 28)).alloc (.cells #[.func (.func 84) #[] #[pt w.heap.size 0]] 120)) (w.heap.size+1) [.func (.func 84) #[] #[pt w.heap.size 0]] 120:=by
  have:=Blk.new (w.alloc (.cells (a9 v d.sc) 28)) #[.func (.func 84) #[] #[pt w.heap.size 0]] 120;simpa using this
 have hD:=hd.below hQ;have H80:=ends80 v d.sc d _ hD hs;have H85:=fun(W:World) (hD:DRd W v d)=>any85' v d W hD;have H87:=fun(W:World) h0 h1 hD=>any87' v d W w.heap.size (w.heap.size+1) (.slice v.A2 v.n2 v.c2) (.slice v.A3 v.n3 v.c3) (.slice v.A4 v.n4 v.c4) d.sc.a d.sc.b d.sc.c d.sc.d d.sc.k h0 h1 hD;have H89:=fun(W:World) A c h0 h1 hD hE=>any89' v d W w.heap.size (w.heap.size+1) (.slice v.A2 v.n2 v.c2) (.slice v.A3 v.n3 v.c3) (.slice v.A4 v.n4 v.c4) d.sc.a d.sc.b d.sc.c d.sc.d d.sc.k A (v.n3+v.n4) c h0 h1 hD hE;have hn1:=hd.sp.big;have hn2:=hd.ln.big;clear hd hb1;have h1z:¬(40:Int)<(v.n1:Int):=oM
 have h2z:¬(100:Int)<(v.n2:Int):=oM
 rw[h3]at H85;clear h3;go_enter Tryz.func37,Tryz.ntmps37
 go_wp2_with (first|(go_at_call 80;(with_reducible refine H80.mono ?_);rintro e w' ⟨A,cA,rfl,hE,hb⟩;replace hB0:=hB0.below hb;replace hB1:=hB1.below hb;replace hD:=hD.below hb;replace hQ:=below_then hQ hb;clear hb;obtain⟨c0,c1,c2,c3,c4,c5,c6,c7,c8,cf⟩:=hB0.nine;obtain⟨f0,ff⟩:=hB1.one)|(go_at_call 85;(with_reducible refine(H85 _ hD).mono ?_);rintro e w' ⟨rfl,hb⟩;replace hE:=hE.below hb;replace hB0:=hB0.below hb;replace hB1:=hB1.below hb;replace hD:=hD.below hb;replace hQ:=below_then hQ hb;clear hb;obtain⟨c0,c1,c2,c3,c4,c5,c6,c7,c8,cf⟩:=hB0.nine;obtain⟨f0,ff⟩:=hB1.one)|(go_at_call 87;(with_reducible refine(H87 _ hB0 hB1 hD).mono ?_);rintro e w' ⟨rfl,hb⟩;replace hE:=hE.below hb;replace hB0:=hB0.below hb;replace hB1:=hB1.below hb;replace hD:=hD.below hb;replace hQ:=below_then hQ hb;clear hb;obtain⟨c0,c1,c2,c3,c4,c5,c6,c7,c8,cf⟩:=hB0.nine;obtain⟨f0,ff⟩:=hB1.one)|(go_at_call 89;(with_reducible refine(H89 _ _ _ hB0 hB1 hD hE).mono ?_);rintro e w' ⟨rfl,hb⟩;replace hE:=hE.below hb;replace hB0:=hB0.below hb;replace hB1:=hB1.below hb;replace hD:=hD.below hb;replace hQ:=below_then hQ hb;clear hb;obtain⟨c0,c1,c2,c3,c4,c5,c6,c7,c8,cf⟩:=hB0.nine;obtain⟨f0,ff⟩:=hB1.one))
 go_ret
 exact⟨rfl,hQ⟩
theorem check37_not (v:DV) (d:Diag) (w:World) (hd:DRd w v d) (hs:v.n3+v.n4≤4398046511104) (h1:¬40<v.n1) (h2:¬100<v.n2) (h3:(d.sp.any fun s=>badSp s.kind s.phase)=false) (h4:(d.ln.any d.badLn||d.ends.any d.badEnd)=true):
  Calls Tryz.prog 37 #[.agg (a9 v d.sc)] w fun e w'=>e= .returned (.int .i64 1)∧Below w.heap.size w w':=by
 have hb1:Below w.heap.size w (w.alloc (.cells (a9 v d.sc) 28)):=bR.alloc (Nat.le_refl _) _;have hQ:Below w.heap.size w ((w.alloc (.cells (a9 v d.sc) 28)).alloc (.cells #[.func (.func 84) #[] #[pt w.heap.size 0]] 120)):=hb1.alloc sI _;have hB0:Blk ((w.alloc (.cells (a9 v d.sc) 28)).alloc (.cells #[.func (.func 84) #[] #[pt w.heap.size 0]] 120)) w.heap.size (l9 v d.sc) 28:=(Blk.new w _ 28).alloc _
 have hB1:Blk ((w.alloc (.cells (a9 v d.sc) 28)).alloc (.cells #[.func (.func 84) #[] #[pt w.heap.size 0]] 120)) (w.heap.size+1) [.func (.func 84) #[] #[pt w.heap.size 0]] 120:=by
  have:=Blk.new (w.alloc (.cells (a9 v d.sc) 28)) #[.func (.func 84) #[] #[pt w.heap.size 0]] 120;simpa using this
 have hD:=hd.below hQ;have H80:=ends80 v d.sc d _ hD hs;have H85:=fun(W:World) (hD:DRd W v d)=>any85' v d W hD;have H87:=fun(W:World) h0 h1 hD=>any87' v d W w.heap.size (w.heap.size+1) (.slice v.A2 v.n2 v.c2) (.slice v.A3 v.n3 v.c3) (.slice v.A4 v.n4 v.c4) d.sc.a d.sc.b d.sc.c d.sc.d d.sc.k h0 h1 hD;have H89:=fun(W:World) A c h0 h1 hD hE=>any89' v d W w.heap.size (w.heap.size+1) (.slice v.A2 v.n2 v.c2) (.slice v.A3 v.n3 v.c3) (.slice v.A4 v.n4 v.c4) d.sc.a d.sc.b d.sc.c d.sc.d d.sc.k A (v.n3+v.n4) c h0 h1 hD hE;have hn1:=hd.sp.big;have hn2:=hd.ln.big;clear hd hb1;have h1z:¬(40:Int)<(v.n1:Int):=oM
 have h2z:¬(100:Int)<(v.n2:Int):=oM
 rw[h3]at H85;clear h3
 cases h5:d.ln.any d.badLn with
 | true=>
  rw[h5]at H87;clear h4 h5;go_enter Tryz.func37,Tryz.ntmps37
  go_wp2_with (first|(go_at_call 80;(with_reducible refine H80.mono ?_);rintro e w' ⟨A,cA,rfl,hE,hb⟩;replace hB0:=hB0.below hb;replace hB1:=hB1.below hb;replace hD:=hD.below hb;replace hQ:=below_then hQ hb;clear hb;obtain⟨c0,c1,c2,c3,c4,c5,c6,c7,c8,cf⟩:=hB0.nine;obtain⟨f0,ff⟩:=hB1.one)|(go_at_call 85;(with_reducible refine(H85 _ hD).mono ?_);rintro e w' ⟨rfl,hb⟩;replace hE:=hE.below hb;replace hB0:=hB0.below hb;replace hB1:=hB1.below hb;replace hD:=hD.below hb;replace hQ:=below_then hQ hb;clear hb;obtain⟨c0,c1,c2,c3,c4,c5,c6,c7,c8,cf⟩:=hB0.nine;obtain⟨f0,ff⟩:=hB1.one)|(go_at_call 87;(with_reducible refine(H87 _ hB0 hB1 hD).mono ?_);rintro e w' ⟨rfl,hb⟩;replace hE:=hE.below hb;replace hB0:=hB0.below hb;replace hB1:=hB1.below hb;replace hD:=hD.below hb;replace hQ:=below_then hQ hb;clear hb;obtain⟨c0,c1,c2,c3,c4,c5,c6,c7,c8,cf⟩:=hB0.nine;obtain⟨f0,ff⟩:=hB1.one)|(go_at_call 89;(with_reducible refine(H89 _ _ _ hB0 hB1 hD hE).mono ?_);rintro e w' ⟨rfl,hb⟩;replace hE:=hE.below hb;replace hB0:=hB0.below hb;replace hB1:=hB1.below hb;replace hD:=hD.below hb;replace hQ:=below_then hQ hb;clear hb;obtain⟨c0,c1,c2,c3,c4,c5,c6,c7,c8,cf⟩:=hB0.nine;obtain⟨f0,ff⟩:=hB1.one))
  go_ret
  exact⟨rfl,hQ⟩
 | false=>
  rw[h5,Bool.false_or]at h4;rw[h5]at H87;rw[h4]at H89;clear h4 h5;go_enter Tryz.func37,Tryz.ntmps37
  go_wp2_with (first|(go_at_call 80;(with_reducible refine H80.mono ?_);rintro e w' ⟨A,cA,rfl,hE,hb⟩;replace hB0:=hB0.below hb;replace hB1:=hB1.below hb;replace hD:=hD.below hb;replace hQ:=below_then hQ hb;clear hb;obtain⟨c0,c1,c2,c3,c4,c5,c6,c7,c8,cf⟩:=hB0.nine;obtain⟨f0,ff⟩:=hB1.one)|(go_at_call 85;(with_reducible refine(H85 _ hD).mono ?_);rintro e w' ⟨rfl,hb⟩;replace hE:=hE.below hb;replace hB0:=hB0.below hb;replace hB1:=hB1.below hb;replace hD:=hD.below hb;replace hQ:=below_then hQ hb;clear hb;obtain⟨c0,c1,c2,c3,c4,c5,c6,c7,c8,cf⟩:=hB0.nine;obtain⟨f0,ff⟩:=hB1.one)|(go_at_call 87;(with_reducible refine(H87 _ hB0 hB1 hD).mono ?_);rintro e w' ⟨rfl,hb⟩;replace hE:=hE.below hb;replace hB0:=hB0.below hb;replace hB1:=hB1.below hb;replace hD:=hD.below hb;replace hQ:=below_then hQ hb;clear hb;obtain⟨c0,c1,c2,c3,c4,c5,c6,c7,c8,cf⟩:=hB0.nine;obtain⟨f0,ff⟩:=hB1.one)|(go_at_call 89;(with_reducible refine(H89 _ _ _ hB0 hB1 hD hE).mono ?_);rintro e w' ⟨rfl,hb⟩;replace hE:=hE.below hb;replace hB0:=hB0.below hb;replace hB1:=hB1.below hb;replace hD:=hD.below hb;replace hQ:=below_then hQ hb;clear hb;obtain⟨c0,c1,c2,c3,c4,c5,c6,c7,c8,cf⟩:=hB0.nine;obtain⟨f0,ff⟩:=hB1.one))
  go_ret
  exact⟨rfl,hQ⟩
end
section
open Go.RowKit Go.Shelf
variable {α:Type} {i:Nat}
theorem twice_at {E:List Int} {kk:Nat} {x:Int} (h:E[kk]?=some x) (hin:x∈E.take kk):¬E.Nodup:=by
 intro hn;have h1:=hn.sublist (List.take_sublist (kk+1) E);rw[List.take_add_one,h]at h1;exact(List.nodup_append.1 h1).2.2 x hin x sI rfl
theorem nodup_take {E:List Int} {kk:Nat} {x:Int} (h:E[kk]?=some x) (hn:(E.take kk).Nodup) (hin:x∉E.take kk):(E.take (kk+1)).Nodup:=by
 rw[List.take_add_one,h];refine List.nodup_append.2 ⟨hn,by simp,fun a ha b hb e=>?_⟩
 simp at hb
 subst hb;exact hin (e▸ha)
theorem mem_take_succ {E:List Int} {kk:Nat} {x:Int} (h:E[kk]?=some x) (y:Int):y∈E.take (kk+1)↔(y∈E.take kk∨y=x):=by
 rw[List.take_add_one,h];simp
theorem drop_at {l:List α} {x:α} (h:l[i]?=some x):l.drop i=x::l.drop (i+1):=by
 obtain⟨hlt,rfl⟩:=List.getElem?_eq_some_iff.1 h;exact List.drop_eq_getElem_cons hlt
theorem under125:Tryz.prog.underlying 125=some (.map 3 3):=kR
theorem check37_rest (v:DV) (d:Diag) (w:World) (hd:DRd w v d) (hs:v.n3+v.n4≤4398046511104) (h1:¬40<v.n1) (h2:¬100<v.n2) (h3:(d.sp.any fun s=>badSp s.kind s.phase)=false) (h4:d.ln.any d.badLn=false) (h5:d.ends.any d.badEnd=false):
  Calls Tryz.prog 37 #[.agg (a9 v d.sc)] w fun e w'=>e= .returned (.int .i64 (if¬d.ends.Nodup then 5 else if d.clashes 0 d.sp then 7 else d.sc.check))∧Below w.heap.size w w':=by
 have hb1:Below w.heap.size w (w.alloc (.cells (a9 v d.sc) 28)):=bR.alloc (Nat.le_refl _) _;have hQ:Below w.heap.size w ((w.alloc (.cells (a9 v d.sc) 28)).alloc (.cells #[.func (.func 84) #[] #[pt w.heap.size 0]] 120)):=hb1.alloc sI _;have hB0:Blk ((w.alloc (.cells (a9 v d.sc) 28)).alloc (.cells #[.func (.func 84) #[] #[pt w.heap.size 0]] 120)) w.heap.size (l9 v d.sc) 28:=(Blk.new w _ 28).alloc _
 have hB1:Blk ((w.alloc (.cells (a9 v d.sc) 28)).alloc (.cells #[.func (.func 84) #[] #[pt w.heap.size 0]] 120)) (w.heap.size+1) [.func (.func 84) #[] #[pt w.heap.size 0]] 120:=by
  have:=Blk.new (w.alloc (.cells (a9 v d.sc) 28)) #[.func (.func 84) #[] #[pt w.heap.size 0]] 120;simpa using this
 have hD:=hd.below hQ;have H80:=ends80 v d.sc d _ hD hs;have H85:=fun(W:World) (hD:DRd W v d)=>any85' v d W hD;have H87:=fun(W:World) h0 h1 hD=>any87' v d W w.heap.size (w.heap.size+1) (.slice v.A2 v.n2 v.c2) (.slice v.A3 v.n3 v.c3) (.slice v.A4 v.n4 v.c4) d.sc.a d.sc.b d.sc.c d.sc.d d.sc.k h0 h1 hD;have H89:=fun(W:World) A c h0 h1 hD hE=>any89' v d W w.heap.size (w.heap.size+1) (.slice v.A2 v.n2 v.c2) (.slice v.A3 v.n3 v.c3) (.slice v.A4 v.n4 v.c4) d.sc.a d.sc.b d.sc.c d.sc.d d.sc.k A (v.n3+v.n4) c h0 h1 hD hE;have hn1:=hd.sp.big;have hn2:=hd.ln.big;clear hd hb1;have h1z:¬(40:Int)<(v.n1:Int):=oM
 have h2z:¬(100:Int)<(v.n2:Int):=oM
 rw[h3]at H85;rw[h4]at H87;rw[h5]at H89
 have hEnds:Aside (∀x∈d.ends,0≤x∧x≤40):=by
  intro x hx;have:=List.any_eq_false.1 h5 x hx;unfold Diag.badEnd outI at this;simp only[Bool.or_eq_true,decide_eq_true_eq,not_or]at this;have hl:=hD.sp.len;omega
 have hmm:=@run_makeMap Tryz.prog;have hu:=under125;clear h3 h4 h5;generalize hr:(if¬d.ends.Nodup then(5:Int) else if d.clashes 0 d.sp then 7 else d.sc.check)=r;have HRES:Aside ((if¬d.ends.Nodup then(5:Int) else if d.clashes 0 d.sp then 7 else d.sc.check)=r):=hr;clear hr;go_enter Tryz.func37,Tryz.ntmps37
 go_wp2_with (first|(go_at_call 80;(with_reducible refine H80.mono ?_);rintro e w' ⟨A,cA,rfl,hE,hb⟩;replace hB0:=hB0.below hb;replace hB1:=hB1.below hb;replace hD:=hD.below hb;replace hQ:=below_then hQ hb;clear hb;obtain⟨c0,c1,c2,c3,c4,c5,c6,c7,c8,cf⟩:=hB0.nine;obtain⟨f0,ff⟩:=hB1.one)|(go_at_call 85;(with_reducible refine(H85 _ hD).mono ?_);rintro e w' ⟨rfl,hb⟩;replace hE:=hE.below hb;replace hB0:=hB0.below hb;replace hB1:=hB1.below hb;replace hD:=hD.below hb;replace hQ:=below_then hQ hb;clear hb;obtain⟨c0,c1,c2,c3,c4,c5,c6,c7,c8,cf⟩:=hB0.nine;obtain⟨f0,ff⟩:=hB1.one)|(go_at_call 87;(with_reducible refine(H87 _ hB0 hB1 hD).mono ?_);rintro e w' ⟨rfl,hb⟩;replace hE:=hE.below hb;replace hB0:=hB0.below hb;replace hB1:=hB1.below hb;replace hD:=hD.below hb;replace hQ:=below_then hQ hb;clear hb;obtain⟨c0,c1,c2,c3,c4,c5,c6,c7,c8,cf⟩:=hB0.nine;obtain⟨f0,ff⟩:=hB1.one)|(go_at_call 89;(with_reducible refine(H89 _ _ _ hB0 hB1 hD hE).mono ?_);rintro e w' ⟨rfl,hb⟩;replace hE:=hE.below hb;replace hB0:=hB0.below hb;replace hB1:=hB1.below hb;replace hD:=hD.below hb;replace hQ:=below_then hQ hb;clear hb;obtain⟨c0,c1,c2,c3,c4,c5,c6,c7,c8,cf⟩:=hB0.nine;obtain⟨f0,ff⟩:=hB1.one))
 have hM0:=MapI.made w';have hbW:Below w'.heap.size w' (w'.alloc (.map #[] 0)):=bR.alloc (Nat.le_refl _) _;have HE:Aside (Rd 1 inC w' A (v.n3+v.n4) d.ends):=hE;have HD:Aside (DRd w' v d):=hD;have HB0:Aside (Blk w' w.heap.size _ 28):=hB0;have HQ:Aside (Below w.heap.size w w'):=hQ;have hlt0:=hB0.lt;clear hE hD hB0 hB1 hQ c0 c1 c2 c3 c4 c5 c6 c7 c8 cf f0 ff H80 H85 H87 H89 hmm;have hEl:Aside (d.ends.length=v.n3+v.n4):=HE.out.len;generalize hN:v.n3+v.n4=nn at *
 go_loopg [7,44] nn (fun gg s7 s44 wr=>∃(kk:Nat) (f:Int→Int),kk≤nn∧nn-kk≤gg∧s44=kk∧Aside (MapI wr w'.heap.size kk f)∧Aside (∀y,f y=if y∈d.ends.take kk then 1 else 0)∧Aside ((d.ends.take kk).Nodup)∧Below w'.heap.size w' wr)
 case atStart=>exact⟨0,_,Nat.zero_le _,oM,rfl,hM0,(fun y=>by simp),List.nodup_nil,hbW⟩
 obtain⟨kk,f,hkk,hg,rfl,hM,hf,hnd,hb⟩:=hrel
 by_cases hlt:kk<nn
 · have hltz:(kk:Int)<(nn:Int):=oM
   obtain⟨x,hx⟩:∃x,d.ends[kk]?=some x:=⟨d.ends[kk]'(by rw[hEl.out];exact hlt),by simp⟩;obtain⟨b,o,hA,_,k0⟩:=(HE.out.below hb).at1 hx rfl;have hxi:=hEnds.out x (List.mem_of_getElem? hx);have hok:IntOk x:=intOk oM oM;have HX:Aside (d.ends[kk]?=some x):=hx;have HBb:Aside (Below w'.heap.size w' _):=hb;have hnk:kk<maxLen:=by have:=HE.out.big;unfold maxLen;omega
   clear hx hb;subst hA
   by_cases hin:x∈d.ends.take kk
   · have hf1:f x=1:=by rw[hf.out,if_pos hin]
     have HIN:Aside (x∈d.ends.take kk):=hin;clear hin
     go_wp2_with (first
       |(at_lookup;(with_reducible refine wpList_mapI_get _ rfl _ _ 125 rfl hu w'.heap.size _ _ rfl hM.out x rfl hok ?_);try rw[hf1])
       |(at_mapUpdate;(with_reducible refine wpList_mapI_put _ rfl _ _ _ 125 rfl hu w'.heap.size _ _ rfl hM.out hnk x 2 rfl hok rfl (intOk oM oM) ?_);intro w1 hM1 hg1;replace hM:Aside (MapI w1 w'.heap.size _ _):=hM1;clear hM1))
     go_ret
     have hb2:Below w.heap.size w w1:=HQ.out.trans ((HBb.out.grown hg1 HBb.out.size (by intro k hk;cases hk;exact Nat.le_refl _)).mono HQ.out.size);refine⟨?_,hb2⟩
     rw[←HRES.out,if_pos (twice_at HX.out HIN.out)];rfl
   have hf1:f x=0:=by rw[hf.out,if_neg hin]
   have HIN:Aside (x∉d.ends.take kk):=hin;clear hin
   go_wp2_with (first
     |(at_lookup;(with_reducible refine wpList_mapI_get _ rfl _ _ 125 rfl hu w'.heap.size _ _ rfl hM.out x rfl hok ?_);try rw[hf1])
     |(at_mapUpdate;(with_reducible refine wpList_mapI_put _ rfl _ _ _ 125 rfl hu w'.heap.size _ _ rfl hM.out hnk x 1 rfl hok rfl (intOk oM oM) ?_);intro w1 hM1 hg1;replace hM:Aside (MapI w1 w'.heap.size _ _):=hM1;clear hM1))
   go_roundg (nn-(kk+1))
   case measure=>omega
   refine⟨kk+1,_,oM,oM,by go_num,hM,(fun y=>?_),nodup_take HX.out hnd.out HIN.out,HBb.out.grown hg1 HBb.out.size (by intro k hk;cases hk;exact Nat.le_refl _)⟩
   simp only[mem_take_succ HX.out]
   by_cases ey:y=x
   · simp[ey]
   simp[ey,hf.out]
 have hltz:¬(kk:Int)<(nn:Int):=oM
 have hk2:kk=nn:=oM
 subst hk2;have hall:d.ends.take kk=d.ends:=List.take_of_length_le (by rw[hEl.out];exact Nat.le_refl _);rw[hall]at hf hnd
 have HR2:Aside ((if d.clashes 0 d.sp then(7:Int) else d.sc.check)=r):=by
  have:=HRES.out
  rwa [if_neg (by simpa using hnd.out)]at this
 have HBb:Aside (Below w'.heap.size w' _):=hb;have hB0:=HB0.out.below hb;have hDr:=HD.out.below hb;have hQ2:Below w.heap.size w _:=below_then HQ.out hb;have hlenS:Aside (d.sp.length=v.n1):=hDr.sp.len;have hlenL:Aside (d.ln.length=v.n2):=hDr.ln.len;have h91:=fun W=>check91 d.sc.a d.sc.b d.sc.c d.sc.d d.sc.k W;obtain⟨c0,c1,c2,c3,c4,c5,c6,c7,c8,cf⟩:=hB0.nine;have HS:Aside (DRd _ v d):=hDr;have HQ2:Aside (Below w.heap.size w _):=hQ2;have HB2:Aside (Blk _ w.heap.size _ 28):=hB0;have hlt3:=hM.out.lt;clear hb hDr hQ2 hall hnd HRES HE hEnds
 go_wp2
 obtain⟨W0,hW0⟩:∃W0:World,W0=wr:=⟨wr,rfl⟩;subst hW0
 go_loopg [8,9,10,12,60] v.n1 (fun gg s8 s9 s10 s12 s60 wr=>∃pp:Nat,pp≤v.n1∧v.n1-pp≤gg∧s60=pp∧Below W0.heap.size W0 wr∧Aside (d.clashes 0 d.sp=d.clashes pp (d.sp.drop pp)))
 case atStart=>exact⟨0,Nat.zero_le _,oM,rfl,Below.refl _ _,rfl⟩
 obtain⟨pp,hpp,hg2,rfl,hb2,hcl⟩:=hrel;have hB0:=HB2.out.below hb2;have hDr:=HS.out.below hb2;obtain⟨c0,c1,c2,c3,c4,c5,c6,c7,c8,cf⟩:=hB0.nine;have hM2:Aside (MapI _ w'.heap.size _ _):=hM.out.below hb2;have HB3:Aside (Below W0.heap.size W0 wr):=hb2
 by_cases hlt2:pp<v.n1
 · have hltz2:(pp:Int)<(v.n1:Int):=oM
   obtain⟨sp,hsp⟩:∃sp,d.sp[pp]?=some sp:=⟨d.sp[pp]'(by rw[hlenS.out];exact hlt2),by simp⟩;obtain⟨b2,o2,hA2,_,k0,k1⟩:=hDr.sp.at2 hsp rfl;obtain⟨kd,ph⟩:=sp;dsimp only at k0 k1;have hdrop:Aside (d.sp.drop pp=⟨kd,ph⟩::d.sp.drop (pp+1)):=drop_at hsp;clear hsp hb2;rw[hA2]at c0
   by_cases hk0:kd=0
   · subst hk0;have hbA:Below wr.heap.size wr (wr.alloc (.cells #[.int .i64 0,ph] 73)):=bR.alloc (Nat.le_refl _) _;have HBA:Aside (Below W0.heap.size W0 (wr.alloc (.cells #[.int .i64 0,ph] 73))):=below_then HB3.out hbA;clear hDr;have e_c:=(hB0.below hbA).nine;clear hB0
     go_wp2
     go_loopg [10,12,71] v.n2 (fun gg s10 s12 s71 wr=>∃jj:Nat,jj≤v.n2∧v.n2-jj≤gg∧s71=jj∧s10= .int .i64 ((d.ln.take jj).countP (·.at pp):Nat)∧Aside ((d.ln.take jj).any (·.ring pp)=false)∧Below W0.heap.size W0 wr)
     case atStart=>exact⟨0,Nat.zero_le _,oM,rfl,by simp,(show Aside _ from by simp[Aside]),HBA.out⟩
     obtain⟨jj,hjj,hg3,rfl,rfl,hnr,hb3⟩:=hrel;have hDr3:=HS.out.below hb3;have x_c:=(HB2.out.below hb3).nine
     by_cases hlt3:jj<v.n2
     · have hltz3:(jj:Int)<(v.n2:Int):=oM
       obtain⟨ln,hln⟩:∃ln,d.ln[jj]?=some ln:=⟨d.ln[jj]'(by rw[hlenL.out];exact hlt3),by simp⟩;obtain⟨b3,o3,hA3,_,l0,l1,l2⟩:=hDr3.ln.at3 hln rfl;have HLN:=Lib.hid hln;obtain⟨lf,lt,lh⟩:=ln;dsimp only at l0 l1 l2;have hcle:((d.ln.take jj).countP (·.at pp))≤jj:=Nat.le_trans List.countP_le_length (by rw[List.length_take];omega);have HB3':Aside (Below W0.heap.size W0 wr):=hb3;clear hln hDr3 hb3;have hbl:Below wr.heap.size wr (wr.alloc (.cells #[lf,lt, .bool lh] 77)):=bR.alloc (Nat.le_refl _) _;have HBl:Aside (Below W0.heap.size W0 (wr.alloc (.cells #[lf,lt, .bool lh] 77))):=below_then HB3'.out hbl;clear hbl
       have HCT:Aside (((d.ln.take (jj+1)).countP (·.at pp):Nat)=(d.ln.take jj).countP (·.at pp)+if (Line.mk lf lt lh).at pp=true then 1 else 0):=by
        show _=_
        rw[List.take_add_one,HLN.out,List.countP_append];simp[List.countP_cons]
       have HRT:Aside ((d.ln.take (jj+1)).any (·.ring pp)=((Line.mk lf lt lh).ring pp)):=by
        show _=_
        rw[List.take_add_one,HLN.out,List.any_append,hnr.out];simp
       by_cases f1:lf=(pp:Int)
       · have f1b:(lf==(pp:Int))=true:=by simpa using f1
         by_cases f2:lt=(pp:Int)
         · have f2b:(lt==(pp:Int))=true:=by simpa using f2
           have hr7:r=7:=by
            have h9:=HR2.out;rw[hcl.out,hdrop.out]at h9
            have h8:d.clash pp=true:=by
             unfold Diag.clash;have h7:d.ln.any (·.ring pp)=true:=List.any_eq_true.2 ⟨_,List.mem_of_getElem? HLN.out,by simp[Line.ring,f1,f2]⟩;rw[h7];rfl
            rw[if_pos (by simp[Diag.clashes,h8])]at h9;exact h9.symm
           have HR7:Aside (r=7):=hr7;clear f1 f2 hr7
           go_wp2
           go_ret
           refine⟨by rw[HR7.out];rfl,below_then HQ2.out HBl.out⟩
         have f2b:(lt==(pp:Int))=false:=by simpa using f2
         have HAT:Aside ((Line.mk lf lt lh).at pp=true∧(Line.mk lf lt lh).ring pp=false):=⟨by simp[Line.at,f1],by simp[Line.ring,f2]⟩;clear f1 f2
         go_wp2
         rw[←hA2,←hA3]
         go_roundg (v.n2-(jj+1))
         case measure=>omega
         exact⟨jj+1,oM,oM,by go_num,(by rw[HCT.out,if_pos HAT.out.1];go_num),(by rw[HRT.out];exact HAT.out.2),HBl.out⟩
       have f1b:(lf==(pp:Int))=false:=by simpa using f1
       by_cases f2:lt=(pp:Int)
       · have f2b:(lt==(pp:Int))=true:=by simpa using f2
         have HAT:Aside ((Line.mk lf lt lh).at pp=true∧(Line.mk lf lt lh).ring pp=false):=⟨by simp[Line.at,f2],by simp[Line.ring,f1]⟩;clear f1 f2
         go_wp2
         rw[←hA2,←hA3]
         go_roundg (v.n2-(jj+1))
         case measure=>omega
         exact⟨jj+1,oM,oM,by go_num,(by rw[HCT.out,if_pos HAT.out.1];go_num),(by rw[HRT.out];exact HAT.out.2),HBl.out⟩
       have f2b:(lt==(pp:Int))=false:=by simpa using f2
       have HAT:Aside ((Line.mk lf lt lh).at pp=false∧(Line.mk lf lt lh).ring pp=false):=⟨by simp[Line.at,f1,f2],by simp[Line.ring,f1]⟩;clear f1 f2
       go_wp2
       rw[←hA2,←hA3]
       go_roundg (v.n2-(jj+1))
       case measure=>omega
       exact⟨jj+1,oM,oM,by go_num,(by rw[HCT.out,if_neg (by rw[HAT.out.1];simp)];rfl),(by rw[HRT.out];exact HAT.out.2),HBl.out⟩
     have hltz3:¬(jj:Int)<(v.n2:Int):=oM
     have hj2:jj=v.n2:=oM
     have hallL:d.ln.take jj=d.ln:=List.take_of_length_le (by rw[hlenL.out];omega);rw[hallL]at hnr;obtain⟨cn,hcn⟩:∃cn,cn=d.ln.countP (·.at pp):=⟨_,rfl⟩;rw[hallL,←hcn];have HCN:=Lib.hid hcn;have hcn100:cn≤100:=by rw[hcn];exact Nat.le_trans List.countP_le_length (by rw[hlenL.out];omega)
     have hM3:Aside (MapI wr w'.heap.size _ f):=hM.out.below hb3;have HB3':Aside (Below W0.heap.size W0 wr):=hb3;have hokp:IntOk (pp:Int):=intOk oM oM
     have HCL:Aside (d.clash pp=(!decide ((pp:Int)∈d.ends)||!decide (cn=1))):=by
      show _=_
      unfold Diag.clash;rw[hnr.out,←hcn];simp
     clear hcn hallL hb3 hDr3 hj2
     by_cases hin:(pp:Int)∈d.ends
     · have hf1:f (pp:Int)=1:=by rw[hf.out,if_pos hin]
       have HIN:Aside ((pp:Int)∈d.ends):=hin;clear hin
       by_cases hc1:cn=1
       · have HC1:Aside (cn=1):=hc1;have hc1b:((cn:Int) != 1)=false:=by simp[hc1]
         clear hc1
         go_wp2_with (at_lookup;(with_reducible refine wpList_mapI_get _ rfl _ _ 125 rfl hu w'.heap.size _ _ rfl hM3.out (pp:Int) rfl hokp ?_);try rw[hf1])
         rw[←hA2]
         go_roundg (v.n1-(pp+1))
         case measure=>omega
         exact⟨pp+1,oM,oM,by go_num,HB3'.out,(show d.clashes 0 d.sp=d.clashes (pp+1) (d.sp.drop (pp+1)) by rw[hcl.out,hdrop.out];simp[Diag.clashes,HCL.out,HIN.out,HC1.out])⟩
       have hr7:r=7:=by
        have h9:=HR2.out;rw[hcl.out,hdrop.out,if_pos (by simp[Diag.clashes,HCL.out,hc1])]at h9;exact h9.symm
       have HR7:Aside (r=7):=hr7;have hc1b:((cn:Int) != 1)=true:=by simp;omega
       clear hr7 hc1
       go_wp2_with (at_lookup;(with_reducible refine wpList_mapI_get _ rfl _ _ 125 rfl hu w'.heap.size _ _ rfl hM3.out (pp:Int) rfl hokp ?_);try rw[hf1])
       go_ret
       refine⟨by rw[HR7.out];rfl,below_then HQ2.out HB3'.out⟩
     have hf1:f (pp:Int)=0:=by rw[hf.out,if_neg hin]
     have hr7:r=7:=by
      have h9:=HR2.out;rw[hcl.out,hdrop.out,if_pos (by simp[Diag.clashes,HCL.out,hin])]at h9;exact h9.symm
     have HR7:Aside (r=7):=hr7;clear hr7 hin
     go_wp2_with (at_lookup;(with_reducible refine wpList_mapI_get _ rfl _ _ 125 rfl hu w'.heap.size _ _ rfl hM3.out (pp:Int) rfl hokp ?_);try rw[hf1])
     go_ret
     refine⟨by rw[HR7.out];rfl,below_then HQ2.out HB3'.out⟩
   have hk1:(kd==0)=false:=by simpa using hk0
   clear hDr hB0
   go_wp2
   go_roundg (v.n1-(pp+1))
   case measure=>omega
   exact⟨pp+1,oM,oM,by go_num,HB3.out.alloc HB3.out.size _,(show d.clashes 0 d.sp=d.clashes (pp+1) (d.sp.drop (pp+1)) by rw[hcl.out,hdrop.out];simp[Diag.clashes,hk0])⟩
 have hltz2:¬(pp:Int)<(v.n1:Int):=oM
 have hp2:pp=v.n1:=oM
 have hcf:d.clashes 0 d.sp=false:=by
  rw[hcl.out,List.drop_of_length_le (by rw[hlenS.out];omega)];rfl
 have hrr:d.sc.check=r:=by
  have:=HR2.out
  rwa [hcf,if_neg sI]at this
 have HC91:=h91 wr;rw[show Num.check ⟨d.sc.a,d.sc.b,d.sc.c,d.sc.d,d.sc.k⟩=r from hrr]at HC91;have HQ3:Aside (Below w.heap.size w wr):=below_then HQ2.out hb2;clear hb2 hB0 hDr h91
 go_wp2_with (go_at_call 91;(with_reducible refine HC91.mono ?_);rintro e w5 ⟨rfl,hb5⟩)
 go_ret
 exact⟨rfl,below_then HQ3.out hb5⟩
end
section
open Go.RowKit Go.Shelf
theorem check37 (v:DV) (d:Diag) (w:World) (hd:DRd w v d) (hs:v.n3+v.n4≤4398046511104):
  Calls Tryz.prog 37 #[diaV v d.sc] w fun e w'=>e= .returned d.check∧Below w.heap.size w w':=by
 have l1:=hd.sp.len;have l2:=hd.ln.len;show Calls Tryz.prog 37 #[.agg (a9 v d.sc)] w _
 unfold Diag.check;rw[l1,l2]
 by_cases h1:40<v.n1∨100<v.n2
 · rw[if_pos h1];exact check37_many v d w hd hs h1
 rw[if_neg h1];have h1a:¬40<v.n1:=fun h=>h1 (.inl h);have h1b:¬100<v.n2:=fun h=>h1 (.inr h)
 cases h3:(d.sp.any fun s=>badSp s.kind s.phase) with
 | true=>
  rw[if_pos rfl];exact check37_range v d w hd hs h1a h1b h3
 | false=>
  rw[if_neg sI]
  cases h4:(d.ln.any d.badLn||d.ends.any d.badEnd) with
  | true=>
   rw[if_pos rfl];exact check37_not v d w hd hs h1a h1b h3 h4
  | false=>
   rw[if_neg sI];obtain⟨h5,h6⟩:=Bool.or_eq_false_iff.1 h4;exact check37_rest v d w hd hs h1a h1b h3 h5 h6
end
section
open Go.RowKit Go.Shelf
variable {N:Nat}
theorem opened51 (v:DV) (d:Diag) (w:World) (hd:DRd w v d) (hs:v.n3+v.n4≤4398046511104):
  Calls Tryz.prog 51 #[diaV v d.sc] w fun e w'=>Below w.heap.size w w'∧if d.check=0 then∃p v',e= .returned (.tuple #[pt p 0, .int .i64 0])∧WK 83 [] w.heap.size w' p v' {d with sc:=d.sc.form} else e= .returned (.tuple #[.pointer none,d.check]):=by
 obtain⟨W,hW⟩:∃W,W=w.alloc (.cells (a9 v d.sc) 28):=⟨_,rfl⟩;have hB1:Blk W w.heap.size (l9 v d.sc) 28:=by rw[hW];exact Blk.new w _ 28
 have hBW:Below w.heap.size w W:=by rw[hW];exact bR.alloc (Nat.le_refl _) _
 have H37:=check37 v d W (hd.below hBW) hs;have HD:=Lib.hid (hd.below hBW);have HB:=Lib.hid hBW;have HB1:=Lib.hid hB1;have HW:=Lib.hid hW;have a_c:=hB1.nine;clear hW hB1 hBW hd
 by_cases hc:d.check=0
 · simp only[if_pos hc];rw[hc]at H37;have hok:=Diag.ok_of_check hc
   have HP:Aside (v.n1≤40∧v.n2≤100∧v.n3≤40∧v.n4≤40):=by
    have h1:=HD.out.sp.len;have h2:=HD.out.ln.len;have h3:=HD.out.ins.len;have h4:=HD.out.outs.len;have g1:=hok.n1;have g2:=hok.n2;have g3:=hok.n3;have g4:=hok.n4;show _∧_
    omega
   have HSC:Aside (d.sc.check=0):=hok.sc;clear hc hok;go_enter Tryz.func51,Tryz.ntmps51
   go_upto_region 1 with fail
   rw[←HW.out]
   go_wp2_with (first
     | (go_at_call 37;(with_reducible refine H37.mono ?_);rintro e w1 ⟨rfl,hb1⟩;clear H37
        have b_c:=(HB1.out.below hb1).nine;have H102:=own102 v d w1 (HD.out.below hb1) HSC.out HP.out.1 HP.out.2.1 HP.out.2.2.1 HP.out.2.2.2;have HB2:=Lib.hid (HB.out.trans (hb1.mono HB.out.size))
        clear hb1 a_c)
     |(go_at_call 102;(with_reducible refine H102.mono ?_);rintro e w2 ⟨p,v',rfl,hK,hb2⟩;clear H102;have HK:=Lib.hid hK;have HB3:=Lib.hid hb2;clear hK hb2))
   refine bodyPost_ret (v:= .tuple #[pt p 0, .int .i64 0]) (by simp[results,Tryz.results51,go_sem]) rfl ?_
   have hk:=HK.out;refine⟨HB2.out.trans (HB3.out.mono HB2.out.size),p,v',rfl,⟨hk.blk,hk.own.mono HB2.out.size,hk.np,Nat.le_trans HB2.out.size hk.hp⟩⟩
 simp only[if_neg hc];have hc1:(d.check != 0)=true:=by simpa using hc
 generalize d.check=ck at *;clear hc;go_enter Tryz.func51,Tryz.ntmps51
 go_upto_region 1 with fail
 rw[←HW.out]
 go_wp2_with (go_at_call 37;(with_reducible refine H37.mono ?_);rintro e w1 ⟨rfl,hb1⟩;clear H37;have HB2:=Lib.hid (HB.out.trans (hb1.mono HB.out.size));clear hb1)
 refine bodyPost_ret (v:= .tuple #[.pointer none,ck]) (by simp[results,Tryz.results51,go_sem]) rfl ?_
 exact⟨HB2.out,rfl⟩
theorem do22 (v:DV) (d:Diag) (w:World) (hd:DRd w v d) (hs:v.n3+v.n4≤4398046511104) (hG:Glob N w) (hN:N≤w.heap.size) (r a o:Int):
  Calls Tryz.prog 22 #[diaV v d.sc, .agg #[r,a,o]] w (RetD w.heap.size (d.do_ ⟨r,a,o⟩) w):=by
 obtain⟨W,hW⟩:∃W,W=((w.alloc (.cells (a9 v d.sc) 28)).alloc (.cells #[r,a,o] 47)).alloc (.cells zA 28):=⟨_,rfl⟩;have hB1:Blk W w.heap.size (l9 v d.sc) 28:=by rw[hW];exact((Blk.new w _ 28).alloc _).alloc _
 have hB2:Blk W (w.heap.size+1) [r,a,o] 47:=by
  rw[hW];have h9:=(Blk.new (w.alloc (.cells (a9 v d.sc) 28)) #[r,a,o] 47).alloc (.cells zA 28);simpa using h9
 have hB3:Blk W (w.heap.size+1+1) z9 28:=by
  rw[hW];have h9:=Blk.new ((w.alloc (.cells (a9 v d.sc) 28)).alloc (.cells #[r,a,o] 47)) zA 28;simpa using h9
 have hBW:Below w.heap.size w W:=by rw[hW];exact((bR.alloc (Nat.le_refl _) _).alloc sI _).alloc (by simp;omega) _
 have hsz:W.heap.size=w.heap.size+3:=by rw[hW];simp
 generalize hnb:w.heap.size+1+1=nb at hB3;generalize hrb:w.heap.size+1=rb at hB2 hnb;have H37:=check37 v d W (hd.below hBW) hs;have HB1:=Lib.hid hB1;have HB2:=Lib.hid hB2;have HB3:=Lib.hid hB3;have HBW:=Lib.hid hBW;have HSZ:Aside (W.heap.size=w.heap.size+3∧rb=w.heap.size+1∧nb=w.heap.size+2):=⟨hsz,hrb.symm,oM⟩;have HD:=Lib.hid hd;have HG:=Lib.hid (hG.below hBW hN);have HNN:Aside (N≤w.heap.size):=hN;have HW:=Lib.hid hW;have a_c:=hB1.nine;clear hW hB1 hB2 hB3 hBW hsz hd hG hN
 by_cases hc:d.check=0
 · have HS0:Aside (d.do_ ⟨r,a,o⟩=d.step ⟨r,a,o⟩):=by
    show d.do_ _=_
    unfold Diag.do_;rw[if_pos hc]
   have HI:Aside d.Inv:=Diag.inv_of_check hc;rw[hc]at H37;clear hc;go_enter Tryz.func22,Tryz.ntmps22
   go_upto_region 1 with fail
   try rw[hrb]
   try rw[hnb]
   rw[←HW.out];clear hrb hnb
   go_wp2_with (first
     | (go_at_call 37;(with_reducible refine H37.mono ?_);rintro e w1 ⟨rfl,hb1⟩;clear H37
        have b_c:=(HB1.out.below hb1).nine;have hr1:=HB2.out.below hb1;have r0:=hr1.cell 0 _ rfl;have r1:=hr1.cell 1 _ rfl;have r2:=hr1.cell 2 _ rfl;have H78:=step78 (N:=N) v d w1 ((HD.out.below HBW.out).below hb1) HI.out (HG.out.below hb1 (by have:=HNN.out;have:=HSZ.out;omega)) (by have:=HNN.out;have:=HSZ.out;have:=hb1.size;omega) r a o;have HN1:=Lib.hid (HB3.out.below hb1);have HBx:=Lib.hid (HBW.out.trans (hb1.mono HBW.out.size))
        clear hb1 hr1 a_c)
     | (go_at_call 78;(with_reducible refine H78.mono ?_);rintro e w7 ⟨v7,rfl,hO7,hb7⟩;clear H78
        have hn7:=HN1.out.below hb7;have HN7:=Lib.hid hn7;have HB7:Aside (Below w.heap.size w w7):=HBx.out.trans (hb7.mono HBx.out.size);have z_c:=hn7.nine
        clear hn7 hb7))
   have hq:=HN7.out.set9 (.slice v7.A1 v7.n1 v7.c1) (.slice v7.A2 v7.n2 v7.c2) (.slice v7.A3 v7.n3 v7.c3) (.slice v7.A4 v7.n4 v7.c4) (.int .i64 (d.step ⟨r,a,o⟩).1.sc.a) (.int .i64 (d.step ⟨r,a,o⟩).1.sc.b) (.int .i64 (d.step ⟨r,a,o⟩).1.sc.c) (.int .i64 (d.step ⟨r,a,o⟩).1.sc.d) (.int .i64 (d.step ⟨r,a,o⟩).1.sc.k);refine bodyPost_ret (v:= .tuple #[diaV v7 (d.step ⟨r,a,o⟩).1.sc, .int .i64 (d.step ⟨r,a,o⟩).2]) (by simp[results,Tryz.results22,go_sem,hq.nine]) rfl ?_
   rw[HS0.out];refine⟨v7,rfl,?_,HB7.out.trans ((touch_set9 _ _ _ _ _ _ _ _ _ _ _).below HB7.out.size (fun x hx=>by have:=HSZ.out;simp at hx;omega))⟩
   exact(hO7.out.touch (touch_set9 _ _ _ _ _ _ _ _ _ _ _) (fun y hy hm=>by simp at hm;subst hm;have h1:=(hO7.out.lt y hy).1;have h2:=HN1.out.lt;omega)).mono HBx.out.size
 have HS0:Aside (d.do_ ⟨r,a,o⟩=(Diag.nil,d.check)):=by
  show d.do_ _=_
  unfold Diag.do_;rw[if_neg hc]
 have hc1:(d.check != 0)=true:=by simpa using hc
 have z_c:=HB3.out.nine;generalize d.check=ck at *;clear hc;go_enter Tryz.func22,Tryz.ntmps22
 go_upto_region 1 with fail
 try rw[hrb]
 try rw[hnb]
 rw[←HW.out];clear hrb hnb
 go_wp2_with (go_at_call 37;(with_reducible refine H37.mono ?_);rintro e w1 ⟨rfl,hb1⟩;clear H37
              have hn1:=HB3.out.below hb1;have HN1:=Lib.hid hn1;clear z_c;have z_c:=hn1.nine
              have HB2x:=Lib.hid (HBW.out.trans (hb1.mono HBW.out.size));clear hb1 hn1)
 have hq:=HN1.out.set9 (.slice none 0 0) (.slice none 0 0) (.slice none 0 0) (.slice none 0 0) (.int .i64 0) (.int .i64 0) (.int .i64 0) (.int .i64 0) (.int .i64 0);refine bodyPost_ret (v:= .tuple #[.agg #[.slice none 0 0, .slice none 0 0, .slice none 0 0, .slice none 0 0, .int .i64 0, .int .i64 0, .int .i64 0, .int .i64 0, .int .i64 0],ck]) (by simp[results,Tryz.results22,go_sem,hq.nine]) rfl ?_
 rw[HS0.out];exact⟨nilDV,rfl,OwnD.nilD _ _,HB2x.out.trans ((touch_set9 _ _ _ _ _ _ _ _ _ _ _).below HB2x.out.size (fun x hx=>by have:=HSZ.out;simp at hx;omega))⟩
end
section
open Go.RowKit Go.Shelf
theorem concat126f (B:Option Addr) (m c:Nat) (rs:List Row) (w:World) (hR:Rd 1 rowC w B m rs) (hrows:∀r∈rs,RowOk w r) (hs:rowSum rs≤4398046511104):
  Calls Tryz.prog 126 #[.slice B m c] w fun e w'=>∃A c',e= .returned (.slice A (rowSum rs) c')∧Rd 1 inC w' A (rowSum rs) (rs.flatMap (·.xs))∧(∀a,A=some a→w.heap.size≤a.block)∧Below w.heap.size w w':=by
 obtain⟨i0,hi,hz0,hz1,hz2⟩:=info_parts inf3;have ht:=Tryz.underlying24;have hbig:=hR.big;have hlen:Aside (rs.length=m):=hR.len;have HR:Aside (Rd 1 rowC w B m rs):=hR;have HO:Aside (∀r∈rs,RowOk w r):=hrows;have HI:Aside (Tryz.prog.info? 3=some i0∧i0.zero=some (.int .i64 0)∧i0.size=1∧i0.bytes=8):=⟨hi,hz0,hz1,hz2⟩;have hG:=fun(n:Nat) (W:World) (h:n≤4398046511104)=>grow145 n W h;clear hR hrows hi hz0 hz1 hz2;go_enter Tryz.func126,Tryz.ntmps126
 go_wp2
 go_loopg [3,5,11] m (fun gg s3 s5 s11 wr=>∃kk:Nat,kk≤m∧m-kk≤gg∧s11=kk∧s3= .int .i64 (rowSum (rs.take kk):Nat)∧w=wr)
 case atStart=>exact⟨0,Nat.zero_le _,oM,rfl,by simp[rowSum],rfl⟩
 obtain⟨kk,hkk,hg,rfl,rfl,rfl⟩:=hrel
 by_cases hlt:kk<m
 · have hltz:(kk:Int)<(m:Int):=oM
   obtain⟨r,hr⟩:∃r,rs[kk]?=some r:=⟨rs[kk]'(by rw[hlen.out];exact hlt),by simp⟩;obtain⟨b,o,hA,_,hc0⟩:=HR.out.at1 hr rfl;subst hA;have hst:=rowSum_take hr;have hle:=rowSum_le rs kk;have hle2:=rowSum_le rs (kk+1);obtain⟨rA,rn,rc,rxs⟩:=r;dsimp only at hc0 hst;clear hr;generalize hS:rowSum (rs.take kk)=S at hst hle ⊢;generalize hS2:rowSum (rs.take (kk+1))=S2 at hst hle2;have HS2:Aside (rowSum (rs.take (kk+1))=S2):=hS2;clear hS hS2
   go_wp2
   go_roundg (m-(kk+1))
   case measure=>omega
   exact⟨kk+1,oM,oM,by go_num,by rw[HS2.out,hst];go_num,rfl⟩
 have hltz:¬(kk:Int)<(m:Int):=oM
 have:kk=m:=oM
 subst this;have hall:rs.take kk=rs:=List.take_of_length_le (by rw[hlen.out];exact Nat.le_refl _);rw[hall];clear hall;have hC:=hG (rowSum rs) w hs;generalize hS:rowSum rs=S at hs hC ⊢;have HS:Aside (rowSum rs=S):=hS;clear hS hG
 go_wp2_with ((go_at_call 145);(with_reducible refine hC.mono ?_);rintro e w' ⟨A,cA,rfl,hown,hb⟩)
 go_loopg [6,8,27] kk (fun gg s6 s8 s27 wr=>∃jj:Nat,∃A' c',jj≤kk∧kk-jj≤gg∧s27=jj∧s6= .slice A' (rowSum (rs.take jj)) c'∧Aside (wr.ownsRow w.heap.size 3 1 (.slice A' (rowSum (rs.take jj)) c') (rowSum (rs.take jj)) (((rs.take jj).flatMap (·.xs)).flatMap inC))∧Below w.heap.size w wr)
 case atStart=>exact⟨0,A,cA,Nat.zero_le _,oM,rfl,rfl,hown,hb⟩
 obtain⟨jj,A',c',hjj,hg2,rfl,rfl,hO,hb2⟩:=hrel
 by_cases hlt2:jj<kk
 · have hltz2:(jj:Int)<(kk:Int):=oM
   obtain⟨r,hr⟩:∃r,rs[jj]?=some r:=⟨rs[jj]'(by rw[hlen.out];exact hlt2),by simp⟩;obtain⟨b,o,hA,_,hc0⟩:=(HR.out.below hb2).at1 hr rfl;subst hA;have hok:=(HO.out r (List.mem_of_getElem? hr)).below hb2;have hst:=rowSum_take hr;have hxt:=rowXs_take hr;have hle:=rowSum_le rs jj;have hle2:=rowSum_le rs (jj+1);rw[HS.out]at hle hle2;obtain⟨rA,rn,rc,rxs⟩:=r;dsimp only at hc0 hst hxt;obtain⟨hrd,hnone⟩:=hok;dsimp only at hrd hnone;have HB:Aside (Below w.heap.size w _):=hb2;have hsz:w.heap.size≤_:=hb2.size;clear hr hb2
   cases rA with
   | none=>
    have:rc=0:=hnone rfl;subst this
    have:rn=0:=by
     rcases Nat.eq_zero_or_pos rn with h|h
     · exact h
     obtain⟨b,o,e,_⟩:=hrd.2.2 h;cases e
    subst this;have:rxs=[]:=List.eq_nil_of_length_eq_zero hrd.1;subst this;rw[List.append_nil]at hxt;rw[Nat.add_zero]at hst;have HX:Aside ((List.take (jj+1) rs).flatMap (·.xs)=(List.take jj rs).flatMap (·.xs)∧rowSum (rs.take (jj+1))=rowSum (rs.take jj)):=⟨hxt,hst⟩;clear hxt hst hrd hnone;generalize hS1:rowSum (rs.take jj)=S1 at *;generalize hX1:(List.take jj rs).flatMap (·.xs)=X1 at *
    go_wp2_with (at_builtin;(refine wpList_append_own_none rfl _ _ 24 rfl w.heap.size 3 i0 1 ht HI.out.1 _ _ _ rfl hO.out rfl ?_))
    go_roundg (kk-(jj+1))
    case measure=>omega
    exact⟨jj+1,A',c',oM,oM,by go_num,by rw[HX.out.2],by rw[HX.out.1,HX.out.2];exact hO,HB.out⟩
   | some a=>
    have hl:(rxs.flatMap inC).length=rn*1:=by rw[flat_len inC_len,hrd.1]
    have hcc:=Rd.flatA dE inC_len hrd;have HC:Aside _:=hcc;have HX:Aside ((List.take (jj+1) rs).flatMap (·.xs)=(List.take jj rs).flatMap (·.xs)++rxs∧rowSum (rs.take (jj+1))=rowSum (rs.take jj)+rn):=⟨hxt,hst⟩;have h1:=inC_one rxs;have hle3:rowSum (rs.take jj)+rn≤S:=by rw[←hst];exact hle2
    clear hxt hst hrd hnone hcc;generalize hS1:rowSum (rs.take jj)=S1 at *;generalize hX1:(List.take jj rs).flatMap (·.xs)=X1 at *
    go_wp2_with (at_builtin;(refine wpList_append_own _ rfl _ _ 24 rfl w.heap.size 3 i0 (.int .i64 0) 1 8 ht HI.out.1 HI.out.2.1 HI.out.2.2.1 HI.out.2.2.2 rfl dE _ _ _ rfl hO.out a rn rc (rxs.flatMap inC) rfl hl HC.out h1 ?q4 ?q5 ?q6 ?_))
    case q4=>unfold maxLen;omega
    case q5=>omega
    case q6=>exact hsz
    intro v' w1 hown' hgrow hnil
    have hbn:Below w.heap.size w w1:=HB.out.grown hgrow hsz (by
      intro k hk
      exact(hO.out.lt k hk).1)
    obtain⟨A2,c2,rfl⟩:∃A2 c2,v'= .slice A2 (S1+rn) c2:=by
     rcases hown'.2 with⟨h,h0⟩|⟨g,cap,_,h,_⟩
     · rw[h0];exact⟨_,_,h⟩
     exact⟨_,_,h⟩
    have HO2:Aside (w1.ownsRow w.heap.size 3 1 (.slice A2 (S1+rn) c2) (S1+rn) ((X1++rxs).flatMap inC)):=by
     rw[List.flatMap_append];exact hown'
    clear hown' hgrow hnil
    go_wp2
    go_roundg (kk-(jj+1))
    case measure=>omega
    exact⟨jj+1,A2,c2,oM,oM,by go_num,by rw[HX.out.2],by rw[HX.out.1,HX.out.2];exact HO2,hbn⟩
 have hltz2:¬(jj:Int)<(kk:Int):=oM
 have:jj=kk:=oM
 subst this;have hall:rs.take jj=rs:=List.take_of_length_le (by rw[hlen.out];exact Nat.le_refl _);rw[hall,HS.out]at hO;rw[hall,HS.out];clear hall
 go_wp2
 go_ret
 rw[HS.out];exact⟨A',⟨c',rfl⟩,Rd.owned dE inC_len hO.out,(fun a ha=>by subst ha;exact(hO.out.lt _ rfl).1),hb2⟩
theorem ends80f (v:DV) (s:Num) (d:Diag) (w:World) (hd:DRd w v d) (hs:v.n3+v.n4≤4398046511104):
  Calls Tryz.prog 80 #[.agg (a9 v s)] w fun e w'=>∃A c,e= .returned (.slice A (v.n3+v.n4) c)∧Rd 1 inC w' A (v.n3+v.n4) d.ends∧(∀a,A=some a→w.heap.size≤a.block)∧Below w.heap.size w w':=by
 have hb1:Below w.heap.size w (w.alloc (.cells (a9 v s) 28)):=bR.alloc (Nat.le_refl _) _;have hb2:Below w.heap.size w ((w.alloc (.cells (a9 v s) 28)).alloc (.cells #[.slice v.A3 v.n3 v.c3, .slice v.A4 v.n4 v.c4] 24)):=hb1.alloc sI _
 have hB1:Blk ((w.alloc (.cells (a9 v s) 28)).alloc (.cells #[.slice v.A3 v.n3 v.c3, .slice v.A4 v.n4 v.c4] 24)) (w.heap.size+1) [.slice v.A3 v.n3 v.c3, .slice v.A4 v.n4 v.c4] 24:=by
  have:=Blk.new (w.alloc (.cells (a9 v s) 28)) #[.slice v.A3 v.n3 v.c3, .slice v.A4 v.n4 v.c4] 24;simpa using this
 have hd2:=hd.below hb2
 have hR:Rd 1 rowC ((w.alloc (.cells (a9 v s) 28)).alloc (.cells #[.slice v.A3 v.n3 v.c3, .slice v.A4 v.n4 v.c4] 24)) (some ⟨w.heap.size+1,0,none⟩) 2 [⟨v.A3,v.n3,v.c3,d.ins⟩,⟨v.A4,v.n4,v.c4,d.outs⟩]:=by
  refine⟨rfl,oM,fun _=>⟨w.heap.size+1,0,rfl,hB1.lt,fun i r hi j u hu=>?_⟩⟩
  match i,hi with
  | 0,hi=>
   cases hi
   match j,hu with
   |0,hu=>cases hu;exact hB1.cell 0 _ rfl
  | 1,hi=>
   cases hi
   match j,hu with
   |0,hu=>cases hu;exact hB1.cell 1 _ rfl
 have hC:=concat126f _ 2 2 _ _ hR (by
   intro r hr;simp only[List.mem_cons,List.not_mem_nil,or_false]at hr
   rcases hr with rfl|rfl
   · exact⟨hd2.ins,hd2.c3⟩
   · exact⟨hd2.outs,hd2.c4⟩) (by simp[rowSum];omega)
 have e1:rowSum [⟨v.A3,v.n3,v.c3,d.ins⟩,⟨v.A4,v.n4,v.c4,d.outs⟩]=v.n3+v.n4:=by simp[rowSum]
 have e2:[(⟨v.A3,v.n3,v.c3,d.ins⟩:Row),⟨v.A4,v.n4,v.c4,d.outs⟩].flatMap (·.xs)=d.ends:=by simp[Diag.ends]
 rw[e1,e2]at hC;clear hd hd2 hR hB1 e1 e2;generalize d.ends=E at hC ⊢;have HB:Aside (Below w.heap.size w ((w.alloc (.cells (a9 v s) 28)).alloc (.cells #[.slice v.A3 v.n3 v.c3, .slice v.A4 v.n4 v.c4] 24))):=hb2;clear hb1 hb2;go_enter Tryz.func80,Tryz.ntmps80
 go_wp2_with (go_at_call 126;(with_reducible refine hC.mono ?_);rintro e w' ⟨A,cA,rfl,hr,hfr,hb⟩)
 go_ret
 exact⟨A,cA,rfl,hr,(fun a ha=>Nat.le_trans HB.out.size (hfr a ha)),below_then HB.out hb⟩
end
end Go.Proofs.YtcoackmdmohnhaaGreatDoor
