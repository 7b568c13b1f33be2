/- The reference: Check. -/
import Derived.Test.YtcoackmdmohnhaaGreatDoorV29
import Derived.Test.YtcoackmdmohnhaaGreatDoorV21
set_option linter.unusedVariables false
set_option linter.unusedSimpArgs false
set_option maxRecDepth 100000
set_option maxHeartbeats 4000000
namespace Go.Proofs.YtcoackmdmohnhaaGreatDoor
open Go.RowKit Go.Shelf
variable {α:Type} {enc:α→List Value} {k:Nat} {n:Nat} {A:Option Addr} {w:World} {d:Diag}
theorem check_2 (h:40<d.sp.length∨100<d.ln.length):d.check=2:=by unfold Diag.check;rw[if_pos h]
theorem check_3 (h:¬(40<d.sp.length∨100<d.ln.length)) {s:Spider} (hs:s∈d.sp) (hb:badSp s.kind s.phase=true):d.check=3:=by
 unfold Diag.check;rw[if_neg h,if_pos (List.any_eq_true.2 ⟨s,hs,hb⟩)]
structure Chk1 (d:Diag):Prop where
 n:¬(40<d.sp.length∨100<d.ln.length)
 s:∀s∈d.sp,badSp s.kind s.phase=false
theorem Chk1.eq (h:Chk1 d):d.check=if d.ln.any d.badLn||d.ends.any d.badEnd then 1 else if¬d.ends.Nodup then 5 else if d.clashes 0 d.sp then 7 else d.sc.check:=by
 unfold Diag.check
 rw[if_neg h.n,if_neg (by
   intro h2;obtain⟨s,hs,hb⟩:=List.any_eq_true.1 h2;have h3:=h.s s hs;rw[h3]at hb
   cases hb)]
theorem Chk1.ln (h:Chk1 d) {l:Line} (hl:l∈d.ln) (hb:d.badLn l=true):d.check=1:=by
 rw[h.eq,if_pos];rw[Bool.or_eq_true];exact .inl (List.any_eq_true.2 ⟨l,hl,hb⟩)
theorem Chk1.en (h:Chk1 d) {x:Int} (hx:x∈d.ends) (hb:d.badEnd x=true):d.check=1:=by
 rw[h.eq,if_pos];rw[Bool.or_eq_true];exact .inr (List.any_eq_true.2 ⟨x,hx,hb⟩)
structure Chk2 (d:Diag):Prop where
 o:Chk1 d
 l:∀l∈d.ln,d.badLn l=false
 e:∀x∈d.ends,d.badEnd x=false
theorem Chk2.eq (h:Chk2 d):d.check=if¬d.ends.Nodup then 5 else if d.clashes 0 d.sp then 7 else d.sc.check:=by
 rw[h.o.eq,if_neg];rw[Bool.or_eq_true];rintro (h2|h2)
 · obtain⟨l,hl,hb⟩:=List.any_eq_true.1 h2;rw[h.l l hl]at hb;cases hb
 obtain⟨l,hl,hb⟩:=List.any_eq_true.1 h2;rw[h.e l hl]at hb;cases hb
theorem Chk2.two (h:Chk2 d) {x:Int} (hx:d.ends[k]?=some x) (h2:x∈d.ends.take k):d.check=5:=by
 rw[h.eq,if_pos (not_nodup_take hx h2)]
theorem Chk2.cl (h:Chk2 d) (hn:d.ends.Nodup) {s:Spider} (hs:d.sp[k]?=some s) (h0:s.kind=0) (hc:d.clash k=true):d.check=7:=by
 rw[h.eq,if_neg (by simpa using hn),if_pos ((clashes_drop d d.sp 0).2 ⟨k,s,hs,h0,by rw[Nat.zero_add];exact hc⟩)]
theorem Chk2.ok (h:Chk2 d) (hn:d.ends.Nodup) (hc:∀k s,d.sp[k]?=some s→s.kind=0→d.clash k=false):d.check=d.sc.check:=by
 rw[h.eq,if_neg (by simpa using hn),if_neg];intro h2;obtain⟨k,s,hs,h0,h3⟩:=(clashes_drop d d.sp 0).1 h2;rw[Nat.zero_add,hc k s hs h0]at h3;cases h3
theorem Rd.pre {xs:List α} (h:Rd k enc w A n xs) {m:Nat} (hm:m≤n):Rd k enc w A m (xs.take m):=by
 refine⟨by rw[List.length_take,h.1];omega,by have:=h.2.1;omega,fun h0=>?_⟩
 obtain⟨b,o,e,hlt,hc⟩:=h.2.2 oM;refine⟨b,o,e,hlt,fun i x hx=>hc i x ?_⟩
 rw[List.getElem?_take]at hx
 split at hx
 · exact hx
 cases hx
theorem take_all {p:α→Prop} {l:List α} {x:α} (h:∀y∈l.take k,p y) (hx:l[k]?=some x) (hp:p x):∀y∈l.take (k+1),p y:=by
 intro y hy;rw[List.take_add_one,hx]at hy
 rcases List.mem_append.1 hy with hy|hy
 · exact h y hy
 simp at hy
 exact hy▸hp
theorem xe74_0 {p:Prop} (h:p:=by
 clear hf ht;go_wp2_with fail
 rw[←HLA.out]
 go_roundg (v.n2-(jj+1))
 case measure=>omega
 exact⟨jj+1,oM,Nat.le_refl _,nX,by rw[HCV.out];first|rfl|(congr 1;omega),HLW.out _ _ _⟩):p:=h
theorem check38 (v:DV) (d:Diag) (w:World) (hd:DRd w v d) (h1:v.n1≤1000) (h2:v.n2≤1000) (h3:v.n3≤1000) (h4:v.n4≤1000):
  Calls Tryz.prog 38 #[diaV v d.sc] w fun e w'=>e= .returned d.check∧Below w.heap.size w w':=by
 obtain⟨W,hW⟩:∃W,W=w.alloc (.cells (a9 v d.sc) 28):=⟨_,rfl⟩;have hX1:Blk W w.heap.size (l9 v d.sc) 28:=by rw[hW];exact Blk.new w _ 28
 have hBW:Below w.heap.size w W:=by rw[hW];exact bR.alloc (Nat.le_refl _) _
 have HS:Aside (∀u,Below W.heap.size W u→u.cell? ⟨w.heap.size,0,none⟩=some (.slice v.A1 v.n1 v.c1)∧u.cell? ⟨w.heap.size,1,none⟩=some (.slice v.A2 v.n2 v.c2)∧u.cell? ⟨w.heap.size,2,none⟩=some (.slice v.A3 v.n3 v.c3)∧u.cell? ⟨w.heap.size,3,none⟩=some (.slice v.A4 v.n4 v.c4)∧u.cell? ⟨w.heap.size,4,none⟩=some (.int .i64 d.sc.a)∧u.cell? ⟨w.heap.size,5,none⟩=some (.int .i64 d.sc.b)∧u.cell? ⟨w.heap.size,6,none⟩=some (.int .i64 d.sc.c)∧u.cell? ⟨w.heap.size,7,none⟩=some (.int .i64 d.sc.d)∧u.cell? ⟨w.heap.size,8,none⟩=some (.int .i64 d.sc.k)):=by
  intro u hu;obtain⟨x0,x1,x2,x3,x4,x5,x6,x7,x8,xf⟩:=(hX1.below hu).nine;exact⟨x0,x1,x2,x3,x4,x5,x6,x7,x8⟩
 have HR:Aside (∀u,Below W.heap.size W u→DRd u v d):=fun u hu=>(hd.below hBW).below hu;have HBW:=Lib.hid hBW;have l1:=hd.sp.len;have l2:=hd.ln.len;have HL:Aside (d.sp.length=v.n1∧d.ln.length=v.n2∧d.ends.length=v.n3+v.n4):=⟨l1,l2,by rw[←hd.ins.len,←hd.outs.len];exact List.length_append⟩;obtain⟨ck,hck⟩:∃ck,ck=d.check:=⟨_,rfl⟩;rw[←hck];have HC:=Lib.hid hck;have HW:=Lib.hid hW;have HX:=Lib.hid hX1;have a_c:=hX1.nine;clear hd hW hX1 hBW hck;go_enter Tryz.func38,Tryz.ntmps38
 go_upto_region 1 with fail
 rw[←HW.out]
 by_cases hA1:40<v.n1
 · have hz:(40:Int)<(v.n1:Int):=oM
   go_wp2_with fail
   refine bodyPost_ret (v:= .int .i64 2) (by simp[results,Tryz.results38,go_sem]) rfl ⟨?_,HBW.out⟩
   rw[HC.out,check_2 (.inl (by rw[l1];exact hA1))]
 have hz1:¬(40:Int)<(v.n1:Int):=oM
 by_cases hA2:100<v.n2
 · have hz:(100:Int)<(v.n2:Int):=oM
   go_wp2_with fail
   refine bodyPost_ret (v:= .int .i64 2) (by simp[results,Tryz.results38,go_sem]) rfl ⟨?_,HBW.out⟩
   rw[HC.out,check_2 (.inr (by rw[l2];exact hA2))]
 have hz2:¬(100:Int)<(v.n2:Int):=oM
 have HN:Aside (¬(40<d.sp.length∨100<d.ln.length)):=by
  show¬_
  omega
 clear l1 l2 hA1 hA2;go_wp2_with fail
 go_loopg [30] v.n1 (fun gg s30 wr=>∃kk:Nat,kk≤v.n1∧v.n1-kk≤gg∧s30=kk∧Aside (Below W.heap.size W wr)∧Aside (∀s∈d.sp.take kk,badSp s.kind s.phase=false))
 case atStart=>exact⟨0,Nat.zero_le _,oM,rfl,Below.refl _ _,fun s hs=>by simp at hs⟩
 obtain⟨kk,hk,hg,rfl,hB,hS⟩:=hrel;clear hz1 hz2 a_c;have a_c:=HS.out _ hB.out
 by_cases hlt:kk<v.n1
 · have hltz:(kk:Int)<(v.n1:Int):=oM
   obtain⟨⟨sk,sp⟩,hs⟩:=get_of (l:=d.sp) (n:=kk) (by have:=HL.out;omega);obtain⟨b,o,hA,hbl,r0,r1⟩:=(HR.out _ hB.out).sp.at2 hs rfl;dsimp only at r0 r1;have HBAD:Aside (badSp sk sp=true→ck=3):=fun h=>by rw[HC.out,check_3 HN.out (List.mem_of_getElem? hs) h]
   have HOK:Aside (badSp sk sp=false→∀s∈d.sp.take (kk+1),badSp s.kind s.phase=false):=fun h=>take_all hS.out hs h;have HLW:Aside (∀z y,Below W.heap.size W (wr.alloc (.cells #[z,y] 73))):=fun z y=>hB.out.alloc hB.out.size _;have HAA:=Lib.hid hA;clear hs;rw[hA];clear hA;have q1:sp≠0→(sp != 0)=true:=fun h=>by simpa using h
   rcases Int.lt_trichotomy sp 0 with q|q|q
   all_goals first
    |(replace q1:=q1 oM;go_wp2_with fail)
    |(subst q;clear q1;go_wp2_with fail)
   all_goals first
    | (refine bodyPost_ret (v:= .int .i64 3) (by simp[results,Tryz.results38,go_sem]) rfl ⟨?_,HBW.out.trans ((HLW.out _ _).mono HBW.out.size)⟩
       rw[HBAD.out (by unfold badSp;simp only[Bool.or_eq_true,Bool.and_eq_true,Bool.not_eq_true',decide_eq_true_eq,decide_eq_false_iff_not];omega)])
    | (rw[←HAA.out]
       go_roundg (v.n1-(kk+1))
       case measure=>omega
       case rel=>exact⟨kk+1,oM,Nat.le_refl _,nX,HLW.out _ _,HOK.out (by unfold badSp;first|(simp only[Bool.or_eq_false_iff,Bool.and_eq_false_imp,Bool.not_eq_false',decide_eq_false_iff_not,decide_eq_true_eq];omega)|(simp;omega)|simp)⟩)
 have hltz:¬(kk:Int)<(v.n1:Int):=oM
 have HC1:Aside (Chk1 d):=⟨HN.out,by
   have h9:=hS.out;rw[List.take_of_length_le (by have:=HL.out;omega)]at h9
   exact h9⟩
 clear hS
 go_upto_region 9 with fail
 generalize kk=k9 at hlt hltz hk hg ⊢;have HSr:Aside (∀u,Below wr.heap.size wr u→u.cell? ⟨w.heap.size,0,none⟩=some (.slice v.A1 v.n1 v.c1)∧u.cell? ⟨w.heap.size,1,none⟩=some (.slice v.A2 v.n2 v.c2)∧u.cell? ⟨w.heap.size,2,none⟩=some (.slice v.A3 v.n3 v.c3)∧u.cell? ⟨w.heap.size,3,none⟩=some (.slice v.A4 v.n4 v.c4)∧u.cell? ⟨w.heap.size,4,none⟩=some (.int .i64 d.sc.a)∧u.cell? ⟨w.heap.size,5,none⟩=some (.int .i64 d.sc.b)∧u.cell? ⟨w.heap.size,6,none⟩=some (.int .i64 d.sc.c)∧u.cell? ⟨w.heap.size,7,none⟩=some (.int .i64 d.sc.d)∧u.cell? ⟨w.heap.size,8,none⟩=some (.int .i64 d.sc.k)):=fun u hu=>HS.out u (below_then hB.out hu);have HRr:Aside (∀u,Below wr.heap.size wr u→DRd u v d):=fun u hu=>HR.out u (below_then hB.out hu);clear a_c
 refine wp_region_FX [(5,1),(63,7)] (fun l x u=>Below wr.heap.size wr u∧(l 0=true→l 3=false→∃q,x 63= .slice (some ⟨q,0,none⟩) 0 0∧Blk u q [] 3∧wr.heap.size≤q)∧(l 3=true→l 6=false→∃A c,x 66= .slice A v.n3 c∧u.ownsRow wr.heap.size 3 1 (.slice A v.n3 c) v.n3 (d.ins.flatMap inC))) (fun i u u'=>match i with|6=>True|_=>Below u.heap.size u u') (fun j x u=>match j with|0=>True|1=>x 64=pt w.heap.size 2|2=>x 65= .slice v.A3 v.n3 v.c3|3=>True|4=>x 67=pt w.heap.size 3|5=>x 68= .slice v.A4 v.n4 v.c4|6=>∃A c,x 69= .slice A (v.n3+v.n4) c∧u.ownsRow wr.heap.size 3 1 (.slice A (v.n3+v.n4) c) (v.n3+v.n4) (d.ends.flatMap inC)|7=>∃A c,x 5= .slice A (v.n3+v.n4) c∧u.ownsRow wr.heap.size 3 1 (.slice A (v.n3+v.n4) c) (v.n3+v.n4) (d.ends.flatMap inC)|_=>True) ?h0 ?hkeep ?hstep ?d0
 case h0=>exact⟨bR.drew,(fun h=>by cases h),(fun h=>by cases h)⟩
 case hkeep=>
  intro j i x l u u' hj hi hpre ht hG hR
  by_cases hi6:i=6
  · subst hi6
    by_cases hj6:j=6
    · subst hj6;rw[hj]at hi;cases hi
    by_cases hj7:j=7
    · subst hj7;have h9:=hpre 6 kR;rw[h9]at hi;cases hi
    exact(by have h9:=ht;clear ht;split at h9<;>first|exact h9|exact(hj6 rfl).elim|exact(hj7 rfl).elim)
  have hb:Below u.heap.size u u':=by
   split at hR
   · exact absurd rfl hi6
   exact hR
  by_cases hj6:j=6
  · subst hj6;obtain⟨A,c,h1,h2⟩:=ht;exact⟨A,c,h1,ownsRow_touchB h2 (Touch.of_below hb) sI⟩
  by_cases hj7:j=7
  · subst hj7;obtain⟨A,c,h1,h2⟩:=ht;exact⟨A,c,h1,ownsRow_touchB h2 (Touch.of_below hb) sI⟩
  exact(by have h9:=ht;clear ht;split at h9<;>first|exact h9|exact(hj6 rfl).elim|exact(hj7 rfl).elim)
 case hstep=>
  dsimp only[fil,fls,fl,List.toList_toArray,Nat.reduceAdd];refine⟨?c0,?_,?_,?c3,?_,?_,?c6,?c7,trivial⟩
  all_goals intro l x u hG hno hli hpre hd K hK
  case c0=>
   clear hd;go_simp
   exact hK _ _ trivial (bR.alloc (Nat.le_refl _) _) ⟨hG.1.alloc hG.1.size _,(fun _ _=>⟨u.heap.size,by simp[updV],Blk.new _ _ _,hG.1.size⟩),(fun h _=>by have:=hno 3 kR;simp[this]at h)⟩
  case c3=>
   have e2:x 65= .slice v.A3 v.n3 v.c3:=hd ⟨2, .data⟩ sI rfl;clear hd;simp only[e2]at hK ⊢;obtain⟨g9,h8,hB9,hg9⟩:=hG.2.1 (hpre 0 kR) hli;have hrd:=HRr.out u hG.1;have hBu:wr.heap.size≤u.heap.size:=hG.1.size;refine wp_append_zero (.tmp 63) (.tmp 65) 24 rfl 3 1 _ 8 inf3 Tryz.underlying24 rfl dE inC_len inC_one dE wr.heap.size g9 h8 hB9 hg9 _ _ _ rfl hrd.c3 d.ins hrd.ins oM hBu ?_
   intro v9 w9 hAp;obtain⟨A',c',rfl,hown,hb9,hnb⟩:=hAp;exact hK _ _ trivial hb9 ⟨below_then hG.1 hb9,(fun _ h=>by simp at h),(fun _ _=>⟨A',c',rfl,hown⟩)⟩
  case c6=>
   have e5:x 68= .slice v.A4 v.n4 v.c4:=hd ⟨5, .data⟩ sI rfl;clear hd;simp only[e5]at hK ⊢;obtain⟨A9,c9,h8,hB9⟩:=hG.2.2 (hpre 3 kR) hli;have hrd:=HRr.out u hG.1;have hBu:wr.heap.size≤u.heap.size:=hG.1.size;refine wp_append_rows (.tmp 66) (.tmp 68) 24 rfl 3 1 _ 8 inf3 Tryz.underlying24 rfl dE inC_len inC_one dE wr.heap.size A9 v.n3 c9 h8 d.ins hB9 _ _ _ rfl hrd.c4 d.outs hrd.outs oM oM hBu ?_
   intro v9 w9 hAp;obtain⟨A',c',rfl,hown,hb9,hnb⟩:=hAp;have hb8:Below wr.heap.size wr w9:=hG.1.trans (hb9.below hBu (fun y hy=>(ownsRow_lt hB9 y hy).1));exact hK _ _ ⟨A',c',rfl,hown⟩ trivial ⟨hb8,(fun _ h=>by have:=hpre 3 kR;simp[this]at h),(fun _ h=>by simp at h)⟩
  case c7=>
   have e6:∃A c,x 69= .slice A (v.n3+v.n4) c∧u.ownsRow wr.heap.size 3 1 (.slice A (v.n3+v.n4) c) (v.n3+v.n4) (d.ends.flatMap inC):=hd ⟨6, .data⟩ sI rfl;clear hd;obtain⟨A9,c9,h8,hB9⟩:=e6;generalize x 69=z6 at h8 hK ⊢;subst h8;go_simp
   exact hK _ _ ⟨A9,c9,rfl,hB9⟩ bR ⟨hG.1,(fun h h2=>by simpa [updV] using hG.2.1 sH (by simpa using h2)),(fun h h2=>by simpa [updV] using hG.2.2 sH (by simpa using h2))⟩
  all_goals
   dsimp only at hd;simp only[eB]at hd
   try simp only[hd]at hK ⊢
   first|(go_simp;exact hK _ _ rfl bR sG)|(obtain⟨b0,b1,b2,b3,b4,b5,b6,b7,b8⟩:=HSr.out _ hG.1;go_simp;exact hK _ _ rfl bR sG)
 dsimp only[fil,fls,fl,List.toList_toArray,Nat.reduceAdd];rintro l x u hall hG ⟨_,_,_,_,_,_,_,⟨A5,c5,h5,hO⟩,_⟩;have hBu:=hG.1;clear hall hG;have HE:Aside (∀z,Below u.heap.size u z→Rd 1 inC z A5 (v.n3+v.n4) d.ends):=fun z hz=>(Rd.owned dE inC_len hO).below hz
 have HCP:Aside (v.n3+v.n4≤c5):=by
  rcases hO.2 with⟨h8,h9⟩|⟨g,cap,cur,h8,_,_,h9,_⟩
  · injection h8 with e1 e2 e3;show _≤_
    omega
  injection h8 with e1 e2 e3;show _≤_
  omega
 have HSu:Aside (∀z,Below u.heap.size u z→z.cell? ⟨w.heap.size,0,none⟩=some (.slice v.A1 v.n1 v.c1)∧z.cell? ⟨w.heap.size,1,none⟩=some (.slice v.A2 v.n2 v.c2)∧z.cell? ⟨w.heap.size,2,none⟩=some (.slice v.A3 v.n3 v.c3)∧z.cell? ⟨w.heap.size,3,none⟩=some (.slice v.A4 v.n4 v.c4)∧z.cell? ⟨w.heap.size,4,none⟩=some (.int .i64 d.sc.a)∧z.cell? ⟨w.heap.size,5,none⟩=some (.int .i64 d.sc.b)∧z.cell? ⟨w.heap.size,6,none⟩=some (.int .i64 d.sc.c)∧z.cell? ⟨w.heap.size,7,none⟩=some (.int .i64 d.sc.d)∧z.cell? ⟨w.heap.size,8,none⟩=some (.int .i64 d.sc.k)):=fun z hz=>HSr.out z (below_then hBu hz);have HRu:Aside (∀z,Below u.heap.size u z→DRd z v d):=fun z hz=>HRr.out z (below_then hBu hz)
 have HLu:Aside (∀z,Below u.heap.size u z→Below w.heap.size w z):=fun z hz=>HBW.out.trans ((below_then (below_then hB.out hBu) hz).mono HBW.out.size);generalize x 5=z5 at h5 ⊢;subst h5;clear HSr HRr hB hBu hO hlt hltz hk hg;obtain⟨b0,b1,b2,b3,b4,b5,b6,b7,b8⟩:=HSu.out u bR;generalize x=xx5;go_wp2_with fail
 go_loopg [73] v.n2 (fun gg s73 wr=>∃kk:Nat,kk≤v.n2∧v.n2-kk≤gg∧s73=kk∧Aside (Below u.heap.size u wr)∧Aside (∀l∈d.ln.take kk,d.badLn l=false))
 case atStart=>exact⟨0,Nat.zero_le _,oM,rfl,Below.refl _ _,fun s hs=>by simp at hs⟩
 obtain⟨kk,hk,hg,rfl,hB,hS⟩:=hrel;clear b0 b1 b2 b3 b4 b5 b6 b7 b8;obtain⟨b0,b1,b2,b3,b4,b5,b6,b7,b8⟩:=HSu.out _ hB.out
 by_cases hlt:kk<v.n2
 · have hltz:(kk:Int)<(v.n2:Int):=oM
   obtain⟨⟨lf,lt,lh⟩,hs⟩:=get_of (l:=d.ln) (n:=kk) (by have:=HL.out;omega);obtain⟨b,o,hA,hbl,r0,r1,r2⟩:=(HRu.out _ hB.out).ln.at3 hs rfl;dsimp only at r0 r1 r2
   have HBL:Aside (d.badLn ⟨lf,lt,lh⟩=(outI v.n1 lf||outI v.n1 lt)):=by
    show _=_
    unfold Diag.badLn;rw[HL.out.1]
   have HBAD:Aside (outI v.n1 lf=true∨outI v.n1 lt=true→ck=1):=fun h=>by rw[HC.out,HC1.out.ln (List.mem_of_getElem? hs) (by rw[HBL.out,Bool.or_eq_true];exact h)]
   have HOK:Aside (outI v.n1 lf=false→outI v.n1 lt=false→∀l∈d.ln.take (kk+1),d.badLn l=false):=fun h h2=>take_all hS.out hs (by rw[HBL.out,h,h2];rfl);have HLW:Aside (∀z y x,Below u.heap.size u (wr.alloc (.cells #[z,y,x] 77))):=fun z y x=>hB.out.alloc hB.out.size _;have HAA:=Lib.hid hA;clear hs;rw[hA];clear hA;have hwl:w.heap.size<wr.heap.size:=World.block_lt_of_cell? wr ⟨w.heap.size,0,none⟩ b0;go_wp2_with fail
   all_goals first
    | (refine bodyPost_ret (v:= .int .i64 1) (by simp[results,Tryz.results38,go_sem]) rfl ⟨?_,HLu.out _ (HLW.out _ _ _)⟩
       rw[HBAD.out (by unfold outI;simp only[Bool.or_eq_true,decide_eq_true_eq];omega)])
    | (rw[←HAA.out]
       go_roundg (v.n2-(kk+1))
       case measure=>omega
       case rel=>exact⟨kk+1,oM,Nat.le_refl _,nX,HLW.out _ _ _,HOK.out (by unfold outI;simp only[Bool.or_eq_false_iff,decide_eq_false_iff_not];omega) (by unfold outI;simp only[Bool.or_eq_false_iff,decide_eq_false_iff_not];omega)⟩)
 have hltz:¬(kk:Int)<(v.n2:Int):=oM
 have HCL:Aside (∀l∈d.ln,d.badLn l=false):=by
  have h9:=hS.out;rw[List.take_of_length_le (by have:=HL.out;omega)]at h9;exact h9
 clear hS;generalize kk=k8 at hlt hltz hk hg ⊢;clear hlt hk hg;clear b0 b1 b2 b3 b4 b5 b6 b7 b8;obtain⟨b0,b1,b2,b3,b4,b5,b6,b7,b8⟩:=HSu.out _ hB.out;go_wp2_with fail
 clear b0 b1 b2 b3 b4 b5 b6 b7 b8
 go_loopg [104] (v.n3+v.n4) (fun gg s104 wr=>∃kk:Nat,kk≤v.n3+v.n4∧v.n3+v.n4-kk≤gg∧s104=kk∧Aside (Below u.heap.size u wr)∧Aside (∀x∈d.ends.take kk,d.badEnd x=false))
 case atStart=>exact⟨0,Nat.zero_le _,oM,rfl,hB.out,fun s hs=>by simp at hs⟩
 clear hB;obtain⟨kk,hk,hg,rfl,hB,hS⟩:=hrel;obtain⟨b0,b1,b2,b3,b4,b5,b6,b7,b8⟩:=HSu.out _ hB.out
 by_cases hlt:kk<v.n3+v.n4
 · have hltz:(kk:Int)<((v.n3+v.n4:Nat):Int):=oM
   obtain⟨x,hx⟩:=get_of (l:=d.ends) (n:=kk) (by have:=HL.out;omega);obtain⟨eb,eo,hEA,_,q0⟩:=(HE.out _ hB.out).at1 hx rfl;have HBAD:Aside (d.badEnd x=true→ck=1):=fun h=>by rw[HC.out,HC1.out.en (List.mem_of_getElem? hx) h]
   have HOK:Aside (d.badEnd x=false→∀y∈d.ends.take (kk+1),d.badEnd y=false):=fun h=>take_all hS.out hx h
   have HBE:Aside (d.badEnd x=(outI v.n1 x||!decide (d.kindAt x=0))):=by
    show _=_
    unfold Diag.badEnd;rw[HL.out.1]
   have HAA:=Lib.hid hEA;clear hx hS;rw[hEA];clear hEA
   by_cases hx0:x<0
   · go_wp2_with fail
     refine bodyPost_ret (v:= .int .i64 1) (by simp[results,Tryz.results38,go_sem]) rfl ⟨?_,HLu.out _ hB.out⟩
     rw[HBAD.out (by rw[HBE.out];simp[outI,hx0])]
   by_cases hx1:(v.n1:Int)≤x
   · go_wp2_with fail
     refine bodyPost_ret (v:= .int .i64 1) (by simp[results,Tryz.results38,go_sem]) rfl ⟨?_,HLu.out _ hB.out⟩
     rw[HBAD.out (by rw[HBE.out];simp[outI,hx1])]
   obtain⟨xn,rfl⟩:=Int.eq_ofNat_of_zero_le (show 0≤x by omega);obtain⟨⟨sk,sp⟩,hs⟩:=get_of (l:=d.sp) (n:=xn) (by have:=HL.out;omega);obtain⟨sb,so,hSA,_,r0,_⟩:=(HRu.out _ hB.out).sp.at2 hs rfl;dsimp only at r0;have HKA:=Lib.hid (kindAt_of hs);have hxn:(xn:Int)<(v.n1:Int):=oM
   rw[hSA]at b0;clear hs hSA
   by_cases hk0:sk=0
   · subst hk0;go_wp2_with fail
     rw[←HAA.out]
     go_roundg (v.n3+v.n4-(kk+1))
     case measure=>omega
     exact⟨kk+1,oM,Nat.le_refl _,nX,hB.out,HOK.out (by rw[HBE.out,HKA.out];simp[outI,hx0];omega)⟩
   have q1:(sk != 0)=true:=by simpa using hk0
   have HK0:Aside (¬sk=0):=hk0;clear hk0;go_wp2_with fail
   refine bodyPost_ret (v:= .int .i64 1) (by simp[results,Tryz.results38,go_sem]) rfl ⟨?_,HLu.out _ hB.out⟩
   rw[HBAD.out (by rw[HBE.out,HKA.out];simp[outI,show¬sk=0 from HK0.out])]
 have hltz:¬(kk:Int)<((v.n3+v.n4:Nat):Int):=oM
 have HC2:Aside (Chk2 d):=⟨HC1.out,HCL.out,by
   have h9:=hS.out;rw[List.take_of_length_le (by have:=HL.out;omega)]at h9
   exact h9⟩
 clear hS HCL;generalize kk=k7 at hlt hltz hk hg ⊢;clear hlt hk hg;go_wp2_with fail
 clear b0 b1 b2 b3 b4 b5 b6 b7 b8
 go_loopg [129] (v.n3+v.n4) (fun gg s129 wr=>∃kk:Nat,kk≤v.n3+v.n4∧v.n3+v.n4-kk≤gg∧s129=kk∧Aside (Below u.heap.size u wr)∧Aside (∀k x,k<kk→d.ends[k]?=some x→x∉d.ends.take k))
 case atStart=>exact⟨0,Nat.zero_le _,oM,rfl,hB.out,fun k x hk=>absurd hk (Nat.not_lt_zero _)⟩
 clear hB;obtain⟨kk,hk,hg,rfl,hB,hS⟩:=hrel;obtain⟨b0,b1,b2,b3,b4,b5,b6,b7,b8⟩:=HSu.out _ hB.out
 by_cases hlt:kk<v.n3+v.n4
 · have hltz:(kk:Int)<((v.n3+v.n4:Nat):Int):=oM
   obtain⟨x,hx⟩:=get_of (l:=d.ends) (n:=kk) (by have:=HL.out;omega);obtain⟨eb,eo,hEA,_,q0⟩:=(HE.out _ hB.out).at1 hx rfl;have hR:=(HE.out _ hB.out).pre (m:=kk) oM;have hcp:(kk:Int)≤(c5:Int):=by have h9:=HCP.out;omega
   have HBAD:Aside (x∈d.ends.take kk→ck=5):=fun h=>by rw[HC.out,HC2.out.two hx h]
   have HOK:Aside (x∉d.ends.take kk→∀k x,k<kk+1→d.ends[k]?=some x→x∉d.ends.take k):=by
    intro h k y hk hy
    rcases Nat.lt_succ_iff_lt_or_eq.1 hk with h9|rfl
    · exact hS.out k y h9 hy
    rw[hx]at hy;cases hy
    exact h
   rw[hEA]at hR;have H92:=fun W hr=>has92 (some ⟨eb,eo,none⟩) kk c5 (d.ends.take kk) x W hr;have HAA:=Lib.hid hEA;have HR9:Aside (Rd 1 inC wr (some ⟨eb,eo,none⟩) kk (d.ends.take kk)):=hR;clear hx hS hR;rw[hEA];clear hEA
   by_cases hm:x∈d.ends.take kk
   · rw[decide_eq_true hm]at H92;have HCK:=Lib.hid (HBAD.out hm);clear hm
     go_wp2_with (go_at_call 92;(with_reducible refine(H92 _ HR9.out).mono ?_);rintro e w2 ⟨rfl,rfl⟩;clear H92)
     refine bodyPost_ret (v:= .int .i64 5) (by simp[results,Tryz.results38,go_sem]) rfl ⟨?_,HLu.out _ hB.out⟩
     rw[HCK.out]
   rw[decide_eq_false hm]at H92;have HCK:=Lib.hid (HOK.out hm);clear hm
   go_wp2_with (go_at_call 92;(with_reducible refine(H92 _ HR9.out).mono ?_);rintro e w2 ⟨rfl,rfl⟩;clear H92)
   rw[←HAA.out]
   go_roundg (v.n3+v.n4-(kk+1))
   case measure=>omega
   exact⟨kk+1,oM,Nat.le_refl _,nX,hB.out,HCK.out⟩
 have hltz:¬(kk:Int)<((v.n3+v.n4:Nat):Int):=oM
 have HND:Aside d.ends.Nodup:=nodupR_take fun k x hx=>hS.out k x (by have h8:=HL.out;have h9:=(List.getElem?_eq_some_iff.1 hx).1;omega) hx;clear hS;generalize kk=k6 at hlt hltz hk hg ⊢;clear hlt hk hg;go_wp2_with fail
 clear b0 b1 b2 b3 b4 b5 b6 b7 b8
 go_loopg [143] v.n1 (fun gg s143 wr=>∃kk:Nat,kk≤v.n1∧v.n1-kk≤gg∧s143=kk∧Aside (Below u.heap.size u wr)∧Aside (∀k s,k<kk→d.sp[k]?=some s→s.kind=0→d.clash k=false))
 case atStart=>exact⟨0,Nat.zero_le _,oM,rfl,hB.out,fun k x hk=>absurd hk (Nat.not_lt_zero _)⟩
 clear hB;obtain⟨kk,hk,hg,rfl,hB,hS⟩:=hrel;obtain⟨b0,b1,b2,b3,b4,b5,b6,b7,b8⟩:=HSu.out _ hB.out
 by_cases hlt:kk<v.n1
 · have hltz:(kk:Int)<(v.n1:Int):=oM
   have hwl:w.heap.size<wr.heap.size:=World.block_lt_of_cell? wr ⟨w.heap.size,0,none⟩ b0;obtain⟨⟨sk,sp⟩,hs⟩:=get_of (l:=d.sp) (n:=kk) (by have:=HL.out;omega);obtain⟨sb,so,hSA,_,r0,r1⟩:=(HRu.out _ hB.out).sp.at2 hs rfl;dsimp only at r0 r1;have HBAD:Aside (sk=0→d.clash kk=true→ck=7):=fun h h2=>by rw[HC.out,HC2.out.cl HND.out hs h h2]
   have HOK:Aside ((sk=0→d.clash kk=false)→∀k s,k<kk+1→d.sp[k]?=some s→s.kind=0→d.clash k=false):=by
    intro h k y hk hy h0
    rcases Nat.lt_succ_iff_lt_or_eq.1 hk with h9|rfl
    · exact hS.out k y h9 hy h0
    rw[hs]at hy;cases hy
    exact h h0
   have HLW:Aside (∀z y,Below u.heap.size u (wr.alloc (.cells #[z,y] 73))):=fun z y=>hB.out.alloc hB.out.size _;have HAA:=Lib.hid hSA;clear hs hS;rw[hSA];clear hSA
   by_cases hk0:sk=0
   · subst hk0;go_wp2_with fail
     rw[←HAA.out];have hb9:Below u.heap.size u (wr.alloc (.cells #[.int .i64 0,sp] 73)):=HLW.out _ _;clear b0 b1 b2 b3 b4 b5 b6 b7 b8 r0 r1
     go_loopg [154,14] v.n2 (fun gg s154 s14 wr=>∃jj:Nat,jj≤v.n2∧v.n2-jj≤gg∧s154=jj∧s14= .int .i64 (cntL (kk:Int) (d.ln.take jj):Nat)∧Aside (Below u.heap.size u wr))
     case atStart=>exact⟨0,Nat.zero_le _,oM,rfl,rfl,hb9⟩
     clear hB hb9 HLW hwl;obtain⟨jj,hj,hg2,rfl,rfl,hB⟩:=hrel;obtain⟨cn,hcn⟩:∃cn,cn=cntL (kk:Int) (d.ln.take jj):=⟨_,rfl⟩;rw[←hcn]
     have hcb:cn≤2000:=by
      have h9:=cntL_le (kk:Int) (d.ln.take jj);rw[List.length_take]at h9;have h8:=HL.out;omega
     have HCN:=Lib.hid hcn;clear hcn
     by_cases hlt2:jj<v.n2
     · have hltz2:(jj:Int)<(v.n2:Int):=oM
       obtain⟨⟨lf,lt,lh⟩,hl⟩:=get_of (l:=d.ln) (n:=jj) (by have:=HL.out;omega);obtain⟨lb,lo,hLA,_,r0,r1,r2⟩:=(HRu.out _ hB.out).ln.at3 hl rfl;dsimp only at r0 r1 r2;have HCT:=cntL_take (kk:Int) hl;rw[←HCN.out]at HCT;have HCT:=Lib.hid HCT;have HLW:Aside (∀z y x,Below u.heap.size u (wr.alloc (.cells #[z,y,x] 77))):=fun z y x=>hB.out.alloc hB.out.size _;have HLA:=Lib.hid hLA;clear hl;rw[hLA];clear hLA;have hw1:IntKind.i64.wrap ((cn:Int)+1)=((cn+1:Nat):Int):=IntWalk.i64_in _ oM;have hw2:IntKind.i64.wrap (((cn+1:Nat):Int)+1)=((cn+2:Nat):Int):=IntWalk.i64_in _ oM;have HCV:Aside (cntL (kk:Int) (d.ln.take (jj+1))=cn+((if lf=(kk:Int) then 1 else 0)+(if lt=(kk:Int) then 1 else 0))):=HCT.out
       rcases (show (lf=(kk:Int)∧lt=(kk:Int))∨(lf=(kk:Int)∧¬lt=(kk:Int))∨(¬lf=(kk:Int)∧lt=(kk:Int))∨(¬lf=(kk:Int)∧¬lt=(kk:Int)) by omega) with⟨hf,ht⟩|⟨hf,ht⟩|⟨hf,ht⟩|⟨hf,ht⟩
       · rw[if_pos hf,if_pos ht]at HCV;have qf:(lf==(kk:Int))=true:=by simpa using hf
         have qt:(lt==(kk:Int))=true:=by simpa using ht
         exact xe74_0
       · rw[if_pos hf,if_neg ht]at HCV;have qf:(lf==(kk:Int))=true:=by simpa using hf
         have qt:(lt==(kk:Int))=false:=by simpa using ht
         exact xe74_0
       · rw[if_neg hf,if_pos ht]at HCV;have qf:(lf==(kk:Int))=false:=by simpa using hf
         have qt:(lt==(kk:Int))=true:=by simpa using ht
         exact xe74_0
       rw[if_neg hf,if_neg ht]at HCV;have qf:(lf==(kk:Int))=false:=by simpa using hf
       have qt:(lt==(kk:Int))=false:=by simpa using ht
       exact xe74_0
     have hltz2:¬(jj:Int)<(v.n2:Int):=oM
     have hcn:=HCN.out;rw[List.take_of_length_le (by have:=HL.out;omega)]at hcn
     have HCR:Aside (d.clash kk=decide (cn≠1∨(kk:Int)∉d.ends)):=by
      show _=_
      rw[clash_ref,hcn]
     have H92:=fun W hr=>has92 A5 (v.n3+v.n4) c5 d.ends (kk:Int) W hr;have HR9:=Lib.hid (HE.out _ hB.out);clear hcn HCN
     by_cases hn:cn=1
     · subst hn;have q1:(((1:Nat):Int) != 1)=false:=by decide
       by_cases hm:(kk:Int)∈d.ends
       · rw[decide_eq_true hm]at H92;have HCK:=Lib.hid (HOK.out (fun _=>by rw[HCR.out];simpa using hm));clear hm
         go_wp2_with (go_at_call 92;(with_reducible refine(H92 _ HR9.out).mono ?_);rintro e w2 ⟨rfl,rfl⟩;clear H92)
         go_roundg (v.n1-(kk+1))
         case measure=>omega
         exact⟨kk+1,oM,Nat.le_refl _,nX,hB.out,HCK.out⟩
       rw[decide_eq_false hm]at H92;have HCK:=Lib.hid (HBAD.out (by first|rfl|trivial) (by rw[HCR.out];simpa using hm));clear hm
       go_wp2_with (go_at_call 92;(with_reducible refine(H92 _ HR9.out).mono ?_);rintro e w2 ⟨rfl,rfl⟩;clear H92)
       refine bodyPost_ret (v:= .int .i64 7) (by simp[results,Tryz.results38,go_sem]) rfl ⟨?_,HLu.out _ hB.out⟩
       rw[HCK.out]
     have q1:((cn:Int) != 1)=true:=by simp;omega
     have HCK:=Lib.hid (HBAD.out (by first|rfl|trivial) (by rw[HCR.out];simp[hn]));clear hn;go_wp2_with fail
     refine bodyPost_ret (v:= .int .i64 7) (by simp[results,Tryz.results38,go_sem]) rfl ⟨?_,HLu.out _ hB.out⟩
     rw[HCK.out]
   have q1:(sk != 0)=true:=by simpa using hk0
   have HCK:=Lib.hid (HOK.out (fun h=>absurd h hk0));clear hk0;go_wp2_with fail
   rw[←HAA.out]
   go_roundg (v.n1-(kk+1))
   case measure=>omega
   exact⟨kk+1,oM,Nat.le_refl _,nX,HLW.out _ _,HCK.out⟩
 have hltz:¬(kk:Int)<(v.n1:Int):=oM
 have HCK:Aside (d.sc.check=ck):=by
  show _=_
  rw[HC.out,HC2.out.ok HND.out fun k s hs h0=>hS.out k s (by have h8:=HL.out;have h9:=(List.getElem?_eq_some_iff.1 hs).1;omega) hs h0]
 have H93:=fun W=>check93 d.sc.a d.sc.b d.sc.c d.sc.d d.sc.k W;generalize hnc:Num.check ⟨d.sc.a,d.sc.b,d.sc.c,d.sc.d,d.sc.k⟩=nc at H93;have HNC:=Lib.hid hnc;clear hnc hS
 go_wp2_with (go_at_call 93;(with_reducible refine(H93 _).mono ?_);rintro e w2 ⟨rfl,hb2⟩;have HLB:=Lib.hid (below_then hB.out hb2);clear H93 hb2)
 refine bodyPost_ret (v:=nc) (by simp[results,Tryz.results38,go_sem]) rfl ⟨?_,HLu.out _ HLB.out⟩
 rw[←HCK.out,←HNC.out]
end Go.Proofs.YtcoackmdmohnhaaGreatDoor
