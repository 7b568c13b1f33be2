/- Contracts of functions, and plain lemmas; each theorem's conditions stand in its statement. -/
import Derived.Test.YtcoackmdmohnhaaGreatDoorV9
import Derived.Test.YtcoackmdmohnhaaGreatDoorV6
import Derived.Lib.AppendZeros
import Derived.Lib.AppendZerosOnto
set_option linter.unusedVariables false
set_option linter.unusedSimpArgs false
set_option maxRecDepth 100000
set_option maxHeartbeats 4000000
namespace Go.Proofs.YtcoackmdmohnhaaGreatDoor
section
open Go.RowKit Go.Shelf
theorem add203 (a b c d a' b' c' d':Int) (w:World) (h1:Bd 1000 a b c d) (h2:Bd 1000 a' b' c' d'):
  Calls Tryz.prog 203 #[.agg #[a,b,c,d, .int .i64 0], .agg #[a',b',c',d', .int .i64 0]] w fun e w'=>e= .returned (.tuple #[numV (Num.least ⟨a+a',b+b',c+c',d+d',0⟩).1, .int .i64 (Num.least ⟨a+a',b+b',c+c',d+d',0⟩).2])∧Below w.heap.size w w':=by
 have H131:Aside (∀u,Calls Tryz.prog 131 #[.agg #[a,b,c,d, .int .i64 0]] u fun e w'=>e= .returned (.agg #[a,b,c,d, .int .i64 0, .func (.func 149) #[] #[]])∧Below u.heap.size u w'):=fun u=>work131 a b c d 0 u;have H210:Aside (∀u,Calls Tryz.prog 210 #[.agg #[a,b,c,d, .int .i64 0, .func (.func 149) #[] #[]], .agg #[a',b',c',d', .int .i64 0]] u fun e w'=>e= .returned (.tuple #[numV (Num.least ⟨a+a',b+b',c+c',d+d',0⟩).1, .int .i64 (Num.least ⟨a+a',b+b',c+c',d+d',0⟩).2])∧Below u.heap.size u w'):=fun u=>add210 a b c d a' b' c' d' u h1 h2
 have HCK:Aside (∀(q:Nat) (u:World),Rd 5 numC u (some ⟨q,0,none⟩) 2 [⟨a,b,c,d,0⟩,⟨a',b',c',d',0⟩]→Calls Tryz.prog 159 #[.slice (some ⟨q,0,none⟩) 2 2] u fun e w'=>e= .returned (.int .i64 0)∧Below u.heap.size u w'):=by
  intro q u hr;refine checks159 _ 2 2 _ u hr fun x hx=>?_
  unfold Bd at h1 h2;simp only[List.mem_cons,List.mem_nil_iff,or_false]at hx
  rcases hx with rfl|rfl
  · rw[Num.check_zero];refine⟨by simp,by simp,?_⟩;rw[Bool.eq_false_iff];intro hh;rw[Num.big_iff]at hh;dsimp only at hh;omega
  rw[Num.check_zero];refine⟨by simp,by simp,?_⟩;rw[Bool.eq_false_iff];intro hh;rw[Num.big_iff]at hh;dsimp only at hh;omega
 generalize Num.least ⟨a+a',b+b',c+c',d+d',0⟩=LL at *;clear h1 h2;have HA:=Lib.hid (((Blk.new w #[a,b,c,d, .int .i64 (0:Int)] 26).alloc (.cells #[a',b',c',d', .int .i64 (0:Int)] 26)).alloc (.cells #[.int .i64 (0:Int), .int .i64 (0:Int), .int .i64 (0:Int), .int .i64 (0:Int), .int .i64 (0:Int)] 26));have hB:=(Blk.new (w.alloc (.cells #[a,b,c,d, .int .i64 (0:Int)] 26)) #[a',b',c',d', .int .i64 (0:Int)] 26).alloc (.cells #[.int .i64 (0:Int), .int .i64 (0:Int), .int .i64 (0:Int), .int .i64 (0:Int), .int .i64 (0:Int)] 26);have hR:=Blk.new ((w.alloc (.cells #[a,b,c,d, .int .i64 (0:Int)] 26)).alloc (.cells #[a',b',c',d', .int .i64 (0:Int)] 26)) #[.int .i64 (0:Int), .int .i64 (0:Int), .int .i64 (0:Int), .int .i64 (0:Int), .int .i64 (0:Int)] 26
 have HB1:Aside (Below w.heap.size w (((w.alloc (.cells #[a,b,c,d, .int .i64 (0:Int)] 26)).alloc (.cells #[a',b',c',d', .int .i64 (0:Int)] 26)).alloc (.cells #[.int .i64 (0:Int), .int .i64 (0:Int), .int .i64 (0:Int), .int .i64 (0:Int), .int .i64 (0:Int)] 26))):=(((Below.refl _ w).alloc (Nat.le_refl _) _).alloc sI _).alloc (by simp;omega) _;simp only[World.size_alloc]at hB hR;have HB:=Lib.hid hB;have HR:=Lib.hid hR;clear hB hR;go_enter Tryz.func203,Tryz.ntmps203
 go_wp2_with fail
 have hsz:w.heap.size+1+1+1=(((w.alloc (.cells #[a,b,c,d, .int .i64 (0:Int)] 26)).alloc (.cells #[a',b',c',d', .int .i64 (0:Int)] 26)).alloc (.cells #[.int .i64 (0:Int), .int .i64 (0:Int), .int .i64 (0:Int), .int .i64 (0:Int), .int .i64 (0:Int)] 26)).heap.size:=by simp only[World.size_alloc]
 rw[hsz];clear hsz;obtain⟨s2,hs2⟩:∃q,q=w.heap.size+1+1:=⟨_,rfl⟩;rw[←hs2]at HR ⊢;obtain⟨s1,hs1⟩:∃q,q=w.heap.size+1:=⟨_,rfl⟩;rw[←hs1]at HB ⊢;have HQ:Aside (s1=w.heap.size+1∧s2=w.heap.size+2):=⟨hs1,hs2⟩;clear hs1 hs2;generalize (((w.alloc (.cells #[a,b,c,d, .int .i64 (0:Int)] 26)).alloc (.cells #[a',b',c',d', .int .i64 (0:Int)] 26)).alloc (.cells #[.int .i64 (0:Int), .int .i64 (0:Int), .int .i64 (0:Int), .int .i64 (0:Int), .int .i64 (0:Int)] 26))=W0 at *;have hrd:=rd_two (Blk.new W0 #[a,b,c,d, .int .i64 (0:Int),a',b',c',d', .int .i64 (0:Int)] 26)
 (with_reducible refine(HCK.out _ _ hrd).mono ?_)
 rintro e W1 ⟨rfl,hb⟩;have hbb:=below_then ((Below.refl W0.heap.size W0).alloc (Nat.le_refl _) (.cells #[a,b,c,d, .int .i64 (0:Int),a',b',c',d', .int .i64 (0:Int)] 26)) hb;have HB1':Aside (Below w.heap.size w W1):=HB1.out.trans (hbb.mono HB1.out.size);have HA':=Lib.hid (HA.out.below hbb);have HB':=Lib.hid (HB.out.below hbb);have HR':=Lib.hid (HR.out.below hbb);clear hb hbb hrd HA HB HR HB1
 have HC:Aside (∀u,Below W1.heap.size W1 u→u.cell? ⟨w.heap.size,0,none⟩=some (.int .i64 a)∧u.cell? ⟨w.heap.size,1,none⟩=some (.int .i64 b)∧u.cell? ⟨w.heap.size,2,none⟩=some (.int .i64 c)∧u.cell? ⟨w.heap.size,3,none⟩=some (.int .i64 d)∧u.cell? ⟨w.heap.size,4,none⟩=some (.int .i64 0)∧u.cell? ⟨s1,0,none⟩=some (.int .i64 a')∧u.cell? ⟨s1,1,none⟩=some (.int .i64 b')∧u.cell? ⟨s1,2,none⟩=some (.int .i64 c')∧u.cell? ⟨s1,3,none⟩=some (.int .i64 d')∧u.cell? ⟨s1,4,none⟩=some (.int .i64 0)):=by
  intro u hu;have h1:=HA'.out.below hu;have h2:=HB'.out.below hu;exact⟨h1.cell 0 _ rfl,h1.cell 1 _ rfl,h1.cell 2 _ rfl,h1.cell 3 _ rfl,h1.cell 4 _ rfl,h2.cell 0 _ rfl,h2.cell 1 _ rfl,h2.cell 2 _ rfl,h2.cell 3 _ rfl,h2.cell 4 _ rfl⟩
 have HRS:Aside (∀u,Below W1.heap.size W1 u→Blk u s2 #[.int .i64 (0:Int), .int .i64 (0:Int), .int .i64 (0:Int), .int .i64 (0:Int), .int .i64 (0:Int)].toList 26):=fun u hu=>HR'.out.below hu;have HS2:Aside (w.heap.size≤s2):=by have:=HQ.out;show w.heap.size≤s2;omega
 go_wp2_with fail
 refine wp_region_F [(5,1),(15,6)] (fun l u=>(l 6=false→Below W1.heap.size W1 u)∧Below w.heap.size w u) (fun i u u'=>match i with|6=>True|_=>Below u.heap.size u u') (fun j x u=>match j with|0=>x 15= .agg #[a,b,c,d, .int .i64 0]|1=>x 16= .agg #[a,b,c,d, .int .i64 0, .func (.func 149) #[] #[]]|2=>x 17= .agg #[a',b',c',d', .int .i64 0]|3=>x 18= .tuple #[numV LL.1,LL.2]|4=>x 19=numV LL.1|5=>x 20=LL.2|6=>Blk u s2 [LL.1.a,LL.1.b,LL.1.c,LL.1.d,LL.1.k] 26|7=>x 5=LL.2|_=>True) ?h0 ?hkeep ?hstep ?d0
 case h0=>exact⟨fun _=>bR.drew,HB1'.out.drew⟩
 case hkeep=>
  intro j i x l u u' hj hi hpre ht hG hR
  by_cases hj6:j=6
  · subst hj6
    by_cases hi6:i=6
    · subst hi6;rw[hj]at hi;cases hi
    exact ht.below (by have h9:=hR;split at h9<;>first|exact(hi6 rfl).elim|exact h9)
  exact(by have h9:=ht;clear ht;split at h9<;>first|exact h9|exact(hj6 rfl).elim)
 case hstep=>
  dsimp only[fil,fls,fl,List.toList_toArray,Nat.reduceAdd];refine⟨?_,?c1,?_,?c3,?_,?_,?c6,?_,trivial⟩
  all_goals intro l x u hG hno hli hpre hd K hK
  case c1=>
   have e0:x 15= .agg #[a,b,c,d, .int .i64 0]:=hd ⟨0, .data⟩ sI rfl;clear hd;simp only[e0]at hK ⊢;have hBl:=hG.1 (hno 6 kR);go_simp
   (with_reducible refine(H131.out u).mono ?_);rintro e u2 ⟨rfl,hb⟩
   exact hK _ _ rfl hb ⟨fun _=>below_then hBl hb,hG.2.trans (hb.mono hG.2.size)⟩
  case c3=>
   have e1:x 16= .agg #[a,b,c,d, .int .i64 0, .func (.func 149) #[] #[]]:=hd ⟨1, .data⟩ sI rfl;have e2:x 17= .agg #[a',b',c',d', .int .i64 0]:=hd ⟨2, .data⟩ sI rfl;clear hd;simp only[e1,e2]at hK ⊢;have hBl:=hG.1 (hno 6 kR);go_simp
   (with_reducible refine(H210.out u).mono ?_);rintro e u2 ⟨rfl,hb⟩
   exact hK _ _ rfl hb ⟨fun _=>below_then hBl hb,hG.2.trans (hb.mono hG.2.size)⟩
  case c6=>
   have e4:x 19=numV LL.1:=hd ⟨4, .data⟩ sI rfl;clear hd;simp only[e4]at hK ⊢;have hBl:=hG.1 hli;have hB2:=HRS.out u hBl;obtain⟨c0,c1,c2,c3,c4,cf⟩:=hB2.five;go_simp
   exact hK undef _ (hB2.set5 _ _ _ _ _) trivial ⟨fun h=>by simp at h,below_set5 hG.2 HS2.out _ _ _ _ _⟩
  all_goals
   dsimp only at hd;simp only[eB]at hd
   try simp only[hd]at hK ⊢
   first|(go_simp;exact hK _ _ rfl bR sG)|(obtain⟨a0,a1,a2,a3,a4,b0,b1,b2,b3,b4⟩:=HC.out _ (hG.1 (hno 6 kR));go_simp;exact hK _ _ rfl bR sG)
 dsimp only[fil,fls,fl,List.toList_toArray,Nat.reduceAdd];rintro l x u hall hG ⟨_,_,_,_,_,_,hB5,e7,_⟩;obtain⟨y0,y1,y2,y3,y4,_⟩:=hB5.five;have hBB:=Lib.hid hG.2;clear hG hall hB5;generalize x 5=z5 at e7 ⊢;subst e7;go_wp2_with fail
 refine bodyPost_ret (v:= .tuple #[numV LL.1,LL.2]) (by simp[results,Tryz.results203,go_sem,y0,y1,y2,y3,y4]) rfl ⟨rfl,hBB.out⟩
end
section
open Go.RowKit Go.Shelf
variable {k:Nat} {w:World} {w':World}
theorem len_zeroCells (u:Value) (k:Nat):(Builtin.zeroCells #[u] k).size=k:=by
 simp[Builtin.zeroCells]
theorem grow145 (n:Nat) (w:World) (hn:n≤4398046511104):
  Calls Tryz.prog 145 #[.slice none 0 0,n] w fun e w'=>∃A c,e= .returned (.slice A 0 c)∧w'.ownsRow w.heap.size 3 1 (.slice A 0 c) 0 []∧Below w.heap.size w w':=by
 obtain⟨i0,hi,hz0,hz1,hz2⟩:=info_parts inf3;have ht:=Tryz.underlying24;have ht3:=Tryz.underlying3;have h1:¬((n:Int)<0):=oM
 by_cases h0:n=0
 · subst h0;clear hi hz0 hz1 hz2 ht ht3;go_enter Tryz.func145,Tryz.ntmps145
   go_wp2
   go_ret
   exact⟨none,0,rfl,World.ownsRow_nil _ _ _ _,Below.refl _ _⟩
 have hpos:(n:Int) > 0:=oM
 have hfit:=growslice_fits (need:=n) (old:=0) (bytes:=i0.bytes) oM (by rw[hz2];omega)
 have hrz:∀ty,(Builtin.append_ #[24,3] ty #[.slice none 0 0,n]).run Tryz.prog w =
     .ok (.slice (some ⟨w.heap.size,0,none⟩) n (grownCap w n 0 3)) (w.drew.alloc (.cells (#[]++Builtin.zeroCells (Value.int .i64 0).cells n++Builtin.zeroCells (Value.int .i64 0).cells (grownCap w n 0 3-n)) 3)):=fun ty=>by
   have h:=Lib.run_append_grow_zeros w 24 3 ty 3 i0 (.int .i64 0) .i64 .i64 ht ht3 hi hz0 none 0 0 [] (run_firstCells_none w.drew i0.size 0 0 0) n oM oM oM oM (by rw[hz2];omega) (by rw[Nat.zero_add];exact hfit);rw[Nat.zero_add]at h;exact h
 have hGn:n≤grownCap w n 0 3:=grownCap_ge w _ _ _;have hG63:=grownCap_le_maxLen w n 0 3 (by unfold maxLen;omega);generalize grownCap w n 0 3=G at hrz hGn hG63
 have hown:(w.drew.alloc (.cells (#[]++Builtin.zeroCells (Value.int .i64 0).cells n++Builtin.zeroCells (Value.int .i64 0).cells (G-n)) 3)).ownsRow w.heap.size 3 1 (.slice (some ⟨w.heap.size,0,none⟩) 0 G) 0 []:=by
  have:=World.ownsRow_made (base:=w.heap.size) (size:=1) (e:=3) w.drew (#[]++Builtin.zeroCells (Value.int .i64 0).cells n++Builtin.zeroCells (Value.int .i64 0).cells (G-n)) G (Nat.le_refl _) hG63 (by
    show (#[]++Builtin.zeroCells #[Value.int .i64 0] n++Builtin.zeroCells #[Value.int .i64 0] (G-n)).size=G*1
    rw[Array.size_append,Array.size_append,len_zeroCells,len_zeroCells];simp;omega)
  simpa using this
 have hb:Below w.heap.size w (w.drew.alloc (.cells (#[]++Builtin.zeroCells (Value.int .i64 0).cells n++Builtin.zeroCells (Value.int .i64 0).cells (G-n)) 3)):=((below_dN (Below.refl _ w) 1)).alloc (Nat.le_refl _) _;generalize (w.drew.alloc (.cells (#[]++Builtin.zeroCells (Value.int .i64 0).cells n++Builtin.zeroCells (Value.int .i64 0).cells (G-n)) 3))=W at hrz hown hb;have HO:Aside (W.ownsRow w.heap.size 3 1 (.slice (some ⟨w.heap.size,0,none⟩) 0 G) 0 []):=hown;unfold maxLen at hG63;clear hi hz0 hz1 hz2 hfit hown;go_enter Tryz.func145,Tryz.ntmps145
 go_wp2_with (at_builtin;refine Lib.wpList_append_run _ rfl _ _ _ _ rfl _ _ rfl rfl _ _ (hrz _) ?_)
 all_goals (go_ret;exact⟨_,_,rfl,HO.out,hb⟩)
structure Row where
 A:Option Addr
 n:Nat
 c:Nat
 xs:List Int
def rowC (r:Row):List Value:=[.slice r.A r.n r.c]
def RowOk (w:World) (r:Row):Prop:=Rd 1 inC w r.A r.n r.xs∧(r.A=none→r.c=0)
theorem RowOk.below {r:Row} (h:RowOk w r) (hb:Below w.heap.size w w'):RowOk w' r:=⟨h.1.below hb,h.2⟩
def rowSum (rs:List Row):Nat:=(rs.map (·.n)).sum
theorem rowSum_take {rs:List Row} {r:Row} (h:rs[k]?=some r):rowSum (rs.take (k+1))=rowSum (rs.take k)+r.n:=by
 simp[rowSum,List.take_add_one,h]
theorem rowSum_le (rs:List Row) (k:Nat):rowSum (rs.take k)≤rowSum rs:=by
 conv=>rhs;rw[←List.take_append_drop k rs]
 simp only[rowSum,List.map_append,List.sum_append];omega
theorem rowXs_take {rs:List Row} {r:Row} (h:rs[k]?=some r):(rs.take (k+1)).flatMap (·.xs)=(rs.take k).flatMap (·.xs)++r.xs:=by
 simp[List.take_add_one,h,List.flatMap_append]
theorem concat126 (B:Option Addr) (m c:Nat) (rs:List Row) (w:World) (hR:Rd 1 rowC w B m rs) (hrows:∀r∈rs,RowOk w r) (hs:rowSum rs≤4398046511104):
  Calls Tryz.prog 126 #[.slice B m c] w fun e w'=>∃A c',e= .returned (.slice A (rowSum rs) c')∧Rd 1 inC w' A (rowSum rs) (rs.flatMap (·.xs))∧Below w.heap.size w w':=by
 obtain⟨i0,hi,hz0,hz1,hz2⟩:=info_parts inf3;have ht:=Tryz.underlying24;have hbig:=hR.big;have hlen:Aside (rs.length=m):=hR.len;have HR:Aside (Rd 1 rowC w B m rs):=hR;have HO:Aside (∀r∈rs,RowOk w r):=hrows;have HI:Aside (Tryz.prog.info? 3=some i0∧i0.zero=some (.int .i64 0)∧i0.size=1∧i0.bytes=8):=⟨hi,hz0,hz1,hz2⟩;have hG:=fun(n:Nat) (W:World) (h:n≤4398046511104)=>grow145 n W h;clear hR hrows hi hz0 hz1 hz2;go_enter Tryz.func126,Tryz.ntmps126
 go_wp2
 go_loopg [3,5,11] m (fun gg s3 s5 s11 wr=>∃kk:Nat,kk≤m∧m-kk≤gg∧s11=kk∧s3= .int .i64 (rowSum (rs.take kk):Nat)∧w=wr)
 case atStart=>exact⟨0,Nat.zero_le _,oM,rfl,by simp[rowSum],rfl⟩
 obtain⟨kk,hkk,hg,rfl,rfl,rfl⟩:=hrel
 by_cases hlt:kk<m
 · have hltz:(kk:Int)<(m:Int):=oM
   obtain⟨r,hr⟩:∃r,rs[kk]?=some r:=⟨rs[kk]'(by rw[hlen.out];exact hlt),by simp⟩;obtain⟨b,o,hA,_,hc0⟩:=HR.out.at1 hr rfl;subst hA;have hst:=rowSum_take hr;have hle:=rowSum_le rs kk;have hle2:=rowSum_le rs (kk+1);obtain⟨rA,rn,rc,rxs⟩:=r;dsimp only at hc0 hst;clear hr;generalize hS:rowSum (rs.take kk)=S at hst hle ⊢;generalize hS2:rowSum (rs.take (kk+1))=S2 at hst hle2;have HS2:Aside (rowSum (rs.take (kk+1))=S2):=hS2;clear hS hS2
   go_wp2
   go_roundg (m-(kk+1))
   case measure=>omega
   exact⟨kk+1,oM,oM,by go_num,by rw[HS2.out,hst];go_num,rfl⟩
 have hltz:¬(kk:Int)<(m:Int):=oM
 have:kk=m:=oM
 subst this;have hall:rs.take kk=rs:=List.take_of_length_le (by rw[hlen.out];exact Nat.le_refl _);rw[hall];clear hall;have hC:=hG (rowSum rs) w hs;generalize hS:rowSum rs=S at hs hC ⊢;have HS:Aside (rowSum rs=S):=hS;clear hS hG
 go_wp2_with ((go_at_call 145);(with_reducible refine hC.mono ?_);rintro e w' ⟨A,cA,rfl,hown,hb⟩)
 go_loopg [6,8,27] kk (fun gg s6 s8 s27 wr=>∃jj:Nat,∃A' c',jj≤kk∧kk-jj≤gg∧s27=jj∧s6= .slice A' (rowSum (rs.take jj)) c'∧Aside (wr.ownsRow w.heap.size 3 1 (.slice A' (rowSum (rs.take jj)) c') (rowSum (rs.take jj)) (((rs.take jj).flatMap (·.xs)).flatMap inC))∧Below w.heap.size w wr)
 case atStart=>exact⟨0,A,cA,Nat.zero_le _,oM,rfl,rfl,hown,hb⟩
 obtain⟨jj,A',c',hjj,hg2,rfl,rfl,hO,hb2⟩:=hrel
 by_cases hlt2:jj<kk
 · have hltz2:(jj:Int)<(kk:Int):=oM
   obtain⟨r,hr⟩:∃r,rs[jj]?=some r:=⟨rs[jj]'(by rw[hlen.out];exact hlt2),by simp⟩;obtain⟨b,o,hA,_,hc0⟩:=(HR.out.below hb2).at1 hr rfl;subst hA;have hok:=(HO.out r (List.mem_of_getElem? hr)).below hb2;have hst:=rowSum_take hr;have hxt:=rowXs_take hr;have hle:=rowSum_le rs jj;have hle2:=rowSum_le rs (jj+1);rw[HS.out]at hle hle2;obtain⟨rA,rn,rc,rxs⟩:=r;dsimp only at hc0 hst hxt;obtain⟨hrd,hnone⟩:=hok;dsimp only at hrd hnone;have HB:Aside (Below w.heap.size w _):=hb2;have hsz:w.heap.size≤_:=hb2.size;clear hr hb2
   cases rA with
   | none=>
    have:rc=0:=hnone rfl;subst this
    have:rn=0:=by
     rcases Nat.eq_zero_or_pos rn with h|h
     · exact h
     obtain⟨b,o,e,_⟩:=hrd.2.2 h;cases e
    subst this;have:rxs=[]:=List.eq_nil_of_length_eq_zero hrd.1;subst this;rw[List.append_nil]at hxt;rw[Nat.add_zero]at hst;have HX:Aside ((List.take (jj+1) rs).flatMap (·.xs)=(List.take jj rs).flatMap (·.xs)∧rowSum (rs.take (jj+1))=rowSum (rs.take jj)):=⟨hxt,hst⟩;clear hxt hst hrd hnone;generalize hS1:rowSum (rs.take jj)=S1 at *;generalize hX1:(List.take jj rs).flatMap (·.xs)=X1 at *
    go_wp2_with (at_builtin;(refine wpList_append_own_none rfl _ _ 24 rfl w.heap.size 3 i0 1 ht HI.out.1 _ _ _ rfl hO.out rfl ?_))
    go_roundg (kk-(jj+1))
    case measure=>omega
    exact⟨jj+1,A',c',oM,oM,by go_num,by rw[HX.out.2],by rw[HX.out.1,HX.out.2];exact hO,HB.out⟩
   | some a=>
    have hl:(rxs.flatMap inC).length=rn*1:=by rw[flat_len inC_len,hrd.1]
    have hcc:=Rd.flatA dE inC_len hrd;have HC:Aside _:=hcc;have HX:Aside ((List.take (jj+1) rs).flatMap (·.xs)=(List.take jj rs).flatMap (·.xs)++rxs∧rowSum (rs.take (jj+1))=rowSum (rs.take jj)+rn):=⟨hxt,hst⟩;have h1:=inC_one rxs;have hle3:rowSum (rs.take jj)+rn≤S:=by rw[←hst];exact hle2
    clear hxt hst hrd hnone hcc;generalize hS1:rowSum (rs.take jj)=S1 at *;generalize hX1:(List.take jj rs).flatMap (·.xs)=X1 at *
    go_wp2_with (at_builtin;(refine wpList_append_own _ rfl _ _ 24 rfl w.heap.size 3 i0 (.int .i64 0) 1 8 ht HI.out.1 HI.out.2.1 HI.out.2.2.1 HI.out.2.2.2 rfl dE _ _ _ rfl hO.out a rn rc (rxs.flatMap inC) rfl hl HC.out h1 ?q4 ?q5 ?q6 ?_))
    case q4=>unfold maxLen;omega
    case q5=>omega
    case q6=>exact hsz
    intro v' w1 hown' hgrow hnil
    have hbn:Below w.heap.size w w1:=HB.out.grown hgrow hsz (by
      intro k hk
      exact(hO.out.lt k hk).1)
    obtain⟨A2,c2,rfl⟩:∃A2 c2,v'= .slice A2 (S1+rn) c2:=by
     rcases hown'.2 with⟨h,h0⟩|⟨g,cap,_,h,_⟩
     · rw[h0];exact⟨_,_,h⟩
     exact⟨_,_,h⟩
    have HO2:Aside (w1.ownsRow w.heap.size 3 1 (.slice A2 (S1+rn) c2) (S1+rn) ((X1++rxs).flatMap inC)):=by
     rw[List.flatMap_append];exact hown'
    clear hown' hgrow hnil
    go_wp2
    go_roundg (kk-(jj+1))
    case measure=>omega
    exact⟨jj+1,A2,c2,oM,oM,by go_num,by rw[HX.out.2],by rw[HX.out.1,HX.out.2];exact HO2,hbn⟩
 have hltz2:¬(jj:Int)<(kk:Int):=oM
 have:jj=kk:=oM
 subst this;have hall:rs.take jj=rs:=List.take_of_length_le (by rw[hlen.out];exact Nat.le_refl _);rw[hall,HS.out]at hO;rw[hall,HS.out];clear hall
 go_wp2
 go_ret
 rw[HS.out];exact⟨A',⟨c',rfl⟩,Rd.owned dE inC_len hO.out,hb2⟩
end
section
open Go.RowKit Go.Shelf
variable {α:Type}
theorem any66 (enc:α→List Value) (a1 a2 a3 a4:α→Value) (henc:∀x,enc x=[a1 x,a2 x,a3 x,a4 x]) (p:α→Bool) (g:Nat) (lb:Array Value)
  (eg:∀args w,(callFunc g args).run Tryz.prog w= .ok (.enter g args) w) (A:Option Addr) (n c:Nat) (xs:List α) (w:World)
  (hr:Rd 4 enc w A n xs) (hp:PredP g lb (fun x=> .agg #[a1 x,a2 x,a3 x,a4 x]) p xs w):
  Calls Tryz.prog 66 #[.slice A n c, .func (.func g) #[] lb] w fun e w'=>e= .returned (.bool (xs.any p))∧Below w.heap.size w w':=by
 have HC:=conf62 enc a1 a2 a3 a4 henc p g lb eg A n c xs w hr hp;generalize xs.any p=r at HC ⊢;clear hr hp eg henc;go_enter Tryz.func66,Tryz.ntmps66
 go_wp2_with (go_at_call 62;refine HC.mono ?_;rintro e w' ⟨rfl,hb⟩)
 go_ret
 exact⟨rfl,hb⟩
theorem any89 (enc:α→List Value) (a1:α→Int) (henc:∀x,enc x=[.int .i64 (a1 x)]) (p:α→Bool) (g:Nat) (lb:Array Value)
  (eg:∀args w,(callFunc g args).run Tryz.prog w= .ok (.enter g args) w) (A:Option Addr) (n c:Nat) (xs:List α) (w:World)
  (hr:Rd 1 enc w A n xs) (hp:PredP g lb (fun x=> .int .i64 (a1 x)) p xs w):
  Calls Tryz.prog 89 #[.slice A n c, .func (.func g) #[] lb] w fun e w'=>e= .returned (.bool (xs.any p))∧Below w.heap.size w w':=by
 have HC:=conf130 enc a1 henc p g lb eg A n c xs w hr hp;generalize xs.any p=r at HC ⊢;clear hr hp eg henc;go_enter Tryz.func89,Tryz.ntmps89
 go_wp2_with (go_at_call 130;refine HC.mono ?_;rintro e w' ⟨rfl,hb⟩)
 go_ret
 exact⟨rfl,hb⟩
theorem any85 (enc:α→List Value) (a1 a2:α→Int) (henc:∀x,enc x=[.int .i64 (a1 x), .int .i64 (a2 x)]) (p:α→Bool) (g:Nat) (lb:Array Value)
  (eg:∀args w,(callFunc g args).run Tryz.prog w= .ok (.enter g args) w) (A:Option Addr) (n c:Nat) (xs:List α) (w:World)
  (hr:Rd 2 enc w A n xs) (hp:PredP g lb (fun x=> .agg #[.int .i64 (a1 x), .int .i64 (a2 x)]) p xs w):
  Calls Tryz.prog 85 #[.slice A n c, .func (.func g) #[] lb] w fun e w'=>e= .returned (.bool (xs.any p))∧Below w.heap.size w w':=by
 have HC:=conf128 enc a1 a2 henc p g lb eg A n c xs w hr hp;generalize xs.any p=r at HC ⊢;clear hr hp eg henc;go_enter Tryz.func85,Tryz.ntmps85
 go_wp2_with (go_at_call 128;refine HC.mono ?_;rintro e w' ⟨rfl,hb⟩)
 go_ret
 exact⟨rfl,hb⟩
theorem any87 (enc:α→List Value) (a1 a2:α→Int) (a3:α→Bool) (henc:∀x,enc x=[.int .i64 (a1 x), .int .i64 (a2 x), .bool (a3 x)]) (p:α→Bool) (g:Nat) (lb:Array Value)
  (eg:∀args w,(callFunc g args).run Tryz.prog w= .ok (.enter g args) w) (A:Option Addr) (n c:Nat) (xs:List α) (w:World)
  (hr:Rd 3 enc w A n xs) (hp:PredP g lb (fun x=> .agg #[.int .i64 (a1 x), .int .i64 (a2 x), .bool (a3 x)]) p xs w):
  Calls Tryz.prog 87 #[.slice A n c, .func (.func g) #[] lb] w fun e w'=>e= .returned (.bool (xs.any p))∧Below w.heap.size w w':=by
 have HC:=conf129 enc a1 a2 a3 henc p g lb eg A n c xs w hr hp;generalize xs.any p=r at HC ⊢;clear hr hp eg henc;go_enter Tryz.func87,Tryz.ntmps87
 go_wp2_with (go_at_call 129;refine HC.mono ?_;rintro e w' ⟨rfl,hb⟩)
 go_ret
 exact⟨rfl,hb⟩
theorem out84 (b n c:Nat) (A:Option Addr) (x:Int) (w:World) (hn:n≤9223372036854775807) (hc:w.cell? ⟨b,0,none⟩=some (.slice A n c)):
  Calls Tryz.prog 84 #[x,pt b 0] w fun e w'=>e= .returned (.bool (outI n x))∧w=w':=by
 unfold outI
 by_cases h1:x<0
 · rw[decide_eq_true h1,Bool.true_or];go_enter Tryz.func84,Tryz.ntmps84
   go_wp2
   go_ret
   exact⟨rfl,rfl⟩
 rw[decide_eq_false h1,Bool.false_or];have h2:0≤x:=oM
 go_enter Tryz.func84,Tryz.ntmps84
 go_wp2
 go_ret
 exact⟨rfl,rfl⟩
theorem ends80 (v:DV) (s:Num) (d:Diag) (w:World) (hd:DRd w v d) (hs:v.n3+v.n4≤4398046511104):
  Calls Tryz.prog 80 #[.agg (a9 v s)] w fun e w'=>∃A c,e= .returned (.slice A (v.n3+v.n4) c)∧Rd 1 inC w' A (v.n3+v.n4) d.ends∧Below w.heap.size w w':=by
 have hb1:Below w.heap.size w (w.alloc (.cells (a9 v s) 28)):=bR.alloc (Nat.le_refl _) _;have hb2:Below w.heap.size w ((w.alloc (.cells (a9 v s) 28)).alloc (.cells #[.slice v.A3 v.n3 v.c3, .slice v.A4 v.n4 v.c4] 24)):=hb1.alloc sI _
 have hB1:Blk ((w.alloc (.cells (a9 v s) 28)).alloc (.cells #[.slice v.A3 v.n3 v.c3, .slice v.A4 v.n4 v.c4] 24)) (w.heap.size+1) [.slice v.A3 v.n3 v.c3, .slice v.A4 v.n4 v.c4] 24:=by
  have:=Blk.new (w.alloc (.cells (a9 v s) 28)) #[.slice v.A3 v.n3 v.c3, .slice v.A4 v.n4 v.c4] 24;simpa using this
 have hd2:=hd.below hb2
 have hR:Rd 1 rowC ((w.alloc (.cells (a9 v s) 28)).alloc (.cells #[.slice v.A3 v.n3 v.c3, .slice v.A4 v.n4 v.c4] 24)) (some ⟨w.heap.size+1,0,none⟩) 2 [⟨v.A3,v.n3,v.c3,d.ins⟩,⟨v.A4,v.n4,v.c4,d.outs⟩]:=by
  refine⟨rfl,oM,fun _=>⟨w.heap.size+1,0,rfl,hB1.lt,fun i r hi j u hu=>?_⟩⟩
  match i,hi with
  | 0,hi=>
   cases hi
   match j,hu with
   |0,hu=>cases hu;exact hB1.cell 0 _ rfl
  | 1,hi=>
   cases hi
   match j,hu with
   |0,hu=>cases hu;exact hB1.cell 1 _ rfl
 have hC:=concat126 _ 2 2 _ _ hR (by
   intro r hr;simp only[List.mem_cons,List.not_mem_nil,or_false]at hr
   rcases hr with rfl|rfl
   · exact⟨hd2.ins,hd2.c3⟩
   · exact⟨hd2.outs,hd2.c4⟩) (by simp[rowSum];omega)
 have e1:rowSum [⟨v.A3,v.n3,v.c3,d.ins⟩,⟨v.A4,v.n4,v.c4,d.outs⟩]=v.n3+v.n4:=by simp[rowSum]
 have e2:[(⟨v.A3,v.n3,v.c3,d.ins⟩:Row),⟨v.A4,v.n4,v.c4,d.outs⟩].flatMap (·.xs)=d.ends:=by simp[Diag.ends]
 rw[e1,e2]at hC;clear hd hd2 hR hB1 e1 e2;generalize d.ends=E at hC ⊢;have HB:Aside (Below w.heap.size w ((w.alloc (.cells (a9 v s) 28)).alloc (.cells #[.slice v.A3 v.n3 v.c3, .slice v.A4 v.n4 v.c4] 24))):=hb2;clear hb1 hb2;go_enter Tryz.func80,Tryz.ntmps80
 go_wp2_with (go_at_call 126;(with_reducible refine hC.mono ?_);rintro e w' ⟨A,cA,rfl,hr,hb⟩)
 go_ret
 exact⟨A,cA,rfl,hr,below_then HB.out hb⟩
end
section
open Go.RowKit Go.Shelf
variable {t:TypeId} {tl:List Value} {B:Nat} {p:Nat} {n:Nat} {w:World} {w':World} {v:DV} {v':DV} {d:Diag}
theorem e202:∀args w,(callFunc 202 args).run Tryz.prog w= .ok (.enter 202 args) w:=enters_of Tryz.func202 kR rfl
theorem powP_zero (x:Num):x.power 0=(x,0):=rfl
theorem finish_scale (d:Diag) (x:Num) (n:Int) (hl:d.ln.length≤100) (hx:0≤x.k) (hs:0≤d.sc.k):
  ((d.sc.mulX x.form).least.2=0→(Diag.finish (some (d,[x],n))).2=((d.sc.mulX x.form).least.1.power n).2∧((Diag.finish (some (d,[x],n))).2=0→(Diag.finish (some (d,[x],n))).1={d with sc:=((d.sc.mulX x.form).least.1.power n).1}))∧
  ((d.sc.mulX x.form).least.2≠0→(Diag.finish (some (d,[x],n))).2=(d.sc.mulX x.form).least.2):=by
 have e1:(d.sc.mulX x.form).form=(d.sc.mulX x).form:=Num.form_mulX_form2 _ _ hs hx
 have hk:0≤(d.sc.mulX x.form).k:=by
  have h1:=Num.low_form x hx;have:0≤x.form.k:=h1.1;show 0≤d.sc.k+x.form.k
  omega
 have e2:=Num.least_eq (d.sc.mulX x.form) hk;rw[e1]at e2
 have e3:Diag.finish (some (d,[x],n))=if (d.sc.finP [x] n).2=0 then({d with sc:=(d.sc.finP [x] n).1},0) else(Diag.nil,8):=by
  show (if 100<d.ln.length then _ else _)=_
  rw[if_neg oM]
 have e4:d.sc.scaleL [x]=if (d.sc.mulX x).form.check=0 then((d.sc.mulX x).form,0) else(d.sc,8):=rfl
 constructor
 · intro h
   by_cases hc:(d.sc.mulX x).form.check=0
   · rw[if_pos hc]at e2;rw[e2,e3]
     have e5:d.sc.finP [x] n=((d.sc.mulX x).form).power n:=by
      unfold Num.finP;rw[e4,if_pos hc,if_pos rfl]
     rw[e5]
     rcases Num.power_err (d.sc.mulX x).form n with h0|h0
     · rw[if_pos h0,h0];exact⟨rfl,fun _=>rfl⟩
     rw[if_neg oM,h0];exact⟨rfl,fun h=>by cases h⟩
   rw[if_neg hc]at e2;rw[e2]at h;cases h
 intro h
 by_cases hc:(d.sc.mulX x).form.check=0
 · rw[if_pos hc]at e2;rw[e2]at h;exact absurd rfl h
 rw[if_neg hc]at e2;rw[e2,e3]
 have e5:d.sc.finP [x] n=(d.sc,8):=by
  unfold Num.finP;rw[e4,if_neg hc,if_neg sI]
 rw[e5,if_neg sI]
theorem plus1_good (p:Int) (h0:0≤p) (h7:p≤7):(Num.omega p).plus1.form.check=0∧(Num.omega p).plus1.least=((Num.omega p).plus1.form,0)∧Bd 1000 (Num.omega p).a (Num.omega p).b (Num.omega p).c (Num.omega p).d∧(Num.omega p).k=0:=by
 have hcs:p=0∨p=1∨p=2∨p=3∨p=4∨p=5∨p=6∨p=7:=oM
 rcases hcs with rfl|rfl|rfl|rfl|rfl|rfl|rfl|rfl<;>exact⟨by decide,by decide,by unfold Bd;decide,by decide⟩
theorem at202 (f t n:Int) (h:Bool) (b:Nat) (w:World) (hb:w.cell? ⟨b,0,none⟩=some (.int .i64 n)):
  Calls Tryz.prog 202 #[.agg #[f,t, .bool h],pt b 0] w fun e w'=>e= .returned (.bool (Line.at ⟨f,t,h⟩ n))∧Below w.heap.size w w':=by
 have hbA:Below w.heap.size w (w.alloc (.cells #[f,t, .bool h] 77)):=bR.alloc (Nat.le_refl _) _;have hb1:=cell_keeps hbA hb;clear hb;unfold Line.at
 by_cases h1:f=n
 · subst h1;go_enter Tryz.func202,Tryz.ntmps202
   go_wp2
   go_ret
   exact⟨by simp,hbA⟩
 have h2:(f==n)=false:=by simpa using h1
 by_cases h3:t=n
 · subst h3;go_enter Tryz.func202,Tryz.ntmps202
   go_wp2
   go_ret
   exact⟨by simp,hbA⟩
 have h4:(t==n)=false:=by simpa using h3
 go_enter Tryz.func202,Tryz.ntmps202
 go_wp2
 go_ret
 exact⟨by simp[h1,h3],hbA⟩
theorem at202P (n:Int) (b:Nat) (xs:List Line) (w:World) (hb:w.cell? ⟨b,0,none⟩=some (.int .i64 n)):PredP 202 #[pt b 0] (fun x:Line=> .agg #[x.f,x.t, .bool x.hat]) (fun l=>l.at n) xs w:=
 fun x _ W hW=>at202 x.f x.t n x.hat b W (cell_keeps hW hb)
theorem RuleR.scale {x:Num} (hK:WK t tl B w' p v' {d with sc:=if (d.sc.mulX x.form).least.2=0 then(d.sc.mulX x.form).least.1 else d.sc}) (hU:Upd p v w v' w') (hl:d.ln.length≤100) (hx:0≤x.k) (hs:0≤d.sc.k):
  RuleR t tl B p v w (some (d,[x],0)) (.returned (.tuple #[.bool true, .int .i64 (d.sc.mulX x.form).least.2])) w':=by
 obtain⟨h1,h2⟩:=finish_scale d x 0 hl hx hs;unfold RuleR
 by_cases h0:(d.sc.mulX x.form).least.2=0
 · obtain⟨h3,h4⟩:=h1 h0;rw[powP_zero]at h3 h4;rw[if_pos h0]at hK;dsimp only at h3;refine⟨by rw[h0,h3],v',_,hK,hU,fun h=>(h4 h).symm⟩
 have h3:=h2 h0;refine⟨by rw[h3],v',_,hK,hU,fun h=>?_⟩
 rw[h3]at h;exact absurd h h0
theorem drops_some {s:Spider} (hs:d.sp[n]?=some s) (hk:s.kind≠0) (ha:d.ln.any (fun l=>l.at n)=false):d.drops n=some (d.away n,[(Num.omega s.phase).plus1],0):=by
 unfold Diag.drops;rw[kindAt_of hs,phaseAt_of hs,if_neg (by rw[ha];simp[hk])]
theorem drops_none {s:Spider} (hs:d.sp[n]?=some s) (h:s.kind=0∨d.ln.any (fun l=>l.at n)=true):d.drops n=none:=by
 unfold Diag.drops;rw[kindAt_of hs,if_pos h]
theorem drops189 (h:WK t tl B w p v d) (hd:d.Ok) (n:Nat) (hn:n<d.sp.length) (q:Int):
  Calls Tryz.prog 189 #[pt p 0,n,q] w (RuleR t tl B p v w (d.drops n)):=by
 obtain⟨s,hs⟩:=get_of hn;have hK1:=h.alloc (.cells #[.int .i64 (n:Int)] 3);have hQ1:Blk (w.alloc (.cells #[.int .i64 (n:Int)] 3)) w.heap.size [n] 3:=Blk.new _ _ _;have hU1:Upd p v w v (w.alloc (.cells #[.int .i64 (n:Int)] 3)):=(Upd.refl p v w).alloc _;have hAq:Aprt w.heap.size p v (w.alloc (.cells #[.int .i64 (n:Int)] 3)):=h.new_aprt _;go_enter Tryz.func189,Tryz.ntmps189
 go_wp2_with fail
 generalize w.alloc (.cells #[.int .i64 (n:Int)] 3)=W1 at hK1 hQ1 hU1 hAq ⊢;have HIS:=is193 hK1 n hn 0;rw[kindAt_of hs]at HIS;have hRL:=hK1.own.rd.ln;have HAN:=any87 lnC Line.f Line.t Line.hat (fun _=>rfl) (fun l=>l.at n) 202 #[pt w.heap.size 0] e202 v.A2 v.n2 v.c2 d.ln W1 hRL (at202P n w.heap.size d.ln W1 (hQ1.cell 0 _ rfl));obtain⟨g,hA,k0,k1,kf⟩:=hK1.own.spAt hs;obtain⟨c0,c1,_,_,_,_,_,_,_,cf⟩:=hK1.nine;have hz0:=hQ1.cell 0 _ rfl;have HK1:=Lib.hid hK1;have HQ1:=Lib.hid hQ1;have HU1:=Lib.hid hU1;have HAq:=Lib.hid hAq;have HD:=Lib.hid hd;have HS:=Lib.hid hs
 have HN:Aside (n<v.n1∧v.n1≤40∧v.n2≤100∧v.n3≤100∧v.n4≤100∧n<d.sp.length):=by
  have h1:=h.len;have h2:=hd.n1;have h3:=hd.n2;have h4:=hd.n3;have h5:=hd.n4;show n<v.n1∧v.n1≤40∧v.n2≤100∧v.n3≤100∧v.n4≤100∧n<d.sp.length
  omega
 have HPh:Aside (0≤s.phase∧s.phase≤7):=(hd.sp _ (List.mem_of_getElem? hs)).2;have HA:Aside (v.A1=some ⟨g,0,none⟩):=hA;clear hK1 hQ1 hU1 hAq hd hs hRL hA h hn k0 k1 kf cf
 by_cases h0:s.kind=0
 · rw[show (s.kind==0)=true by simp[h0]]at HIS;have HM0:Aside (d.drops n=none):=drops_none HS.out (.inl h0);clear h0 HAN
   go_wp2_with (first|(go_at_call 193;(with_reducible refine HIS.mono ?_);rintro e w2 ⟨rfl,rfl⟩))
   refine bodyPost_ret (v:= .tuple #[.bool false, .int .i64 0]) (by simp[results,Tryz.results189,go_sem]) rfl ?_
   rw[HM0.out];exact RuleR.none 0 HU1.out.t
 rw[show (s.kind==0)=false by simpa using h0]at HIS
 by_cases h1:d.ln.any (fun l=>l.at n)=true
 · rw[h1]at HAN;have HM0:Aside (d.drops n=none):=drops_none HS.out (.inr h1);clear h0 h1
   go_wp2_with (first|(go_at_call 193;(with_reducible refine HIS.mono ?_);rintro e w2 ⟨rfl,rfl⟩)|(go_at_call 87;(with_reducible refine HAN.mono ?_);rintro e w2 ⟨rfl,hb6⟩;clear HAN))
   refine bodyPost_ret (v:= .tuple #[.bool false, .int .i64 0]) (by simp[results,Tryz.results189,go_sem]) rfl ?_
   rw[HM0.out];exact RuleR.none 0 (HU1.out.t.then_below hb6)
 rw[show d.ln.any (fun l=>l.at n)=false by simpa using h1]at HAN;have HM0:Aside (d.drops n=some (d.away n,[(Num.omega s.phase).plus1],0)):=drops_some HS.out h0 (by simpa using h1);clear h0 h1
 go_wp2_with (first|(go_at_call 193;(with_reducible refine HIS.mono ?_);rintro e w2 ⟨rfl,rfl⟩)|(go_at_call 87;(with_reducible refine HAN.mono ?_);rintro e w2 ⟨rfl,hb6⟩;clear HAN))
 have hpg:=plus1_good s.phase HPh.out.1 HPh.out.2;have HPG:=Lib.hid hpg
 have HOM:Aside (∀u,Calls Tryz.prog 112 #[s.phase] u fun e w'=>e= .returned (numV (Num.omega s.phase))∧Below u.heap.size u w'):=by
  intro u;have h1:=omega112 s.phase (by have:=HPh.out;omega) (by have:=HPh.out;omega) u;rw[show s.phase%8=s.phase by have:=HPh.out;omega]at h1;exact h1
 have HAD:Aside (∀u,Calls Tryz.prog 203 #[numV ⟨1,0,0,0,0⟩,numV (Num.omega s.phase)] u fun e w'=>e= .returned (.tuple #[numV (Num.omega s.phase).plus1.form, .int .i64 0])∧Below u.heap.size u w'):=by
  intro u;have h1:=add203 1 0 0 0 (Num.omega s.phase).a (Num.omega s.phase).b (Num.omega s.phase).c (Num.omega s.phase).d u (by unfold Bd;decide) hpg.2.2.1;have h2:(⟨1+(Num.omega s.phase).a,0+(Num.omega s.phase).b,0+(Num.omega s.phase).c,0+(Num.omega s.phase).d,0⟩:Num)=(Num.omega s.phase).plus1:=by simp[Num.plus1]
  rw[h2,hpg.2.1]at h1;have h3:numV (Num.omega s.phase)= .agg #[.int .i64 (Num.omega s.phase).a, .int .i64 (Num.omega s.phase).b, .int .i64 (Num.omega s.phase).c, .int .i64 (Num.omega s.phase).d, .int .i64 0]:=by rw[←hpg.2.2.2]
  rw[h3];exact h1
 have hb6':Below W1.heap.size W1 w2:=hb6;have HK2:=Lib.hid (HK1.out.below hb6);have HQ2:=Lib.hid (HQ1.out.below hb6);have HU2:=Lib.hid (HU1.out.then_below hb6);have HA2:=Lib.hid (HAq.out.le hb6.size);generalize hph:s.phase=ph at *;have HPE:Aside (s.phase=ph):=hph;clear hph;generalize hLL:(Num.omega ph).plus1.form=LL at *;have HLL:Aside ((Num.omega ph).plus1.form=LL):=hLL;generalize Num.omega ph=om at HOM HAD;clear hLL hpg hb6 hb6' HK1 HQ1 HU1 HAq c0 c1 hz0
 have HC:Aside (∀u,Below w2.heap.size w2 u→u.cell? ⟨p,0,none⟩=some (.slice (some ⟨g,0,none⟩) v.n1 v.c1)∧u.cell? ⟨w.heap.size,0,none⟩=some (.int .i64 n)∧u.cell? ⟨g,n*2+1,none⟩=some (.int .i64 ph)):=by
  intro u hu;have h1:=HK2.out.below hu;obtain⟨g',hA',_,k1',_⟩:=h1.own.spAt HS.out;rw[HA.out]at hA';cases hA'
  have c0:=h1.nine.1;rw[HA.out]at c0;rw[HPE.out]at k1';exact⟨c0,(HQ2.out.below hu).cell 0 _ rfl,k1'⟩
 have hnz:(n:Int)<(v.n1:Int):=by have:=HN.out;omega
 have hnn:n<v.n1:=HN.out.1
 refine wp_region_steps kR (fun x=>{tmps:=#[pt p 0, .int .i64 ↑n, .int .i64 q,undef,pt w.heap.size 0,undef, .bool false, .int .i64 0,x 8,x 9,pt p 0, .int .i64 ↑n, .bool false, .bool false,pt p 0,pt p 0,pt p 0,pt p 1, .slice v.A2 v.n2 v.c2, .func (.func 202) #[] #[pt w.heap.size 0], .bool false, .bool false,x 22,x 23,x 24,x 25,x 26,x 27,x 28,x 29,x 30,x 31,x 32,x 33,x 34,x 35,x 36,undef,undef,undef,undef,undef,undef,undef,undef,undef,undef],defers:=[]}) (fun _=>undef) rfl (fun l u=>Below w2.heap.size w2 u) (fun i u u'=>match i with|16=>∃q v0 v1 v2 v3 v4,u'=(((((u.setCell ⟨q,0,none⟩ v0).setCell ⟨q,1,none⟩ v1).setCell ⟨q,2,none⟩ v2).setCell ⟨q,3,none⟩ v3).setCell ⟨q,4,none⟩ v4)|_=>Below u.heap.size u u') (fun j=>match j with|0=>[23]|1=>[24]|2=>[25]|3=>[26]|4=>[27]|5=>[28]|6=>[29]|7=>[30]|8=>[31]|9=>[32]|10=>[33]|11=>[34]|12=>[22]|13=>[35]|14=>[36]|15=>[8]|16=>[8]|17=>[9]|_=>[]) (fun j x u=>match j with|0=>x 23=numV ⟨1,0,0,0,0⟩|1=>x 24=pt p 0|2=>x 25=pt p 0|3=>x 26=pt p 0|4=>x 27=pt p 0|5=>x 28= .slice (some ⟨g,0,none⟩) v.n1 v.c1|6=>x 29=n|7=>x 30= .pointer (some ⟨g,n*2,none⟩)|8=>x 31= .pointer (some ⟨g,n*2+1,none⟩)|9=>x 32=ph|10=>x 33=numV om|11=>x 34= .tuple #[numV LL, .int .i64 0]|12=>x 22= .tuple #[numV LL, .int .i64 0]|13=>x 35=numV LL|14=>x 36= .int .i64 0|15=>∃q y0 y1 y2 y3 y4,x 8=pt q 0∧Blk u q [y0,y1,y2,y3,y4] 26∧w2.heap.size≤q|16=>∃q,x 8=pt q 0∧Blk u q [.int .i64 LL.a, .int .i64 LL.b, .int .i64 LL.c, .int .i64 LL.d, .int .i64 LL.k] 26∧w2.heap.size≤q|17=>x 9= .int .i64 0|_=>True) kR ?hput kR kR ?h0 ?hkeep ?hloc ?hstep ?hend
 case hput=>repeat' first|exact True.intro|apply And.intro|(intro d hd x v;cases hd<;>rfl)
 case h0=>exact bR.drew
 case hkeep=>
  intro j i x l u u' hj hi hpre ht hG hR
  by_cases hj15:j=15
  · subst hj15;obtain⟨q,y0,y1,y2,y3,y4,h1,h2,h3⟩:=ht
    by_cases hi16:i=16
    · subst hi16;obtain⟨q',v0,v1,v2,v3,v4,rfl⟩:=hR
      by_cases e:q'=q
      · subst e;exact⟨q',_,_,_,_,_,h1,h2.set5 _ _ _ _ _,h3⟩
      exact⟨q,_,_,_,_,_,h1,h2.set5_other e _ _ _ _ _,h3⟩
    exact⟨q,_,_,_,_,_,h1,h2.below (by have h9:=hR;split at h9<;>first|exact(hi16 rfl).elim|exact h9),h3⟩
  by_cases hj16:j=16
  · subst hj16;obtain⟨q,h1,h2,h3⟩:=ht
    by_cases hi16:i=16
    · subst hi16;rw[hj]at hi;cases hi
    exact⟨q,h1,h2.below (by have h9:=hR;split at h9<;>first|exact(hi16 rfl).elim|exact h9),h3⟩
  exact(by have h9:=ht;clear ht;split at h9<;>first|exact h9|exact(hj15 rfl).elim|exact(hj16 rfl).elim)
 case hloc=>repeat' first|exact True.intro|apply And.intro|exact fun x x' u h ht=>ht|(intro x x' u h ht;simp only[List.mem_cons,List.not_mem_nil,or_false,forall_eq_or_imp,forall_eq]at h;simp only[h]at ht;exact ht)
 case hstep=>
  refine⟨?_,?_,?_,?_,?_,?_,?_,?_,?_,?_,?c10,?c11,?_,?_,?_,?c15,?c16,?_,trivial⟩
  case c10=>
   intro l x u hG hno hli hpre hd K hK;have e9:x 32= .int .i64 ph:=hd ⟨9, .data⟩ sI rfl;clear hd;generalize x 32=z9 at e9 hK ⊢;subst e9;go_simp
   (with_reducible refine(HOM.out u).mono ?_);rintro e u2 ⟨rfl,hb⟩
   exact hK _ _ rfl hb (below_then hG hb)
  case c11=>
   intro l x u hG hno hli hpre hd K hK;have e0:x 23=numV ⟨1,0,0,0,0⟩:=hd ⟨0, .data⟩ sI rfl;have e10:x 33=numV om:=hd ⟨10, .data⟩ sI rfl;clear hd;generalize x 23=z0 at e0 hK ⊢;subst e0;generalize x 33=z10 at e10 hK ⊢;subst e10;go_simp
   (with_reducible refine(HAD.out u).mono ?_);rintro e u2 ⟨rfl,hb⟩
   exact hK _ _ rfl hb (below_then hG hb)
  case c15=>
   intro l x u hG hno hli hpre hd K hK;clear hd;go_simp
   exact hK _ _ ⟨_,_,_,_,_,_,rfl,Blk.new _ _ _,hG.size⟩ (bR.alloc (Nat.le_refl _) _) (hG.alloc hG.size _)
  case c16=>
   intro l x u hG hno hli hpre hd K hK;have e15:∃q y0 y1 y2 y3 y4,x 8=pt q 0∧Blk u q [y0,y1,y2,y3,y4] 26∧w2.heap.size≤q:=hd ⟨15, .data⟩ sI rfl;have e13:x 35=numV LL:=hd ⟨13, .data⟩ sI rfl;clear hd;generalize x 35=z13 at e13 hK ⊢;subst e13;obtain⟨q,y0,y1,y2,y3,y4,h8,hB8,hq⟩:=e15;generalize k8:x 8=z8 at h8 hK ⊢;subst h8;obtain⟨c0,c1,c2,c3,c4,cf⟩:=hB8.five;have K8:=Lib.hid k8;clear k8;go_simp
   have k8:=K8.out;exact hK undef _ ⟨q,k8,hB8.set5 _ _ _ _ _,hq⟩ ⟨q,_,_,_,_,_,rfl⟩ (below_set5 hG hq _ _ _ _ _)
  all_goals
   intro l x u hG hno hli hpre hd K hK;dsimp only at hd;simp only[eB]at hd
   try simp only[hd]at hK ⊢
   first|(go_simp;exact hK _ _ rfl bR hG)|(obtain⟨a0,a1,a2⟩:=HC.out _ hG;go_simp;exact hK _ _ rfl bR hG)
 rintro l x u hall hG ⟨_,_,_,_,_,_,_,_,_,_,_,_,_,_,_,_,⟨q,h8,hB8,hq⟩,e9,_⟩;generalize x 8=z8 at h8 ⊢;subst h8;generalize x 9=z9 at e9 ⊢;subst e9;have hG':Below w2.heap.size w2 u:=hG;clear hall hG;have hK3:=HK2.out.below hG';have hL:=HD.out.lim;have H181:=away181 hK3 hL n HN.out.1 (by have:=HN.out;omega) (by have:=HN.out;omega) (by have:=HN.out;omega) (by have:=HN.out;omega);have hz1:=(HQ2.out.below hG').cell 0 _ rfl;have HU3:=Lib.hid (HU2.out.then_below hG');have HB8:=Lib.hid hB8;have HAq8:Aside (Aprt q p v u):=⟨hB8.lt,by have:=HK2.out.lt;omega,fun hm=>by have:=(HK2.out.own.lt q hm).2;omega⟩;have HSC:Aside (d.sc.check=0):=HD.out.sc;clear hK3 hL hG' hB8 hq;go_wp2_with fail
 (with_reducible refine H181.mono ?_)
 rintro e w5 ⟨⟨z5,rfl⟩,v5,hK5,hU5⟩;have hB9:=HB8.out.upd HAq8.out hU5;have hA9:=HAq8.out.upd hU5;obtain⟨m0,m1,m2,m3,m4,_⟩:=hB9.five;have hBs:=Blk.new w5 #[LL.a,LL.b,LL.c,LL.d,LL.k] 26;have hKs:=hK5.alloc (.cells #[LL.a,LL.b,LL.c,LL.d,LL.k] 26);have hAs:=hK5.new_aprt (.cells #[LL.a,LL.b,LL.c,LL.d,LL.k] 26);have H111:=scale111 hKs LL w5.heap.size 1 hAs hBs HPG.out.1 HSC.out;have HU5:=Lib.hid ((HU3.out.trans hU5).alloc (.cells #[LL.a,LL.b,LL.c,LL.d,LL.k] 26));clear hB9 hA9 hBs hKs hAs hK5 hU5 H181;go_wp2_with fail
 (with_reducible refine H111.mono ?_)
 rintro e w6 ⟨rfl,hK6,hU6⟩;have HK6:=Lib.hid hK6;have HU6:=Lib.hid hU6;clear H111 hK6 hU6
 go_wp2
 refine bodyPost_ret (v:= .tuple #[.bool true, .int .i64 ((d.away n).sc.mulX LL).least.2]) (by simp[results,Tryz.results189,go_sem]) rfl ?_
 rw[HM0.out];have hk:=HK6.out;rw[←HLL.out]at hk ⊢;refine RuleR.scale hk (HU5.out.trans HU6.out) ?_ (by show (0:Int)≤0;omega) (Num.check_zero.1 HSC.out).1
 show ((d.ln.filter (fun l=>!l.at n)).map _).length≤100
 have h1:=HD.out.n2;have h2:=List.length_filter_le (fun l:Line=>!l.at n) d.ln;rw[List.length_map];omega
end
end Go.Proofs.YtcoackmdmohnhaaGreatDoor
