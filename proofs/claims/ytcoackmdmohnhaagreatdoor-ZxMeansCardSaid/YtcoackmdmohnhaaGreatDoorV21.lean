/- Contracts of functions, and plain lemmas; each theorem's conditions stand in its statement. -/
import Derived.Test.YtcoackmdmohnhaaGreatDoorV14
import Derived.Test.YtcoackmdmohnhaaGreatDoorV20
set_option linter.unusedVariables false
set_option linter.unusedSimpArgs false
set_option maxRecDepth 100000
set_option maxHeartbeats 4000000
namespace Go.Proofs.YtcoackmdmohnhaaGreatDoor
section
open Go.RowKit Go.Shelf
structure Gat where
 kind:Int
 ws:List Int
 bit:Int
 fi:Int
 deriving DecidableEq
structure Cir where
 wires:Int
 bits:Int
 gates:List Gat
def Gat.check (W B:Int) (g:Gat):Int:=
 if arityI g.kind=0 then 3 else if (g.ws.length:Int)≠arityI g.kind then 2
 else if g.ws.any (fun x=>decide (x<0)||decide (W≤x)) then 1 else if¬g.ws.Nodup then 5
 else if g.fi<0∨B<g.fi∨(g.kind=13∧(g.bit<0∨B≤g.bit)) then 1
 else if ((g.kind=13∨g.kind=14)∧g.fi≠0)∨(g.kind≠13∧g.bit≠0) then 7 else 0
def checkG (W B:Int):List Gat→Int
 |[]=>0
 |g::l=>if g.check W B=0 then checkG W B l else g.check W B
def Cir.check (c:Cir):Int:=
 if c.wires<1∨12<c.wires∨c.bits<0∨8<c.bits then 3 else if 120<c.gates.length then 2 else checkG c.wires c.bits c.gates
def Gat.plain (g:Gat):Bool:=decide (g.kind≤12)&&decide (g.fi=0)
def Cir.plain (c:Cir):Bool:=c.gates.all Gat.plain
def Drw.gates:List Gat→Drw→Option Drw
 |[],s=>some s
 | g::l,s=>
  if 40<(s.gate g.kind (g.ws.getD 0 0).toNat (g.ws.getD (g.ws.length-1) 0).toNat).d.sp.length then none
  else Drw.gates l (s.gate g.kind (g.ws.getD 0 0).toNat (g.ws.getD (g.ws.length-1) 0).toNat)
def Drw.out (s:Drw) (n:Int):Drw:={s with d:={s.d with outs:=s.d.outs++[n]}}
def Drw.close:Nat→Nat→Drw→Drw
 |_,0,s=>s
 |i,n+1,s=>Drw.close (i+1) n ((s.put i 0 0).out s.d.sp.length)
def numbers (n:Nat):List Int:=(List.range n).map (fun k:Nat=>(k:Int))
def Drw.start (n:Nat):Drw:=⟨⟨List.replicate n ⟨0,0⟩,[],numbers n,[],⟨1,0,0,0,0⟩⟩,numbers n,List.replicate n false⟩
def insideL:Nat→List Spider→List Int
 |_,[]=>[]
 |n,s::l=>if s.kind≠0 then(n:Int)::insideL (n+1) l else insideL (n+1) l
def Diag.inside (d:Diag):List Int:=insideL 0 d.sp
def Diag.roots (d:Diag):Nat:=d.ln.countP d.bent
def Diag.cell (d:Diag) (row col:Nat) (b:List Bool):List Bool × Num × Int:=
 let r:=d.sumL d.inside (2 ^ d.inside.length) 0 (setB col 0 d.ins (setB row 0 d.outs b)) [0,0,0,0,0,0,0,0]
 let s:=r.2
 let x:=d.sc.ofShares (s.getD 0 0) (s.getD 1 0) (s.getD 2 0) (s.getD 3 0) (s.getD 4 0) (s.getD 5 0) (s.getD 6 0) (s.getD 7 0) d.roots
 (r.1,x.1,x.2)
def Diag.meanR (d:Diag) (row:Nat):Nat→Nat→List Bool→List Num→List Bool × List Num × Int
 |0,_,b,l=>(b,l,0)
 | n+1,col,b,l=>
  let x:=d.cell row col b
  if x.2.2=0 then d.meanR row n (col+1) x.1 (l++[x.2.1]) else(x.1,l,x.2.2)
def Diag.meanL (d:Diag):Nat→Nat→List Bool→List (List Num)→List (List Num) × Int
 |0,_,_,o=>(o,0)
 | n+1,row,b,o=>
  let x:=d.meanR row (2 ^ d.ins.length) 0 b []
  if x.2.2=0 then d.meanL n (row+1) x.1 (o++[x.2.1]) else([],x.2.2)
def Diag.meaning (d:Diag):List (List Num) × Int:=
 if d.check≠0 then([],d.check)
 else if 6<d.sp.length-d.inside.length∨10<d.inside.length then([],2)
 else {d with sc:=d.sc.form}.meanL (2 ^ d.outs.length) 0 (List.replicate d.sp.length false) []
def dgZZ:Diag:=⟨[⟨0,0⟩,⟨1,4⟩,⟨1,4⟩,⟨0,0⟩],[⟨0,1,false⟩,⟨1,2,false⟩,⟨2,3,false⟩],[0],[3],⟨1,0,0,0,0⟩⟩
def dgH:Diag:=⟨[⟨0,0⟩,⟨0,0⟩],[⟨0,1,true⟩],[0],[1],⟨1,0,0,0,0⟩⟩
theorem exZZ_simp:dgZZ.simplify=(⟨[⟨0,0⟩,⟨0,0⟩],[⟨0,1,false⟩],[0],[1],⟨1,0,0,0,0⟩⟩,[⟨1,1,0⟩,⟨4,1,0⟩],0):=by decide +kernel
theorem exDrop:(⟨[⟨1,2⟩],[],[],[],⟨1,0,0,0,0⟩⟩:Diag).do_ ⟨6,0,0⟩=(⟨[],[],[],[],⟨1,0,1,0,0⟩⟩,0):=by decide +kernel
theorem exMean:dgH.meaning=([[⟨1,0,0,0,1⟩,⟨1,0,0,0,1⟩],[⟨1,0,0,0,1⟩,⟨-1,0,0,0,1⟩]],0):=by decide +kernel
def dgP:Diag:=(dgH.plug 1 1).1
theorem exPlug:(dgH.plug 1 1).2=0:=by decide +kernel
theorem exPlug_simp:dgP.simplify.1.sp=[]∧dgP.simplify.1.sc=⟨-1,0,0,0,1⟩∧dgP.simplify.2.2=0:=by decide +kernel
end
section
variable {k:Nat}
def cnt1 (n:Int) (l:Line):Nat:=(if l.f=n then 1 else 0)+(if l.t=n then 1 else 0)
def cntL (n:Int):List Line→Nat
 |[]=>0
 |l::L=>cnt1 n l+cntL n L
theorem cntL_append (n:Int):∀A B:List Line,cntL n (A++B)=cntL n A+cntL n B
 |[],B=>by simp[cntL]
 |l::A,B=>by simp only[List.cons_append,cntL,cntL_append n A B];omega
theorem cntL_take (n:Int) {L:List Line} {l:Line} (h:L[k]?=some l):cntL n (L.take (k+1))=cntL n (L.take k)+cnt1 n l:=by
 rw[List.take_add_one,h,cntL_append];rfl
theorem cntL_le (n:Int):∀L:List Line,cntL n L≤2*L.length
 |[]=>by simp[cntL]
 | l::L=>by
  have:=cntL_le n L;simp only[cntL,cnt1,List.length_cons]
  split<;>split<;>omega
theorem cnt1_eq (n:Int) (l:Line):cnt1 n l=(if l.at n=true then 1 else 0)+(if l.ring n=true then 1 else 0):=by
 unfold cnt1 Line.at Line.ring
 by_cases h1:l.f=n<;>by_cases h2:l.t=n<;>simp[h1,h2]
theorem cntL_eq (n:Int):∀L:List Line,cntL n L=L.countP (·.at n)+L.countP (·.ring n)
 |[]=>rfl
 | l::L=>by
  simp only[cntL,cnt1_eq,cntL_eq n L,List.countP_cons];omega
theorem ring_at {n:Int} {l:Line} (h:l.ring n=true):l.at n=true:=by
 unfold Line.ring at h;unfold Line.at;simp at h ⊢
 exact .inl h.1
theorem ring_le_at (n:Int):∀L:List Line,L.countP (·.ring n)≤L.countP (·.at n)
 |[]=>Nat.le_refl _
 | l::L=>by
  have:=ring_le_at n L;simp only[List.countP_cons]
  by_cases h:l.ring n=true
  · rw[if_pos h,if_pos (ring_at h)];omega
  rw[if_neg h];omega
theorem clash_ref (d:Diag) (n:Nat):d.clash n=decide (cntL n d.ln≠1∨(n:Int)∉d.ends):=by
 have h1:=cntL_eq n d.ln;have h2:=ring_le_at n d.ln
 have h3:d.ln.any (·.ring n)=decide (0<d.ln.countP (·.ring n)):=by
  rw[Bool.eq_iff_iff,List.any_eq_true,decide_eq_true_eq,List.countP_pos_iff]
 unfold Diag.clash;rw[h3,Bool.eq_iff_iff];simp only[Bool.or_eq_true,decide_eq_true_eq,Bool.not_eq_true',decide_eq_false_iff_not]
 constructor
 · rintro ((h|h)|h)
   · exact .inl oM
   · exact .inr h
   exact .inl oM
 rintro (h|h)
 · by_cases h4:0<d.ln.countP (·.ring n)
   · exact .inl (.inl h4)
   exact .inr oM
 exact .inl (.inr h)
theorem clashes_drop (d:Diag):∀(l:List Spider) (n:Nat),d.clashes n l=true↔∃k s,l[k]?=some s∧s.kind=0∧d.clash (n+k)=true
 |[],n=>by simp[Diag.clashes]
 | s::l,n=>by
  simp only[Diag.clashes,Bool.or_eq_true,Bool.and_eq_true,decide_eq_true_eq,clashes_drop d l (n+1)]
  constructor
  · rintro (⟨h1,h2⟩|⟨k,s',h1,h2,h3⟩)
    · exact⟨0,s,rfl,h1,by simpa using h2⟩
    exact⟨k+1,s',by simpa using h1,h2,by rw[show n+(k+1)=n+1+k by omega];exact h3⟩
  rintro ⟨k,s',h1,h2,h3⟩
  cases k with
  | zero=>
   simp at h1
   subst h1;exact .inl ⟨h2,by simpa using h3⟩
  |succ k=>exact .inr ⟨k,s',by simpa using h1,h2,by rw[show n+1+k=n+(k+1) by omega];exact h3⟩
theorem nodupR_take {l:List Int} (h:∀k x,l[k]?=some x→x∉l.take k):l.Nodup:=by
 refine List.pairwise_iff_getElem.2 fun i j hi hj hij he=>?_
 refine h j _ (List.getElem?_eq_getElem hj) ?_
 rw[List.mem_iff_getElem?];exact⟨i,by rw[List.getElem?_take,if_pos hij,List.getElem?_eq_getElem hi,he]⟩
theorem not_nodup_take {l:List Int} {x:Int} (h:l[k]?=some x) (h2:x∈l.take k):¬l.Nodup:=by
 intro hn;obtain⟨i,hi⟩:=List.mem_iff_getElem?.1 h2;rw[List.getElem?_take]at hi
 split at hi
 · rename_i hlt
   obtain⟨h3,h4⟩:=List.getElem?_eq_some_iff.1 h;obtain⟨h5,h6⟩:=List.getElem?_eq_some_iff.1 hi;exact List.pairwise_iff_getElem.1 hn i k h5 h3 hlt (by rw[h4,h6])
 cases hi
end
section
open Go.RowKit Go.Shelf
variable {α:Type} {enc:α→List Value} {i:Nat} {k:Nat} {n:Nat} {A:Option Addr} {w:World} {w':World}
structure XG where
 A:Option Addr
 n:Nat
 c:Nat
 g:Gat
def gtC (x:XG):List Value:=[x.g.kind, .slice x.A x.n x.c,x.g.bit,x.g.fi]
abbrev gtV (x:XG):Value:= .agg #[x.g.kind, .slice x.A x.n x.c,x.g.bit,x.g.fi]
structure CRd (w:World) (A:Option Addr) (n:Nat) (xs:List XG):Prop where
 rd:Rd 4 gtC w A n xs
 ws:∀x∈xs,Rd 1 inC w x.A x.n x.g.ws
 cp:∀x∈xs,x.n≤x.c
theorem CRd.below {xs:List XG} (h:CRd w A n xs) (hb:Below w.heap.size w w'):CRd w' A n xs:=⟨h.rd.below hb,fun x hx=>(h.ws x hx).below hb,h.cp⟩
structure Gat.good (W:Int) (g:Gat):Prop where
 k1:1≤g.kind
 k2:g.kind≤11
 b0:g.bit=0
 f0:g.fi=0
 ar:(g.ws.length:Int)=arityI g.kind
 rg:∀x∈g.ws,0≤x∧x<W
 nd:g.ws.Nodup
theorem Rd.take {xs:List α} (h:Rd k enc w A n xs) (hi:i≤n):Rd k enc w A i (xs.take i):=by
 refine⟨by rw[List.length_take,h.1];omega,Nat.le_trans hi h.2.1,fun h0=>?_⟩
 obtain⟨b,o,e,hlt,hc⟩:=h.2.2 oM;refine⟨b,o,e,hlt,fun j x hx=>hc j x ?_⟩
 rw[List.getElem?_take]at hx
 split at hx
 · exact hx
 cases hx
theorem wire155 (B:Nat) (Wn:Int) (xs:List Int) (w:World) (hB:B<w.heap.size) (hc:w.cell? ⟨B,0,none⟩=some (.int .i64 Wn)) (hr:∀x∈xs,0≤x∧x<Wn):
  PredP 155 #[pt B 0] (fun x:Int=> .int .i64 x) (fun _=>true) xs w:=by
 intro x hx W hW;obtain⟨h1,h2⟩:=hr x hx;have hcW:W.cell? ⟨B,0,none⟩=some (.int .i64 Wn):=(hW.cell (p:=⟨B,0,none⟩) hB).trans hc;clear hc hW hx hr;show Calls Tryz.prog 155 #[x,pt B 0] W (fun e W'=>e= .returned (.bool true)∧Below W.heap.size W W')
 go_enter Tryz.func155,Tryz.ntmps155
 go_wp2
 refine bodyPost_ret (v:= .bool true) (by simp[results,Tryz.results155,go_sem]) rfl ?_
 exact⟨rfl,Below.refl _ _⟩
theorem gate139 (Wn Bn:Int) (CA:Option Addr) (cn cc:Nat) (fv:Value) (k:Int) (A:Option Addr) (n c:Nat) (ws:List Int) (w:World) (hf:fv.cells=#[fv]) (hk1:1≤k) (hk2:k≤11) (hB:0≤Bn) (hnc:n≤c) (har:(n:Int)=arityI k) (hrg:∀x∈ws,0≤x∧x<Wn) (hnd:ws.Nodup) (hr:Rd 1 inC w A n ws):
  Calls Tryz.prog 139 #[.agg #[Wn,Bn, .slice CA cn cc,fv], .agg #[k, .slice A n c, .int .i64 0, .int .i64 0]] w fun e w'=>e= .returned (.int .i64 0)∧Below w.heap.size w w':=by
 obtain⟨W,hW⟩:∃W,W=((w.alloc (.cells #[Wn,Bn, .slice CA cn cc,fv] 172)).alloc (.cells #[k, .slice A n c, .int .i64 0, .int .i64 0] 70)):=⟨_,rfl⟩
 have hX1:Blk W w.heap.size [Wn,Bn, .slice CA cn cc,fv] 172:=by
  rw[hW];have h9:=((Blk.new w #[Wn,Bn, .slice CA cn cc,fv] 172).alloc (.cells #[k, .slice A n c, .int .i64 0, .int .i64 0] 70));simpa using h9
 have hX2:Blk W (w.heap.size+1) [k, .slice A n c, .int .i64 0, .int .i64 0] 70:=by
  rw[hW];have h9:=(Blk.new (w.alloc (.cells #[Wn,Bn, .slice CA cn cc,fv] 172)) #[k, .slice A n c, .int .i64 0, .int .i64 0] 70);simpa using h9
 have hBW:Below w.heap.size w W:=by rw[hW];exact(bR.alloc (by simp;try omega) _).alloc (by simp;try omega) _
 have hsz:W.heap.size=w.heap.size+2:=by rw[hW];simp
 generalize hX2b:w.heap.size+1=X2b at hX2;have HB1:=Lib.hid hX1;have HB2:=Lib.hid hX2;have HBW:=Lib.hid hBW;have HSZ:Aside (W.heap.size=w.heap.size+2∧X2b=w.heap.size+1):=⟨hsz,hX2b.symm⟩;have HW:=Lib.hid hW;have HR:=Lib.hid (hr.below hBW);have HND:Aside ws.Nodup:=hnd;have hwl:=hr.len;have H156:=fun V=>arity156 k V;rw[←har]at H156
 have hn3:n≤3∧1≤n:=by
  unfold arityI at har
  (repeat' split at har)<;>omega
 have e1:∀args w,(callFunc 155 args).run Tryz.prog w= .ok (.enter 155 args) w:=enters_of Tryz.func155 kR rfl
 have H157:Aside (∀V,Below W.heap.size W V→Calls Tryz.prog 157 #[.slice A n c, .func (.func 155) #[] #[pt w.heap.size 0]] V fun e w'=>e= .returned (.bool true)∧Below V.heap.size V w'):=by
  intro V hV;have h9:=every157 (fun _=>true) 155 #[pt w.heap.size 0] e1 A n c ws V ((hr.below hBW).below hV) (wire155 w.heap.size Wn ws V (hX1.below hV).lt ((hX1.below hV).cell 0 _ rfl) hrg);rw[show (ws.all fun _=>true)=true by simp]at h9;exact h9
 have q0:(k==13)=false:=by simpa using (show¬k=13 by omega)
 have q1:(k==14)=false:=by simpa using (show¬k=14 by omega)
 have q2:((n:Int)==0)=false:=by simpa using (show¬n=0 by omega)
 have q3:¬Bn<0:=oM
 have x_c:=hX1.four;obtain⟨y0,y1,y2,y3,yf⟩:=hX2.four;clear hX1 hX2 hBW hsz hW hr hnd har hrg e1 hk1 hk2;go_enter Tryz.func139,Tryz.ntmps139
 go_upto_region 1 with fail
 try rw[hX2b]
 try rw[←HW.out]
 go_upto_region 4 with(go_at_call 156;(with_reducible refine(H156 _).mono ?_);rintro e w' ⟨rfl,rfl⟩)
 refine wp_region_F [(15,8)] (fun l u=>Below W.heap.size W u) (fun i u u'=>Below u.heap.size u u') (fun j x u=>match j with|0=>x 16=pt X2b 1|1=>x 17= .slice A n c|2=>x 18=n|3=>x 19=pt X2b 0|4=>x 20=k|5=>x 21= .int .i64 (n:Int)|6=>x 22= .bool false|7=>x 15= .bool false|_=>True) ?h0 ?hkeep ?hstep ?d0
 case h0=>exact bR.drew
 case hkeep=>
  intro j i x l u u' hj hi hpre ht hG hR;exact(by have h9:=ht;split at h9<;>first|exact h9)
 case hstep=>
  dsimp only[fil,fls,fl,List.toList_toArray,Nat.reduceAdd];refine⟨?_,?_,?_,?_,?_,?c5,?_,?_,trivial⟩
  all_goals intro l x u hG hno hli hpre hd K hK
  case c5=>
   have e4:x 20= .int .i64 k:=hd ⟨4, .data⟩ sI rfl;clear hd;simp only[e4]at hK ⊢;go_simp
   (with_reducible refine(H156 u).mono ?_);rintro e u2 ⟨rfl,rfl⟩
   exact hK _ _ rfl bR hG
  all_goals
   dsimp only at hd;simp only[eB]at hd
   try simp only[hd]at hK ⊢
   first|(go_simp;exact hK _ _ rfl bR hG)|(obtain⟨y0,y1,y2,y3,yf⟩:=(HB2.out.below hG).four;go_simp;exact hK _ _ rfl bR hG)
 dsimp only[fil,fls,fl,List.toList_toArray,Nat.reduceAdd];rintro l x9 u hall hG ⟨_,_,_,_,_,_,_,t7,_⟩;have HU:=Lib.hid hG;clear hall hG;generalize x9 15=z7 at t7 ⊢;subst t7;obtain⟨y0,y1,y2,y3,yf⟩:=(HB2.out.below HU.out).four;have H157u:=H157.out u HU.out
 go_upto_region 9 with(go_at_call 157;(with_reducible refine H157u.mono ?_);rintro e u3 ⟨rfl,hb3⟩;clear H157u;have HU3:Aside (Below W.heap.size W u3):=below_then HU.out hb3;clear hb3;obtain⟨y0,y1,y2,y3,yf⟩:=(HB2.out.below HU3.out).four)
 go_loopg [32] n (fun gg s32 wr=>∃i:Nat,i≤n∧n-i≤gg∧s32=i∧Aside (Below W.heap.size W wr))
 case atStart=>exact⟨0,Nat.zero_le _,oM,rfl,HU3.out⟩
 obtain⟨i,hi,hg,rfl,hb⟩:=hrel;have x_c:=(HB1.out.below hb.out).four;obtain⟨y0,y1,y2,y3,yf⟩:=(HB2.out.below hb.out).four
 by_cases hlt:i<n
 case pos=>
  have hltz:(i:Int)<(n:Int):=oM
  obtain⟨x,hx⟩:=get_of (l:=ws) (n:=i) oM;obtain⟨b9,o9,hA,_,g0⟩:=(HR.out.below hb.out).at1 hx rfl;have H158:=con158 A i c (ws.take i) x wr ((HR.out.below hb.out).take hi);rw[show decide (x∈ws.take i)=false from decide_eq_false fun h=>not_nodup_take hx h HND.out]at H158;have hic:(i:Int)≤(c:Int):=oM
  have hic2:i≤c:=oM
  clear hx;rw[hA]at y1 H158 ⊢
  go_wp2_with (go_at_call 158;(with_reducible refine H158.mono ?_);rintro e w' ⟨rfl,rfl⟩)
  rw[←hA];clear hA
  go_roundg (n-(i+1))
  case measure=>omega
  exact⟨i+1,oM,Nat.le_refl _,nX,hb.out⟩
 have hltz:¬(i:Int)<(n:Int):=oM
 go_wp2_with fail
 refine bodyPost_ret (v:= .int .i64 0) (by simp[results,Tryz.results139,go_sem]) rfl ?_
 exact⟨rfl,HBW.out.trans (hb.out.mono HBW.out.size)⟩
end
section
open Go.RowKit Go.Shelf
variable {α:Type}
theorem evc140 (arg:α→Value) (a1 a2 a3 a4:α→Value) (o1:∀x,(a1 x).cells=#[a1 x]) (harg:∀x,arg x= .agg #[a1 x,a2 x,a3 x,a4 x]) (p:α→Bool) (g:Nat) (lb:Array Value) (eg:∀args w,(callFunc g args).run Tryz.prog w= .ok (.enter g args) w)
  (xs:List α) (B:Nat) (w:World) (hB:B<w.heap.size) (hc:w.cell? ⟨B,0,none⟩=some (.func (.func g) #[] lb)) (hp:PredP g lb arg p xs w) (hgt:∀x,∃y:XG,arg x=gtV y):
  PredP 140 #[pt B 0] arg (fun x=>!p x) xs w:=by
 intro x hx W hW;obtain⟨y,hy⟩:=hgt x;have hb0:Below W.heap.size W (W.alloc (.cells #[y.g.kind, .slice y.A y.n y.c,y.g.bit,y.g.fi] 70)):=bR.alloc (Nat.le_refl _) _;have hcW:W.cell? ⟨B,0,none⟩=some (.func (.func g) #[] lb):=(hW.cell (p:=⟨B,0,none⟩) hB).trans hc;have hcA:(W.alloc (.cells #[y.g.kind, .slice y.A y.n y.c,y.g.bit,y.g.fi] 70)).cell? ⟨B,0,none⟩=some (.func (.func g) #[] lb):=cell_keeps hb0 hcW;have HC:=hp x hx _ (hW.trans (hb0.mono hW.size));rw[hy]at HC ⊢;have HBW:Aside (Below W.heap.size W (W.alloc (.cells #[y.g.kind, .slice y.A y.n y.c,y.g.bit,y.g.fi] 70))):=hb0;clear hp hc hW hx harg hy hb0;show Calls Tryz.prog 140 #[.agg #[y.g.kind, .slice y.A y.n y.c,y.g.bit,y.g.fi],pt B 0] W (fun e W'=>e= .returned (.bool (!p x))∧Below W.heap.size W W')
 generalize p x=q at HC ⊢;go_enter Tryz.func140,Tryz.ntmps140
 go_wp2_with (go_at_fn g;refine HC.mono ?_;rintro e w' ⟨rfl,hb⟩)
 go_ret
 exact⟨rfl,below_then HBW.out hb⟩
theorem every109 (p:XG→Bool) (g:Nat) (lb:Array Value) (eg:∀args w,(callFunc g args).run Tryz.prog w= .ok (.enter g args) w) (A:Option Addr) (n c:Nat) (xs:List XG) (w:World)
  (hr:Rd 4 gtC w A n xs) (hp:PredP g lb gtV p xs w):
  Calls Tryz.prog 109 #[.slice A n c, .func (.func g) #[] lb] w fun e w'=>e= .returned (.bool (xs.all p))∧Below w.heap.size w w':=by
 have hb0:Below w.heap.size w (w.alloc (.cells #[.func (.func g) #[] lb] 98)):=bR.alloc (Nat.le_refl _) _;have e1:∀args w,(callFunc 140 args).run Tryz.prog w= .ok (.enter 140 args) w:=enters_of Tryz.func140 kR rfl
 have HC:=conf62 gtC (fun x:XG=> .int .i64 x.g.kind) (fun x=> .slice x.A x.n x.c) (fun x=> .int .i64 x.g.bit) (fun x=> .int .i64 x.g.fi) (fun _=>rfl) (fun x=>!p x) 140 #[pt w.heap.size 0] e1 A n c xs _ (hr.below hb0)
  (evc140 gtV (fun x:XG=> .int .i64 x.g.kind) (fun x=> .slice x.A x.n x.c) (fun x=> .int .i64 x.g.bit) (fun x=> .int .i64 x.g.fi) (fun _=>rfl) (fun _=>rfl) p g lb eg xs w.heap.size _ sI ((Blk.new w _ 98).cell 0 _ rfl) (hp.below hb0) (fun x=>⟨x,rfl⟩))
 have hall:xs.all p=!(xs.any fun x=>!p x):=by simp[List.all_eq_not_any_not]
 rw[hall];clear hr hp hall;generalize (xs.any fun x=>!p x)=r at HC ⊢;go_enter Tryz.func109,Tryz.ntmps109
 go_wp2_with (go_at_call 62;refine HC.mono ?_;rintro e w' ⟨rfl,hb⟩)
 go_ret
 exact⟨rfl,below_then hb0 hb⟩
theorem plain110 (W0:Int) (xs:List XG) (hg:∀x∈xs,x.g.good W0) (w:World):PredP 110 #[] gtV (fun _=>true) xs w:=by
 intro x hx W hW;have h:=hg x hx;have h1:x.g.kind≤12:=by have:=h.k2;omega
 show Calls Tryz.prog 110 #[.agg #[x.g.kind, .slice x.A x.n x.c,x.g.bit,x.g.fi]] W (fun e W'=>e= .returned (.bool true)∧Below W.heap.size W W')
 rw[h.f0];clear h hx hW hg;have hb0:Below W.heap.size W (W.alloc (.cells #[x.g.kind, .slice x.A x.n x.c,x.g.bit, .int .i64 0] 70)):=bR.alloc (Nat.le_refl _) _;have HB:=Lib.hid hb0;clear hb0;go_enter Tryz.func110,Tryz.ntmps110
 go_wp2
 refine bodyPost_ret (v:= .bool true) (by simp[results,Tryz.results110,go_sem]) rfl ?_
 exact⟨rfl,HB.out⟩
theorem of67 (W0:Int) (xs:List XG) (hg:∀x∈xs,x.g.good W0) (w:World):PredP 67 #[] gtV (fun _=>false) xs w:=by
 intro x hx W hW;have h:=hg x hx;have h1:(x.g.kind==12)=false:=by have:=h.k2;simpa using (show¬x.g.kind=12 by omega)
 show Calls Tryz.prog 67 #[.agg #[x.g.kind, .slice x.A x.n x.c,x.g.bit,x.g.fi]] W (fun e W'=>e= .returned (.bool false)∧Below W.heap.size W W')
 clear h hx hW hg;have hb0:Below W.heap.size W (W.alloc (.cells #[x.g.kind, .slice x.A x.n x.c,x.g.bit,x.g.fi] 70)):=bR.alloc (Nat.le_refl _) _;have HB:=Lib.hid hb0;clear hb0;go_enter Tryz.func67,Tryz.ntmps67
 go_wp2
 refine bodyPost_ret (v:= .bool false) (by simp[results,Tryz.results67,go_sem]) rfl ?_
 exact⟨rfl,HB.out⟩
theorem any66g (W0:Int) (xs:List XG) (hg:∀x∈xs,x.g.good W0) (A:Option Addr) (n c:Nat) (w:World) (hr:Rd 4 gtC w A n xs):
  Calls Tryz.prog 66 #[.slice A n c, .func (.func 67) #[] #[]] w fun e w'=>e= .returned (.bool false)∧Below w.heap.size w w':=by
 have e1:∀args w,(callFunc 67 args).run Tryz.prog w= .ok (.enter 67 args) w:=enters_of Tryz.func67 kR rfl;have HC:=any66 gtC (fun x:XG=> .int .i64 x.g.kind) (fun x=> .slice x.A x.n x.c) (fun x=> .int .i64 x.g.bit) (fun x=> .int .i64 x.g.fi) (fun _=>rfl) (fun _=>false) 67 #[] e1 A n c xs w hr (of67 W0 xs hg w);rw[show (xs.any fun _=>false)=false by simp]at HC;exact HC
theorem check108 (Wn Bn:Int) (A:Option Addr) (n c:Nat) (xs:List XG) (w:World) (h:CRd w A n xs) (hw1:1≤Wn) (hw2:Wn≤12) (hB1:0≤Bn) (hB2:Bn≤8) (hn:n≤120) (hg:∀x∈xs,x.g.good Wn):
  Calls Tryz.prog 108 #[.agg #[Wn,Bn, .slice A n c]] w fun e w'=>e= .returned (.int .i64 0)∧Below w.heap.size w w':=by
 obtain⟨W,hW⟩:∃W,W=w.alloc (.cells #[Wn,Bn, .slice A n c] 40):=⟨_,rfl⟩;have hX1:Blk W w.heap.size [Wn,Bn, .slice A n c] 40:=by rw[hW];exact Blk.new _ _ _
 have hBW:Below w.heap.size w W:=by rw[hW];exact bR.alloc (Nat.le_refl _) _
 have HX:=Lib.hid hX1;have HBW:=Lib.hid hBW;have HR:=Lib.hid (h.below hBW);have HG:Aside (∀x∈xs,x.g.good Wn):=hg;have hxl:=h.rd.len;have x_c:=hX1.three;have HWD:=Lib.hid hW;clear h hg hX1 hBW hW;go_enter Tryz.func108,Tryz.ntmps108
 go_upto_region 1 with fail
 rw[←HWD.out]
 go_upto_region 7 with fail
 go_loopg [37] n (fun gg s37 wr=>∃i:Nat,i≤n∧n-i≤gg∧s37=i∧Aside (Below W.heap.size W wr))
 case atStart=>exact⟨0,Nat.zero_le _,oM,rfl,Below.refl _ _⟩
 obtain⟨i,hi,hgg,rfl,hb⟩:=hrel
 by_cases hlt:i<n
 case pos=>
  have hltz:(i:Int)<(n:Int):=oM
  obtain⟨x,hx⟩:=get_of (l:=xs) (n:=i) oM;have hgd:=HG.out x (List.mem_of_getElem? hx);obtain⟨b9,o9,hA,_,c0,c1,c2,c3⟩:=(HR.out.rd.below hb.out).at4 hx rfl;rw[hgd.b0]at c2;rw[hgd.f0]at c3;have hal:Below W.heap.size W (wr.alloc (.cells #[x.g.kind, .slice x.A x.n x.c, .int .i64 0, .int .i64 0] 70)):=hb.out.alloc hb.out.size _;have hwl:=((HR.out.ws x (List.mem_of_getElem? hx)).len);have H139:=gate139 Wn Bn A n c .nilFunc x.g.kind x.A x.n x.c x.g.ws (wr.alloc (.cells #[x.g.kind, .slice x.A x.n x.c, .int .i64 0, .int .i64 0] 70)) rfl hgd.k1 hgd.k2 hB1 (HR.out.cp x (List.mem_of_getElem? hx)) (by rw[←hwl];exact hgd.ar) hgd.rg hgd.nd ((HR.out.ws x (List.mem_of_getElem? hx)).below hal);have HAL:=Lib.hid hal;clear hx hgd hal hwl;rw[hA]at H139 ⊢
  go_wp2_with (first|(go_at_fn 139;(with_reducible refine H139.mono ?_);rintro e w5 ⟨rfl,hb5⟩;clear H139;have HB5:Aside (Below W.heap.size W w5):=below_then HAL.out hb5;clear hb5)|((with_reducible refine H139.mono ?_);rintro e w5 ⟨rfl,hb5⟩;clear H139;have HB5:Aside (Below W.heap.size W w5):=below_then HAL.out hb5;clear hb5))
  rw[←hA];clear hA
  go_roundg (n-(i+1))
  case measure=>omega
  exact⟨i+1,oM,Nat.le_refl _,nX,HB5.out⟩
 have hltz:¬(i:Int)<(n:Int):=oM
 go_wp2_with fail
 refine bodyPost_ret (v:= .int .i64 0) (by simp[results,Tryz.results108,go_sem]) rfl ?_
 exact⟨rfl,HBW.out.trans (hb.out.mono HBW.out.size)⟩
end
end Go.Proofs.YtcoackmdmohnhaaGreatDoor
