/- Contracts of functions, and plain lemmas; each theorem's conditions stand in its statement. -/
import Derived.Test.YtcoackmdmohnhaaGreatDoorV7
import Derived.Test.YtcoackmdmohnhaaGreatDoorRows
import Derived.ProofKit
import Derived.ChangeBears2
import Derived.OpenShut
import Derived.Maps.OwnSet
import Derived.LaidMore
import Derived.LaidSub
import Derived.Lib.LaidU8
import Derived.Lib.LaidTab
import Derived.Stop.Joined
import Derived.Deep.Slices
set_option linter.unusedVariables false
set_option linter.unusedSimpArgs false
set_option maxRecDepth 100000
set_option maxHeartbeats 2000000
namespace Go.Proofs.YtcoackmdmohnhaaGreatDoor
section
open Go.ChangeShapes Go.WideShapes Go.ChangeAt Go.RowKit Go.WideElems Go.Maps Go.Deep
variable {α:Type} {t:TypeId} {k:Nat} {g:Nat} {e:TypeId} {cs:List Value} {w:World}
theorem ownK:ownKnob Tryz.prog.godebug=none:=kR
theorem laidOutT:laidOutB Tryz.prog=true:=kR
theorem gPh:Tryz.prog.globalNamed "spoondrift/zx.phases" =some 0:=kR
theorem gRu:Tryz.prog.globalNamed "spoondrift/zx.rules" =some 1:=kR
theorem gRo:Tryz.prog.globalNamed "spoondrift/zx.root" =some 2:=kR
theorem gOr:Tryz.prog.globalNamed "spoondrift/zx.order" =some 3:=kR
theorem tPh:(Tryz.prog.globals[0]?).map (·.type)=some 125:=kR
theorem tRu:(Tryz.prog.globals[1]?).map (·.type)=some 147:=kR
theorem tRo:(Tryz.prog.globals[2]?).map (·.type)=some 26:=kR
theorem tOr:(Tryz.prog.globals[3]?).map (·.type)=some 88:=kR
theorem cells3:Tryz.prog.cellsOf 3=1:=kR
theorem cells4:Tryz.prog.cellsOf 4=1:=kR
theorem cells22:Tryz.prog.cellsOf 22=1:=kR
theorem cells23:Tryz.prog.cellsOf 23=1:=kR
theorem cells24:Tryz.prog.cellsOf 24=1:=kR
theorem cells26:Tryz.prog.cellsOf 26=5:=kR
theorem cells28:Tryz.prog.cellsOf 28=9:=kR
theorem cells73:Tryz.prog.cellsOf 73=2:=kR
theorem cells77:Tryz.prog.cellsOf 77=3:=kR
theorem cells88:Tryz.prog.cellsOf 88=8:=kR
theorem cells145:Tryz.prog.cellsOf 145=1:=kR
theorem cells146:Tryz.prog.cellsOf 146=2:=kR
theorem cells147:Tryz.prog.cellsOf 147=18:=kR
theorem keyInt:Keyed Tryz.prog 3:=int_keyed Tryz.underlying3
section
variable {H:Type} {enc:TypeId × Value→H} {w:World} {spare:Nat→Bool} {held:Bool}
theorem rd_open {ec:α→List Value} {fuel:Nat} {x:DataW H × List MemPlace} (ht:Tryz.prog.underlying t=some (.slice e)) (hc:Tryz.prog.cellsOf e=k) (hk:0<k)
  (he:∀n cs' y,cs'.length=k→DataW.trod enc Tryz.prog w 0 spare held n e cs'=some y→∃a:α,cs'=ec a) (h:DataW.trod enc Tryz.prog w 0 spare held fuel t cs=some x):
  ∃A n c xs,cs=[.slice A n c]∧Rd k ec w A n xs∧(A=none→c=0):=by
 rcases open_slice ht h with⟨rfl,_⟩|⟨a,len,cap,m,n,D,Pl,rfl,hb,hl,hm,hmm,rfl,hx⟩
 · exact⟨none,0,0,[],rfl,Rd.nil _ _ _ _,fun _=>rfl⟩
 have hlm:len≤m:=by rw[hmm];split<;>omega
 have each:∀i:Fin len,∃y:α,w.cells? 0 (a.add (i.1*k)) k=some (ec y):=by
  intro i;obtain⟨cs',h1,h2⟩:=hx i.1 (by have:=i.2;omega);rw[hc]at h1;obtain⟨_,hlen,_⟩:=World.cells?_some h1;obtain⟨y,rfl⟩:=he _ _ _ hlen h2;exact⟨y,h1⟩
 refine⟨some a,len,cap,List.ofFn fun i=>Classical.choose (each i),rfl,⟨List.length_ofFn,by unfold maxLen at hm;omega,fun h0=>?_⟩,fun h=>by cases h⟩
 have key:∀i y,(List.ofFn fun i=>Classical.choose (each i))[i]?=some y→w.cells? 0 (a.add (i*k)) k=some (ec y):=by
  intro i y hy;obtain⟨hlt,rfl⟩:=List.getElem?_eq_some_iff.1 hy;rw[List.getElem_ofFn];exact Classical.choose_spec (each ⟨i,by simpa using hlt⟩)
 obtain⟨y0,hy0⟩:∃y,(List.ofFn fun i=>Classical.choose (each i))[0]?=some y:=⟨_,List.getElem?_eq_getElem (by simpa using h0)⟩;obtain⟨_,hl0,hc0⟩:=World.cells?_some (key 0 y0 hy0)
 have h00:w.cell? a=some ((ec y0)[0]'oM):=by
  have:=hc0 0 hk;rw[List.getElem?_eq_getElem oM]at this;simpa [Addr.add] using this
 obtain⟨b,off,spot⟩:=a;obtain rfl:spot=none:=World.cell?_spot h00;refine⟨b,off,rfl,World.block_lt_of_cell? w ⟨b,off,none⟩ h00,fun i y hy j u hu=>?_⟩
 obtain⟨_,hli,hci⟩:=World.cells?_some (key i y hy)
 have hj:j<k:=by
  have:=(List.getElem?_eq_some_iff.1 hu).1;omega
 have:=hci j hj;rw[hu,add_add,add_plain]at this;rw[←Nat.add_assoc]at this;exact this
theorem el_spider (n:Nat) (cs':List Value) (y:DataW H × List MemPlace) (hl:cs'.length=2) (h:DataW.trod enc Tryz.prog w 0 spare held n 73 cs'=some y):∃a:Spider,cs'=spC a:=by
 match cs',hl with
 | [c0,c1],_=>
  obtain⟨xs,m,_,_,_,hx,hf⟩:=DataW.trod_struct Tryz.underlying73 h
  match xs,hx with
  | [y0,y1],_=>
   have g0:=hf 0 _ rfl;have g1:=hf 1 _ rfl;simp[cells3]at g0 g1
   obtain⟨a,e0,_,_⟩:=DataW.trod_int Tryz.underlying3 g0;obtain⟨b,e1,_,_⟩:=DataW.trod_int Tryz.underlying3 g1;simp at e0 e1
   subst e0;subst e1;exact⟨⟨a,b⟩,rfl⟩
theorem el_line (n:Nat) (cs':List Value) (y:DataW H × List MemPlace) (hl:cs'.length=3) (h:DataW.trod enc Tryz.prog w 0 spare held n 77 cs'=some y):∃a:Line,cs'=lnC a:=by
 match cs',hl with
 | [c0,c1,c2],_=>
  obtain⟨xs,m,_,_,_,hx,hf⟩:=DataW.trod_struct Tryz.underlying77 h
  match xs,hx with
  | [y0,y1,y2],_=>
   have g0:=hf 0 _ rfl;have g1:=hf 1 _ rfl;have g2:=hf 2 _ rfl;simp[cells3,cells4]at g0 g1 g2
   obtain⟨a,e0,_,_⟩:=DataW.trod_int Tryz.underlying3 g0;obtain⟨b,e1,_,_⟩:=DataW.trod_int Tryz.underlying3 g1;obtain⟨c,e2,_⟩:=DataW.trod_bool Tryz.underlying4 g2;simp at e0 e1 e2
   subst e0;subst e1;subst e2;exact⟨⟨a,b,c⟩,rfl⟩
theorem el_int (n:Nat) (cs':List Value) (y:DataW H × List MemPlace) (hl:cs'.length=1) (h:DataW.trod enc Tryz.prog w 0 spare held n 3 cs'=some y):∃a:Int,cs'=inC a:=by
 obtain⟨a,e0,_,_⟩:=DataW.trod_int Tryz.underlying3 h;exact⟨a,e0⟩
theorem dia_open {r:Reach} {b0:Nat} {x:Value} {dd:DataW H} {ps:List MemPlace} (hval:Value.okWide Tryz.prog w r b0 28 x) (h:DataW.Trod enc Tryz.prog w 0 spare held 28 x dd ps):∃v d,x=diaV v d.sc∧DRd w v d:=by
 obtain⟨cs,rfl,hs⟩:=okWide_struct Tryz.underlying28 hval;rw[cells28]at hs;obtain⟨fuel,hf⟩:=h;obtain⟨l⟩:=cs
 match l,hs with
 | [c0,c1,c2,c3,c4,c5,c6,c7,c8],_=>
  obtain⟨xs,m,_,_,_,hx,hg⟩:=DataW.trod_struct Tryz.underlying28 hf
  match xs,hx with
  | [y0,y1,y2,y3,y4],_=>
   have g0:=hg 0 _ rfl;have g1:=hg 1 _ rfl;have g2:=hg 2 _ rfl;have g3:=hg 3 _ rfl;have g4:=hg 4 _ rfl;simp[cells22,cells23,cells24,cells26,Value.cells]at g0 g1 g2 g3 g4
   obtain⟨A1,n1,k1,sp,e1,r1,z1⟩:=rd_open Tryz.underlying22 cells73 dE el_spider g0;obtain⟨A2,n2,k2,ln,e2,r2,z2⟩:=rd_open Tryz.underlying23 cells77 dE el_line g1;obtain⟨A3,n3,k3,ins,e3,r3,z3⟩:=rd_open Tryz.underlying24 cells3 dE el_int g2;obtain⟨A4,n4,k4,outs,e4,r4,z4⟩:=rd_open Tryz.underlying24 cells3 dE el_int g3;obtain⟨xs,m,_,_,_,hx,hh⟩:=DataW.trod_struct Tryz.underlying26 g4
   match xs,hx with
   | [u0,u1,u2,u3,u4],_=>
    have q0:=hh 0 _ rfl;have q1:=hh 1 _ rfl;have q2:=hh 2 _ rfl;have q3:=hh 3 _ rfl;have q4:=hh 4 _ rfl;simp[cells3]at q0 q1 q2 q3 q4
    obtain⟨a,ea,_,_⟩:=DataW.trod_int Tryz.underlying3 q0;obtain⟨b,eb,_,_⟩:=DataW.trod_int Tryz.underlying3 q1;obtain⟨c,ec,_,_⟩:=DataW.trod_int Tryz.underlying3 q2;obtain⟨d,ed,_,_⟩:=DataW.trod_int Tryz.underlying3 q3;obtain⟨k,ek,_,_⟩:=DataW.trod_int Tryz.underlying3 q4;simp at e1 e2 e3 e4 ea eb ec ed ek
    subst e1 e2 e3 e4 ea eb ec ed ek;exact⟨⟨A1,n1,k1,A2,n2,k2,A3,n3,k3,A4,n4,k4⟩,⟨sp,ln,ins,outs,⟨a,b,c,d,k⟩⟩,rfl,r1,r2,r3,r4,z1,z2,z3,z4⟩
end
theorem cells_of_var {W:World} {n:String} {cs:Array Value} {l:List Value} (hg:Tryz.prog.globalNamed n=some g) (hv:W.var? Tryz.prog n=some cs) (hl:cs.toList=l):Cells W g l:=by
 intro j u hu;have:=World.var?_cell hg hv j;rw[this,←hu,←hl];simp
theorem nil_of_trod {base fuel:Nat} {sp:Nat→Bool} {ps rs:Array TypeId} {va:Bool} {v:Value} {q:List MemPlace} (ht:Tryz.prog.underlying t=some (.func ps rs va)) (h:DataW.trod (funcToken Tryz.prog) Tryz.prog w base sp true fuel t [v]=some (.nil,q)):v= .nilFunc:=by
 cases fuel with
 |zero=>simp[DataW.trod]at h
 |succ n=>cases v<;>simp[DataW.trod,ht]at h<;>rfl
theorem rule_open {fuel:Nat} {sp:Nat→Bool} {c0 c1:Value} {b:Bool} {F:DataW (List UInt8)} {q:List MemPlace} (h:DataW.trod (funcToken Tryz.prog) Tryz.prog w 0 sp true fuel 146 [c0,c1]=some (.agg [.lit (.bool b),F],q)):
  c0= .bool b∧∃m q',DataW.trod (funcToken Tryz.prog) Tryz.prog w 0 sp true m 145 [c1]=some (F,q'):=by
 obtain⟨xs,m,_,he,_,hx,hf⟩:=DataW.trod_struct Tryz.underlying146 h
 match xs,hx with
 | [y0,y1],_=>
  have g0:=hf 0 _ rfl;have g1:=hf 1 _ rfl;simp[cells4,cells145]at g0 g1
  obtain⟨b',e0,e1⟩:=DataW.trod_bool Tryz.underlying4 g0;simp at he e0
  subst e0;obtain⟨⟨h1,h2⟩,_⟩:=he;rw[e1]at h1;simp at h1
  exact⟨by rw[h1],m,y1.2,by rw[g1,h2]⟩
def rulesD:DataW (List UInt8):=(.agg [.agg [.lit (.bool false), .nil], .agg [.lit (.bool true), .held [40,42,115,112,111,111,110,100,114,105,102,116,47,122,120,46,119,111,114,107,41,46,102,117,115,101,115]], .agg [.lit (.bool false), .held [40,42,115,112,111,111,110,100,114,105,102,116,47,122,120,46,119,111,114,107,41,46,116,117,114,110,115]], .agg [.lit (.bool true), .held [40,42,115,112,111,111,110,100,114,105,102,116,47,122,120,46,119,111,114,107,41,46,108,111,111,112,115]], .agg [.lit (.bool false), .held [40,42,115,112,111,111,110,100,114,105,102,116,47,122,120,46,119,111,114,107,41,46,117,110,105,116,115]], .agg [.lit (.bool true), .held [40,42,115,112,111,111,110,100,114,105,102,116,47,122,120,46,119,111,114,107,41,46,112,97,105,114,115]], .agg [.lit (.bool false), .held [40,42,115,112,111,111,110,100,114,105,102,116,47,122,120,46,119,111,114,107,41,46,100,114,111,112,115]], .agg [.lit (.bool false), .held [40,42,115,112,111,111,110,100,114,105,102,116,47,122,120,46,119,111,114,107,41,46,99,111,109,112,115]], .agg [.lit (.bool true), .held [40,42,115,112,111,111,110,100,114,105,102,116,47,122,120,46,119,111,114,107,41,46,112,105,118,111,116,115]]])
theorem rules_open {W:World} {fuel:Nat} {p:List MemPlace} (h:DataW.trod (funcToken Tryz.prog) Tryz.prog W 0 (fun _=>true) true fuel 147 cs=some (rulesD,p)):cs=rulesC:=by
 obtain⟨xs,m,_,he,hl,hx,hf⟩:=DataW.trod_array Tryz.underlying147 h;rw[cells147]at hl
 match cs,hl,xs,hx with
 | [c0,c1,c2,c3,c4,c5,c6,c7,c8,c9,c10,c11,c12,c13,c14,c15,c16,c17],_,[y0,y1,y2,y3,y4,y5,y6,y7,y8],_=>
  simp only[rulesD,List.map_cons,List.map_nil,Prod.mk.injEq,DataW.agg.injEq,List.cons.injEq,and_true]at he;obtain⟨⟨r0,r1,r2,r3,r4,r5,r6,r7,r8⟩,_⟩:=he;have g0:=hf 0 dE;have g1:=hf 1 dE;have g2:=hf 2 dE;have g3:=hf 3 dE;have g4:=hf 4 dE;have g5:=hf 5 dE;have g6:=hf 6 dE;have g7:=hf 7 dE;have g8:=hf 8 dE;rw[cells146]at g0 g1 g2 g3 g4 g5 g6 g7 g8;have k0:DataW.trod (funcToken Tryz.prog) Tryz.prog W 0 (fun _=>true) true m 146 [c0,c1]=some (y0.1,y0.2):=g0;rw[←r0]at k0;obtain⟨rfl,m0,q0,f0⟩:=rule_open k0;have k1:DataW.trod (funcToken Tryz.prog) Tryz.prog W 0 (fun _=>true) true m 146 [c2,c3]=some (y1.1,y1.2):=g1;rw[←r1]at k1;obtain⟨rfl,m1,q1,f1⟩:=rule_open k1
  have k2:DataW.trod (funcToken Tryz.prog) Tryz.prog W 0 (fun _=>true) true m 146 [c4,c5]=some (y2.1,y2.2):=g2;rw[←r2]at k2;obtain⟨rfl,m2,q2,f2⟩:=rule_open k2;have k3:DataW.trod (funcToken Tryz.prog) Tryz.prog W 0 (fun _=>true) true m 146 [c6,c7]=some (y3.1,y3.2):=g3;rw[←r3]at k3;obtain⟨rfl,m3,q3,f3⟩:=rule_open k3;have k4:DataW.trod (funcToken Tryz.prog) Tryz.prog W 0 (fun _=>true) true m 146 [c8,c9]=some (y4.1,y4.2):=g4;rw[←r4]at k4;obtain⟨rfl,m4,q4,f4⟩:=rule_open k4;have k5:DataW.trod (funcToken Tryz.prog) Tryz.prog W 0 (fun _=>true) true m 146 [c10,c11]=some (y5.1,y5.2):=g5;rw[←r5]at k5;obtain⟨rfl,m5,q5,f5⟩:=rule_open k5;have k6:DataW.trod (funcToken Tryz.prog) Tryz.prog W 0 (fun _=>true) true m 146 [c12,c13]=some (y6.1,y6.2):=g6;rw[←r6]at k6;obtain⟨rfl,m6,q6,f6⟩:=rule_open k6
  have k7:DataW.trod (funcToken Tryz.prog) Tryz.prog W 0 (fun _=>true) true m 146 [c14,c15]=some (y7.1,y7.2):=g7;rw[←r7]at k7;obtain⟨rfl,m7,q7,f7⟩:=rule_open k7;have k8:DataW.trod (funcToken Tryz.prog) Tryz.prog W 0 (fun _=>true) true m 146 [c16,c17]=some (y8.1,y8.2):=g8;rw[←r8]at k8;obtain⟨rfl,m8,q8,f8⟩:=rule_open k8;obtain rfl:=nil_of_trod Tryz.underlying145 f0;obtain rfl:=func_of_trod (f0:=184) Tryz.underlying145 kR f1;obtain rfl:=func_of_trod (f0:=185) Tryz.underlying145 kR f2;obtain rfl:=func_of_trod (f0:=186) Tryz.underlying145 kR f3;obtain rfl:=func_of_trod (f0:=187) Tryz.underlying145 kR f4;obtain rfl:=func_of_trod (f0:=188) Tryz.underlying145 kR f5;obtain rfl:=func_of_trod (f0:=189) Tryz.underlying145 kR f6
  obtain rfl:=func_of_trod (f0:=190) Tryz.underlying145 kR f7;obtain rfl:=func_of_trod (f0:=191) Tryz.underlying145 kR f8;rfl
theorem of_laid {W:World} (h:laidMetH Tryz.prog Rows.zxPlugsRow.laid W):Glob W.heap.size W∧Phs W.heap.size W:=by
 obtain⟨h1,h2⟩:=laidMetH_iff.1 h;have e:(Rows.zxPlugsRow.laid.filter fun x=>x.2.handleName?.isNone)=[("spoondrift/zx.order",Rows.laid_spoondrift_zx_order),("spoondrift/zx.root",Rows.laid_spoondrift_zx_root),("spoondrift/zx.phases",Rows.laid_spoondrift_zx_phases)]:=by rfl
 rw[e]at h1;obtain⟨g,t,cs,fuel,p,hg,ht,hv,hd⟩:=Lib.laidMet.reads h1 (n:= "spoondrift/zx.order") (d:=Rows.laid_spoondrift_zx_order) sI;obtain rfl:=Option.some.inj (gOr.symm.trans hg);obtain rfl:=Option.some.inj (tOr.symm.trans ht);have o1:Cells W 3 orderC:=cells_of_var hg hv (Lib.cells_of_tab (zs:=[2,3,1,5,6,4,7,8]) Tryz.underlying88 Tryz.underlying3 cells3 cells88 hd);clear hd hv hg ht;obtain⟨g,t,cs,fuel,p,hg,ht,hv,hd⟩:=Lib.laidMet.reads h1 (n:= "spoondrift/zx.root") (d:=Rows.laid_spoondrift_zx_root) sI;obtain rfl:=Option.some.inj (gRo.symm.trans hg);obtain rfl:=Option.some.inj (tRo.symm.trans ht)
 have o2:Cells W 2 rootC:=by
  refine cells_of_var hg hv ?_
  obtain⟨xs,m,_,hx1,hl,hx,hf⟩:=DataW.trod_struct Tryz.underlying26 hd;rw[cells26]at hl;obtain⟨l⟩:=cs
  match l,hl,xs,hx with
  | [c0,c1,c2,c3,c4],_,[y0,y1,y2,y3,y4],_=>
   have q0:=hf 0 _ rfl;have q1:=hf 1 _ rfl;have q2:=hf 2 _ rfl;have q3:=hf 3 _ rfl;have q4:=hf 4 _ rfl;simp[cells3]at q0 q1 q2 q3 q4
   obtain⟨a,ea,za,_⟩:=DataW.trod_int Tryz.underlying3 q0;obtain⟨b,eb,zb,_⟩:=DataW.trod_int Tryz.underlying3 q1;obtain⟨c,ec,zc,_⟩:=DataW.trod_int Tryz.underlying3 q2;obtain⟨d,ed,zd,_⟩:=DataW.trod_int Tryz.underlying3 q3;obtain⟨k,ek,zk,_⟩:=DataW.trod_int Tryz.underlying3 q4;simp[Rows.laid_spoondrift_zx_root,za,zb,zc,zd,zk]at hx1
   simp at ea eb ec ed ek
   obtain⟨⟨rfl,rfl,rfl,rfl,rfl⟩,_⟩:=hx1;subst ea eb ec ed ek;rfl
 clear hd hv hg ht
 obtain⟨g,t,cs,fuel,p,hg,ht,hv,hd⟩:=h.funcs (n:= "spoondrift/zx.rules") (d:=(.agg [.agg [.lit (.bool false), .nil], .agg [.lit (.bool true), .iface "func" (.lit (.string [40,42,115,112,111,111,110,100,114,105,102,116,47,122,120,46,119,111,114,107,41,46,102,117,115,101,115]))], .agg [.lit (.bool false), .iface "func" (.lit (.string [40,42,115,112,111,111,110,100,114,105,102,116,47,122,120,46,119,111,114,107,41,46,116,117,114,110,115]))], .agg [.lit (.bool true), .iface "func" (.lit (.string [40,42,115,112,111,111,110,100,114,105,102,116,47,122,120,46,119,111,114,107,41,46,108,111,111,112,115]))], .agg [.lit (.bool false), .iface "func" (.lit (.string [40,42,115,112,111,111,110,100,114,105,102,116,47,122,120,46,119,111,114,107,41,46,117,110,105,116,115]))], .agg [.lit (.bool true), .iface "func" (.lit (.string [40,42,115,112,111,111,110,100,114,105,102,116,47,122,120,46,119,111,114,107,41,46,112,97,105,114,115]))], .agg [.lit (.bool false), .iface "func" (.lit (.string [40,42,115,112,111,111,110,100,114,105,102,116,47,122,120,46,119,111,114,107,41,46,100,114,111,112,115]))], .agg [.lit (.bool false), .iface "func" (.lit (.string [40,42,115,112,111,111,110,100,114,105,102,116,47,122,120,46,119,111,114,107,41,46,99,111,109,112,115]))], .agg [.lit (.bool true), .iface "func" (.lit (.string [40,42,115,112,111,111,110,100,114,105,102,116,47,122,120,46,119,111,114,107,41,46,112,105,118,111,116,115]))]])) (by simp[Rows.zxPlugsRow,Rows.laid_spoondrift_zx_rules])
 obtain rfl:=Option.some.inj (gRu.symm.trans hg);obtain rfl:=Option.some.inj (tRu.symm.trans ht);have o3:Cells W 1 rulesC:=cells_of_var hg hv (rules_open hd);clear hd hv hg ht;have hsz:3<W.heap.size:=World.block_lt_of_cell? W ⟨3,0,none⟩ (o1 0 _ rfl);refine⟨⟨hsz,o2,o1,o3⟩,?_⟩
 obtain⟨g,t,cs,fuel,p,hg,ht,hv,hd⟩:=Lib.laidMet.reads h1 (n:= "spoondrift/zx.phases") (d:=Rows.laid_spoondrift_zx_phases) sI;obtain rfl:=Option.some.inj (gPh.symm.trans hg);obtain rfl:=Option.some.inj (tPh.symm.trans ht)
 rcases WideElems.open_map Tryz.underlying125 hd with⟨_,hx⟩|⟨bm,es,clock,m,hfu,hcs,hb,_,F,hx⟩
 · simp[Rows.laid_spoondrift_zx_phases]at hx
 simp only[Prod.mk.injEq]at hx;have hbm:bm<W.heap.size:=lt_of_block hb;have hown:=World.ownsMap_of_fit (R:=plainElem Tryz.prog 3) hb F (fun x _ z hz=>elemAt_plainElem_int Tryz.underlying3 hz);rw[←hx.1]at hown;have hc0:W.cell? ⟨0,0,none⟩=some (.map (some bm)):=cells_of_var hg hv hcs 0 _ rfl;refine⟨bm,fun W' hB=>⟨(hB.cell (p:=⟨0,0,none⟩) (by show 0<W.heap.size;omega)).trans hc0,fun k hk=>?_⟩⟩
 obtain⟨es',clock',hb',F',hle,hDD⟩:=hown;have hown':W'.ownsMap Tryz.prog 3 (plainElem Tryz.prog 3) bm es.size Rows.laid_spoondrift_zx_phases:=⟨es',clock',by rw[hB.block bm hbm];exact hb',F',hle,hDD⟩;have hw:(Lit.int .i64 k).wf=true:=by rcases hk with rfl|rfl|rfl|rfl|rfl<;>decide
 obtain⟨c',hrun,hat,_⟩:=hown'.lookup_int keyInt Tryz.underlying125 Tryz.underlying3 (show (zeroValue 3).run Tryz.prog W'= .ok (.int .i64 0) W' by kernel_rfl) (keyOf_int_mk Tryz.underlying3 hw);rw[hrun]
 rcases hk with rfl|rfl|rfl|rfl|rfl
 · have h9:(DataW.lit (Lit.int .i64 c'):DataW Unit)= .lit (.int .i64 (phaseI 3)):=hat.symm.trans rfl;simp only[DataW.lit.injEq,Lit.int.injEq,true_and]at h9;rw[h9]
 · have h9:(DataW.lit (Lit.int .i64 c'):DataW Unit)= .lit (.int .i64 (phaseI 5)):=hat.symm.trans rfl;simp only[DataW.lit.injEq,Lit.int.injEq,true_and]at h9;rw[h9]
 · have h9:(DataW.lit (Lit.int .i64 c'):DataW Unit)= .lit (.int .i64 (phaseI 6)):=hat.symm.trans rfl;simp only[DataW.lit.injEq,Lit.int.injEq,true_and]at h9;rw[h9]
 · have h9:(DataW.lit (Lit.int .i64 c'):DataW Unit)= .lit (.int .i64 (phaseI 7)):=hat.symm.trans rfl;simp only[DataW.lit.injEq,Lit.int.injEq,true_and]at h9;rw[h9]
 have h9:(DataW.lit (Lit.int .i64 c'):DataW Unit)= .lit (.int .i64 (phaseI 8)):=hat.symm.trans rfl;simp only[DataW.lit.injEq,Lit.int.injEq,true_and]at h9;rw[h9]
end
section
open Go.RowKit Go.Shelf
variable {α:Type} {t:TypeId} {tl:List Value} {B:Nat} {p:Nat} {b:Nat} {i:Nat} {k:Nat} {w:World} {v:DV} {d:Diag}
def powZ:List Spider→List Bool→Int
 |s::l,b::k=>(if b then s.phase else 0)+powZ l k
 |_,_=>0
theorem powZ_take:∀(l:List Spider) (k:List Bool) (n:Nat) (s:Spider) (b:Bool),l[n]?=some s→k[n]?=some b→powZ (l.take (n+1)) (k.take (n+1))=powZ (l.take n) (k.take n)+(if b then s.phase else 0)
 |[],k,n,s,b,h,_=>by simp at h
 |x::l,[],n,s,b,_,h=>by simp at h
 | x::l,y::k,0,s,b,h,h'=>by
  simp at h h'
  subst h h';simp[powZ]
 | x::l,y::k,n+1,s,b,h,h'=>by
  have ih:=powZ_take l k n s b sH (by simpa using h');simp only[List.take_succ_cons,powZ]at ih ⊢;rw[ih];omega
theorem powZ_range:∀(l:List Spider) (k:List Bool),(∀s∈l,0≤s.phase∧s.phase≤7)→0≤powZ l k∧powZ l k≤7*l.length
 |[],k,_=>by simp[powZ]
 |x::l,[],_=>by simp[powZ];omega
 | x::l,y::k,h=>by
  have ih:=powZ_range l k (fun s hs=>h s (by simp[hs]));have h1:=h x sI;simp only[powZ,List.length_cons]
  split<;>omega
def Diag.lineP (d:Diag) (bits:List Bool) (l:Line):Option Int:=
 let a:=bits.getD l.f.toNat false
 let b:=bits.getD l.t.toNat false
 if d.bent l=false∧a≠b then none else if d.bent l=true∧a=true∧b=true then some 4 else some 0
def Diag.prodL (d:Diag) (bits:List Bool):Int→List Line→Option Int
 |acc,[]=>some acc
 | acc,l::ls=>match d.lineP bits l with
  |none=>none
  |some q=>Diag.prodL d bits (acc+q) ls
def Diag.prod (d:Diag) (bits:List Bool):Int × Bool:=match d.prodL bits (powZ d.sp bits) d.ln with
 |none=>(0,false)
 |some p=>(p%8,true)
theorem prodL_none {bits:List Bool} {acc:Int} {l:Line} {ls:List Line} (h:d.lineP bits l=none):d.prodL bits acc (l::ls)=none:=by simp[Diag.prodL,h]
theorem prodL_some {bits:List Bool} {acc q:Int} {l:Line} {ls:List Line} (h:d.lineP bits l=some q):d.prodL bits acc (l::ls)=d.prodL bits (acc+q) ls:=by simp[Diag.prodL,h]
theorem drop_cons {l:List α} {x:α} (h:l[k]?=some x):l.drop k=x::l.drop (k+1):=by
 obtain⟨hl,he⟩:=List.getElem?_eq_some_iff.1 h;rw[←he];exact List.drop_eq_getElem_cons hl
theorem getD_of {l:List α} (h:i<l.length) (z:α):l[i]?=some (l.getD i z):=by
 rw[List.getD_eq_getElem?_getD,List.getElem?_eq_getElem h];rfl
theorem Blk.three {u0 u1 u2:Value} (h:Blk w b [u0,u1,u2] t):w.cell? ⟨b,0,none⟩=some u0∧w.cell? ⟨b,1,none⟩=some u1∧w.cell? ⟨b,2,none⟩=some u2∧∀o,w.frozen? ⟨b,o,none⟩=false:=
 ⟨h.cell 0 _ rfl,h.cell 1 _ rfl,h.cell 2 _ rfl,fun o=>h.free o⟩
theorem xe45_0 {p:Prop} (h:p:=by
 have HE3:Aside (d.prodL bits acc0 d.ln=d.prodL bits acc (d.ln.drop (j+1))):=by
  have h9:=HE2.out;rw[prodL_some (q:=0) (by rw[HLP.out];first|decide|simp),Int.add_zero]at h9;exact h9
 go_wp2_with (go_at_call 52;(with_reducible refine(H52.out _ hQ).mono ?_);rintro e w5 ⟨rfl,hb5⟩;replace hQ:=below_then hQ hb5;have hz5:=((HZ.out.below hb5));replace HZ:=Lib.hid hz5;obtain⟨y0,y1,y2,yf⟩:=hz5.three;clear hb5 hz5)
 rw[←hA3,←hB1];clear hA3 hB1
 go_roundg (n2-(j+1))
 case measure=>omega
 exact⟨j+1,acc,oM,Nat.le_refl _,nX,rfl,ha0,oM,hQ,HE3⟩):p:=h
theorem xe45_1 {p:Prop} (h:p:=by
 have HE3:Aside (d.prod bits=(0,false)):=by
  show _=_
  rw[HPR.out,HE2.out,prodL_none (by rw[HLP.out];first|decide|simp)]
 go_wp2_with (go_at_call 52;(with_reducible refine(H52.out _ hQ).mono ?_);rintro e w5 ⟨rfl,hb5⟩;replace hQ:=below_then hQ hb5;have hz5:=((HZ.out.below hb5));replace HZ:=Lib.hid hz5;obtain⟨y0,y1,y2,yf⟩:=hz5.three;clear hb5 hz5)
 refine bodyPost_ret (v:= .tuple #[.int .i64 0, .bool false]) (by simp[results,Tryz.results103,go_sem]) rfl ?_
 rw[HE3.out]
 exact⟨rfl,hQ⟩):p:=h
theorem xe45_2 {p:Prop} (h:p:=by
 go_wp2
 rw[←hA1,←hA2];clear hA1 hA2
 go_roundg (bn-(k+1))
 case measure=>omega
 exact⟨k+1,oM,Nat.le_refl _,nX,(by rw[HT.out];simp),HBO.out⟩):p:=h
theorem product103 (hK:WK t tl B w p v d) (hI:d.Ok) (BA:Option Addr) (bn bc:Nat) (bits:List Bool) (hb:Rd 1 blC w BA bn bits) (hbn:bn=d.sp.length):
  Calls Tryz.prog 103 #[pt p 0, .slice BA bn bc] w fun e w'=>e= .returned (.tuple #[.int .i64 (d.prod bits).1, .bool (d.prod bits).2])∧Below w.heap.size w w':=by
 have l1:=hK.own.n1;have l2:=hK.own.n2;have lb:=hb.len;have o1:=hI.n1;have o2:=hI.n2;have hP:Aside (∀s∈d.sp,0≤s.phase∧s.phase≤7):=fun s hs=>(hI.sp s hs).2;have hL:Aside (∀l∈d.ln,(0≤l.f∧l.f<d.sp.length)∧0≤l.t∧l.t<d.sp.length):=hI.ln;have HK:=Lib.hid hK;have HB:=Lib.hid hb;obtain⟨c0,c1,c2,c3,c4,c5,c6,c7,c8,cf⟩:=hK.nine;obtain⟨n1,hn1⟩:∃n1,n1=v.n1:=⟨_,rfl⟩;obtain⟨n2,hn2⟩:∃n2,n2=v.n2:=⟨_,rfl⟩;rw[←hn1]at c0 l1;rw[←hn2]at c1 l2;have HLN:Aside (d.sp.length=n1∧d.ln.length=n2∧bits.length=n1∧bn=n1):=⟨l1,l2,oM,oM⟩;have hn1':n1≤40:=oM
 have hn2':n2≤100:=oM
 have hA:Aside (bn=n1):=by show _=_;omega
 obtain rfl:bn=n1:=oM
 have HN2:Aside (n2=v.n2):=hn2;clear hK hI hb l1 l2 lb o1 o2 hbn hn1 hn2 hA;go_enter Tryz.func103,Tryz.ntmps103
 go_wp2
 go_loopg [6,19] bn (fun gg s6 s19 wr=>∃k:Nat,k≤bn∧bn-k≤gg∧s19=k∧s6= .int .i64 (powZ (d.sp.take k) (bits.take k))∧Aside (Below w.heap.size w wr))
 case atStart=>exact⟨0,Nat.zero_le _,oM,rfl,rfl,Below.refl _ _⟩
 obtain⟨k,hk,hg,rfl,rfl,hO⟩:=hrel
 by_cases hlt:k<bn
 · have hltz:(k:Int)<(bn:Int):=oM
   obtain⟨s,hs⟩:=get_of (l:=d.sp) (n:=k) (by rw[HLN.out.1];exact hlt);obtain⟨b,hbk⟩:=get_of (l:=bits) (n:=k) (by rw[HLN.out.2.2.1];exact hlt);obtain⟨g,hA1,k0,k1,_⟩:=(HK.out.below hO.out).own.spAt hs;have hr9:Rd 1 blC (wr.alloc (.cells #[s.kind,s.phase] 73)) BA bn bits:=(HB.out.below hO.out).below (bR.alloc (Nat.le_refl _) _);obtain⟨bb,bo,hA2,_,q0⟩:=hr9.at1 hbk rfl;have hT:=powZ_take d.sp bits k s b hs hbk;have HT:Aside (powZ (d.sp.take (k+1)) (bits.take (k+1))=powZ (d.sp.take k) (bits.take k)+(if b then s.phase else 0)):=hT;have hr:=powZ_range (d.sp.take k) (bits.take k) (fun x hx=>hP.out x (List.mem_of_mem_take hx));have hsp:=hP.out s (List.mem_of_getElem? hs);have hlen:(d.sp.take k).length≤40:=by rw[List.length_take];omega
   have hin:-1000≤powZ (d.sp.take k) (bits.take k)∧powZ (d.sp.take k) (bits.take k)≤1000:=oM
   generalize powZ (d.sp.take k) (bits.take k)=acc at *;have hsp1:=hsp.1;have hsp2:=hsp.2;have hin1:=hin.1;have hin2:=hin.2;rw[hA1]at c0;clear hs hbk hr9 hT hr hlen hsp hin;have hbO:Below w.heap.size w (wr.alloc (.cells #[s.kind,s.phase] 73)):=hO.out.alloc hO.out.size _;have HBO:=Lib.hid hbO;clear hbO;rw[hA1,hA2];cases b
   · exact xe45_2
   have hwi:IntKind.i64.wrap (acc+s.phase)=acc+s.phase:=IntWalk.i64_in _ oM;exact xe45_2
 have hltz:¬(k:Int)<(bn:Int):=oM
 obtain rfl:bn=k:=oM
 have hr:=powZ_range d.sp bits hP.out;have hlen:=HLN.out.1;have h1:d.sp.take bn=d.sp:=List.take_of_length_le oM;have h2:bits.take bn=bits:=List.take_of_length_le (by have:=HLN.out.2.2.1;omega);rw[h1,h2];have HPR:Aside (d.prod bits=match d.prodL bits (powZ d.sp bits) d.ln with|none=>(0,false)|some p=>(p%8,true)):=rfl;have hin1:0≤powZ d.sp bits:=hr.1;have hin2:powZ d.sp bits≤280:=oM
 generalize powZ d.sp bits=acc0 at *;clear hr hlen h1 h2;obtain⟨d0,d1,d2,d3,d4,d5,d6,d7,d8,df⟩:=(HK.out.below hO.out).nine;rw[←HN2.out]at d1;clear c0 c1 c2 c3 c4 c5 c6 c7 c8 cf
 go_wp2
 clear d0 d1 d2 d3 d4 d5 d6 d7 d8 df
 go_loopg [6,39] n2 (fun gg s6 s39 wr=>∃(j:Nat) (acc:Int),j≤n2∧n2-j≤gg∧s39=j∧s6=acc∧0≤acc∧acc≤280+4*(j:Int)∧Aside (Below w.heap.size w wr)∧Aside (d.prodL bits acc0 d.ln=d.prodL bits acc (d.ln.drop j)))
 case atStart=>exact⟨0,acc0,Nat.zero_le _,oM,rfl,rfl,hin1,oM,hO.out,rfl⟩
 obtain⟨j,acc,hj,hg2,rfl,rfl,ha0,ha1,hO2,hE⟩:=hrel
 by_cases hlt2:j<n2
 · have hltz2:(j:Int)<(n2:Int):=oM
   obtain⟨l,hl⟩:=get_of (l:=d.ln) (n:=j) (by rw[HLN.out.2.1];exact hlt2);have hE2:=hE.out;rw[drop_cons hl]at hE2;obtain⟨⟨hf0,hf1⟩,ht0,ht1⟩:=hL.out l (List.mem_of_getElem? hl);obtain⟨lf,lt,lh⟩:=l;obtain⟨f,rfl⟩:=Int.eq_ofNat_of_zero_le hf0;obtain⟨t9,rfl⟩:=Int.eq_ofNat_of_zero_le ht0;dsimp only at hf0 hf1 ht0 ht1;have hfl:f<bits.length:=by have:=HLN.out;omega
   have htl:t9<bits.length:=by have:=HLN.out;omega
   have hbf:=getD_of hfl false;have hbt:=getD_of htl false;have HLP:Aside (d.lineP bits ⟨f,t9,lh⟩=if d.bent ⟨f,t9,lh⟩=false∧bits.getD f false≠bits.getD t9 false then none else if d.bent ⟨f,t9,lh⟩=true∧bits.getD f false=true∧bits.getD t9 false=true then some 4 else some 0):=rfl;obtain⟨g2,hA3,m0,m1,m2,_⟩:=(HK.out.below hO2.out).own.lnAt hl;have hQ:Below w.heap.size w (wr.alloc (.cells #[f,t9, .bool lh] 77)):=hO2.out.alloc hO2.out.size _;have hr9:=HB.out.below hQ;obtain⟨b1,o1,hB1,_,q1⟩:=hr9.at1 hbf rfl;obtain⟨b2,o2,hB2,_,q2⟩:=hr9.at1 hbt rfl;have hz:Blk (wr.alloc (.cells #[f,t9, .bool lh] 77)) wr.heap.size [f,t9, .bool lh] 77:=Blk.new _ _ _
   have H52:Aside (∀W,Below w.heap.size w W→Calls Tryz.prog 52 #[pt p 0, .agg #[f,t9, .bool lh]] W fun e w'=>e= .returned (.bool (d.bent ⟨f,t9,lh⟩))∧Below W.heap.size W w'):=fun W hW=>bent52 (HK.out.below hW) f t9 lh oM oM;have hBB:=hB1.symm.trans hB2;simp only[Option.some.injEq,Addr.mk.injEq,and_true]at hBB;obtain⟨rfl,rfl⟩:=hBB;have hfb:f<bn:=by have:=HLN.out;omega
   have htb:t9<bn:=by have:=HLN.out;omega
   have HZ:=Lib.hid hz;have HE2:=Lib.hid hE2;generalize bits.getD f false=ba at *;generalize bits.getD t9 false=bb at *;generalize d.bent ⟨f,t9,lh⟩=be at *;clear hl hE hE2 hr9 hz hfl htl hbf hbt hf0 ht0 hf1 ht1 hB2;rw[hA3,hB1]
   go_upto_region 11 with fail
   go_quiet (fail)
   obtain⟨wz,hwz⟩:∃wz,wz=(wr.alloc (.cells #[f,t9, .bool lh] 77)).drewN nq:=⟨_,rfl⟩;rw[←hwz];have hQ2:Below w.heap.size w wz:=by rw[hwz];exact below_dN hQ _
   have hz2:Blk wz wr.heap.size [f,t9, .bool lh] 77:=HZ.out.below (by rw[hwz];exact below_dN bR _);clear hwz hQ q1 q2 m0 m1 m2 HZ;obtain⟨y0,y1,y2,yf⟩:=hz2.three;have HZ:=Lib.hid hz2;have hQ:=hQ2;clear hQ2 hz2;cases be
   · cases ba
     · cases bb
       · exact xe45_0
       exact xe45_1
     cases bb
     · exact xe45_1
     exact xe45_0
   cases ba
   · exact xe45_0
   cases bb
   · exact xe45_0
   have HE3:Aside (d.prodL bits acc0 d.ln=d.prodL bits (acc+4) (d.ln.drop (j+1))):=by
    have h9:=HE2.out;rw[prodL_some (q:=4) (by rw[HLP.out];first|decide|simp)]at h9;exact h9
   have hw4:IntKind.i64.wrap (acc+4)=acc+4:=IntWalk.i64_in _ oM
   go_wp2_with (go_at_call 52;(with_reducible refine(H52.out _ hQ).mono ?_);rintro e w5 ⟨rfl,hb5⟩;replace hQ:=below_then hQ hb5;have hz5:=((HZ.out.below hb5));replace HZ:=Lib.hid hz5;obtain⟨y0,y1,y2,yf⟩:=hz5.three;clear hb5 hz5)
   rw[←hA3,←hB1];clear hA3 hB1
   go_roundg (n2-(j+1))
   case measure=>omega
   exact⟨j+1,acc+4,oM,Nat.le_refl _,nX,(by go_simp),oM,oM,hQ,HE3⟩
 have hltz2:¬(j:Int)<(n2:Int):=oM
 have HE2:Aside (d.prod bits=(acc%8,true)):=by
  show _=_
  rw[HPR.out,hE.out,List.drop_of_length_le (by rw[HLN.out.2.1];omega)];rfl
 have hm:Int.tmod acc 8=acc%8:=Int.tmod_eq_emod_of_nonneg ha0
 go_wp2
 refine bodyPost_ret (v:= .tuple #[.int .i64 (acc%8), .bool true]) (by simp[results,Tryz.results103,go_sem,hm]) rfl ?_
 rw[HE2.out];exact⟨rfl,hO2.out⟩
end
section
open Go.RowKit Go.Shelf
variable {t:TypeId} {tl:List Value} {B:Nat} {p:Nat} {i:Nat} {n:Nat} {w:World} {w':World} {v:DV} {d:Diag}
def bitI (m i:Nat):Bool:=(m:Int) / 2 ^ i%2==1
def setB (m:Nat):Nat→List Int→List Bool→List Bool
 |_,[],b=>b
 |i,n::l,b=>setB m (i+1) l (b.set n.toNat (bitI m i))
theorem setB_len (m:Nat):∀(l:List Int) (i:Nat) (b:List Bool),(setB m i l b).length=b.length
 |[],i,b=>rfl
 |n::l,i,b=>by simp[setB,setB_len m l]
theorem setB_take (m:Nat):∀(l:List Int) (i k:Nat) (n:Int) (b:List Bool),l[k]?=some n→setB m i (l.take (k+1)) b=(setB m i (l.take k) b).set n.toNat (bitI m (i+k))
 |[],i,k,n,b,h=>by simp at h
 | x::l,i,0,n,b,h=>by
  simp at h
  subst h;simp[setB]
 | x::l,i,k+1,n,b,h=>by
  have ih:=setB_take m l (i+1) k n (b.set x.toNat (bitI m i)) sH;rw[show i+1+k=i+(k+1) by omega]at ih;simp only[List.take_succ_cons,setB]at ih ⊢;exact ih
def Diag.sumL (d:Diag) (ns:List Int):Nat→Nat→List Bool→List Int→List Bool × List Int
 |0,_,b,s=>(b,s)
 | n+1,m,b,s=>
  let b':=setB m 0 ns b
  Diag.sumL d ns n (m+1) b' (if (d.prod b').2=true then s.set (d.prod b').1.toNat (s.getD (d.prod b').1.toNat 0+1) else s)
theorem prod_range (d:Diag) (b:List Bool):0≤(d.prod b).1∧(d.prod b).1<8:=by
 unfold Diag.prod
 split<;>dsimp only<;>omega
abbrev int1 (x:Int):Value:=x
structure SumI (B p bb sb n:Nat) (v:DV) (d:Diag) (w0 w:World) (b:List Bool) (s:List Int):Prop where
 own:w.ownsRow B 4 1 (.slice (some ⟨bb,0,none⟩) n n) n (b.flatMap blC)
 sh:Blk w sb (s.map int1) 89
 t:Touch [bb] w0 w
theorem SumI.setS {bb sb:Nat} {w0:World} {b:List Bool} {s:List Int} (h:SumI B p bb sb n v d w0 w b s) (hs:w0.heap.size≤sb) (hne:sb≠bb) (i:Nat) (x:Int):SumI B p bb sb n v d w0 (w.setCell ⟨sb,i,none⟩ x) b (s.set i x):=by
 have hT:=Touch.set1 w sb i x;refine⟨ownsRow_touch h.own hT (fun b' hb hm=>by cases hb;simp at hm;exact hne hm.symm),?_,h.t.trans hT (fun y hy=>by simp at hy;subst hy;exact .inr hs)⟩
 have:=h.sh.set i x;rw[List.map_set];exact this
theorem SumI.setB {bb sb:Nat} {w0:World} {b:List Bool} {s:List Int} (h:SumI B p bb sb n v d w0 w b s) (hne:sb≠bb) (hi:i<b.length) (y:Bool):SumI B p bb sb n v d w0 (w.setCell ⟨bb,i,none⟩ (.bool y)) (b.set i y) s:=by
 have hT:=Touch.set1 w bb i (.bool y);have h1:=(h.own.stored (i*1+0) (.bool y)).1;obtain⟨x,hx⟩:∃x,b[i]?=some x:=⟨_,List.getElem?_eq_getElem hi⟩;rw[flat_set blC_len hx dE (show blC y=(blC x).set 0 (.bool y) from rfl)]at h1;simp only[Nat.mul_one,Nat.add_zero]at h1;exact⟨h1,h.sh.touch hT (by simp;exact hne),h.t.trans hT (fun y hy=> .inl hy)⟩
theorem SumI.below {bb sb:Nat} {w0:World} {b:List Bool} {s:List Int} (h:SumI B p bb sb n v d w0 w b s) (hb:Below w.heap.size w w'):SumI B p bb sb n v d w0 w' b s:=
 ⟨ownsRow_touch h.own (Touch.of_below hb) sI,h.sh.below hb,h.t.then_below hb⟩
theorem sum54 (hK:WK t tl B w p v d) (hI:d.Ok) (bb n:Nat) (bits:List Bool) (ho:w.ownsRow B 4 1 (.slice (some ⟨bb,0,none⟩) n n) n (bits.flatMap blC)) (hn:n=d.sp.length) (hbp:bb≠p) (hbv:bb∉blks v) (hBw:B≤w.heap.size)
  (IA:Option Addr) (kn ic:Nat) (ns:List Int) (hns:Rd 1 inC w IA kn ns) (hkn:kn≤10) (hrg:∀x∈ns,0≤x∧x<(n:Int)) (hib:∀a,IA=some a→a.block≠bb):
  Calls Tryz.prog 54 #[pt p 0, .slice (some ⟨bb,0,none⟩) n n, .slice IA kn ic] w fun e w'=>e= .returned (.agg (((d.sumL ns (2 ^ kn) 0 bits [0,0,0,0,0,0,0,0]).2.map int1).toArray))∧w'.ownsRow B 4 1 (.slice (some ⟨bb,0,none⟩) n n) n ((d.sumL ns (2 ^ kn) 0 bits [0,0,0,0,0,0,0,0]).1.flatMap blC)∧Touch [bb] w w':=by
 have hbl:=ownsRow_size dE blC_len ho;have hblt:=ho.lt bb rfl;have hnl:=hns.len;have o1:=hI.n1;obtain⟨W,hW⟩:∃W,W=(w.alloc (.cells #[.int .i64 0, .int .i64 0, .int .i64 0, .int .i64 0, .int .i64 0, .int .i64 0, .int .i64 0, .int .i64 0] 89)).alloc (.cells #[.int .i64 0, .int .i64 0, .int .i64 0, .int .i64 0, .int .i64 0, .int .i64 0, .int .i64 0, .int .i64 0] 89):=⟨_,rfl⟩;have hB1:Blk W w.heap.size [.int .i64 0, .int .i64 0, .int .i64 0, .int .i64 0, .int .i64 0, .int .i64 0, .int .i64 0, .int .i64 0] 89:=by rw[hW];exact(Blk.new w _ 89).alloc _
 have hB2:Blk W (w.heap.size+1) [.int .i64 0, .int .i64 0, .int .i64 0, .int .i64 0, .int .i64 0, .int .i64 0, .int .i64 0, .int .i64 0] 89:=by
  rw[hW];have h9:=Blk.new (w.alloc (.cells #[.int .i64 0, .int .i64 0, .int .i64 0, .int .i64 0, .int .i64 0, .int .i64 0, .int .i64 0, .int .i64 0] 89)) #[.int .i64 0, .int .i64 0, .int .i64 0, .int .i64 0, .int .i64 0, .int .i64 0, .int .i64 0, .int .i64 0] 89;simpa using h9
 have hBW:Below w.heap.size w W:=by rw[hW];exact(bR.alloc (Nat.le_refl _) _).alloc sI _
 have hsz:W.heap.size=w.heap.size+2:=by rw[hW];simp
 generalize hsb:w.heap.size+1=sb at hB2;have HSZ:Aside (W.heap.size=w.heap.size+2∧sb=w.heap.size+1∧bb<w.heap.size∧B≤w.heap.size):=⟨hsz,hsb.symm,hblt.2,hBw⟩;have HS0:Aside (SumI B p bb sb n v d w W bits [0,0,0,0,0,0,0,0]):=⟨ownsRow_touch ho (Touch.of_below hBW) sI,hB2,(Touch.of_below hBW).mono sI⟩;have HB1:=Lib.hid hB1;have HW:=Lib.hid hW;have HK:=Lib.hid hK;have HI:=Lib.hid hI;have HNS:=Lib.hid hns;have HRG:Aside (∀x∈ns,0≤x∧x<(n:Int)):=hrg;have HIB:Aside (∀a,IA=some a→a.block≠bb):=hib;have HAP:Aside (bb≠p∧bb∉blks v):=⟨hbp,hbv⟩;have HLN:Aside (bits.length=n∧ns.length=kn∧n=d.sp.length∧n≤40):=⟨hbl,hnl,hn,oM⟩;have hn40:n≤40:=oM
 obtain⟨P,hP⟩:∃P:Nat,P=2 ^ kn:=⟨_,rfl⟩;have hP1:P≤1024:=by rw[hP];exact Nat.pow_le_pow_right dE hkn
 have hPz:(2:Int) ^ kn=(P:Int):=by rw[hP];simp
 have hPw:IntKind.i64.wrap (P:Int)=(P:Int):=IntWalk.i64_in _ oM;have hkz:(kn:Int)≤64:=oM
 rw[←hP];clear hK hI ho hns hrg hib hbp hbv hbl hblt hnl o1 hW hB1 hB2 hBW hsz hn hP hBw;go_enter Tryz.func54,Tryz.ntmps54
 go_upto_region 2 with fail
 try rw[hsb]
 rw[←HW.out];clear hsb;go_wp2_with fail
 go_loopg [16] P (fun gg s16 wr=>∃(m:Nat) (b:List Bool) (s:List Int),m≤P∧P-m≤gg∧s16=m∧b.length=n∧s.length=8∧(∀x∈s,0≤x∧x≤(m:Int))∧Aside (SumI B p bb sb n v d w wr b s)∧Aside (Blk wr w.heap.size [.int .i64 0, .int .i64 0, .int .i64 0, .int .i64 0, .int .i64 0, .int .i64 0, .int .i64 0, .int .i64 0] 89)∧Aside (d.sumL ns P 0 bits [0,0,0,0,0,0,0,0]=d.sumL ns (P-m) m b s))
 case atStart=>exact⟨0,bits,_,Nat.zero_le _,oM,rfl,HLN.out.1,rfl,by intro x hx;simp at hx;subst hx;omega,HS0.out,HB1.out,rfl⟩
 obtain⟨m,b,s,hm,hg,rfl,hbl,hsl,hsr,hS,hB1,hE⟩:=hrel;have HBL:Aside (b.length=n∧s.length=8∧∀x∈s,0≤x∧x≤(m:Int)):=⟨hbl,hsl,hsr⟩;clear hbl hsl hsr
 by_cases hlt:m<P
 · have hltz : (m:Int)<(P:Int):=oM
   have HE2:Aside (d.sumL ns (P-m) m b s=d.sumL ns (P-(m+1)) (m+1) (setB m 0 ns b) (if (d.prod (setB m 0 ns b)).2=true then s.set (d.prod (setB m 0 ns b)).1.toNat (s.getD (d.prod (setB m 0 ns b)).1.toNat 0+1) else s)):=by
    show _=_
    rw[show P-m=(P-(m+1))+1 by omega];rfl
   go_wp2_with fail
   go_loopg [21] kn (fun gg s21 wr=>∃i:Nat,i≤kn∧kn-i≤gg∧s21=i∧Aside (SumI B p bb sb n v d w wr (setB m 0 (ns.take i) b) s)∧Aside (Blk wr w.heap.size [.int .i64 0, .int .i64 0, .int .i64 0, .int .i64 0, .int .i64 0, .int .i64 0, .int .i64 0, .int .i64 0] 89))
   case atStart=>exact⟨0,Nat.zero_le _,oM,rfl,hS.out,hB1.out⟩
   obtain⟨i,hi,hg2,rfl,hS2,hB2⟩:=hrel
   by_cases hlt2:i<kn
   · have hltz2:(i:Int)<(kn:Int):=oM
     obtain⟨x,hx⟩:=get_of (l:=ns) (n:=i) (by rw[HLN.out.2.1];exact hlt2);obtain⟨hx0,hx1⟩:=HRG.out x (List.mem_of_getElem? hx);obtain⟨xn,rfl⟩:=Int.eq_ofNat_of_zero_le hx0;have hr9:=HNS.out.touch hS2.out.t (fun y hy a ha=>by simp at hy;subst hy;exact HIB.out a ha);obtain⟨b1,o1,hA1,_,q0⟩:=hr9.at1 hx rfl;have hl9:(setB m 0 (ns.take i) b).length=n:=by rw[setB_len];exact HBL.out.1
     have hxl:xn<(setB m 0 (ns.take i) b).length:=oM
     have hq1:wr.cell? ⟨bb,xn,none⟩=some (.bool ((setB m 0 (ns.take i) b).getD xn false)):=by simpa using ownsRow_at blC_len hS2.out.own (getD_of hxl false) (j:=0) rfl
     have hfr:=hS2.out.own.frozenAt xn;have hne:sb≠bb:=by have:=HSZ.out;omega
     have HS3:=Lib.hid (hS2.out.setB hne hxl (bitI m i))
     have HST:Aside ((setB m 0 (ns.take i) b).set xn (bitI m i)=setB m 0 (ns.take (i+1)) b):=by
      have h9:=setB_take m ns 0 i xn b hx;rw[Nat.zero_add,Int.toNat_natCast]at h9;exact h9.symm
     have HB3:Aside (Blk (wr.setCell ⟨bb,xn,none⟩ (.bool (bitI m i))) w.heap.size _ 89):=hB2.out.set_other _ _ (by have:=HSZ.out;show bb≠_;omega);generalize (setB m 0 (ns.take i) b).getD xn false=old at hq1;have hand:=i64_and1 ((m:Int) / 2 ^ i);have hiz:(i:Int)≤64:=oM
     have hxz:(xn:Int)<(n:Int):=oM
     clear hx hr9 hl9 hxl hne hx0 hx1;rw[hA1];go_wp2_with fail
     rw[←hA1];clear hA1
     go_roundg (kn-(i+1))
     case measure=>omega
     exact⟨i+1,oM,Nat.le_refl _,nX,(by rw[←HST.out];exact HS3.out),HB3.out⟩
   have hltz2:¬(i:Int)<(kn:Int):=oM
   have HS3:Aside (SumI B p bb sb n v d w wr (setB m 0 ns b) s):=by
    have h9:=hS2.out;rw[List.take_of_length_le (by rw[HLN.out.2.1];omega)]at h9;exact h9
   have hl9:(setB m 0 ns b).length=n:=by rw[setB_len];exact HBL.out.1
   have H103:=product103 (HK.out.touch HS3.out.t (by simp;exact fun e=>HAP.out.1 e.symm) (fun y hy hm=>by simp at hm;subst hm;exact HAP.out.2 hy)) HI.out (some ⟨bb,0,none⟩) n n (setB m 0 ns b) (Rd.owned dE blC_len HS3.out.own) HLN.out.2.2.1;have hpr:=prod_range d (setB m 0 ns b);generalize setB m 0 ns b=b2 at *;generalize d.prod b2=pr at *;obtain⟨pw,is⟩:=pr;dsimp only at H103 hpr;obtain⟨hp0,hp8⟩:=hpr;obtain⟨pn,rfl⟩:=Int.eq_ofNat_of_zero_le hp0;have HB9:Aside (b2.length=n):=hl9;have hpz:(pn:Int)<8:=hp8;clear hl9 hS hB1 hS2 hp0 hp8;cases is
   · have HE3:Aside (d.sumL ns P 0 bits [0,0,0,0,0,0,0,0]=d.sumL ns (P-(m+1)) (m+1) b2 s):=hE.out.trans HE2.out
     go_wp2_with (go_at_call 103;(with_reducible refine H103.mono ?_);rintro e w5 ⟨rfl,hb5⟩;clear H103;have HS5:=Lib.hid (HS3.out.below hb5);have HB5:=Lib.hid (hB2.out.below hb5);clear hb5)
     go_roundg (P-(m+1))
     case measure=>omega
     exact⟨m+1,b2,s,oM,Nat.le_refl _,nX,HB9.out,HBL.out.2.1,(fun x hx=>by have:=HBL.out.2.2 x hx;omega),HS5.out,HB5.out,HE3⟩
   have hsl:pn<s.length:=by have:=HBL.out;omega
   have hso:=getD_of hsl 0;have hsr:=HBL.out.2.2 _ (List.mem_of_getElem? hso);have HE3:Aside (d.sumL ns P 0 bits [0,0,0,0,0,0,0,0]=d.sumL ns (P-(m+1)) (m+1) b2 (s.set pn (s.getD pn 0+1))):=hE.out.trans HE2.out;generalize s.getD pn 0=old at *;have hol1:=hsr.1;have hol2:=hsr.2;have HSO:=Lib.hid hso;have hw9:IntKind.i64.wrap (old+1)=old+1:=IntWalk.i64_in _ oM
   have HRN:Aside (∀x∈s.set pn (old+1),0≤x∧x≤((m+1:Nat):Int)):=by
    intro x hx
    rcases List.mem_or_eq_of_mem_set hx with h1|h1
    · have:=HBL.out.2.2 x h1;omega
    omega
   clear hsr hsl hso
   go_wp2_with (go_at_call 103;(with_reducible refine H103.mono ?_);rintro e w5 ⟨rfl,hb5⟩;clear H103;have HS5:=Lib.hid (HS3.out.below hb5);have HB5:=Lib.hid (hB2.out.below hb5);clear hb5
                have y0:=HS5.out.sh.cell pn old (by rw[List.getElem?_map,HSO.out];rfl);have yf:=HS5.out.sh.free pn;have HS6:=Lib.hid (HS5.out.setS (by have:=HSZ.out;omega) (by have:=HSZ.out;omega) pn (old+1))
                have HB6:Aside (Blk (w5.setCell ⟨sb,pn,none⟩ (.int .i64 (old+1))) w.heap.size _ 89):=HB5.out.set_other _ _ (by have:=HSZ.out;show sb≠_;omega))
   go_roundg (P-(m+1))
   case measure=>omega
   exact⟨m+1,b2,_,oM,Nat.le_refl _,nX,HB9.out,(by rw[List.length_set];exact HBL.out.2.1),HRN.out,HS6.out,HB6.out,HE3⟩
 have hltz:¬(m:Int)<(P:Int):=oM
 obtain rfl:P=m:=oM
 have HE2:Aside (d.sumL ns P 0 bits [0,0,0,0,0,0,0,0]=(b,s)):=by
  show _=_
  rw[hE.out,Nat.sub_self];rfl
 match s,HBL.out.2.1,hS,HE2 with
 | [s0,s1,s2,s3,s4,s5,s6,s7],_,hS,HE2=>
  have hsh:=hS.out.sh;have y0:=hsh.cell 0 _ rfl;have y1:=hsh.cell 1 _ rfl;have y2:=hsh.cell 2 _ rfl;have y3:=hsh.cell 3 _ rfl;have y4:=hsh.cell 4 _ rfl;have y5:=hsh.cell 5 _ rfl;have y6:=hsh.cell 6 _ rfl;have y7:=hsh.cell 7 _ rfl;have z0:=hB1.out.cell 0 _ rfl;have z1:=hB1.out.cell 1 _ rfl;have z2:=hB1.out.cell 2 _ rfl;have z3:=hB1.out.cell 3 _ rfl;have z4:=hB1.out.cell 4 _ rfl;have z5:=hB1.out.cell 5 _ rfl;have z6:=hB1.out.cell 6 _ rfl;have z7:=hB1.out.cell 7 _ rfl;have zf:=hB1.out.free;clear hsh;go_wp2_with fail
  have hq:=(((((((hB1.out.set 0 s0).set 1 s1).set 2 s2).set 3 s3).set 4 s4).set 5 s5).set 6 s6).set 7 s7;refine bodyPost_ret (v:= .agg #[s0,s1,s2,s3,s4,s5,s6,s7]) (by simp[results,Tryz.results54,go_sem,hq.cell 0 _ rfl,hq.cell 1 _ rfl,hq.cell 2 _ rfl,hq.cell 3 _ rfl,hq.cell 4 _ rfl,hq.cell 5 _ rfl,hq.cell 6 _ rfl,hq.cell 7 _ rfl]) rfl ?_
  rw[HE2.out]
  have hT:∀(W:World) (u0 u1 u2 u3 u4 u5 u6 u7:Value),Touch [w.heap.size] W ((((((((W.setCell ⟨w.heap.size,0,none⟩ u0).setCell ⟨w.heap.size,1,none⟩ u1).setCell ⟨w.heap.size,2,none⟩ u2).setCell ⟨w.heap.size,3,none⟩ u3).setCell ⟨w.heap.size,4,none⟩ u4).setCell ⟨w.heap.size,5,none⟩ u5).setCell ⟨w.heap.size,6,none⟩ u6).setCell ⟨w.heap.size,7,none⟩ u7):=fun W u0 u1 u2 u3 u4 u5 u6 u7=>
   (((((((Touch.set1 _ _ _ _).trans (Touch.set1 _ _ _ _) (fun x hx=> .inl hx)).trans (Touch.set1 _ _ _ _) (fun x hx=> .inl hx)).trans (Touch.set1 _ _ _ _) (fun x hx=> .inl hx)).trans (Touch.set1 _ _ _ _) (fun x hx=> .inl hx)).trans (Touch.set1 _ _ _ _) (fun x hx=> .inl hx)).trans (Touch.set1 _ _ _ _) (fun x hx=> .inl hx)).trans (Touch.set1 _ _ _ _) (fun x hx=> .inl hx)
  have hT8:=hT wr s0 s1 s2 s3 s4 s5 s6 s7;exact⟨rfl,ownsRow_touch hS.out.own hT8 (fun b' hb hm=>by cases hb;simp at hm;have:=HSZ.out;omega),hS.out.t.trans hT8 (fun y hy=>by simp at hy;subst hy;exact .inr (Nat.le_refl _))⟩
end
end Go.Proofs.YtcoackmdmohnhaaGreatDoor
