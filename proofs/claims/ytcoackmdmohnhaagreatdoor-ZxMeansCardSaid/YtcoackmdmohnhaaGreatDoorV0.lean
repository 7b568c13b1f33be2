/- Contracts of functions, and plain lemmas; each theorem's conditions stand in its statement. -/
import Derived.Tactics
import Derived.Tactics2
import Derived.WalkKit
import Derived.KernelRfl
import Derived.WalkSpells
import Derived.Below
import Derived.Lib.Hide
import Derived.Laws.BitsLemmas
import Derived.Deep.Draws
import Derived.Orders
import Derived.IntWalk
import Derived.LoopTactic
import Derived.Laws.AppendOwn
import Derived.Laws.AppendOwnNone
set_option linter.unusedVariables false
set_option linter.unusedSimpArgs false
namespace Go.Proofs.YtcoackmdmohnhaaGreatDoor
section
open Go.RowKit
def Aside (p:Prop):Prop:=p
theorem Aside.out {p:Prop} (h:Aside p):p:=h
def Rd {α:Type} (k:Nat) (enc:α→List Value) (w:World) (A:Option Addr) (n:Nat) (xs:List α):Prop:=
 xs.length=n∧n≤9223372036854775807∧(0<n→∃b o,A=some ⟨b,o,none⟩∧b<w.heap.size∧
   ∀i x,xs[i]?=some x→∀j u,(enc x)[j]?=some u→w.cell? ⟨b,o+i*k+j,none⟩=some u)
theorem Rd.len {α:Type} {k:Nat} {enc:α→List Value} {w:World} {A:Option Addr} {n:Nat} {xs:List α} (h:Rd k enc w A n xs):xs.length=n:=h.1
theorem Rd.big {α:Type} {k:Nat} {enc:α→List Value} {w:World} {A:Option Addr} {n:Nat} {xs:List α} (h:Rd k enc w A n xs):n≤9223372036854775807:=h.2.1
theorem Rd.below {α:Type} {k:Nat} {enc:α→List Value} {w w':World} {A:Option Addr} {n:Nat} {xs:List α} (h:Rd k enc w A n xs) (hb:Below w.heap.size w w'):Rd k enc w' A n xs:=by
 refine⟨h.1,h.2.1,fun hn=>?_⟩
 obtain⟨b,o,e,hlt,hc⟩:=h.2.2 hn;exact⟨b,o,e,Nat.lt_of_lt_of_le hlt hb.size,fun i x hx j u hu=>(hb.cell (p:=⟨b,_,none⟩) hlt).trans (hc i x hx j u hu)⟩
theorem Rd.nil {α:Type} (k:Nat) (enc:α→List Value) (w:World) (A:Option Addr):Rd k enc w A 0 ([]:List α):=⟨rfl,by omega,fun h=>absurd h (by omega)⟩
theorem below_then {w w1 w2:World} (h:Below w.heap.size w w1) (k:Below w1.heap.size w1 w2):Below w.heap.size w w2:=
 h.trans (k.mono h.size)
theorem Rd.at1 {α:Type} {enc:α→List Value} {w:World} {A:Option Addr} {n:Nat} {xs:List α} (h:Rd 1 enc w A n xs) {i:Nat} {x:α} {u:Value} (hx:xs[i]?=some x) (hu:enc x=[u]):
  ∃b o,A=some ⟨b,o,none⟩∧b<w.heap.size∧w.cell? ⟨b,o+i,none⟩=some u:=by
 have hi:i<xs.length:=(List.getElem?_eq_some_iff.1 hx).1;obtain⟨b,o,e,hlt,hc⟩:=h.2.2 (by rw[←h.1];omega);exact⟨b,o,e,hlt,by have:=hc i x hx 0 u (by simp[hu]);simpa using this⟩
theorem Rd.at2 {α:Type} {enc:α→List Value} {w:World} {A:Option Addr} {n:Nat} {xs:List α} (h:Rd 2 enc w A n xs) {i:Nat} {x:α} {u v:Value} (hx:xs[i]?=some x) (hu:enc x=[u,v]):
  ∃b o,A=some ⟨b,o,none⟩∧b<w.heap.size∧w.cell? ⟨b,o+i*2,none⟩=some u∧w.cell? ⟨b,o+i*2+1,none⟩=some v:=by
 have hi:i<xs.length:=(List.getElem?_eq_some_iff.1 hx).1;obtain⟨b,o,e,hlt,hc⟩:=h.2.2 (by rw[←h.1];omega);exact⟨b,o,e,hlt,by have:=hc i x hx 0 u (by simp[hu]);simpa using this,hc i x hx 1 v (by simp[hu])⟩
theorem Rd.at3 {α:Type} {enc:α→List Value} {w:World} {A:Option Addr} {n:Nat} {xs:List α} (h:Rd 3 enc w A n xs) {i:Nat} {x:α} {u v z:Value} (hx:xs[i]?=some x) (hu:enc x=[u,v,z]):
  ∃b o,A=some ⟨b,o,none⟩∧b<w.heap.size∧w.cell? ⟨b,o+i*3,none⟩=some u∧w.cell? ⟨b,o+i*3+1,none⟩=some v∧w.cell? ⟨b,o+i*3+2,none⟩=some z:=by
 have hi:i<xs.length:=(List.getElem?_eq_some_iff.1 hx).1;obtain⟨b,o,e,hlt,hc⟩:=h.2.2 (by rw[←h.1];omega);exact⟨b,o,e,hlt,by have:=hc i x hx 0 u (by simp[hu]);simpa using this,hc i x hx 1 v (by simp[hu]),hc i x hx 2 z (by simp[hu])⟩
def idxP {α:Type} (p:α→Bool):List α→Int
 |[]=>-1
 |x::l=>if p x then 0 else(if idxP p l<0 then -1 else idxP p l+1)
theorem idxP_miss {α:Type} (p:α→Bool):∀l:List α,(∀x∈l,p x=false)→idxP p l=-1
 |[],_=>rfl
 | x::l,h=>by
  have h1:=h x (by simp);have h2:=idxP_miss p l (fun y hy=>h y (by simp[hy]));simp[idxP,h1,h2]
theorem idxP_hit {α:Type} (p:α→Bool):∀(l:List α) (i:Nat) (x:α),l[i]?=some x→p x=true→(∀j y,j<i→l[j]?=some y→p y=false)→idxP p l=(i:Int)
 |[],i,x,h,_,_=>by simp at h
 | y::l,0,x,h,hp,_=>by
  simp at h;subst h;simp[idxP,hp]
 | y::l,i+1,x,h,hp,hn=>by
  have h0:=hn 0 y (by omega) (by simp);have:=idxP_hit p l i x (by simpa using h) hp (fun j z hj hz=>hn (j+1) z (by omega) (by simpa using hz));simp only[idxP,h0,this];simp
  intro hneg;omega
theorem idxP_nonneg {α:Type} (p:α→Bool):∀l:List α,decide (0≤idxP p l)=l.any p
 |[]=>by simp[idxP]
 | x::l=>by
  have ih:=idxP_nonneg p l
  by_cases hx:p x=true
  · simp[idxP,hx]
  simp only[Bool.not_eq_true]at hx;simp only[idxP,hx,Bool.false_eq_true,if_false,List.any_cons,Bool.false_or];rw[←ih]
  by_cases hl:idxP p l<0
  · rw[if_pos hl];simp;omega
  rw[if_neg hl];simp;omega
theorem i64_and1 (n:Int):bits .and .i64 n 1=n%2:=by
 have h1:(BitVec.ofInt 64 1).toNat=2 ^ 1-1:=by decide
 have key:(BitVec.ofInt 64 n&&&BitVec.ofInt 64 1).toNat=(n%((2 ^ 64:Nat):Int)).toNat%2 ^ 1:=by
  rw[BitVec.toNat_and,BitVec.toNat_ofInt,h1,Nat.and_two_pow_sub_one_eq_mod]
 show IntKind.i64.wrap ((BitVec.ofInt 64 n&&&BitVec.ofInt 64 1).toNat:Nat)=n%2
 rw[key,IntKind.wrap_i64];omega
def Blk (w:World) (b:Nat) (cs:List Value) (t:TypeId):Prop:=w.heap[b]?=some (.cells cs.toArray t (0,0))
theorem Blk.cell {w:World} {b:Nat} {cs:List Value} {t:TypeId} (h:Blk w b cs t) (i:Nat) (u:Value) (hu:cs[i]?=some u):w.cell? ⟨b,i,none⟩=some u:=by
 unfold Blk at h;simp[World.cell?,h,hu]
theorem Blk.free {w:World} {b:Nat} {cs:List Value} {t:TypeId} (h:Blk w b cs t) (i:Nat):w.frozen? ⟨b,i,none⟩=false:=by
 unfold Blk at h;simp[World.frozen?,h]
theorem Blk.lt {w:World} {b:Nat} {cs:List Value} {t:TypeId} (h:Blk w b cs t):b<w.heap.size:=(Array.getElem?_eq_some_iff.1 h).1
theorem Blk.set {w:World} {b:Nat} {cs:List Value} {t:TypeId} (h:Blk w b cs t) (i:Nat) (v:Value):Blk (w.setCell ⟨b,i,none⟩ v) b (cs.set i v) t:=by
 unfold Blk at h ⊢;simp[World.setCell,Array.getElem?_modify,h]
theorem Blk.set_other {w:World} {b:Nat} {cs:List Value} {t:TypeId} (h:Blk w b cs t) (a:Addr) (v:Value) (hne:a.block≠b):Blk (w.setCell a v) b cs t:=by
 unfold Blk at h ⊢;simp only[World.setCell,Array.getElem?_modify];rw[if_neg hne];exact h
theorem Blk.alloc {w:World} {b:Nat} {cs:List Value} {t:TypeId} (h:Blk w b cs t) (o:Obj):Blk (w.alloc o) b cs t:=by
 have:=h.lt;unfold Blk at h ⊢;rw[Below.heap_alloc _ _ _ this];exact h
theorem Blk.new (w:World) (cs:Array Value) (t:TypeId):Blk (w.alloc (.cells cs t)) w.heap.size cs.toList t:=by
 unfold Blk;show (w.heap.push _)[w.heap.size]?=_
 simp
theorem Blk.below {w w':World} {b:Nat} {cs:List Value} {t:TypeId} (h:Blk w b cs t) (hb:Below w.heap.size w w'):Blk w' b cs t:=by
 have:=h.lt;unfold Blk at h ⊢;rw[hb.block b this];exact h
theorem Blk.drew {w:World} {b:Nat} {cs:List Value} {t:TypeId} (h:Blk w b cs t):Blk w.drew b cs t:=h
theorem Blk.drewN {w:World} {b:Nat} {cs:List Value} {t:TypeId} (h:Blk w b cs t) (n:Nat):Blk (w.drewN n) b cs t:=h
def RetNum (P:Int→Int→Int→Int→Int→Prop) (w:World) (e:Ending) (w':World):Prop:=
 ∃a b c d k:Int,e= .returned (.agg #[.int .i64 a, .int .i64 b, .int .i64 c, .int .i64 d, .int .i64 k])∧Aside (P a b c d k)∧Below w.heap.size w w'
def RetNumE (P:Int→Int→Int→Int→Int→Int→Prop) (w:World) (e:Ending) (w':World):Prop:=
 ∃a b c d k r:Int,e= .returned (.tuple #[.agg #[.int .i64 a, .int .i64 b, .int .i64 c, .int .i64 d, .int .i64 k], .int .i64 r])∧Aside (P a b c d k r)∧Below w.heap.size w w'
theorem bcell {W w1:World} (hb:Below W.heap.size W w1):(∀b o,b<W.heap.size→w1.cell? ⟨b,o,none⟩=W.cell? ⟨b,o,none⟩)∧(∀b o,b<W.heap.size→w1.frozen? ⟨b,o,none⟩=W.frozen? ⟨b,o,none⟩):=
 ⟨fun b o h=>hb.cell (p:=⟨b,o,none⟩) h,fun b o h=>hb.frozen (p:=⟨b,o,none⟩) h⟩
theorem Blk.five {w:World} {b:Nat} {u0 u1 u2 u3 u4:Value} {t:TypeId} (h:Blk w b [u0,u1,u2,u3,u4] t):
  w.cell? ⟨b,0,none⟩=some u0∧w.cell? ⟨b,1,none⟩=some u1∧w.cell? ⟨b,2,none⟩=some u2∧w.cell? ⟨b,3,none⟩=some u3∧w.cell? ⟨b,4,none⟩=some u4∧(∀o,w.frozen? ⟨b,o,none⟩=false):=
 ⟨h.cell 0 _ rfl,h.cell 1 _ rfl,h.cell 2 _ rfl,h.cell 3 _ rfl,h.cell 4 _ rfl,fun o=>h.free o⟩
theorem Blk.four {w:World} {b:Nat} {u0 u1 u2 u3:Value} {t:TypeId} (h:Blk w b [u0,u1,u2,u3] t):
  w.cell? ⟨b,0,none⟩=some u0∧w.cell? ⟨b,1,none⟩=some u1∧w.cell? ⟨b,2,none⟩=some u2∧w.cell? ⟨b,3,none⟩=some u3∧(∀o,w.frozen? ⟨b,o,none⟩=false):=
 ⟨h.cell 0 _ rfl,h.cell 1 _ rfl,h.cell 2 _ rfl,h.cell 3 _ rfl,fun o=>h.free o⟩
theorem Blk.one {w:World} {b:Nat} {u0:Value} {t:TypeId} (h:Blk w b [u0] t):w.cell? ⟨b,0,none⟩=some u0∧(∀o,w.frozen? ⟨b,o,none⟩=false):=⟨h.cell 0 _ rfl,fun o=>h.free o⟩
def Bd (B a b c d:Int):Prop:=-B≤a∧a≤B∧-B≤b∧b≤B∧-B≤c∧c≤B∧-B≤d∧d≤B
theorem Blk.set5 {w:World} {b:Nat} {u0 u1 u2 u3 u4:Value} {t:TypeId} (h:Blk w b [u0,u1,u2,u3,u4] t) (v0 v1 v2 v3 v4:Value):
  Blk (((((w.setCell ⟨b,0,none⟩ v0).setCell ⟨b,1,none⟩ v1).setCell ⟨b,2,none⟩ v2).setCell ⟨b,3,none⟩ v3).setCell ⟨b,4,none⟩ v4) b [v0,v1,v2,v3,v4] t:=
 ((((h.set 0 v0).set 1 v1).set 2 v2).set 3 v3).set 4 v4
theorem Blk.set5_other {w:World} {b b':Nat} {cs:List Value} {t:TypeId} (h:Blk w b' cs t) (hne:b≠b') (v0 v1 v2 v3 v4:Value):
  Blk (((((w.setCell ⟨b,0,none⟩ v0).setCell ⟨b,1,none⟩ v1).setCell ⟨b,2,none⟩ v2).setCell ⟨b,3,none⟩ v3).setCell ⟨b,4,none⟩ v4) b' cs t:=
 ((((h.set_other _ v0 hne).set_other _ v1 hne).set_other _ v2 hne).set_other _ v3 hne).set_other _ v4 hne
theorem below_set5 {B b:Nat} {w0 w:World} (h:Below B w0 w) (hb:B≤b) (v0 v1 v2 v3 v4:Value):
  Below B w0 (((((w.setCell ⟨b,0,none⟩ v0).setCell ⟨b,1,none⟩ v1).setCell ⟨b,2,none⟩ v2).setCell ⟨b,3,none⟩ v3).setCell ⟨b,4,none⟩ v4):=
 ((((h.setCell (p:=⟨b,0,none⟩) hb v0).setCell (p:=⟨b,1,none⟩) hb v1).setCell (p:=⟨b,2,none⟩) hb v2).setCell (p:=⟨b,3,none⟩) hb v3).setCell (p:=⟨b,4,none⟩) hb v4
theorem Blk.set4 {w:World} {b:Nat} {u0 u1 u2 u3:Value} {t:TypeId} (h:Blk w b [u0,u1,u2,u3] t) (v0 v1 v2 v3:Value):
  Blk ((((w.setCell ⟨b,0,none⟩ v0).setCell ⟨b,1,none⟩ v1).setCell ⟨b,2,none⟩ v2).setCell ⟨b,3,none⟩ v3) b [v0,v1,v2,v3] t:=
 (((h.set 0 v0).set 1 v1).set 2 v2).set 3 v3
theorem Blk.set4_other {w:World} {b b':Nat} {cs:List Value} {t:TypeId} (h:Blk w b' cs t) (hne:b≠b') (v0 v1 v2 v3:Value):
  Blk ((((w.setCell ⟨b,0,none⟩ v0).setCell ⟨b,1,none⟩ v1).setCell ⟨b,2,none⟩ v2).setCell ⟨b,3,none⟩ v3) b' cs t:=
 (((h.set_other _ v0 hne).set_other _ v1 hne).set_other _ v2 hne).set_other _ v3 hne
theorem below_set4 {B b:Nat} {w0 w:World} (h:Below B w0 w) (hb:B≤b) (v0 v1 v2 v3:Value):
  Below B w0 ((((w.setCell ⟨b,0,none⟩ v0).setCell ⟨b,1,none⟩ v1).setCell ⟨b,2,none⟩ v2).setCell ⟨b,3,none⟩ v3):=
 (((h.setCell (p:=⟨b,0,none⟩) hb v0).setCell (p:=⟨b,1,none⟩) hb v1).setCell (p:=⟨b,2,none⟩) hb v2).setCell (p:=⟨b,3,none⟩) hb v3
theorem Blk.six6 {w:World} {b:Nat} {u0 u1 u2 u3 u4 u5:Value} {t:TypeId} (h:Blk w b [u0,u1,u2,u3,u4,u5] t):
  w.cell? ⟨b,0,none⟩=some u0∧w.cell? ⟨b,1,none⟩=some u1∧w.cell? ⟨b,2,none⟩=some u2∧w.cell? ⟨b,3,none⟩=some u3∧w.cell? ⟨b,4,none⟩=some u4∧w.cell? ⟨b,5,none⟩=some u5∧Blk w b [u0,u1,u2,u3,u4,u5] t:=
 ⟨h.cell 0 _ rfl,h.cell 1 _ rfl,h.cell 2 _ rfl,h.cell 3 _ rfl,h.cell 4 _ rfl,h.cell 5 _ rfl,h⟩
theorem Blk.five5 {w:World} {b:Nat} {u0 u1 u2 u3 u4:Value} {t:TypeId} (h:Blk w b [u0,u1,u2,u3,u4] t):
  w.cell? ⟨b,0,none⟩=some u0∧w.cell? ⟨b,1,none⟩=some u1∧w.cell? ⟨b,2,none⟩=some u2∧w.cell? ⟨b,3,none⟩=some u3∧w.cell? ⟨b,4,none⟩=some u4∧Blk w b [u0,u1,u2,u3,u4] t:=
 ⟨h.cell 0 _ rfl,h.cell 1 _ rfl,h.cell 2 _ rfl,h.cell 3 _ rfl,h.cell 4 _ rfl,h⟩
theorem below_dN {B:Nat} {w W:World} (h:Below B w W) (n:Nat):Below B w (W.drewN n):=⟨h.os,h.tape,h.output,h.size,h.block⟩
theorem cell_keeps {W w1:World} (hb:Below W.heap.size W w1) {a:Addr} {v:Value} (h:W.cell? a=some v):w1.cell? a=some v:=(hb.cell (World.block_lt_of_cell? W a h)).trans h
end
section
open Go.RowKit
def updV (x:Nat→Value) (d:Nat) (v:Value):Nat→Value:=fun k=>if k=d then v else x k
def AllOps (p:Nat→Oper→Prop):Nat→List Oper→Prop
 |_,[]=>True
 |n,o::l=>p n o∧AllOps p (n+1) l
theorem AllOps.at {p:Nat→Oper→Prop}:∀{l:List Oper} {n i:Nat} {o:Oper},AllOps p n l→l[i]?=some o→p (n+i) o
 |[],n,i,o,_,h=>by simp at h
 |q::l,n,0,o,h,ho=>by simp at ho;subst ho;exact h.1
 | q::l,n,i+1,o,h,ho=>by
  have:=AllOps.at h.2 (i:=i) (o:=o) (by simpa using ho);rw[show n+(i+1)=n+1+i by omega];exact this
section
variable {P:Program} {ops:Array Oper} {Q:Exit→Act→World→Prop}
theorem wpAny_invG (sh:(Nat→Value)→Act) (I:(Nat→Bool)→(Nat→Value)→World→Prop)
  (hput:∀(i:Nat) (o:Oper) (d:Nat),ops[i]?=some o→o.dst=some d→∀x v,(sh x).put (some d) v=sh (updV x d v))
  (hstep:∀(i:Nat) (o:Oper),ops[i]?=some o→∀(l:Nat→Bool) (x:Nat→Value) (w:World),l i=false→(∀e∈o.after,Region.binds .any e=true→l e.on=true)→I l x w→
    ∀K:Act→World→Prop,(∀v w',I (fun k=>k==i||l k) (match o.dst with|some d=>updV x d v|none=>x) w'→K ((sh x).put o.dst v) w')→if Region.wanted o (yielded ops (sh x).tmps)=true then o.wp P (sh x) w K Q else K ((sh x).put o.dst undef) w)
  (hend:∀l x w,(∀i,i<ops.size→l i=true)→I l x w→Q .normal (sh x) w)
  (hacyc:∀listed:Array Bool,listed.size=ops.size→Region.ready .any ops listed=[]→∀i,i<ops.size→listed.getD i false=true):
  ∀(fuel:Nat) (listed:Array Bool) (x:Nat→Value) (w:World),listed.size=ops.size→ops.size≤fuel+(listed.toList.countP (·=true))→I (fun k=>listed.getD k false) x w→wpAny P .any ops Q fuel listed (sh x) w
 | 0,listed,x,w,hs,hf,hI=>by
  have hall:∀i,i<ops.size→listed.getD i false=true:=by
   have hc:listed.toList.countP (·=true)=listed.toList.length:=by
    have:=List.countP_le_length (p:=fun b:Bool=>decide (b=true)) (l:=listed.toList);have h2:listed.toList.length=ops.size:=by simpa using hs
    simp only[Bool.decide_eq_true]at *;omega
   rw[List.countP_eq_length]at hc;intro i hi;have hlt:i<listed.size:=by omega
   have:=hc listed[i] (by simp);simp[hlt]
   simpa using this
  refine⟨?_,hend _ x w hall hI⟩
  cases hr:Region.ready .any ops listed with
  |nil=>rfl
  | cons i rs=>
   have hi:i∈Region.ready .any ops listed:=by rw[hr];simp
   rw[mem_ready]at hi;obtain⟨h0,o,ho,_⟩:=hi;have hlt:=(Array.getElem?_eq_some_iff.1 ho).1;have h1:=hall i hlt;have:listed.getD i true=listed.getD i false:=by simp[show i<listed.size by omega]
   rw[this,h1]at h0;cases h0
 | fuel+1,listed,x,w,hs,hf,hI=>by
  refine⟨fun hr=>hend _ x w (hacyc listed hs hr) hI,fun i hi=>?_⟩
  rw[mem_ready]at hi;obtain⟨h0,o,ho,hall⟩:=hi;have hlt:=(Array.getElem?_eq_some_iff.1 ho).1;have hltL:i<listed.size:=by omega
  have hli:listed.getD i false=false:=by
   have:listed.getD i true=listed.getD i false:=by simp[hltL]
   rw[←this];exact h0
  unfold wpOp;rw[ho];show if Region.wanted o (yielded ops (sh x).tmps)=true then _∨_ else _
  have hst:=hstep i o ho _ x w hli (fun e he hb=>hall e he hb) hI (wpAny P .any ops Q fuel (listed.setIfInBounds i true)) ?_
  · by_cases hw:Region.wanted o (yielded ops (sh x).tmps)=true
    · rw[if_pos hw]at hst ⊢;exact .inl hst
    rw[if_neg hw]at hst ⊢;exact hst
  intro v w' hI';have hs':(listed.setIfInBounds i true).size=ops.size:=by simpa using hs
  have hcnt:ops.size≤fuel+((listed.setIfInBounds i true).toList.countP (·=true)):=by
   have:(listed.setIfInBounds i true).toList.countP (·=true)=listed.toList.countP (·=true)+1:=by
    rw[Array.toList_setIfInBounds];have hlt':i<listed.toList.length:=by simpa using hltL
    rw[List.countP_set hlt']
    have he:listed.toList[i]=false:=by
     have:=hli;simp[hltL]at this
     simpa using this
    simp[he]
   omega
  have key:=wpAny_invG sh I hput hstep hend hacyc fuel (listed.setIfInBounds i true) (match o.dst with|some d=>updV x d v|none=>x) w' hs' hcnt (by
    have e:(fun k=>(listed.setIfInBounds i true).getD k false)=(fun k=>k==i||listed.getD k false):=by
      funext k
      by_cases hk:k=i
      · subst hk;simp[hltL]
      · simp[hk,Array.getElem?_setIfInBounds_ne (Ne.symm hk)]
    rw[e]
    exact hI')
  cases hd:o.dst with
  |none=>rw[hd]at key;exact key
  |some d=>rw[hd]at key;rw[hput i o d ho hd];exact key
end
def backward (ops:Array Oper):Bool:=(List.range ops.size).all fun i=>((ops[i]?).map (·.after.all fun e=>decide (e.on<i)||!Region.binds .any e)).getD true
theorem acyclic {ops:Array Oper} (h:backward ops=true) (listed:Array Bool) (hs:listed.size=ops.size) (hr:Region.ready .any ops listed=[]):∀i,i<ops.size→listed.getD i false=true:=by
 intro i
 induction i using Nat.strongRecOn with
 | ind i ih=>
  intro hi;refine Classical.byContradiction fun hn=>?_
  have ho:ops[i]?=some ops[i]:=by simp[hi]
  have:i∈Region.ready .any ops listed:=by
   rw[mem_ready];refine⟨?_,ops[i],ho,fun e he hb=>?_⟩
   · have hlt:i<listed.size:=by omega
     simp[hlt]at hn ⊢
     exact hn
   unfold backward at h;rw[List.all_eq_true]at h;have h1:=h i (by simp[hi]);rw[ho]at h1;simp only[Option.map_some,Option.getD_some,Array.all_eq_true_iff_forall_mem]at h1;have h2:=h1 e he;simp[hb]at h2
   exact ih e.on h2 (by omega)
  rw[hr]at this;cases this
def plainOps (ops:Array Oper):Bool:=backward ops&&ops.toList.all (fun o=>o.guard.isNone)
def dstOnce (ops:Array Oper):Bool:=(List.range ops.size).all fun i=>(List.range ops.size).all fun j=>i==j||((ops[i]?).bind (·.dst)).isNone||!decide ((ops[i]?).bind (·.dst)=(ops[j]?).bind (·.dst))
theorem dstOnce_spec {ops:Array Oper} (h:dstOnce ops=true) {i j:Nat} {o o':Oper} {d:Nat} (ho:ops[i]?=some o) (ho':ops[j]?=some o') (hd:o.dst=some d) (hd':o'.dst=some d):j=i:=by
 unfold dstOnce at h;rw[List.all_eq_true]at h;have h1:=h i (by have:=(Array.getElem?_eq_some_iff.1 ho).1;simpa using this);rw[List.all_eq_true]at h1;have h2:=h1 j (by have:=(Array.getElem?_eq_some_iff.1 ho').1;simpa using this);rw[ho,ho']at h2;simp[hd,hd']at h2
 exact h2.symm
def readsOk (ops:Array Oper) (reads:Nat→List Nat):Bool:=(List.range ops.size).all fun j=>(reads j).all fun d=>
 decide ((ops[j]?).bind (·.dst)=some d)||((ops[j]?).map (·.after.any fun e=>decide ((ops[e.on]?).bind (·.dst)=some d)&&Region.binds .any e)).getD false
def anc (ops:Array Oper):Nat→Nat→Nat→Bool
 |0,_,_=>false
 |f+1,i,j=>((ops[i]?).map (·.after.any fun e=>Region.binds .any e&&(e.on==j||anc ops f e.on j))).getD false
theorem anc_spec {ops:Array Oper} {l:Nat→Bool} (hl:∀(j:Nat) (o:Oper),ops[j]?=some o→l j=true→∀e∈o.after,Region.binds .any e=true→l e.on=true):∀(f i j:Nat),anc ops f i j=true→l i=true→l j=true
 |0,i,j,h,_=>by simp[anc]at h
 | f +1,i,j,h,hi=>by
  unfold anc at h
  cases ho:ops[i]? with
  |none=>rw[ho]at h;simp at h
  | some o=>
   rw[ho]at h;simp only[Option.map_some,Option.getD_some]at h;rw[Array.any_eq_true]at h;obtain⟨k,hk,h3⟩:=h;have he:o.after[k]∈o.after:=Array.getElem_mem hk;generalize o.after[k]=e at h3 he;rw[Bool.and_eq_true,Bool.or_eq_true]at h3;have h1:=hl i o ho hi e he h3.1
   rcases h3.2 with h4|h4
   · have:e.on=j:=by simpa using h4
     rw[←this];exact h1
   exact anc_spec hl f e.on j h4 h1
def backOps (ops:Array Oper):Bool:=backward ops
def getsOk (ops:Array Oper) (sh:(Nat→Value)→Act):Prop:=∀x,AllOps (fun _ o=>match o.guard with|none=>True|some (j,_)=>match (ops[j]?).bind (·.dst) with|some d=>(sh x).tmps[d]?=some (x d)|none=>True) 0 ops.toList
def gcond (ops:Array Oper) (o:Oper) (x:Nat→Value):Bool:=match o.guard with
 |none=>true
 | some (j,want)=>(match (ops[j]?).bind (·.dst) with
   | some d=>(match x d with
     | .bool b=>some b
     |_=>none)
   |none=>none)==some want
theorem gcond_none {ops:Array Oper} {o:Oper} {x:Nat→Value} (h:o.guard=none):gcond ops o x=true:=by unfold gcond;rw[h]
theorem gcond_some {ops:Array Oper} {o:Oper} {x:Nat→Value} {j d:Nat} {want b:Bool} (h:o.guard=some (j,want)) (hd:(ops[j]?).bind (·.dst)=some d) (hx:x d= .bool b):gcond ops o x=(b==want):=by
 unfold gcond;rw[h];simp only[hd,hx];cases b<;>cases want<;>rfl
theorem gcond_wanted {ops:Array Oper} {sh:(Nat→Value)→Act} (hget:getsOk ops sh) {i:Nat} {o:Oper} (ho:ops[i]?=some o) (x:Nat→Value):Region.wanted o (yielded ops (sh x).tmps)=gcond ops o x:=by
 have h:=AllOps.at (hget x) (i:=i) (o:=o) (by simpa using ho);unfold Region.wanted gcond
 cases hg:o.guard with
 |none=>rfl
 | some jw=>
  obtain⟨j,want⟩:=jw;rw[hg]at h;dsimp only at h ⊢;unfold yielded
  cases hd:(ops[j]?).bind (·.dst) with
  |none=>rfl
  | some d=>
   rw[hd]at h;dsimp only at h;simp only[Option.bind_some,h];cases x d<;>rfl
theorem gcond_on {ops:Array Oper} {o:Oper} {x:Nat→Value} {j d:Nat} {want:Bool} (h:o.guard=some (j,want)) (hd:(ops[j]?).bind (·.dst)=some d) (hx:x d= .bool want):gcond ops o x=true:=by
 rw[gcond_some h hd hx];simp
theorem gcond_off {ops:Array Oper} {o:Oper} {x:Nat→Value} {j d:Nat} {want b:Bool} (h:o.guard=some (j,want)) (hd:(ops[j]?).bind (·.dst)=some d) (hx:x d= .bool b) (hb:(b==want)=false):¬gcond ops o x=true:=by
 rw[gcond_some h hd hx,hb];simp
theorem ite_on {c:Prop} [Decidable c] {A B:Prop} (h:c) (a:A):if c then A else B:=by rw[if_pos h];exact a
theorem ite_off {c:Prop} [Decidable c] {A B:Prop} (h:¬c) (b:B):if c then A else B:=by rw[if_neg h];exact b
theorem allOps_of {p:Nat→Oper→Prop}:∀(l:List Oper) (n:Nat),(∀i o,l[i]?=some o→p (n+i) o)→AllOps p n l
 |[],_,_=>trivial
 | q ::l,n,h=>⟨h 0 q rfl,allOps_of l (n+1) fun i o ho=>by
     have:=h (i+1) o (by simpa using ho)
     rwa [show n+(i+1)=n+1+i by omega]at this⟩
theorem plain_none {ops:Array Oper} (hp:plainOps ops=true) {i:Nat} {o:Oper} (ho:ops.toList[i]?=some o):o.guard=none:=by
 unfold plainOps at hp;rw[Bool.and_eq_true]at hp;have:=List.all_eq_true.1 hp.2 o (List.mem_of_getElem? ho);simpa using this
theorem wpAny_GX {P:Program} {ops:Array Oper} {Q:Exit→Act→World→Prop} {w:World}
  (sh:(Nat→Value)→Act) (x0:Nat→Value) (G:(Nat→Bool)→(Nat→Value)→World→Prop) (R:Nat→World→World→Prop) (reads:Nat→List Nat) (T:Nat→(Nat→Value)→World→Prop)
  (hp:backOps ops=true)
  (hget:getsOk ops sh)
  (hput:AllOps (fun _ o=>∀d,o.dst=some d→∀x v,(sh x).put (some d) v=sh (updV x d v)) 0 ops.toList)
  (hdst:dstOnce ops=true) (hreads:readsOk ops reads=true)
  (h0:G (fun _=>false) x0 w)
  (hkeep:∀j i x l u u',l j=true→l i=false→(∀k,anc ops ops.size j k=true→l k=true)→T j x u→G l x u→R i u u'→T j x u')
  (hloc:AllOps (fun j _=>∀x x' u,(∀d∈reads j,x d=x' d)→T j x u→T j x' u) 0 ops.toList)
  (hstep:AllOps (fun i o=>∀l x u,G l x u→(∀j,anc ops ops.size j i=true→l j=false)→l i=false→(∀j,anc ops ops.size i j=true→l j=true)→(∀e∈o.after,Region.binds .any e=true→T e.on x u)→
    ∀K:Act→World→Prop,(∀v u',T i (match o.dst with|some d=>updV x d v|none=>x) u'→R i u u'→G (fun k=>k==i||l k) (match o.dst with|some d=>updV x d v|none=>x) u'→K ((sh x).put o.dst v) u')→if gcond ops o x=true then o.wp P (sh x) u K Q else K ((sh x).put o.dst undef) u) 0 ops.toList)
  (hend:∀l x u,(∀i,i<ops.size→l i=true)→G l x u→AllOps (fun i o=>T i x u) 0 ops.toList→Q .normal (sh x) u):
  wpAny P .any ops Q ops.size (Array.replicate ops.size false) (sh x0) w:=by
 unfold backOps at hp;refine wpAny_invG sh (fun l x u=>G l x u∧∀(j:Nat) (o:Oper),ops[j]?=some o→l j=true→T j x u∧∀e∈o.after,Region.binds .any e=true→l e.on=true) ?_ ?_ ?_ (acyclic hp) _ _ x0 _ (by simp) (by simp) ⟨?_,?_⟩
 · intro i o d ho hd x v;have:=AllOps.at hput (i:=i) (o:=o) (by simpa using ho);exact this d hd x v
 · intro i o ho l x u hli hdep hI K hK;have hs:=AllOps.at hstep (i:=i) (o:=o) (by simpa using ho);rw[Nat.zero_add]at hs;have hcl:∀(j:Nat) (o:Oper),ops[j]?=some o→l j=true→∀e∈o.after,Region.binds .any e=true→l e.on=true:=fun j o hj hl=>(hI.2 j o hj hl).2
   have hback:∀e∈o.after,Region.binds .any e=true→∃o',ops[e.on]?=some o':=by
    intro e he hb;have h1:=hp;unfold backward at h1;rw[List.all_eq_true]at h1;have hlt:=(Array.getElem?_eq_some_iff.1 ho).1;have h2:=h1 i (by simpa using hlt);rw[ho]at h2;simp only[Option.map_some,Option.getD_some,Array.all_eq_true_iff_forall_mem]at h2;have h3:=h2 e he;simp[hb]at h3
    exact⟨ops[e.on]'(by omega),by simp⟩
   rw[gcond_wanted hget ho];refine hs l x u hI.1 (fun j hj=>?_) hli (fun j hj=>?_) (fun e he hb=>?_) K fun v u' hT hB hG=>hK v u' ⟨hG,fun j o' hj hl=>?_⟩
   · cases h:l j with
     |false=>rfl
     |true=>rw[anc_spec hcl _ _ _ hj h]at hli;cases hli
   · -- what comes before has come
     have hcl2:∀(f j:Nat),anc ops f i j=true→l j=true:=by
      intro f j h
      cases f with
      |zero=>simp[anc]at h
      | succ f=>
       unfold anc at h;rw[ho]at h;simp only[Option.map_some,Option.getD_some]at h;rw[Array.any_eq_true]at h;obtain⟨k,hk,h3⟩:=h;have he:o.after[k]∈o.after:=Array.getElem_mem hk;generalize o.after[k]=e at h3 he;rw[Bool.and_eq_true,Bool.or_eq_true]at h3;have h1:=hdep e he h3.1
       rcases h3.2 with h4|h4
       · have:e.on=j:=by simpa using h4
         rw[←this];exact h1
       exact anc_spec hcl f e.on j h4 h1
     exact hcl2 _ j hj
   · obtain⟨o',ho'⟩:=hback e he hb;exact(hI.2 _ _ ho' (hdep e he hb)).1
   by_cases hji:j=i
   · subst hji;rw[ho]at hj;cases hj
     exact⟨hT,fun e he hb=>by simp[hdep e he hb]⟩
   have hl':l j=true:=by simpa [hji] using hl
   obtain⟨ht,hed⟩:=hI.2 j o' hj hl';refine⟨?_,fun e he hb=>by simp[hed e he hb]⟩
   have ht2:=hkeep j i _ _ _ _ hl' hli (fun k hk=>anc_spec hcl _ _ _ hk hl') ht hI.1 hB
   cases hdo:o.dst with
   |none=>exact ht2
   | some d2=>
    have hlo:=AllOps.at hloc (i:=j) (o:=o') (by simpa using hj);rw[Nat.zero_add]at hlo;refine hlo x _ u' (fun d hd=>?_) ht2
    have hne:d≠d2:=by
     rintro rfl;unfold readsOk at hreads;rw[List.all_eq_true]at hreads;have h1:=hreads j (by have:=(Array.getElem?_eq_some_iff.1 hj).1;simpa using this);rw[List.all_eq_true]at h1;have h2:=h1 d hd;rw[hj]at h2;simp only[Option.bind_some,Option.map_some,Option.getD_some,Bool.or_eq_true,decide_eq_true_eq]at h2
     rcases h2 with h2|h2
     · exact hji (dstOnce_spec hdst ho hj hdo h2)
     rw[Array.any_eq_true]at h2;obtain⟨k,hk,h3⟩:=h2;have he:o'.after[k]∈o'.after:=Array.getElem_mem hk;generalize o'.after[k]=e at h3 he;rw[Bool.and_eq_true]at h3;have h4:=hed e he h3.2;have h5:(ops[e.on]?).bind (·.dst)=some d:=by simpa using h3.1
     cases hoe:ops[e.on]? with
     |none=>rw[hoe]at h5;cases h5
     | some oe=>
      rw[hoe]at h5;have h6:e.on=i:=dstOnce_spec hdst ho hoe hdo h5;rw[h6,hli]at h4;cases h4
    simp only[updV,if_neg hne]
 · intro l x u hall hI;refine hend l x u hall hI.1 ?_
   have:∀(l2:List Oper) (n:Nat),(∀(i:Nat) (o:Oper),l2[i]?=some o→ops[n+i]?=some o)→AllOps (fun i o=>T i x u) n l2:=by
    intro l2
    induction l2 with
    |nil=>intro n _;exact trivial
    | cons q l2 ih=>
     intro n h;have hq:=h 0 q (by simp);rw[Nat.add_zero]at hq;refine⟨(hI.2 n q hq (hall n (Array.getElem?_eq_some_iff.1 hq).1)).1,ih (n+1) fun i o ho=>?_⟩
     have:=h (i+1) o (by simpa using ho);rw[show n+(i+1)=n+1+i by omega]at this;exact this
   exact this ops.toList 0 (fun i o ho=>by rw[Nat.zero_add];simpa using ho)
 · have e:(fun k=>(Array.replicate ops.size false).getD k false)=fun _=>false:=by
    funext k
    by_cases hj:k<ops.size
    · simp[hj]
    simp[hj]
   rw[e];exact h0
 intro j o ho hl
 exfalso
 have h2:(Array.replicate ops.size false).getD j false=false:=by
  by_cases hj:j<ops.size
  · simp[hj]
  simp[hj]
 have hl2:(Array.replicate ops.size false).getD j false=true:=hl;rw[h2]at hl2;cases hl2
theorem wpAny_X {P:Program} {ops:Array Oper} {Q:Exit→Act→World→Prop} {w:World}
  (sh:(Nat→Value)→Act) (x0:Nat→Value) (G:(Nat→Bool)→(Nat→Value)→World→Prop) (R:Nat→World→World→Prop) (reads:Nat→List Nat) (T:Nat→(Nat→Value)→World→Prop)
  (hp:plainOps ops=true)
  (hput:AllOps (fun _ o=>∀d,o.dst=some d→∀x v,(sh x).put (some d) v=sh (updV x d v)) 0 ops.toList)
  (hdst:dstOnce ops=true) (hreads:readsOk ops reads=true)
  (h0:G (fun _=>false) x0 w)
  (hkeep:∀j i x l u u',l j=true→l i=false→(∀k,anc ops ops.size j k=true→l k=true)→T j x u→G l x u→R i u u'→T j x u')
  (hloc:AllOps (fun j _=>∀x x' u,(∀d∈reads j,x d=x' d)→T j x u→T j x' u) 0 ops.toList)
  (hstep:AllOps (fun i o=>∀l x u,G l x u→(∀j,anc ops ops.size j i=true→l j=false)→l i=false→(∀j,anc ops ops.size i j=true→l j=true)→(∀e∈o.after,Region.binds .any e=true→T e.on x u)→
    ∀K:Act→World→Prop,(∀v u',T i (match o.dst with|some d=>updV x d v|none=>x) u'→R i u u'→G (fun k=>k==i||l k) (match o.dst with|some d=>updV x d v|none=>x) u'→K ((sh x).put o.dst v) u')→o.wp P (sh x) u K Q) 0 ops.toList)
  (hend:∀l x u,(∀i,i<ops.size→l i=true)→G l x u→AllOps (fun i o=>T i x u) 0 ops.toList→Q .normal (sh x) u):
  wpAny P .any ops Q ops.size (Array.replicate ops.size false) (sh x0) w:=by
 have hb:backOps ops=true:=by
  unfold plainOps at hp;rw[Bool.and_eq_true]at hp;exact hp.1
 refine wpAny_GX sh x0 G R reads T hb (fun x=>allOps_of _ _ fun i o ho=>by rw[plain_none hp ho];trivial) hput hdst hreads h0 hkeep hloc (allOps_of _ _ fun i o ho l x u hG hno hli hpre hd K hK=>?_) hend
 rw[if_pos (gcond_none (plain_none hp ho))];exact AllOps.at hstep ho l x u hG hno hli hpre hd K hK
theorem wp_region_stepsX {P:Program} {ops:Array Oper} {Q:Exit→Act→World→Prop} {id:Nat} {a:Act} {w:World} (hm:P.follows .mixedOrders=true)
  (sh:(Nat→Value)→Act) (x0:Nat→Value) (ha:sh x0=a) (G:(Nat→Bool)→(Nat→Value)→World→Prop) (R:Nat→World→World→Prop) (reads:Nat→List Nat) (T:Nat→(Nat→Value)→World→Prop)
  (hp:plainOps ops=true)
  (hput:AllOps (fun _ o=>∀d,o.dst=some d→∀x v,(sh x).put (some d) v=sh (updV x d v)) 0 ops.toList)
  (hdst:dstOnce ops=true) (hreads:readsOk ops reads=true)
  (h0:G (fun _=>false) x0 w.drew)
  (hkeep:∀j i x l u u',l j=true→l i=false→(∀k,anc ops ops.size j k=true→l k=true)→T j x u→G l x u→R i u u'→T j x u')
  (hloc:AllOps (fun j _=>∀x x' u,(∀d∈reads j,x d=x' d)→T j x u→T j x' u) 0 ops.toList)
  (hstep:AllOps (fun i o=>∀l x u,G l x u→(∀j,anc ops ops.size j i=true→l j=false)→l i=false→(∀j,anc ops ops.size i j=true→l j=true)→(∀e∈o.after,Region.binds .any e=true→T e.on x u)→
    ∀K:Act→World→Prop,(∀v u',T i (match o.dst with|some d=>updV x d v|none=>x) u'→R i u u'→G (fun k=>k==i||l k) (match o.dst with|some d=>updV x d v|none=>x) u'→K ((sh x).put o.dst v) u')→o.wp P (sh x) u K Q) 0 ops.toList)
  (hend:∀l x u,(∀i,i<ops.size→l i=true)→G l x u→AllOps (fun i o=>T i x u) 0 ops.toList→Q .normal (sh x) u):
  (Code.region id ops true).wp P Q a w:=by
 subst ha;exact wp_region_any hm (wpAny_X sh x0 G R reads T hp hput hdst hreads h0 hkeep hloc hstep hend)
theorem wp_region_stepsG {P:Program} {ops:Array Oper} {Q:Exit→Act→World→Prop} {id:Nat} {a:Act} {w:World} (hm:P.follows .mixedOrders=true)
  (sh:(Nat→Value)→Act) (x0:Nat→Value) (ha:sh x0=a) (G:(Nat→Bool)→World→Prop) (R:Nat→World→World→Prop) (reads:Nat→List Nat) (T:Nat→(Nat→Value)→World→Prop)
  (hp:backOps ops=true)
  (hget:getsOk ops sh)
  (hput:AllOps (fun _ o=>∀d,o.dst=some d→∀x v,(sh x).put (some d) v=sh (updV x d v)) 0 ops.toList)
  (hdst:dstOnce ops=true) (hreads:readsOk ops reads=true)
  (h0:G (fun _=>false) w.drew)
  (hkeep:∀j i x l u u',l j=true→l i=false→(∀k,anc ops ops.size j k=true→l k=true)→T j x u→G l u→R i u u'→T j x u')
  (hloc:AllOps (fun j _=>∀x x' u,(∀d∈reads j,x d=x' d)→T j x u→T j x' u) 0 ops.toList)
  (hstep:AllOps (fun i o=>∀l x u,G l u→(∀j,anc ops ops.size j i=true→l j=false)→l i=false→(∀j,anc ops ops.size i j=true→l j=true)→(∀e∈o.after,Region.binds .any e=true→T e.on x u)→
    ∀K:Act→World→Prop,(∀v u',T i (match o.dst with|some d=>updV x d v|none=>x) u'→R i u u'→G (fun k=>k==i||l k) u'→K ((sh x).put o.dst v) u')→if gcond ops o x=true then o.wp P (sh x) u K Q else K ((sh x).put o.dst undef) u) 0 ops.toList)
  (hend:∀l x u,(∀i,i<ops.size→l i=true)→G l u→AllOps (fun i o=>T i x u) 0 ops.toList→Q .normal (sh x) u):
  (Code.region id ops true).wp P Q a w:=by
 subst ha;exact wp_region_any hm (wpAny_GX sh x0 (fun l _ u=>G l u) R reads T hp hget hput hdst hreads h0 hkeep hloc hstep hend)
theorem wp_region_steps {P:Program} {ops:Array Oper} {Q:Exit→Act→World→Prop} {id:Nat} {a:Act} {w:World} (hm:P.follows .mixedOrders=true)
  (sh:(Nat→Value)→Act) (x0:Nat→Value) (ha:sh x0=a) (G:(Nat→Bool)→World→Prop) (R:Nat→World→World→Prop) (reads:Nat→List Nat) (T:Nat→(Nat→Value)→World→Prop)
  (hp:plainOps ops=true)
  (hput:AllOps (fun _ o=>∀d,o.dst=some d→∀x v,(sh x).put (some d) v=sh (updV x d v)) 0 ops.toList)
  (hdst:dstOnce ops=true) (hreads:readsOk ops reads=true)
  (h0:G (fun _=>false) w.drew)
  (hkeep:∀j i x l u u',l j=true→l i=false→(∀k,anc ops ops.size j k=true→l k=true)→T j x u→G l u→R i u u'→T j x u')
  (hloc:AllOps (fun j _=>∀x x' u,(∀d∈reads j,x d=x' d)→T j x u→T j x' u) 0 ops.toList)
  (hstep:AllOps (fun i o=>∀l x u,G l u→(∀j,anc ops ops.size j i=true→l j=false)→l i=false→(∀j,anc ops ops.size i j=true→l j=true)→(∀e∈o.after,Region.binds .any e=true→T e.on x u)→
    ∀K:Act→World→Prop,(∀v u',T i (match o.dst with|some d=>updV x d v|none=>x) u'→R i u u'→G (fun k=>k==i||l k) u'→K ((sh x).put o.dst v) u')→o.wp P (sh x) u K Q) 0 ops.toList)
  (hend:∀l x u,(∀i,i<ops.size→l i=true)→G l u→AllOps (fun i o=>T i x u) 0 ops.toList→Q .normal (sh x) u):
  (Code.region id ops true).wp P Q a w:=
 wp_region_stepsX hm sh x0 ha (fun l _ u=>G l u) R reads T hp hput hdst hreads h0 hkeep hloc hstep hend
theorem wp_region_mono {P:Program} {ops:Array Oper} {Q:Exit→Act→World→Prop} {id:Nat} {a:Act} {w:World} (hm:P.follows .mixedOrders=true)
  (sh:(Nat→Value)→Act) (x0:Nat→Value) (ha:sh x0=a) (G:World→Prop) (reads:Nat→List Nat) (T:Nat→(Nat→Value)→World→Prop)
  (hp:plainOps ops=true)
  (hput:AllOps (fun _ o=>∀d,o.dst=some d→∀x v,(sh x).put (some d) v=sh (updV x d v)) 0 ops.toList)
  (hdst:dstOnce ops=true) (hreads:readsOk ops reads=true)
  (h0:G w.drew)
  (hkeep:∀j x u u',T j x u→G u→Below u.heap.size u u'→T j x u')
  (hloc:AllOps (fun j _=>∀x x' u,(∀d∈reads j,x d=x' d)→T j x u→T j x' u) 0 ops.toList)
  (hstep:AllOps (fun i o=>∀x u,G u→(∀e∈o.after,Region.binds .any e=true→T e.on x u)→
    ∀K:Act→World→Prop,(∀v u',T i (match o.dst with|some d=>updV x d v|none=>x) u'→Below u.heap.size u u'→G u'→K ((sh x).put o.dst v) u')→o.wp P (sh x) u K Q) 0 ops.toList)
  (hend:∀x u,G u→AllOps (fun i o=>T i x u) 0 ops.toList→Q .normal (sh x) u):
  (Code.region id ops true).wp P Q a w:=by
 exact wp_region_steps hm sh x0 ha (fun _ u=>G u) (fun _ u u'=>Below u.heap.size u u') reads T hp hput hdst hreads h0 (fun j _ x _ u u' _ _ _ ht hG hR=>hkeep j x u u' ht hG hR) hloc (allOps_of _ _ fun i o ho l x u hG _ _ _ hd K hK=>AllOps.at hstep ho x u hG hd K hK) (fun _ x u _ hG hT=>hend x u hG hT)
end
section
open Go.RowKit
theorem oM {p:Prop} (h:p:=by omega):p:=h
theorem sI {p:Prop} (h:p:=by simp):p:=h
theorem kR {p:Prop} (h:p:=by kernel_rfl):p:=h
theorem dE {p:Prop} (h:p:=by decide):p:=h
theorem sH {p:Prop} (h':p:=by simpa using h):p:=h'
theorem sG {p:Prop} (h':p:=by simpa [updV] using hG):p:=h'
theorem nX {p:Prop} (h':p:=by(go_simp<;>first|exact IntWalk.i64_in _ (by omega)|(clear hwi;go_num))):p:=h'
theorem bR {B:Nat} {w:World}:Below B w w:=Below.refl _ _
end
section
structure Num where
 a:Int
 b:Int
 c:Int
 d:Int
 k:Int
 deriving DecidableEq
def Num.nil:Num:=⟨0,0,0,0,0⟩
def isZ (a b c d:Int):Bool:=decide (a=0)&&decide (b=0)&&decide (c=0)&&decide (d=0)
def evB (a b c d:Int):Bool:=decide (a%2=c%2)&&decide (b%2=d%2)
def Num.half (x:Num):Num:=⟨x.b / 2-x.d / 2,x.a / 2+x.c / 2+x.a%2,x.b / 2+x.d / 2+x.b%2,x.c / 2-x.a / 2,x.k-1⟩
def Num.down:Nat→Num→Num
 |0,x=>x
 |n+1,x=>if evB x.a x.b x.c x.d then Num.down n x.half else x
def Num.form (x:Num):Num:=if isZ x.a x.b x.c x.d then Num.nil else Num.down x.k.toNat x
def byndB (a b c d l:Int):Bool:=decide (l<a)||decide (a< -l)||decide (l<b)||decide (b< -l)||decide (l<c)||decide (c< -l)||decide (l<d)||decide (d< -l)
def Num.check (x:Num):Int:=if x.k<0∨60<x.k then 3 else if byndB x.a x.b x.c x.d 1073741824 then 8 else 0
theorem Num.down_not {n:Nat} {x:Num} (h:evB x.a x.b x.c x.d=false):Num.down n x=x:=by cases n<;>simp[Num.down,h]
theorem Num.down_step {n:Nat} {x:Num} (h:evB x.a x.b x.c x.d=true):Num.down (n+1) x=Num.down n x.half:=by simp[Num.down,h]
def Num.least (x:Num):Num × Int:=
 if isZ x.a x.b x.c x.d then(Num.nil,0)
 else if 60<(Num.down x.k.toNat x).k∨byndB (Num.down x.k.toNat x).a (Num.down x.k.toNat x).b (Num.down x.k.toNat x).c (Num.down x.k.toNat x).d 1073741824=true then(Num.nil,8)
 else(Num.down x.k.toNat x,0)
end
section
open Go.RowKit
variable {α:Type} {enc:α→List Value} {t:TypeId} {B:Nat} {b:Nat} {i:Nat} {n:Nat} {A:Option Addr} {cs:List Value} {w:World}
theorem Rd.at5 {xs:List α} (h:Rd 5 enc w A n xs) {x:α} {u0 u1 u2 u3 u4:Value} (hx:xs[i]?=some x) (hu:enc x=[u0,u1,u2,u3,u4]):
  ∃b o,A=some ⟨b,o,none⟩∧b<w.heap.size∧w.cell? ⟨b,o+i*5,none⟩=some u0∧w.cell? ⟨b,o+i*5+1,none⟩=some u1∧w.cell? ⟨b,o+i*5+2,none⟩=some u2∧w.cell? ⟨b,o+i*5+3,none⟩=some u3∧w.cell? ⟨b,o+i*5+4,none⟩=some u4:=by
 have hi:i<xs.length:=(List.getElem?_eq_some_iff.1 hx).1;obtain⟨b,o,e,hlt,hc⟩:=h.2.2 (by rw[←h.1];omega);exact⟨b,o,e,hlt,by have:=hc i x hx 0 u0 (by simp[hu]);simpa using this,hc i x hx 1 u1 (by simp[hu]),hc i x hx 2 u2 (by simp[hu]),hc i x hx 3 u3 (by simp[hu]),hc i x hx 4 u4 (by simp[hu])⟩
def numC (x:Num):List Value:=[.int .i64 x.a, .int .i64 x.b, .int .i64 x.c, .int .i64 x.d, .int .i64 x.k]
theorem Blk.sixf {u0 u1 u2 u3 u4 u5:Value} (h:Blk w b [u0,u1,u2,u3,u4,u5] t):
  w.cell? ⟨b,0,none⟩=some u0∧w.cell? ⟨b,1,none⟩=some u1∧w.cell? ⟨b,2,none⟩=some u2∧w.cell? ⟨b,3,none⟩=some u3∧w.cell? ⟨b,4,none⟩=some u4∧w.cell? ⟨b,5,none⟩=some u5∧(∀o,w.frozen? ⟨b,o,none⟩=false):=
 ⟨h.cell 0 _ rfl,h.cell 1 _ rfl,h.cell 2 _ rfl,h.cell 3 _ rfl,h.cell 4 _ rfl,h.cell 5 _ rfl,fun o=>h.free o⟩
theorem Blk.set6_other {b':Nat} (h:Blk w b' cs t) (hne:b≠b') (v0 v1 v2 v3 v4 v5:Value):
  Blk ((((((w.setCell ⟨b,0,none⟩ v0).setCell ⟨b,1,none⟩ v1).setCell ⟨b,2,none⟩ v2).setCell ⟨b,3,none⟩ v3).setCell ⟨b,4,none⟩ v4).setCell ⟨b,5,none⟩ v5) b' cs t:=
 (((((h.set_other _ v0 hne).set_other _ v1 hne).set_other _ v2 hne).set_other _ v3 hne).set_other _ v4 hne).set_other _ v5 hne
theorem below_set6 {w0:World} (h:Below B w0 w) (hb:B≤b) (v0 v1 v2 v3 v4 v5:Value):
  Below B w0 ((((((w.setCell ⟨b,0,none⟩ v0).setCell ⟨b,1,none⟩ v1).setCell ⟨b,2,none⟩ v2).setCell ⟨b,3,none⟩ v3).setCell ⟨b,4,none⟩ v4).setCell ⟨b,5,none⟩ v5):=
 (((((h.setCell (p:=⟨b,0,none⟩) hb v0).setCell (p:=⟨b,1,none⟩) hb v1).setCell (p:=⟨b,2,none⟩) hb v2).setCell (p:=⟨b,3,none⟩) hb v3).setCell (p:=⟨b,4,none⟩) hb v4).setCell (p:=⟨b,5,none⟩) hb v5
end
section
structure Spider where
 kind:Int
 phase:Int
 deriving DecidableEq
structure Line where
 f:Int
 t:Int
 hat:Bool
 deriving DecidableEq
structure Diag where
 sp:List Spider
 ln:List Line
 ins:List Int
 outs:List Int
 sc:Num
 deriving DecidableEq
def spC (s:Spider):List Value:=[.int .i64 s.kind, .int .i64 s.phase]
def lnC (l:Line):List Value:=[.int .i64 l.f, .int .i64 l.t, .bool l.hat]
def inC (n:Int):List Value:=[.int .i64 n]
def badSp (k p:Int):Bool:=decide (k<0)||decide (2<k)||decide (p<0)||decide (7<p)||(decide (k=0)&&!decide (p=0))
def downI (n above:Int):Int:=if above<n then n-1 else n
def otherI (f t s:Int):Int:=if f=s then t else f
def arityI (k:Int):Int:=if k=12 then 3 else if 9≤k∧k≤11 then 2 else if 1≤k∧k≤14 then 1 else 0
end
section
open Go.RowKit
variable {α:Type} {enc:α→List Value} {i:Nat} {k:Nat} {n:Nat} {c:Nat} {e:TypeId} {A:Option Addr} {w:World}
theorem flat_len (he:∀x,(enc x).length=k):∀xs:List α,(xs.flatMap enc).length=xs.length*k
 |[]=>by simp
 | x::l=>by
  rw[List.flatMap_cons,List.length_append,he,flat_len he l,List.length_cons,Nat.succ_mul,Nat.add_comm]
theorem flat_at (hk:0<k) (he:∀x,(enc x).length=k):∀(xs:List α) (j:Nat),(xs.flatMap enc)[j]?=(xs[j / k]?).bind fun x=>(enc x)[j%k]?
 |[],j=>by simp
 | x::l,j=>by
  rw[List.flatMap_cons,List.getElem?_append,he]
  by_cases h:j<k
  · rw[if_pos h,Nat.div_eq_of_lt h,Nat.mod_eq_of_lt h];rfl
  rw[if_neg h,flat_at hk he l (j-k)];have e1:j / k=(j-k) / k+1:=Nat.div_eq_sub_div hk oM;have e2:j%k=(j-k)%k:=Nat.mod_eq_sub_mod oM;rw[e1,e2,List.getElem?_cons_succ]
theorem flat_at2 (he:∀x,(enc x).length=k) {xs:List α} {j:Nat} {x:α} {u:Value} (hx:xs[i]?=some x) (hu:(enc x)[j]?=some u):
  (xs.flatMap enc)[i*k+j]?=some u:=by
 have hj:j<k:=by rw[←he x];exact(List.getElem?_eq_some_iff.1 hu).1
 have hk:0<k:=oM
 have e1:(i*k+j) / k=i:=by rw[Nat.mul_comm,Nat.mul_add_div hk,Nat.div_eq_of_lt hj];omega
 have e2:(i*k+j)%k=j:=by rw[Nat.mul_comm,Nat.mul_add_mod,Nat.mod_eq_of_lt hj]
 rw[flat_at hk he,e1,e2,hx];exact hu
theorem Rd.flat {xs:List α} (hk:0<k) (he:∀x,(enc x).length=k) (h:Rd k enc w A n xs) (hn:0<n):
  ∃b o,A=some ⟨b,o,none⟩∧b<w.heap.size∧∀j u,(xs.flatMap enc)[j]?=some u→w.cell? ⟨b,o+j,none⟩=some u:=by
 obtain⟨b,o,e,hlt,hc⟩:=h.2.2 hn;refine⟨b,o,e,hlt,fun j u hj=>?_⟩
 rw[flat_at hk he]at hj
 cases hx:xs[j / k]? with
 |none=>rw[hx]at hj;cases hj
 | some x=>
  rw[hx]at hj;have:=hc _ x hx (j%k) u hj
  rwa [Nat.add_assoc,Nat.mul_comm,Nat.div_add_mod]at this
theorem Rd.flatA {a:Addr} {xs:List α} (hk:0<k) (he:∀x,(enc x).length=k) (h:Rd k enc w (some a) n xs):
  ∀j u,(xs.flatMap enc)[j]?=some u→w.cell? (a.add j)=some u:=by
 intro j u hj
 rcases Nat.eq_zero_or_pos n with h0|h0
 · have hl:(xs.flatMap enc).length=n*k:=by rw[flat_len he,h.1]
   rw[h0,Nat.zero_mul]at hl;rw[List.eq_nil_of_length_eq_zero hl]at hj;cases hj
 obtain⟨b,o,e,hlt,hcc⟩:=Rd.flat hk he h h0;cases e
 rw[Addr.add_lit];exact hcc j u hj
theorem Rd.owned {base:Nat} {xs:List α} (hk:0<k) (he:∀x,(enc x).length=k) (h:w.ownsRow base e k (.slice A n c) n (xs.flatMap enc)):Rd k enc w A n xs:=by
 obtain⟨hl,hh⟩:=h
 have hlen:xs.length=n:=by
  rw[flat_len he]at hl;exact Nat.eq_of_mul_eq_mul_right hk hl
 rcases hh with⟨hv,hn⟩|⟨g,cap,cur,hv,hb,hg,hnc,hcm,hs,ht⟩
 · cases hv
   exact⟨hlen,oM,fun h=>absurd h oM⟩
 cases hv
 have hglt:g<w.heap.size:=by
  rcases Nat.lt_or_ge g w.heap.size with h|h
  · exact h
  rw[Array.getElem?_eq_none oM]at hg;cases hg
 refine⟨hlen,Nat.le_trans hnc (Nat.le_trans hcm dE),fun _=>⟨g,0,rfl,hglt,fun i x hx j u hu=>?_⟩⟩
 have h1:=flat_at2 he hx hu
 have h2:i*k+j<n*k:=by
  have:=(List.getElem?_eq_some_iff.1 h1).1;rw[hl]at this;exact this
 have h3:(World.ownsRow w base e k (.slice (some ⟨g,0,none⟩) n c) n (xs.flatMap enc)):=⟨hl, .inr ⟨g,c,cur,rfl,hb,hg,hnc,hcm,hs,ht⟩⟩;rw[Nat.zero_add,h3.cellAt _ h2];exact h1
theorem spC_len (x:Spider):(spC x).length=2:=rfl
theorem lnC_len (x:Line):(lnC x).length=3:=rfl
theorem inC_len (x:Int):(inC x).length=1:=rfl
theorem spC_one (xs:List Spider):∀u∈xs.flatMap spC,u.oneCell'=true:=by
 intro u hu;obtain⟨x,_,h⟩:=List.mem_flatMap.1 hu;simp only[spC,List.mem_cons,List.not_mem_nil,or_false]at h
 rcases h with h|h<;>(subst h;rfl)
theorem lnC_one (xs:List Line):∀u∈xs.flatMap lnC,u.oneCell'=true:=by
 intro u hu;obtain⟨x,_,h⟩:=List.mem_flatMap.1 hu;simp only[lnC,List.mem_cons,List.not_mem_nil,or_false]at h
 rcases h with h|h|h<;>(subst h;rfl)
theorem inC_one (xs:List Int):∀u∈xs.flatMap inC,u.oneCell'=true:=by
 intro u hu;obtain⟨x,_,h⟩:=List.mem_flatMap.1 hu;simp only[inC,List.mem_cons,List.not_mem_nil,or_false]at h;subst h;rfl
end
section
open Go.RowKit
structure DV where
 A1:Option Addr
 n1:Nat
 c1:Nat
 A2:Option Addr
 n2:Nat
 c2:Nat
 A3:Option Addr
 n3:Nat
 c3:Nat
 A4:Option Addr
 n4:Nat
 c4:Nat
def dcs (v:DV) (s:Num):List Value:=[.slice v.A1 v.n1 v.c1, .slice v.A2 v.n2 v.c2, .slice v.A3 v.n3 v.c3, .slice v.A4 v.n4 v.c4, .int .i64 s.a, .int .i64 s.b, .int .i64 s.c, .int .i64 s.d, .int .i64 s.k]
structure DRd (w:World) (v:DV) (d:Diag):Prop where
 sp:Rd 2 spC w v.A1 v.n1 d.sp
 ln:Rd 3 lnC w v.A2 v.n2 d.ln
 ins:Rd 1 inC w v.A3 v.n3 d.ins
 outs:Rd 1 inC w v.A4 v.n4 d.outs
 c1:v.A1=none→v.c1=0
 c2:v.A2=none→v.c2=0
 c3:v.A3=none→v.c3=0
 c4:v.A4=none→v.c4=0
theorem DRd.below {w w':World} {v:DV} {d:Diag} (h:DRd w v d) (hb:Below w.heap.size w w'):DRd w' v d:=
 ⟨h.sp.below hb,h.ln.below hb,h.ins.below hb,h.outs.below hb,h.c1,h.c2,h.c3,h.c4⟩
theorem Blk.nine {w:World} {b:Nat} {u0 u1 u2 u3 u4 u5 u6 u7 u8:Value} {t:TypeId} (h:Blk w b [u0,u1,u2,u3,u4,u5,u6,u7,u8] t):
  w.cell? ⟨b,0,none⟩=some u0∧w.cell? ⟨b,1,none⟩=some u1∧w.cell? ⟨b,2,none⟩=some u2∧w.cell? ⟨b,3,none⟩=some u3∧w.cell? ⟨b,4,none⟩=some u4∧w.cell? ⟨b,5,none⟩=some u5∧w.cell? ⟨b,6,none⟩=some u6∧w.cell? ⟨b,7,none⟩=some u7∧w.cell? ⟨b,8,none⟩=some u8∧(∀o,w.frozen? ⟨b,o,none⟩=false):=
 ⟨h.cell 0 _ rfl,h.cell 1 _ rfl,h.cell 2 _ rfl,h.cell 3 _ rfl,h.cell 4 _ rfl,h.cell 5 _ rfl,h.cell 6 _ rfl,h.cell 7 _ rfl,h.cell 8 _ rfl,fun o=>h.free o⟩
def outI (n:Nat) (x:Int):Bool:=decide (x<0)||decide ((n:Int)≤x)
def Diag.kindAt (d:Diag) (x:Int):Int:=match d.sp[x.toNat]? with
 |some s=>s.kind
 |none=>0
def Diag.badLn (d:Diag) (l:Line):Bool:=outI d.sp.length l.f||outI d.sp.length l.t
def Diag.badEnd (d:Diag) (x:Int):Bool:=outI d.sp.length x||!decide (d.kindAt x=0)
def Line.at (l:Line) (n:Int):Bool:=decide (l.f=n)||decide (l.t=n)
def Line.ring (l:Line) (n:Int):Bool:=decide (l.f=n)&&decide (l.t=n)
def Diag.ends (d:Diag):List Int:=d.ins++d.outs
def Diag.clash (d:Diag) (n:Nat):Bool:=d.ln.any (·.ring n)||!decide ((n:Int)∈d.ends)||!decide (d.ln.countP (·.at n)=1)
def Diag.clashes (d:Diag):Nat→List Spider→Bool
 |_,[]=>false
 |n,s::l=>(decide (s.kind=0)&&d.clash n)||d.clashes (n+1) l
def Diag.check (d:Diag):Int:=
 if 40<d.sp.length∨100<d.ln.length then 2
 else if d.sp.any (fun s=>badSp s.kind s.phase) then 3
 else if d.ln.any d.badLn||d.ends.any d.badEnd then 1
 else if¬d.ends.Nodup then 5
 else if d.clashes 0 d.sp then 7
 else d.sc.check
end
section
instance:Coe Int Value:=⟨fun n=> .int .i64 n⟩
instance:Coe Nat Value:=⟨fun n=> .int .i64 (n:Int)⟩
structure Word where
instance:CoeFun Word (fun _=>Nat→Nat→Value):=⟨fun _ b o=> .pointer (some ⟨b,o,none⟩)⟩
structure Word9 where
instance:CoeFun Word9 (fun _=>DV→Num→List Value):=⟨fun _ v s=>[.slice v.A1 v.n1 v.c1, .slice v.A2 v.n2 v.c2, .slice v.A3 v.n3 v.c3, .slice v.A4 v.n4 v.c4, .int .i64 s.a, .int .i64 s.b, .int .i64 s.c, .int .i64 s.d, .int .i64 s.k]⟩
structure WordA where
instance:CoeFun WordA (fun _=>DV→Num→Array Value):=⟨fun _ v s=>#[.slice v.A1 v.n1 v.c1, .slice v.A2 v.n2 v.c2, .slice v.A3 v.n3 v.c3, .slice v.A4 v.n4 v.c4, .int .i64 s.a, .int .i64 s.b, .int .i64 s.c, .int .i64 s.d, .int .i64 s.k]⟩
def pt:Word:=⟨⟩
def l9:Word9:=⟨⟩
def a9:WordA:=⟨⟩
abbrev z9:List Value:=[.slice none 0 0, .slice none 0 0, .slice none 0 0, .slice none 0 0, .int .i64 0, .int .i64 0, .int .i64 0, .int .i64 0, .int .i64 0]
abbrev zA:Array Value:=#[.slice none 0 0, .slice none 0 0, .slice none 0 0, .slice none 0 0, .int .i64 0, .int .i64 0, .int .i64 0, .int .i64 0, .int .i64 0]
end
section
theorem binds_d (n:Nat):(Region.binds .any ⟨n, .data⟩=true)=True:=by simp[Region.binds]
theorem binds_c (n:Nat):(Region.binds .any ⟨n, .chain⟩=true)=True:=by simp[Region.binds]
theorem binds_g (n:Nat):(Region.binds .any ⟨n, .guard⟩=true)=True:=by simp[Region.binds]
theorem binds_p (n:Nat):(Region.binds .any ⟨n, .phase⟩=true)=True:=by simp[Region.binds]
theorem binds_t (n:Nat) (r:Departure):(Region.binds .any ⟨n, .textOnly r⟩=true)=False:=by simp[Region.binds]
theorem binds_o (n:Nat) (r:Departure):(Region.binds .any ⟨n, .gcOnly r⟩=true)=False:=by simp[Region.binds]
theorem eB:(∀(e:Edge) (a:Array Edge),(e∈a)=(e∈a.toList))∧(∀(a b:Edge) (l:List Edge),(a∈b::l)=(a=b∨a∈l))∧(∀a:Edge,(a∈([]:List Edge))=False)∧(∀p:Prop,(p∨False)=p)∧(∀(p q:Edge→Prop) (a:Edge),(∀e,e=a∨q e→p e)=(p a∧∀e,q e→p e))∧(∀(p:Edge→Prop) (a:Edge),(∀e,e=a→p e)=p a)∧(∀n,(Region.binds .any ⟨n, .data⟩=true)=True)∧(∀n,(Region.binds .any ⟨n, .chain⟩=true)=True)∧(∀n,(Region.binds .any ⟨n, .guard⟩=true)=True)∧(∀n,(Region.binds .any ⟨n, .phase⟩=true)=True)∧(∀n r,(Region.binds .any ⟨n, .textOnly r⟩=true)=False)∧(∀n r,(Region.binds .any ⟨n, .gcOnly r⟩=true)=False)∧(∀p:Prop,(False→p)=True)∧(∀p:Prop,(p→True)=True)∧(∀p:Prop,(True→p)=p)∧(∀p:Prop,(p∧True)=p)∧(∀p:Prop,(True∧p)=p):=by
 refine⟨fun e a=>by rw[Array.mem_def],fun a b l=>by simp,fun a=>by simp,fun p=>by simp,fun p q a=>by simp,fun p a=>by simp,binds_d,binds_c,binds_g,binds_p,binds_t,binds_o,fun p=>by simp,fun p=>by simp,fun p=>by simp,fun p=>by simp,fun p=>by simp⟩
end
section

end
section

end
section
open Go.RowKit
def fl (x:Nat→Value):Nat→Nat→Nat→List Value→List Value
 |_,_,_,[]=>[]
 |i,s+1,t,v::l=>v::fl x (i+1) s t l
 |i,0,t+1,_::l=>x i::fl x (i+1) 0 t l
 |_,0,0,v::l=>v::l
theorem fl_get (x:Nat→Value):∀(l:List Value) (i s t k:Nat),(fl x i s t l)[k]?=if (decide (s≤k)&&decide (k<s+t))&&decide (k<l.length) then some (x (i+k)) else l[k]?
 |[],i,s,t,k=>by simp[fl]
 |v::l,i,s+1,t,0=>by simp[fl]
 | v::l,i,s+1,t,k+1=>by
  simp only[fl,List.getElem?_cons_succ,List.length_cons,fl_get x l];have e:i+1+k=i+(k+1):=by omega
  rw[e];have h1:decide (s+1≤k+1)=decide (s≤k):=by simp
  have h2:decide (k+1<s+1+t)=decide (k<s+t):=by rw[Bool.eq_iff_iff];simp;omega
  have h3:decide (k+1<l.length+1)=decide (k<l.length):=by simp
  rw[h1,h2,h3]
 |v::l,i,0,t+1,0=>by simp[fl]
 | v::l,i,0,t+1,k+1=>by
  simp only[fl,List.getElem?_cons_succ,List.length_cons,fl_get x l];have e:i+1+k=i+(k+1):=by omega
  rw[e];have h2:decide (k+1<0+(t+1))=decide (k<0+t):=by rw[Bool.eq_iff_iff];simp
  have h3:decide (k+1<l.length+1)=decide (k<l.length):=by simp
  simp only[h2,h3,Nat.zero_le,decide_true,Bool.true_and]
 |v::l,i,0,0,k=>by simp[fl]
theorem fl_len (x:Nat→Value):∀(l:List Value) (i s t:Nat),(fl x i s t l).length=l.length
 |[],i,s,t=>by simp[fl]
 |v::l,i,s+1,t=>by simp[fl,fl_len x l]
 |v::l,i,0,t+1=>by simp[fl,fl_len x l]
 |v::l,i,0,0=>by simp[fl]
def cov (S:List (Nat × Nat)) (k:Nat):Bool:=S.any fun p=>decide (p.1≤k)&&decide (k<p.1+p.2)
def fls (x:Nat→Value):List (Nat × Nat)→List Value→List Value
 |[],l=>l
 |p::S,l=>fls x S (fl x 0 p.1 p.2 l)
theorem fls_len (x:Nat→Value):∀(S:List (Nat × Nat)) (l:List Value),(fls x S l).length=l.length
 |[],l=>rfl
 |p::S,l=>by rw[fls,fls_len x S,fl_len]
theorem fls_get (x:Nat→Value):∀(S:List (Nat × Nat)) (l:List Value) (k:Nat),(fls x S l)[k]?=if cov S k&&decide (k<l.length) then some (x k) else l[k]?
 |[],l,k=>by simp[fls,cov]
 | p::S,l,k=>by
  rw[fls,fls_get x S,fl_len,fl_get,Nat.zero_add];have e:cov (p::S) k=((decide (p.1≤k)&&decide (k<p.1+p.2))||cov S k):=rfl;rw[e];generalize (decide (p.1≤k)&&decide (k<p.1+p.2))=b;generalize decide (k<l.length)=c;generalize cov S k=d;cases b<;>cases c<;>cases d<;>rfl
def fil (S:List (Nat × Nat)) (a:Act) (x:Nat→Value):Act:={tmps:=(fls x S a.tmps.toList).toArray,defers:=a.defers}
theorem fil_get (S:List (Nat × Nat)) (a:Act) (x:Nat→Value) (k:Nat):(fil S a x).tmps[k]?=if cov S k&&decide (k<a.tmps.size) then some (x k) else a.tmps[k]?:=by
 show (fls x S a.tmps.toList).toArray[k]?=_
 rw[List.getElem?_toArray,fls_get,Array.length_toList,Array.getElem?_toList]
theorem Act.ext' {a b:Act} (h:∀k:Nat,a.tmps[k]?=b.tmps[k]?) (hd:a.defers=b.defers):a=b:=by
 obtain⟨t,d⟩:=a;obtain⟨t',d'⟩:=b;obtain rfl:t=t':=Array.ext_getElem? fun k=>h k;cases hd
 rfl
theorem fil_own (S:List (Nat × Nat)) (a:Act):fil S a (fun j=>a.tmps.getD j undef)=a:=by
 refine Act.ext' (fun k=>?_) rfl
 rw[fil_get]
 split
 · rename_i h
   rw[Bool.and_eq_true,decide_eq_true_eq]at h;rw[Array.getElem?_eq_getElem h.2];simp[Array.getD,h.2]
 rfl
theorem fil_put {S:List (Nat × Nat)} {a:Act} {d:Nat} (hd:cov S d=true) (x:Nat→Value) (v:Value):(fil S a x).put (some d) v=fil S a (updV x d v):=by
 have hs:∀x,(fil S a x).tmps.size=a.tmps.size:=fun x=>by show ((fls x S a.tmps.toList).toArray).size=_;rw[List.size_toArray,fls_len,Array.length_toList]
 refine Act.ext' (fun k=>?_) rfl
 show ((fil S a x).tmps.setIfInBounds d v)[k]?=_
 by_cases h:k=d
 · subst h;rw[fil_get,hd,Array.getElem?_setIfInBounds,if_pos rfl,hs,Bool.true_and];have e:updV x k v k=v:=by simp[updV]
   rw[e]
   by_cases hk:k<a.tmps.size
   · rw[if_pos hk,if_pos (decide_eq_true hk)]
   rw[if_neg hk,if_neg (by simpa using hk),Array.getElem?_eq_none (by omega)]
 rw[Array.getElem?_setIfInBounds_ne (Ne.symm h),fil_get,fil_get];simp only[updV,if_neg h]
def dstIn (S:List (Nat × Nat)) (n:Nat) (ops:Array Oper):Bool:=ops.toList.all fun o=>match o.dst with
 |some d=>cov S d&&decide (d<n)
 |none=>true
def ownD (ops:Array Oper) (j:Nat):List Nat:=match (ops[j]?).bind (·.dst) with
 |some d=>[d]
 |none=>[]
theorem dstIn_at {S:List (Nat × Nat)} {n:Nat} {ops:Array Oper} (h:dstIn S n ops=true) {i:Nat} {o:Oper} {d:Nat} (ho:ops[i]?=some o) (hd:o.dst=some d):cov S d=true∧d<n:=by
 have h2:=List.all_eq_true.1 h o (by have:=Array.mem_of_getElem? ho;simpa using this);rw[hd]at h2;simpa using h2
theorem fil_puts {S:List (Nat × Nat)} {a:Act} {ops:Array Oper} (h:dstIn S a.tmps.size ops=true):AllOps (fun _ o=>∀d,o.dst=some d→∀x v,(fil S a x).put (some d) v=fil S a (updV x d v)) 0 ops.toList:=
 allOps_of _ _ fun i o ho d hd x v=>fil_put (dstIn_at h (i:=i) (by simpa using ho) hd).1 x v
theorem fil_gets {S:List (Nat × Nat)} {a:Act} {ops:Array Oper} (h:dstIn S a.tmps.size ops=true):getsOk ops (fil S a):=fun x=>allOps_of _ _ fun i o ho=>by
 split
 · trivial
 split
 · rename_i j _ _ d hd
   obtain⟨o2,h2,h3⟩:=Option.bind_eq_some_iff.1 hd;have h4:=dstIn_at h h2 h3;rw[fil_get,h4.1,Bool.true_and,decide_eq_true h4.2];rfl
 trivial
theorem own_reads (ops:Array Oper):readsOk ops (ownD ops)=true:=by
 unfold readsOk;rw[List.all_eq_true];intro j _;rw[List.all_eq_true];intro d hd;unfold ownD at hd
 split at hd
 · rename_i d' h
   simp at hd
   subst hd;rw[h];simp
 cases hd
theorem own_loc {ops:Array Oper} {T:Nat→(Nat→Value)→World→Prop} (h:AllOps (fun j o=>∀x x' u,(∀d,o.dst=some d→x d=x' d)→T j x u→T j x' u) 0 ops.toList):
  AllOps (fun j _=>∀x x' u,(∀d∈ownD ops j,x d=x' d)→T j x u→T j x' u) 0 ops.toList:=
 allOps_of _ _ fun i o ho x x' u hx ht=>by
  have h1:=AllOps.at h ho;refine h1 x x' u (fun d hd=>hx d ?_) ht
  have h2:ops[i]?=some o:=by simpa using ho
  unfold ownD;rw[Nat.zero_add,h2];simp[hd]
section
variable {P:Program} {ops:Array Oper} {Q:Exit→Act→World→Prop} {id:Nat} {a:Act} {w:World}
theorem wp_region_F (S:List (Nat × Nat)) (G:(Nat→Bool)→World→Prop) (R:Nat→World→World→Prop) (T:Nat→(Nat→Value)→World→Prop)
  (h0:G (fun _=>false) w.drew)
  (hkeep:∀j i x l u u',l j=true→l i=false→(∀k,anc ops ops.size j k=true→l k=true)→T j x u→G l u→R i u u'→T j x u')
  (hstep:AllOps (fun i o=>∀l x u,G l u→(∀j,anc ops ops.size j i=true→l j=false)→l i=false→(∀j,anc ops ops.size i j=true→l j=true)→(∀e∈o.after,Region.binds .any e=true→T e.on x u)→
    ∀K:Act→World→Prop,(∀v u',T i (match o.dst with|some d=>updV x d v|none=>x) u'→R i u u'→G (fun k=>k==i||l k) u'→K ((fil S a x).put o.dst v) u')→o.wp P (fil S a x) u K Q) 0 ops.toList)
  (hend:∀l x u,(∀i,i<ops.size→l i=true)→G l u→AllOps (fun i o=>T i x u) 0 ops.toList→Q .normal (fil S a x) u)
  (hm:P.follows .mixedOrders=true:=by kernel_rfl) (hp:(plainOps ops&&dstOnce ops&&dstIn S a.tmps.size ops)=true:=by kernel_rfl)
  (hloc:AllOps (fun j o=>∀x x' u,(∀d,o.dst=some d→x d=x' d)→T j x u→T j x' u) 0 ops.toList:=by
    repeat' first|exact True.intro|apply And.intro|exact fun x x' u h ht=>ht|(intro x x' u h ht;simp only[Option.some.injEq,forall_eq']at h;simp only[h]at ht;exact ht)):
  (Code.region id ops true).wp P Q a w:=by
 rw[Bool.and_eq_true,Bool.and_eq_true]at hp;exact wp_region_steps hm (fil S a) _ (fil_own S a) G R (ownD ops) T hp.1.1 (fil_puts hp.2) hp.1.2 (own_reads ops) h0 hkeep (own_loc hloc) hstep hend
theorem wp_region_FX (S:List (Nat × Nat)) (G:(Nat→Bool)→(Nat→Value)→World→Prop) (R:Nat→World→World→Prop) (T:Nat→(Nat→Value)→World→Prop)
  (h0:G (fun _=>false) (fun j=>a.tmps.getD j undef) w.drew)
  (hkeep:∀j i x l u u',l j=true→l i=false→(∀k,anc ops ops.size j k=true→l k=true)→T j x u→G l x u→R i u u'→T j x u')
  (hstep:AllOps (fun i o=>∀l x u,G l x u→(∀j,anc ops ops.size j i=true→l j=false)→l i=false→(∀j,anc ops ops.size i j=true→l j=true)→(∀e∈o.after,Region.binds .any e=true→T e.on x u)→
    ∀K:Act→World→Prop,(∀v u',T i (match o.dst with|some d=>updV x d v|none=>x) u'→R i u u'→G (fun k=>k==i||l k) (match o.dst with|some d=>updV x d v|none=>x) u'→K ((fil S a x).put o.dst v) u')→o.wp P (fil S a x) u K Q) 0 ops.toList)
  (hend:∀l x u,(∀i,i<ops.size→l i=true)→G l x u→AllOps (fun i o=>T i x u) 0 ops.toList→Q .normal (fil S a x) u)
  (hm:P.follows .mixedOrders=true:=by kernel_rfl) (hp:(plainOps ops&&dstOnce ops&&dstIn S a.tmps.size ops)=true:=by kernel_rfl)
  (hloc:AllOps (fun j o=>∀x x' u,(∀d,o.dst=some d→x d=x' d)→T j x u→T j x' u) 0 ops.toList:=by
    repeat' first|exact True.intro|apply And.intro|exact fun x x' u h ht=>ht|(intro x x' u h ht;simp only[Option.some.injEq,forall_eq']at h;simp only[h]at ht;exact ht)):
  (Code.region id ops true).wp P Q a w:=by
 rw[Bool.and_eq_true,Bool.and_eq_true]at hp;exact wp_region_stepsX hm (fil S a) _ (fil_own S a) G R (ownD ops) T hp.1.1 (fil_puts hp.2) hp.1.2 (own_reads ops) h0 hkeep (own_loc hloc) hstep hend
theorem wp_region_FG (S:List (Nat × Nat)) (G:(Nat→Bool)→World→Prop) (R:Nat→World→World→Prop) (T:Nat→(Nat→Value)→World→Prop)
  (h0:G (fun _=>false) w.drew)
  (hkeep:∀j i x l u u',l j=true→l i=false→(∀k,anc ops ops.size j k=true→l k=true)→T j x u→G l u→R i u u'→T j x u')
  (hstep:AllOps (fun i o=>∀l x u,G l u→(∀j,anc ops ops.size j i=true→l j=false)→l i=false→(∀j,anc ops ops.size i j=true→l j=true)→(∀e∈o.after,Region.binds .any e=true→T e.on x u)→
    ∀K:Act→World→Prop,(∀v u',T i (match o.dst with|some d=>updV x d v|none=>x) u'→R i u u'→G (fun k=>k==i||l k) u'→K ((fil S a x).put o.dst v) u')→if gcond ops o x=true then o.wp P (fil S a x) u K Q else K ((fil S a x).put o.dst undef) u) 0 ops.toList)
  (hend:∀l x u,(∀i,i<ops.size→l i=true)→G l u→AllOps (fun i o=>T i x u) 0 ops.toList→Q .normal (fil S a x) u)
  (hm:P.follows .mixedOrders=true:=by kernel_rfl) (hp:(backOps ops&&dstOnce ops&&dstIn S a.tmps.size ops)=true:=by kernel_rfl)
  (hloc:AllOps (fun j o=>∀x x' u,(∀d,o.dst=some d→x d=x' d)→T j x u→T j x' u) 0 ops.toList:=by
    repeat' first|exact True.intro|apply And.intro|exact fun x x' u h ht=>ht|(intro x x' u h ht;simp only[Option.some.injEq,forall_eq']at h;simp only[h]at ht;exact ht)):
  (Code.region id ops true).wp P Q a w:=by
 rw[Bool.and_eq_true,Bool.and_eq_true]at hp;exact wp_region_stepsG hm (fil S a) _ (fil_own S a) G R (ownD ops) T hp.1.1 (fil_gets hp.2) (fil_puts hp.2) hp.1.2 (own_reads ops) h0 hkeep (own_loc hloc) hstep hend
end
end
end Go.Proofs.YtcoackmdmohnhaaGreatDoor
