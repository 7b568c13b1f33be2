/- Contracts of functions, and plain lemmas; each theorem's conditions stand in its statement. -/
import Derived.Test.YtcoackmdmohnhaaGreatDoorV0
import Derived.Test.YtcoackmdmohnhaaGreatDoorProg
import Derived.Deep.LoopGhost
import Derived.Shelf.Abstract
import Derived.Outline
import Derived.Deep.QuietTactic
import Derived.BigQuiet
import Derived.Deep.RegionHeld3
import Derived.Deep.RegionHeldLaw
import Derived.RegionTactic
import Derived.BigRegion
import Derived.WalkLawsBesides
import Derived.Laws.EntriesVeiled
import Derived.Laws.StructEq
import Derived.Deep.DeepCutAuto
import Derived.Handy
set_option linter.unusedVariables false
set_option linter.unusedSimpArgs false
set_option maxHeartbeats 2000000
namespace Go.Proofs.YtcoackmdmohnhaaGreatDoor
section
open Go.RowKit
variable {α:Type} {enc:α→List Value} {t:TypeId} {tl:List Value} {B:Nat} {p:Nat} {q:Nat} {b:Nat} {i:Nat} {k:Nat} {n:Nat} {c:Nat} {g:Nat} {e:TypeId} {A:Option Addr} {S:List Nat} {cs:List Value} {w:World} {w':World} {v:DV} {v':DV} {d:Diag}
structure Touch (S:List Nat) (w w':World):Prop where
 os:w'.os=w.os
 tape:w'.tape=w.tape
 output:w'.output=w.output
 size:w.heap.size≤w'.heap.size
 block:∀k,k<w.heap.size→k∉S→w'.heap[k]?=w.heap[k]?
theorem Touch.refl (S:List Nat) (w:World):Touch S w w:=⟨rfl,rfl,rfl,Nat.le_refl _,fun _ _ _=>rfl⟩
theorem Touch.trans {S':List Nat} {a b c:World} (h:Touch S a b) (k:Touch S' b c) (hS:∀x∈S',x∈S∨a.heap.size≤x):Touch S a c:=
 ⟨k.os.trans h.os,k.tape.trans h.tape,k.output.trans h.output,Nat.le_trans h.size k.size,fun i hi hn=>
   (k.block i (Nat.lt_of_lt_of_le hi h.size) (fun hm=>by rcases hS i hm with h1|h1;exact hn h1;omega)).trans (h.block i hi hn)⟩
theorem Touch.mono {S':List Nat} {a b:World} (h:Touch S a b) (hS:∀x∈S,x∈S'∨a.heap.size≤x):Touch S' a b:=
 ⟨h.os,h.tape,h.output,h.size,fun i hi hn=>h.block i hi (fun hm=>by rcases hS i hm with h1|h1;exact hn h1;omega)⟩
theorem Touch.drew {a:World} (h:Touch S a w):Touch S a w.drew:=⟨h.os,h.tape,h.output,h.size,h.block⟩
theorem Touch.alloc {a:World} (h:Touch S a w) (o:Obj):Touch S a (w.alloc o):=
 h.trans (S':=[]) ⟨rfl,rfl,rfl,by simp,fun k hk _=>Below.heap_alloc _ _ _ hk⟩ sI
theorem Touch.setCell {a:World} (h:Touch S a w) (p:Addr) (hp:p.block∈S∨a.heap.size≤p.block) (u:Value):Touch S a (w.setCell p u):=
 h.trans (S':=[p.block]) ⟨rfl,rfl,rfl,by simp[World.setCell],fun k hk hn=>Below.heap_setCell _ _ _ _ (by simpa using hn)⟩ (by simpa using hp)
theorem Touch.grown {a:World} {row:Option Nat} (h:Touch S a w) (hg:w.grownBy w' row) (hr:∀k,row=some k→k∈S∨a.heap.size≤k):Touch S a w':=
 h.trans (S':=row.toList) ⟨hg.os,hg.tape,hg.output,hg.size,fun k hk hn=>hg.block k hk (fun e=>hn (by simp[←e]))⟩ (by intro x hx;exact hr x (by simpa using hx))
theorem Touch.of_below (h:Below w.heap.size w w'):Touch [] w w':=⟨h.os,h.tape,h.output,h.size,fun k hk _=>h.block k hk⟩
theorem Touch.below (h:Touch S w w') (hB:B≤w.heap.size) (hS:∀x∈S,B≤x):Below B w w':=
 ⟨h.os,h.tape,h.output,h.size,fun k hk=>h.block k oM (fun hm=>by have:=hS k hm;omega)⟩
theorem Touch.then_below {a:World} (h:Touch S a w) (hb:Below w.heap.size w w'):Touch S a w':=h.trans (Touch.of_below hb) sI
theorem Blk.touch (h:Blk w b cs t) (hg:Touch S w w') (hn:b∉S):Blk w' b cs t:=by
 have:=h.lt;unfold Blk at h ⊢;rw[hg.block b this hn];exact h
theorem ownsRow_touch {v:Value} {xs:List Value} (h:w.ownsRow B e k v n xs) (hg:Touch S w w') (hn:∀b,v.ownBlock=some b→b∉S):w'.ownsRow B e k v n xs:=by
 refine⟨h.1,?_⟩
 rcases h.2 with h2|⟨g,cap,cur,rfl,hb,hgg,rest⟩
 · exact .inl h2
 refine .inr ⟨g,cap,cur,rfl,hb,?_,rest⟩
 rw[hg.block g (Array.getElem?_eq_some_iff.1 hgg).1 (hn g rfl)];exact hgg
theorem Rd.touch {xs:List α} (h:Rd k enc w A n xs) (hg:Touch S w w') (hn:∀b∈S,∀a,A=some a→a.block≠b):Rd k enc w' A n xs:=by
 refine⟨h.1,h.2.1,fun h0=>?_⟩
 obtain⟨b,o,e,hlt,hc⟩:=h.2.2 h0;refine⟨b,o,e,Nat.lt_of_lt_of_le hlt hg.size,fun i x hx j u hu=>?_⟩
 rw[World.cell?_of_block (w:=w) (hg.block b hlt (fun hm=>hn b hm _ e rfl))];exact hc i x hx j u hu
def ownB:Option Addr→List Nat
 |some a=>[a.block]
 |none=>[]
theorem mem_ownB:k∈ownB A↔∃a,A=some a∧k=a.block:=by
 cases A<;>simp[ownB]
theorem ownB_one (b o:Nat) (s):ownB (some ⟨b,o,s⟩)=[b]:=rfl
theorem ownBlock_ownB (h:(Value.slice A n c).ownBlock=some b):b∈ownB A:=by
 cases A with
 |none=>simp[Value.ownBlock]at h
 |some a=>simp[Value.ownBlock]at h;simp[ownB,h]
def blks (v:DV):List Nat:=ownB v.A1++(ownB v.A2++(ownB v.A3++ownB v.A4))
structure OwnD (B:Nat) (w:World) (v:DV) (d:Diag):Prop where
 sp:w.ownsRow B 73 2 (.slice v.A1 v.n1 v.c1) v.n1 (d.sp.flatMap spC)
 ln:w.ownsRow B 77 3 (.slice v.A2 v.n2 v.c2) v.n2 (d.ln.flatMap lnC)
 ins:w.ownsRow B 3 1 (.slice v.A3 v.n3 v.c3) v.n3 (d.ins.flatMap inC)
 outs:w.ownsRow B 3 1 (.slice v.A4 v.n4 v.c4) v.n4 (d.outs.flatMap inC)
 nd:(blks v).Nodup
theorem ownsRow_lt {m:Nat} {xs:List Value} (h:w.ownsRow B e k (.slice A n c) m xs):∀b∈ownB A,B≤b∧b<w.heap.size:=by
 intro b hb;obtain⟨a,rfl,rfl⟩:=mem_ownB.1 hb;exact h.lt _ rfl
theorem OwnD.lt (h:OwnD B w v d):∀b∈blks v,B≤b∧b<w.heap.size:=by
 intro b hb;simp only[blks,List.mem_append]at hb
 rcases hb with hb|hb|hb|hb
 · exact ownsRow_lt h.sp b hb
 · exact ownsRow_lt h.ln b hb
 · exact ownsRow_lt h.ins b hb
 exact ownsRow_lt h.outs b hb
theorem OwnD.touch (h:OwnD B w v d) (hg:Touch S w w') (hn:∀b∈blks v,b∉S):OwnD B w' v d:=
 ⟨ownsRow_touch h.sp hg fun b hb=>hn b (by have:=ownBlock_ownB hb;simp[blks,this]),ownsRow_touch h.ln hg fun b hb=>hn b (by have:=ownBlock_ownB hb;simp[blks,this]),
  ownsRow_touch h.ins hg fun b hb=>hn b (by have:=ownBlock_ownB hb;simp[blks,this]),ownsRow_touch h.outs hg fun b hb=>hn b (by have:=ownBlock_ownB hb;simp[blks,this]),h.nd⟩
theorem ownsRow_none {m:Nat} {xs:List Value} (h:w.ownsRow B e k (.slice A n c) m xs) (hA:A=none):c=0:=by
 subst hA
 rcases h.2 with⟨h1,_⟩|⟨g,cap,cur,h1,_⟩
 · cases h1;rfl
 cases h1
theorem OwnD.rd (h:OwnD B w v d):DRd w v d:=
 ⟨Rd.owned dE spC_len h.sp,Rd.owned dE lnC_len h.ln,Rd.owned dE inC_len h.ins,Rd.owned dE inC_len h.outs,
  ownsRow_none h.sp,ownsRow_none h.ln,ownsRow_none h.ins,ownsRow_none h.outs⟩
theorem OwnD.mono {B':Nat} (h:OwnD B w v d) (hB:B'≤B):OwnD B' w v d:=by
 have key:∀{e:TypeId} {k:Nat} {u:Value} {n:Nat} {xs:List Value},w.ownsRow B e k u n xs→w.ownsRow B' e k u n xs:=by
  intro e k u n xs h;refine⟨h.1,?_⟩
  rcases h.2 with h2|⟨g,cap,cur,hv,hb,r⟩
  · exact .inl h2
  exact .inr ⟨g,cap,cur,hv,oM,r⟩
 exact⟨key h.sp,key h.ln,key h.ins,key h.outs,h.nd⟩
structure WK (t:TypeId) (tl:List Value) (B:Nat) (w:World) (p:Nat) (v:DV) (d:Diag):Prop where
 blk:Blk w p (dcs v d.sc++tl) t
 own:OwnD B w v d
 np:p∉blks v
 hp:B≤p
structure Upd (p:Nat) (v:DV) (w:World) (v':DV) (w':World):Prop where
 t:Touch (p::blks v) w w'
 n:∀b∈blks v',b∈blks v∨w.heap.size≤b
theorem Upd.refl (p:Nat) (v:DV) (w:World):Upd p v w v w:=⟨Touch.refl _ _,fun b h=> .inl h⟩
theorem Upd.trans {v1 v2:DV} {w1 w2:World} (h:Upd p v w v1 w1) (k:Upd p v1 w1 v2 w2):Upd p v w v2 w2:=by
 refine⟨h.t.trans k.t ?_,fun b hb=>?_⟩
 · intro x hx
   rcases List.mem_cons.1 hx with rfl|hx
   · exact .inl sI
   rcases h.n x hx with h1|h1
   · exact .inl (by simp[h1])
   exact .inr h1
 rcases k.n b hb with h1|h1
 · exact h.n b h1
 exact .inr (Nat.le_trans h.t.size h1)
theorem Upd.of_touch (h:Touch (p::blks v) w w'):Upd p v w v w':=⟨h,fun b h=> .inl h⟩
theorem Upd.alloc (h:Upd p v w v' w') (o:Obj):Upd p v w v' (w'.alloc o):=⟨h.t.alloc o,h.n⟩
theorem Upd.drew (h:Upd p v w v' w'):Upd p v w v' w'.drew:=⟨h.t.drew,h.n⟩
theorem Upd.then_below {w2:World} (h:Upd p v w v' w') (hb:Below w'.heap.size w' w2):Upd p v w v' w2:=⟨h.t.then_below hb,h.n⟩
def Aprt (q p:Nat) (v:DV) (w:World):Prop:=q<w.heap.size∧q≠p∧q∉blks v
theorem Aprt.upd (h:Aprt q p v w) (hu:Upd p v w v' w'):Aprt q p v' w':=
 ⟨Nat.lt_of_lt_of_le h.1 hu.t.size,h.2.1,fun hm=>by rcases hu.n q hm with h1|h1;exact h.2.2 h1;have:=h.1;omega⟩
theorem Blk.upd (h:Blk w b cs t) (ha:Aprt b p v w) (hu:Upd p v w v' w'):Blk w' b cs t:=
 h.touch hu.t (by have:=ha.2;simp[this.1,this.2])
theorem WK.lt (h:WK t tl B w p v d):p<w.heap.size:=h.blk.lt
theorem WK.aprt (h:WK t tl B w p v d) (hq:q<B):Aprt q p v w:=
 ⟨by have:=h.lt;have:=h.hp;omega,by have:=h.hp;omega,fun hm=>by have:=h.own.lt q hm;omega⟩
theorem WK.new_aprt (h:WK t tl B w p v d) (o:Obj):Aprt w.heap.size p v (w.alloc o):=
 ⟨by simp,by have:=h.lt;omega,fun hm=>by have:=h.own.lt _ hm;omega⟩
theorem Aprt.alloc (h:Aprt q p v w) (o:Obj):Aprt q p v (w.alloc o):=⟨by have:=h.1;simp;omega,h.2⟩
theorem Aprt.le (h:Aprt q p v w) (hs:w.heap.size≤w'.heap.size):Aprt q p v w':=⟨Nat.lt_of_lt_of_le h.1 hs,h.2⟩
theorem WK.below_of (h:WK t tl B w p v d) (hu:Upd p v w v' w') (hB:B≤w.heap.size):Below B w w':=
 hu.t.below hB (by intro x hx;rcases List.mem_cons.1 hx with rfl|hx;exact h.hp;exact(h.own.lt x hx).1)
theorem WK.touch (h:WK t tl B w p v d) (hg:Touch S w w') (hp:p∉S) (hn:∀b∈blks v,b∉S):WK t tl B w' p v d:=
 ⟨h.blk.touch hg hp,h.own.touch hg hn,h.np,h.hp⟩
theorem WK.below (h:WK t tl B w p v d) (hb:Below w.heap.size w w'):WK t tl B w' p v d:=
 h.touch (Touch.of_below hb) sI sI
theorem WK.alloc (h:WK t tl B w p v d) (o:Obj):WK t tl B (w.alloc o) p v d:=
 h.touch ((Touch.refl [] w).alloc o) sI sI
theorem WK.drew (h:WK t tl B w p v d):WK t tl B w.drew p v d:=
 h.touch ((Touch.refl [] w).drew) sI sI
theorem WK.nine (h:WK t tl B w p v d):
  w.cell? ⟨p,0,none⟩=some (.slice v.A1 v.n1 v.c1)∧w.cell? ⟨p,1,none⟩=some (.slice v.A2 v.n2 v.c2)∧w.cell? ⟨p,2,none⟩=some (.slice v.A3 v.n3 v.c3)∧w.cell? ⟨p,3,none⟩=some (.slice v.A4 v.n4 v.c4)∧w.cell? ⟨p,4,none⟩=some (.int .i64 d.sc.a)∧w.cell? ⟨p,5,none⟩=some (.int .i64 d.sc.b)∧w.cell? ⟨p,6,none⟩=some (.int .i64 d.sc.c)∧w.cell? ⟨p,7,none⟩=some (.int .i64 d.sc.d)∧w.cell? ⟨p,8,none⟩=some (.int .i64 d.sc.k)∧(∀o,w.frozen? ⟨p,o,none⟩=false):=
 ⟨h.blk.cell 0 _ rfl,h.blk.cell 1 _ rfl,h.blk.cell 2 _ rfl,h.blk.cell 3 _ rfl,h.blk.cell 4 _ rfl,h.blk.cell 5 _ rfl,h.blk.cell 6 _ rfl,h.blk.cell 7 _ rfl,h.blk.cell 8 _ rfl,fun o=>h.blk.free o⟩
theorem ownsRow_shape {m:Nat} {xs:List Value} (h:w.ownsRow B e k (.slice A n c) m xs) (hm:0<m):∃g,A=some ⟨g,0,none⟩∧B≤g∧g<w.heap.size∧n=m∧∀o,w.frozen? ⟨g,o,none⟩=false:=by
 rcases h.2 with⟨h1,h2⟩|⟨g,cap,cur,h1,hb,hg,_⟩
 · omega
 have h':=h;cases h1
 exact⟨g,rfl,hb,(h.lt g rfl).2,rfl,fun o=>h.frozenAt o⟩
theorem ownsRow_at (he:∀x,(enc x).length=k) {xs:List α} (h:w.ownsRow B e k (.slice (some ⟨g,0,none⟩) n c) n (xs.flatMap enc)) {j:Nat} {x:α} {u:Value} (hx:xs[i]?=some x) (hu:(enc x)[j]?=some u):w.cell? ⟨g,i*k+j,none⟩=some u:=by
 have h1:=flat_at2 he hx hu;rw[h.cellAt _ (by have:=(List.getElem?_eq_some_iff.1 h1).1;rw[h.1]at this;exact this)];exact h1
theorem ownsRow_size (hk:0<k) (he:∀x,(enc x).length=k) {u:Value} {xs:List α} (h:w.ownsRow B e k u n (xs.flatMap enc)):xs.length=n:=by
 have:=h.1;rw[flat_len he]at this;exact Nat.eq_of_mul_eq_mul_right hk this
theorem OwnD.n1 (h:OwnD B w v d):d.sp.length=v.n1:=ownsRow_size dE spC_len h.sp
theorem OwnD.n2 (h:OwnD B w v d):d.ln.length=v.n2:=ownsRow_size dE lnC_len h.ln
theorem OwnD.n3 (h:OwnD B w v d):d.ins.length=v.n3:=ownsRow_size dE inC_len h.ins
theorem OwnD.n4 (h:OwnD B w v d):d.outs.length=v.n4:=ownsRow_size dE inC_len h.outs
theorem OwnD.spAt (h:OwnD B w v d) {s:Spider} (hs:d.sp[i]?=some s):
  ∃g,v.A1=some ⟨g,0,none⟩∧w.cell? ⟨g,i*2,none⟩=some (.int .i64 s.kind)∧w.cell? ⟨g,i*2+1,none⟩=some (.int .i64 s.phase)∧(∀o,w.frozen? ⟨g,o,none⟩=false):=by
 have hl:=h.n1;have hi:=(List.getElem?_eq_some_iff.1 hs).1;obtain⟨g,hA,_,_,_,hf⟩:=ownsRow_shape h.sp oM;have h2:=h.sp;rw[hA]at h2;exact⟨g,hA,ownsRow_at spC_len h2 hs (j:=0) rfl,ownsRow_at spC_len h2 hs (j:=1) rfl,hf⟩
theorem OwnD.lnAt (h:OwnD B w v d) {l:Line} (hs:d.ln[i]?=some l):
  ∃g,v.A2=some ⟨g,0,none⟩∧w.cell? ⟨g,i*3,none⟩=some (.int .i64 l.f)∧w.cell? ⟨g,i*3+1,none⟩=some (.int .i64 l.t)∧w.cell? ⟨g,i*3+2,none⟩=some (.bool l.hat)∧(∀o,w.frozen? ⟨g,o,none⟩=false):=by
 have hl:=h.n2;have hi:=(List.getElem?_eq_some_iff.1 hs).1;obtain⟨g,hA,_,_,_,hf⟩:=ownsRow_shape h.ln oM;have h2:=h.ln;rw[hA]at h2;exact⟨g,hA,ownsRow_at lnC_len h2 hs (j:=0) rfl,ownsRow_at lnC_len h2 hs (j:=1) rfl,ownsRow_at lnC_len h2 hs (j:=2) rfl,hf⟩
theorem OwnD.newSp (h:OwnD B w v d) (hg:Touch S w w') (hS:∀b∈ownB v.A2++(ownB v.A3++ownB v.A4),b∉S) {sp:List Spider}
  (ho:w'.ownsRow B 73 2 (.slice A n c) n (sp.flatMap spC)) (hA:∀b∈ownB A,b∈ownB v.A1∨w.heap.size≤b):OwnD B w' {v with A1:=A,n1:=n,c1:=c} {d with sp:=sp}:=by
 refine⟨ho,ownsRow_touch h.ln hg fun b hb=>hS b (by have:=ownBlock_ownB hb;simp[this]),ownsRow_touch h.ins hg fun b hb=>hS b (by have:=ownBlock_ownB hb;simp[this]),ownsRow_touch h.outs hg fun b hb=>hS b (by have:=ownBlock_ownB hb;simp[this]),?_⟩
 have hnd:=h.nd;have hlt:=h.lt;simp only[blks]at hnd hlt ⊢;rw[List.nodup_append]at hnd ⊢;refine⟨?_,hnd.2.1,fun a ha b hb=>?_⟩
 · cases A<;>simp[ownB]
 rcases hA a ha with h1|h1
 · exact hnd.2.2 a h1 b hb
 have:=(hlt b (by simp only[List.mem_append]at hb ⊢;exact .inr hb)).2;omega
theorem OwnD.newLn (h:OwnD B w v d) (hg:Touch S w w') (hS:∀b∈ownB v.A1++(ownB v.A3++ownB v.A4),b∉S) {ln:List Line}
  (ho:w'.ownsRow B 77 3 (.slice A n c) n (ln.flatMap lnC)) (hA:∀b∈ownB A,b∈ownB v.A2∨w.heap.size≤b):OwnD B w' {v with A2:=A,n2:=n,c2:=c} {d with ln:=ln}:=by
 refine⟨ownsRow_touch h.sp hg fun b hb=>hS b (by have:=ownBlock_ownB hb;simp[this]),ho,ownsRow_touch h.ins hg fun b hb=>hS b (by have:=ownBlock_ownB hb;simp[this]),ownsRow_touch h.outs hg fun b hb=>hS b (by have:=ownBlock_ownB hb;simp[this]),?_⟩
 have hnd:=h.nd;have hlt:=h.lt;simp only[blks]at hnd hlt ⊢;rw[List.nodup_append,List.nodup_append]at hnd ⊢;refine⟨hnd.1,⟨?_,hnd.2.1.2.1,fun a ha b hb=>?_⟩,fun a ha b hb=>?_⟩
 · cases A<;>simp[ownB]
 · rcases hA a ha with h1|h1
   · exact hnd.2.1.2.2 a h1 b hb
   have:=(hlt b (by simp only[List.mem_append]at hb ⊢;exact .inr (.inr hb))).2;omega
 rcases List.mem_append.1 hb with hb|hb
 · rcases hA b hb with h1|h1
   · exact hnd.2.2 a ha b (by simp[h1])
   have:=(hlt a (by simp only[List.mem_append];exact .inl ha)).2;omega
 exact hnd.2.2 a ha b (by simp only[List.mem_append]at hb ⊢;exact .inr hb)
theorem OwnD.newIns (h:OwnD B w v d) (hg:Touch S w w') (hS:∀b∈ownB v.A1++(ownB v.A2++ownB v.A4),b∉S) {xs:List Int}
  (ho:w'.ownsRow B 3 1 (.slice A n c) n (xs.flatMap inC)) (hA:∀b∈ownB A,b∈ownB v.A3∨w.heap.size≤b):OwnD B w' {v with A3:=A,n3:=n,c3:=c} {d with ins:=xs}:=by
 refine⟨ownsRow_touch h.sp hg fun b hb=>hS b (by have:=ownBlock_ownB hb;simp[this]),ownsRow_touch h.ln hg fun b hb=>hS b (by have:=ownBlock_ownB hb;simp[this]),ho,ownsRow_touch h.outs hg fun b hb=>hS b (by have:=ownBlock_ownB hb;simp[this]),?_⟩
 have hnd:=h.nd;have hlt:=h.lt;simp only[blks]at hnd hlt ⊢;rw[List.nodup_append,List.nodup_append,List.nodup_append]at hnd ⊢;refine⟨hnd.1,⟨hnd.2.1.1,⟨?_,hnd.2.1.2.1.2.1,fun a ha b hb=>?_⟩,fun a ha b hb=>?_⟩,fun a ha b hb=>?_⟩
 · cases A<;>simp[ownB]
 · rcases hA a ha with h1|h1
   · exact hnd.2.1.2.1.2.2 a h1 b hb
   have:=(hlt b (by simp only[List.mem_append];exact .inr (.inr (.inr hb)))).2;omega
 · rcases List.mem_append.1 hb with hb|hb
   · rcases hA b hb with h1|h1
     · exact hnd.2.1.2.2 a ha b (by simp[h1])
     have:=(hlt a (by simp only[List.mem_append];exact .inr (.inl ha))).2;omega
   exact hnd.2.1.2.2 a ha b (by simp[hb])
 simp only[List.mem_append]at hb
 rcases hb with hb|hb|hb
 · exact hnd.2.2 a ha b (by simp[hb])
 · rcases hA b hb with h1|h1
   · exact hnd.2.2 a ha b (by simp[h1])
   have:=(hlt a (by simp only[List.mem_append];exact .inl ha)).2;omega
 exact hnd.2.2 a ha b (by simp[hb])
theorem OwnD.newOuts (h:OwnD B w v d) (hg:Touch S w w') (hS:∀b∈ownB v.A1++(ownB v.A2++ownB v.A3),b∉S) {xs:List Int}
  (ho:w'.ownsRow B 3 1 (.slice A n c) n (xs.flatMap inC)) (hA:∀b∈ownB A,b∈ownB v.A4∨w.heap.size≤b):OwnD B w' {v with A4:=A,n4:=n,c4:=c} {d with outs:=xs}:=by
 refine⟨ownsRow_touch h.sp hg fun b hb=>hS b (by have:=ownBlock_ownB hb;simp[this]),ownsRow_touch h.ln hg fun b hb=>hS b (by have:=ownBlock_ownB hb;simp[this]),ownsRow_touch h.ins hg fun b hb=>hS b (by have:=ownBlock_ownB hb;simp[this]),ho,?_⟩
 have hnd:=h.nd;have hlt:=h.lt;simp only[blks]at hnd hlt ⊢;rw[List.nodup_append,List.nodup_append,List.nodup_append]at hnd ⊢;refine⟨hnd.1,⟨hnd.2.1.1,⟨hnd.2.1.2.1.1,?_,fun a ha b hb=>?_⟩,fun a ha b hb=>?_⟩,fun a ha b hb=>?_⟩
 · cases A<;>simp[ownB]
 · rcases hA b hb with h1|h1
   · exact hnd.2.1.2.1.2.2 a ha b h1
   have:=(hlt a (by simp only[List.mem_append];exact .inr (.inr (.inl ha)))).2;omega
 · rcases List.mem_append.1 hb with hb|hb
   · exact hnd.2.1.2.2 a ha b (by simp[hb])
   rcases hA b hb with h1|h1
   · exact hnd.2.1.2.2 a ha b (by simp[h1])
   have:=(hlt a (by simp only[List.mem_append];exact .inr (.inl ha))).2;omega
 simp only[List.mem_append]at hb
 rcases hb with hb|hb|hb
 · exact hnd.2.2 a ha b (by simp[hb])
 · exact hnd.2.2 a ha b (by simp[hb])
 rcases hA b hb with h1|h1
 · exact hnd.2.2 a ha b (by simp[h1])
 have:=(hlt a (by simp only[List.mem_append];exact .inl ha)).2;omega
end
section
open Go.RowKit
variable {α:Type} {enc:α→List Value} {t:TypeId} {tl:List Value} {B:Nat} {p:Nat} {i:Nat} {k:Nat} {n:Nat} {c:Nat} {g:Nat} {A:Option Addr} {S:List Nat} {w:World} {w':World} {v:DV} {d:Diag}
theorem flat_set (he:∀x,(enc x).length=k):∀{xs:List α} {i j:Nat} {x y:α} {u:Value},xs[i]?=some x→j<k→enc y=(enc x).set j u→(xs.flatMap enc).set (i*k+j) u=(xs.set i y).flatMap enc
 |[],i,j,x,y,u,hx,_,_=>by simp at hx
 | z::l,0,j,x,y,u,hx,hj,hy=>by
  simp at hx;subst hx
  rw[List.set_cons_zero,List.flatMap_cons,List.flatMap_cons,hy,Nat.zero_mul,Nat.zero_add,List.set_append_left _ _ (by rw[he];exact hj)]
 | z::l,i+1,j,x,y,u,hx,hj,hy=>by
  have ih:=flat_set he (xs:=l) (i:=i) (j:=j) (x:=x) (y:=y) (u:=u) (by simpa using hx) hj hy;rw[List.set_cons_succ,List.flatMap_cons,List.flatMap_cons,List.set_append_right _ _ (by rw[he,Nat.succ_mul];omega),he,show (i+1)*k+j-k=i*k+j by rw[Nat.succ_mul];omega,ih]
theorem WK.rows {d':Diag} (h:WK t tl B w p v d) (hg:Touch S w w') (hS:p∉S) (ho:OwnD B w' v d') (hsc:d'.sc=d.sc):WK t tl B w' p v d':=
 ⟨hsc▸h.blk.touch hg hS,ho,h.np,h.hp⟩
theorem nd1 (h:(blks v).Nodup):∀b∈ownB v.A2++(ownB v.A3++ownB v.A4),b∉ownB v.A1:=by
 intro b hb hb1;simp only[blks]at h;rw[List.nodup_append]at h;exact h.2.2 b hb1 b hb rfl
theorem nd2 (h:(blks v).Nodup):∀b∈ownB v.A1++(ownB v.A3++ownB v.A4),b∉ownB v.A2:=by
 intro b hb hb1;simp only[blks]at h;rw[List.nodup_append,List.nodup_append]at h
 rcases List.mem_append.1 hb with hb|hb
 · exact h.2.2 b hb b (by simp[hb1]) rfl
 exact h.2.1.2.2 b hb1 b hb rfl
theorem nd3 (h:(blks v).Nodup):∀b∈ownB v.A1++(ownB v.A2++ownB v.A4),b∉ownB v.A3:=by
 intro b hb hb1;simp only[blks]at h;rw[List.nodup_append,List.nodup_append,List.nodup_append]at h;simp only[List.mem_append]at hb
 rcases hb with hb|hb|hb
 · exact h.2.2 b hb b (by simp[hb1]) rfl
 · exact h.2.1.2.2 b hb b (by simp[hb1]) rfl
 exact h.2.1.2.1.2.2 b hb1 b hb rfl
theorem nd4 (h:(blks v).Nodup):∀b∈ownB v.A1++(ownB v.A2++ownB v.A3),b∉ownB v.A4:=by
 intro b hb hb1;simp only[blks]at h;rw[List.nodup_append,List.nodup_append,List.nodup_append]at h;simp only[List.mem_append]at hb
 rcases hb with hb|hb|hb
 · exact h.2.2 b hb b (by simp[hb1]) rfl
 · exact h.2.1.2.2 b hb b (by simp[hb1]) rfl
 exact h.2.1.2.1.2.2 b hb b hb1 rfl
theorem Touch.set1 (w:World) (g j:Nat) (u:Value):Touch [g] w (w.setCell ⟨g,j,none⟩ u):=(Touch.refl _ w).setCell _ sI u
theorem WK.rowSp (h:WK t tl B w p v d) (hA:v.A1=some ⟨g,0,none⟩) {x y:Spider} (hs:d.sp[i]?=some x) (j:Nat) (hj:j<2) (u:Value) (hy:spC y=(spC x).set j u):
  WK t tl B (w.setCell ⟨g,i*2+j,none⟩ u) p v {d with sp:=d.sp.set i y}∧Upd p v w v (w.setCell ⟨g,i*2+j,none⟩ u):=by
 have hgb:g∈blks v:=by simp[blks,hA,ownB]
 have ho:=h.own.sp;rw[hA]at ho;have h1:=(ho.stored (i*2+j) u).1;rw[flat_set spC_len hs hj hy]at h1
 have hn:∀b∈ownB v.A2++(ownB v.A3++ownB v.A4),b∉[g]:=by
  intro b hb hb1;have:=nd1 h.own.nd b hb;simp at hb1
  subst hb1;exact this (by simp[hA,ownB])
 refine⟨h.rows (Touch.set1 w g _ u) (fun hm=>?_) (h.own.newSp (Touch.set1 w g _ u) hn (A:=v.A1) (n:=v.n1) (c:=v.c1) (by rw[hA];exact h1) (fun b hb=> .inl hb)) rfl,Upd.of_touch ((Touch.refl _ w).setCell _ (.inl (by simp[hgb])) u)⟩
 simp at hm
 subst hm;exact h.np hgb
theorem WK.putSp (h:WK t tl B w p v d) {w1:World} (hg:Touch S w w1) (hS:∀b∈S,b∈ownB v.A1∨w.heap.size≤b) {xs:List Spider}
  (ho:w1.ownsRow B 73 2 (.slice A n c) n (xs.flatMap spC)) (hA:∀b∈ownB A,b∈ownB v.A1∨w.heap.size≤b):
  WK t tl B (w1.setCell ⟨p,0,none⟩ (.slice A n c)) p {v with A1:=A,n1:=n,c1:=c} {d with sp:=xs}∧Upd p v w {v with A1:=A,n1:=n,c1:=c} (w1.setCell ⟨p,0,none⟩ (.slice A n c)):=by
 have hlt:=h.own.lt;have hplt:=h.lt;have hnp:=h.np
 have hpS:p∉S:=by
  intro hm
  rcases hS p hm with h1|h1
  · exact hnp (by simp[blks,h1])
  omega
 have hO:=h.own.newSp hg (A:=A) (n:=n) (c:=c) (by
   intro b hb hm
   rcases hS b hm with h1|h1
   · exact nd1 h.own.nd b hb h1
   · have:=hlt b (by simp only[blks,List.mem_append]at hb ⊢;rcases hb with hb|hb|hb<;>simp[hb])
     omega) ho hA
 have hn':p∉blks {v with A1:=A,n1:=n,c1:=c}:=by
  intro hm;simp only[blks,List.mem_append]at hm
  have key:p∈ownB A→False:=fun h1=>by
   rcases hA p h1 with h1|h1
   · exact hnp (by simp[blks,h1])
   omega
  rcases hm with hm|hm|hm|hm
  · exact key hm
  · exact hnp (by simp[blks,hm])
  · exact hnp (by simp[blks,hm])
  exact hnp (by simp[blks,hm])
 refine⟨⟨(h.blk.touch hg hpS).set 0 _,hO.touch (Touch.set1 w1 p _ _) (fun b hb=>?_),hn',h.hp⟩,⟨(hg.mono ?_).setCell _ (.inl sI) _,fun b hb=>?_⟩⟩
 · simp
   rintro rfl;exact hn' hb
 · intro x hx
   rcases hS x hx with h1|h1
   · exact .inl (by simp[blks,h1])
   exact .inr h1
 simp only[blks,List.mem_append]at hb
 rcases hb with hb|hb|hb|hb
 · rcases hA b hb with h1|h1
   · exact .inl (by simp[blks,h1])
   exact .inr h1
 · exact .inl (by simp[blks,hb])
 · exact .inl (by simp[blks,hb])
 exact .inl (by simp[blks,hb])
theorem WK.rowLn (h:WK t tl B w p v d) (hA:v.A2=some ⟨g,0,none⟩) {x y:Line} (hs:d.ln[i]?=some x) (j:Nat) (hj:j<3) (u:Value) (hy:lnC y=(lnC x).set j u):
  WK t tl B (w.setCell ⟨g,i*3+j,none⟩ u) p v {d with ln:=d.ln.set i y}∧Upd p v w v (w.setCell ⟨g,i*3+j,none⟩ u):=by
 have hgb:g∈blks v:=by simp[blks,hA,ownB]
 have ho:=h.own.ln;rw[hA]at ho;have h1:=(ho.stored (i*3+j) u).1;rw[flat_set lnC_len hs hj hy]at h1
 have hn:∀b∈ownB v.A1++(ownB v.A3++ownB v.A4),b∉[g]:=by
  intro b hb hb1;have:=nd2 h.own.nd b hb;simp at hb1
  subst hb1;exact this (by simp[hA,ownB])
 refine⟨h.rows (Touch.set1 w g _ u) (fun hm=>?_) (h.own.newLn (Touch.set1 w g _ u) hn (A:=v.A2) (n:=v.n2) (c:=v.c2) (by rw[hA];exact h1) (fun b hb=> .inl hb)) rfl,Upd.of_touch ((Touch.refl _ w).setCell _ (.inl (by simp[hgb])) u)⟩
 simp at hm
 subst hm;exact h.np hgb
theorem WK.putLn (h:WK t tl B w p v d) {w1:World} (hg:Touch S w w1) (hS:∀b∈S,b∈ownB v.A2∨w.heap.size≤b) {xs:List Line}
  (ho:w1.ownsRow B 77 3 (.slice A n c) n (xs.flatMap lnC)) (hA:∀b∈ownB A,b∈ownB v.A2∨w.heap.size≤b):
  WK t tl B (w1.setCell ⟨p,1,none⟩ (.slice A n c)) p {v with A2:=A,n2:=n,c2:=c} {d with ln:=xs}∧Upd p v w {v with A2:=A,n2:=n,c2:=c} (w1.setCell ⟨p,1,none⟩ (.slice A n c)):=by
 have hlt:=h.own.lt;have hplt:=h.lt;have hnp:=h.np
 have hpS:p∉S:=by
  intro hm
  rcases hS p hm with h1|h1
  · exact hnp (by simp[blks,h1])
  omega
 have hO:=h.own.newLn hg (A:=A) (n:=n) (c:=c) (by
   intro b hb hm
   rcases hS b hm with h1|h1
   · exact nd2 h.own.nd b hb h1
   · have:=hlt b (by simp only[blks,List.mem_append]at hb ⊢;rcases hb with hb|hb|hb<;>simp[hb])
     omega) ho hA
 have hn':p∉blks {v with A2:=A,n2:=n,c2:=c}:=by
  intro hm;simp only[blks,List.mem_append]at hm
  have key:p∈ownB A→False:=fun h1=>by
   rcases hA p h1 with h1|h1
   · exact hnp (by simp[blks,h1])
   omega
  rcases hm with hm|hm|hm|hm
  · exact hnp (by simp[blks,hm])
  · exact key hm
  · exact hnp (by simp[blks,hm])
  exact hnp (by simp[blks,hm])
 refine⟨⟨(h.blk.touch hg hpS).set 1 _,hO.touch (Touch.set1 w1 p _ _) (fun b hb=>?_),hn',h.hp⟩,⟨(hg.mono ?_).setCell _ (.inl sI) _,fun b hb=>?_⟩⟩
 · simp
   rintro rfl;exact hn' hb
 · intro x hx
   rcases hS x hx with h1|h1
   · exact .inl (by simp[blks,h1])
   exact .inr h1
 simp only[blks,List.mem_append]at hb
 rcases hb with hb|hb|hb|hb
 · exact .inl (by simp[blks,hb])
 · rcases hA b hb with h1|h1
   · exact .inl (by simp[blks,h1])
   exact .inr h1
 · exact .inl (by simp[blks,hb])
 exact .inl (by simp[blks,hb])
theorem WK.putIns (h:WK t tl B w p v d) {w1:World} (hg:Touch S w w1) (hS:∀b∈S,b∈ownB v.A3∨w.heap.size≤b) {xs:List Int}
  (ho:w1.ownsRow B 3 1 (.slice A n c) n (xs.flatMap inC)) (hA:∀b∈ownB A,b∈ownB v.A3∨w.heap.size≤b):
  WK t tl B (w1.setCell ⟨p,2,none⟩ (.slice A n c)) p {v with A3:=A,n3:=n,c3:=c} {d with ins:=xs}∧Upd p v w {v with A3:=A,n3:=n,c3:=c} (w1.setCell ⟨p,2,none⟩ (.slice A n c)):=by
 have hlt:=h.own.lt;have hplt:=h.lt;have hnp:=h.np
 have hpS:p∉S:=by
  intro hm
  rcases hS p hm with h1|h1
  · exact hnp (by simp[blks,h1])
  omega
 have hO:=h.own.newIns hg (A:=A) (n:=n) (c:=c) (by
   intro b hb hm
   rcases hS b hm with h1|h1
   · exact nd3 h.own.nd b hb h1
   · have:=hlt b (by simp only[blks,List.mem_append]at hb ⊢;rcases hb with hb|hb|hb<;>simp[hb])
     omega) ho hA
 have hn':p∉blks {v with A3:=A,n3:=n,c3:=c}:=by
  intro hm;simp only[blks,List.mem_append]at hm
  have key:p∈ownB A→False:=fun h1=>by
   rcases hA p h1 with h1|h1
   · exact hnp (by simp[blks,h1])
   omega
  rcases hm with hm|hm|hm|hm
  · exact hnp (by simp[blks,hm])
  · exact hnp (by simp[blks,hm])
  · exact key hm
  exact hnp (by simp[blks,hm])
 refine⟨⟨(h.blk.touch hg hpS).set 2 _,hO.touch (Touch.set1 w1 p _ _) (fun b hb=>?_),hn',h.hp⟩,⟨(hg.mono ?_).setCell _ (.inl sI) _,fun b hb=>?_⟩⟩
 · simp
   rintro rfl;exact hn' hb
 · intro x hx
   rcases hS x hx with h1|h1
   · exact .inl (by simp[blks,h1])
   exact .inr h1
 simp only[blks,List.mem_append]at hb
 rcases hb with hb|hb|hb|hb
 · exact .inl (by simp[blks,hb])
 · exact .inl (by simp[blks,hb])
 · rcases hA b hb with h1|h1
   · exact .inl (by simp[blks,h1])
   exact .inr h1
 exact .inl (by simp[blks,hb])
theorem WK.putOuts (h:WK t tl B w p v d) {w1:World} (hg:Touch S w w1) (hS:∀b∈S,b∈ownB v.A4∨w.heap.size≤b) {xs:List Int}
  (ho:w1.ownsRow B 3 1 (.slice A n c) n (xs.flatMap inC)) (hA:∀b∈ownB A,b∈ownB v.A4∨w.heap.size≤b):
  WK t tl B (w1.setCell ⟨p,3,none⟩ (.slice A n c)) p {v with A4:=A,n4:=n,c4:=c} {d with outs:=xs}∧Upd p v w {v with A4:=A,n4:=n,c4:=c} (w1.setCell ⟨p,3,none⟩ (.slice A n c)):=by
 have hlt:=h.own.lt;have hplt:=h.lt;have hnp:=h.np
 have hpS:p∉S:=by
  intro hm
  rcases hS p hm with h1|h1
  · exact hnp (by simp[blks,h1])
  omega
 have hO:=h.own.newOuts hg (A:=A) (n:=n) (c:=c) (by
   intro b hb hm
   rcases hS b hm with h1|h1
   · exact nd4 h.own.nd b hb h1
   · have:=hlt b (by simp only[blks,List.mem_append]at hb ⊢;rcases hb with hb|hb|hb<;>simp[hb])
     omega) ho hA
 have hn':p∉blks {v with A4:=A,n4:=n,c4:=c}:=by
  intro hm;simp only[blks,List.mem_append]at hm
  have key:p∈ownB A→False:=fun h1=>by
   rcases hA p h1 with h1|h1
   · exact hnp (by simp[blks,h1])
   omega
  rcases hm with hm|hm|hm|hm
  · exact hnp (by simp[blks,hm])
  · exact hnp (by simp[blks,hm])
  · exact hnp (by simp[blks,hm])
  exact key hm
 refine⟨⟨(h.blk.touch hg hpS).set 3 _,hO.touch (Touch.set1 w1 p _ _) (fun b hb=>?_),hn',h.hp⟩,⟨(hg.mono ?_).setCell _ (.inl sI) _,fun b hb=>?_⟩⟩
 · simp
   rintro rfl;exact hn' hb
 · intro x hx
   rcases hS x hx with h1|h1
   · exact .inl (by simp[blks,h1])
   exact .inr h1
 simp only[blks,List.mem_append]at hb
 rcases hb with hb|hb|hb|hb
 · exact .inl (by simp[blks,hb])
 · exact .inl (by simp[blks,hb])
 · exact .inl (by simp[blks,hb])
 rcases hA b hb with h1|h1
 · exact .inl (by simp[blks,h1])
 exact .inr h1
theorem WK.putSc (h:WK t tl B w p v d) (s:Num):
  WK t tl B (((((w.setCell ⟨p,4,none⟩ s.a).setCell ⟨p,5,none⟩ s.b).setCell ⟨p,6,none⟩ s.c).setCell ⟨p,7,none⟩ s.d).setCell ⟨p,8,none⟩ s.k) p v {d with sc:=s}∧
  Upd p v w v (((((w.setCell ⟨p,4,none⟩ s.a).setCell ⟨p,5,none⟩ s.b).setCell ⟨p,6,none⟩ s.c).setCell ⟨p,7,none⟩ s.d).setCell ⟨p,8,none⟩ s.k):=by
 have hT:Touch [p] w (((((w.setCell ⟨p,4,none⟩ s.a).setCell ⟨p,5,none⟩ s.b).setCell ⟨p,6,none⟩ s.c).setCell ⟨p,7,none⟩ s.d).setCell ⟨p,8,none⟩ s.k):=
  (((((Touch.refl [p] w).setCell _ sI _).setCell _ sI _).setCell _ sI _).setCell _ sI _).setCell _ sI _
 refine⟨⟨((((h.blk.set 4 _).set 5 _).set 6 _).set 7 _).set 8 _,?_,h.np,h.hp⟩,Upd.of_touch (hT.mono (by intro x hx;exact .inl (by simp at hx;simp[hx])))⟩
 have ho:=h.own.touch hT (fun b hb=>by simp;rintro rfl;exact h.np hb);exact⟨ho.sp,ho.ln,ho.ins,ho.outs,ho.nd⟩
end
section
variable {n:Nat}
def Num.up (x:Num):Num:=⟨x.b-x.d,x.a+x.c,x.b+x.d,x.c-x.a,x.k+1⟩
def Num.mulX (x y:Num):Num:=⟨x.a*y.a-x.b*y.d-x.c*y.c-x.d*y.b,x.a*y.b+x.b*y.a-x.c*y.d-x.d*y.c,x.a*y.c+x.b*y.b+x.c*y.a-x.d*y.d,x.a*y.d+x.b*y.c+x.c*y.b+x.d*y.a,x.k+y.k⟩
def Num.ev (x:Num):Bool:=evB x.a x.b x.c x.d
def Num.z (x:Num):Bool:=isZ x.a x.b x.c x.d
theorem Num.ev_iff (x:Num):x.ev=true↔x.a%2=x.c%2∧x.b%2=x.d%2:=by simp[Num.ev,evB]
theorem Num.z_iff (x:Num):x.z=true↔x.a=0∧x.b=0∧x.c=0∧x.d=0:=by simp[Num.z,isZ,and_assoc]
theorem Num.half_up (x:Num):x.up.half=x:=by
 obtain⟨a,b,c,d,k⟩:=x;simp only[Num.up,Num.half,Num.mk.injEq];omega
theorem Num.up_half (x:Num) (h:x.ev=true):x.half.up=x:=by
 obtain⟨a,b,c,d,k⟩:=x;have:=(Num.ev_iff _).1 h;simp only[Num.up,Num.half,Num.mk.injEq]at *;omega
theorem Num.up_ev (x:Num):x.up.ev=true:=by
 rw[Num.ev_iff];obtain⟨a,b,c,d,k⟩:=x;simp only[Num.up];omega
theorem Num.up_z (x:Num):x.up.z=x.z:=by
 rw[Bool.eq_iff_iff,Num.z_iff,Num.z_iff];obtain⟨a,b,c,d,k⟩:=x;simp only[Num.up];omega
theorem Num.form_z {x:Num} (h:x.z=true):x.form=Num.nil:=by
 have h':isZ x.a x.b x.c x.d=true:=h;simp[Num.form,h']
theorem Num.form_nz {x:Num} (h:x.z=false):x.form=Num.down x.k.toNat x:=by
 have h':isZ x.a x.b x.c x.d=false:=h;simp[Num.form,h']
theorem Num.down_ev {x:Num} (h:x.ev=true):Num.down (n+1) x=Num.down n x.half:=Num.down_step h
theorem Num.down_nev {x:Num} (h:x.ev=false):Num.down n x=x:=Num.down_not h
theorem Num.form_up (x:Num) (hk:0≤x.k):x.up.form=x.form:=by
 by_cases h:x.z=true
 · rw[Num.form_z h,Num.form_z (by rw[Num.up_z];exact h)]
 simp only[Bool.not_eq_true]at h;rw[Num.form_nz h,Num.form_nz (by rw[Num.up_z];exact h)];have e:x.up.k.toNat=x.k.toNat+1:=by simp only[Num.up];omega
 rw[e,Num.down_ev (Num.up_ev x),Num.half_up]
theorem Num.mulX_up (x y:Num):x.up.mulX y=(x.mulX y).up:=by
 obtain⟨a,b,c,d,k⟩:=x;obtain⟨a',b',c',d',k'⟩:=y;simp only[Num.up,Num.mulX,Num.mk.injEq,Int.add_mul,Int.sub_mul];omega
theorem Num.mulX_comm (x y:Num):x.mulX y=y.mulX x:=by
 obtain⟨a,b,c,d,k⟩:=x;obtain⟨a',b',c',d',k'⟩:=y;simp only[Num.mulX,Num.mk.injEq,Int.mul_comm a',Int.mul_comm b',Int.mul_comm c',Int.mul_comm d'];omega
theorem Num.z_mulX {x:Num} (y:Num) (h:x.z=true):(x.mulX y).z=true:=by
 obtain⟨h1,h2,h3,h4⟩:=(Num.z_iff x).1 h;rw[Num.z_iff];simp[Num.mulX,h1,h2,h3,h4]
theorem Num.form_mulX_down:∀(n:Nat) (x y:Num),(n:Int)≤x.k→0≤y.k→((Num.down n x).mulX y).form=(x.mulX y).form
 |0,x,y,_,_=>rfl
 | n+1,x,y,hn,hy=>by
  by_cases h:x.ev=true
  · rw[Num.down_ev h,Num.form_mulX_down n x.half y (by simp only[Num.half];omega) hy]
    conv=>rhs;rw[←Num.up_half x h,Num.mulX_up]
    rw[Num.form_up];simp only[Num.mulX,Num.half];omega
  simp only[Bool.not_eq_true]at h;rw[Num.down_nev h]
theorem Num.form_mulX_form (x y:Num) (hx:0≤x.k) (hy:0≤y.k):(x.form.mulX y).form=(x.mulX y).form:=by
 by_cases h:x.z=true
 · rw[Num.form_z h,Num.form_z (Num.z_mulX y h),Num.form_z (Num.z_mulX y dE)]
 simp only[Bool.not_eq_true]at h;rw[Num.form_nz h];exact Num.form_mulX_down _ x y oM hy
theorem Num.form_mulX_form2 (x y:Num) (hx:0≤x.k) (hy:0≤y.k):(x.mulX y.form).form=(x.mulX y).form:=by
 rw[Num.mulX_comm,Num.form_mulX_form y x hy hx,Num.mulX_comm]
def Num.low (x:Num):Prop:=0≤x.k∧(x.z=true→x.k=0)∧(0<x.k→x.ev=false)
theorem Num.down_low:∀(n:Nat) (x:Num),x.k=(n:Int)→0≤(Num.down n x).k∧(0<(Num.down n x).k→(Num.down n x).ev=false)
 |0,x,h=>⟨by simp[Num.down,h],by simp[Num.down,h]⟩
 | n+1,x,h=>by
  by_cases he:x.ev=true
  · rw[Num.down_ev he];exact Num.down_low n x.half (by simp only[Num.half];omega)
  simp only[Bool.not_eq_true]at he;rw[Num.down_nev he];exact⟨oM,fun _=>he⟩
theorem Num.half_z {x:Num} (h:x.ev=true) (hz:x.z=false):x.half.z=false:=by
 rw[Bool.eq_false_iff]at *;intro h2
 apply hz
 rw[Num.z_iff]at *;obtain⟨a,b,c,d,k⟩:=x;have:=(Num.ev_iff _).1 h;simp only[Num.half]at *;omega
theorem Num.down_z:∀(n:Nat) (x:Num),x.z=false→(Num.down n x).z=false
 |0,x,h=>h
 | n+1,x,h=>by
  by_cases he:x.ev=true
  · rw[Num.down_ev he];exact Num.down_z n x.half (Num.half_z he h)
  simp only[Bool.not_eq_true]at he;rw[Num.down_nev he];exact h
theorem Num.low_form (x:Num) (hk:0≤x.k):x.form.low:=by
 by_cases h:x.z=true
 · rw[Num.form_z h];exact⟨by decide,fun _=>rfl,fun h=>absurd h dE⟩
 simp only[Bool.not_eq_true]at h;rw[Num.form_nz h];obtain⟨h1,h2⟩:=Num.down_low x.k.toNat x oM;exact⟨h1,fun hz=>(by rw[Num.down_z _ _ h]at hz;cases hz),h2⟩
def Num.big (x:Num):Bool:=byndB x.a x.b x.c x.d 1073741824
theorem Num.big_iff (x:Num):x.big=true↔(1073741824<x.a∨x.a< -1073741824∨1073741824<x.b∨x.b< -1073741824∨1073741824<x.c∨x.c< -1073741824∨1073741824<x.d∨x.d< -1073741824):=by
 simp[Num.big,byndB,or_assoc]
theorem Num.check_zero {x:Num}:x.check=0↔0≤x.k∧x.k≤60∧x.big=false:=by
 unfold Num.check;show (if x.k<0∨60<x.k then(3:Int) else if x.big=true then 8 else 0)=0↔_
 by_cases h:x.k<0∨60<x.k
 · rw[if_pos h];simp;omega
 rw[if_neg h]
 cases hb:x.big with
 |true=>simp
 |false=>simp;omega
theorem Num.least_eq (x:Num) (hk:0≤x.k):x.least=if x.form.check=0 then(x.form,0) else(Num.nil,8):=by
 unfold Num.least
 by_cases h:x.z=true
 · have h':isZ x.a x.b x.c x.d=true:=h;rw[Num.form_z h,if_pos h',if_pos dE]
 simp only[Bool.not_eq_true]at h;have h':isZ x.a x.b x.c x.d=false:=h;rw[Num.form_nz h,h',if_neg sI];obtain⟨h1,h2⟩:=Num.down_low x.k.toNat x oM;generalize hd:Num.down x.k.toNat x=y at *
 by_cases hc:y.check=0
 · rw[if_pos hc];have:=Num.check_zero.1 hc;rw[if_neg];rintro (h3|h3)
   · omega
   have:y.big=true:=h3;simp_all
 rw[if_neg hc];rw[if_pos];refine Classical.byContradiction fun hn=>hc (Num.check_zero.2 ⟨h1,?_,?_⟩)
 · omega
 exact Bool.eq_false_iff.2 fun hb=>hn (.inr hb)
def Num.powP:Nat→Num→Num→Num × Int
 |0,_,s=>(s,0)
 |n+1,by_,s=>if (s.mulX by_).form.check=0 then Num.powP n by_ (s.mulX by_).form else(s,8)
def Num.root:Num:=⟨0,1,0,-1,0⟩
def Num.rhalf:Num:=⟨1,0,0,0,1⟩
def Num.power (s:Num) (n:Int):Num × Int:=Num.powP n.natAbs (if n<0 then Num.rhalf else Num.root) s
def Num.powX:Nat→Num→Num→Num
 |0,_,s=>s
 |n+1,by_,s=>Num.powX n by_ (s.mulX by_).form
theorem Num.mulX_root (x:Num):x.mulX Num.root=⟨x.b-x.d,x.a+x.c,x.b+x.d,x.c-x.a,x.k⟩:=by
 obtain⟨a,b,c,d,k⟩:=x;simp only[Num.mulX,Num.root,Num.mk.injEq];refine⟨?_,?_,?_,?_,?_⟩<;>omega
theorem Num.mulX_rhalf (x:Num):x.mulX Num.rhalf=⟨x.a,x.b,x.c,x.d,x.k+1⟩:=by
 obtain⟨a,b,c,d,k⟩:=x;simp only[Num.mulX,Num.rhalf,Num.mk.injEq];refine⟨?_,?_,?_,?_,?_⟩<;>simp
def Num.over (x:Num):Prop:=x.low∧x.check≠0
theorem Num.root_step {x:Num} (h:x.low):(x.mulX Num.root).form=if x.z=true then Num.nil else if 0<x.k then⟨x.a,x.b,x.c,x.d,x.k-1⟩ else x.mulX Num.root:=by
 obtain⟨h0,h1,h2⟩:=h
 by_cases hz:x.z=true
 · rw[if_pos hz,Num.form_z (Num.z_mulX _ hz)]
 simp only[Bool.not_eq_true]at hz;rw[hz,if_neg sI]
 by_cases hk:0<x.k
 · rw[if_pos hk]
   have e:x.mulX Num.root=(⟨x.a,x.b,x.c,x.d,x.k-1⟩:Num).up:=by
    rw[Num.mulX_root];obtain⟨a,b,c,d,k⟩:=x;show (⟨b-d,a+c,b+d,c-a,k⟩:Num)=⟨b-d,a+c,b+d,c-a,k-1+1⟩
    rw[show k-1+1=k by omega]
   rw[e,Num.form_up _ (by show 0≤x.k-1;omega)];have hz':(⟨x.a,x.b,x.c,x.d,x.k-1⟩:Num).z=false:=hz;rw[Num.form_nz hz'];exact Num.down_nev (x:=⟨x.a,x.b,x.c,x.d,x.k-1⟩) (h2 hk)
 rw[if_neg hk];have e:x.k=0:=oM
 have hz':(x.mulX Num.root).z=false:=by
  rw[←hz,←Num.up_z x,Num.mulX_root];rfl
 rw[Num.form_nz hz'];have:(x.mulX Num.root).k.toNat=0:=by rw[Num.mulX_root];simp[e]
 rw[this];rfl
theorem Num.root_over {x:Num} (h:x.over) (hk:x.k≤60):(x.mulX Num.root).form.over∧(x.mulX Num.root).form.k≤60:=by
 obtain⟨hl,hc⟩:=h;have h0:=hl.1
 have hb:x.big=true:=by
  refine Classical.byContradiction fun hn=>hc (Num.check_zero.2 ⟨h0,hk,by simpa using hn⟩)
 have hbi:=(Num.big_iff x).1 hb
 have hz:x.z=false:=by
  refine Bool.eq_false_iff.2 fun hz=>?_
  have:=(Num.z_iff x).1 hz;omega
 refine⟨⟨Num.low_form _ (by rw[Num.mulX_root];exact h0),fun hc2=>?_⟩,?_⟩
 · obtain⟨_,_,hnb⟩:=Num.check_zero.1 hc2;rw[Num.root_step hl,hz,if_neg sI]at hnb;have hnb':=Bool.eq_false_iff.1 hnb
   apply hnb'
   rw[Num.big_iff]
   by_cases hk2:0<x.k
   · rw[if_pos hk2];exact hbi
   rw[if_neg hk2,Num.mulX_root];simp only
   omega
 rw[Num.root_step hl,hz,if_neg sI]
 by_cases hk2:0<x.k
 · rw[if_pos hk2];show x.k-1≤60;omega
 rw[if_neg hk2,Num.mulX_root];exact hk
theorem Num.powX_root_over (n:Nat):∀x:Num,x.over→x.k≤60→(Num.powX n Num.root x).check≠0:=by
 induction n with
 |zero=>intro x h _;exact h.2
 |succ n ih=>intro x h hk;have:=Num.root_over h hk;exact ih _ this.1 this.2
theorem Num.rhalf_step {x:Num} (h:x.low):(x.mulX Num.rhalf).form=if x.z=true then Num.nil else if x.ev=true then⟨x.half.a,x.half.b,x.half.c,x.half.d,0⟩ else⟨x.a,x.b,x.c,x.d,x.k+1⟩:=by
 obtain⟨h0,h1,h2⟩:=h
 by_cases hz:x.z=true
 · rw[if_pos hz,Num.form_z (Num.z_mulX _ hz)]
 simp only[Bool.not_eq_true]at hz;rw[hz,if_neg sI,Num.mulX_rhalf];have hz':(⟨x.a,x.b,x.c,x.d,x.k+1⟩:Num).z=false:=hz;rw[Num.form_nz hz']
 by_cases he:x.ev=true
 · rw[if_pos he]
   have hk:x.k=0:=by
    refine Classical.byContradiction fun hn=>?_
    have:=h2 oM;simp_all
   have e:(⟨x.a,x.b,x.c,x.d,x.k+1⟩:Num).k.toNat=1:=by simp[hk]
   have he':(⟨x.a,x.b,x.c,x.d,x.k+1⟩:Num).ev=true:=he;rw[e,Num.down_ev he'];simp only[Num.down,Num.half,hk];rfl
 rw[if_neg he];simp only[Bool.not_eq_true]at he;exact Num.down_nev (x:=⟨x.a,x.b,x.c,x.d,x.k+1⟩) he
theorem Num.rhalf_over {x:Num} (h:x.low) (hz:x.z=false) (hk:60<x.k):(x.mulX Num.rhalf).form.low∧(x.mulX Num.rhalf).form.z=false∧60<(x.mulX Num.rhalf).form.k:=by
 refine⟨Num.low_form _ (by rw[Num.mulX_rhalf];have:=h.1;simp only;omega),?_⟩
 have he:=h.2.2 oM;rw[Num.rhalf_step h,hz,he,if_neg sI,if_neg sI];exact⟨hz,by simp only;omega⟩
theorem Num.powX_rhalf_over (n:Nat):∀x:Num,x.low→x.z=false→60<x.k→(Num.powX n Num.rhalf x).check≠0:=by
 induction n with
 |zero=>intro x h _ hk hc;have:=Num.check_zero.1 hc;simp only[Num.powX]at this;omega
 |succ n ih=>intro x h hz hk;have:=Num.rhalf_over h hz hk;exact ih _ this.1 this.2.1 this.2.2
theorem Num.rhalf_small {x:Num} (h:x.low) (hc:x.check=0) (hn:(x.mulX Num.rhalf).form.check≠0):(x.mulX Num.rhalf).form.z=false∧60<(x.mulX Num.rhalf).form.k:=by
 obtain⟨h0,h60,hb⟩:=Num.check_zero.1 hc;have hbi:=Bool.eq_false_iff.1 hb;rw[Num.rhalf_step h]at hn ⊢
 by_cases hz:x.z=true
 · rw[if_pos hz]at hn;exact absurd dE hn
 simp only[Bool.not_eq_true]at hz;rw[hz,if_neg sI]at hn ⊢
 by_cases he:x.ev=true
 · rw[if_pos he]at hn;refine absurd (Num.check_zero.2 ⟨Int.le_refl 0,(by show (0:Int)≤60;decide),Bool.eq_false_iff.2 fun h2=>hbi ?_⟩) hn
   rw[Num.big_iff]at h2 ⊢;have:=(Num.ev_iff x).1 he;simp only[Num.half]at h2;omega
 rw[if_neg he]at hn ⊢;refine⟨hz,Classical.byContradiction fun h3=>hn (Num.check_zero.2 ⟨by simp only;omega,by simp only at h3 ⊢;omega,hb⟩)⟩
theorem Num.powP_eq (y:Num) (hy:y=Num.root∨y=Num.rhalf):∀(n:Nat) (x:Num),x.low→x.check=0→
  if (Num.powX n y x).check=0 then Num.powP n y x=(Num.powX n y x,0) else(Num.powP n y x).2=8
 |0,x,_,hc=>by simp[Num.powX,Num.powP,hc]
 | n +1,x,hl,hc=>by
  have hyk:0≤y.k:=by rcases hy with rfl|rfl<;>decide
  have hl2:(x.mulX y).form.low:=Num.low_form _ (by have:=hl.1;simp only[Num.mulX];omega)
  by_cases h:(x.mulX y).form.check=0
  · have ih:=Num.powP_eq y hy n _ hl2 h;simp only[Num.powX,Num.powP,h,if_true];exact ih
  have:(Num.powX n y (x.mulX y).form).check≠0:=by
   rcases hy with rfl|rfl
   · refine Num.powX_root_over n _ ⟨hl2,h⟩ ?_
     have h60:=(Num.check_zero.1 hc).2.1;rw[Num.root_step hl]
     by_cases hz:x.z=true
     · rw[if_pos hz];decide
     rw[if_neg hz]
     by_cases hk:0<x.k
     · rw[if_pos hk];simp only;omega
     rw[if_neg hk,Num.mulX_root];exact h60
   have:=Num.rhalf_small hl hc h;exact Num.powX_rhalf_over n _ hl2 this.1 this.2
  simp only[Num.powX,Num.powP,h,if_false,this]
end
section
def Diag.nil:Diag:=⟨[],[],[],[],Num.nil⟩
def Diag.phaseAt (d:Diag) (x:Int):Int:=match d.sp[x.toNat]? with
 |some s=>s.phase
 |none=>0
def Line.loop (l:Line):Bool:=decide (l.f=l.t)
def Line.other (l:Line) (n:Int):Int:=l.f+l.t-n
def Line.lo (l:Line):Int:=min l.f l.t
def Line.hi (l:Line):Int:=max l.f l.t
def Line.alike (l m:Line):Bool:=decide (l.lo=m.lo)&&decide (l.hi=m.hi)
def Line.down (n:Int) (l:Line):Line:=⟨downI l.f n,downI l.t n,l.hat⟩
def relabI (a b x:Int):Int:=if x=b then a else x
def Line.relab (a b:Int) (l:Line):Line:=⟨relabI a b l.f,relabI a b l.t,l.hat⟩
def Diag.bent (d:Diag) (l:Line):Bool:=xor (xor l.hat (decide (d.kindAt l.f=2))) (decide (d.kindAt l.t=2))
def Spider.add (by_:Int) (s:Spider):Spider:=⟨s.kind,(s.phase+by_)%8⟩
def Diag.addPh (d:Diag) (n by_:Int):Diag:={d with sp:=d.sp.modify n.toNat (Spider.add by_)}
def Diag.addAll (d:Diag) (by_:Int):List Int→Diag
 |[]=>d
 |n::l=>Diag.addAll (d.addPh n by_) by_ l
def Diag.away (d:Diag) (n:Int):Diag:={d with sp:=d.sp.eraseIdx n.toNat,ln:=(d.ln.filter (fun l=>!l.at n)).map (Line.down n),ins:=d.ins.map (downI · n),outs:=d.outs.map (downI · n)}
def Diag.cutLn (d:Diag) (i:Nat):Diag:={d with ln:=d.ln.eraseIdx i}
def Line.flip (l:Line):Line:=⟨l.f,l.t,!l.hat⟩
abbrev Made:=Option (Diag × List Num × Int)
def Diag.fuses (d:Diag) (i:Nat):Made:=match d.ln[i]? with
 |none=>none
 | some l=>
  if l.loop=true∨l.hat=true∨d.kindAt l.f=0∨d.kindAt l.f≠d.kindAt l.t then none
  else some ((({d with ln:=(d.ln.eraseIdx i).map (Line.relab l.lo l.hi)}:Diag).addPh l.lo (d.phaseAt l.hi)).away l.hi,[],0)
def Diag.turns (d:Diag) (n:Int):Made:=
 if d.kindAt n=0 then none
 else some ({d with sp:=d.sp.modify n.toNat (fun s=>⟨3-s.kind,s.phase⟩),ln:=d.ln.map (fun l=>if l.at n=true∧l.loop=false then l.flip else l)},[],0)
def Diag.loops (d:Diag) (i:Nat):Made:=match d.ln[i]? with
 |none=>none
 |some l=>if l.loop=false then none else if l.hat=false then some (d.cutLn i,[],0) else some ((d.cutLn i).addPh l.f 4,[],-1)
def Diag.units (d:Diag) (n:Int):Made:=
 if d.kindAt n=0∨d.phaseAt n≠0 then none
 else match d.ln.filter (·.at n) with
  |[a,b]=>if a.loop=true∨b.loop=true then none else some (({d with ln:=d.ln++[⟨a.other n,b.other n,a.hat != b.hat⟩]}:Diag).away n,[],0)
  |_=>none
def Diag.pairs (d:Diag) (i j:Nat):Made:=match d.ln[i]?,d.ln[j]? with
 | some a,some b=>
  if j≤i∨a.loop=true∨a.alike b=false∨d.kindAt a.f=0∨d.kindAt a.t=0 then none
  else match d.bent a,d.bent b with
   |true,true=>some ((d.cutLn j).cutLn i,[],-2)
   |true,false=>some ((d.cutLn i).addPh a.lo 4,[],-1)
   |false,true=>some ((d.cutLn j).addPh a.lo 4,[],-1)
   |false,false=>some (d.cutLn j,[],0)
 |_,_=>none
def Num.omega (p:Int):Num:=if p=0 then⟨1,0,0,0,0⟩ else if p=1 then⟨0,1,0,0,0⟩ else if p=2 then⟨0,0,1,0,0⟩ else if p=3 then⟨0,0,0,1,0⟩ else if p=4 then⟨-1,0,0,0,0⟩ else if p=5 then⟨0,-1,0,0,0⟩ else if p=6 then⟨0,0,-1,0,0⟩ else⟨0,0,0,-1,0⟩
def Num.plus1 (x:Num):Num:=⟨1+x.a,x.b,x.c,x.d,0⟩
def Diag.drops (d:Diag) (n:Int):Made:=
 if d.kindAt n=0∨d.ln.any (·.at n)=true then none
 else some (d.away n,[(Num.omega (d.phaseAt n)).plus1],0)
def Diag.leadOk (d:Diag) (n:Int) (never l:List Int) (x:Line):Bool:=x.hat&&!x.loop&&decide (d.kindAt (x.other n)=1)&&!decide (x.other n∈l)&&!decide (x.other n∈never)
def Diag.leadL (d:Diag) (n but:Int) (never:List Int):Int→List Line→List Int→Option (List Int)
 |_,[],l=>some l
 | i,x::xs,l=>if x.at n=false∨i=but then Diag.leadL d n but never (i+1) xs l
  else if d.leadOk n never l x=true then Diag.leadL d n but never (i+1) xs (l++[x.other n]) else none
def Diag.inOrder (d:Diag) (l:List Int):List Int:=((List.range d.sp.length).map (fun k:Nat=>(k:Int))).filter (fun k=>decide (k∈l))
def Diag.around (d:Diag) (n but:Int) (never:List Int):Option (List Int):=(d.leadL n but never 0 d.ln []).map d.inOrder
def among:List Int→List Line
 |[]=>[]
 |a::l=>l.map (fun b=>⟨min a b,max a b,true⟩)++among l
def between (a b:List Int):List Line:=a.flatMap (fun x=>b.map (fun y=>⟨x,y,true⟩))
def Diag.comps (d:Diag) (n:Int):Made:=match d.around n (-1) [] with
 |none=>none
 | some l=>
  if d.kindAt n≠1∨(d.phaseAt n≠2∧d.phaseAt n≠6) then none
  else
   let d1:=d.addAll (-d.phaseAt n) l
   some (({d1 with ln:=d1.ln++among l}:Diag).away n,[Num.omega (d.phaseAt n / 4*6+1)],1-l.length+(l.length:Int)*(l.length-1) / 2)
def Diag.pivots (d:Diag) (i:Nat):Made:=match d.ln[i]? with
 |none=>none
 | some x=>
  let u:=x.lo
  let v:=x.hi
  if x.loop=true∨x.hat=false∨d.kindAt u≠1∨d.kindAt v≠1∨d.phaseAt u%4≠0∨d.phaseAt v%4≠0 then none
  else match d.around u i [v],d.around v i [u] with
   | some l,some m=>
    let p:=d.phaseAt u / 4
    let q:=d.phaseAt v / 4
    let a:=l.filter (fun k=>!decide (k∈m))
    let b:=m.filter (fun k=>!decide (k∈l))
    let c:=l.filter (fun k=>!decide (k∈a))
    let e:=between a b++between a c++between b c
    let d1:=((({d with ln:=d.ln++e}:Diag).addAll (4*q) a).addAll (4*p) b).addAll (4*(p+q+1)) c
    some ((d1.away v).away u,[Num.omega (4*p*q)],1+e.length-a.length-b.length-2*c.length)
   |_,_=>none
def Diag.rule (d:Diag) (r:Int) (i j:Nat):Made:=
 if r=1 then d.fuses i else if r=2 then d.turns i else if r=3 then d.loops i else if r=4 then d.units i
 else if r=5 then d.pairs i j else if r=6 then d.drops i else if r=7 then d.comps i else d.pivots i
structure Rewrite where
 rule:Int
 at_:Int
 other:Int
 deriving DecidableEq
def lined (r:Int):Bool:=decide (r=1)||decide (r=3)||decide (r=5)||decide (r=8)
def Num.scaleL (s:Num):List Num→Num × Int
 |[]=>(s,0)
 |x::l=>if (s.mulX x).form.check=0 then Num.scaleL (s.mulX x).form l else(s,8)
def Num.finP (s:Num) (l:List Num) (n:Int):Num × Int:=if (s.scaleL l).2=0 then(s.scaleL l).1.power n else s.scaleL l
def Diag.finish (m:Made):Diag × Int:=match m with
 |none=>(Diag.nil,7)
 |some (d,l,n)=>if 100<d.ln.length then(Diag.nil,2) else if (d.sc.finP l n).2=0 then({d with sc:=(d.sc.finP l n).1},0) else(Diag.nil,8)
def Diag.step (d:Diag) (s:Rewrite):Diag × Int:=
 if s.rule<1∨8<s.rule then(Diag.nil,3)
 else if s.at_<0∨((if lined s.rule then d.ln.length else d.sp.length):Int)≤s.at_∨(s.rule=5∧(s.other<0∨(d.ln.length:Int)≤s.other))∨(s.rule≠5∧s.other≠0) then(Diag.nil,1)
 else Diag.finish (Diag.rule {d with sc:=d.sc.form} s.rule s.at_.toNat s.other.toNat)
def Diag.do_ (d:Diag) (s:Rewrite):Diag × Int:=if d.check=0 then d.step s else(Diag.nil,d.check)
def Diag.try1 (d:Diag) (r:Int) (i:Nat):Nat→Nat→Option (Rewrite × Diag)
 |_,0=>none
 | k,n+1=>
  if r=5∧(k≤i∨(match d.ln[i]?,d.ln[k]? with|some a,some b=>a.alike b|_,_=>false)=false) then d.try1 r i (k+1) n
  else if (d.step ⟨r,i,k⟩).2=0 then some (⟨r,i,k⟩,(d.step ⟨r,i,k⟩).1) else d.try1 r i (k+1) n
def Diag.tries (d:Diag) (r:Int):Nat→Nat→Option (Rewrite × Diag)
 |_,0=>none
 | i,n+1=>
  if r=2∧d.kindAt i≠2 then d.tries r (i+1) n
  else match d.try1 r i 0 (if r=5 then d.ln.length else 1) with
   |some x=>some x
   |none=>d.tries r (i+1) n
def Diag.nextL (d:Diag):List Int→Option (Rewrite × Diag)
 |[]=>none
 | r::l=>match d.tries r 0 (if lined r then d.ln.length else d.sp.length) with
  |some x=>some x
  |none=>d.nextL l
def Diag.next (d:Diag):Option (Rewrite × Diag):=d.nextL [2,3,1,5,6,4,7,8]
def Diag.size (d:Diag):Nat:=d.sp.length*10000+d.sp.countP (fun s=>decide (s.kind=2))*200+d.ln.length
def Diag.simpL:Nat→Diag→List Rewrite→Diag × List Rewrite
 |0,d,l=>(d,l)
 | n+1,d,l=>match d.next with
  |none=>(d,l)
  |some (s,e)=>Diag.simpL n e (l++[s])
def Diag.simplify (d:Diag):Diag × List Rewrite × Int:=if d.check=0 then let x:=Diag.simpL (d.size+1) {d with sc:=d.sc.form} [];(x.1,x.2,0) else(Diag.nil,[],d.check)
end
section
open Go.RowKit Go.Shelf
variable {α:Type} {t:TypeId} {tl:List Value} {B:Nat} {p:Nat} {n:Nat} {w:World} {v:DV} {d:Diag}
theorem WK.len (h:WK t tl B w p v d):d.sp.length=v.n1∧d.ln.length=v.n2∧d.ins.length=v.n3∧d.outs.length=v.n4:=⟨h.own.n1,h.own.n2,h.own.n3,h.own.n4⟩
theorem WK.bigs (h:WK t tl B w p v d):v.n1≤9223372036854775807∧v.n2≤9223372036854775807∧v.n3≤9223372036854775807∧v.n4≤9223372036854775807:=⟨h.own.rd.sp.big,h.own.rd.ln.big,h.own.rd.ins.big,h.own.rd.outs.big⟩
theorem kindAt_of {s:Spider} (h:d.sp[n]?=some s):d.kindAt (n:Int)=s.kind:=by unfold Diag.kindAt;rw[Int.toNat_natCast,h]
theorem phaseAt_of {s:Spider} (h:d.sp[n]?=some s):d.phaseAt (n:Int)=s.phase:=by unfold Diag.phaseAt;rw[Int.toNat_natCast,h]
theorem get_of {l:List α} (h:n<l.length):∃x,l[n]?=some x:=⟨l[n],by simp[h]⟩
theorem is193 (h:WK t tl B w p v d) (n:Nat) (hn:n<d.sp.length) (q:Int):
  Calls Tryz.prog 193 #[pt p 0,n,q] w fun e w'=>e= .returned (.bool (d.kindAt n==q))∧w=w':=by
 obtain⟨s,hs⟩:=get_of hn;obtain⟨g,hA,k0,k1,_⟩:=h.own.spAt hs;obtain⟨c0,_,_,_,_,_,_,_,_,_⟩:=h.nine;have hl:=h.len.1;have hb:=h.bigs.1;rw[hA]at c0;rw[kindAt_of hs];have hlt:n<v.n1:=oM
 have hltz:(n:Int)<(v.n1:Int):=oM
 clear h hs hA hn hl;go_enter Tryz.func193,Tryz.ntmps193
 go_wp2
 go_ret
 exact⟨rfl,rfl⟩
theorem bent52 (h:WK t tl B w p v d) (f t':Nat) (ht:Bool) (hf:f<d.sp.length) (hg:t'<d.sp.length):
  Calls Tryz.prog 52 #[pt p 0, .agg #[f,t', .bool ht]] w fun e w'=>e= .returned (.bool (d.bent ⟨f,t',ht⟩))∧Below w.heap.size w w':=by
 obtain⟨s,hs⟩:=get_of hf;obtain⟨s',hs'⟩:=get_of hg;have h2:=h.alloc (.cells #[f,t', .bool ht] 77);obtain⟨g,hA,k0,k1,_⟩:=h2.own.spAt hs;obtain⟨g',hA',k0',k1',_⟩:=h2.own.spAt hs';obtain⟨c0,_,_,_,_,_,_,_,_,_⟩:=h2.nine;have hl:=h.len.1;have hb:=h.bigs.1;have hB0:=Blk.new w #[f,t', .bool ht] 77;have m0:=hB0.cell 0 _ rfl;have m1:=hB0.cell 1 _ rfl;have m2:=hB0.cell 2 _ rfl;have eg:g'=g:=by rw[hA]at hA';cases hA';rfl
 subst eg;rw[hA]at c0;have he:d.bent ⟨f,t',ht⟩=xor (xor ht (decide (s.kind=2))) (decide (s'.kind=2)):=by unfold Diag.bent;simp only[kindAt_of hs,kindAt_of hs']
 rw[he];have hlt:f<v.n1:=oM
 have hltz:(f:Int)<(v.n1:Int):=oM
 have hlt':t'<v.n1:=oM
 have hltz':(t':Int)<(v.n1:Int):=oM
 have hbA:Below w.heap.size w (w.alloc (.cells #[f,t', .bool ht] 77)):=bR.alloc (Nat.le_refl _) _;clear h h2 hs hs' hA hA' hf hg hl he hB0;go_enter Tryz.func52,Tryz.ntmps52
 go_wp2_with fail
 go_quiet (fail)
 go_wp2
 go_ret
 refine⟨?_,below_dN hbA _⟩
 congr 2
theorem modify_set {S:List Spider} {s:Spider} (h:S[n]?=some s) (f:Spider→Spider):S.modify n f=S.set n (f s):=by
 apply List.ext_getElem?
 intro j;have hl:=(List.getElem?_eq_some_iff.1 h).1;rw[List.getElem?_modify,List.getElem?_set]
 by_cases e:n=j
 · subst e;rw[h];simp[hl]
 simp[e]
theorem addPh_of {s:Spider} (h:d.sp[n]?=some s) (q:Int):d.addPh n q={d with sp:=d.sp.set n ⟨s.kind,(s.phase+q)%8⟩}:=by
 unfold Diag.addPh;rw[Int.toNat_natCast,modify_set h];rfl
theorem tmod8 (x:Int):x.tmod 8=if 0≤x then x%8 else -((-x)%8):=by
 by_cases h:0≤x
 · rw[if_pos h,Int.tmod_eq_emod_of_nonneg h]
 rw[if_neg h];have:x.tmod 8=-((-x).tmod 8):=by rw[Int.neg_tmod];omega
 rw[this,Int.tmod_eq_emod_of_nonneg oM]
theorem addmod8 (x:Int) (h:-2000≤x) (h2:x≤2000):(wrap64 (x.tmod 8+8)).tmod 8=x%8:=by
 have e1:=tmod8 x
 have e2:wrap64 (x.tmod 8+8)=x.tmod 8+8:=by
  unfold wrap64
  split at e1<;>omega
 rw[e2,Int.tmod_eq_emod_of_nonneg (by split at e1<;>omega)]
 split at e1<;>omega
theorem add195 (h:WK t tl B w p v d) (n:Nat) (hn:n<d.sp.length) (q:Int) (hq:-1000≤q) (hq1:q≤1000) (hp:∀s∈d.sp,0≤s.phase∧s.phase≤7):
  Calls Tryz.prog 195 #[pt p 0,n,q] w fun e w'=>(∃z,e= .returned z)∧WK t tl B w' p v (d.addPh n q)∧Upd p v w v w':=by
 obtain⟨s,hs⟩:=get_of hn;obtain⟨g,hA,k0,k1,kf⟩:=h.own.spAt hs;obtain⟨c0,_,_,_,_,_,_,_,_,_⟩:=h.nine;have hl:=h.len.1;have hb:=h.bigs.1;have hps:=hp s (List.mem_of_getElem? hs)
 have HR:Aside (WK t tl B (w.setCell ⟨g,n*2+1,none⟩ (.int .i64 ((s.phase+q)%8))) p v (d.addPh n q)∧Upd p v w v (w.setCell ⟨g,n*2+1,none⟩ (.int .i64 ((s.phase+q)%8)))):=by
  rw[addPh_of hs];exact h.rowSp hA hs 1 dE _ rfl
 rw[hA]at c0;have hlt:n<v.n1:=oM
 have hltz:(n:Int)<(v.n1:Int):=oM
 obtain⟨ph1,ph2⟩:=hps
 have hpn:g≠p:=by
  have:=h.np;rintro rfl;exact this (by simp[blks,hA,ownB])
 generalize s.phase=ph at *;clear hs hA hn hl h hp;go_enter Tryz.func195,Tryz.ntmps195
 go_wp2_with fail
 go_region
 all_goals (go_end0;rw[addmod8 _ oM oM];exact⟨⟨_,rfl⟩,HR.out.1.drew,HR.out.2.drew⟩)
def nilDV:DV:=⟨none,0,0,none,0,0,none,0,0,none,0,0⟩
theorem OwnD.nilD (B:Nat) (w:World):OwnD B w nilDV Diag.nil:=⟨World.ownsRow_nil _ _ _ _,World.ownsRow_nil _ _ _ _,World.ownsRow_nil _ _ _ _,World.ownsRow_nil _ _ _ _,by simp[blks,nilDV,ownB]⟩
abbrev diaV (v:DV) (s:Num):Value:= .agg (a9 v s)
def RetD (B:Nat) (r:Diag × Int) (w:World) (e:Ending) (w':World):Prop:=
 ∃v,e= .returned (.tuple #[diaV v r.1.sc,r.2])∧Aside (OwnD B w' v r.1)∧Below w.heap.size w w'
def resD (d:Diag) (e:Int):Diag × Int:=if e≠0 then(Diag.nil,e) else if 40<d.sp.length∨100<d.ln.length then(Diag.nil,2) else(d,0)
theorem xe1_0 {p:Prop} (h:p:=by
 rw[if_pos oM];clear hl1 hl2;go_enter Tryz.func70,Tryz.ntmps70
 go_wp2
 exact bodyPost_ret (v:= .tuple #[.agg #[.slice none 0 0, .slice none 0 0, .slice none 0 0, .slice none 0 0, .int .i64 0, .int .i64 0, .int .i64 0, .int .i64 0, .int .i64 0], .int .i64 2]) (by simp[results,Tryz.results70,go_sem,z0,z1,z2,z3,z4,z5,z6,z7,z8]) rfl ⟨nilDV,rfl,OwnD.nilD _ _,HbA.out _⟩):p:=h
theorem result70 (h:WK t tl B w p v d) (er:Int):
  Calls Tryz.prog 70 #[pt p 0,er] w (RetD B (resD d er) w):=by
 obtain⟨hl1,hl2,_,_⟩:=h.len;have hb1:=h.bigs.1;have hb2:=h.bigs.2.1;have hB0:=Blk.new w zA 28;have h2:=h.alloc (.cells zA 28);have c_c:=h2.nine;obtain⟨z0,z1,z2,z3,z4,z5,z6,z7,z8,zf⟩:=hB0.nine;unfold resD;have HO:Aside (∀o,OwnD B (w.alloc o) v d):=fun o=>(h.alloc o).own;have HbA:Aside (∀o,Below w.heap.size w (w.alloc o)):=fun o=>bR.alloc (Nat.le_refl _) _;clear h h2 hB0
 by_cases he:er=0
 · subst he;rw[if_neg sI]
   by_cases h3:40<v.n1
   · have h3z:(40:Int)<(v.n1:Int):=oM
     exact xe1_0
   have h3z:¬(40:Int)<(v.n1:Int):=oM
   by_cases h4:100<v.n2
   · have h4z:(100:Int)<(v.n2:Int):=oM
     exact xe1_0
   have h4z:¬(100:Int)<(v.n2:Int):=oM
   rw[if_neg oM];clear hl1 hl2;go_enter Tryz.func70,Tryz.ntmps70
   go_wp2
   exact bodyPost_ret (v:= .tuple #[diaV v d.sc, .int .i64 0]) (by simp[results,Tryz.results70,go_sem,z0,z1,z2,z3,z4,z5,z6,z7,z8,dcs]) rfl ⟨v,rfl,HO.out _,HbA.out _⟩
 rw[if_pos he];have he1:(er==0)=false:=by simpa using he
 have he2:(er != 0)=true:=by simpa using he
 clear hl1 hl2 he;go_enter Tryz.func70,Tryz.ntmps70
 go_wp2
 exact bodyPost_ret (v:= .tuple #[.agg #[.slice none 0 0, .slice none 0 0, .slice none 0 0, .slice none 0 0, .int .i64 0, .int .i64 0, .int .i64 0, .int .i64 0, .int .i64 0],er]) (by simp[results,Tryz.results70,go_sem,z0,z1,z2,z3,z4,z5,z6,z7,z8]) rfl ⟨nilDV,rfl,OwnD.nilD _ _,HbA.out _⟩
end
section
open Go.RowKit Go.Shelf
variable {α:Type} {g:Nat} {w:World} {w':World}
def PredP {α:Type} (g:Nat) (lb:Array Value) (arg:α→Value) (p:α→Bool) (xs:List α) (w:World):Prop:=
 ∀x∈xs,∀W,Below w.heap.size w W→Calls Tryz.prog g (#[arg x]++lb) W fun e W'=>e= .returned (.bool (p x))∧Below W.heap.size W W'
theorem PredP.below {lb:Array Value} {arg:α→Value} {p:α→Bool} {xs:List α} (h:PredP g lb arg p xs w) (hb:Below w.heap.size w w'):PredP g lb arg p xs w':=
 fun x hx W hW=>h x hx W (below_then hb hW)
theorem xc1_0 {p:Prop} (h:p:=by
 subst hA;clear hR;have hcall:=HP.out x (List.mem_of_getElem? hx);have X:Aside (xs[kk]?=some x):=hx;clear hx
 cases hq:p x with
 | true=>
  rw[hq]at hcall;have HC:=hcall _ hb;have HB:Aside (Below w.heap.size w _):=hb;clear hcall hb
  go_wp2_with (go_at_fn g;refine HC.mono ?_;rintro e w' ⟨rfl,hb2⟩)
  go_ret
  refine⟨?_,below_then HB.out hb2⟩
  rw[idxP_hit p xs kk x X.out hq M.out];rfl
 | false=>
  rw[hq]at hcall;have HC:=hcall _ hb;have HB:Aside (Below w.heap.size w _):=hb;clear hcall hb
  go_wp2_with (go_at_fn g;refine HC.mono ?_;rintro e w' ⟨rfl,hb2⟩)
  go_roundg (n-(kk+1))
  case measure=>omega
  refine⟨kk+1,oM,oM,by go_num,below_then HB.out hb2,(show Aside _ from fun j y hj hy=>?_)⟩
  by_cases e:j=kk
  · subst e;rw[X.out]at hy;cases hy
    exact hq
  exact M.out j y oM hy):p:=h
theorem xc1_1 {p:Prop} (h:p:=by
 have hltz:¬(kk:Int)<(n:Int):=oM
 have:kk=n:=oM
 subst this
 go_wp2
 go_ret
 refine⟨?_,hb⟩
 rw[idxP_miss p xs (fun y hy=>by
   obtain⟨j,hj⟩:=List.mem_iff_getElem?.1 hy
   exact M.out j y (by have:=(List.getElem?_eq_some_iff.1 hj).1;rw[hlen.out]at this;exact this) hj)]
 rfl):p:=h
theorem idxf148 (enc:α→List Value) (a1:α→Int) (henc:∀x,enc x=[.int .i64 (a1 x)]) (p:α→Bool) (g:Nat) (lb:Array Value)
  (eg:∀args w,(callFunc g args).run Tryz.prog w= .ok (.enter g args) w) (A:Option Addr) (n c:Nat) (xs:List α) (w:World)
  (hr:Rd 1 enc w A n xs) (hp:PredP g lb (fun x=> .int .i64 (a1 x)) p xs w):
  Calls Tryz.prog 148 #[.slice A n c, .func (.func g) #[] lb] w fun e w'=>e= .returned (.int .i64 (idxP p xs))∧Below w.heap.size w w':=by
 have hbig:=hr.big;have hlen:Aside (xs.length=n):=hr.len;have HR:Aside (Rd 1 enc w A n xs):=hr;have HP:Aside (PredP g lb (fun x=> .int .i64 (a1 x)) p xs w):=hp;clear hr hp;go_enter Tryz.func148,Tryz.ntmps148
 go_wp2
 go_loopg [5,8] n (fun gg _ s8 wr=>∃kk:Nat,kk≤n∧n-kk≤gg∧s8=kk∧Below w.heap.size w wr∧Aside (∀j y,j<kk→xs[j]?=some y→p y=false))
 case atStart=>exact⟨0,Nat.zero_le _,oM,rfl,Below.refl _ _,fun j y hj=>absurd hj (Nat.not_lt_zero _)⟩
 obtain⟨kk,hkk,hg,rfl,hb,M⟩:=hrel
 by_cases hlt:kk<n
 · have hltz:(kk:Int)<(n:Int):=oM
   have hR:=HR.out.below hb;obtain⟨x,hx⟩:∃x,xs[kk]?=some x:=⟨xs[kk]'(by rw[hlen.out];exact hlt),by simp⟩;obtain⟨b,o,hA,_,hc0⟩:=hR.at1 hx (henc x);exact xc1_0
 exact xc1_1
theorem conf130 (enc:α→List Value) (a1:α→Int) (henc:∀x,enc x=[.int .i64 (a1 x)]) (p:α→Bool) (g:Nat) (lb:Array Value)
  (eg:∀args w,(callFunc g args).run Tryz.prog w= .ok (.enter g args) w) (A:Option Addr) (n c:Nat) (xs:List α) (w:World)
  (hr:Rd 1 enc w A n xs) (hp:PredP g lb (fun x=> .int .i64 (a1 x)) p xs w):
  Calls Tryz.prog 130 #[.slice A n c, .func (.func g) #[] lb] w fun e w'=>e= .returned (.bool (xs.any p))∧Below w.heap.size w w':=by
 have hcon:=fun(W:World) (hb:Below w.heap.size w W)=>idxf148 enc a1 henc p g lb eg A n c xs W (hr.below hb) (hp.below hb);have HC:=hcon w bR;rw[←idxP_nonneg p xs];clear hcon hr hp;generalize idxP p xs=r at HC ⊢;go_enter Tryz.func130,Tryz.ntmps130
 go_wp2_with (go_at_call 148;refine HC.mono ?_;rintro e w' ⟨rfl,hb⟩)
 go_ret
 exact⟨rfl,hb⟩
theorem idxf146 (enc:α→List Value) (a1 a2:α→Int) (henc:∀x,enc x=[.int .i64 (a1 x), .int .i64 (a2 x)]) (p:α→Bool) (g:Nat) (lb:Array Value)
  (eg:∀args w,(callFunc g args).run Tryz.prog w= .ok (.enter g args) w) (A:Option Addr) (n c:Nat) (xs:List α) (w:World)
  (hr:Rd 2 enc w A n xs) (hp:PredP g lb (fun x=> .agg #[.int .i64 (a1 x), .int .i64 (a2 x)]) p xs w):
  Calls Tryz.prog 146 #[.slice A n c, .func (.func g) #[] lb] w fun e w'=>e= .returned (.int .i64 (idxP p xs))∧Below w.heap.size w w':=by
 have hbig:=hr.big;have hlen:Aside (xs.length=n):=hr.len;have HR:Aside (Rd 2 enc w A n xs):=hr;have HP:Aside (PredP g lb (fun x=> .agg #[.int .i64 (a1 x), .int .i64 (a2 x)]) p xs w):=hp;clear hr hp;go_enter Tryz.func146,Tryz.ntmps146
 go_wp2
 go_loopg [5,8] n (fun gg _ s8 wr=>∃kk:Nat,kk≤n∧n-kk≤gg∧s8=kk∧Below w.heap.size w wr∧Aside (∀j y,j<kk→xs[j]?=some y→p y=false))
 case atStart=>exact⟨0,Nat.zero_le _,oM,rfl,Below.refl _ _,fun j y hj=>absurd hj (Nat.not_lt_zero _)⟩
 obtain⟨kk,hkk,hg,rfl,hb,M⟩:=hrel
 by_cases hlt:kk<n
 · have hltz:(kk:Int)<(n:Int):=oM
   have hR:=HR.out.below hb;obtain⟨x,hx⟩:∃x,xs[kk]?=some x:=⟨xs[kk]'(by rw[hlen.out];exact hlt),by simp⟩;obtain⟨b,o,hA,_,hc0,hc1⟩:=hR.at2 hx (henc x);exact xc1_0
 exact xc1_1
theorem conf128 (enc:α→List Value) (a1 a2:α→Int) (henc:∀x,enc x=[.int .i64 (a1 x), .int .i64 (a2 x)]) (p:α→Bool) (g:Nat) (lb:Array Value)
  (eg:∀args w,(callFunc g args).run Tryz.prog w= .ok (.enter g args) w) (A:Option Addr) (n c:Nat) (xs:List α) (w:World)
  (hr:Rd 2 enc w A n xs) (hp:PredP g lb (fun x=> .agg #[.int .i64 (a1 x), .int .i64 (a2 x)]) p xs w):
  Calls Tryz.prog 128 #[.slice A n c, .func (.func g) #[] lb] w fun e w'=>e= .returned (.bool (xs.any p))∧Below w.heap.size w w':=by
 have hcon:=fun(W:World) (hb:Below w.heap.size w W)=>idxf146 enc a1 a2 henc p g lb eg A n c xs W (hr.below hb) (hp.below hb);have HC:=hcon w bR;rw[←idxP_nonneg p xs];clear hcon hr hp;generalize idxP p xs=r at HC ⊢;go_enter Tryz.func128,Tryz.ntmps128
 go_wp2_with (go_at_call 146;refine HC.mono ?_;rintro e w' ⟨rfl,hb⟩)
 go_ret
 exact⟨rfl,hb⟩
theorem idxf147 (enc:α→List Value) (a1 a2:α→Int) (a3:α→Bool) (henc:∀x,enc x=[.int .i64 (a1 x), .int .i64 (a2 x), .bool (a3 x)]) (p:α→Bool) (g:Nat) (lb:Array Value)
  (eg:∀args w,(callFunc g args).run Tryz.prog w= .ok (.enter g args) w) (A:Option Addr) (n c:Nat) (xs:List α) (w:World)
  (hr:Rd 3 enc w A n xs) (hp:PredP g lb (fun x=> .agg #[.int .i64 (a1 x), .int .i64 (a2 x), .bool (a3 x)]) p xs w):
  Calls Tryz.prog 147 #[.slice A n c, .func (.func g) #[] lb] w fun e w'=>e= .returned (.int .i64 (idxP p xs))∧Below w.heap.size w w':=by
 have hbig:=hr.big;have hlen:Aside (xs.length=n):=hr.len;have HR:Aside (Rd 3 enc w A n xs):=hr;have HP:Aside (PredP g lb (fun x=> .agg #[.int .i64 (a1 x), .int .i64 (a2 x), .bool (a3 x)]) p xs w):=hp;clear hr hp;go_enter Tryz.func147,Tryz.ntmps147
 go_wp2
 go_loopg [5,8] n (fun gg _ s8 wr=>∃kk:Nat,kk≤n∧n-kk≤gg∧s8=kk∧Below w.heap.size w wr∧Aside (∀j y,j<kk→xs[j]?=some y→p y=false))
 case atStart=>exact⟨0,Nat.zero_le _,oM,rfl,Below.refl _ _,fun j y hj=>absurd hj (Nat.not_lt_zero _)⟩
 obtain⟨kk,hkk,hg,rfl,hb,M⟩:=hrel
 by_cases hlt:kk<n
 · have hltz:(kk:Int)<(n:Int):=oM
   have hR:=HR.out.below hb;obtain⟨x,hx⟩:∃x,xs[kk]?=some x:=⟨xs[kk]'(by rw[hlen.out];exact hlt),by simp⟩;obtain⟨b,o,hA,_,hc0,hc1,hc2⟩:=hR.at3 hx (henc x);exact xc1_0
 exact xc1_1
theorem conf129 (enc:α→List Value) (a1 a2:α→Int) (a3:α→Bool) (henc:∀x,enc x=[.int .i64 (a1 x), .int .i64 (a2 x), .bool (a3 x)]) (p:α→Bool) (g:Nat) (lb:Array Value)
  (eg:∀args w,(callFunc g args).run Tryz.prog w= .ok (.enter g args) w) (A:Option Addr) (n c:Nat) (xs:List α) (w:World)
  (hr:Rd 3 enc w A n xs) (hp:PredP g lb (fun x=> .agg #[.int .i64 (a1 x), .int .i64 (a2 x), .bool (a3 x)]) p xs w):
  Calls Tryz.prog 129 #[.slice A n c, .func (.func g) #[] lb] w fun e w'=>e= .returned (.bool (xs.any p))∧Below w.heap.size w w':=by
 have hcon:=fun(W:World) (hb:Below w.heap.size w W)=>idxf147 enc a1 a2 a3 henc p g lb eg A n c xs W (hr.below hb) (hp.below hb);have HC:=hcon w bR;rw[←idxP_nonneg p xs];clear hcon hr hp;generalize idxP p xs=r at HC ⊢;go_enter Tryz.func129,Tryz.ntmps129
 go_wp2_with (go_at_call 147;refine HC.mono ?_;rintro e w' ⟨rfl,hb⟩)
 go_ret
 exact⟨rfl,hb⟩
end
section
open Go.RowKit Go.Shelf
theorem zero104 (a b c d k:Int) (w:World):
  Calls Tryz.prog 104 #[.agg #[a,b,c,d,k]] w fun e w'=>e= .returned (.bool (isZ a b c d))∧Below w.heap.size w w':=by
 go_enter Tryz.func104,Tryz.ntmps104
 go_wp2
 all_goals (go_ret;refine⟨?_,bR.alloc (Nat.le_refl _) _⟩;unfold isZ;simp[*];try rfl)
theorem even105 (a b c d k:Int) (w:World):
  Calls Tryz.prog 105 #[.agg #[a,b,c,d,k]] w fun e w'=>e= .returned (.bool (evB a b c d))∧Below w.heap.size w w':=by
 have ha:=i64_and1 a;have hb:=i64_and1 b;have hc:=i64_and1 c;have hd:=i64_and1 d;go_enter Tryz.func105,Tryz.ntmps105
 go_wp2
 all_goals (go_ret;refine⟨?_,bR.alloc (Nat.le_refl _) _⟩;unfold evB;simp[*];try rfl)
theorem halved106 (a b c d k:Int) (w:World) (ha:-4611686018427387904≤a) (ha':a≤4611686018427387904) (hb:-4611686018427387904≤b) (hb':b≤4611686018427387904) (hc:-4611686018427387904≤c) (hc':c≤4611686018427387904) (hd:-4611686018427387904≤d) (hd':d≤4611686018427387904):
  Calls Tryz.prog 106 #[.agg #[a,b,c,d,k]] w fun e w'=>
    e= .returned (.agg #[.int .i64 (b / 2-d / 2), .int .i64 (a / 2+c / 2+a%2), .int .i64 (b / 2+d / 2+b%2), .int .i64 (c / 2-a / 2),k])∧Below w.heap.size w w':=by
 have ea:=i64_and1 a;have eb:=i64_and1 b;go_enter Tryz.func106,Tryz.ntmps106
 go_wp2
 refine bodyPost_ret (v:= .agg #[.int .i64 (b / 2-d / 2), .int .i64 (a / 2+c / 2+a%2), .int .i64 (b / 2+d / 2+b%2), .int .i64 (c / 2-a / 2),k]) (by simp[results,Tryz.results106,go_sem]) rfl ⟨rfl,?_⟩
 exact(bR.alloc (Nat.le_refl _) _).alloc sI _
theorem beyond134 (a b c d k l:Int) (w:World) (hl:0≤l) (hl':l≤1099511627776):
  Calls Tryz.prog 134 #[.agg #[a,b,c,d,k],l] w fun e w'=>e= .returned (.bool (byndB a b c d l))∧Below w.heap.size w w':=by
 go_enter Tryz.func134,Tryz.ntmps134
 go_wp2
 all_goals (go_ret;refine⟨?_,bR.alloc (Nat.le_refl _) _⟩;unfold byndB;simp[*];try omega)
theorem check93 (a b c d k:Int) (w:World):
  Calls Tryz.prog 93 #[.agg #[a,b,c,d,k]] w fun e w'=>e= .returned (.int .i64 (Num.check ⟨a,b,c,d,k⟩))∧Below w.heap.size w w':=by
 have hcon:=fun W=>beyond134 a b c d k 1073741824 W oM oM
 by_cases h1:k<0
 · have e1:Num.check ⟨a,b,c,d,k⟩=3:=by unfold Num.check;rw[if_pos (Or.inl h1)]
   rw[e1];clear e1;go_enter Tryz.func93,Tryz.ntmps93
   go_wp2_with fail
   go_ret
   exact⟨rfl,bR.alloc (Nat.le_refl _) _⟩
 by_cases h2:60<k
 · have e1:Num.check ⟨a,b,c,d,k⟩=3:=by unfold Num.check;rw[if_pos (Or.inr h2)]
   rw[e1];clear e1;go_enter Tryz.func93,Tryz.ntmps93
   go_wp2_with fail
   go_ret
   exact⟨rfl,bR.alloc (Nat.le_refl _) _⟩
 have e1:Num.check ⟨a,b,c,d,k⟩=if byndB a b c d 1073741824 then 8 else 0:=by unfold Num.check;rw[if_neg (by simp;omega)]
 rw[e1];clear e1;generalize byndB a b c d 1073741824=q at hcon ⊢;go_enter Tryz.func93,Tryz.ntmps93
 go_wp2_with (go_at_call 134;refine(hcon _).mono ?_;rintro e w' ⟨rfl,hb⟩)
 all_goals (go_ret;refine⟨?_,below_then (bR.alloc (Nat.le_refl _) _) hb⟩;simp[*])
end
end Go.Proofs.YtcoackmdmohnhaaGreatDoor
