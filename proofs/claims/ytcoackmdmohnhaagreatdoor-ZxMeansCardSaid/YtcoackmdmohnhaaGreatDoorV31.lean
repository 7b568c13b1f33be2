/- Contracts of functions, and plain lemmas; each theorem's conditions stand in its statement. -/
import Derived.Test.YtcoackmdmohnhaaGreatDoorV30
import Derived.Test.YtcoackmdmohnhaaGreatDoorV22
import Derived.Deep.LoopGhost
import Derived.Deep.Draws
import Derived.Shelf.Abstract
import Derived.LoopTactic
import Derived.Deep.QuietTactic
import Derived.BigQuiet
import Derived.Deep.RegionHeld3
import Derived.Deep.RegionHeldLaw
import Derived.RegionTactic
import Derived.BigRegion
import Derived.WalkLawsBesides
import Derived.Laws.EntriesVeiled
import Derived.Laws.StructEq
import Derived.Deep.DeepCutAuto
import Derived.Handy
import Derived.IntWalk
set_option linter.unusedVariables false
set_option linter.unusedSimpArgs false
set_option maxHeartbeats 2000000
namespace Go.Proofs.YtcoackmdmohnhaaGreatDoor
section
open Go.RowKit Go.Shelf
theorem Rd.at2' {w:World} {A:Option Addr} {n:Nat} {xs:List Spider} (h:Rd 2 spC w A n xs) {i j:Nat} {s s':Spider} (hs:xs[i]?=some s) (hs':xs[j]?=some s'):∃b o,A=some ⟨b,o,none⟩∧w.cell? ⟨b,o+i*2,none⟩=some (.int .i64 s.kind)∧w.cell? ⟨b,o+j*2,none⟩=some (.int .i64 s'.kind):=by
  obtain⟨b,o,hA,_,r0,_⟩:=h.at2 hs rfl
  obtain⟨b',o',hA',_,r0',_⟩:=h.at2 hs' rfl
  rw[hA]at hA'
  cases hA'
  exact⟨b,o,hA,r0,r0'⟩
theorem bent55 {v:DV} {d:Diag} {w:World} (hd:DRd w v d) (hn:v.n1≤100000) (f t':Nat) (ht:Bool) (hf:f<d.sp.length) (hg:t'<d.sp.length):
    Calls Tryz.prog 55 #[diaV v d.sc, .agg #[.int .i64 f, .int .i64 t', .bool ht]] w fun e w'=>e= .returned (.bool (d.bent ⟨f,t',ht⟩))∧Below w.heap.size w w':=by
  obtain⟨s,hs⟩:=get_of hf
  obtain⟨s',hs'⟩:=get_of hg
  obtain⟨W,hW⟩:∃W,W=(w.alloc (.cells #[.slice v.A1 v.n1 v.c1, .slice v.A2 v.n2 v.c2, .slice v.A3 v.n3 v.c3, .slice v.A4 v.n4 v.c4, .int .i64 d.sc.a, .int .i64 d.sc.b, .int .i64 d.sc.c, .int .i64 d.sc.d, .int .i64 d.sc.k] 28)).alloc (.cells #[.int .i64 f, .int .i64 t', .bool ht] 77):=⟨_,rfl⟩
  have hX1:Blk W w.heap.size [.slice v.A1 v.n1 v.c1, .slice v.A2 v.n2 v.c2, .slice v.A3 v.n3 v.c3, .slice v.A4 v.n4 v.c4, .int .i64 d.sc.a, .int .i64 d.sc.b, .int .i64 d.sc.c, .int .i64 d.sc.d, .int .i64 d.sc.k] 28:=by
    rw[hW]
    exact(Blk.new w #[.slice v.A1 v.n1 v.c1, .slice v.A2 v.n2 v.c2, .slice v.A3 v.n3 v.c3, .slice v.A4 v.n4 v.c4, .int .i64 d.sc.a, .int .i64 d.sc.b, .int .i64 d.sc.c, .int .i64 d.sc.d, .int .i64 d.sc.k] 28).alloc _
  have hX2:Blk W (w.heap.size+1) [.int .i64 f, .int .i64 t', .bool ht] 77:=by
    rw[hW]
    have h9:=Blk.new (w.alloc (.cells #[.slice v.A1 v.n1 v.c1, .slice v.A2 v.n2 v.c2, .slice v.A3 v.n3 v.c3, .slice v.A4 v.n4 v.c4, .int .i64 d.sc.a, .int .i64 d.sc.b, .int .i64 d.sc.c, .int .i64 d.sc.d, .int .i64 d.sc.k] 28)) #[.int .i64 f, .int .i64 t', .bool ht] 77
    simpa using h9
  have hBW:Below w.heap.size w W:=by rw[hW];exact((Below.refl _ _).alloc (Nat.le_refl _) _).alloc (by simp) _
  obtain⟨b,o,hA,r0,r1⟩:=(hd.below hBW).sp.at2' hs hs'
  have he:d.bent ⟨f,t',ht⟩=xor (xor ht (decide (s.kind=2))) (decide (s'.kind=2)):=by unfold Diag.bent;simp only[kindAt_of hs,kindAt_of hs']
  have hl:=hd.sp.len
  obtain⟨a0,-,-,-,-,-,-,-,-,-⟩:=hX1.nine
  obtain⟨m0,m1,m2,mf⟩:=hX2.three
  rw[hA]at a0
  have HAA:=Lib.hid hA
  have HBW:=Lib.hid hBW
  rw[he]
  have hfz:(f:Int)<(v.n1:Int):=by omega
  have htz:(t':Int)<(v.n1:Int):=by omega
  have HW:=Lib.hid hW
  clear hd hs hs' hf hg hX1 hX2 hBW hl he hA
  by_cases h1:s.kind=2
  all_goals by_cases h2:s'.kind=2
  all_goals
    go_enter Tryz.func55,Tryz.ntmps55
    go_upto_region 1 with fail
    rw[←HW.out]
    clear hW
    go_wp2_with fail
    refine bodyPost_ret (v:= .bool (xor (xor ht (decide (s.kind=2))) (decide (s'.kind=2)))) (by simp[results,Tryz.results55,go_sem,h1,h2]) rfl ⟨rfl,HBW.out⟩
theorem Num.bd_half {m:Int} {x:Num} (h:Bd m x.a x.b x.c x.d) (he:x.ev=true):Bd m x.half.a x.half.b x.half.c x.half.d:=by
  rw[Num.ev_iff]at he
  unfold Bd Num.half at *
  dsimp only
  omega
theorem Num.bd_down {m:Int}:∀(n:Nat) (x:Num),Bd m x.a x.b x.c x.d→Bd m (Num.down n x).a (Num.down n x).b (Num.down n x).c (Num.down n x).d∧(Num.down n x).k≤x.k
  |0,x,h=>⟨h,Int.le_refl _⟩
  | n +1,x,h=>by
    by_cases he:x.ev=true
    · rw[Num.down_ev he]
      obtain⟨h1,h2⟩:=Num.bd_down n x.half (Num.bd_half h he)
      exact⟨h1,Int.le_trans h2 (by simp only[Num.half];omega)⟩
    · rw[Num.down_nev (by simpa using he)]
      exact⟨h,Int.le_refl _⟩
theorem Num.bd_form {m:Int} {x:Num} (hm:0≤m) (hk:0≤x.k) (h:Bd m x.a x.b x.c x.d):Bd m x.form.a x.form.b x.form.c x.form.d∧0≤x.form.k∧x.form.k≤x.k:=by
  have h0:=(Num.low_form x hk).1
  cases hz:x.z with
  | true=>
    rw[Num.form_z hz]
    exact⟨by unfold Bd Num.nil;dsimp only;omega,Int.le_refl _,hk⟩
  | false=>
    obtain⟨h1,h2⟩:=Num.bd_down x.k.toNat x h
    rw[Num.form_nz hz]at h0 ⊢
    exact⟨h1,h0,h2⟩
end
section
open Go.RowKit Go.Shelf
def Diag.phAt (d:Diag) (x:Int):Int:=match d.sp[x.toNat]? with
  |some s=>s.phase
  |none=>0
theorem phAt_of {d:Diag} {n:Nat} {s:Spider} (h:d.sp[n]?=some s):d.phAt (n:Int)=s.phase:=by
  unfold Diag.phAt
  rw[Int.toNat_natCast,h]
def Diag.phR (d:Diag) (m:Nat):Nat→List Int→Int
  |_,[]=>0
  |i,x::l=>(if bitI m i then d.phAt x else 0)+d.phR m (i+1) l
def Diag.lnR (d:Diag) (b:List Bool) (a:Int × Bool) (l:Line):Int × Bool:=
  if d.bent l then(a.1+(if b.getD l.f.toNat false&&b.getD l.t.toNat false then 4 else 0),a.2) else(a.1,a.2&&(b.getD l.f.toNat false==b.getD l.t.toNat false))
def Diag.prodR (d:Diag) (m:Nat) (ns:List Int) (b:List Bool):Int × Bool:=d.ln.foldl (d.lnR b) (d.phR m 0 ns,true)
def addS (r:Int × Bool) (s:List Int):List Int:=if r.2=true then s.set (r.1%8).toNat (s.getD (r.1%8).toNat 0+1) else s
def Diag.sumR (d:Diag) (ns:List Int):Nat→Nat→List Bool→List Int→List Bool × List Int
  |0,_,b,s=>(b,s)
  |n+1,m,b,s=>d.sumR ns n (m+1) (setB m 0 ns b) (addS (d.prodR m ns (setB m 0 ns b)) s)
def Num.sharesR (x:Num) (s0 s1 s2 s3 s4 s5 s6 s7:Int) (roots:Int):Num × Int:=(x.mulX (Num.form ⟨s0-s4,s1-s5,s2-s6,s3-s7,roots⟩)).form.right
def Diag.cellR (d:Diag) (col:Nat) (b:List Bool):List Bool × Num × Int:=
  let r:=d.sumR d.inside (2 ^ d.inside.length) 0 (setB col 0 d.ins b) [0,0,0,0,0,0,0,0]
  let s:=r.2
  let x:=d.sc.sharesR (s.getD 0 0) (s.getD 1 0) (s.getD 2 0) (s.getD 3 0) (s.getD 4 0) (s.getD 5 0) (s.getD 6 0) (s.getD 7 0) d.roots
  (r.1,x.1,x.2)
def Diag.meanRR (d:Diag):Nat→Nat→List Bool→List Num→List Bool × List Num × Int
  |0,_,b,l=>(b,l,0)
  | n+1,col,b,l=>
    let x:=d.cellR col b
    if x.2.2=0 then d.meanRR n (col+1) x.1 (l++[x.2.1]) else(x.1,l,x.2.2)
def Diag.meanLR (d:Diag):Nat→Nat→List Bool→List (List Num)→List (List Num) × Int
  |0,_,_,o=>(o,0)
  | n+1,row,b,o=>
    let x:=d.meanRR (2 ^ d.ins.length) 0 (setB row 0 d.outs b) []
    if x.2.2=0 then d.meanLR n (row+1) x.1 (o++[x.2.1]) else([],x.2.2)
def Diag.meaningR (d:Diag):List (List Num) × Int:=
  if d.check≠0 then([],d.check)
  else if 6<d.sp.length-d.inside.length∨10<d.inside.length then([],2)
  else d.meanLR (2 ^ d.outs.length) 0 (List.replicate d.sp.length false) []
theorem setB_out (m:Nat):∀(l:List Int) (i:Nat) (b:List Bool) (p:Nat),(p:Int)∉l→(∀x∈l,0≤x)→(setB m i l b)[p]?=b[p]?
  |[],i,b,p,_,_=>rfl
  | x::l,i,b,p,h,h0=>by
    simp only[setB]
    rw[setB_out m l (i+1) _ p (fun hm=>h (by simp[hm])) (fun y hy=>h0 y (by simp[hy]))]
    have h1 : x.toNat ≠ p := fun e => h (by have:=h0 x (by simp);have:x=(p:Int):=by omega
                                            simp[this])
    rw[List.getElem?_set_ne h1]
theorem setB_in (m:Nat):∀(l:List Int) (i j:Nat) (b:List Bool) (p:Nat),l[j]?=some (p:Int)→l.Nodup→(∀x∈l,0≤x)→p<b.length→(setB m i l b)[p]?=some (bitI m (i+j))
  |[],i,j,b,p,h,_,_,_=>by simp at h
  | x::l,i,0,b,p,h,hn,h0,hp=>by
    simp at h
    subst h
    simp only[setB]
    rw[setB_out m l (i+1) _ p (List.nodup_cons.1 hn).1 (fun y hy=>h0 y (by simp[hy])),Int.toNat_natCast,List.getElem?_set_self hp]
    rfl
  | x::l,i,j+1,b,p,h,hn,h0,hp=>by
    simp only[setB]
    rw[setB_in m l (i+1) j _ p (by simpa using h) (List.nodup_cons.1 hn).2 (fun y hy=>h0 y (by simp[hy])) (by simpa using hp)]
    congr 2
    omega
def Ag (ns:List Int) (m:Nat) (b:List Bool):Prop:=∀(j p:Nat),ns[j]?=some (p:Int)→b[p]?=some (bitI m j)
theorem Ag.set {ns:List Int} (m:Nat) {b:List Bool} (hn:ns.Nodup) (h:∀x∈ns,0≤x∧x<(b.length:Int)):Ag ns m (setB m 0 ns b):=fun j p hj=>by
  have h1:=h _ (List.mem_of_getElem? hj)
  have h2:=setB_in m ns 0 j b p hj hn (fun x hx=>(h x hx).1) (by omega)
  rw[Nat.zero_add]at h2
  exact h2
theorem Ag.keep {ns l:List Int} {m m' i:Nat} {b:List Bool} (h:Ag ns m b) (hd:∀x∈ns,x∉l) (h0:∀x∈l,0≤x):Ag ns m (setB m' i l b):=fun j p hj=>by
  rw[setB_out m' l i b p (hd _ (List.mem_of_getElem? hj)) h0]
  exact h j p hj
structure Diag.Rt (d:Diag):Prop where
  inN:d.inside.Nodup
  isN:d.ins.Nodup
  ouN:d.outs.Nodup
  io:∀x∈d.ins,x∉d.outs
  ii:∀x∈d.ins,x∉d.inside
  oi:∀x∈d.outs,x∉d.inside
  cov:∀p:Nat,p<d.sp.length→(p:Int)∈d.inside∨(p:Int)∈d.ins∨(p:Int)∈d.outs
  inR:∀x∈d.inside,0≤x∧x<(d.sp.length:Int)
  isR:∀x∈d.ins,0≤x∧x<(d.sp.length:Int)
  ouR:∀x∈d.outs,0≤x∧x<(d.sp.length:Int)
  ph:∀s∈d.sp,s.kind=0→s.phase=0
theorem insideL_nodup:∀(l:List Spider) (n:Nat),(insideL n l).Nodup
  |[],n=>by simp[insideL]
  | s::l,n=>by
    have ih:=insideL_nodup l (n+1)
    simp only[insideL]
    split
    · exact List.nodup_cons.2 ⟨fun hm=>by have:=insideL_mem l (n+1) _ hm;omega,ih⟩
    · exact ih
theorem insideL_kind:∀(l:List Spider) (n k:Nat),((n+k:Nat):Int)∈insideL n l↔∃s,l[k]?=some s∧s.kind≠0
  |[],n,k=>by simp[insideL]
  | s::l,n,0=>by
    simp only[insideL,Nat.add_zero,List.getElem?_cons_zero,Option.some.injEq,exists_eq_left']
    have h1:(n:Int)∉insideL (n+1) l:=fun hm=>by have:=insideL_mem l (n+1) _ hm;omega
    by_cases h:s.kind=0
    · simp[h,h1]
    · simp[h]
  | s ::l,n,k+1=>by
    have ih:=insideL_kind l (n+1) k
    rw[show n+1+k=n+(k+1) by omega]at ih
    simp only[insideL,List.getElem?_cons_succ]
    rw[←ih]
    split
    · rw[List.mem_cons]
      exact⟨fun h=>h.resolve_left (by omega), .inr⟩
    · exact Iff.rfl
theorem Diag.rt {d:Diag} (h:d.check=0):d.Rt:=by
  have ho:=Diag.ok_of_check h
  obtain⟨_,hs,⟨_,he⟩,hn,hc,_⟩:=check_parts h
  have hn':=List.nodup_append.1 (show (d.ins++d.outs).Nodup from hn)
  have hI:∀p:Nat,(p:Int)∈d.inside↔∃s,d.sp[p]?=some s∧s.kind≠0:=fun p=>by
    have:=insideL_kind d.sp 0 p
    rw[Nat.zero_add]at this
    exact this
  have hE:∀x∈d.ends,x∉d.inside:=by
    intro x hx hm
    rw[List.any_eq_false]at he
    have h3:=he x hx
    simp only[Diag.badEnd,outI,Bool.or_eq_true,decide_eq_true_eq,not_or,Bool.not_eq_true',decide_eq_false_iff_not,Decidable.not_not]at h3
    obtain⟨⟨h4,h5⟩,h6⟩:=h3
    obtain⟨k,rfl⟩:=Int.eq_ofNat_of_zero_le (show 0≤x by omega)
    obtain⟨s,h7,h8⟩:=(hI k).1 hm
    rw[kindAt_of h7]at h6
    exact h8 h6
  refine⟨insideL_nodup _ _,hn'.1,hn'.2.1,fun x h1 h2=>hn'.2.2 x h1 x h2 rfl,fun x hx=>hE x (List.mem_append.2 (.inl hx)),fun x hx=>hE x (List.mem_append.2 (.inr hx)),fun p hp=>?_,fun x hx=>?_,ho.ins,ho.outs,fun s hx h0=>?_⟩
  · obtain⟨s,hs⟩:=get_of hp
    by_cases hk:s.kind=0
    · right
      have h1:¬d.clash p=true:=fun h2=>by
        have:=(clashes_drop d d.sp 0).2 ⟨p,s,hs,hk,by rw[Nat.zero_add];exact h2⟩
        rw[hc]at this
        cases this
      simp only[Diag.clash,Bool.or_eq_true,not_or,Bool.not_eq_true',decide_eq_false_iff_not,Decidable.not_not]at h1
      exact List.mem_append.1 h1.1.2
    · exact .inl ((hI p).2 ⟨s,hs,hk⟩)
  · have:=insideL_mem d.sp 0 x hx
    omega
  · rw[List.any_eq_false]at hs
    have h1:=hs s hx
    unfold badSp at h1
    simp only[Bool.or_eq_true,Bool.and_eq_true,Bool.not_eq_true',decide_eq_true_eq,decide_eq_false_iff_not,not_or,not_and,Decidable.not_not]at h1
    omega
theorem setB_ext {d:Diag} (h:d.Rt) {row col:Nat} (m:Nat) {b b':List Bool} (hl:b.length=d.sp.length) (hl':b'.length=d.sp.length) (hi:Ag d.ins col b) (hi':Ag d.ins col b') (ho:Ag d.outs row b) (ho':Ag d.outs row b'):setB m 0 d.inside b=setB m 0 d.inside b':=by
  apply List.ext_getElem?
  intro p
  by_cases hp:p<d.sp.length
  · by_cases hm:(p:Int)∈d.inside
    · obtain⟨j,hj⟩:=List.getElem?_of_mem hm
      rw[setB_in m _ 0 j b p hj h.inN (fun x hx=>(h.inR x hx).1) (by omega),setB_in m _ 0 j b' p hj h.inN (fun x hx=>(h.inR x hx).1) (by omega)]
    · rw[setB_out m _ 0 b p hm (fun x hx=>(h.inR x hx).1),setB_out m _ 0 b' p hm (fun x hx=>(h.inR x hx).1)]
      rcases (h.cov p hp).resolve_left hm with h1|h1
      · obtain⟨j,hj⟩:=List.getElem?_of_mem h1
        rw[hi j p hj,hi' j p hj]
      · obtain⟨j,hj⟩:=List.getElem?_of_mem h1
        rw[ho j p hj,ho' j p hj]
  · rw[List.getElem?_eq_none (by rw[setB_len];omega),List.getElem?_eq_none (by rw[setB_len];omega)]
theorem powZ_phR (d:Diag) (m:Nat) (K:List Bool) (hK:K.length=d.sp.length):∀(l:List Spider) (n i:Nat),d.sp.drop n=l→(∀s∈l,s.kind=0→s.phase=0)→(∀(j p:Nat),(insideL n l)[j]?=some (p:Int)→K[p]?=some (bitI m (i+j)))→powZ l (K.drop n)=d.phR m i (insideL n l)
  |[],n,i,_,_,_=>by simp[powZ,insideL,Diag.phR]
  | s ::l,n,i,hd,hp,hA=>by
    have hn:d.sp[n]?=some s:=by rw[←List.head?_drop,hd];rfl
    have hlt:n<d.sp.length:=(List.getElem?_eq_some_iff.1 hn).1
    have hdr:d.sp.drop (n+1)=l:=by rw[←List.drop_drop,hd];rfl
    have hKn:K[n]?=some (K.getD n false):=getD_of (by omega) false
    rw[drop_cons hKn]
    simp only[powZ,insideL]
    by_cases hk:s.kind=0
    · simp only[hk,ne_eq,not_true_eq_false,if_false]
      rw[powZ_phR d m K hK l (n+1) i hdr (fun x hx=>hp x (by simp[hx])) (fun j p hj=>hA j p (by simp only[insideL,hk,ne_eq,not_true_eq_false,if_false];exact hj)),hp s (by simp) hk]
      split<;>omega
    · simp only[hk,ne_eq,not_false_eq_true,if_true,Diag.phR]
      have h0:=hA 0 n (by simp[insideL,hk])
      rw[hKn]at h0
      rw[powZ_phR d m K hK l (n+1) (i+1) hdr (fun x hx=>hp x (by simp[hx])) (fun j p hj=>by
        have h9:=hA (j+1) p (by simp only[insideL,hk,ne_eq,not_false_eq_true,if_true,List.getElem?_cons_succ];exact hj)
        rw[show i+1+j=i+(j+1) by omega]
        exact h9),phAt_of hn]
      simp only[Nat.add_zero,Option.some.injEq]at h0
      rw[h0]
theorem lnR_false (d:Diag) (b:List Bool):∀(ls:List Line) (a:Int),(ls.foldl (d.lnR b) (a,false)).2=false
  |[],a=>rfl
  | l::ls,a=>by
    simp only[List.foldl_cons]
    unfold Diag.lnR
    split<;>exact lnR_false d b ls _
theorem prodL_lnR (d:Diag) (b:List Bool):∀(ls:List Line) (a:Int),match d.prodL b a ls with
    |none=>(ls.foldl (d.lnR b) (a,true)).2=false
    |some q=>ls.foldl (d.lnR b) (a,true)=(q,true)
  |[],a=>rfl
  | l ::ls,a=>by
    have e:d.lnR b (a,true) l=match d.lineP b l with
      |none=>(a,false)
      |some q=>(a+q,true):=by
      unfold Diag.lnR Diag.lineP
      cases d.bent l<;>cases b.getD l.f.toNat false<;>cases b.getD l.t.toNat false<;>simp
    simp only[List.foldl_cons,Diag.prodL]
    rw[e]
    cases hq:d.lineP b l with
    |none=>exact lnR_false d b ls a
    |some q=>exact prodL_lnR d b ls (a+q)
theorem prodR_eq {d:Diag} (h:d.Rt) (m:Nat) {b:List Bool} (hl:b.length=d.sp.length):(d.prodR m d.inside (setB m 0 d.inside b)).2=(d.prod (setB m 0 d.inside b)).2∧((d.prod (setB m 0 d.inside b)).2=true→(d.prodR m d.inside (setB m 0 d.inside b)).1%8=(d.prod (setB m 0 d.inside b)).1):=by
  have hA:=Ag.set m (b:=b) h.inN (fun x hx=>by rw[hl];exact h.inR x hx)
  have hlK:(setB m 0 d.inside b).length=d.sp.length:=by rw[setB_len];exact hl
  generalize setB m 0 d.inside b=K at hA hlK
  have h1:=powZ_phR d m K hlK d.sp 0 0 rfl h.ph (fun j p hj=>by rw[Nat.zero_add];exact hA j p hj)
  rw[List.drop_zero]at h1
  have h2:=prodL_lnR d K d.ln (powZ d.sp K)
  unfold Diag.prodR Diag.prod
  rw[show d.phR m 0 d.inside=powZ d.sp K from h1.symm]
  generalize d.prodL K (powZ d.sp K) d.ln=o at h2
  cases o with
  |none=>exact⟨h2,fun h=>by cases h⟩
  | some q=>
    simp only at h2
    rw[h2]
    exact⟨rfl,fun _=>rfl⟩
theorem sumR_eq {d:Diag} (h:d.Rt):∀(n m:Nat) (b:List Bool) (s:List Int),b.length=d.sp.length→d.sumR d.inside n m b s=d.sumL d.inside n m b s
  |0,m,b,s,_=>rfl
  | n +1,m,b,s,hl=>by
    obtain⟨h1,h2⟩:=prodR_eq h m hl
    simp only[Diag.sumR,Diag.sumL]
    have e:addS (d.prodR m d.inside (setB m 0 d.inside b)) s=if (d.prod (setB m 0 d.inside b)).2=true then s.set (d.prod (setB m 0 d.inside b)).1.toNat (s.getD (d.prod (setB m 0 d.inside b)).1.toNat 0+1) else s:=by
      unfold addS
      rw[h1]
      by_cases hq:(d.prod (setB m 0 d.inside b)).2=true
      · rw[if_pos hq,if_pos hq,h2 hq]
      · rw[if_neg hq,if_neg hq]
    rw[e]
    exact sumR_eq h n (m+1) _ _ (by rw[setB_len];exact hl)
theorem sumL_ag {d:Diag} {ns:List Int} {m0:Nat} (hd:∀x∈ns,x∉d.inside) (h0:∀x∈d.inside,0≤x):∀(n m:Nat) (b:List Bool) (s:List Int),Ag ns m0 b→Ag ns m0 (d.sumL d.inside n m b s).1
  |0,m,b,s,h=>h
  | n+1,m,b,s,h=>by
    simp only[Diag.sumL]
    exact sumL_ag hd h0 n (m+1) _ _ (h.keep hd h0)
theorem sumL_len (d:Diag) (ns:List Int):∀(n m:Nat) (b:List Bool) (s:List Int),(d.sumL ns n m b s).1.length=b.length
  |0,m,b,s=>rfl
  | n+1,m,b,s=>by
    simp only[Diag.sumL]
    rw[sumL_len d ns n (m+1),setB_len]
theorem sumL_sc (d:Diag) (x:Num) (ns:List Int):∀(n m:Nat) (b:List Bool) (s:List Int),({d with sc:=x}:Diag).sumL ns n m b s=d.sumL ns n m b s
  |0,m,b,s=>rfl
  | n + 1,m,b,s=>by
    have e:∀b,({d with sc:=x}:Diag).prod b=d.prod b:=fun b=>by
      have h:∀(ls:List Line) (a:Int),({d with sc:=x}:Diag).prodL b a ls=d.prodL b a ls:=by
        intro ls
        induction ls with
        |nil=>intro a;rfl
        | cons l ls ih=>
          intro a
          simp only[Diag.prodL]
          rw[show ({d with sc:=x}:Diag).lineP b l=d.lineP b l from rfl]
          split
          · rfl
          · exact ih _
      unfold Diag.prod
      rw[h]
    simp only[Diag.sumL,e]
    exact sumL_sc d x ns n (m+1) _ _
theorem shares_eq (x:Num) (hx:0≤x.k) (s0 s1 s2 s3 s4 s5 s6 s7:Int) (r:Nat):x.sharesR s0 s1 s2 s3 s4 s5 s6 s7 r=x.form.ofShares s0 s1 s2 s3 s4 s5 s6 s7 r:=by
  unfold Num.sharesR Num.ofShares
  rw[Num.form_mulX_form2 _ _ hx (Int.natCast_nonneg _),Num.form_mulX_form _ _ hx (Int.natCast_nonneg _)]
theorem cellR_eq {d:Diag} (h:d.Rt) (hx:0≤d.sc.k) (row col:Nat) {b b':List Bool} (hl:b.length=d.sp.length) (hl':b'.length=d.sp.length) (ho:Ag d.outs row b):d.cellR col b=({d with sc:=d.sc.form}:Diag).cell row col b'∧Ag d.outs row (d.cellR col b).1∧(d.cellR col b).1.length=d.sp.length:=by
  have h1:(setB col 0 d.ins b).length=d.sp.length:=by rw[setB_len];exact hl
  have h1':(setB row 0 d.outs b').length=d.sp.length:=by rw[setB_len];exact hl'
  have h2':(setB col 0 d.ins (setB row 0 d.outs b')).length=d.sp.length:=by rw[setB_len];exact h1'
  have a1:Ag d.ins col (setB col 0 d.ins b):=Ag.set col h.isN (fun x hx=>by rw[hl];exact h.isR x hx)
  have a1':Ag d.ins col (setB col 0 d.ins (setB row 0 d.outs b')):=Ag.set col h.isN (fun x hx=>by rw[h1'];exact h.isR x hx)
  have a2:Ag d.outs row (setB col 0 d.ins b):=ho.keep (fun x hx hm=>h.io x hm hx) (fun x hx=>(h.isR x hx).1)
  have a2':Ag d.outs row (setB col 0 d.ins (setB row 0 d.outs b')):=(Ag.set row h.ouN (fun x hx=>by rw[hl'];exact h.ouR x hx)).keep (fun x hx hm=>h.io x hm hx) (fun x hx=>(h.isR x hx).1)
  obtain⟨k,hk⟩:∃k,2 ^ d.inside.length=k+1:=⟨2 ^ d.inside.length-1,by have:=Nat.two_pow_pos d.inside.length;omega⟩
  have hs:d.sumR d.inside (2 ^ d.inside.length) 0 (setB col 0 d.ins b) [0,0,0,0,0,0,0,0]=d.sumL d.inside (2 ^ d.inside.length) 0 (setB col 0 d.ins (setB row 0 d.outs b')) [0,0,0,0,0,0,0,0]:=by
    rw[sumR_eq h _ _ _ _ h1,hk]
    simp only[Diag.sumL]
    rw[setB_ext h 0 h1 h2' a1 a1' a2 a2']
  have e:d.cellR col b=({d with sc:=d.sc.form}:Diag).cell row col b':=by
    have hz:=sumL_sc d d.sc.form d.inside (2 ^ d.inside.length) 0 (setB col 0 d.ins (setB row 0 d.outs b')) [0,0,0,0,0,0,0,0]
    show _=_
    unfold Diag.cellR Diag.cell
    dsimp only
    rw[show ({d with sc:=d.sc.form}:Diag).inside=d.inside from rfl,show ({d with sc:=d.sc.form}:Diag).roots=d.roots from rfl,hz,hs,shares_eq d.sc hx]
  refine⟨e,?_,?_⟩
  · show Ag d.outs row (d.sumR _ _ _ _ _).1
    rw[hs]
    exact sumL_ag h.oi (fun x hx=>(h.inR x hx).1) _ _ _ _ a2'
  · show (d.sumR _ _ _ _ _).1.length=_
    rw[hs,sumL_len]
    exact h2'
theorem meanRR_eq {d:Diag} (h:d.Rt) (hx:0≤d.sc.k) (row:Nat):∀(n col:Nat) (b:List Bool) (l:List Num),b.length=d.sp.length→Ag d.outs row b→d.meanRR n col b l=({d with sc:=d.sc.form}:Diag).meanR row n col b l∧(d.meanRR n col b l).1.length=d.sp.length
  |0,col,b,l,hl,_=>⟨rfl,hl⟩
  | n+1,col,b,l,hl,ho=>by
    obtain⟨e,h1,h2⟩:=cellR_eq h hx row col hl hl ho
    simp only[Diag.meanRR,Diag.meanR]
    rw[←e]
    split
    · exact meanRR_eq h hx row n (col+1) _ _ h2 h1
    · exact⟨rfl,h2⟩
theorem meanRR_eq1 {d:Diag} (h:d.Rt) (hx:0≤d.sc.k) (row:Nat) (n:Nat) {b b':List Bool} (l:List Num) (hl:b.length=d.sp.length) (hl':b'.length=d.sp.length) (ho:Ag d.outs row b):d.meanRR (n+1) 0 b l=({d with sc:=d.sc.form}:Diag).meanR row (n+1) 0 b' l∧(d.meanRR (n+1) 0 b l).1.length=d.sp.length:=by
  obtain⟨e,h1,h2⟩:=cellR_eq h hx row 0 hl hl' ho
  simp only[Diag.meanRR,Diag.meanR]
  rw[←e]
  split
  · exact meanRR_eq h hx row n 1 _ _ h2 h1
  · exact⟨rfl,h2⟩
theorem meanLR_eq {d:Diag} (h:d.Rt) (hx:0≤d.sc.k):∀(n row:Nat) (b:List Bool) (o:List (List Num)),b.length=d.sp.length→d.meanLR n row b o=({d with sc:=d.sc.form}:Diag).meanL n row b o
  |0,row,b,o,_=>rfl
  | n+1,row,b,o,hl=>by
    obtain⟨k,hk⟩:∃k,2 ^ d.ins.length=k+1:=⟨2 ^ d.ins.length-1,by have:=Nat.two_pow_pos d.ins.length;omega⟩
    obtain⟨e,h2⟩:=meanRR_eq1 h hx row k (b:=setB row 0 d.outs b) (b':=b) [] (by rw[setB_len];exact hl) hl (Ag.set row h.ouN (fun x hx=>by rw[hl];exact h.ouR x hx))
    simp only[Diag.meanLR,Diag.meanL]
    rw[show ({d with sc:=d.sc.form}:Diag).ins=d.ins from rfl,hk,←e]
    split
    · exact meanLR_eq h hx n (row+1) _ _ h2
    · rfl
theorem meaningR_eq (d:Diag):d.meaningR=d.meaning:=by
  unfold Diag.meaningR Diag.meaning
  by_cases hc:d.check=0
  · simp only[hc,ne_eq,not_true_eq_false,if_false]
    split
    · rfl
    · exact meanLR_eq (Diag.rt hc) (Num.check_zero.1 (Diag.ok_of_check hc).sc).1 _ _ _ _ (by simp)
  · simp only[ne_eq,hc,not_false_eq_true,if_true]
end
end Go.Proofs.YtcoackmdmohnhaaGreatDoor
