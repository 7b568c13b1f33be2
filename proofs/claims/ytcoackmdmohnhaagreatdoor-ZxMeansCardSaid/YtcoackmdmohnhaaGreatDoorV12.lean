/- Contracts of functions, and plain lemmas; each theorem's conditions stand in its statement. -/
import Derived.Test.YtcoackmdmohnhaaGreatDoorV11
import Derived.Shelf.Sort.Plain
import Derived.Shelf.Slices.In.SortNone
import Derived.Sort.OwnSortedInts
set_option linter.unusedVariables false
set_option linter.unusedSimpArgs false
set_option maxRecDepth 100000
set_option maxHeartbeats 4000000
namespace Go.Proofs.YtcoackmdmohnhaaGreatDoor
section
open Go.Shelf
def sortRen:Go.Shelf.Ren:=⟨fun|189=>211|125=>217|257=>216|128=>227|129=>228|294=>218|295=>219|296=>220|297=>221|298=>222|299=>223|216=>224|300=>225|301=>226|328=>229|329=>230|330=>231|331=>232|332=>233|215=>234|343=>235|n=>n,fun|28=>24|3=>3|46=>169|0=>0|51=>192|53=>240|4=>4|183=>233|182=>232|131=>136|5=>5|9=>9|218=>241|222=>245|228=>247|229=>248|n=>n,fun|n=>n⟩
theorem sortLays:Go.Proofs.Lays.n189 Tryz.prog sortRen:={
  mixed:=kR
  f125:=Tryz.func217.trans (congrArg some kR)
  f128:=Tryz.func227.trans (congrArg some kR)
  f129:=Tryz.func228.trans (congrArg some kR)
  f189:=Tryz.func211.trans (congrArg some kR)
  f215:=Tryz.func234.trans (congrArg some kR)
  f216:=Tryz.func224.trans (congrArg some kR)
  f257:=Tryz.func216.trans (congrArg some kR)
  f294:=Tryz.func218.trans (congrArg some kR)
  f295:=Tryz.func219.trans (congrArg some kR)
  f296:=Tryz.func220.trans (congrArg some kR)
  f297:=Tryz.func221.trans (congrArg some kR)
  f298:=Tryz.func222.trans (congrArg some kR)
  f299:=Tryz.func223.trans (congrArg some kR)
  f300:=Tryz.func225.trans (congrArg some kR)
  f301:=Tryz.func226.trans (congrArg some kR)
  f328:=Tryz.func229.trans (congrArg some kR)
  f329:=Tryz.func230.trans (congrArg some kR)
  f330:=Tryz.func231.trans (congrArg some kR)
  f331:=Tryz.func232.trans (congrArg some kR)
  f332:=Tryz.func233.trans (congrArg some kR)
  f343:=Tryz.func235.trans (congrArg some kR)
  t0:=Tryz.underlying0
  a0:=Tryz.isAgg0
  z0:=Tryz.sizeOf0
  v0:=Tryz.zeroValue0
  t3:=Tryz.underlying3
  a3:=Tryz.isAgg3
  z3:=Tryz.sizeOf3
  v3:=Tryz.zeroValue3
  t4:=Tryz.underlying4
  a4:=Tryz.isAgg4
  z4:=Tryz.sizeOf4
  v4:=Tryz.zeroValue4
  t5:=Tryz.underlying5
  a5:=Tryz.isAgg5
  z5:=Tryz.sizeOf5
  v5:=Tryz.zeroValue5
  t9:=Tryz.underlying9
  a9:=Tryz.isAgg9
  z9:=Tryz.sizeOf9
  v9:=Tryz.zeroValue9
  t28:=Tryz.underlying24
  a28:=Tryz.isAgg24
  z28:=Tryz.sizeOf24
  v28:=Tryz.zeroValue24
  t46:=Tryz.underlying169
  a46:=Tryz.isAgg169
  z46:=Tryz.sizeOf169
  v46:=Tryz.zeroValue169
  t51:=Tryz.underlying192
  a51:=Tryz.isAgg192
  z51:=Tryz.sizeOf192
  v51:=Tryz.zeroValue192
  t53:=Tryz.underlying240
  a53:=Tryz.isAgg240
  z53:=Tryz.sizeOf240
  v53:=Tryz.zeroValue240
  t131:=Tryz.underlying136
  a131:=Tryz.isAgg136
  z131:=Tryz.sizeOf136
  v131:=Tryz.zeroValue136
  t182:=Tryz.underlying232
  a182:=Tryz.isAgg232
  z182:=Tryz.sizeOf232
  v182:=Tryz.zeroValue232
  t183:=Tryz.underlying233
  a183:=Tryz.isAgg233
  z183:=Tryz.sizeOf233
  v183:=Tryz.zeroValue233
  t218:=Tryz.underlying241
  a218:=Tryz.isAgg241
  z218:=Tryz.sizeOf241
  v218:=Tryz.zeroValue241
  t222:=Tryz.underlying245
  a222:=Tryz.isAgg245
  z222:=Tryz.sizeOf245
  v222:=Tryz.zeroValue245
  t228:=Tryz.underlying247
  a228:=Tryz.isAgg247
  z228:=Tryz.sizeOf247
  v228:=Tryz.zeroValue247
  t229:=Tryz.underlying248
  a229:=Tryz.isAgg248
  z229:=Tryz.sizeOf248
  v229:=Tryz.zeroValue248}
open Go.Sort Go.RowKit in
theorem sort211_raw (blk off cap:Nat) (zs:List Int) (w:World) (hH:Holds (Value.int .i64) w blk off zs.toArray) (hblk:blk<w.heap.size) (hsz:zs.length<4611686018427387904):
 Calls Tryz.prog 211 #[.slice (some ⟨blk,off,none⟩) zs.length cap] w fun e w'=>
  e= .returned (.tuple #[])∧∃n os,w'=grow (putRow (Value.int .i64) (Sort.ahead w n) blk off (zs.mergeSort fun x y=>decide (x≤y)).toArray) os:=Any.slices_Sort_int sortLays blk off cap zs w hH hblk hsz
open Go.Sort Go.RowKit in
theorem sort211_nil (p:Option Addr) (cap:Nat) (w:World):Calls Tryz.prog 211 #[.slice p 0 cap] w fun e w'=>e= .returned (.tuple #[])∧w'=w:=Any.slices_Sort_int_none sortLays p cap w
theorem inC_map (l:List Int):l.flatMap inC=l.map (Value.int .i64):=by
 induction l with
 |nil=>rfl
 |cons x l ih=>simp only[List.flatMap_cons,List.map_cons,ih];rfl
open Go.Sort Go.RowKit in
theorem sort211 (A:Option Addr) (c B:Nat) (xs:List Int) (w:World) (ho:w.ownsRow B 3 1 (.slice A xs.length c) xs.length (xs.flatMap inC)) (hn:xs.length≤100000):
  Calls Tryz.prog 211 #[.slice A xs.length c] w fun e w'=>e= .returned (.tuple #[])∧w'.ownsRow B 3 1 (.slice A xs.length c) xs.length ((xs.mergeSort fun x y=>decide (x≤y)).flatMap inC)∧Touch (ownB A) w w':=by
 rcases ho.2 with⟨h1,h2⟩|⟨g,cap,cur,h1,hb,hg,hn1,hn2,hn3,hn4⟩
 · cases xs with
   |cons x xs=>simp at h2
   | nil=>
    refine(sort211_nil A c w).mono ?_
    rintro e w' ⟨rfl,rfl⟩;exact⟨rfl,by simpa using ho,Touch.refl _ _⟩
 cases h1
 have hH:Holds (Value.int .i64) w g 0 xs.toArray:=holds_of_blockI hg (by rw[←inC_map];simpa using hn4);refine(sort211_raw g 0 c xs w hH (Array.getElem?_eq_some_iff.1 hg).1 oM).mono ?_
 rintro e w' ⟨rfl,n,os,rfl⟩;refine⟨rfl,?_,?_⟩
 · rw[inC_map];exact ownsRow_sortedI sI hb hg hn1 hn2 hn3
 have hg2:=grownBy_sortedI (w:=w) (g:=g) (n:=n) (os:=os) (xs.mergeSort fun x y=>decide (x≤y)).toArray;exact(Touch.refl _ w).grown hg2 (fun k e=> .inl (by cases e;simp[ownB]))
end
section
variable {d:Diag}
theorem leadA_good (d:Diag) (n but:Int) (never:List Int):∀(xs:List (Nat × Line)) (l l':List Int),(∀x∈xs,0≤x.2.other n∧x.2.other n<d.sp.length)→d.leadA n but never xs l=some l'→l.Nodup→(∀x∈l,0≤x∧x<(d.sp.length:Int))→l'.Nodup∧∀x∈l',0≤x∧x<(d.sp.length:Int)
 |[],l,l',_,h,h1,h2=>by cases h;exact⟨h1,h2⟩
 | (i,x)::xs,l,l',hr,h,h1,h2=>by
  simp only[Diag.leadA]at h
  split at h
  · exact leadA_good d n but never xs l l' (fun y hy=>hr y (by simp[hy])) h h1 h2
  split at h
  · rename_i hok
    refine leadA_good d n but never xs _ l' (fun y hy=>hr y (by simp[hy])) h ?_ ?_
    · rw[List.nodup_append];refine⟨h1,by simp,fun a ha b hb=>?_⟩
      simp only[List.mem_singleton]at hb;subst hb;rintro rfl;unfold Diag.leadOk at hok;simp[ha]at hok
    intro y hy
    rcases List.mem_append.1 hy with hy|hy
    · exact h2 y hy
    simp only[List.mem_singleton]at hy;subst hy;exact hr (i,x) sI
  cases h
theorem mem_inOrder {l:List Int} {x:Int}:x∈d.inOrder l↔x∈l∧0≤x∧x<(d.sp.length:Int):=by
 unfold Diag.inOrder;rw[List.mem_filter];simp only[List.mem_map,List.mem_range,decide_eq_true_eq]
 constructor
 · rintro ⟨⟨k,hk,rfl⟩,h⟩;exact⟨h,oM,oM⟩
 rintro ⟨h,h0,h1⟩;exact⟨⟨x.toNat,oM,oM⟩,h⟩
theorem inOrder_lt (d:Diag) (l:List Int):(d.inOrder l).Pairwise (·< ·):=by
 unfold Diag.inOrder;refine List.Pairwise.filter _ ?_
 rw[List.pairwise_map];exact List.pairwise_lt_range.imp (fun h=>by omega)
theorem inOrder_nodup (d:Diag) (l:List Int):(d.inOrder l).Nodup:=(inOrder_lt d l).imp (fun h=>by omega)
theorem sort_inOrder {l:List Int} (h1:l.Nodup) (h2:∀x∈l,0≤x∧x<(d.sp.length:Int)):(l.mergeSort fun x y=>decide (x≤y))=d.inOrder l:=by
 have hp:(l.mergeSort fun x y=>decide (x≤y)).Perm (d.inOrder l):=by
  refine(List.mergeSort_perm l _).trans ?_
  rw[List.perm_ext_iff_of_nodup h1 (inOrder_nodup d l)];intro a;rw[mem_inOrder];exact⟨fun h=>⟨h,h2 a h⟩,fun h=>h.1⟩
 refine hp.eq_of_pairwise (le:=fun a b=>a≤b) (fun a b _ _ h h'=>by omega) ?_ ?_
 · have:=List.pairwise_mergeSort (le:=fun x y:Int=>decide (x≤y)) (by intro a b c;simp;omega) (by intro a b;simp;omega) l;exact this.imp (fun h=>by simpa using h)
 exact(inOrder_lt d l).imp (fun h=>by omega)
theorem inOrder_len {l:List Int} (h1:l.Nodup) (h2:∀x∈l,0≤x∧x<(d.sp.length:Int)):(d.inOrder l).length=l.length:=by
 rw[←sort_inOrder h1 h2,List.length_mergeSort]
end
section
open Go.RowKit Go.Shelf
variable {t:TypeId} {tl:List Value} {B:Nat} {p:Nat} {w:World} {v:DV} {d:Diag}
attribute [local go_sem] Oper.semAt_some
structure ArB (t:TypeId) (tl:List Value) (B p:Nat) (v:DV) (d:Diag) (s q5 q6 q7 q8 q9 q10:Nat) (n but:Int) (An:Option Addr) (nn cn:Nat) (never:List Int) (base:Nat) (l:List Int) (u:World):Prop where
 wk:WK t tl B u p v d
 b4:Blk u s [pt p 0] 79
 b5:Blk u q5 [n] 3
 b6:Blk u q6 [but] 3
 b7:Blk u q7 [.slice An nn cn] 24
 b8:Blk u q8 [.slice none 0 0] 24
 b9:Blk u q9 [.bool false] 4
 row:RowBox 24 3 1 inC base q10 u l
theorem ArB.below {s q5 q6 q7 q8 q9 q10:Nat} {n but:Int} {An:Option Addr} {nn cn:Nat} {never:List Int} {base:Nat} {l:List Int} {u u':World} (h:ArB t tl B p v d s q5 q6 q7 q8 q9 q10 n but An nn cn never base l u) (hb:Below u.heap.size u u'):ArB t tl B p v d s q5 q6 q7 q8 q9 q10 n but An nn cn never base l u':=
 ⟨h.wk.below hb,h.b4.below hb,h.b5.below hb,h.b6.below hb,h.b7.below hb,h.b8.below hb,h.b9.below hb,h.row.below hb⟩
theorem ArB.quietly {s q5 q6 q7 q8 q9 q10:Nat} {n but:Int} {An:Option Addr} {nn cn:Nat} {never:List Int} {base:Nat} {l:List Int} {u u':World} (h:ArB t tl B p v d s q5 q6 q7 q8 q9 q10 n but An nn cn never base l u) (hb:Quietly u u'):ArB t tl B p v d s q5 q6 q7 q8 q9 q10 n but An nn cn never base l u':=
 ⟨h.wk.quietly hb,h.b4.quietly hb,h.b5.quietly hb,h.b6.quietly hb,h.b7.quietly hb,h.b8.quietly hb,h.b9.quietly hb,h.row.quietly hb⟩
theorem ArB.cells {s q5 q6 q7 q8 q9 q10:Nat} {n but:Int} {An:Option Addr} {nn cn:Nat} {never:List Int} {base:Nat} {l:List Int} {u:World} (h:ArB t tl B p v d s q5 q6 q7 q8 q9 q10 n but An nn cn never base l u):
  u.cell? ⟨s,0,none⟩=some (pt p 0)∧u.cell? ⟨q5,0,none⟩=some (.int .i64 n)∧u.cell? ⟨q6,0,none⟩=some (.int .i64 but)∧u.cell? ⟨q7,0,none⟩=some (.slice An nn cn)∧u.cell? ⟨q8,0,none⟩=some (.slice none 0 0)∧u.cell? ⟨q9,0,none⟩=some (.bool false)∧u.frozen? ⟨q8,0,none⟩=false∧u.frozen? ⟨q9,0,none⟩=false:=
 ⟨h.b4.cell 0 _ rfl,h.b5.cell 0 _ rfl,h.b6.cell 0 _ rfl,h.b7.cell 0 _ rfl,h.b8.cell 0 _ rfl,h.b9.cell 0 _ rfl,h.b8.free 0,h.b9.free 0⟩
def AroundR (r:Option (List Int)) (w:World) (e:Ending) (w':World):Prop:=match r with
 |none=>e= .returned (.tuple #[.slice none 0 0, .bool false])∧Below w.heap.size w w'
 |some l=>∃A c,e= .returned (.tuple #[.slice A l.length c, .bool true])∧w'.ownsRow w.heap.size 3 1 (.slice A l.length c) l.length (l.flatMap inC)∧Below w.heap.size w w'
theorem leadA_one (d:Diag) (n but:Int) (never l:List Int) (i:Nat) (x:Line):d.leadA n but never [(i,x)] l=if (i:Int)=but then some l else if d.leadOk n never l x=true then some (l++[x.other n]) else none:=rfl
theorem xe23_0 {p:Prop} (h:p:=by
 refine⟨((keeps_below hQ).trans (keeps_touch (Touch.set1 _ _ _ _) (fun b hb=>by simp at hb;subst hb;exact hAB.b8.cells))).trans (keeps_touch (Touch.set1 _ _ _ _) (fun b hb=>by simp at hb;subst hb;exact(hAB.b9.set_other ⟨q8,0,none⟩ _ HNE.out).cells)),⟨rfl,HS2.out⟩,?_,(hAB.b8.set 0 _).set_other ⟨q9,0,none⟩ _ (fun e=>HNE.out e.symm),(hAB.b9.set_other ⟨q8,0,none⟩ _ HNE.out).set 0 _⟩
 exact(((HWb.out.trans (hQ.mono HWb.out.size)).setCell (p:=⟨q8,0,none⟩) HQ8.out _).setCell (p:=⟨q9,0,none⟩) HQ9.out _)):p:=h
theorem around204 (h:WK t tl B w p v d) (hd:d.Ok) (n:Nat) (hn:n<d.sp.length) (but:Int) (An:Option Addr) (nn cn:Nat) (never:List Int) (hnv:Rd 1 inC w An nn never):
  Calls Tryz.prog 204 #[pt p 0,n,but, .slice An nn cn] w (AroundR (d.around n but never) w):=by
 refine(callsIn_wide (n:=6)).1 (callsIn_of_wp_marks Tryz.func204 rfl trivial ?_ rfl)
 simp only[Tryz.ntmps204,List.size_toArray,List.length_cons,List.length_nil,Nat.reduceAdd,Nat.reduceSub,Array.replicate_succ,Array.replicate_zero,List.push_toArray,List.append_toArray,List.nil_append,List.cons_append];refine wpIn_wide.2 ?_
 have HD:Aside d.Ok:=hd;have HN:Aside (n<d.sp.length∧d.ln.length=v.n2∧v.n2≤100∧d.sp.length≤40):=⟨hn,h.len.2.1,by have:=h.len.2.1;have:=hd.n2;omega,hd.n1⟩
 have HKW:Aside (∀b,b=p∨b∈blks v→b<w.heap.size):=by
  rintro b (rfl|hb)
  · exact h.lt
  exact(h.own.lt b hb).2
 have HK:=Lib.hid h;have HNV:=Lib.hid hnv;clear h hd hn hnv;go_wp2_with fail
 have HB1:Aside (Below w.heap.size w (((((((w.alloc (.cells #[pt p 0] 79)).alloc (.cells #[n] 3)).alloc (.cells #[but] 3)).alloc (.cells #[.slice An nn cn] 24)).alloc (.cells #[.slice none 0 0] 24)).alloc (.cells #[.bool false] 4)).alloc (.cells #[.slice none 0 0] 24))):=by
  refine((((((((Below.refl _ w).alloc sI _).alloc sI _).alloc (by simp;omega) _).alloc (by simp;omega) _).alloc (by simp;omega) _).alloc (by simp;omega) _).alloc (by simp;omega) _)
 have b4:=(((((((Blk.new w #[pt p 0] 79).alloc (.cells #[n] 3)).alloc (.cells #[but] 3)).alloc (.cells #[.slice An nn cn] 24)).alloc (.cells #[.slice none 0 0] 24)).alloc (.cells #[.bool false] 4)).alloc (.cells #[.slice none 0 0] 24));have b5:=((((((Blk.new (w.alloc (.cells #[pt p 0] 79)) #[n] 3).alloc (.cells #[but] 3)).alloc (.cells #[.slice An nn cn] 24)).alloc (.cells #[.slice none 0 0] 24)).alloc (.cells #[.bool false] 4)).alloc (.cells #[.slice none 0 0] 24));have b6:=(((((Blk.new ((w.alloc (.cells #[pt p 0] 79)).alloc (.cells #[n] 3)) #[but] 3).alloc (.cells #[.slice An nn cn] 24)).alloc (.cells #[.slice none 0 0] 24)).alloc (.cells #[.bool false] 4)).alloc (.cells #[.slice none 0 0] 24))
 have b7:=((((Blk.new (((w.alloc (.cells #[pt p 0] 79)).alloc (.cells #[n] 3)).alloc (.cells #[but] 3)) #[.slice An nn cn] 24).alloc (.cells #[.slice none 0 0] 24)).alloc (.cells #[.bool false] 4)).alloc (.cells #[.slice none 0 0] 24));have b8:=(((Blk.new ((((w.alloc (.cells #[pt p 0] 79)).alloc (.cells #[n] 3)).alloc (.cells #[but] 3)).alloc (.cells #[.slice An nn cn] 24)) #[.slice none 0 0] 24).alloc (.cells #[.bool false] 4)).alloc (.cells #[.slice none 0 0] 24));have b9:=((Blk.new (((((w.alloc (.cells #[pt p 0] 79)).alloc (.cells #[n] 3)).alloc (.cells #[but] 3)).alloc (.cells #[.slice An nn cn] 24)).alloc (.cells #[.slice none 0 0] 24)) #[.bool false] 4).alloc (.cells #[.slice none 0 0] 24))
 have b10:=(Blk.new ((((((w.alloc (.cells #[pt p 0] 79)).alloc (.cells #[n] 3)).alloc (.cells #[but] 3)).alloc (.cells #[.slice An nn cn] 24)).alloc (.cells #[.slice none 0 0] 24)).alloc (.cells #[.bool false] 4)) #[.slice none 0 0] 24);simp only[World.size_alloc]at b5 b6 b7 b8 b9 b10;have HSZ:Aside ((((((((w.alloc (.cells #[pt p 0] 79)).alloc (.cells #[n] 3)).alloc (.cells #[but] 3)).alloc (.cells #[.slice An nn cn] 24)).alloc (.cells #[.slice none 0 0] 24)).alloc (.cells #[.bool false] 4)).alloc (.cells #[.slice none 0 0] 24)).heap.size=w.heap.size+1+1+1+1+1+1+1):=by show _=_;simp only[World.size_alloc]
 generalize (((((((w.alloc (.cells #[pt p 0] 79)).alloc (.cells #[n] 3)).alloc (.cells #[but] 3)).alloc (.cells #[.slice An nn cn] 24)).alloc (.cells #[.slice none 0 0] 24)).alloc (.cells #[.bool false] 4)).alloc (.cells #[.slice none 0 0] 24))=W1 at *;obtain⟨q10,hq10⟩:∃q,q=w.heap.size+1+1+1+1+1+1:=⟨_,rfl⟩;rw[←hq10]at b10 ⊢;obtain⟨q9,hq9⟩:∃q,q=w.heap.size+1+1+1+1+1:=⟨_,rfl⟩;rw[←hq9]at b9 ⊢;obtain⟨q8,hq8⟩:∃q,q=w.heap.size+1+1+1+1:=⟨_,rfl⟩;rw[←hq8]at b8 ⊢;obtain⟨q7,hq7⟩:∃q,q=w.heap.size+1+1+1:=⟨_,rfl⟩;rw[←hq7]at b7 ⊢;obtain⟨q6,hq6⟩:∃q,q=w.heap.size+1+1:=⟨_,rfl⟩;rw[←hq6]at b6 ⊢;obtain⟨q5,hq5⟩:∃q,q=w.heap.size+1:=⟨_,rfl⟩;rw[←hq5]at b5 ⊢
 have HQ:Aside (q5=w.heap.size+1∧q6=w.heap.size+2∧q7=w.heap.size+3∧q8=w.heap.size+4∧q9=w.heap.size+5∧q10=w.heap.size+6∧W1.heap.size=w.heap.size+7):=⟨hq5,hq6,hq7,hq8,hq9,hq10,HSZ.out⟩;have HAB1:Aside (∀base,ArB t tl B p v d w.heap.size q5 q6 q7 q8 q9 q10 n but An nn cn never base [] W1):=fun base=>⟨HK.out.touch (Touch.of_below HB1.out) sI sI,b4,b5,b6,b7,b8,b9,none,0,b10,World.ownsRow_nil _ _ _ _⟩;clear b4 b5 b6 b7 b8 b9 b10 hq5 hq6 hq7 hq8 hq9 hq10
 (with_reducible refine(at200 p n W1).mono ?_)
 rintro e w3 ⟨rfl,hb3,hbp,hbn⟩;go_wp2_with fail
 have HAB3:Aside (∀base,ArB t tl B p v d w.heap.size q5 q6 q7 q8 q9 q10 n but An nn cn never base [] w3):=fun base=>(HAB1.out base).below hb3;have HB3:Aside (Below w.heap.size w w3):=below_then HB1.out hb3;have HW3:Aside (w.heap.size≤w3.heap.size∧W1.heap.size+1<w3.heap.size):=⟨HB3.out.size,hbn.lt⟩;refine(wpIn_wide (n:=6)).1 ?_
 refine wpIn_rangeX (F:=Fence.wide) (n:=6) rfl dE (gf:=209) rfl trivial e209
  (at209_stops Fence.wide 5 trivial rfl dE W1.heap.size (W1.heap.size+1) p v.n2 v.c2 v.A2 n d.ln HN.out.2.1 (by have:=HN.out;omega) w3 (hbp.cell 0 _ rfl) (HAB3.out 0).wk.nine.2.1) bR (fun _=>rfl)
  (fun pre W=>((∃l,d.leadA n but never (pre.map (·.1)) []=some l∧ArB t tl B p v d w.heap.size q5 q6 q7 q8 q9 q10 n but An nn cn never w3.heap.size l W)∧Below w.heap.size w W∧w3.heap.size≤W.heap.size)∧Blk W (W1.heap.size+1) [n] 3)
  (fun c pre W=>(c= .ret∧d.leadA n but never (pre.map (·.1)) []=none)∧Below w.heap.size w W∧Blk W q8 [.slice none 0 0] 24∧Blk W q9 [.bool false] 4)
  (OwnFrom.and (OwnFrom.and (ownFrom_quietly fun _ _ _ h hq=>⟨h.choose,h.choose_spec.1,h.choose_spec.2.quietly hq⟩) (OwnFrom.and (ownFrom_below (Nat.le_refl _) HW3.out.1) (fun _ _ _ _ h hg _=>Nat.le_trans h hg.size))) (ownFrom_quietly fun _ _ _ h hq=>h.quietly hq))
  (fun c=>OwnFrom.and ownFrom_pure (OwnFrom.and (ownFrom_below (Nat.le_refl _) HW3.out.1) (ownFrom_quietly fun _ _ _ h hq=>⟨h.1.quietly hq,h.2.quietly hq⟩))) ?hX
  ⟨⟨⟨[],rfl,HAB3.out _⟩,HB3.out,Nat.le_refl _⟩,hbn⟩
  (fun y a' W=>∃bx,Blk W bx [y.1.2.f,y.1.2.t, .bool y.1.2.hat] 77∧a'={tmps:=#[pt p 0,n,but, .slice An nn cn,pt w.heap.size 0,pt q5 0,pt q6 0,pt q7 0,pt q8 0,pt q9 0,pt q10 0, .int .i64 (y.1.1:Int),pt bx 0,undef,pt p 0,n, .func (.func 209) #[] #[pt W1.heap.size 0, .pointer (some ⟨W1.heap.size+1,0,none⟩)], .int .i64 (y.1.1:Int), .agg #[y.1.2.f,y.1.2.t, .bool y.1.2.hat],undef,undef,undef,undef,undef,undef,undef,undef,undef,undef,undef,undef,undef,undef,undef,undef,undef,undef,undef,undef,undef,undef,undef,undef,undef,undef,undef,undef,undef,undef,undef,undef,undef,undef,undef,undef],defers:=[]})
  (fun a'=>ownFrom_quietly fun y W W' h hq=>?hAx) ?assign ?body ?done ?stop
 case hX=>
  rintro pre W ⟨⟨⟨l,_,hAB⟩,_⟩,hn3⟩;refine⟨hn3.cell 0 _ rfl,fun j l hj hl=>?_⟩
  obtain⟨g2,hg2,y0,y1,y2,_⟩:=hAB.wk.own.lnAt hl;exact⟨g2,hg2,y0,y1,y2⟩
 case hAx=>
  obtain⟨bx,h4,h5⟩:=h;exact⟨bx,h4.quietly hq,h5⟩
 case assign=>
  rintro l0 pre ⟨⟨i,lf,lt,lh⟩,hy1,hy2⟩ W K ⟨⟨⟨l,hl,hAB⟩,hB4,hs4⟩,hn4⟩ hK;simp only[encL];have HL:=Lib.hid hl;have hh:Aside (Blk (W.alloc (.cells #[lf,lt, .bool lh] 77)) W.heap.size [lf,lt, .bool lh] 77):=Blk.new _ _ _;have hbb:Aside (Below W.heap.size W (W.alloc (.cells #[lf,lt, .bool lh] 77))):=bR.alloc (Nat.le_refl _) _;clear hl
  gi_wp2
  exact hK _ _ ((KeepsOthers.alloc _ _).from _) ⟨⟨⟨l,HL.out,hAB.below hbb.out⟩,hB4.alloc hB4.size _,by simp;omega⟩,hn4.alloc _⟩ ⟨W.heap.size,hh.out,rfl⟩
 case body=>
  rintro l0 pre ⟨⟨i,lf,lt,lh⟩,hy1,hy2⟩ a' W ⟨⟨⟨l,hl,hAB⟩,hB4,hs4⟩,hn4⟩ ⟨bx,hbx,rfl⟩ hlen;dsimp only at hbx ⊢
  have hat2:(n:Int)=lf∨(n:Int)=lt:=by
   have h2:=hy2;simp only[Line.at,Bool.or_eq_true,decide_eq_true_eq]at h2;omega
  have hrg:=HD.out.ln _ (List.mem_of_getElem? hy1);dsimp only at hrg;obtain⟨kk,hkk⟩:∃kk:Nat,lf+lt-n=(kk:Int):=⟨(lf+lt-n).toNat,oM⟩;have hkn:kk<d.sp.length:=oM
  have H201:Aside (∀u,Calls Tryz.prog 201 #[.agg #[lf,lt, .bool lh],n] u fun e w'=>e= .returned kk∧Below u.heap.size u w'):=by
   intro u;have h3:=HN.out;have h4:otherI lf lt n=(kk:Int):=by unfold otherI;split<;>omega
   rw[←h4];exact other201 lf lt n lh u hat2 oM oM oM oM
  have H192:Aside (∀u,Calls Tryz.prog 192 #[.agg #[lf,lt, .bool lh]] u fun e w'=>e= .returned (.bool (lf==lt))∧Below u.heap.size u w'):=fun u=>loop192 lf lt lh u;have H193:Aside (∀u,WK t tl B u p v d→Calls Tryz.prog 193 #[pt p 0,kk, .int .i64 1] u fun e w'=>e= .returned (.bool (d.kindAt kk==1))∧u=w'):=fun u hk=>is193 hk kk hkn 1;have H158a:Aside (∀u A c,Rd 1 inC u A l.length l→Calls Tryz.prog 158 #[.slice A l.length c,kk] u fun e w'=>e= .returned (.bool (decide ((kk:Int)∈l)))∧u=w'):=fun u A c hr=>con158 A l.length c l kk u hr;have H158b:Aside (∀u,Rd 1 inC u An nn never→Calls Tryz.prog 158 #[.slice An nn cn,kk] u fun e w'=>e= .returned (.bool (decide ((kk:Int)∈never)))∧u=w'):=fun u hr=>con158 An nn cn never kk u hr
  have HS:Aside (d.leadA n but never ((pre++[(⟨(i,⟨lf,lt,lh⟩),hy1,hy2⟩:LnAt n d.ln)]).map (·.1)) []=if (i:Int)=but then some l else if (lh&&!decide (lf=lt)&&decide (d.kindAt kk=1)&&!decide ((kk:Int)∈l)&&!decide ((kk:Int)∈never))=true then some (l++[(kk:Int)]) else none):=by
   rw[List.map_append,List.map_cons,List.map_nil,leadA_snoc,hl];show (d.leadA n but never [(i,⟨lf,lt,lh⟩)] l)=_
   rw[leadA_one];unfold Diag.leadOk Line.loop;rw[show Line.other ⟨lf,lt,lh⟩ n=(kk:Int) from hkk]
  have HLL:Aside (l.length≤200):=by
   have h1:=leadA_len d n but never _ _ _ hl;have h2:=HN.out;simp only[List.length_map,List.length_nil]at h1;show l.length≤200
   omega
  have hQ:Below W.heap.size W W:=Below.refl _ _;have HWl:Aside (w3.heap.size≤W.heap.size):=hs4;have HWb:Aside (Below w.heap.size w W):=hB4;have Hn4:Aside (Blk W (W1.heap.size+1) [n] 3):=hn4;have HAB:Aside (ArB t tl B p v d w.heap.size q5 q6 q7 q8 q9 q10 n but An nn cn never w3.heap.size l W):=hAB;obtain⟨z4,z5,z6,z7,z8,z9,f8,f9⟩:=hAB.cells;obtain⟨x0,x1,x2⟩:W.cell? ⟨bx,0,none⟩=some (.int .i64 lf)∧W.cell? ⟨bx,1,none⟩=some (.int .i64 lt)∧W.cell? ⟨bx,2,none⟩=some (.bool lh):=⟨hbx.cell 0 _ rfl,hbx.cell 1 _ rfl,hbx.cell 2 _ rfl⟩;clear hl hat2 hrg hkk hkn hs4 hB4 hn4;have hF:∀f,Fence.wide.fn f:=fun _=>trivial;have HNE:Aside (q8≠q9):=by have:=HQ.out;show q8≠q9;omega
  have HQ8:Aside (w.heap.size≤q8):=by have:=HQ.out;show w.heap.size≤q8;omega
  have HQ9:Aside (w.heap.size≤q9):=by have:=HQ.out;show w.heap.size≤q9;omega
  have HQB:Aside (q10<w3.heap.size):=by have:=HQ.out;have:=HW3.out;show q10<w3.heap.size;omega
  by_cases hbt:(i:Int)=but
  · have HS2:Aside (d.leadA n but never ((pre++[(⟨(i,⟨lf,lt,lh⟩),hy1,hy2⟩:LnAt n d.ln)]).map (·.1)) []=some l):=by rw[HS.out,if_pos hbt];exact aside_rfl
    have hbt':((i:Int)==but)=true:=by simpa using hbt
    clear hbt HS
    gi_wp2
    exact⟨KeepsFrom.refl _ _,⟨⟨l,HS2.out,HAB.out⟩,HWb.out,HWl.out⟩,Hn4.out⟩
  have hbt':((i:Int)==but)=false:=by simpa using hbt
  cases lh with
  | false=>
   have HS2:Aside (d.leadA n but never ((pre++[(⟨(i,⟨lf,lt,false⟩),hy1,hy2⟩:LnAt n d.ln)]).map (·.1)) []=none):=by rw[HS.out,if_neg hbt,if_neg sI];exact aside_rfl
   clear H192 H193 H158a H158b;clear hbt HS
   gi_wp2_with (first|(gi_at_call 201;(with_reducible refine(CallsIn.inRound l0 (callsIn_wide.2 (H201.out _))).mono ?_);rintro e u1 ⟨rfl,hb⟩;clear H201;replace hAB:=hAB.below hb;replace hbx:=hbx.below hb;replace hQ:=below_then hQ hb;clear hb;obtain⟨z4,z5,z6,z7,z8,z9,f8,f9⟩:=hAB.cells;obtain⟨x0,x1,x2⟩:_∧_∧_:=⟨hbx.cell 0 _ rfl,hbx.cell 1 _ rfl,hbx.cell 2 _ rfl⟩;have f98:=fun x=>(hAB.b9.set_other ⟨q8,0,none⟩ x HNE.out).cell 0 _ rfl;have g98:=fun x=>(hAB.b9.set_other ⟨q8,0,none⟩ x HNE.out).free 0))
   refine⟨((keeps_below hQ).trans (keeps_touch (Touch.set1 _ _ _ _) (fun b hb=>by simp at hb;subst hb;exact hAB.b8.cells))).trans (keeps_touch (Touch.set1 _ _ _ _) (fun b hb=>by simp at hb;subst hb;exact(hAB.b9.set_other ⟨q8,0,none⟩ _ HNE.out).cells)),⟨rfl,HS2.out⟩,?_,(hAB.b8.set 0 _).set_other ⟨q9,0,none⟩ _ (fun e=>HNE.out e.symm),(hAB.b9.set_other ⟨q8,0,none⟩ _ HNE.out).set 0 _⟩
   exact(((HWb.out.trans (hQ.mono HWb.out.size)).setCell (p:=⟨q8,0,none⟩) HQ8.out _).setCell (p:=⟨q9,0,none⟩) HQ9.out _)
  | true=>
   by_cases h2:lf=lt
   · rw[show (lf==lt)=true by simpa using h2]at H192;have HS2:Aside (d.leadA n but never ((pre++[(⟨(i,⟨lf,lt,true⟩),hy1,hy2⟩:LnAt n d.ln)]).map (·.1)) []=none):=by rw[HS.out,if_neg hbt,if_neg (by simp[h2])];exact aside_rfl
     clear h2 H193 H158a H158b;clear hbt HS
     gi_wp2_with (first|(gi_at_call 201;(with_reducible refine(CallsIn.inRound l0 (callsIn_wide.2 (H201.out _))).mono ?_);rintro e u1 ⟨rfl,hb⟩;clear H201;replace hAB:=hAB.below hb;replace hbx:=hbx.below hb;replace hQ:=below_then hQ hb;clear hb;obtain⟨z4,z5,z6,z7,z8,z9,f8,f9⟩:=hAB.cells;obtain⟨x0,x1,x2⟩:_∧_∧_:=⟨hbx.cell 0 _ rfl,hbx.cell 1 _ rfl,hbx.cell 2 _ rfl⟩;have f98:=fun x=>(hAB.b9.set_other ⟨q8,0,none⟩ x HNE.out).cell 0 _ rfl;have g98:=fun x=>(hAB.b9.set_other ⟨q8,0,none⟩ x HNE.out).free 0)|(gi_at_call 192;(with_reducible refine(CallsIn.inRound l0 (callsIn_wide.2 (H192.out _))).mono ?_);rintro e u2 ⟨rfl,hb⟩;clear H192;replace hAB:=hAB.below hb;replace hbx:=hbx.below hb;replace hQ:=below_then hQ hb;clear hb;obtain⟨z4,z5,z6,z7,z8,z9,f8,f9⟩:=hAB.cells;obtain⟨x0,x1,x2⟩:_∧_∧_:=⟨hbx.cell 0 _ rfl,hbx.cell 1 _ rfl,hbx.cell 2 _ rfl⟩;have f98:=fun x=>(hAB.b9.set_other ⟨q8,0,none⟩ x HNE.out).cell 0 _ rfl;have g98:=fun x=>(hAB.b9.set_other ⟨q8,0,none⟩ x HNE.out).free 0;skip))
     exact xe23_0
   rw[show (lf==lt)=false by simpa using h2]at H192
   by_cases h3:d.kindAt kk=1
   · rw [show (d.kindAt kk==1)=true by simpa using h3]at H193
     by_cases h4:(kk:Int)∈l
     · rw[show decide ((kk:Int)∈l)=true by simpa using h4]at H158a;have HS2:Aside (d.leadA n but never ((pre++[(⟨(i,⟨lf,lt,true⟩),hy1,hy2⟩:LnAt n d.ln)]).map (·.1)) []=none):=by rw[HS.out,if_neg hbt,if_neg (by simp[h4])];exact aside_rfl
       clear h2 h3 h4 H158b;clear hbt HS
       gi_wp2_with (first|(gi_at_call 201;(with_reducible refine(CallsIn.inRound l0 (callsIn_wide.2 (H201.out _))).mono ?_);rintro e u1 ⟨rfl,hb⟩;clear H201;replace hAB:=hAB.below hb;replace hbx:=hbx.below hb;replace hQ:=below_then hQ hb;clear hb;obtain⟨z4,z5,z6,z7,z8,z9,f8,f9⟩:=hAB.cells;obtain⟨x0,x1,x2⟩:_∧_∧_:=⟨hbx.cell 0 _ rfl,hbx.cell 1 _ rfl,hbx.cell 2 _ rfl⟩;have f98:=fun x=>(hAB.b9.set_other ⟨q8,0,none⟩ x HNE.out).cell 0 _ rfl;have g98:=fun x=>(hAB.b9.set_other ⟨q8,0,none⟩ x HNE.out).free 0)|(gi_at_call 192;(with_reducible refine(CallsIn.inRound l0 (callsIn_wide.2 (H192.out _))).mono ?_);rintro e u2 ⟨rfl,hb⟩;clear H192;replace hAB:=hAB.below hb;replace hbx:=hbx.below hb;replace hQ:=below_then hQ hb;clear hb;obtain⟨z4,z5,z6,z7,z8,z9,f8,f9⟩:=hAB.cells;obtain⟨x0,x1,x2⟩:_∧_∧_:=⟨hbx.cell 0 _ rfl,hbx.cell 1 _ rfl,hbx.cell 2 _ rfl⟩;have f98:=fun x=>(hAB.b9.set_other ⟨q8,0,none⟩ x HNE.out).cell 0 _ rfl;have g98:=fun x=>(hAB.b9.set_other ⟨q8,0,none⟩ x HNE.out).free 0;obtain⟨A,c,hBq,hRd,_⟩:=hAB.row.rd dE inC_len;have z10:=hBq.cell 0 _ rfl;clear hBq)|(gi_at_call 193;(with_reducible refine(CallsIn.inRound l0 (callsIn_wide.2 (H193.out _ hAB.wk))).mono ?_);rintro e u3 ⟨rfl,rfl⟩;clear H193)|(gi_at_call 158;(with_reducible refine(CallsIn.inRound l0 (callsIn_wide.2 (H158a.out _ _ _ hRd))).mono ?_);rintro e u4 ⟨rfl,rfl⟩;clear H158a))
       exact xe23_0
     rw[show decide ((kk:Int)∈l)=false by simpa using h4]at H158a
     by_cases h5:(kk:Int)∈never
     · rw[show decide ((kk:Int)∈never)=true by simpa using h5]at H158b;have HS2:Aside (d.leadA n but never ((pre++[(⟨(i,⟨lf,lt,true⟩),hy1,hy2⟩:LnAt n d.ln)]).map (·.1)) []=none):=by rw[HS.out,if_neg hbt,if_neg (by simp[h5])];exact aside_rfl
       clear h2 h3 h4 h5;clear hbt HS
       gi_wp2_with (first|(gi_at_call 201;(with_reducible refine(CallsIn.inRound l0 (callsIn_wide.2 (H201.out _))).mono ?_);rintro e u1 ⟨rfl,hb⟩;clear H201;replace hAB:=hAB.below hb;replace hbx:=hbx.below hb;replace hQ:=below_then hQ hb;clear hb;obtain⟨z4,z5,z6,z7,z8,z9,f8,f9⟩:=hAB.cells;obtain⟨x0,x1,x2⟩:_∧_∧_:=⟨hbx.cell 0 _ rfl,hbx.cell 1 _ rfl,hbx.cell 2 _ rfl⟩;have f98:=fun x=>(hAB.b9.set_other ⟨q8,0,none⟩ x HNE.out).cell 0 _ rfl;have g98:=fun x=>(hAB.b9.set_other ⟨q8,0,none⟩ x HNE.out).free 0)|(gi_at_call 192;(with_reducible refine(CallsIn.inRound l0 (callsIn_wide.2 (H192.out _))).mono ?_);rintro e u2 ⟨rfl,hb⟩;clear H192;replace hAB:=hAB.below hb;replace hbx:=hbx.below hb;replace hQ:=below_then hQ hb;clear hb;obtain⟨z4,z5,z6,z7,z8,z9,f8,f9⟩:=hAB.cells;obtain⟨x0,x1,x2⟩:_∧_∧_:=⟨hbx.cell 0 _ rfl,hbx.cell 1 _ rfl,hbx.cell 2 _ rfl⟩;have f98:=fun x=>(hAB.b9.set_other ⟨q8,0,none⟩ x HNE.out).cell 0 _ rfl;have g98:=fun x=>(hAB.b9.set_other ⟨q8,0,none⟩ x HNE.out).free 0;obtain⟨A,c,hBq,hRd,_⟩:=hAB.row.rd dE inC_len;have z10:=hBq.cell 0 _ rfl;clear hBq)|(gi_at_call 193;(with_reducible refine(CallsIn.inRound l0 (callsIn_wide.2 (H193.out _ hAB.wk))).mono ?_);rintro e u3 ⟨rfl,rfl⟩;clear H193)|(gi_at_call 158;(with_reducible refine(CallsIn.inRound l0 (callsIn_wide.2 (H158a.out _ _ _ hRd))).mono ?_);rintro e u4 ⟨rfl,rfl⟩;clear H158a)|(gi_at_call 158;(with_reducible refine(CallsIn.inRound l0 (callsIn_wide.2 (H158b.out _ (HNV.out.below (HWb.out.trans (hQ.mono HWb.out.size)))))).mono ?_);rintro e u5 ⟨rfl,rfl⟩;clear H158b))
       exact xe23_0
     rw[show decide ((kk:Int)∈never)=false by simpa using h5]at H158b;have HS2:Aside (d.leadA n but never ((pre++[(⟨(i,⟨lf,lt,true⟩),hy1,hy2⟩:LnAt n d.ln)]).map (·.1)) []=some (l++[(kk:Int)])):=by rw[HS.out,if_neg hbt,if_pos (by simp[h2,h3,h4,h5])];exact aside_rfl
     obtain⟨i0,hi,hz0,hz1,hz2⟩:=info_parts inf3;clear hbt HS h2 h3 h4 h5
     gi_wp2_with (first|(gi_at_call 201;(with_reducible refine(CallsIn.inRound l0 (callsIn_wide.2 (H201.out _))).mono ?_);rintro e u1 ⟨rfl,hb⟩;clear H201;replace hAB:=hAB.below hb;replace hbx:=hbx.below hb;replace hQ:=below_then hQ hb;clear hb;obtain⟨z4,z5,z6,z7,z8,z9,f8,f9⟩:=hAB.cells;obtain⟨x0,x1,x2⟩:_∧_∧_:=⟨hbx.cell 0 _ rfl,hbx.cell 1 _ rfl,hbx.cell 2 _ rfl⟩;have f98:=fun x=>(hAB.b9.set_other ⟨q8,0,none⟩ x HNE.out).cell 0 _ rfl;have g98:=fun x=>(hAB.b9.set_other ⟨q8,0,none⟩ x HNE.out).free 0)|(gi_at_call 192;(with_reducible refine(CallsIn.inRound l0 (callsIn_wide.2 (H192.out _))).mono ?_);rintro e u2 ⟨rfl,hb⟩;clear H192;replace hAB:=hAB.below hb;replace hbx:=hbx.below hb;replace hQ:=below_then hQ hb;clear hb;obtain⟨z4,z5,z6,z7,z8,z9,f8,f9⟩:=hAB.cells;obtain⟨x0,x1,x2⟩:_∧_∧_:=⟨hbx.cell 0 _ rfl,hbx.cell 1 _ rfl,hbx.cell 2 _ rfl⟩;have f98:=fun x=>(hAB.b9.set_other ⟨q8,0,none⟩ x HNE.out).cell 0 _ rfl;have g98:=fun x=>(hAB.b9.set_other ⟨q8,0,none⟩ x HNE.out).free 0;skip))
     obtain⟨A,c,A',c',w5,z10,hrun,z10',f10,hR5,hT5,hS5⟩:=hAB.row.app (t:=24) (ty:=24) Tryz.underlying24 hi hz0 hz1 hz2 rfl dE inC_len inC_one dE HQB.out (Nat.le_trans HWl.out hQ.size) (Nat.le_trans HLL.out dE) (kk:Int) #[kk] rfl;obtain⟨A1,c1,hB1,hRd,_⟩:=hAB.row.rd dE inC_len;have e1:=(hB1.cell 0 _ rfl).symm.trans z10;cases e1
     have HRUN:=Lib.hid hrun;have HR5:=Lib.hid hR5;have HT5:=Lib.hid hT5;have HS5:=Lib.hid hS5;clear hrun hR5 hT5 hS5 hB1
     gi_wp2_with (first|(gi_at_call 193;(with_reducible refine(CallsIn.inRound l0 (callsIn_wide.2 (H193.out _ hAB.wk))).mono ?_);rintro e u3 ⟨rfl,rfl⟩;clear H193)|(gi_at_call 158;(with_reducible refine(CallsIn.inRound l0 (callsIn_wide.2 (H158a.out _ _ _ hRd))).mono ?_);rintro e u4 ⟨rfl,rfl⟩;clear H158a)|(gi_at_call 158;(with_reducible refine(CallsIn.inRound l0 (callsIn_wide.2 (H158b.out _ (HNV.out.below (HWb.out.trans (hQ.mono HWb.out.size)))))).mono ?_);rintro e u5 ⟨rfl,rfl⟩;clear H158b)|(gi_at_builtin;refine wpListIn_append_run rfl _ _ 24 rfl _ _ _ rfl rfl HRUN.out ?_))
     refine⟨(keeps_below hQ).trans (keeps_touch HT5.out (fun b hb=>(HS5.out b hb).2)),⟨⟨l++[(kk:Int)],HS2.out,?_⟩,?_,?_⟩,?_⟩
     · have hne:∀b,b<w3.heap.size→b≠q10→b∉q10::ownB A:=fun b h1 h2 hm=>by
        rcases (HS5.out b hm).1 with h3|h3
        · exact h2 h3
        omega
       have hq:=HQ.out;have hw:=HW3.out;have hpw:=HKW.out p (.inl rfl);exact⟨hAB.wk.touch HT5.out (hne p oM oM) (fun b hb=>hne b (by have:=HKW.out b (.inr hb);omega) (by have:=HKW.out b (.inr hb);omega)),hAB.b4.touch HT5.out (hne _ oM oM),hAB.b5.touch HT5.out (hne _ oM oM),hAB.b6.touch HT5.out (hne _ oM oM),hAB.b7.touch HT5.out (hne _ oM oM),hAB.b8.touch HT5.out (hne _ oM oM),hAB.b9.touch HT5.out (hne _ oM oM),HR5.out⟩
     · have hB9:=HWb.out.trans (hQ.mono HWb.out.size);exact hB9.trans (HT5.out.below hB9.size fun b hb=>by have h1:=(HS5.out b hb).1;have h3:=HW3.out;have h4:=HQ.out;omega)
     · exact Nat.le_trans (Nat.le_trans HWl.out hQ.size) HT5.out.size
     exact(Hn4.out.below hQ).touch HT5.out (fun hm=>by have h1:=(HS5.out _ hm).1;have h2:=HQ.out;have h3:=HW3.out;omega)
   rw[show (d.kindAt kk==1)=false by simpa using h3]at H193;have HS2:Aside (d.leadA n but never ((pre++[(⟨(i,⟨lf,lt,true⟩),hy1,hy2⟩:LnAt n d.ln)]).map (·.1)) []=none):=by rw[HS.out,if_neg hbt,if_neg (by simp[h3])];exact aside_rfl
   clear h2 h3 H158a H158b;clear hbt HS
   gi_wp2_with (first|(gi_at_call 201;(with_reducible refine(CallsIn.inRound l0 (callsIn_wide.2 (H201.out _))).mono ?_);rintro e u1 ⟨rfl,hb⟩;clear H201;replace hAB:=hAB.below hb;replace hbx:=hbx.below hb;replace hQ:=below_then hQ hb;clear hb;obtain⟨z4,z5,z6,z7,z8,z9,f8,f9⟩:=hAB.cells;obtain⟨x0,x1,x2⟩:_∧_∧_:=⟨hbx.cell 0 _ rfl,hbx.cell 1 _ rfl,hbx.cell 2 _ rfl⟩;have f98:=fun x=>(hAB.b9.set_other ⟨q8,0,none⟩ x HNE.out).cell 0 _ rfl;have g98:=fun x=>(hAB.b9.set_other ⟨q8,0,none⟩ x HNE.out).free 0)|(gi_at_call 192;(with_reducible refine(CallsIn.inRound l0 (callsIn_wide.2 (H192.out _))).mono ?_);rintro e u2 ⟨rfl,hb⟩;clear H192;replace hAB:=hAB.below hb;replace hbx:=hbx.below hb;replace hQ:=below_then hQ hb;clear hb;obtain⟨z4,z5,z6,z7,z8,z9,f8,f9⟩:=hAB.cells;obtain⟨x0,x1,x2⟩:_∧_∧_:=⟨hbx.cell 0 _ rfl,hbx.cell 1 _ rfl,hbx.cell 2 _ rfl⟩;have f98:=fun x=>(hAB.b9.set_other ⟨q8,0,none⟩ x HNE.out).cell 0 _ rfl;have g98:=fun x=>(hAB.b9.set_other ⟨q8,0,none⟩ x HNE.out).free 0;skip)|(gi_at_call 193;(with_reducible refine(CallsIn.inRound l0 (callsIn_wide.2 (H193.out _ hAB.wk))).mono ?_);rintro e u3 ⟨rfl,rfl⟩;clear H193))
   exact xe23_0
 case done=>
  rintro D ys W hD hys ⟨⟨⟨l,hl,hAB⟩,hB4,hs4⟩,hn4⟩ hDd;rw[hys]at hl
  have hgood:=leadA_good d n but never _ _ _ (fun x hx=>by
    have h1:=atsF_get hx;have h2:=HD.out.ln _ (List.mem_of_getElem? h1.1);have h3:=h1.2.1;simp only[Line.at,Bool.or_eq_true,decide_eq_true_eq]at h3;unfold Line.other
    omega) hl List.nodup_nil sI
  have HR:Aside (d.around n but never=some (d.inOrder l)):=by
   show (d.leadL n but never 0 d.ln []).map d.inOrder=_
   rw[leadL_ats,hl];rfl
  have HLL:Aside (l.length≤100000):=by
   have h1:=leadA_len d n but never _ _ _ hl;have h2:=ats_len n d.ln;have h3:=HN.out;simp only[List.length_nil]at h1;show l.length≤100000
   omega
  obtain⟨A,c,hBq,hrow⟩:=hAB.row;have hsort:=sort211 A c w3.heap.size l W hrow HLL.out;rw[sort_inOrder hgood.1 hgood.2]at hsort;have hlen:=inOrder_len hgood.1 hgood.2;have HLen:=Lib.hid hlen;have hq10:=hBq.cell 0 _ rfl;have HBq:=Lib.hid hBq;have HAB:=Lib.hid hAB;have HB4:=Lib.hid hB4;have HDd:=Lib.hid hDd;have HrL:Aside (∀b∈ownB A,w3.heap.size≤b∧∃o:Obj,W.heap[b]?=some o∧o.isCells=true):=fun b hb=>⟨(ownsRow_lt hrow b hb).1,ownsRow_cells hrow b hb⟩;have hqs:=HQ.out;have hws:=HW3.out;have HDq:Aside (w.heap.size≤D):=Nat.le_trans HW3.out.1 hD;clear hys hl hgood hlen hBq hrow hAB hB4 hs4 hn4 hDd hqs hws hD;go_wp2_with fail
  (with_reducible refine hsort.mono ?_)
  rintro e W2 ⟨rfl,hrow2,hT2⟩;have hne:∀b,b<w3.heap.size→b∉ownB A:=fun b h1 hm=>by have:=(HrL.out b hm).1;omega
  have hq:q5<w3.heap.size∧q8<w3.heap.size∧q9<w3.heap.size∧q10<w3.heap.size∧q8≠q9∧q8≠q10∧q9≠q10∧w.heap.size≤q8∧w.heap.size≤q9:=by have:=HQ.out;have:=HW3.out;omega
  have hB8:=HAB.out.b8.touch hT2 (hne _ hq.2.1);have hB9:=HAB.out.b9.touch hT2 (hne _ hq.2.2.1);have hB10:=HBq.out.touch hT2 (hne _ hq.2.2.2.1);have hz10:=hB10.cell 0 _ rfl;have hz8:=hB8.cell 0 _ rfl;have hf8:=hB8.free 0;have hz9:=hB9.cell 0 _ rfl;have hz9':=fun x=>(hB9.set_other ⟨q8,0,none⟩ x hq.2.2.2.2.1).cell 0 _ rfl;have hf9':=fun x=>(hB9.set_other ⟨q8,0,none⟩ x hq.2.2.2.2.1).free 0;have HB8:=Lib.hid hB8;have HB9:=Lib.hid hB9;have HT2:=Lib.hid hT2;have HRow2:=Lib.hid hrow2;have Hq:=Lib.hid hq;have HNe:=Lib.hid hne;clear hB8 hB9 hB10 hT2 hrow2 hq hne hsort hq10
  go_wp2
  have hDD:W2.heap[D]?=some (.deferred (some [])):=(HT2.out.block D (Array.getElem?_eq_some_iff.1 HDd.out).1 (fun hm=>not_both (HrL.out D hm).2 ⟨_,HDd.out,rfl⟩)).trans HDd.out;have hb8:=HB8.out.set 0 (.slice A l.length c);have hb8':=hb8.set_other ⟨q9,0,none⟩ (.bool true) (fun e=>Hq.out.2.2.2.2.1 e.symm);have hb9:=(HB9.out.set_other ⟨q8,0,none⟩ (.slice A l.length c) Hq.out.2.2.2.2.1).set 0 (.bool true);have hT3:Touch [q8,q9] W2 ((W2.setCell ⟨q8,0,none⟩ (.slice A l.length c)).setCell ⟨q9,0,none⟩ (.bool true)):=(((Touch.refl [q8,q9] W2).setCell ⟨q8,0,none⟩ sI _).setCell ⟨q9,0,none⟩ sI _);have hD8:D≠q8:=by rintro rfl;exact not_both HB8.out.cells ⟨_,hDD,rfl⟩
  have hD9:D≠q9:=by rintro rfl;exact not_both HB9.out.cells ⟨_,hDD,rfl⟩
  have hDE:=(hT3.block D (Array.getElem?_eq_some_iff.1 hDD).1 (by simp[hD8,hD9])).trans hDD;refine⟨by simp, .inl ⟨_,_,rfl,run_takeDeferred hDE,?_⟩⟩
  have hQy:Quietly ((W2.setCell ⟨q8,0,none⟩ (.slice A l.length c)).setCell ⟨q9,0,none⟩ (.bool true)) (((W2.setCell ⟨q8,0,none⟩ (.slice A l.length c)).setCell ⟨q9,0,none⟩ (.bool true)).putObj D (.deferred none)):=⟨some D,grownBy_putObj' _ D _,fun r e=>by cases e;exact⟨_,hDE,rfl⟩⟩;have r8:=(hb8'.quietly hQy).cell 0 _ rfl;have r9:=(hb9.quietly hQy).cell 0 _ rfl;refine⟨.tuple #[.slice A l.length c, .bool true],by simp[results,Tryz.results204,go_sem,r8,r9],?_⟩
  rw[HR.out];refine⟨A,c,by rw[HLen.out],?_,?_⟩
  · rw[HLen.out];refine ownsRow_quietly ?_ hQy
    have h1:=ownsRow_touch HRow2.out hT3 (fun b hb hm=>by
      have h2:=(HrL.out b (ownBlock_ownB hb)).1;simp at hm
      have:=Hq.out
      omega)
    rcases h1.2 with h2|⟨g,cap,cur,hv,hb,r⟩
    · exact⟨h1.1, .inl h2⟩
    exact⟨h1.1, .inr ⟨g,cap,cur,hv,Nat.le_trans HW3.out.1 hb,r⟩⟩
  have hB5:=HB4.out.trans (HT2.out.below HB4.out.size fun b hb=>Nat.le_trans HW3.out.1 (HrL.out b hb).1);have hB6:=hB5.trans (hT3.below hB5.size fun b hb=>by simp at hb;have:=Hq.out;rcases hb with rfl|rfl<;>omega);exact hB6.grown (grownBy_putObj' _ D _) hB6.size (fun k e=>by cases e;exact HDq.out)
 rintro D c pre W hD ⟨k,hk⟩ ⟨⟨rfl,hl⟩,hB4,hb8,hb9⟩ hDd
 have HR:Aside (d.around n but never=none):=by
  show (d.leadL n but never 0 d.ln []).map d.inOrder=_
  obtain⟨zs,hz⟩:=ats_split n d.ln k;rw[leadL_ats,hz,←hk,leadA_append_none _ _ _ _ _ _ _ hl];rfl
 have HDq:Aside (w.heap.size≤D):=Nat.le_trans HW3.out.1 hD;have HDd:=Lib.hid hDd;have HB4:=Lib.hid hB4;have H8:=Lib.hid hb8;have H9:=Lib.hid hb9;clear hl hk hD hDd hB4 hb8 hb9
 gi_wp2
 refine⟨by simp, .inl ⟨_,_,rfl,run_takeDeferred HDd.out,?_⟩⟩
 have hQy:Quietly W (W.putObj D (.deferred none)):=⟨some D,grownBy_putObj' _ D _,fun r e=>by cases e;exact⟨_,HDd.out,rfl⟩⟩;have r8:=(H8.out.quietly hQy).cell 0 _ rfl;have r9:=(H9.out.quietly hQy).cell 0 _ rfl;refine⟨.tuple #[.slice none 0 0, .bool false],by simp[results,Tryz.results204,go_sem,r8,r9],?_⟩
 rw[HR.out];exact⟨rfl,HB4.out.grown (grownBy_putObj' _ D _) HB4.out.size (fun k e=>by cases e;exact HDq.out)⟩
end
section
open Go.RowKit Go.Shelf
variable {n:Nat} {d:Diag}
theorem nodup_len:∀{l:List Int},l.Nodup→(∀x∈l,0≤x∧x<(n:Int))→l.length≤n:=by
 intro l hn hr
 have h1:(l.map Int.toNat).Nodup:=by
  have:∀{l:List Int},l.Nodup→(∀x∈l,0≤x∧x<(n:Int))→(l.map Int.toNat).Nodup:=by
   intro l
   induction l with
   |nil=>intro _ _;simp
   | cons a l ih=>
    intro hn hr;rw[List.nodup_cons]at hn;rw[List.map_cons,List.nodup_cons];refine⟨?_,ih hn.2 (fun x hx=>hr x (List.mem_cons_of_mem _ hx))⟩
    rw[List.mem_map];rintro ⟨b,hb,e⟩;have h2:=hr a sI;have h3:=hr b (List.mem_cons_of_mem _ hb);have:a=b:=oM
    subst this;exact hn.1 hb
  exact this hn hr
 have h2:∀x∈l.map Int.toNat,x<n:=by
  intro x hx;obtain⟨y,hy,rfl⟩:=List.mem_map.1 hx;have:=hr y hy;omega
 have key:∀(n:Nat) (l:List Nat),l.Nodup→(∀x∈l,x<n)→l.length≤n:=by
  intro n
  induction n with
  | zero=>
   intro l _ h
   cases l with
   |nil=>simp
   |cons a l=>exact absurd (h a sI) oM
  | succ n ih=>
   intro l hn h
   have h1:=ih (l.erase n) (hn.erase n) (fun x hx=>by
     have h2:=(List.Nodup.mem_erase_iff hn).1 hx;have h3:=h x h2.2;have h4:=h2.1
     omega)
   have h2:l.length≤(l.erase n).length+1:=by
    rw[List.length_erase]
    split<;>omega
   omega
 have:=key n _ h1 h2
 rwa [List.length_map]at this
theorem Diag.ok_of_check (h:d.check=0):d.Ok:=by
 obtain⟨⟨h1,h2⟩,hs,⟨hl,he⟩,hn,_,hc⟩:=check_parts h
 have hE:∀x∈d.ends,0≤x∧x<(d.sp.length:Int):=by
  intro x hx;rw[List.any_eq_false]at he;have h3:=he x hx;simp only[Diag.badEnd,outI,Bool.or_eq_true,decide_eq_true_eq,not_or]at h3;omega
 have hlen:=nodup_len hn hE;have hle:d.ends.length=d.ins.length+d.outs.length:=List.length_append;refine⟨h1,h2,oM,oM,?_,?_,fun x hx=>hE x (List.mem_append.2 (.inl hx)),fun x hx=>hE x (List.mem_append.2 (.inr hx)),hc⟩
 · intro s hx;rw[List.any_eq_false]at hs;have h3:=hs s hx;simp only[badSp,Bool.or_eq_true,decide_eq_true_eq,not_or]at h3;omega
 intro l hx;rw[List.any_eq_false]at hl;have h3:=hl l hx;simp only[Diag.badLn,outI,Bool.or_eq_true,decide_eq_true_eq,not_or]at h3;omega
end
section
open Go.RowKit Go.Shelf
variable {α:Type} {n:Nat} {d:Diag}
structure Diag.Inv (d:Diag):Prop where
 ok:d.Ok
 ie:∀x∈d.ins,d.kindAt x=0
 oe:∀x∈d.outs,d.kindAt x=0
theorem Diag.inv_of_check (h:d.check=0):d.Inv:=by
 obtain⟨_,_,⟨_,he⟩,_,_,_⟩:=check_parts h
 have hE:∀x∈d.ends,d.kindAt x=0:=by
  intro x hx;rw[List.any_eq_false]at he;have h3:=he x hx;simp only[Diag.badEnd,Bool.or_eq_true,not_or]at h3;simpa using h3.2
 exact⟨Diag.ok_of_check h,fun x hx=>hE x (List.mem_append.2 (.inl hx)),fun x hx=>hE x (List.mem_append.2 (.inr hx))⟩
theorem Diag.Inv.cutLn (h:d.Inv) (i:Nat):(d.cutLn i).Inv:=by
 refine⟨⟨h.ok.n1,?_,h.ok.n3,h.ok.n4,h.ok.sp,fun l hl=>h.ok.ln l (List.mem_of_mem_eraseIdx hl),h.ok.ins,h.ok.outs,h.ok.sc⟩,h.ie,h.oe⟩
 have h1:=h.ok.n2;show (d.ln.eraseIdx i).length≤100
 rw[List.length_eraseIdx]
 split<;>omega
theorem kindAt_modify (d:Diag) (n:Nat) (f:Spider→Spider) (hf:∀s,(f s).kind=s.kind) (x:Int):({d with sp:=d.sp.modify n f}:Diag).kindAt x=d.kindAt x:=by
 unfold Diag.kindAt;dsimp only;rw[List.getElem?_modify]
 cases d.sp[x.toNat]? with
 |none=>rfl
 | some s=>
  show (if n=x.toNat then f s else s).kind=s.kind
  split
  · exact hf s
  rfl
theorem Diag.Inv.addPh (h:d.Inv) (n q:Int):(d.addPh n q).Inv:=by
 have hlen:(d.addPh n q).sp.length=d.sp.length:=by show (d.sp.modify _ _).length=_;rw[List.length_modify]
 refine⟨⟨by rw[hlen];exact h.ok.n1,h.ok.n2,h.ok.n3,h.ok.n4,?_,by rw[hlen];exact h.ok.ln,by rw[hlen];exact h.ok.ins,by rw[hlen];exact h.ok.outs,h.ok.sc⟩,?_,?_⟩
 · intro s hs;obtain⟨i,hi⟩:=List.mem_iff_getElem?.1 hs;have h1:(d.sp.modify n.toNat (Spider.add q))[i]?=some s:=hi;rw[List.getElem?_modify]at h1
   cases h2:d.sp[i]? with
   |none=>rw[h2]at h1;cases h1
   | some s0=>
    rw[h2]at h1;have h1:some (if n.toNat=i then Spider.add q s0 else s0)=some s:=h1;have h3:=h.ok.sp s0 (List.mem_of_getElem? h2)
    by_cases e:n.toNat=i
    · rw[if_pos e]at h1;simp at h1
      subst h1;simp only[Spider.add];omega
    rw[if_neg e]at h1;simp at h1
    subst h1;exact h3
 · intro x hx;rw[show (d.addPh n q).kindAt x=d.kindAt x from kindAt_modify d n.toNat (Spider.add q) (fun _=>rfl) x];exact h.ie x hx
 intro x hx;rw[show (d.addPh n q).kindAt x=d.kindAt x from kindAt_modify d n.toNat (Spider.add q) (fun _=>rfl) x];exact h.oe x hx
theorem Diag.Inv.addAll {q:Int}:∀{l:List Int} {d:Diag},d.Inv→(d.addAll q l).Inv
 |[],d,h=>h
 |n::l,d,h=>Diag.Inv.addAll (l:=l) (h.addPh n q)
theorem eraseIdx_down {l:List α} {x:Nat} (hx:x≠n):(l.eraseIdx n)[(downI x n).toNat]?=l[x]?:=by
 unfold downI;rw[List.getElem?_eraseIdx]
 by_cases h:(n:Int)<x
 · rw[if_pos h];have e:((x:Int)-1).toNat=x-1:=oM
   rw[e,if_neg oM]
   congr 1
   omega
 rw[if_neg h];have e:(x:Int).toNat=x:=oM
 rw[e,if_pos oM]
theorem downI_range {x n:Int} {len:Nat} (hx:0≤x) (hl:x<len) (hn:0≤n) (hne:x≠n) (hnl:n<len):0≤downI x n∧downI x n<((len-1:Nat):Int):=by
 unfold downI
 split<;>omega
theorem kindAt_away {x:Int} (hx:0≤x) (hne:x≠n):(d.away n).kindAt (downI x n)=d.kindAt x:=by
 obtain⟨m,rfl⟩:=Int.eq_ofNat_of_zero_le hx;have h:=eraseIdx_down (l:=d.sp) (n:=n) (x:=m) oM;unfold Diag.kindAt Diag.away;dsimp only;rw[Int.toNat_natCast,h,Int.toNat_natCast]
theorem Diag.Inv.away (h:d.Inv) (hn:n<d.sp.length) (hk:d.kindAt n≠0):(d.away n).Inv:=by
 have hlen:(d.away n).sp.length=d.sp.length-1:=by
  show (d.sp.eraseIdx (n:Int).toNat).length=_
  rw[Int.toNat_natCast,List.length_eraseIdx,if_pos hn]
 have hin:∀x∈d.ins,x≠(n:Int):=by rintro x hx rfl;exact hk (h.ie _ hx)
 have hou:∀x∈d.outs,x≠(n:Int):=by rintro x hx rfl;exact hk (h.oe _ hx)
 refine⟨⟨by rw[hlen];have:=h.ok.n1;omega,?_,?_,?_,?_,?_,?_,?_,h.ok.sc⟩,?_,?_⟩
 · show ((d.ln.filter _).map _).length≤100
   rw[List.length_map];exact Nat.le_trans (List.length_filter_le _ _) h.ok.n2
 · show (d.ins.map _).length≤40
   rw[List.length_map];exact h.ok.n3
 · show (d.outs.map _).length≤40
   rw[List.length_map];exact h.ok.n4
 · intro s hs;exact h.ok.sp s (List.mem_of_mem_eraseIdx hs)
 · intro l hl;obtain⟨l',hl',rfl⟩:=List.mem_map.1 (show l∈(d.ln.filter (fun l=>!l.at n)).map (Line.down n) from hl);obtain⟨hm,ha⟩:=List.mem_filter.1 hl';have hr:=h.ok.ln l' hm;simp only[Line.at,Bool.not_eq_true',Bool.or_eq_false_iff,decide_eq_false_iff_not]at ha;rw[hlen];exact⟨downI_range hr.1.1 hr.1.2 oM ha.1 oM,downI_range hr.2.1 hr.2.2 oM ha.2 oM⟩
 · intro x hx;obtain⟨y,hy,rfl⟩:=List.mem_map.1 (show x∈d.ins.map (downI · n) from hx);rw[hlen];exact downI_range (h.ok.ins y hy).1 (h.ok.ins y hy).2 oM (hin y hy) oM
 · intro x hx;obtain⟨y,hy,rfl⟩:=List.mem_map.1 (show x∈d.outs.map (downI · n) from hx);rw[hlen];exact downI_range (h.ok.outs y hy).1 (h.ok.outs y hy).2 oM (hou y hy) oM
 · intro x hx;obtain⟨y,hy,rfl⟩:=List.mem_map.1 (show x∈d.ins.map (downI · n) from hx);rw[kindAt_away (h.ok.ins y hy).1 (hin y hy)];exact h.ie y hy
 intro x hx;obtain⟨y,hy,rfl⟩:=List.mem_map.1 (show x∈d.outs.map (downI · n) from hx);rw[kindAt_away (h.ok.outs y hy).1 (hou y hy)];exact h.oe y hy
end
section
open Go.RowKit Go.Shelf
variable {i:Nat} {k:Nat} {d:Diag}
theorem Diag.Inv.setLn (h:d.Inv) (L:List Line) (hl:L.length≤100) (hr:∀l∈L,(0≤l.f∧l.f<d.sp.length)∧0≤l.t∧l.t<d.sp.length):({d with ln:=L}:Diag).Inv:=
 ⟨⟨h.ok.n1,hl,h.ok.n3,h.ok.n4,h.ok.sp,hr,h.ok.ins,h.ok.outs,h.ok.sc⟩,h.ie,h.oe⟩
theorem kindAt_addPh (d:Diag) (n q x:Int):(d.addPh n q).kindAt x=d.kindAt x:=kindAt_modify d n.toNat (Spider.add q) (fun _=>rfl) x
theorem len_addPh (d:Diag) (n q:Int):(d.addPh n q).sp.length=d.sp.length:=by show (d.sp.modify _ _).length=_;rw[List.length_modify]
theorem Diag.Inv.fuses (h:d.Inv) {d':Diag} {l:List Num} {n:Int} (he:d.fuses i=some (d',l,n)):d'.Inv:=by
 unfold Diag.fuses at he
 cases ha:d.ln[i]? with
 |none=>rw[ha]at he;cases he
 | some x=>
  rw[ha]at he;dsimp only at he
  by_cases hc:x.loop=true∨x.hat=true∨d.kindAt x.f=0∨d.kindAt x.f≠d.kindAt x.t
  · rw[if_pos hc]at he;cases he
  rw[if_neg hc]at he;cases he
  have hx:=h.ok.ln x (List.mem_of_getElem? ha);have h3:d.kindAt x.f≠0:=fun e=>hc (.inr (.inr (.inl e)));have h4:d.kindAt x.f=d.kindAt x.t:=Classical.byContradiction fun e=>hc (.inr (.inr (.inr e)));have hi:=(List.getElem?_eq_some_iff.1 ha).1;obtain⟨fn,hf⟩:=Int.eq_ofNat_of_zero_le hx.1.1;obtain⟨tn,ht⟩:=Int.eq_ofNat_of_zero_le hx.2.1
  obtain⟨hn,hhn,hhk,hhl⟩:∃hn:Nat,x.hi=hn∧d.kindAt hn≠0∧hn<d.sp.length:=by
   unfold Line.hi;rw[hf]at h3;rw[hf,ht]at h4;rw[hf,ht]
   by_cases e:(tn:Int)≤fn
   · exact⟨fn,oM,h3,oM⟩
   exact⟨tn,oM,by rw[←h4];exact h3,oM⟩
  have hlo:0≤x.lo∧x.lo<d.sp.length:=by unfold Line.lo;omega
  rw[hhn];refine Diag.Inv.away (Diag.Inv.addPh (h.setLn _ ?_ ?_) _ _) (by rw[len_addPh];exact hhl) (by rw[kindAt_addPh];exact hhk)
  · rw[List.length_map,List.length_eraseIdx];have:=h.ok.n2
    split<;>omega
  intro y hy;obtain⟨z,hz,rfl⟩:=List.mem_map.1 hy;have hr:=h.ok.ln z (List.mem_of_mem_eraseIdx hz);simp only[Line.relab,relabI]
  constructor<;>split<;>omega
theorem Diag.Inv.loops (h:d.Inv) {d':Diag} {l:List Num} {n:Int} (he:d.loops i=some (d',l,n)):d'.Inv:=by
 unfold Diag.loops at he
 split at he
 · cases he
 split at he
 · cases he
 split at he
 · cases he;exact h.cutLn i
 cases he;exact(h.cutLn i).addPh _ _
theorem Diag.Inv.pairs (h:d.Inv) {j:Nat} {d':Diag} {l:List Num} {n:Int} (he:d.pairs i j=some (d',l,n)):d'.Inv:=by
 unfold Diag.pairs at he
 split at he
 · split at he
   · cases he
   split at he
   · cases he;exact(h.cutLn j).cutLn i
   · cases he;exact(h.cutLn i).addPh _ _
   · cases he;exact(h.cutLn j).addPh _ _
   cases he;exact h.cutLn j
 cases he
theorem Diag.Inv.drops (h:d.Inv) (hk:k<d.sp.length) {d':Diag} {l:List Num} {n:Int} (he:d.drops k=some (d',l,n)):d'.Inv:=by
 unfold Diag.drops at he
 split at he
 · cases he
 rename_i hc
 cases he
 exact h.away hk (fun e=>hc (.inl e))
theorem kindAt_turn {k x:Int} (L:List Line) (hk:d.kindAt k≠0) (hx:d.kindAt x=0):({d with sp:=d.sp.modify k.toNat (fun s=>⟨3-s.kind,s.phase⟩),ln:=L}:Diag).kindAt x=0:=by
 unfold Diag.kindAt at hk hx ⊢;dsimp only;rw[List.getElem?_modify]
 cases h1:d.sp[x.toNat]? with
 |none=>rfl
 | some s=>
  rw[h1]at hx;show (if k.toNat=x.toNat then(⟨3-s.kind,s.phase⟩:Spider) else s).kind=0
  by_cases e:k.toNat=x.toNat
  · rw[e,h1]at hk;exact absurd hx hk
  rw[if_neg e];exact hx
theorem Diag.Inv.turns (h:d.Inv) {k:Int} {d':Diag} {l:List Num} {n:Int} (he:d.turns k=some (d',l,n)):d'.Inv:=by
 unfold Diag.turns at he
 by_cases hk:d.kindAt k=0
 · rw[if_pos hk]at he;cases he
 rw[if_neg hk]at he;cases he
 have hlen:(d.sp.modify k.toNat (fun s=>(⟨3-s.kind,s.phase⟩:Spider))).length=d.sp.length:=by rw[List.length_modify]
 refine⟨⟨by show (d.sp.modify _ _).length≤40;rw[hlen];exact h.ok.n1,by show (d.ln.map _).length≤100;rw[List.length_map];exact h.ok.n2,h.ok.n3,h.ok.n4,?_,?_,?_,?_,h.ok.sc⟩,fun x hx=>kindAt_turn _ hk (h.ie x hx),fun x hx=>kindAt_turn _ hk (h.oe x hx)⟩
 · intro s hs;obtain⟨i,hi⟩:=List.mem_iff_getElem?.1 hs;have h1:(d.sp.modify k.toNat (fun s=>(⟨3-s.kind,s.phase⟩:Spider)))[i]?=some s:=hi;rw[List.getElem?_modify]at h1
   cases h2:d.sp[i]? with
   |none=>rw[h2]at h1;cases h1
   | some s0=>
    rw[h2]at h1;have h1:some (if k.toNat=i then(⟨3-s0.kind,s0.phase⟩:Spider) else s0)=some s:=h1;have h3:=h.ok.sp s0 (List.mem_of_getElem? h2)
    by_cases e:k.toNat=i
    · rw[if_pos e]at h1;simp at h1
      subst h1;unfold Diag.kindAt at hk;rw[e,h2]at hk;dsimp only at hk ⊢;omega
    rw[if_neg e]at h1;simp at h1
    subst h1;exact h3
 · intro y hy;obtain⟨z,hz,rfl⟩:=List.mem_map.1 (show y∈d.ln.map _ from hy);have hr:=h.ok.ln z hz;show (_∧_<((d.sp.modify _ _).length:Int))∧_∧_<((d.sp.modify _ _).length:Int)
   rw[hlen]
   split<;>exact hr
 · intro x hx;show _∧_<((d.sp.modify _ _).length:Int)
   rw[hlen];exact h.ok.ins x hx
 intro x hx;show _∧_<((d.sp.modify _ _).length:Int)
 rw[hlen];exact h.ok.outs x hx
end
section
open Go.RowKit Go.Shelf
variable {i:Nat} {k:Nat} {n:Nat} {d:Diag}
structure Diag.Inn (d:Diag):Prop where
 rest:({d with ln:=[]}:Diag).Inv
 ln:∀l∈d.ln,(0≤l.f∧l.f<d.sp.length)∧0≤l.t∧l.t<d.sp.length
theorem Diag.Inv.inn (h:d.Inv):d.Inn:=⟨h.setLn [] sI sI,h.ok.ln⟩
theorem Diag.Inn.inv (h:d.Inn) (hl:d.ln.length≤100):d.Inv:=h.rest.setLn d.ln hl h.ln
theorem Diag.Inn.addLn (h:d.Inn) (L:List Line) (hL:∀l∈L,(0≤l.f∧l.f<d.sp.length)∧0≤l.t∧l.t<d.sp.length):({d with ln:=d.ln++L}:Diag).Inn:=
 ⟨h.rest,fun l hl=>(List.mem_append.1 hl).elim (h.ln l) (hL l)⟩
theorem Diag.Inn.addPh (h:d.Inn) (n q:Int):(d.addPh n q).Inn:=
 ⟨h.rest.addPh n q,by rw[len_addPh];exact h.ln⟩
theorem Diag.Inn.addAll {q:Int}:∀{l:List Int} {d:Diag},d.Inn→(d.addAll q l).Inn
 |[],d,h=>h
 |n::l,d,h=>Diag.Inn.addAll (l:=l) (h.addPh n q)
theorem Diag.Inn.away (h:d.Inn) (hn:n<d.sp.length) (hk:d.kindAt n≠0):(d.away n).Inn:=by
 have hlen:(d.away n).sp.length=d.sp.length-1:=by
  show (d.sp.eraseIdx (n:Int).toNat).length=_
  rw[Int.toNat_natCast,List.length_eraseIdx,if_pos hn]
 refine⟨h.rest.away (n:=n) hn hk,?_⟩
 intro l hl;obtain⟨l',hl',rfl⟩:=List.mem_map.1 (show l∈(d.ln.filter (fun l=>!l.at n)).map (Line.down n) from hl);obtain⟨hm,ha⟩:=List.mem_filter.1 hl';have hr:=h.ln l' hm;simp only[Line.at,Bool.not_eq_true',Bool.or_eq_false_iff,decide_eq_false_iff_not]at ha;rw[hlen];exact⟨downI_range hr.1.1 hr.1.2 oM ha.1 oM,downI_range hr.2.1 hr.2.2 oM ha.2 oM⟩
theorem other_range (h:d.Inn) {l:Line} (hl:l∈d.ln) {n:Int} (ha:l.at n=true):0≤l.other n∧l.other n<d.sp.length:=by
 have hr:=h.ln l hl;simp only[Line.at,Bool.or_eq_true,decide_eq_true_eq]at ha;unfold Line.other;omega
theorem Diag.Inv.units (h:d.Inv) (hk:k<d.sp.length) {d':Diag} {l:List Num} {n:Int} (he:d.units k=some (d',l,n)):d'.Inn:=by
 unfold Diag.units at he
 by_cases hc:d.kindAt k=0∨d.phaseAt k≠0
 · rw[if_pos hc]at he;cases he
 rw[if_neg hc]at he
 split at he
 · rename_i a b hab
   have hma:=List.mem_filter.1 (show a∈d.ln.filter (·.at k) by rw[hab];simp);have hmb:=List.mem_filter.1 (show b∈d.ln.filter (·.at k) by rw[hab];simp)
   split at he
   · cases he
   cases he
   refine Diag.Inn.away (h.inn.addLn _ ?_) hk (fun e=>hc (.inl e))
   intro y hy;simp at hy
   subst hy;exact⟨other_range h.inn hma.1 hma.2,other_range h.inn hmb.1 hmb.2⟩
 cases he
theorem kindAt_addAll {q x:Int}:∀{l:List Int} {d:Diag},(d.addAll q l).kindAt x=d.kindAt x
 |[],d=>rfl
 |n::l,d=>(kindAt_addAll (l:=l) (d:=d.addPh n q)).trans (kindAt_addPh d n q x)
theorem len_addAll {q:Int}:∀{l:List Int} {d:Diag},(d.addAll q l).sp.length=d.sp.length
 |[],d=>rfl
 |n::l,d=>(len_addAll (l:=l) (d:=d.addPh n q)).trans (len_addPh d n q)
theorem inOrder_range {l:List Int} {x:Int} (h:x∈d.inOrder l):0≤x∧x<d.sp.length:=by
 unfold Diag.inOrder at h;obtain⟨h1,_⟩:=List.mem_filter.1 h;obtain⟨k,hk,rfl⟩:=List.mem_map.1 h1;have:=List.mem_range.1 hk;omega
theorem around_range {n but:Int} {never l:List Int} (h:d.around n but never=some l):∀x∈l,0≤x∧x<d.sp.length:=by
 unfold Diag.around at h
 cases hl:d.leadL n but never 0 d.ln [] with
 |none=>rw[hl]at h;cases h
 |some m=>rw[hl]at h;cases h;exact fun x hx=>inOrder_range hx
theorem among_range:∀{l:List Int},(∀x∈l,0≤x∧x<(n:Int))→∀y∈among l,(0≤y.f∧y.f<(n:Int))∧0≤y.t∧y.t<(n:Int)
 |[],_,y,hy=>by simp[among]at hy
 | a::l,h,y,hy=>by
  unfold among at hy
  rcases List.mem_append.1 hy with hy|hy
  · obtain⟨b,hb,rfl⟩:=List.mem_map.1 hy;have h1:=h a sI;have h2:=h b (List.mem_cons_of_mem _ hb);dsimp only;omega
  exact among_range (fun x hx=>h x (List.mem_cons_of_mem _ hx)) y hy
theorem between_range {a b:List Int} (ha:∀x∈a,0≤x∧x<(n:Int)) (hb:∀x∈b,0≤x∧x<(n:Int)):∀y∈between a b,(0≤y.f∧y.f<(n:Int))∧0≤y.t∧y.t<(n:Int):=by
 intro y hy;unfold between at hy;obtain⟨x,hx,hy⟩:=List.mem_flatMap.1 hy;obtain⟨z,hz,rfl⟩:=List.mem_map.1 hy;exact⟨ha x hx,hb z hz⟩
theorem Diag.Inv.comps (h:d.Inv) (hk:k<d.sp.length) {d':Diag} {l:List Num} {n:Int} (he:d.comps k=some (d',l,n)):d'.Inn:=by
 unfold Diag.comps at he
 split at he
 · cases he
 rename_i m hm
 split at he
 · cases he
 rename_i hc
 cases he
 have hr:=around_range hm;refine Diag.Inn.away (Diag.Inn.addLn (Diag.Inn.addAll h.inn) _ ?_) ?_ ?_
 · rw[len_addAll];exact among_range hr
 · show k<(d.addAll _ _).sp.length
   rw[len_addAll];exact hk
 have h1:d.kindAt k=1:=Classical.byContradiction fun e=>hc (.inl e);show (d.addAll _ _).kindAt k≠0
 rw[kindAt_addAll,h1];decide
theorem Diag.Inv.pivots (h:d.Inv) {d':Diag} {l:List Num} {n:Int} (he:d.pivots i=some (d',l,n)):d'.Inn:=by
 unfold Diag.pivots at he
 split at he
 · cases he
 rename_i x hx
 dsimp only at he
 split at he
 · cases he
 rename_i hc
 split at he
 · rename_i a b ha hb
   cases he
   have hr:=h.ok.ln x (List.mem_of_getElem? hx);have hne:x.f≠x.t:=fun e=>hc (.inl (by simp[Line.loop,e]));have hu:d.kindAt x.lo=1:=Classical.byContradiction fun e=>hc (.inr (.inr (.inl e)));have hv:d.kindAt x.hi=1:=Classical.byContradiction fun e=>hc (.inr (.inr (.inr (.inl e))));obtain⟨un,hun⟩:∃un:Nat,x.lo=un:=⟨x.lo.toNat,by unfold Line.lo;omega⟩;obtain⟨vn,hvn⟩:∃vn:Nat,x.hi=vn:=⟨x.hi.toNat,by unfold Line.hi;omega⟩;have huv:un<vn:=by unfold Line.lo at hun;unfold Line.hi at hvn;omega
   have hvl:vn<d.sp.length:=by unfold Line.hi at hvn;omega
   have hra:=around_range ha;have hrb:=around_range hb;rw[hun]at hu;rw[hvn]at hv;rw[hun,hvn];have ra:∀x∈a.filter (fun k=>!decide (k∈b)),0≤x∧x<(d.sp.length:Int):=fun x hx=>hra x (List.mem_filter.1 hx).1;have rb:∀x∈b.filter (fun k=>!decide (k∈a)),0≤x∧x<(d.sp.length:Int):=fun x hx=>hrb x (List.mem_filter.1 hx).1;have rc:∀x∈a.filter (fun k=>!decide (k∈a.filter (fun k=>!decide (k∈b)))),0≤x∧x<(d.sp.length:Int):=fun x hx=>hra x (List.mem_filter.1 hx).1
   have hi1:=Diag.Inn.addAll (q:=4*(d.phaseAt un / 4+d.phaseAt vn / 4+1)) (l:=a.filter (fun k=>!decide (k∈a.filter (fun k=>!decide (k∈b))))) (Diag.Inn.addAll (q:=4*(d.phaseAt un / 4)) (l:=b.filter (fun k=>!decide (k∈a))) (Diag.Inn.addAll (q:=4*(d.phaseAt vn / 4)) (l:=a.filter (fun k=>!decide (k∈b))) (h.inn.addLn _ (fun y hy=>by
     rcases List.mem_append.1 hy with hy|hy
     · rcases List.mem_append.1 hy with hy|hy
       · exact between_range ra rb y hy
       · exact between_range ra rc y hy
     · exact between_range rb rc y hy))))
   refine Diag.Inn.away (Diag.Inn.away hi1 ?_ ?_) ?_ ?_
   · rw[len_addAll,len_addAll,len_addAll];exact hvl
   · rw[kindAt_addAll,kindAt_addAll,kindAt_addAll];show d.kindAt vn≠0
     rw[hv];decide
   · show un<(List.eraseIdx _ (vn:Int).toNat).length
     rw[Int.toNat_natCast,List.length_eraseIdx,len_addAll,len_addAll,len_addAll];show un<if vn<d.sp.length then d.sp.length-1 else d.sp.length
     rw[if_pos hvl];omega
   have h1:downI (un:Int) vn=un:=by unfold downI;rw[if_neg oM]
   have h2:=kindAt_away (d:=(((({d with ln:=d.ln++(between (a.filter (fun k=>!decide (k∈b))) (b.filter (fun k=>!decide (k∈a)))++between (a.filter (fun k=>!decide (k∈b))) (a.filter (fun k=>!decide (k∈a.filter (fun k=>!decide (k∈b)))))++between (b.filter (fun k=>!decide (k∈a))) (a.filter (fun k=>!decide (k∈a.filter (fun k=>!decide (k∈b))))))}:Diag).addAll (4*(d.phaseAt vn / 4)) (a.filter (fun k=>!decide (k∈b)))).addAll (4*(d.phaseAt un / 4)) (b.filter (fun k=>!decide (k∈a)))).addAll (4*(d.phaseAt un / 4+d.phaseAt vn / 4+1)) (a.filter (fun k=>!decide (k∈a.filter (fun k=>!decide (k∈b))))))) (n:=vn) (x:=(un:Int)) oM oM;rw[h1,kindAt_addAll,kindAt_addAll,kindAt_addAll]at h2;rw[h2];show d.kindAt un≠0
   rw[hu];decide
 cases he
end
end Go.Proofs.YtcoackmdmohnhaaGreatDoor
