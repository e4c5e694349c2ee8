/-
  Walks: the reference's bigraphs in memory of their own.
-/
import Derived.Test.YtccjepndhlobpaaGreatDoorB3
import Derived.Test.YtccjepndhlobpaaGreatDoorV30
import Derived.Test.YtccjepndhlobpaaGreatDoorC1
import Derived.Deep.DeepMust
namespace Go.Proofs.YtccjepndhlobpaaGreatDoor
open Go.RowKit
set_option linter.unusedVariables false
set_option linter.unusedSimpArgs false
set_option maxRecDepth 100000
set_option maxHeartbeats 3200000
/-- Other numbers of nodes, of edges. -/
def movI (to:List Int) (p:Int):Int:=if p<0 then p else to.getD p.toNat 0
def tieI (e:Int) (edges:List Int) (l:Int):Int:=if e≤l then l else edges.getD l.toNat 0
def renN (b:Big) (to edges:List Int) (n:Nd):Nd:=⟨n.control,movI to n.parent,n.links.map (tieI b.edges edges)⟩
def renB (b:Big) (to edges:List Int) (ys:List Nd):Big:=⟨b.roots,ys,b.sites.map (movI to),b.edges,b.outer,b.inner.map fun x=>⟨x.name,tieI b.edges edges x.link⟩⟩
theorem own_stay {base e' n cap g m:Nat} {e:TypeId} {size:Nat} {w w':World} {xs:List Value} (h:w.ownsRow base e size (.slice (some ⟨g,0,none⟩) n cap) m xs) (hb:w'.heap[g]? = w.heap[g]?):w'.ownsRow base e size (.slice (some ⟨g,0,none⟩) n cap) m xs:=by
 refine ⟨h.1,?_⟩
 rcases h.2 with ⟨hn,_⟩|⟨g',cap',cur,hv,h1,h2,h3⟩
 ·cases hn
 ·cases hv;exact .inr ⟨_,_,cur,rfl,h1,hb.trans h2,h3⟩
/-- A made row in which some places are filled, its elements' memory in the blocks from lo on, below up. -/
def MkD {α:Type} (size:Nat) (P:Lie α) (e:TypeId) (base g lo up n:Nat) (w:World) (xs:List α) (D:Nat→Prop):Prop:=
 base≤g∧g<lo∧∃cells,w.ownsRow base e size (.slice (some ⟨g,0,none⟩) n n) n cells∧∀j (h:j<xs.length),D j→∃ds,ds.length=size∧P lo up w ds xs[j]∧∀t u,ds[t]? = some u→cells[j * size+t]? = some u
section
variable {α:Type} {size:Nat} {P:Lie α} {e:TypeId} {base g lo up n:Nat} {w w':World} {xs:List α} {D:Nat→Prop}
theorem MkD.zero {cells:List Value} (h1:base≤g) (h2:g<lo) (own:w.ownsRow base e size (.slice (some ⟨g,0,none⟩) n n) n cells) (h:∀j,¬D j):MkD size P e base g lo up n w xs D:=⟨h1,h2,cells,own,fun j _ hj=>absurd hj (h j)⟩
theorem MkD.upto (hW:Widens P) {up':Nat} (h:MkD size P e base g lo up n w xs D) (hu:up≤up'):MkD size P e base g lo up' n w xs D:=by
 obtain ⟨h1,h2,cells,own,hel⟩:=h
 refine ⟨h1,h2,cells,own,fun j hj hd=>?_⟩
 obtain ⟨ds,d1,d2,d3⟩:=hel j hj hd
 exact ⟨ds,d1,hW _ _ _ _ _ _ _ (Nat.le_refl _) hu d2,d3⟩
theorem MkD.mono {D':Nat→Prop} (h:MkD size P e base g lo up n w xs D) (hd:∀j,j<xs.length→D' j→D j):MkD size P e base g lo up n w xs D':=by
 obtain ⟨h1,h2,cells,own,hel⟩:=h
 exact ⟨h1,h2,cells,own,fun j hj hd'=>hel j hj (hd j hj hd')⟩
theorem MkD.ext (hP:Keeps P) (h:MkD size P e base g lo up n w xs D) (hx:Ext w w'):MkD size P e base g lo up n w' xs D:=by
 obtain ⟨h1,h2,cells,own,hel⟩:=h
 refine ⟨h1,h2,cells,ownsRow_ext own hx,fun j hj hd=>?_⟩
 obtain ⟨ds,d1,d2,d3⟩:=hel j hj hd
 exact ⟨ds,d1,hP _ _ _ _ _ _ (Same.ext hx) d2,d3⟩
theorem MkD.grown (hP:Keeps P) {r:Option Nat} (h:MkD size P e base g lo up n w xs D) (hg:w.grownBy w' r) (hr:∀x,r=some x→x≠g∧(x<lo∨up≤x)):MkD size P e base g lo up n w' xs D:=by
 obtain ⟨h1,h2,cells,own,hel⟩:=h
 refine ⟨h1,h2,cells,own_stay (e':=0) own (hg.block g (own_lt own).2 (fun e=>(hr g e.symm).1 rfl)),fun j hj hd=>?_⟩
 obtain ⟨ds,d1,d2,d3⟩:=hel j hj hd
 exact ⟨ds,d1,hP _ _ _ _ _ _ (fun b b1 b2 b3=>hg.block b b3 (fun e=>by have:=(hr b e.symm).2;omega)) d2,d3⟩
theorem MkD.set (hP:Keeps P) {B o:Nat} {u:Value} (h:MkD size P e base g lo up n w xs D) (hr:B≠g∧(B<lo∨up≤B)):MkD size P e base g lo up n (w.setCell ⟨B,o,none⟩ u) xs D:=
 h.grown hP (grownBy_set B o u) (fun x hx=>by cases hx;exact hr)
/-- One place more is filled. -/
theorem MkD.put (hP:Keeps P) (h:MkD size P e base g lo up n w xs D) (hn:xs.length=n) (i:Nat) (hi:i<xs.length) (ds:List Value) (hd:ds.length=size) (hp:P lo up w ds xs[i]):MkD size P e base g lo up n (putW w g (i * size) ds) xs (fun j=>D j∨j=i):=by
 obtain ⟨h1,h2,cells,own,hel⟩:=h
 obtain ⟨own2,hgr⟩:=own_put ds w (i * size) cells own
 have hs:Same lo up w (putW w g (i * size) ds):=Same.grown hgr (.inl h2)
 have hl:cells.length=xs.length * size:=by rw [own.1,hn]
 refine ⟨h1,h2,_,own2,fun j hj hji=>?_⟩
 by_cases e:j=i
 ·subst e
  refine ⟨ds,hd,hP _ _ _ _ _ _ hs hp,fun t u ht=>putAt_in ds cells _ t u ?_ ht⟩
  have:(j+1) * size≤xs.length * size:=Nat.mul_le_mul_right _ hj
  rw [Nat.add_mul] at this
  omega
 ·obtain ⟨es,h1,h2,h3⟩:=hel j hj (hji.resolve_right e)
  refine ⟨es,h1,hP _ _ _ _ _ _ hs h2,fun t u ht=>?_⟩
  have htl:t<size:=by
   by_cases hh:t<es.length
   ·omega
   ·rw [List.getElem?_eq_none (by omega)] at ht;cases ht
  rw [putAt_out]
  ·exact h3 t u ht
  ·rcases Nat.lt_or_ge j i with q|q
   ·left
    have:(j+1) * size≤i * size:=Nat.mul_le_mul_right _ q
    rw [Nat.add_mul] at this
    omega
   ·right
    have:(i+1) * size≤j * size:=Nat.mul_le_mul_right _ (by omega)
    rw [Nat.add_mul] at this
    omega
theorem MkD.toSlV (hW:Widens P) {hi:Nat} (h:MkD size P e base g lo up n w xs D) (hD:∀j,j<xs.length→D j) (hn:xs.length=n) (hm:n≤maxLen) (hu:up≤hi) (hg:g<hi):SlV size P base hi w (.slice (some ⟨g,0,none⟩) n n) xs:=by
 obtain ⟨h1,h2,cells,own,hel⟩:=h
 subst hn
 refine ⟨_,_,rfl,Nat.le_refl _,hm,fun h=>(by cases h),.inr ⟨g,0,rfl,h1,hg,fun i hi=>?_⟩⟩
 obtain ⟨ds,d1,d2,d3⟩:=hel i hi (hD i hi)
 refine ⟨ds,d1,hW _ _ _ _ _ _ _ (by omega) hu d2,fun t u ht=>?_⟩
 rw [Nat.zero_add]
 exact own_cell own _ _ (d3 t u ht)
end
theorem SlV.grown {α:Type} {P:Lie α} (hP:Keeps P) {size lo hi:Nat} {w w':World} {v:Value} {xs:List α} {r:Option Nat} (h:SlV size P lo hi w v xs) (hg:w.grownBy w' r) (hr:∀g,r=some g→g<lo∨hi≤g):SlV size P lo hi w' v xs:=
 h.keeps hP (fun b b1 b2 b3=>hg.block b b3 (fun e=>by have:=hr b e.symm;omega))
/-- A whole struct is stored in a place of an own row, as a step of a walk. -/
theorem wpList_store_own {P:Program} {ops:Array Oper} {rest:List Oper} {op:Oper} {a:Act} {w:World} {Q:Exit→Act→World→Prop} (hgd:op.guard=none) (ty:TypeId) (x y:Operand) (ho:op.op=.store ty x y)
 (g k:Nat) (cs:List Value) {base cap m:Nat} {e:TypeId} {size:Nat} {cells:List Value} (own:w.ownsRow base e size (.slice (some ⟨g,0,none⟩) m cap) m cells) (hl:k+cs.length≤m * size) (hx:a.eval x=.pointer (some ⟨g,k,none⟩)) (hy:a.eval y=.agg cs.toArray) (hi:(P.info? ty).map (·.size)=some cs.length) (h1:cs.all (·.oneCell')=true)
 (h:wpList P ops Q rest (a.put op.dst undef) (putW w g k cs)):wpList P ops Q (op :: rest) a w:=by
 have h2:(Instr.storeAt ty (.pointer (some ⟨g,k,none⟩)) (.agg cs.toArray)).run P w=.ok () (putW w g k cs):=by
  rw [run_storeAt_mid w g k ty cs.toArray (fun j hj=>?_) (by simpa using hi) (all_oneCell_toArray (by simpa using h1)),setCells_putW]
  have hj':k+j<m * size:=by simp at hj;omega
  obtain ⟨z,hz⟩:=own_any own (k+j) hj'
  exact ⟨by rw [hz];rfl,own.frozenAt (k+j)⟩
 refine wpList_plain hgd fun K hK=>?_
 unfold Oper.wp execOp
 simp only [ho,hx,hy,h2,Sem.run_bind,Sem.run_pure,Result.andThen_ok]
 exact hK _ _ h
theorem infoBigM:(Tryz.prog.info? 44).map (·.size)=some 6:=by kernel_rfl
theorem infoNdM:(Tryz.prog.info? 160).map (·.size)=some 3:=by kernel_rfl
theorem c_spec_l2Move (lo hi:Nat) (p:Int) (v:Value) (to:List Int) (w:World) (h:IntsV lo hi w v to) (hp:p<to.length) :
 Calls Tryz.prog 224 #[.int .i64 p,v] w fun e w'=>e=.returned (.int .i64 (movI to p))∧w'=w:=by
 obtain ⟨a,k,rfl,g1,g2,g3,g4⟩:=h
 unfold maxLen at g2
 by_cases hn:p<0
 ·have HN:=Lib.hid (show movI to p=p from if_pos hn)
  go_enter Tryz.func224,Tryz.ntmps224
  go_wp2
  go_ret
  exact ⟨ret_int HN.out.symm,rfl⟩
 ·obtain ⟨m,rfl⟩:=Int.eq_ofNat_of_zero_le (show 0≤p by omega)
  have hlt:m<to.length:=by omega
  rcases g4 with g4|⟨b,o,rfl,gb1,gb2,g4⟩
  ·subst g4;simp at hlt
  obtain ⟨cs,hl,⟨rfl,e1⟩,hc⟩:=g4 m hlt
  have q0:=hc 0 _ rfl
  rw [Nat.mul_one,Nat.add_zero] at q0
  have HN:=Lib.hid (show movI to (m:Int)=to[m] by unfold movI;rw [if_neg hn,Int.toNat_natCast,List.getD_eq_getElem?_getD,List.getElem?_eq_getElem hlt];rfl)
  go_enter Tryz.func224,Tryz.ntmps224
  go_wp2
  go_ret
  exact ⟨ret_int HN.out.symm,rfl⟩
theorem c_spec_l2Tie (lo hi le ue:Nat) (cs:List Value) (b:Big) (l:Int) (v:Value) (edges:List Int) (w:World) (hb:BigP lo hi w cs b) (h:IntsV le ue w v edges) (h0:0≤l) (hl:b.edges≤edges.length) :
 Calls Tryz.prog 223 #[.agg cs.toArray,.int .i64 l,v] w fun e w'=>e=.returned (.int .i64 (tieI b.edges edges l))∧Ext w w':=by
 obtain ⟨v1,v2,v4,v5,rfl,r1,r2,_⟩:=hb
 obtain ⟨a,k,rfl,g1,g2,g3,g4⟩:=h
 unfold maxLen at g2
 obtain ⟨W0,hW0,hbx,hx0,hz⟩:=box_facts w [.int .i64 b.roots,v1,v2,.int .i64 b.edges,v4,v5] 44
 have p3:=(hbx 3 _ rfl).1
 clear hz hbx
 by_cases hn:b.edges≤l
 ·have HN:=Lib.hid (show tieI b.edges edges l=l from if_pos hn)
  go_enter Tryz.func223,Tryz.ntmps223
  go_wp2
  go_ret
  exact ⟨ret_int HN.out.symm,hx0⟩
 ·obtain ⟨m,rfl⟩:=Int.eq_ofNat_of_zero_le h0
  have hlt:m<edges.length:=by omega
  rcases g4 with g4|⟨bb,o,rfl,gb1,gb2,g4⟩
  ·subst g4;simp at hlt
  obtain ⟨cs,hl,⟨rfl,e1⟩,hc⟩:=g4 m hlt
  have q0:=hx0.keep (hc 0 _ rfl)
  rw [Nat.mul_one,Nat.add_zero] at q0
  have HN:=Lib.hid (show tieI b.edges edges (m:Int)=edges[m] by unfold tieI;rw [if_neg hn,Int.toNat_natCast,List.getD_eq_getElem?_getD,List.getElem?_eq_getElem hlt];rfl)
  go_enter Tryz.func223,Tryz.ntmps223
  go_wp2
  go_ret
  exact ⟨ret_int HN.out.symm,hx0⟩
theorem ints_i64 {lo hi:Nat} {w:World} {v:Value} {xs:List Int} (h:IntsV lo hi w v xs):∀(i:Nat) (x:Int),xs[i]? = some x→I64 x:=by
 obtain ⟨a,k,rfl,_,_,_,h4⟩:=h
 intro i x hx
 obtain ⟨hl,rfl⟩:=List.getElem?_eq_some_iff.1 hx
 rcases h4 with h4|⟨b,o,_,_,_,h4⟩
 ·subst h4;simp at hl
 ·obtain ⟨cs,_,⟨_,h⟩,_⟩:=h4 i hl
  exact h
theorem ints_cell {lo hi n k:Nat} {a:Option Addr} {w:World} {xs:List Int} (h:IntsV lo hi w (.slice a n k) xs) {i:Nat} {x:Int} (hx:xs[i]? = some x):∃b o,a=some ⟨b,o,none⟩∧w.cell? ⟨b,o+i,none⟩=some (.int .i64 x):=by
 obtain ⟨a,k,e,_,_,_,h4⟩:=h
 cases e
 obtain ⟨hl,rfl⟩:=List.getElem?_eq_some_iff.1 hx
 rcases h4 with h4|⟨b,o,rfl,_,_,h4⟩
 ·subst h4;simp at hl
 ·obtain ⟨cs,_,⟨rfl,_⟩,hc⟩:=h4 i hl
  have:=hc 0 _ rfl
  rw [Nat.mul_one,Nat.add_zero] at this
  exact ⟨b,o,rfl,this⟩
theorem RowL.form3L {α:Type} {size:Nat} {P:Lie α} {e:TypeId} {base:Nat} {w:World} {v:Value} {xs:List α} (h:RowL size P e base w v xs):∃a n k,v=.slice a n k:=by
 obtain ⟨a,k,rfl,_⟩:=h.form
 exact ⟨_,_,_,rfl⟩
def toD (to:List Int) (i j:Nat):Prop:=∃k,k<i∧to[k]? = some (j:Int)
/-- Numbers that a bigraph can be given anew. -/
structure RenOk (b:Big) (to edges:List Int) (ys:List Nd):Prop where
 len:ys.length=b.nodes.length
 img:∀i (h:i<b.nodes.length),∃t:Nat,to[i]? = some (t:Int)∧ys[t]? = some (renN b to edges b.nodes[i])
 all:∀j,j<b.nodes.length→∃i,i<b.nodes.length∧to[i]? = some (j:Int)
 par:∀i (h:i<b.nodes.length),(b.nodes[i]).parent<to.length
 site:∀p∈b.sites,p<to.length
 link:∀i (h:i<b.nodes.length),∀l∈(b.nodes[i]).links,0≤l
 inner:∀x∈b.inner,0≤x.link
 edge:b.edges≤edges.length
theorem mov_i64 {lo hi:Nat} {w:World} {v:Value} {to:List Int} (h:IntsV lo hi w v to) {p:Int} (hp:I64 p) (hl:p<to.length):I64 (movI to p):=by
 unfold movI
 split
 ·exact hp
 ·rename_i hn
  have:p.toNat<to.length:=by omega
  rw [List.getD_eq_getElem?_getD,List.getElem?_eq_getElem this]
  exact ints_i64 h p.toNat _ (List.getElem?_eq_getElem this)
theorem tie_i64 {lo hi:Nat} {w:World} {v:Value} {edges:List Int} (h:IntsV lo hi w v edges) {e l:Int} (hp:I64 l) (h0:0≤l) (hl:e≤edges.length):I64 (tieI e edges l):=by
 unfold tieI
 split
 ·exact hp
 ·rename_i hn
  have:l.toNat<edges.length:=by omega
  rw [List.getD_eq_getElem?_getD,List.getElem?_eq_getElem this]
  exact ints_i64 h l.toNat _ (List.getElem?_eq_getElem this)
set_option maxHeartbeats 12800000 in
theorem c_spec_l2Renumber (lo hi lt ut le ue:Nat) (cs:List Value) (b:Big) (v1 v2:Value) (to edges:List Int) (ys:List Nd) (w:World) (h:BigP lo hi w cs b) (ht:IntsV lt ut w v1 to) (he:IntsV le ue w v2 edges)
 (hwt:wtBig b≤1048576) (ok:RenOk b to edges ys) :
 Calls Tryz.prog 195 #[.agg cs.toArray,v1,v2] w fun e w'=>∃v,e=.returned v∧RBig (renB b to edges ys) v w.heap.size w'.heap.size w'∧Ext w w':=by
 have hw:wtBig b=wtL wtNd b.nodes+b.sites.length+wtL wtStr b.outer+wtL wtWr b.inner:=rfl
 have hw4:b.outer.length≤wtL wtStr b.outer:=by unfold wtL;omega
 have hw5:b.inner.length≤wtL wtWr b.inner:=by unfold wtL;omega
 have hw1:b.nodes.length≤wtL wtNd b.nodes:=by unfold wtL;omega
 obtain ⟨i0,hi0,hz0,hz1,hz2⟩:=info_parts infoNd
 obtain ⟨ii,hii,hn0,hn1,hn2⟩:=info_parts infoInt
 obtain ⟨is,his,hs0,hs1,hs2⟩:=info_parts infoStr
 obtain ⟨ir,hir,hr0,hr1,hr2⟩:=info_parts infoWr
 have HH:=h
 obtain ⟨u1,u2,u4,u5,rfl,r1,r2,⟨a1,k1,rfl,g1,g2,g3,g4⟩,⟨a2,k2,rfl,s1,s2,s3,s4⟩,hO,⟨a5,k5,rfl,t1,t2,t3,t4⟩⟩:=h
 obtain ⟨at1,kt1,rfl⟩:∃a k,v1=.slice a to.length k:=by obtain ⟨a,k,rfl,_⟩:=ht;exact ⟨a,k,rfl⟩
 obtain ⟨at2,kt2,rfl⟩:∃a k,v2=.slice a edges.length k:=by obtain ⟨a,k,rfl,_⟩:=he;exact ⟨a,k,rfl⟩
 unfold maxLen at g2 s2 t2
 obtain ⟨W0,hW0,hbx,hx0,hz⟩:=box_facts w [.int .i64 b.roots,.slice a1 b.nodes.length k1,.slice a2 b.sites.length k2,.int .i64 b.edges,u4,.slice a5 b.inner.length k5] 44
 obtain ⟨W1,hW1,hby,hx1,hy⟩:=box_facts W0 [.int .i64 0,.slice none 0 0,.slice none 0 0,.int .i64 0,.slice none 0 0,.slice none 0 0] 44
 have hX1:=hx0.trans hx1
 have p0:=hx1.keep (hbx 0 _ rfl).1
 have p1:=hx1.keep (hbx 1 _ rfl).1
 have p2:=hx1.keep (hbx 2 _ rfl).1
 have p3:=hx1.keep (hbx 3 _ rfl).1
 have p4:=hx1.keep (hbx 4 _ rfl).1
 have p5:=hx1.keep (hbx 5 _ rfl).1
 have K:=(((Kn.none (W:=W1)).cell p0).cell p1).cell p3
 have K:=K.cell p4
 have hO1:=hO.ext StrP.keeps hX1
 have hz1':W1.heap.size=w.heap.size+1+1:=by omega
 rw [hz] at hby
 have hW1s:w.heap.size+1<W1.heap.size:=by omega
 replace HH:=BigP.keeps _ _ _ _ _ _ (Same.ext hX1) HH
 replace ht:=ht.ext IntP.keeps hX1
 replace he:=he.ext IntP.keeps hX1
 go_enter Tryz.func195,Tryz.ntmps195
 go_wp2_with fail
 (try rw [hW1])
 refine region_mono 14 [14] (by kernel_rfl) (by kernel_rfl) ?_
 refine mP ?_
 refine mL K ?_
 refine mP ?_
 refine mL K ?_
 refine mP ?_
 refine mMake 5 41 160 (.tmp 17) i0 _ 3 b.nodes.length hi0 hz0 hz1 (by rw [hz2];omega) (by unfold maxLen;omega) ?_
 refine mP ?_
 refine mL K ?_
 refine mNew 8 9 ?_
 refine mP ?_
 refine mL K ?_
 refine mCopy 11 StrP.flat StrP.ones 8 (.tmp 21) (.tmp 23) 29 9 is _ 16 b.outer lo hi _ hO1 (by omega) his hs0 hs1 hs2 ?_
 refine mF 12 (fun vs=>.agg #[.int .i64 b.roots,vs 5,.slice none 0 0,.int .i64 b.edges,vs 11,.slice none 0 0]) ?_ ?_
 ·intro vs l u w hx hf
  have h5:=hf.at 5
  have h11:=hf.at 11
  obtain ⟨g,cc,h5,_⟩:=h5
  obtain ⟨a,k,h11,_⟩:=h11
  rw [h5,h11]
  go_simp
 refine mBox 13 [.int .i64 0,.slice none 0 0,.slice none 0 0,.int .i64 0,.slice none 0 0,.slice none 0 0] ?_
 intro vs l u W2 hk
 have hx2:=hk.ext
 obtain ⟨⟨gm,cells,hv5,hm1,hm2,hm⟩,m51,m52,m53⟩:=hk.at 5
 obtain ⟨hO11,m111,m112,m113⟩:=hk.at 11
 obtain ⟨⟨B,hv13,hm3,hm4,hBB⟩,m131,m132,m133⟩:=hk.at 13
 have of1:=hk.off 5 13
 have of2:=hk.off 11 13
 have of3:=hk.off 5 11
 obtain ⟨a4,k4,hv11,_⟩:=id hO11
 rw [hv11] at hO11
 rw [hv5] at hm
 simp only [hv5,hv11,hv13]
 simp only [Off] at of1 of2 of3
 generalize hl5:l 5=l5 at *
 generalize hu5:u 5=z5 at *
 generalize hl11:l 11=l11 at *
 generalize hu11:u 11=z11 at *
 generalize hl13:l 13=l13 at *
 generalize hu13:u 13=z13 at *
 clear hk K hv5 hv11 hv13 hl5 hu5 hl11 hu11 hl13 hu13
 have hmO:=(StrsO.toV hO11).widens StrP.widens (Nat.le_refl _) (Nat.le_refl _)
 have hm0:MkD 3 NdP 160 W1.heap.size gm W2.heap.size W2.heap.size b.nodes.length W2 ys (toD to 0):=MkD.zero (by omega) (by omega) hm (fun j ⟨k,hk,_⟩=>by omega)
 have hRB0:=hby.ext hx2
 clear hO11 hm
 simp only [picked,List.filterMap_cons,List.filterMap_nil]
 go_simp
 refine wpList_store_box rfl 44 (.tmp 7) (.tmp 25) rfl B 0 [.int .i64 b.roots,.slice (some ⟨gm,0,none⟩) b.nodes.length b.nodes.length,.slice none 0 0,.int .i64 b.edges,.slice a4 b.outer.length k4,.slice none 0 0] _ rfl rfl hBB (by simp) infoBigM (by simp [Value.oneCell']) ?_
 intro W3 hB3 hg3 hs3
 go_wp2
 replace hB3:BoxAt W3 B [.int .i64 b.roots,.slice (some ⟨gm,0,none⟩) b.nodes.length b.nodes.length,.slice none 0 0,.int .i64 b.edges,.slice a4 b.outer.length k4,.slice none 0 0]:=hB3
 have hX3:Ext W1 W3:=hx2.own hg3 (fun g hg=>by cases hg;omega)
 have hm3:=hm0.grown NdP.keeps hg3 (fun x hx=>by cases hx;omega)
 have hO3:=hmO.grown StrP.keeps hg3 (fun x hx=>by cases hx;omega)
 have hRB3:=hRB0.grown hg3 (fun x hx=>by cases hx;omega)
 clear hm0 hmO hRB0 hBB hg3 hx2 hby
 have hz3:W2.heap.size≤W3.heap.size:=by omega
 have mm1:W1.heap.size≤gm∧gm<W2.heap.size∧W1.heap.size≤B∧B<W2.heap.size∧gm≠B:=by omega
 go_loopw [8] (fun c wr=>∃i:Nat,c=.int .i64 i∧i≤b.nodes.length∧BoxAt wr B [.int .i64 b.roots,.slice (some ⟨gm,0,none⟩) b.nodes.length b.nodes.length,.slice none 0 0,.int .i64 b.edges,.slice a4 b.outer.length k4,.slice none 0 0]∧MkD 3 NdP 160 W1.heap.size gm W2.heap.size wr.heap.size b.nodes.length wr ys (toD to i)∧StrsV l11 z11 wr (.slice a4 b.outer.length k4) b.outer∧BoxAt wr (w.heap.size+1) [.int .i64 0,.slice none 0 0,.slice none 0 0,.int .i64 0,.slice none 0 0,.slice none 0 0]∧Ext W1 wr∧W2.heap.size≤wr.heap.size) (fun c _=>b.nodes.length - (intOf c).toNat)
 case atStart=>exact ⟨0,rfl,Nat.zero_le _,hB3,hm3.upto NdP.widens hz3,hO3,hRB3,hX3,hz3⟩
 case round=>
  clear hB3 hm3 hO3 hRB3 hX3
  have p0W:=p0;have p1W:=p1;have p2W:=p2;have p3W:=p3;have p4W:=p4;have p5W:=p5;have HHW:=HH;have htW:=ht;have heW:=he
  obtain ⟨i,rfl,hi',hBB,hmk,hOO,hRB,hx,hzr⟩:=hrel
  have hXX:=hX1.trans hx
  replace p0:=hx.keep p0;replace p1:=hx.keep p1;replace p2:=hx.keep p2;replace p3:=hx.keep p3;replace p4:=hx.keep p4;replace p5:=hx.keep p5
  replace HH:=BigP.keeps _ _ _ _ _ _ (Same.ext hx) HH
  replace ht:=ht.ext IntP.keeps hx
  replace he:=he.ext IntP.keeps hx
  by_cases hlt:i<b.nodes.length
  ·have hwn:=wtL_mem wtNd b.nodes b.nodes[i] (List.getElem_mem hlt)
   have hwl:wtNd b.nodes[i]=(b.nodes[i]).links.length:=rfl
   obtain ⟨t,ht1,hty⟩:=ok.img i hlt
   have hpar:=ok.par i hlt
   have hlk:=ok.link i hlt
   rcases g4 with g4|⟨bn,on,rfl,nb1,nb2,g4⟩
   ·rw [g4] at hlt;simp at hlt
   obtain ⟨cs,hl,⟨lv,rfl,e1,e2,e3⟩,hc⟩:=g4 i hlt
   have q0:=hXX.keep (hc 0 _ rfl)
   have q1:=hXX.keep (hc 1 _ rfl)
   have q2:=hXX.keep (hc 2 _ rfl)
   rw [Nat.add_zero] at q0
   clear g4 hc
   replace e3:=e3.ext IntP.keeps hXX
   obtain ⟨la,lk,rfl,n1,n2,n3,n4⟩:=id e3
   unfold maxLen at n2
   obtain ⟨W5,hW5⟩:∃W5,W5=wr:=⟨_,rfl⟩
   subst hW5
   go_wp2
   go_loopw [10,9] (fun c v wi=>∃k:Nat,c=.int .i64 k∧k≤(b.nodes[i]).links.length∧RowL 1 IntP 3 W5.heap.size wi v (((b.nodes[i]).links.take k).map (tieI b.edges edges))∧Ext W5 wi) (fun c _ _=>(b.nodes[i]).links.length - (intOf c).toNat)
   case atStart=>exact ⟨0,rfl,Nat.zero_le _,by rw [List.take_zero];exact RowL.made (Nat.le_refl _),(Ext.refl W5).alloc _⟩
   case round=>
    obtain ⟨k,rfl,hk',hrow,hxi⟩:=hrel
    obtain ⟨va,vn,vk,rfl⟩:=hrow.form3L
    have kp1:=hxi.keep p1;have kq2:=hxi.keep q2
    by_cases hlt2:k<(b.nodes[i]).links.length
    ·have HT:=Lib.hid (List.take_succ_eq_append_getElem hlt2)
     rcases n4 with n4|⟨bl,ol,rfl,lb1,lb2,n4⟩
     ·rw [n4] at hlt2;simp at hlt2
     obtain ⟨cl,hcl,⟨rfl,el⟩,hc⟩:=n4 k hlt2
     have ql:=hxi.keep (hc 0 _ rfl)
     rw [Nat.mul_one,Nat.add_zero] at ql
     clear n4 hc
     have hl0:=hlk _ (List.getElem_mem hlt2)
     go_wp2_with fail
     refine region_till 14 (S:=(fun w'=>Ext wr w')) (by kernel_rfl) ?_ (fun hHeld=>?_)
     ·exact (Ext.refl wr).drew
     refine ttP 14 0 ?_ ?_ ?_;rotate_left;focus (intro w;go_simp;try with_reducible rfl)
     try simp only [Act.put,aput]
     refine ttY 14 1 ?_ ?_ ?_;rotate_left;focus (intro w hSw;(try dsimp only at hSw);have sp0:=Ext.keep (hxi.trans hSw) p0;have sp1:=Ext.keep (hxi.trans hSw) p1;have sp2:=Ext.keep (hxi.trans hSw) p2;have sp3:=Ext.keep (hxi.trans hSw) p3;have sp4:=Ext.keep (hxi.trans hSw) p4;have sp5:=Ext.keep (hxi.trans hSw) p5;have sq2:=Ext.keep (hxi.trans hSw) q2;have sql:=Ext.keep hSw ql;go_simp;try with_reducible rfl)
     try simp only [Act.put,aput]
     refine ttP 14 2 ?_ ?_ ?_;rotate_left;focus (intro w;go_simp;try with_reducible rfl)
     try simp only [Act.put,aput]
     refine ttY 14 3 ?_ ?_ ?_;rotate_left;focus (intro w hSw;(try dsimp only at hSw);have sp0:=Ext.keep (hxi.trans hSw) p0;have sp1:=Ext.keep (hxi.trans hSw) p1;have sp2:=Ext.keep (hxi.trans hSw) p2;have sp3:=Ext.keep (hxi.trans hSw) p3;have sp4:=Ext.keep (hxi.trans hSw) p4;have sp5:=Ext.keep (hxi.trans hSw) p5;have sq2:=Ext.keep (hxi.trans hSw) q2;have sql:=Ext.keep hSw ql;go_simp;try with_reducible rfl)
     try simp only [Act.put,aput]
     refine ttP 14 4 ?_ ?_ ?_;rotate_left;focus (intro w;go_simp;try with_reducible rfl)
     try simp only [Act.put,aput]
     refine ttP 14 5 ?_ ?_ ?_;rotate_left;focus (intro w;go_simp;try with_reducible rfl)
     try simp only [Act.put,aput]
     refine ttP 14 6 ?_ ?_ ?_;rotate_left;focus (intro w;go_simp;try with_reducible rfl)
     try simp only [Act.put,aput]
     refine ttY 14 7 ?_ ?_ ?_;rotate_left;focus (intro w hSw;(try dsimp only at hSw);have sp0:=Ext.keep (hxi.trans hSw) p0;have sp1:=Ext.keep (hxi.trans hSw) p1;have sp2:=Ext.keep (hxi.trans hSw) p2;have sp3:=Ext.keep (hxi.trans hSw) p3;have sp4:=Ext.keep (hxi.trans hSw) p4;have sp5:=Ext.keep (hxi.trans hSw) p5;have sq2:=Ext.keep (hxi.trans hSw) q2;have sql:=Ext.keep hSw ql;go_simp;try with_reducible rfl)
     try simp only [Act.put,aput]
     refine ttP 14 8 ?_ ?_ ?_;rotate_left;focus (intro w;go_simp;try with_reducible rfl)
     try simp only [Act.put,aput]
     refine ttP 14 9 ?_ ?_ ?_;rotate_left;focus (intro w;go_simp;try with_reducible rfl)
     try simp only [Act.put,aput]
     refine ttY 14 10 ?_ ?_ ?_;rotate_left;focus (intro w hSw;(try dsimp only at hSw);have sp0:=Ext.keep (hxi.trans hSw) p0;have sp1:=Ext.keep (hxi.trans hSw) p1;have sp2:=Ext.keep (hxi.trans hSw) p2;have sp3:=Ext.keep (hxi.trans hSw) p3;have sp4:=Ext.keep (hxi.trans hSw) p4;have sp5:=Ext.keep (hxi.trans hSw) p5;have sq2:=Ext.keep (hxi.trans hSw) q2;have sql:=Ext.keep hSw ql;go_simp;try with_reducible rfl)
     try simp only [Act.put,aput]
     refine ttP 14 11 ?_ ?_ ?_;rotate_left;focus (intro w;go_simp;try with_reducible rfl)
     try simp only [Act.put,aput]
     refine anyTill_ready (rs:=[12]) (by kernel_rfl) (by simp) ?_
     refine AllReadyT.cons rfl (by decide) (fun K hK=>?_) AllReadyT.nil
     (try simp only [aput])
     go_simp
     (go_at_call 223;refine (c_spec_l2Tie lo hi le ue _ b (b.nodes[i]).links[k] _ edges _ (BigP.keeps _ _ _ _ _ _ (Same.ext (hxi.trans hHeld)) HH) (he.ext IntP.keeps (hxi.trans hHeld)) hl0 ok.edge).mono ?_;rintro e y ⟨rfl,hb⟩)
     show K _ _
     refine hK.out _ _ (by exact hHeld.trans hb) (fun hHeld=>?_)
     clear hK K
     try simp only [Act.put,aput]
     refine anyTill_ready (rs:=[13]) (by kernel_rfl) (by simp) ?_
     refine AllReadyT.cons rfl (by decide) (fun K hK=>?_) AllReadyT.nil
     (try simp only [aput])
     go_simp
     (refine alloc_box (cs:=[.int .i64 (tieI b.edges edges (b.nodes[i]).links[k])]) ?_;intro wS hbS hzS hSS)
     show K _ _
     refine hK.out _ _ (by exact hHeld.trans hbS) (fun hHeld=>?_)
     clear hK K
     try simp only [Act.put,aput]
     refine anyTill_tail 14 [15] (by kernel_rfl) (by decide) (by decide) ?_
     simp only [picked,List.filterMap_cons,List.filterMap_nil,List.getElem?_toArray,List.getElem?_cons_succ,List.getElem?_cons_zero]
     show wpList _ _ _ [_,_] _ _
     have hrow2:=hrow.ext IntP.keeps hHeld
     have hsz:=Below.size hb
     have hsz2:=Below.size (hxi.trans hHeld)
     have hxS:=hxi.trans hHeld
     have hkn:k<100000000:=by omega
     go_wp2_with (at_builtin;refine wpList_append_row2 IntP.keeps rfl (.tmp 45) (.tmp 58) 23 rfl (W5.heap.size) 3 ii _ 8 Tryz.underlying23 hii hn0 hn1 hn2 rfl (by decide) _ _ (by rfl) (hrow2.ext IntP.keeps xw) ⟨y.heap.size,0,none⟩ 1 [.int .i64 (tieI b.edges edges (b.nodes[i]).links[k])] rfl rfl (box_cells hSS) (by simp [Value.oneCell']) (W5.heap.size) (W5.heap.size) (Nat.le_refl _) (by first|omega|(simp;omega)) (fun g hg=>.inr (hrow2.block g hg).1) (tieI b.edges edges (b.nodes[i]).links[k]) ⟨rfl,tie_i64 he el hl0 ok.edge⟩ (by first|omega|(simp;omega)) (by decide) (by first|omega|(simp;omega)) ?_;intro v3 w3 row3 ext3 gro3 own3)
     go_roundw
     case rel=>exact ⟨k+1,rfl,by omega,by rw [HT.out,List.map_append];exact row3,ext3 W5 hxS (Nat.le_refl _)⟩
     all_goals (simp only [intOf];omega)
    ·have e:k=(b.nodes[i]).links.length:=by omega
     subst e
     rw [List.take_length] at hrow
     obtain ⟨bt,ot,rfl,qt⟩:=ints_cell ht ht1
     have hit:i<to.length:=by
      rcases Nat.lt_or_ge i to.length with h|h
      ·exact h
      ·rw [List.getElem?_eq_none h] at ht1;cases ht1
     have htn:t<b.nodes.length:=by
      rw [← ok.len]
      rcases Nat.lt_or_ge t ys.length with h|h
      ·exact h
      ·rw [List.getElem?_eq_none h] at hty;cases hty
     obtain ⟨hyl,hyt⟩:=List.getElem?_eq_some_iff.1 hty
     have qb1:=(hBB.ext hxi 1 _ rfl).1
     have qti:=hxi.keep qt
     go_wp2_with fail
     refine region_till 22 (S:=(fun w'=>Ext wr w')) (by kernel_rfl) ?_ (fun hHeld=>?_)
     ·exact (Ext.refl wr).drew
     refine ttP 22 0 ?_ ?_ ?_;rotate_left;focus (intro w;go_simp;try with_reducible rfl)
     try simp only [Act.put,aput]
     refine ttY 22 1 ?_ ?_ ?_;rotate_left;focus (intro w hSw;(try dsimp only at hSw);have sp1:=Ext.keep (hxi.trans hSw) p1;have sq0:=Ext.keep (hxi.trans hSw) q0;have sq1:=Ext.keep (hxi.trans hSw) q1;have sqt:=Ext.keep hSw qti;have sqb:=Ext.keep hSw qb1;go_simp;try with_reducible rfl)
     try simp only [Act.put,aput]
     refine ttP 22 2 ?_ ?_ ?_;rotate_left;focus (intro w;go_simp;try with_reducible rfl)
     try simp only [Act.put,aput]
     refine ttP 22 3 ?_ ?_ ?_;rotate_left;focus (intro w;go_simp;try with_reducible rfl)
     try simp only [Act.put,aput]
     refine ttP 22 4 ?_ ?_ ?_;rotate_left;focus (intro w;go_simp;try with_reducible rfl)
     try simp only [Act.put,aput]
     refine ttY 22 5 ?_ ?_ ?_;rotate_left;focus (intro w hSw;(try dsimp only at hSw);have sp1:=Ext.keep (hxi.trans hSw) p1;have sq0:=Ext.keep (hxi.trans hSw) q0;have sq1:=Ext.keep (hxi.trans hSw) q1;have sqt:=Ext.keep hSw qti;have sqb:=Ext.keep hSw qb1;go_simp;try with_reducible rfl)
     try simp only [Act.put,aput]
     refine ttP 22 6 ?_ ?_ ?_;rotate_left;focus (intro w;go_simp;try with_reducible rfl)
     try simp only [Act.put,aput]
     refine ttY 22 7 ?_ ?_ ?_;rotate_left;focus (intro w hSw;(try dsimp only at hSw);have sp1:=Ext.keep (hxi.trans hSw) p1;have sq0:=Ext.keep (hxi.trans hSw) q0;have sq1:=Ext.keep (hxi.trans hSw) q1;have sqt:=Ext.keep hSw qti;have sqb:=Ext.keep hSw qb1;go_simp;try with_reducible rfl)
     try simp only [Act.put,aput]
     refine ttP 22 8 ?_ ?_ ?_;rotate_left;focus (intro w;go_simp;try with_reducible rfl)
     try simp only [Act.put,aput]
     refine ttP 22 9 ?_ ?_ ?_;rotate_left;focus (intro w;go_simp;try with_reducible rfl)
     try simp only [Act.put,aput]
     refine ttP 22 10 ?_ ?_ ?_;rotate_left;focus (intro w;go_simp;try with_reducible rfl)
     try simp only [Act.put,aput]
     refine ttY 22 11 ?_ ?_ ?_;rotate_left;focus (intro w hSw;(try dsimp only at hSw);have sp1:=Ext.keep (hxi.trans hSw) p1;have sq0:=Ext.keep (hxi.trans hSw) q0;have sq1:=Ext.keep (hxi.trans hSw) q1;have sqt:=Ext.keep hSw qti;have sqb:=Ext.keep hSw qb1;go_simp;try with_reducible rfl)
     try simp only [Act.put,aput]
     refine ttP 22 12 ?_ ?_ ?_;rotate_left;focus (intro w;go_simp;try with_reducible rfl)
     try simp only [Act.put,aput]
     refine ttY 22 13 ?_ ?_ ?_;rotate_left;focus (intro w hSw;(try dsimp only at hSw);have sp1:=Ext.keep (hxi.trans hSw) p1;have sq0:=Ext.keep (hxi.trans hSw) q0;have sq1:=Ext.keep (hxi.trans hSw) q1;have sqt:=Ext.keep hSw qti;have sqb:=Ext.keep hSw qb1;go_simp;try with_reducible rfl)
     try simp only [Act.put,aput]
     refine ttP 22 14 ?_ ?_ ?_;rotate_left;focus (intro w;go_simp;try with_reducible rfl)
     try simp only [Act.put,aput]
     refine ttP 22 15 ?_ ?_ ?_;rotate_left;focus (intro w;go_simp;try with_reducible rfl)
     try simp only [Act.put,aput]
     refine ttP 22 16 ?_ ?_ ?_;rotate_left;focus (intro w;go_simp;try with_reducible rfl)
     try simp only [Act.put,aput]
     refine ttY 22 17 ?_ ?_ ?_;rotate_left;focus (intro w hSw;(try dsimp only at hSw);have sp1:=Ext.keep (hxi.trans hSw) p1;have sq0:=Ext.keep (hxi.trans hSw) q0;have sq1:=Ext.keep (hxi.trans hSw) q1;have sqt:=Ext.keep hSw qti;have sqb:=Ext.keep hSw qb1;go_simp;try with_reducible rfl)
     try simp only [Act.put,aput]
     refine ttP 22 18 ?_ ?_ ?_;rotate_left;focus (intro w;go_simp;try with_reducible rfl)
     try simp only [Act.put,aput]
     refine ttP 22 20 ?_ ?_ ?_;rotate_left;focus (intro w;go_simp;try with_reducible rfl)
     try simp only [Act.put,aput]
     refine anyTill_ready (rs:=[19]) (by kernel_rfl) (by simp) ?_
     refine AllReadyT.cons rfl (by decide) (fun K hK=>?_) AllReadyT.nil
     (try simp only [aput])
     go_simp
     (go_at_call 224;refine (c_spec_l2Move lt ut (b.nodes[i]).parent _ to _ (ht.ext IntP.keeps (hxi.trans hHeld)) hpar).mono ?_;rintro e y ⟨rfl,rfl⟩)
     show K _ _
     refine hK.out _ _ (by exact hHeld) (fun hHeld=>?_)
     clear hK K
     try simp only [Act.put,aput]
     refine ttP 22 21 ?_ ?_ ?_;rotate_left;focus (intro w;go_simp;try with_reducible rfl)
     try simp only [Act.put,aput]
     refine anyTill_tail 22 [23] (by kernel_rfl) (by decide) (by decide) ?_
     simp only [picked,List.filterMap_cons,List.filterMap_nil,List.getElem?_toArray,List.getElem?_cons_succ,List.getElem?_cons_zero]
     show wpList _ _ _ [_,_] _ _
     have hxS:=hxi.trans hHeld
     have hmk2:=hmk.ext NdP.keeps hxS
     obtain ⟨m1,m2,cells,own,hel⟩:=id hmk2
     have hli:SlV 1 IntP W2.heap.size wr.heap.size wr (.slice va vn vk) ((b.nodes[i]).links.map (tieI b.edges edges)):=hrow.toSlV IntP.widens hzr
     have hsz:=Below.size hHeld
     go_wp2_with (refine wpList_store_own rfl 160 (.tmp 82) (.tmp 81) rfl gm (t * 3) [.int .i64 (b.nodes[i]).control,.int .i64 (movI to (b.nodes[i]).parent),.slice va vn vk] own (by simp;omega) rfl rfl infoNdM (by simp [Value.oneCell']) ?_)
     go_roundw
     case rel=>
      refine ⟨i+1,rfl,by omega,(hBB.ext hxS).otherW (by omega),?_,?_,(hRB.ext hxS).otherW (by omega),?_,?_⟩
      ·rw [putW_size]
       refine ((hmk2.upto NdP.widens (Below.size hxS)).put NdP.keeps ok.len t hyl _ rfl ?_).mono (fun j hj hd=>?_)
       ·rw [hyt]
        exact ⟨_,rfl,e1,mov_i64 ht e2 hpar,(hli.ext IntP.keeps hHeld).widens IntP.widens (Nat.le_refl _) hsz⟩
       ·obtain ⟨k,k1,k2⟩:=hd
        by_cases hki:k=i
        ·subst hki;rw [ht1] at k2;right;injection k2 with k2;omega
        ·exact .inl ⟨k,by omega,k2⟩
      ·exact (hOO.ext StrP.keeps hxS).grown StrP.keeps (putW_grown _ _ _ _) (fun x hx=>by cases hx;omega)
      ·exact (hx.trans hxS).own (putW_grown _ _ _ _) (fun x hx=>by cases hx;omega)
      ·rw [putW_size];have:=Below.size hxS;omega
     all_goals (simp only [intOf];omega)
  ·have e:i=b.nodes.length:=by omega
   subst e
   have hmF:=hmk.mono (D':=fun _=>True) (fun j hj _=>by obtain ⟨k,k1,k2⟩:=ok.all j (by rw [← ok.len];exact hj);exact ⟨k,k1,k2⟩)
   clear hmk
   obtain ⟨W4,hW4⟩:∃W4,W4=wr:=⟨_,rfl⟩
   subst hW4
   go_wp2
   go_loopw [11] (fun c wr=>∃(i:Nat) (sv:Value),c=.int .i64 i∧i≤b.sites.length∧BoxAt wr B [.int .i64 b.roots,.slice (some ⟨gm,0,none⟩) b.nodes.length b.nodes.length,sv,.int .i64 b.edges,.slice a4 b.outer.length k4,.slice none 0 0]∧RowL 1 IntP 3 W4.heap.size wr sv ((b.sites.take i).map (movI to))∧MkD 3 NdP 160 W1.heap.size gm W2.heap.size W4.heap.size b.nodes.length wr ys (fun _=>True)∧StrsV l11 z11 wr (.slice a4 b.outer.length k4) b.outer∧BoxAt wr (w.heap.size+1) [.int .i64 0,.slice none 0 0,.slice none 0 0,.int .i64 0,.slice none 0 0,.slice none 0 0]∧Ext W1 wr∧W4.heap.size≤wr.heap.size∧Ext w wr) (fun c _=>b.sites.length - (intOf c).toNat)
   case atStart=>exact ⟨0,_,rfl,Nat.zero_le _,hBB,by rw [List.take_zero];exact RowL.nil,hmF,hOO,hRB,hx,Nat.le_refl _,hXX⟩
   case round=>
    have hxw:=hx
    have hzr4:=hzr
    clear hBB hmF hOO hRB hx hXX hzr
    obtain ⟨i,sv,rfl,hi',hBB,hrow,hmk,hOO,hRB,hx,hzr,hXX⟩:=hrel
    obtain ⟨va,vn,vk,rfl⟩:=hrow.form3L
    have hW14:W1.heap.size≤W4.heap.size:=Below.size hxw
    have sp2:=hx.keep p2W
    by_cases hlt:i<b.sites.length
    ·have HT:=Lib.hid (List.take_succ_eq_append_getElem hlt)
     rcases s4 with s4|⟨bl,ol,rfl,lb1,lb2,s4⟩
     ·rw [s4] at hlt;simp at hlt
     obtain ⟨cl,hcl,⟨rfl,el⟩,hc⟩:=s4 i hlt
     have ql:=hXX.keep (hc 0 _ rfl)
     rw [Nat.mul_one,Nat.add_zero] at ql
     clear s4 hc
     have hsi:=ok.site _ (List.getElem_mem hlt)
     have x2:=(hBB 2 _ rfl).1
     have ht':=htW.ext IntP.keeps hx
     go_wp2_with fail
     refine region_till 10 (S:=(fun w'=>Ext wr w')) (by kernel_rfl) ?_ (fun hHeld=>?_)
     ·exact (Ext.refl wr).drew
     refine ttP 10 0 ?_ ?_ ?_;rotate_left;focus (intro w;go_simp;try with_reducible rfl)
     try simp only [Act.put,aput]
     refine ttY 10 1 ?_ ?_ ?_;rotate_left;focus (intro w hSw;(try dsimp only at hSw);have tp2:=Ext.keep hSw sp2;have tql:=Ext.keep hSw ql;have tx2:=Ext.keep hSw x2;go_simp;try with_reducible rfl)
     try simp only [Act.put,aput]
     refine ttP 10 2 ?_ ?_ ?_;rotate_left;focus (intro w;go_simp;try with_reducible rfl)
     try simp only [Act.put,aput]
     refine ttY 10 3 ?_ ?_ ?_;rotate_left;focus (intro w hSw;(try dsimp only at hSw);have tp2:=Ext.keep hSw sp2;have tql:=Ext.keep hSw ql;have tx2:=Ext.keep hSw x2;go_simp;try with_reducible rfl)
     try simp only [Act.put,aput]
     refine ttP 10 4 ?_ ?_ ?_;rotate_left;focus (intro w;go_simp;try with_reducible rfl)
     try simp only [Act.put,aput]
     refine ttP 10 5 ?_ ?_ ?_;rotate_left;focus (intro w;go_simp;try with_reducible rfl)
     try simp only [Act.put,aput]
     refine ttY 10 6 ?_ ?_ ?_;rotate_left;focus (intro w hSw;(try dsimp only at hSw);have tp2:=Ext.keep hSw sp2;have tql:=Ext.keep hSw ql;have tx2:=Ext.keep hSw x2;go_simp;try with_reducible rfl)
     try simp only [Act.put,aput]
     refine ttP 10 7 ?_ ?_ ?_;rotate_left;focus (intro w;go_simp;try with_reducible rfl)
     try simp only [Act.put,aput]
     refine anyTill_ready (rs:=[8]) (by kernel_rfl) (by simp) ?_
     refine AllReadyT.cons rfl (by decide) (fun K hK=>?_) AllReadyT.nil
     (try simp only [aput])
     go_simp
     (go_at_call 224;refine (c_spec_l2Move lt ut (b.sites[i]) _ to _ (ht'.ext IntP.keeps hHeld) hsi).mono ?_;rintro e y ⟨rfl,rfl⟩)
     show K _ _
     refine hK.out _ _ (by exact hHeld) (fun hHeld=>?_)
     clear hK K
     try simp only [Act.put,aput]
     refine anyTill_ready (rs:=[9]) (by kernel_rfl) (by simp) ?_
     refine AllReadyT.cons rfl (by decide) (fun K hK=>?_) AllReadyT.nil
     (try simp only [aput])
     go_simp
     (first|refine alloc_box (cs:=[.int .i64 (movI to b.sites[i])]) ?_|refine alloc_box_drew (cs:=[.int .i64 (movI to b.sites[i])]) ?_);(intro wS hbS hzS hSS)
     show K _ _
     refine hK.out _ _ (by first|exact hHeld.trans hbS|exact hbS) (fun hHeld=>?_)
     clear hK K
     try simp only [Act.put,aput]
     refine anyTill_tail 10 [11,12] (by kernel_rfl) (by decide) (by decide) ?_
     simp only [picked,List.filterMap_cons,List.filterMap_nil,List.getElem?_toArray,List.getElem?_cons_succ,List.getElem?_cons_zero]
     show wpList _ _ _ [_,_,_] _ _
     have hrow2:=hrow.ext IntP.keeps hHeld
     have hsz:=Below.size hHeld
     have hBS:=hBB.ext hHeld
     have hin:i<100000000:=by omega
     have hne:∀g,(Value.slice va vn vk).ownBlock=some g→g≠B:=fun g hg=>by have:=(hrow.block g hg).1;omega
     go_wp2_with (at_builtin;refine wpList_append_row2 IntP.keeps rfl (.tmp 91) (.tmp 99) 23 rfl (W4.heap.size) 3 ii _ 8 Tryz.underlying23 hii hn0 hn1 hn2 rfl (by decide) _ _ (by rfl) (hrow2.ext IntP.keeps xw) ⟨_,0,none⟩ 1 [.int .i64 (movI to b.sites[i])] rfl rfl (box_cells hSS) (by simp [Value.oneCell']) (W4.heap.size) (W4.heap.size) (Nat.le_refl _) (by first|omega|(simp;omega)) (fun g hg=>.inr (hrow2.block g hg).1) (movI to b.sites[i]) ⟨rfl,mov_i64 ht' el hsi⟩ (by first|omega|(simp;omega)) (by decide) (by first|omega|(simp;omega)) ?_;intro v3 w3 row3 ext3 gro3 own3;have hB3:=hBS.grown gro3 hne;obtain ⟨x3,xf3⟩:=hB3 2 _ rfl;obtain ⟨a3,n3,c3,rfl⟩:=row3.form3L)
     have hzz:=gro3.size
     have hg3:∀g,(Value.slice va vn vk).ownBlock=some g→W4.heap.size≤g:=fun g hg=>(hrow.block g hg).1
     go_roundw
     case rel=>
      refine ⟨i+1,_,rfl,by omega,hB3.set 2 _,?_,?_,?_,?_,?_,?_,?_⟩
      ·rw [HT.out,List.map_append]
       exact row3.kept IntP.flat (grownBy_set B 2 _) (fun g hg=>by have:=(row3.block g hg).1;intro e;cases e;omega)
      ·exact ((hmk.ext NdP.keeps hHeld).grown NdP.keeps gro3 (fun g hg=>by have:=hg3 g hg;omega)).set NdP.keeps (by omega)
      ·exact ((hOO.ext StrP.keeps hHeld).grown StrP.keeps gro3 (fun g hg=>by have:=hg3 g hg;omega)).set StrP.keeps (by omega)
      ·exact ((hRB.ext hHeld).grown gro3 (fun g hg=>by have:=hg3 g hg;omega)).other (by omega)
      ·exact Xs (ext3 W1 (hx.trans hHeld) (by omega)) (by show _≤B;omega)
      ·simp only [World.size_setCell];omega
      ·exact Xs (ext3 w (hXX.trans hHeld) (by omega)) (by show _≤B;omega)
     all_goals (simp only [intOf];omega)
    ·have e:i=b.sites.length:=by omega
     subst e
     rw [List.take_length] at hrow
     have hsv:=hrow.toSlV IntP.widens (Nat.le_refl _)
     obtain ⟨W6,hW6⟩:∃W6,W6=wr:=⟨_,rfl⟩
     subst hW6
     clear hrow
     go_wp2
     go_loopw [12] (fun c wr=>∃(i:Nat) (rv:Value),c=.int .i64 i∧i≤b.inner.length∧BoxAt wr B [.int .i64 b.roots,.slice (some ⟨gm,0,none⟩) b.nodes.length b.nodes.length,.slice va vn vk,.int .i64 b.edges,.slice a4 b.outer.length k4,rv]∧RowL 2 WrP 172 W6.heap.size wr rv ((b.inner.take i).map fun x=>⟨x.name,tieI b.edges edges x.link⟩)∧SlV 1 IntP W4.heap.size W6.heap.size wr (.slice va vn vk) (b.sites.map (movI to))∧MkD 3 NdP 160 W1.heap.size gm W2.heap.size W4.heap.size b.nodes.length wr ys (fun _=>True)∧StrsV l11 z11 wr (.slice a4 b.outer.length k4) b.outer∧BoxAt wr (w.heap.size+1) [.int .i64 0,.slice none 0 0,.slice none 0 0,.int .i64 0,.slice none 0 0,.slice none 0 0]∧Ext W1 wr∧W6.heap.size≤wr.heap.size∧Ext w wr) (fun c _=>b.inner.length - (intOf c).toNat)
     case atStart=>exact ⟨0,_,rfl,Nat.zero_le _,hBB,by rw [List.take_zero];exact RowL.nil,hsv,hmk,hOO,hRB,hx,Nat.le_refl _,hXX⟩
     case round=>
      have hzr6:=hzr
      clear hBB hsv hmk hOO hRB hx hXX hzr
      obtain ⟨i,rv,rfl,hi',hBB,hrow,hsv,hmk,hOO,hRB,hx,hzr,hXX⟩:=hrel
      obtain ⟨ra,rn,rk,rfl⟩:=hrow.form3L
      have sp0:=hx.keep p0W;have sp1:=hx.keep p1W;have sp2:=hx.keep p2W;have sp3:=hx.keep p3W;have sp4:=hx.keep p4W;have sp5:=hx.keep p5W
      by_cases hlt:i<b.inner.length
      ·have HT:=Lib.hid (List.take_succ_eq_append_getElem hlt)
       rcases t4 with t4|⟨bl,ol,rfl,lb1,lb2,t4⟩
       ·rw [t4] at hlt;simp at hlt
       obtain ⟨cl,hcl,⟨rfl,ex,el⟩,hc⟩:=t4 i hlt
       have ql:=hXX.keep (hc 0 _ rfl)
       have qm:=hXX.keep (hc 1 _ rfl)
       rw [Nat.add_zero] at ql
       clear t4 hc
       have hl0:=ok.inner _ (List.getElem_mem hlt)
       have x5:=(hBB 5 _ rfl).1
       have HH':=BigP.keeps _ _ _ _ _ _ (Same.ext hx) HHW
       have he':=heW.ext IntP.keeps hx
       go_wp2_with fail
       refine region_till 19 (S:=(fun w'=>Ext wr w')) (by kernel_rfl) ?_ (fun hHeld=>?_)
       ·exact (Ext.refl wr).drew
       refine ttP 19 0 ?_ ?_ ?_;rotate_left;focus (intro w;go_simp;try with_reducible rfl)
       try simp only [Act.put,aput]
       refine ttY 19 1 ?_ ?_ ?_;rotate_left;focus (intro w hSw;(try dsimp only at hSw);have tp0:=Ext.keep hSw sp0;have tp1:=Ext.keep hSw sp1;have tp2:=Ext.keep hSw sp2;have tp3:=Ext.keep hSw sp3;have tp4:=Ext.keep hSw sp4;have tp5:=Ext.keep hSw sp5;have tql:=Ext.keep hSw ql;have tqm:=Ext.keep hSw qm;have tx5:=Ext.keep hSw x5;go_simp;try with_reducible rfl)
       try simp only [Act.put,aput]
       refine ttP 19 2 ?_ ?_ ?_;rotate_left;focus (intro w;go_simp;try with_reducible rfl)
       try simp only [Act.put,aput]
       refine ttY 19 3 ?_ ?_ ?_;rotate_left;focus (intro w hSw;(try dsimp only at hSw);have tp0:=Ext.keep hSw sp0;have tp1:=Ext.keep hSw sp1;have tp2:=Ext.keep hSw sp2;have tp3:=Ext.keep hSw sp3;have tp4:=Ext.keep hSw sp4;have tp5:=Ext.keep hSw sp5;have tql:=Ext.keep hSw ql;have tqm:=Ext.keep hSw qm;have tx5:=Ext.keep hSw x5;go_simp;try with_reducible rfl)
       try simp only [Act.put,aput]
       refine ttP 19 4 ?_ ?_ ?_;rotate_left;focus (intro w;go_simp;try with_reducible rfl)
       try simp only [Act.put,aput]
       refine ttP 19 5 ?_ ?_ ?_;rotate_left;focus (intro w;go_simp;try with_reducible rfl)
       try simp only [Act.put,aput]
       refine ttP 19 6 ?_ ?_ ?_;rotate_left;focus (intro w;go_simp;try with_reducible rfl)
       try simp only [Act.put,aput]
       refine ttY 19 7 ?_ ?_ ?_;rotate_left;focus (intro w hSw;(try dsimp only at hSw);have tp0:=Ext.keep hSw sp0;have tp1:=Ext.keep hSw sp1;have tp2:=Ext.keep hSw sp2;have tp3:=Ext.keep hSw sp3;have tp4:=Ext.keep hSw sp4;have tp5:=Ext.keep hSw sp5;have tql:=Ext.keep hSw ql;have tqm:=Ext.keep hSw qm;have tx5:=Ext.keep hSw x5;go_simp;try with_reducible rfl)
       try simp only [Act.put,aput]
       refine ttY 19 8 ?_ ?_ ?_;rotate_left;focus (intro w hSw;(try dsimp only at hSw);have tp0:=Ext.keep hSw sp0;have tp1:=Ext.keep hSw sp1;have tp2:=Ext.keep hSw sp2;have tp3:=Ext.keep hSw sp3;have tp4:=Ext.keep hSw sp4;have tp5:=Ext.keep hSw sp5;have tql:=Ext.keep hSw ql;have tqm:=Ext.keep hSw qm;have tx5:=Ext.keep hSw x5;go_simp;try with_reducible rfl)
       try simp only [Act.put,aput]
       refine ttP 19 9 ?_ ?_ ?_;rotate_left;focus (intro w;go_simp;try with_reducible rfl)
       try simp only [Act.put,aput]
       refine ttY 19 10 ?_ ?_ ?_;rotate_left;focus (intro w hSw;(try dsimp only at hSw);have tp0:=Ext.keep hSw sp0;have tp1:=Ext.keep hSw sp1;have tp2:=Ext.keep hSw sp2;have tp3:=Ext.keep hSw sp3;have tp4:=Ext.keep hSw sp4;have tp5:=Ext.keep hSw sp5;have tql:=Ext.keep hSw ql;have tqm:=Ext.keep hSw qm;have tx5:=Ext.keep hSw x5;go_simp;try with_reducible rfl)
       try simp only [Act.put,aput]
       refine ttP 19 11 ?_ ?_ ?_;rotate_left;focus (intro w;go_simp;try with_reducible rfl)
       try simp only [Act.put,aput]
       refine ttP 19 12 ?_ ?_ ?_;rotate_left;focus (intro w;go_simp;try with_reducible rfl)
       try simp only [Act.put,aput]
       refine ttP 19 13 ?_ ?_ ?_;rotate_left;focus (intro w;go_simp;try with_reducible rfl)
       try simp only [Act.put,aput]
       refine ttY 19 14 ?_ ?_ ?_;rotate_left;focus (intro w hSw;(try dsimp only at hSw);have tp0:=Ext.keep hSw sp0;have tp1:=Ext.keep hSw sp1;have tp2:=Ext.keep hSw sp2;have tp3:=Ext.keep hSw sp3;have tp4:=Ext.keep hSw sp4;have tp5:=Ext.keep hSw sp5;have tql:=Ext.keep hSw ql;have tqm:=Ext.keep hSw qm;have tx5:=Ext.keep hSw x5;go_simp;try with_reducible rfl)
       try simp only [Act.put,aput]
       refine ttP 19 15 ?_ ?_ ?_;rotate_left;focus (intro w;go_simp;try with_reducible rfl)
       try simp only [Act.put,aput]
       refine anyTill_ready (rs:=[16]) (by kernel_rfl) (by simp) ?_
       refine AllReadyT.cons rfl (by decide) (fun K hK=>?_) AllReadyT.nil
       (try simp only [aput])
       go_simp
       (go_at_call 223;refine (c_spec_l2Tie lo hi le ue _ b (b.inner[i]).link _ edges _ (BigP.keeps _ _ _ _ _ _ (Same.ext hHeld) HH') (he'.ext IntP.keeps hHeld) hl0 ok.edge).mono ?_;rintro e y ⟨rfl,hb⟩)
       show K _ _
       refine hK.out _ _ (by exact hHeld.trans hb) (fun hHeld=>?_)
       clear hK K
       try simp only [Act.put,aput]
       refine ttP 19 17 ?_ ?_ ?_;rotate_left;focus (intro w;go_simp;try with_reducible rfl)
       try simp only [Act.put,aput]
       refine anyTill_ready (rs:=[18]) (by kernel_rfl) (by simp) ?_
       refine AllReadyT.cons rfl (by decide) (fun K hK=>?_) AllReadyT.nil
       (try simp only [aput])
       go_simp
       (refine alloc_box (cs:=[.string (b.inner[i]).name,.int .i64 (tieI b.edges edges (b.inner[i]).link)]) ?_;intro wS hbS hzS hSS)
       show K _ _
       refine hK.out _ _ (by exact hHeld.trans hbS) (fun hHeld=>?_)
       clear hK K
       try simp only [Act.put,aput]
       refine anyTill_tail 19 [20,21] (by kernel_rfl) (by decide) (by decide) ?_
       simp only [picked,List.filterMap_cons,List.filterMap_nil,List.getElem?_toArray,List.getElem?_cons_succ,List.getElem?_cons_zero]
       show wpList _ _ _ [_,_,_] _ _
       have hrow2:=hrow.ext WrP.keeps hHeld
       have hsz:=Below.size hHeld
       have hsz2:=Below.size hb
       have hBS:=hBB.ext hHeld
       have hin:i<100000000:=by omega
       have hne:∀g,(Value.slice ra rn rk).ownBlock=some g→g≠B:=fun g hg=>by have:=(hrow.block g hg).1;omega
       go_wp2_with (at_builtin;refine wpList_append_row2 WrP.keeps rfl (.tmp 110) (.tmp 127) 42 rfl (W6.heap.size) 172 ir _ 24 Tryz.underlying42 hir hr0 hr1 hr2 rfl (by decide) _ _ (by rfl) (hrow2.ext WrP.keeps xw) ⟨_,0,none⟩ 1 [.string (b.inner[i]).name,.int .i64 (tieI b.edges edges (b.inner[i]).link)] rfl rfl (box_cells hSS) (by simp [Value.oneCell']) (W6.heap.size) (W6.heap.size) (Nat.le_refl _) (by first|omega|(simp;omega)) (fun g hg=>.inr (hrow2.block g hg).1) ((⟨(b.inner[i]).name,tieI b.edges edges (b.inner[i]).link⟩:Wr)) ⟨rfl,ex,tie_i64 he' el hl0 ok.edge⟩ (by first|omega|(simp;omega)) (by decide) (by first|omega|(simp;omega)) ?_;intro v3 w3 row3 ext3 gro3 own3;have hB3:=hBS.grown gro3 hne;obtain ⟨x3,xf3⟩:=hB3 5 _ rfl;obtain ⟨a3,n3,c3,rfl⟩:=row3.form3L)
       have hzz:=gro3.size
       have hg3:∀g,(Value.slice ra rn rk).ownBlock=some g→W6.heap.size≤g:=fun g hg=>(hrow.block g hg).1
       go_roundw
       case rel=>
        refine ⟨i+1,_,rfl,by omega,hB3.set 5 _,?_,?_,?_,?_,?_,?_,?_,?_⟩
        ·rw [HT.out,List.map_append]
         exact row3.kept WrP.flat (grownBy_set B 5 _) (fun g hg=>by have:=(row3.block g hg).1;intro e;cases e;omega)
        ·exact ((hsv.ext IntP.keeps hHeld).grown IntP.keeps gro3 (fun g hg=>by have:=hg3 g hg;omega)).set IntP.keeps (by omega)
        ·exact ((hmk.ext NdP.keeps hHeld).grown NdP.keeps gro3 (fun g hg=>by have:=hg3 g hg;omega)).set NdP.keeps (by omega)
        ·exact ((hOO.ext StrP.keeps hHeld).grown StrP.keeps gro3 (fun g hg=>by have:=hg3 g hg;omega)).set StrP.keeps (by omega)
        ·exact ((hRB.ext hHeld).grown gro3 (fun g hg=>by have:=hg3 g hg;omega)).other (by omega)
        ·exact Xs (ext3 W1 (hx.trans hHeld) (by omega)) (by show _≤B;omega)
        ·simp only [World.size_setCell];omega
        ·exact Xs (ext3 w (hXX.trans hHeld) (by omega)) (by show _≤B;omega)
       all_goals (simp only [intOf];omega)
      ·have e:i=b.inner.length:=by omega
       subst e
       rw [List.take_length] at hrow
       obtain ⟨o0,of0⟩:=hBB 0 _ rfl;obtain ⟨o1,of1⟩:=hBB 1 _ rfl;obtain ⟨o2,of2⟩:=hBB 2 _ rfl;obtain ⟨o3,of3⟩:=hBB 3 _ rfl;obtain ⟨o4,of4⟩:=hBB 4 _ rfl;obtain ⟨o5,of5⟩:=hBB 5 _ rfl
       obtain ⟨z0,zf0⟩:=hRB 0 _ rfl;obtain ⟨z1,zf1⟩:=hRB 1 _ rfl;obtain ⟨z2,zf2⟩:=hRB 2 _ rfl;obtain ⟨z3,zf3⟩:=hRB 3 _ rfl;obtain ⟨z4,zf4⟩:=hRB 4 _ rfl;obtain ⟨z5,zf5⟩:=hRB 5 _ rfl
       have hrv:=hrow.toSlV WrP.widens (Nat.le_refl _)
       have hnv:=hmk.toSlV NdP.widens (fun _ _=>trivial) ok.len (by unfold maxLen;omega) (show W4.heap.size≤wr.heap.size by omega) (by omega)
       clear hrow hmk
       go_wp2_with fail
       refine bodyPost_ret (v:=.agg #[.int .i64 b.roots,.slice (some ⟨gm,0,none⟩) b.nodes.length b.nodes.length,.slice va vn vk,.int .i64 b.edges,.slice a4 b.outer.length k4,.slice ra rn rk]) ?_ rfl ⟨_,rfl,⟨[.int .i64 b.roots,.slice (some ⟨gm,0,none⟩) b.nodes.length b.nodes.length,.slice va vn vk,.int .i64 b.edges,.slice a4 b.outer.length k4,.slice ra rn rk],rfl,_,_,_,_,rfl,r1,r2,?_,?_,?_,?_⟩,xw⟩
       ·simp [results,Tryz.results195,go_sem,z0,z1,z2,z3,z4,z5]
       all_goals simp only [World.size_setCell]
       ·refine SlV.widens NdP.widens (show w.heap.size≤W1.heap.size by omega) (Nat.le_refl _) ?_
        (repeat refine SlV.set NdP.keeps ?_ (by omega))
        exact hnv
       ·refine SlV.widens IntP.widens (show w.heap.size≤W4.heap.size by omega) (show W6.heap.size≤wr.heap.size by omega) ?_
        (repeat refine SlV.set IntP.keeps ?_ (by omega))
        exact hsv
       ·refine SlV.widens StrP.widens (show w.heap.size≤l11 by omega) (show z11≤wr.heap.size by omega) ?_
        (repeat refine SlV.set StrP.keeps ?_ (by omega))
        exact hOO
       ·refine SlV.widens WrP.widens (show w.heap.size≤W6.heap.size by omega) (Nat.le_refl _) ?_
        (repeat refine SlV.set WrP.keeps ?_ (by omega))
        exact hrv
end Go.Proofs.YtccjepndhlobpaaGreatDoor
