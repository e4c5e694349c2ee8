/-
  Walks: new runtimes and consoles.
-/
import Derived.Test.YtccjepndhlobpaaGreatDoorV35
import Derived.Test.YtccjepndhlobpaaGreatDoorCA
import Derived.Test.YtccjepndhlobpaaGreatDoorB0
import Derived.Laws.Tables
namespace Go.Proofs.YtccjepndhlobpaaGreatDoor
open Go.RowKit
set_option linter.unusedVariables false
set_option linter.unusedSimpArgs false
set_option maxRecDepth 100000
set_option maxHeartbeats 6400000
def big0:Big:=⟨0,[],[],0,[],[]⟩
def rnt0:Rnt:=⟨[],⟨[],[],[],[],[]⟩,[],[],big0,0⟩
def log0:Lg:=⟨⟨#[]⟩,⟨#[]⟩,0⟩
/-- A new console. -/
def cnsNew (r:Rnt):Cns:=if rntB r then ⟨r,log0⟩ else ⟨rnt0,log0⟩
theorem i64_zero:I64 0:=by unfold I64;omega
theorem parts_same (l u:Nat) (h:l≤u) (n:Nat):Parts l u (List.replicate n (l,l)):=by
 refine ⟨List.pairwise_replicate.2 (.inr (.inl (Nat.le_refl _))),fun p hp=>?_⟩
 rw [List.eq_of_mem_replicate hp];exact ⟨Nat.le_refl _,h⟩
theorem big0O {l u:Nat} (h:l≤u) {w:World}:BigO l u w [.int .i64 0,.slice none 0 0,.slice none 0 0,.int .i64 0,.slice none 0 0,.slice none 0 0] big0:=
 ⟨_,_,_,_,l,l,l,l,l,l,l,l,rfl,i64_zero,i64_zero,SlO.none,SlO.none,SlO.none,SlO.none,parts_same l u h 4⟩
theorem rnt0O {l u:Nat} (h:l≤u) {w:World}:RntO l u w [.slice none 0 0,.slice none 0 0,.slice none 0 0,.slice none 0 0,.slice none 0 0,.slice none 0 0,.slice none 0 0,.slice none 0 0,.int .i64 0,.slice none 0 0,.slice none 0 0,.int .i64 0,.slice none 0 0,.slice none 0 0,.int .i64 0] rnt0:=
 ⟨_,[.slice none 0 0,.slice none 0 0,.slice none 0 0,.slice none 0 0,.slice none 0 0],_,_,[.int .i64 0,.slice none 0 0,.slice none 0 0,.int .i64 0,.slice none 0 0,.slice none 0 0],l,l,l,l,l,l,l,l,l,l,rfl,SlO.none,⟨_,_,_,_,_,l,l,l,l,l,l,l,l,l,l,rfl,SlO.none,SlO.none,SlO.none,SlO.none,SlO.none,parts_same l l (Nat.le_refl _) 5⟩,SlO.none,SlO.none,big0O (Nat.le_refl _),i64_zero,parts_same l u h 5⟩
theorem cns0O {l u:Nat} (h:l≤u) {w:World}:CnsO l u w [.slice none 0 0,.slice none 0 0,.slice none 0 0,.slice none 0 0,.slice none 0 0,.slice none 0 0,.slice none 0 0,.slice none 0 0,.int .i64 0,.slice none 0 0,.slice none 0 0,.int .i64 0,.slice none 0 0,.slice none 0 0,.int .i64 0,.string ⟨#[]⟩,.string ⟨#[]⟩,.int .i64 0] ⟨rnt0,log0⟩:=⟨[.slice none 0 0,.slice none 0 0,.slice none 0 0,.slice none 0 0,.slice none 0 0,.slice none 0 0,.slice none 0 0,.slice none 0 0,.int .i64 0,.slice none 0 0,.slice none 0 0,.int .i64 0,.slice none 0 0,.slice none 0 0,.int .i64 0],[.string ⟨#[]⟩,.string ⟨#[]⟩,.int .i64 0],rfl,rnt0O h,⟨rfl,Nat.zero_le _,Nat.zero_le _,i64_zero⟩⟩
theorem infoCnsN:(Tryz.prog.info? 79).map (·.size)=some 18:=by kernel_rfl
theorem box_loadVar {P:Program} {w:World} {B:Nat} {cs:List Value} (hb:BoxAt w B cs) (ty:TypeId) (d:TypeDesc) (hu:P.underlying ty=some d) (hd:d.isRow=true) (hi:(P.info? ty).map (·.size)=some cs.length) :
 (loadVar ty ⟨B,0,none⟩).run P w=.ok (.agg cs.toArray) w:=
 run_loadVar_mid w B 0 ty cs d (fun j v hv=>by have:=(hb j v hv).1;simpa using this) hu hd hi
/-- What a function returns: a struct's variable and a value. -/
theorem results_two {P:Program} {f:Func} {tmps:Array Value} {a b T:Nat} {w:World} {B:Nat} {cs:List Value} {v:Value} (hb:BoxAt w B cs) (d:TypeDesc) (hr:f.results = #[.cell a T,.tmp b]) (ha:tmps.getD a undef=.pointer (some ⟨B,0,none⟩)) (hv:tmps.getD b undef=v)
 (hu:P.underlying T=some d) (hd:d.isRow=true) (hi:(P.info? T).map (·.size)=some cs.length):(results f tmps).run P w=.ok (.tuple #[.agg cs.toArray,v]) w:=by
 have h:=box_loadVar hb T d hu hd hi
 rw [Array.getD_eq_getD_getElem?] at ha hv
 obtain ⟨lv,hlv⟩:∃lv,@loadVar=lv:=⟨_,rfl⟩
 unfold results
 rw [hlv] at h ⊢
 rw [hr]
 simp [go_sem,ha,hv,h]
theorem results_one {P:Program} {f:Func} {tmps:Array Value} {a T:Nat} {w:World} {B:Nat} {cs:List Value} (hb:BoxAt w B cs) (d:TypeDesc) (hr:f.results = #[.cell a T]) (ha:tmps.getD a undef=.pointer (some ⟨B,0,none⟩))
 (hu:P.underlying T=some d) (hd:d.isRow=true) (hi:(P.info? T).map (·.size)=some cs.length):(results f tmps).run P w=.ok (.agg cs.toArray) w:=by
 have h:=box_loadVar hb T d hu hd hi
 rw [Array.getD_eq_getD_getElem?] at ha
 obtain ⟨lv,hlv⟩:∃lv,@loadVar=lv:=⟨_,rfl⟩
 unfold results
 rw [hlv] at h ⊢
 rw [hr]
 simp [go_sem,ha,h]
/-- A struct is built, as a step of a walk. -/
theorem wpList_build_cells {P:Program} {ops:Array Oper} {rest:List Oper} {o:Oper} {a:Act} {w:World} {Q:Exit→Act→World→Prop} (hg:o.guard=none) (t:TypeId) (parts:List (Nat × Operand)) (ho:o.op=.build t parts.toArray) (L:List (Nat × Value)) (cs:List Value)
 (hf:P.built t L=some cs.toArray) (hp:(parts.map fun (i,x)=>(i,a.eval x))=L) (h:wpList P ops Q rest (a.put o.dst (.agg cs.toArray)) w):wpList P ops Q (o :: rest) a w:=by
 have e:(parts.toArray.map fun (i,x)=>(i,a.eval x)).toList=L:=by rw [← hp];simp
 exact wpList_build hg t parts.toArray ho (by rw [e,hf];rfl) (by rw [e,hf];exact h)
theorem builtCns (x0 x1 x2 x3 x4 x5 x6 x7 x8 x9 x10 x11 x12 x13 x14:Value):Tryz.prog.built 79 [(0,.agg #[x0,x1,x2,x3,x4,x5,x6,x7,x8,x9,x10,x11,x12,x13,x14])]=some [x0,x1,x2,x3,x4,x5,x6,x7,x8,x9,x10,x11,x12,x13,x14,.string ⟨#[]⟩,.string ⟨#[]⟩,.int .i64 0].toArray:=by kernel_rfl
theorem log0P {l u:Nat} {w:World}:LgP l u w [.string ⟨#[]⟩,.string ⟨#[]⟩,.int .i64 0] log0:=⟨rfl,Nat.zero_le _,Nat.zero_le _,i64_zero⟩
theorem tup2 {v v':Value} {b b':Bool} (h:v=v') (k:b=b'):Ending.returned (.tuple #[v,.bool b])=Ending.returned (.tuple #[v',.bool b']):=by rw [h,k]
attribute [local irreducible] rntB

theorem c_spec_NewConsole (lo hi:Nat) (cs:List Value) (r:Rnt) (w:World) (h:RntP lo hi w cs r) (hwt:wtRnt r≤1048576) :
 Calls Tryz.prog 41 #[.agg cs.toArray] w fun e w'=>∃ds,e=.returned (.tuple #[.agg ds.toArray,.bool (rntB r)])∧CnsP w.heap.size w'.heap.size w' ds (cnsNew r)∧Ext w w':=by
 have HH:=h
 obtain ⟨_,_,_,_,_,rfl,⟨ya0,yk0,rfl,_⟩,⟨_,_,_,_,_,rfl,⟨yb0,yl0,rfl,_⟩,⟨yb1,yl1,rfl,_⟩,⟨yb2,yl2,rfl,_⟩,⟨yb3,yl3,rfl,_⟩,⟨yb4,yl4,rfl,_⟩⟩,⟨ya6,yk6,rfl,_⟩,⟨ya7,yk7,rfl,_⟩,⟨_,_,_,_,rfl,_,_,⟨ya1,yk1,rfl,_⟩,⟨ya2,yk2,rfl,_⟩,⟨ya4,yk4,rfl,_⟩,⟨ya5,yk5,rfl,_⟩⟩,_⟩:=h
 change Calls Tryz.prog 41 #[.agg #[.slice ya0 r.sig.length yk0,.slice yb0 r.sort.tops.length yl0,.slice yb1 r.sort.nest.length yl1,.slice yb2 r.sort.sorts.length yl2,.slice yb3 r.sort.most.length yl3,.slice yb4 r.sort.apart.length yl4,.slice ya6 r.rules.length yk6,.slice ya7 r.hosts.length yk7,.int .i64 r.agent.roots,.slice ya1 r.agent.nodes.length yk1,.slice ya2 r.agent.sites.length yk2,.int .i64 r.agent.edges,.slice ya4 r.agent.outer.length yk4,.slice ya5 r.agent.inner.length yk5,.int .i64 r.count]] w _
 obtain ⟨W0,hW0,hA,hx0,hz⟩:=box_facts w [.slice ya0 r.sig.length yk0,.slice yb0 r.sort.tops.length yl0,.slice yb1 r.sort.nest.length yl1,.slice yb2 r.sort.sorts.length yl2,.slice yb3 r.sort.most.length yl3,.slice yb4 r.sort.apart.length yl4,.slice ya6 r.rules.length yk6,.slice ya7 r.hosts.length yk7,.int .i64 r.agent.roots,.slice ya1 r.agent.nodes.length yk1,.slice ya2 r.agent.sites.length yk2,.int .i64 r.agent.edges,.slice ya4 r.agent.outer.length yk4,.slice ya5 r.agent.inner.length yk5,.int .i64 r.count] 46
 obtain ⟨W1,hW1,hB,hx1,hy⟩:=box_facts W0 [.slice none 0 0,.slice none 0 0,.slice none 0 0,.slice none 0 0,.slice none 0 0,.slice none 0 0,.slice none 0 0,.slice none 0 0,.int .i64 0,.slice none 0 0,.slice none 0 0,.int .i64 0,.slice none 0 0,.slice none 0 0,.int .i64 0,.string ⟨#[]⟩,.string ⟨#[]⟩,.int .i64 0] 79
 have hX:=hx0.trans hx1
 replace hA:=hA.ext hx1
 replace HH:=RntP.keeps _ _ _ _ _ _ (Same.ext hX) HH
 have hw01:w.heap.size<W0.heap.size:=by omega
 have hw12:W0.heap.size<W1.heap.size:=by omega
 clear hz hy
 cases hr:rntB r
 ·have HR:=Lib.hid hr
  have HC:=Lib.hid (show cnsNew r=⟨rnt0,log0⟩ by unfold cnsNew;rw [hr];rfl)
  clear hr
  go_enter Tryz.func41,Tryz.ntmps41
  go_wp2_with (refine wpList_load_box rfl 46 (.tmp 1) rfl w.heap.size 0 [.slice ya0 r.sig.length yk0,.slice yb0 r.sort.tops.length yl0,.slice yb1 r.sort.nest.length yl1,.slice yb2 r.sort.sorts.length yl2,.slice yb3 r.sort.most.length yl3,.slice yb4 r.sort.apart.length yl4,.slice ya6 r.rules.length yk6,.slice ya7 r.hosts.length yk7,.int .i64 r.agent.roots,.slice ya1 r.agent.nodes.length yk1,.slice ya2 r.agent.sites.length yk2,.int .i64 r.agent.edges,.slice ya4 r.agent.outer.length yk4,.slice ya5 r.agent.inner.length yk5,.int .i64 r.count] _ rfl hA (fun j v hj=>by simpa using hj) _ Tryz.underlying46 rfl infoRntA ?_;simp only [Act.put,aput])
  refine (c_spec_l13Good lo hi _ r _ HH hwt).mono ?_
  rintro e W2 ⟨rfl,hb⟩
  rw [HR.out]
  replace hB:=hB.ext hb
  as_aux_lemma=>
   have hz2:=Below.size hb
   go_wp2_with (refine wpList_store_box rfl 79 (.tmp 2) (.tmp 7) rfl W0.heap.size 0 [.slice none 0 0,.slice none 0 0,.slice none 0 0,.slice none 0 0,.slice none 0 0,.slice none 0 0,.slice none 0 0,.slice none 0 0,.int .i64 0,.slice none 0 0,.slice none 0 0,.int .i64 0,.slice none 0 0,.slice none 0 0,.int .i64 0,.string ⟨#[]⟩,.string ⟨#[]⟩,.int .i64 0] _ rfl rfl hB (by simp) infoCnsN (by simp [Value.oneCell']) ?_;intro W4 hB3 hBg hBs)
   replace hB3:BoxAt W4 W0.heap.size [.slice none 0 0,.slice none 0 0,.slice none 0 0,.slice none 0 0,.slice none 0 0,.slice none 0 0,.slice none 0 0,.slice none 0 0,.int .i64 0,.slice none 0 0,.slice none 0 0,.int .i64 0,.slice none 0 0,.slice none 0 0,.int .i64 0,.string ⟨#[]⟩,.string ⟨#[]⟩,.int .i64 0]:=hB3
   have hx4:=(hX.trans hb).own hBg (fun g hg=>by cases hg;omega)
   as_aux_lemma=>
    go_wp2
    refine bodyPost_ret (v:=.tuple #[.agg #[.slice none 0 0,.slice none 0 0,.slice none 0 0,.slice none 0 0,.slice none 0 0,.slice none 0 0,.slice none 0 0,.slice none 0 0,.int .i64 0,.slice none 0 0,.slice none 0 0,.int .i64 0,.slice none 0 0,.slice none 0 0,.int .i64 0,.string ⟨#[]⟩,.string ⟨#[]⟩,.int .i64 0],.bool false]) ?_ rfl ⟨[.slice none 0 0,.slice none 0 0,.slice none 0 0,.slice none 0 0,.slice none 0 0,.slice none 0 0,.slice none 0 0,.slice none 0 0,.int .i64 0,.slice none 0 0,.slice none 0 0,.int .i64 0,.slice none 0 0,.slice none 0 0,.int .i64 0,.string ⟨#[]⟩,.string ⟨#[]⟩,.int .i64 0],rfl,?_,hx4⟩
    ·exact results_two hB3 _ Tryz.results41 rfl rfl Tryz.underlying79 rfl infoCnsN
    ·rw [HC.out]
     exact CnsO.toP (cns0O (Below.size hx4))
 ·have HR:=Lib.hid hr
  have HC:=Lib.hid (show cnsNew r=⟨r,log0⟩ by unfold cnsNew;rw [hr];rfl)
  clear hr
  go_enter Tryz.func41,Tryz.ntmps41
  go_wp2_with (refine wpList_load_box rfl 46 (.tmp 1) rfl w.heap.size 0 [.slice ya0 r.sig.length yk0,.slice yb0 r.sort.tops.length yl0,.slice yb1 r.sort.nest.length yl1,.slice yb2 r.sort.sorts.length yl2,.slice yb3 r.sort.most.length yl3,.slice yb4 r.sort.apart.length yl4,.slice ya6 r.rules.length yk6,.slice ya7 r.hosts.length yk7,.int .i64 r.agent.roots,.slice ya1 r.agent.nodes.length yk1,.slice ya2 r.agent.sites.length yk2,.int .i64 r.agent.edges,.slice ya4 r.agent.outer.length yk4,.slice ya5 r.agent.inner.length yk5,.int .i64 r.count] _ rfl hA (fun j v hj=>by simpa using hj) _ Tryz.underlying46 rfl infoRntA ?_;simp only [Act.put,aput])
  refine (c_spec_l13Good lo hi _ r _ HH hwt).mono ?_
  rintro e W2 ⟨rfl,hb⟩
  rw [HR.out]
  replace hB:=hB.ext hb
  as_aux_lemma=>
   replace hA:=hA.ext hb
   replace HH:=RntP.keeps _ _ _ _ _ _ (Same.ext hb) HH
   have hz2:=Below.size hb
   go_wp2_with (refine wpList_load_box rfl 46 (.tmp 1) rfl w.heap.size 0 [.slice ya0 r.sig.length yk0,.slice yb0 r.sort.tops.length yl0,.slice yb1 r.sort.nest.length yl1,.slice yb2 r.sort.sorts.length yl2,.slice yb3 r.sort.most.length yl3,.slice yb4 r.sort.apart.length yl4,.slice ya6 r.rules.length yk6,.slice ya7 r.hosts.length yk7,.int .i64 r.agent.roots,.slice ya1 r.agent.nodes.length yk1,.slice ya2 r.agent.sites.length yk2,.int .i64 r.agent.edges,.slice ya4 r.agent.outer.length yk4,.slice ya5 r.agent.inner.length yk5,.int .i64 r.count] _ rfl hA (fun j v hj=>by simpa using hj) _ Tryz.underlying46 rfl infoRntA ?_;simp only [Act.put,aput])
   refine (c_spec_l13Own lo hi _ r _ HH hwt HR.out).mono ?_
   rintro e W3 ⟨_,rfl,⟨ds,rfl,hD⟩,hc⟩
   obtain ⟨_,_,_,_,_,rfl,⟨za0,zk0,rfl,_⟩,⟨_,_,_,_,_,rfl,⟨zb0,zl0,rfl,_⟩,⟨zb1,zl1,rfl,_⟩,⟨zb2,zl2,rfl,_⟩,⟨zb3,zl3,rfl,_⟩,⟨zb4,zl4,rfl,_⟩⟩,⟨za6,zk6,rfl,_⟩,⟨za7,zk7,rfl,_⟩,⟨_,_,_,_,rfl,_,_,⟨za1,zk1,rfl,_⟩,⟨za2,zk2,rfl,_⟩,⟨za4,zk4,rfl,_⟩,⟨za5,zk5,rfl,_⟩⟩,_⟩:=id (hD)
   replace hB:=hB.ext hc
   as_aux_lemma=>
    have hz3:=Below.size hc
    go_simp
    refine ‹∀(a:Act) (w:World),wpList _ _ _ _ a w→_› _ _ ?_
    refine wpList_build_cells rfl 79 [(0,.tmp 9)] rfl [(0,.agg #[.slice za0 r.sig.length zk0,.slice zb0 r.sort.tops.length zl0,.slice zb1 r.sort.nest.length zl1,.slice zb2 r.sort.sorts.length zl2,.slice zb3 r.sort.most.length zl3,.slice zb4 r.sort.apart.length zl4,.slice za6 r.rules.length zk6,.slice za7 r.hosts.length zk7,.int .i64 r.agent.roots,.slice za1 r.agent.nodes.length zk1,.slice za2 r.agent.sites.length zk2,.int .i64 r.agent.edges,.slice za4 r.agent.outer.length zk4,.slice za5 r.agent.inner.length zk5,.int .i64 r.count])] [.slice za0 r.sig.length zk0,.slice zb0 r.sort.tops.length zl0,.slice zb1 r.sort.nest.length zl1,.slice zb2 r.sort.sorts.length zl2,.slice zb3 r.sort.most.length zl3,.slice zb4 r.sort.apart.length zl4,.slice za6 r.rules.length zk6,.slice za7 r.hosts.length zk7,.int .i64 r.agent.roots,.slice za1 r.agent.nodes.length zk1,.slice za2 r.agent.sites.length zk2,.int .i64 r.agent.edges,.slice za4 r.agent.outer.length zk4,.slice za5 r.agent.inner.length zk5,.int .i64 r.count,.string ⟨#[]⟩,.string ⟨#[]⟩,.int .i64 0] (builtCns _ _ _ _ _ _ _ _ _ _ _ _ _ _ _) (by rfl) ?_
    simp only [Act.put,aput]
    (refine wpList_store_box rfl 79 (.tmp 2) (.tmp 10) rfl W0.heap.size 0 [.slice za0 r.sig.length zk0,.slice zb0 r.sort.tops.length zl0,.slice zb1 r.sort.nest.length zl1,.slice zb2 r.sort.sorts.length zl2,.slice zb3 r.sort.most.length zl3,.slice zb4 r.sort.apart.length zl4,.slice za6 r.rules.length zk6,.slice za7 r.hosts.length zk7,.int .i64 r.agent.roots,.slice za1 r.agent.nodes.length zk1,.slice za2 r.agent.sites.length zk2,.int .i64 r.agent.edges,.slice za4 r.agent.outer.length zk4,.slice za5 r.agent.inner.length zk5,.int .i64 r.count,.string ⟨#[]⟩,.string ⟨#[]⟩,.int .i64 0] _ rfl rfl hB (by simp) infoCnsN (by simp [Value.oneCell']) ?_;intro W4 hB3 hBg hBs)
    replace hB3:BoxAt W4 W0.heap.size [.slice za0 r.sig.length zk0,.slice zb0 r.sort.tops.length zl0,.slice zb1 r.sort.nest.length zl1,.slice zb2 r.sort.sorts.length zl2,.slice zb3 r.sort.most.length zl3,.slice zb4 r.sort.apart.length zl4,.slice za6 r.rules.length zk6,.slice za7 r.hosts.length zk7,.int .i64 r.agent.roots,.slice za1 r.agent.nodes.length zk1,.slice za2 r.agent.sites.length zk2,.int .i64 r.agent.edges,.slice za4 r.agent.outer.length zk4,.slice za5 r.agent.inner.length zk5,.int .i64 r.count,.string ⟨#[]⟩,.string ⟨#[]⟩,.int .i64 0]:=hB3
    have hx4:=((hX.trans hb).trans hc).own hBg (fun g hg=>by cases hg;omega)
    have hD4:=RntP.keeps _ _ _ _ _ _ (Same.grown hBg (.inl (by omega))) hD
    as_aux_lemma=>
     go_wp2
     refine bodyPost_ret (v:=.tuple #[.agg #[.slice za0 r.sig.length zk0,.slice zb0 r.sort.tops.length zl0,.slice zb1 r.sort.nest.length zl1,.slice zb2 r.sort.sorts.length zl2,.slice zb3 r.sort.most.length zl3,.slice zb4 r.sort.apart.length zl4,.slice za6 r.rules.length zk6,.slice za7 r.hosts.length zk7,.int .i64 r.agent.roots,.slice za1 r.agent.nodes.length zk1,.slice za2 r.agent.sites.length zk2,.int .i64 r.agent.edges,.slice za4 r.agent.outer.length zk4,.slice za5 r.agent.inner.length zk5,.int .i64 r.count,.string ⟨#[]⟩,.string ⟨#[]⟩,.int .i64 0],.bool true]) ?_ rfl ⟨[.slice za0 r.sig.length zk0,.slice zb0 r.sort.tops.length zl0,.slice zb1 r.sort.nest.length zl1,.slice zb2 r.sort.sorts.length zl2,.slice zb3 r.sort.most.length zl3,.slice zb4 r.sort.apart.length zl4,.slice za6 r.rules.length zk6,.slice za7 r.hosts.length zk7,.int .i64 r.agent.roots,.slice za1 r.agent.nodes.length zk1,.slice za2 r.agent.sites.length zk2,.int .i64 r.agent.edges,.slice za4 r.agent.outer.length zk4,.slice za5 r.agent.inner.length zk5,.int .i64 r.count,.string ⟨#[]⟩,.string ⟨#[]⟩,.int .i64 0],rfl,?_,hx4⟩
     ·exact results_two hB3 _ Tryz.results41 rfl rfl Tryz.underlying79 rfl infoCnsN
     ·rw [HC.out]
      exact ⟨[.slice za0 r.sig.length zk0,.slice zb0 r.sort.tops.length zl0,.slice zb1 r.sort.nest.length zl1,.slice zb2 r.sort.sorts.length zl2,.slice zb3 r.sort.most.length zl3,.slice zb4 r.sort.apart.length zl4,.slice za6 r.rules.length zk6,.slice za7 r.hosts.length zk7,.int .i64 r.agent.roots,.slice za1 r.agent.nodes.length zk1,.slice za2 r.agent.sites.length zk2,.int .i64 r.agent.edges,.slice za4 r.agent.outer.length zk4,.slice za5 r.agent.inner.length zk5,.int .i64 r.count],_,rfl,RntP.widens _ _ _ _ _ _ _ (by omega) (by omega) hD4,log0P⟩
theorem c_impl_NewConsole (lo hi:Nat) (cs:List Value) (r:Rnt) (w:World) (h:RntP lo hi w cs r) (hwt:wtRnt r≤1048576) :
 Calls Tryz.prog 42 #[.agg cs.toArray] w fun e w'=>∃ds,e=.returned (.tuple #[.agg ds.toArray,.bool (rntB r)])∧CnsO w.heap.size w'.heap.size w' ds (cnsNew r)∧Ext w w':=by
 have HH:=h
 obtain ⟨_,_,_,_,_,rfl,⟨ya0,yk0,rfl,_⟩,⟨_,_,_,_,_,rfl,⟨yb0,yl0,rfl,_⟩,⟨yb1,yl1,rfl,_⟩,⟨yb2,yl2,rfl,_⟩,⟨yb3,yl3,rfl,_⟩,⟨yb4,yl4,rfl,_⟩⟩,⟨ya6,yk6,rfl,_⟩,⟨ya7,yk7,rfl,_⟩,⟨_,_,_,_,rfl,_,_,⟨ya1,yk1,rfl,_⟩,⟨ya2,yk2,rfl,_⟩,⟨ya4,yk4,rfl,_⟩,⟨ya5,yk5,rfl,_⟩⟩,_⟩:=h
 change Calls Tryz.prog 42 #[.agg #[.slice ya0 r.sig.length yk0,.slice yb0 r.sort.tops.length yl0,.slice yb1 r.sort.nest.length yl1,.slice yb2 r.sort.sorts.length yl2,.slice yb3 r.sort.most.length yl3,.slice yb4 r.sort.apart.length yl4,.slice ya6 r.rules.length yk6,.slice ya7 r.hosts.length yk7,.int .i64 r.agent.roots,.slice ya1 r.agent.nodes.length yk1,.slice ya2 r.agent.sites.length yk2,.int .i64 r.agent.edges,.slice ya4 r.agent.outer.length yk4,.slice ya5 r.agent.inner.length yk5,.int .i64 r.count]] w _
 obtain ⟨W0,hW0,hA,hx0,hz⟩:=box_facts w [.slice ya0 r.sig.length yk0,.slice yb0 r.sort.tops.length yl0,.slice yb1 r.sort.nest.length yl1,.slice yb2 r.sort.sorts.length yl2,.slice yb3 r.sort.most.length yl3,.slice yb4 r.sort.apart.length yl4,.slice ya6 r.rules.length yk6,.slice ya7 r.hosts.length yk7,.int .i64 r.agent.roots,.slice ya1 r.agent.nodes.length yk1,.slice ya2 r.agent.sites.length yk2,.int .i64 r.agent.edges,.slice ya4 r.agent.outer.length yk4,.slice ya5 r.agent.inner.length yk5,.int .i64 r.count] 46
 obtain ⟨W1,hW1,hB,hx1,hy⟩:=box_facts W0 [.slice none 0 0,.slice none 0 0,.slice none 0 0,.slice none 0 0,.slice none 0 0,.slice none 0 0,.slice none 0 0,.slice none 0 0,.int .i64 0,.slice none 0 0,.slice none 0 0,.int .i64 0,.slice none 0 0,.slice none 0 0,.int .i64 0,.string ⟨#[]⟩,.string ⟨#[]⟩,.int .i64 0] 79
 have hX:=hx0.trans hx1
 replace hA:=hA.ext hx1
 replace HH:=RntP.keeps _ _ _ _ _ _ (Same.ext hX) HH
 have hw01:w.heap.size<W0.heap.size:=by omega
 have hw12:W0.heap.size<W1.heap.size:=by omega
 clear hz hy
 cases hr:rntB r
 ·have HR:=Lib.hid hr
  have HC:=Lib.hid (show cnsNew r=⟨rnt0,log0⟩ by unfold cnsNew;rw [hr];rfl)
  clear hr
  go_enter Tryz.func42,Tryz.ntmps42
  go_wp2_with (refine wpList_load_box rfl 46 (.tmp 1) rfl w.heap.size 0 [.slice ya0 r.sig.length yk0,.slice yb0 r.sort.tops.length yl0,.slice yb1 r.sort.nest.length yl1,.slice yb2 r.sort.sorts.length yl2,.slice yb3 r.sort.most.length yl3,.slice yb4 r.sort.apart.length yl4,.slice ya6 r.rules.length yk6,.slice ya7 r.hosts.length yk7,.int .i64 r.agent.roots,.slice ya1 r.agent.nodes.length yk1,.slice ya2 r.agent.sites.length yk2,.int .i64 r.agent.edges,.slice ya4 r.agent.outer.length yk4,.slice ya5 r.agent.inner.length yk5,.int .i64 r.count] _ rfl hA (fun j v hj=>by simpa using hj) _ Tryz.underlying46 rfl infoRntA ?_;simp only [Act.put,aput])
  refine (c_impl_IsRuntime lo hi _ r _ HH hwt).mono ?_
  rintro e W2 ⟨rfl,hb⟩
  rw [HR.out]
  replace hB:=hB.ext hb
  as_aux_lemma=>
   have hz2:=Below.size hb
   go_wp2_with (refine wpList_store_box rfl 79 (.tmp 2) (.tmp 7) rfl W0.heap.size 0 [.slice none 0 0,.slice none 0 0,.slice none 0 0,.slice none 0 0,.slice none 0 0,.slice none 0 0,.slice none 0 0,.slice none 0 0,.int .i64 0,.slice none 0 0,.slice none 0 0,.int .i64 0,.slice none 0 0,.slice none 0 0,.int .i64 0,.string ⟨#[]⟩,.string ⟨#[]⟩,.int .i64 0] _ rfl rfl hB (by simp) infoCnsN (by simp [Value.oneCell']) ?_;intro W4 hB3 hBg hBs)
   replace hB3:BoxAt W4 W0.heap.size [.slice none 0 0,.slice none 0 0,.slice none 0 0,.slice none 0 0,.slice none 0 0,.slice none 0 0,.slice none 0 0,.slice none 0 0,.int .i64 0,.slice none 0 0,.slice none 0 0,.int .i64 0,.slice none 0 0,.slice none 0 0,.int .i64 0,.string ⟨#[]⟩,.string ⟨#[]⟩,.int .i64 0]:=hB3
   have hx4:=(hX.trans hb).own hBg (fun g hg=>by cases hg;omega)
   as_aux_lemma=>
    go_wp2
    refine bodyPost_ret (v:=.tuple #[.agg #[.slice none 0 0,.slice none 0 0,.slice none 0 0,.slice none 0 0,.slice none 0 0,.slice none 0 0,.slice none 0 0,.slice none 0 0,.int .i64 0,.slice none 0 0,.slice none 0 0,.int .i64 0,.slice none 0 0,.slice none 0 0,.int .i64 0,.string ⟨#[]⟩,.string ⟨#[]⟩,.int .i64 0],.bool false]) ?_ rfl ⟨[.slice none 0 0,.slice none 0 0,.slice none 0 0,.slice none 0 0,.slice none 0 0,.slice none 0 0,.slice none 0 0,.slice none 0 0,.int .i64 0,.slice none 0 0,.slice none 0 0,.int .i64 0,.slice none 0 0,.slice none 0 0,.int .i64 0,.string ⟨#[]⟩,.string ⟨#[]⟩,.int .i64 0],rfl,?_,hx4⟩
    ·exact results_two hB3 _ Tryz.results42 rfl rfl Tryz.underlying79 rfl infoCnsN
    ·rw [HC.out]
     exact (cns0O (Below.size hx4))
 ·have HR:=Lib.hid hr
  have HC:=Lib.hid (show cnsNew r=⟨r,log0⟩ by unfold cnsNew;rw [hr];rfl)
  clear hr
  go_enter Tryz.func42,Tryz.ntmps42
  go_wp2_with (refine wpList_load_box rfl 46 (.tmp 1) rfl w.heap.size 0 [.slice ya0 r.sig.length yk0,.slice yb0 r.sort.tops.length yl0,.slice yb1 r.sort.nest.length yl1,.slice yb2 r.sort.sorts.length yl2,.slice yb3 r.sort.most.length yl3,.slice yb4 r.sort.apart.length yl4,.slice ya6 r.rules.length yk6,.slice ya7 r.hosts.length yk7,.int .i64 r.agent.roots,.slice ya1 r.agent.nodes.length yk1,.slice ya2 r.agent.sites.length yk2,.int .i64 r.agent.edges,.slice ya4 r.agent.outer.length yk4,.slice ya5 r.agent.inner.length yk5,.int .i64 r.count] _ rfl hA (fun j v hj=>by simpa using hj) _ Tryz.underlying46 rfl infoRntA ?_;simp only [Act.put,aput])
  refine (c_impl_IsRuntime lo hi _ r _ HH hwt).mono ?_
  rintro e W2 ⟨rfl,hb⟩
  rw [HR.out]
  replace hB:=hB.ext hb
  as_aux_lemma=>
   replace hA:=hA.ext hb
   replace HH:=RntP.keeps _ _ _ _ _ _ (Same.ext hb) HH
   have hz2:=Below.size hb
   go_wp2_with (refine wpList_load_box rfl 46 (.tmp 1) rfl w.heap.size 0 [.slice ya0 r.sig.length yk0,.slice yb0 r.sort.tops.length yl0,.slice yb1 r.sort.nest.length yl1,.slice yb2 r.sort.sorts.length yl2,.slice yb3 r.sort.most.length yl3,.slice yb4 r.sort.apart.length yl4,.slice ya6 r.rules.length yk6,.slice ya7 r.hosts.length yk7,.int .i64 r.agent.roots,.slice ya1 r.agent.nodes.length yk1,.slice ya2 r.agent.sites.length yk2,.int .i64 r.agent.edges,.slice ya4 r.agent.outer.length yk4,.slice ya5 r.agent.inner.length yk5,.int .i64 r.count] _ rfl hA (fun j v hj=>by simpa using hj) _ Tryz.underlying46 rfl infoRntA ?_;simp only [Act.put,aput])
   refine (c_impl_ownRuntime lo hi _ r _ HH hwt).mono ?_
   rintro e W3 ⟨ds,rfl,hD,hc⟩
   obtain ⟨_,_,_,_,_,rfl,⟨za0,zk0,rfl,_⟩,⟨_,_,_,_,_,rfl,⟨zb0,zl0,rfl,_⟩,⟨zb1,zl1,rfl,_⟩,⟨zb2,zl2,rfl,_⟩,⟨zb3,zl3,rfl,_⟩,⟨zb4,zl4,rfl,_⟩⟩,⟨za6,zk6,rfl,_⟩,⟨za7,zk7,rfl,_⟩,⟨_,_,_,_,rfl,_,_,⟨za1,zk1,rfl,_⟩,⟨za2,zk2,rfl,_⟩,⟨za4,zk4,rfl,_⟩,⟨za5,zk5,rfl,_⟩⟩,_⟩:=id (RntO.toP hD)
   replace hB:=hB.ext hc
   as_aux_lemma=>
    have hz3:=Below.size hc
    go_simp
    refine ‹∀(a:Act) (w:World),wpList _ _ _ _ a w→_› _ _ ?_
    refine wpList_build_cells rfl 79 [(0,.tmp 9)] rfl [(0,.agg #[.slice za0 r.sig.length zk0,.slice zb0 r.sort.tops.length zl0,.slice zb1 r.sort.nest.length zl1,.slice zb2 r.sort.sorts.length zl2,.slice zb3 r.sort.most.length zl3,.slice zb4 r.sort.apart.length zl4,.slice za6 r.rules.length zk6,.slice za7 r.hosts.length zk7,.int .i64 r.agent.roots,.slice za1 r.agent.nodes.length zk1,.slice za2 r.agent.sites.length zk2,.int .i64 r.agent.edges,.slice za4 r.agent.outer.length zk4,.slice za5 r.agent.inner.length zk5,.int .i64 r.count])] [.slice za0 r.sig.length zk0,.slice zb0 r.sort.tops.length zl0,.slice zb1 r.sort.nest.length zl1,.slice zb2 r.sort.sorts.length zl2,.slice zb3 r.sort.most.length zl3,.slice zb4 r.sort.apart.length zl4,.slice za6 r.rules.length zk6,.slice za7 r.hosts.length zk7,.int .i64 r.agent.roots,.slice za1 r.agent.nodes.length zk1,.slice za2 r.agent.sites.length zk2,.int .i64 r.agent.edges,.slice za4 r.agent.outer.length zk4,.slice za5 r.agent.inner.length zk5,.int .i64 r.count,.string ⟨#[]⟩,.string ⟨#[]⟩,.int .i64 0] (builtCns _ _ _ _ _ _ _ _ _ _ _ _ _ _ _) (by rfl) ?_
    simp only [Act.put,aput]
    (refine wpList_store_box rfl 79 (.tmp 2) (.tmp 10) rfl W0.heap.size 0 [.slice za0 r.sig.length zk0,.slice zb0 r.sort.tops.length zl0,.slice zb1 r.sort.nest.length zl1,.slice zb2 r.sort.sorts.length zl2,.slice zb3 r.sort.most.length zl3,.slice zb4 r.sort.apart.length zl4,.slice za6 r.rules.length zk6,.slice za7 r.hosts.length zk7,.int .i64 r.agent.roots,.slice za1 r.agent.nodes.length zk1,.slice za2 r.agent.sites.length zk2,.int .i64 r.agent.edges,.slice za4 r.agent.outer.length zk4,.slice za5 r.agent.inner.length zk5,.int .i64 r.count,.string ⟨#[]⟩,.string ⟨#[]⟩,.int .i64 0] _ rfl rfl hB (by simp) infoCnsN (by simp [Value.oneCell']) ?_;intro W4 hB3 hBg hBs)
    replace hB3:BoxAt W4 W0.heap.size [.slice za0 r.sig.length zk0,.slice zb0 r.sort.tops.length zl0,.slice zb1 r.sort.nest.length zl1,.slice zb2 r.sort.sorts.length zl2,.slice zb3 r.sort.most.length zl3,.slice zb4 r.sort.apart.length zl4,.slice za6 r.rules.length zk6,.slice za7 r.hosts.length zk7,.int .i64 r.agent.roots,.slice za1 r.agent.nodes.length zk1,.slice za2 r.agent.sites.length zk2,.int .i64 r.agent.edges,.slice za4 r.agent.outer.length zk4,.slice za5 r.agent.inner.length zk5,.int .i64 r.count,.string ⟨#[]⟩,.string ⟨#[]⟩,.int .i64 0]:=hB3
    have hx4:=((hX.trans hb).trans hc).own hBg (fun g hg=>by cases hg;omega)
    have hD4:=RntO.keepsO.grown hD hBg (fun g hg=>by cases hg;omega)
    as_aux_lemma=>
     go_wp2
     refine bodyPost_ret (v:=.tuple #[.agg #[.slice za0 r.sig.length zk0,.slice zb0 r.sort.tops.length zl0,.slice zb1 r.sort.nest.length zl1,.slice zb2 r.sort.sorts.length zl2,.slice zb3 r.sort.most.length zl3,.slice zb4 r.sort.apart.length zl4,.slice za6 r.rules.length zk6,.slice za7 r.hosts.length zk7,.int .i64 r.agent.roots,.slice za1 r.agent.nodes.length zk1,.slice za2 r.agent.sites.length zk2,.int .i64 r.agent.edges,.slice za4 r.agent.outer.length zk4,.slice za5 r.agent.inner.length zk5,.int .i64 r.count,.string ⟨#[]⟩,.string ⟨#[]⟩,.int .i64 0],.bool true]) ?_ rfl ⟨[.slice za0 r.sig.length zk0,.slice zb0 r.sort.tops.length zl0,.slice zb1 r.sort.nest.length zl1,.slice zb2 r.sort.sorts.length zl2,.slice zb3 r.sort.most.length zl3,.slice zb4 r.sort.apart.length zl4,.slice za6 r.rules.length zk6,.slice za7 r.hosts.length zk7,.int .i64 r.agent.roots,.slice za1 r.agent.nodes.length zk1,.slice za2 r.agent.sites.length zk2,.int .i64 r.agent.edges,.slice za4 r.agent.outer.length zk4,.slice za5 r.agent.inner.length zk5,.int .i64 r.count,.string ⟨#[]⟩,.string ⟨#[]⟩,.int .i64 0],rfl,?_,hx4⟩
     ·exact results_two hB3 _ Tryz.results42 rfl rfl Tryz.underlying79 rfl infoCnsN
     ·rw [HC.out]
      exact ⟨[.slice za0 r.sig.length zk0,.slice zb0 r.sort.tops.length zl0,.slice zb1 r.sort.nest.length zl1,.slice zb2 r.sort.sorts.length zl2,.slice zb3 r.sort.most.length zl3,.slice zb4 r.sort.apart.length zl4,.slice za6 r.rules.length zk6,.slice za7 r.hosts.length zk7,.int .i64 r.agent.roots,.slice za1 r.agent.nodes.length zk1,.slice za2 r.agent.sites.length zk2,.int .i64 r.agent.edges,.slice za4 r.agent.outer.length zk4,.slice za5 r.agent.inner.length zk5,.int .i64 r.count],_,rfl,RntO.widens _ _ _ _ _ _ _ (by omega) (by omega) hD4,log0P⟩
end Go.Proofs.YtccjepndhlobpaaGreatDoor
