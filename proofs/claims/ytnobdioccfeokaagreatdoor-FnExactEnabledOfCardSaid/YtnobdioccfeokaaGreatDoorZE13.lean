/-
  Proved facts that the law leans on.
-/
import Derived.Test.YtnobdioccfeokaaGreatDoorZE5
import Derived.Test.YtnobdioccfeokaaGreatDoorZE8
import Derived.Test.YtnobdioccfeokaaGreatDoorZE9
import Derived.Test.YtnobdioccfeokaaGreatDoorZE10
import Derived.Test.YtnobdioccfeokaaGreatDoorZE11
import Derived.Test.YtnobdioccfeokaaGreatDoorZE12
import Derived.Shelf.SlGeneric
import Derived.Shelf.SlSortCmp.NoneTotal
import Derived.Shelf.Spec.SlicesGrow
import Derived.Shelf.SlicesE.DeleteFunc
import Derived.Test.YtnobdioccfeokaaGreatDoorProg
namespace Go.Proofs
open Go.Shelf
def Tryz.sortW_ren : Go.Shelf.Ren := ⟨fun | 6 => 204 | 15 => 247 | 14 => 246 | 28 => 279 | 29 => 280 | 20 => 271 | 21 => 272 | 22 => 273 | 23 => 274 | 24 => 275 | 25 => 276 | 26 => 277 | 27 => 278 | 46 => 311 | 47 => 312 | 48 => 313 | 49 => 314 | 50 => 315 | 57 => 339 | n => n, fun | 22 => 43 | 24 => 155 | 25 => 226 | 3 => 3 | 39 => 248 | 0 => 0 | 53 => 267 | 55 => 269 | 4 => 4 | 46 => 261 | 45 => 260 | 50 => 229 | 5 => 5 | 9 => 9 | 66 => 297 | 70 => 301 | 76 => 316 | 77 => 317 | n => n, fun | n => n⟩
theorem Tryz.sortW : Go.Proofs.SlLaysF0.n6 Tryz.prog Tryz.sortW_ren := {
  mixed := by kernel_rfl
  f6 := ⟨Tryz.f204.name, by decide, Tryz.func204.trans (congrArg some (by kernel_rfl))⟩
  f14 := ⟨Tryz.f246.name, by decide, Tryz.func246.trans (congrArg some (by kernel_rfl))⟩
  f15 := Tryz.func247.trans (congrArg some (by kernel_rfl))
  f20 := ⟨Tryz.f271.name, by decide, Tryz.func271.trans (congrArg some (by kernel_rfl))⟩
  f21 := ⟨Tryz.f272.name, by decide, Tryz.func272.trans (congrArg some (by kernel_rfl))⟩
  f22 := ⟨Tryz.f273.name, by decide, Tryz.func273.trans (congrArg some (by kernel_rfl))⟩
  f23 := ⟨Tryz.f274.name, by decide, Tryz.func274.trans (congrArg some (by kernel_rfl))⟩
  f24 := ⟨Tryz.f275.name, by decide, Tryz.func275.trans (congrArg some (by kernel_rfl))⟩
  f25 := ⟨Tryz.f276.name, by decide, Tryz.func276.trans (congrArg some (by kernel_rfl))⟩
  f26 := ⟨Tryz.f277.name, by decide, Tryz.func277.trans (congrArg some (by kernel_rfl))⟩
  f27 := ⟨Tryz.f278.name, by decide, Tryz.func278.trans (congrArg some (by kernel_rfl))⟩
  f28 := Tryz.func279.trans (congrArg some (by kernel_rfl))
  f29 := Tryz.func280.trans (congrArg some (by kernel_rfl))
  f46 := ⟨Tryz.f311.name, by decide, Tryz.func311.trans (congrArg some (by kernel_rfl))⟩
  f47 := Tryz.func312.trans (congrArg some (by kernel_rfl))
  f48 := Tryz.func313.trans (congrArg some (by kernel_rfl))
  f49 := ⟨Tryz.f314.name, by decide, Tryz.func314.trans (congrArg some (by kernel_rfl))⟩
  f50 := ⟨Tryz.f315.name, by decide, Tryz.func315.trans (congrArg some (by kernel_rfl))⟩
  f57 := ⟨Tryz.f339.name, by decide, Tryz.func339.trans (congrArg some (by kernel_rfl))⟩
  t0 := Tryz.underlying0
  a0 := Tryz.isAgg0
  z0 := Tryz.sizeOf0
  v0 := Tryz.zeroValue0
  t3 := Tryz.underlying3
  a3 := Tryz.isAgg3
  z3 := Tryz.sizeOf3
  v3 := Tryz.zeroValue3
  t4 := Tryz.underlying4
  a4 := Tryz.isAgg4
  z4 := Tryz.sizeOf4
  v4 := Tryz.zeroValue4
  t5 := Tryz.underlying5
  a5 := Tryz.isAgg5
  z5 := Tryz.sizeOf5
  v5 := Tryz.zeroValue5
  t9 := Tryz.underlying9
  a9 := Tryz.isAgg9
  z9 := Tryz.sizeOf9
  v9 := Tryz.zeroValue9
  t22 := Tryz.underlying43
  a22 := Tryz.isAgg43
  z22 := Tryz.sizeOf43
  v22 := Tryz.zeroValue43
  t25 := Tryz.underlying226
  a25 := Tryz.isAgg226
  z25 := Tryz.sizeOf226
  v25 := Tryz.zeroValue226
  t39 := Tryz.underlying248
  a39 := Tryz.isAgg248
  z39 := Tryz.sizeOf248
  v39 := Tryz.zeroValue248
  t45 := Tryz.underlying260
  a45 := Tryz.isAgg260
  z45 := Tryz.sizeOf260
  v45 := Tryz.zeroValue260
  t46 := Tryz.underlying261
  a46 := Tryz.isAgg261
  z46 := Tryz.sizeOf261
  v46 := Tryz.zeroValue261
  t50 := Tryz.underlying229
  a50 := Tryz.isAgg229
  z50 := Tryz.sizeOf229
  v50 := Tryz.zeroValue229
  t53 := Tryz.underlying267
  a53 := Tryz.isAgg267
  z53 := Tryz.sizeOf267
  v53 := Tryz.zeroValue267
  t55 := Tryz.underlying269
  a55 := Tryz.isAgg269
  z55 := Tryz.sizeOf269
  v55 := Tryz.zeroValue269
  t66 := Tryz.underlying297
  a66 := Tryz.isAgg297
  z66 := Tryz.sizeOf297
  v66 := Tryz.zeroValue297
  t70 := Tryz.underlying301
  a70 := Tryz.isAgg301
  z70 := Tryz.sizeOf301
  v70 := Tryz.zeroValue301
  t76 := Tryz.underlying316
  a76 := Tryz.isAgg316
  z76 := Tryz.sizeOf316
  v76 := Tryz.zeroValue316
  t77 := Tryz.underlying317
  a77 := Tryz.isAgg317
  z77 := Tryz.sizeOf317
  v77 := Tryz.zeroValue317 }
def Tryz.growS_ren : Go.Shelf.Ren := ⟨fun | 4 => 340 | n => n, fun | 22 => 29 | 25 => 9 | 3 => 3 | 4 => 4 | 9 => 9 | 20 => 20 | 0 => 0 | n => n, fun | n => n⟩
theorem Tryz.growS : Go.Proofs.Lays8.n4 Tryz.prog Tryz.growS_ren := {
  mixed := by kernel_rfl
  f4 := ⟨Tryz.f340.name, by decide, Tryz.func340.trans (congrArg some (by kernel_rfl))⟩
  t0 := Tryz.underlying0
  a0 := Tryz.isAgg0
  z0 := Tryz.sizeOf0
  v0 := Tryz.zeroValue0
  t3 := Tryz.underlying3
  a3 := Tryz.isAgg3
  z3 := Tryz.sizeOf3
  v3 := Tryz.zeroValue3
  t4 := Tryz.underlying4
  a4 := Tryz.isAgg4
  z4 := Tryz.sizeOf4
  v4 := Tryz.zeroValue4
  t9 := Tryz.underlying9
  a9 := Tryz.isAgg9
  z9 := Tryz.sizeOf9
  v9 := Tryz.zeroValue9
  t20 := Tryz.underlying20
  a20 := Tryz.isAgg20
  z20 := Tryz.sizeOf20
  v20 := Tryz.zeroValue20
  t22 := Tryz.underlying29
  a22 := Tryz.isAgg29
  z22 := Tryz.sizeOf29
  v22 := Tryz.zeroValue29 }
def Tryz.delS_ren : Go.Shelf.Ren := ⟨fun | 10 => 211 | 6 => 249 | n => n, fun | 22 => 29 | 23 => 9 | 25 => 113 | 3 => 3 | 4 => 4 | 0 => 0 | n => n, fun | n => n⟩
theorem Tryz.delS : Go.Proofs.SlLaysH.n10 Tryz.prog Tryz.delS_ren := {
  mixed := by kernel_rfl
  f6 := ⟨Tryz.f249.name, by decide, Tryz.func249.trans (congrArg some (by kernel_rfl))⟩
  f10 := ⟨Tryz.f211.name, by decide, Tryz.func211.trans (congrArg some (by kernel_rfl))⟩
  t0 := Tryz.underlying0
  a0 := Tryz.isAgg0
  z0 := Tryz.sizeOf0
  v0 := Tryz.zeroValue0
  t3 := Tryz.underlying3
  a3 := Tryz.isAgg3
  z3 := Tryz.sizeOf3
  v3 := Tryz.zeroValue3
  t4 := Tryz.underlying4
  a4 := Tryz.isAgg4
  z4 := Tryz.sizeOf4
  v4 := Tryz.zeroValue4
  t22 := Tryz.underlying29
  a22 := Tryz.isAgg29
  z22 := Tryz.sizeOf29
  v22 := Tryz.zeroValue29
  a23 := Tryz.isAgg9
  z23 := Tryz.sizeOf9
  t25 := Tryz.underlying113
  a25 := Tryz.isAgg113
  z25 := Tryz.sizeOf113
  v25 := Tryz.zeroValue113 }
end Go.Proofs
namespace Go.Proofs.YtnobdioccfeokaaGreatDoor
open Go.RowKit Go.Sort
set_option linter.unusedVariables false
set_option linter.unusedSimpArgs false
set_option maxRecDepth 100000
set_option maxHeartbeats 4000000
attribute [local irreducible] ar Der At
instance:Inhabited Wr:=⟨⟨⟨#[]⟩,0⟩⟩
abbrev JB (x:Wr):List Value:=[.string x.name,.int .i64 x.link]
theorem Jk:Ep 2 JB Wr.D:=⟨fun _=>rfl,fun w S x cs h=>by
 obtain ⟨c,e,rfl,⟨rfl,_⟩,c',e',rfl,⟨rfl,_⟩,rfl⟩:=h
 rfl,fun w w' S S' x cs h=>by
 obtain ⟨c,e,rfl,⟨rfl,h1⟩,c',e',rfl,⟨rfl,h2⟩,rfl⟩:=h
 exact ⟨[_],[_],rfl,⟨rfl,h1⟩,[_],[],rfl,⟨rfl,h2⟩,rfl⟩⟩
def vt (x y:Wr):Int:=if cN x.name y.name=true then -1 else 1
theorem ltW (x y:Wr):ltOf vt x y=cN x.name y.name:=by
 unfold ltOf vt
 cases cN x.name y.name <;> rfl
theorem JL:SWO (ltOf vt) where
 irrefl x:=by
  rw [ltW]
  exact w9 _
 trans x y z h1 h2:=by
  rw [ltW] at *
  exact mK _ _ _ h1 h2
 ntrans x y z h1 h2:=by
  rw [ltW] at *
  cases h:cN x.name z.name with
  | false=>rfl
  | true=>
   have hzy:¬NLt y.name z.name:=fun e=>by rw [show cN y.name z.name=true from e] at h2;cases h2
   have hxy:¬NLt x.name y.name:=fun e=>by rw [show cN x.name y.name=true from e] at h1;cases h1
   by_cases e:x.name=y.name
   ·rw [e] at h;exact absurd h hzy
   ·exact absurd (NLt.trans _ _ _ ((NLt.total e).resolve_left hxy) h) hzy
theorem pC (l:List Wr) (g:Nat) (hl:l.length≤1000) (hn:(l.map Wr.name).Nodup) (eg:∀args w,(callFunc g args).run Tryz.prog w=.ok (.enter g args) w)
 (hg:∀(x y:Wr) (W:World),Calls Tryz.prog g #[.agg #[.string x.name,.int .i64 x.link],.agg #[.string y.name,.int .i64 y.link]] W fun e w'=>e=.returned (.int .i64 (vt x y))∧∃q os',w'=grow (W.drewN q) os'):FnS Tryz.prog 204 2 155 (l.map Wr.D) [.f g []] ((xN l).map Wr.D):=by
 refine Fw (vs0:=[.func (.func g) #[] #[]]) (by decide) Jk (cB Tryz.func204) (fun y hy=>?_) (xi l) (fun w F vs h=>?_) (fun p cap w=>?_) (fun b cap w hH hb=>?_)
 ·have:=(AN l [] List.Pairwise.nil (by simpa using hn)).2 y
  simpa using this.1 hy
 ·obtain ⟨v,t,rfl,⟨vs,h1,h2⟩,h3⟩:=h
  cases (show t = [] from h3)
  cases (show vs = [] from h2)
  cases h1;rfl
 ·exact AnyF.slices_SortFunc_none Tryz.sortW p cap _ w
 ·have h:=AnyQ.slices_SortFunc Tryz.sortW 2 Tryz.isAgg155 Tryz.sizeOf155 JB (fun _=>rfl) (fun x v hv=>by simp at hv;rcases hv with rfl|rfl <;> rfl) vt JL g #[] b 0 cap l.toArray w eg (fun m os dk _ x y=>hg x y _) hH hb (by simp;omega)
  refine Calls.mono h ?_
  rintro e w' ⟨rfl,d',n,os,⟨hs,_,hp⟩,hso,rfl⟩
  refine ⟨rfl,n,os,?_⟩
  have hd:d'.toList=xN l:=by
   refine zY hn ?_ (List.pairwise_iff_getElem.2 fun i j hi hj hij=>?_)
   ·have hz:d'.size=l.length:=by simpa using hs
    have hq:List.take l.length d'.toList=d'.toList:=List.take_of_length_le (by simp;omega)
    simpa [hs,hq] using hp
   ·have hsz:d'.toList.length=l.length:=by simpa using hs
    have:=hso i j (Nat.zero_le _) hij (by simp;omega)
    rw [ltW] at this
    simp only [Array.getElem!_eq_getD,Array.getD] at this
    rw [dif_pos (by simp at hi;omega),dif_pos (by simp at hj;omega)] at this
    exact this
  rw [← hd];rfl
theorem wh (x y:Wr) (W:World):Calls Tryz.prog 321 #[.agg #[.string x.name,.int .i64 x.link],.agg #[.string y.name,.int .i64 y.link]] W fun e w'=>e=.returned (.int .i64 (vt x y))∧∃q os',w'=grow (W.drewN q) os':=by
 cases h:cN x.name y.name
 ·rw [show vt x y=1 from by unfold vt;rw [h];rfl]
  unfold cN at h
  go_enter Tryz.func321,Tryz.ntmps321
  go_wp2
  go_ret
  exact ⟨rfl,0,_,by rw [alloc_eq_grow,alloc_eq_grow,grow_grow];rfl⟩
 ·rw [show vt x y = -1 from by unfold vt;rw [h];rfl]
  unfold cN at h
  go_enter Tryz.func321,Tryz.ntmps321
  go_wp2
  go_ret
  exact ⟨rfl,0,_,by rw [alloc_eq_grow,alloc_eq_grow,grow_grow];rfl⟩
theorem tJ (x y:Wr) (W:World):Calls Tryz.prog 205 #[.agg #[.string x.name,.int .i64 x.link],.agg #[.string y.name,.int .i64 y.link]] W fun e w'=>e=.returned (.int .i64 (vt x y))∧∃q os',w'=grow (W.drewN q) os':=by
 cases h:cN x.name y.name
 ·rw [show vt x y=1 from by unfold vt;rw [h];rfl]
  unfold cN at h
  go_enter Tryz.func205,Tryz.ntmps205
  go_wp2
  go_ret
  exact ⟨rfl,0,_,by rw [alloc_eq_grow,alloc_eq_grow,grow_grow];rfl⟩
 ·rw [show vt x y = -1 from by unfold vt;rw [h];rfl]
  unfold cN at h
  go_enter Tryz.func205,Tryz.ntmps205
  go_wp2
  go_ret
  exact ⟨rfl,0,_,by rw [alloc_eq_grow,alloc_eq_grow,grow_grow];rfl⟩
theorem FZ (n:Nat) (hn:n≤1000):FnD Tryz.prog 340 [.n 1,.i n] (.row 1 9 []):=⟨cB Tryz.func340,fun F w vs hv hF=>by
 obtain ⟨v1,t,rfl,⟨a,h1⟩,v2,t2,rfl,⟨h2,_⟩,h3⟩:=hv
 cases (show t2 = [] from h3)
 cases h1
 cases h2
 rcases Nat.eq_zero_or_pos n with rfl|hn0
 ·refine Calls.mono (Any8.slices_Grow_room Tryz.growS a 0 0 0 w (by omega) (by omega) (by omega) (by omega)) ?_
  rintro e w' ⟨rfl,rfl⟩
  exact ⟨_,rfl,Ext.refl w',.inl ⟨rfl,a,rfl⟩⟩
 ·obtain ⟨i0,hi0,hz0,hz1,hz2⟩:=info_parts B6
  have hcap:=grownCap_ge w (0+n) 0 9
  have hmx:=grownCap_le_maxLen w (0+n) 0 9 (by unfold maxLen;omega)
  refine Calls.mono (Any8.slices_Grow_grow Tryz.growS i0 _ hi0 hz0 (by omega) a 0 0 n [] w (Nat.le_refl _) (by omega) (by rw [hz2];omega) (by omega) (by simp) (fun _=>rfl) (fun _ _ j v h=>by simp at h)) ?_
  rintro e w' ⟨rfl,rfl⟩
  refine ⟨_,rfl,(Ext.refl w).drew.alloc _,.inr ⟨[],World.ownsRow_made w.drew _ _ (Nat.le_refl _) hmx ?_,fun j hj=>absurd hj (Nat.not_lt_zero _)⟩⟩
  have hc1:(Value.string ⟨#[]⟩).cells.size=1:=rfl
  simp [Builtin.zeroCells,hc1]
  exact Nat.add_sub_cancel' (show n≤grownCap w n 0 9 from by simpa using hcap)⟩
theorem HX:wl Value.string D.s:=⟨fun _ _ _ _ h=>h.1,fun _ _ _ _ _ _ h=>h⟩
theorem rQ (r:Big) (s:ByteArray) (F:BS) (c:List Value) (W:World) (h:Rp W F (.p r.D) c):Calls Tryz.prog 212 (#[.string s]++c.toArray) W fun e w'=>e=.returned (.bool (qc r.outer s))∧w'=W:=by
 obtain ⟨b,o,us,rfl,h2,h3,h4⟩:=h
 have hB:=EY.to W F r us h3
 obtain ⟨v1,v2,v4,v5,rfl,r1,r2,hN,hS,hO,hI⟩:=hB
 obtain ⟨a4,k4,rfl,g1,g2,g3,g4⟩:=hO
 have p4:W.cell? ⟨b,o+4,none⟩=some (.slice a4 r.outer.length k4):=h4 4 _ rfl
 have hc:Calls Tryz.prog 64 #[.slice a4 r.outer.length k4,.string s] W fun e w'=>e=.returned (.bool (qc r.outer s))∧w'=W:=by
  rcases g4 with g4|⟨bb,oo,rfl,_,_,g4⟩
  ·rw [g4]
   refine Calls.mono (Tryz.slices_Contains_string_empty a4 k4 s W) ?_
   rintro e w' ⟨rfl,rfl⟩
   exact ⟨rfl,rfl⟩
  ·unfold maxLen at g2
   refine Calls.mono (Tryz.slices_Contains_string bb oo r.outer.length k4 r.outer s W (Nat.le_refl _) (by omega) (fun j hj=>?_)) ?_
   ·obtain ⟨cs,q1,⟨rfl,q2⟩,q3⟩:=g4 j hj
    have:=q3 0 _ rfl
    rw [Nat.mul_one,Nat.add_zero] at this
    rw [this,List.getD_eq_getElem?_getD,List.getElem?_eq_getElem hj];rfl
   ·rintro e w' ⟨rfl,rfl⟩
    refine ⟨?_,rfl⟩
    congr 2
    rw [List.take_length,Bool.eq_iff_iff,Lib.containsS_iff,rI,List.any_eq_true]
    constructor
    ·exact fun h=>⟨s,h,by simp⟩
    ·rintro ⟨x,hx,e⟩
     rw [beq_iff_eq] at e
     rw [← fN e];exact hx
 show Calls Tryz.prog 212 #[.string s,.pointer (some ⟨b,o,none⟩)] W _
 generalize qc r.outer s=q at hc ⊢
 clear h4 h3 hN hS hI g4
 go_enter Tryz.func212,Tryz.ntmps212
 go_wp2_with (go_at_call 64;refine hc.mono ?_;rintro e w' ⟨rfl,rfl⟩)
 go_ret
 exact ⟨rfl,rfl⟩
theorem rU (l:List ByteArray) (r:Big) (hl:l.length≤1000):FnC Tryz.prog 211 1 9 (l.map .s) [.f 212 [.p r.D]] ((l.filter fun x=>!qc r.outer x).map .s):=by
 have eg:∀args w,(callFunc 212 args).run Tryz.prog w=.ok (.enter 212 args) w:=cB Tryz.func212
 refine G0 HX (us:=List.replicate (l.length - (l.filter fun x=>!qc r.outer x).length) ⟨#[]⟩) (cB Tryz.func211) (fun y hy=>(List.mem_filter.1 hy).1) (by rw [List.length_append,List.length_replicate];have:=List.length_filter_le (fun x=>!qc r.outer x) l;omega) (fun w F vs v hvs hF hv he=>?_) (fun w F vs g cap hvs hF hFg hH hg h5 h6=>?_)
 ·obtain ⟨fv,t,rfl,hf,h3⟩:=hvs
  cases (show t = [] from h3)
  have hI:Calls Tryz.prog 249 #[v,fv] w fun e w'=>e=.returned (.int .i64 (-1))∧Ext w w':=by
   refine ((ng [] 212 [.p r.D] (qc r.outer) rfl (fun x hx=>by simp at hx)).calls F w [v,fv] ⟨v,_,rfl,hv,fv,_,rfl,hf,rfl⟩ hF).mono ?_
   rintro e w' ⟨u,rfl,hX,hu⟩
   refine ⟨?_,hX⟩
   have:=hu.1
   rw [lv (l:=([]:List ByteArray)) (by simp)] at this
   cases this;rfl
  obtain ⟨vs',h1,c,e,rfl,hc,h2⟩:=hf
  cases (show e = [] from h2)
  cases h1
  obtain ⟨a,k,h4,_⟩:=hv
  cases h4
  rw [List.append_nil] at hI ⊢
  change Calls Tryz.prog 249 #[.slice a 0 k,.func (.func 212) #[] c.toArray] w _ at hI
  change Calls Tryz.prog 211 #[.slice a 0 k,.func (.func 212) #[] c.toArray] w _
  generalize c.toArray=lb at hI ⊢
  clear hc h3 h2 eg hF hl he
  go_enter Tryz.func211,Tryz.ntmps211
  go_wp2_with (go_at_call 249;refine hI.mono ?_;rintro e w' ⟨rfl,hX⟩)
  go_ret
  exact ⟨rfl,hX⟩
 ·obtain ⟨fv,t,rfl,hf,h3⟩:=hvs
  cases (show t = [] from h3)
  obtain ⟨vs',h1,c,e,rfl,hc,h2⟩:=hf
  cases (show e = [] from h2)
  cases h1
  rw [List.append_nil]
  have key:∀W:World,(∀b,F b→b<w.heap.size→W.heap[b]? = w.heap[b]?)→∀x:ByteArray,FnGives Tryz.prog 212 c.toArray #[.string x] (.bool (qc r.outer x)) W:=fun W hW x=>by
   refine (rQ r x F c W (Rp.keep (fun _ h=>h) (fun b hb hl=>hW b hb hl) _ _ hc)).mono ?_
   rintro e w' ⟨rfl,rfl⟩
   exact ⟨rfl,0,rfl⟩
  refine Calls.mono (AnyE.slices_DeleteFunc Tryz.delS Value.string (fun _=>rfl) (qc r.outer) 212 c.toArray eg ⟨#[]⟩ Tryz.zeroValue9 g 0 cap l.toArray w (fun W x hb=>key W (fun b _ hl=>hb.block b hl) x) (fun n os dk x _=>key _ (fun b hb hl=>(kg Value.string dk).block b hl (fun e=>by cases e;exact hFg hb)) x) hH (by simp;omega) (by simpa using h5)) ?_
  rintro e w' ⟨rfl,q,rfl⟩
  exact ⟨rfl,q,rfl⟩
end Go.Proofs.YtnobdioccfeokaaGreatDoor
namespace Go.Proofs.YtnobdioccfeokaaGreatDoor
open Go.RowKit
set_option linter.unusedVariables false
set_option linter.unusedSimpArgs false
set_option maxRecDepth 100000
set_option maxHeartbeats 4000000
attribute [local irreducible] ar Der At
section
variable {P:Program} {ops:Array Oper} {W0:cz} {N:Nat} {Fin:Us→Env→Prop} {os:List Oper} {us:Us} {pk fk:List Nat} {σ:Env} {g:Option (Nat × Bool)} {gk:List Nat} {d ty ty' f:Nat} {pos:String} {after:Array Edge} {at':Array TypeId} {xs:List Operand} {ds:List D}
theorem Gz {n e:Nat} {rs:List D} (h:Der P ops W0 N Fin os (us++[((d :: (gk++((10000+d) :: kxs xs)))++pk,([d,10000+d])++fk)]) [] [] ((d,.sy (.k (10000+d))) :: (10000+d,.tk (.row n e rs)) :: σ)) (hx:G7 σ xs=some ds:=by rfl) (hf:FnD P f ds (.row n e rs):=by assumption) (hi:al σ (10000+d)=none:=by rfl) (hg:gst ops σ g=some (true,gk):=by rfl) (hN:Nat.blt d N=true:=by rfl) (hs:aF ((10000+d,.tk (.row n e rs)) :: σ) d=true:=by rfl) (hu:Nat.beq (10000+d) d=false:=by rfl):Der P ops W0 N Fin (⟨some d,.call { callee:=.value (.func f),args:=xs.toArray,argTypes:=at' },ty,pos,after,g⟩ :: os) us pk fk σ:=
 jy (.k (10000+d)) ((10000+d) :: kxs xs) [(10000+d,.tk (.row n e rs))] (fun σ' c a w hk hc=>by
  unfold Oper.wp
  rw [cw hf.enter rfl]
  refine (hf.calls c.F w _ (q9 hc xs ds hx (fun κ hκ=>hk κ (by simp [hκ]))) hc.lt).mono ?_
  rintro e' w' ⟨v,rfl,hX,⟨hd,a0,hv0⟩|⟨cells,own,hel⟩⟩
  ·subst hd
   have hc0:=hc.fresh hX
   exact ⟨v,_,rfl,hc0.new (i:=10000+d) ((hk _ (by simp)).trans hi) (t:=.row n e []) (v:=v) (S:=fun _=>False) (.inl ⟨rfl,a0,hv0⟩) (fun b hb=>hb.elim) (fun j u _ b hb=>hb.elim),.inr rfl,(if_pos rfl).symm⟩
  have hc1:=hc.grow hX (fun b=>fresh w w' c.F b∧v.ownBlock≠some b) (fun b hb=>⟨.inl hb,fun e=>by have:=own.lt b e;have:=hc.lt b hb;omega⟩) (fun _ h=>h.1.imp id (fun h=>h.1)) (fun b hb=>hb.1.elim (fun h'=>Nat.lt_of_lt_of_le (hc.lt b h') (Below.size hX)) (fun h=>h.2))
  refine ⟨v,_,rfl,hc1.new (i:=10000+d) (t:=.row n e rs) (v:=v) (S:=fun b=>v.ownBlock=some b) ((hk _ (by simp)).trans hi) (.inr ⟨cells,⟨own.1,own.2.imp id (fun ⟨g,cap,cur,q1,_,q2⟩=>⟨g,cap,cur,q1,Nat.zero_le _,q2⟩)⟩,fun g hg=>hg,hel⟩) (fun b hb=>⟨fun hF=>hF.2 hb,(own.lt b hb).2,.inr (Nat.le_trans hc.ext.size (own.lt b hb).1)⟩) (fun j u hj b hb hT=>?_),.inr rfl,(if_pos rfl).symm⟩
  have:=((hc.tok j u hj).2.2 b hT).2.1
  have:=own.lt b hb
  omega) h hg hN hs (by simp [hu])
theorem Dt {ρ:Operand→Value} {w:World} {x y:Operand} {e:Nat} {v x0 y0:Value} (he:elem? P ty'=some e) (hz:sizeOf? P e=some 1) (hzv:rh P e=some v) (hzs:v.cells.size=1) (hx:(ρ x).cells = #[x0]) (hy:(ρ y).cells = #[y0]):(execOp ρ ⟨some d,.buildSlice ty' 2 #[(0,x),(1,y)],ty,pos,after,g⟩).run P w=.ok (.value (.slice (some ⟨w.heap.size,0,none⟩) 2 2)) (w.alloc (.cells #[x0,y0] e)):=by
 replace hz:=cY hz
 rw [Option.map_eq_some_iff] at hz
 obtain ⟨i,hi,hz⟩:=hz
 unfold rh at hzv
 rw [hi] at hzv
 simp only [Option.bind_some] at hzv
 have hf':Instr.fill (fun i=>some (i,1)) ((Array.range 2).map (v.cells[· % v.cells.size]!)) [(0,ρ x),(1,ρ y)]=some #[x0,y0]:=by
  rw [show (Array.range 2).map (v.cells[· % v.cells.size]!) = #[v.cells[0 % v.cells.size]!,v.cells[1 % v.cells.size]!] from by
   apply Array.ext (by simp)
   intro i h1 h2
   have:i=0∨i=1:=by simp at h2;omega
   rcases this with rfl|rfl <;> simp]
  simp [Instr.fill,hx,hy]
 have hs:(sizeOf e).run P w=.ok 1 w:=by simp [sizeOf,typeInfo,hi,hz,go_sem]
 have hzr:(zeroValue e).run P w=.ok v w:=by simp [zeroValue,typeInfo,hi,hzv,go_sem]
 unfold execOp
 simp only [List.map_toArray,List.map_cons,List.map_nil]
 refine dl (X:=Instr.buildSlice ty' 2 #[(0,ρ x),(1,ρ y)]) ?_
 unfold Instr.buildSlice
 rw [Sem.run_bind,run_underlying (dE he)]
 simp only [Result.andThen_ok,Sem.run_bind,hs,Nat.mul_one]
 rw [if_neg (by decide)]
 simp only [Result.andThen_ok,Sem.run_bind,Sem.run_pure,if_neg (show ¬(2=0) by decide),hzr,hf',newRow,run_newObj_alloc]
theorem JM {x y:Operand} {e:Nat} {r q:D} {v:Value} (h:Der P ops W0 N Fin os (us++[((d :: (gk++(kx x++kx y)))++pk,([d])++fk)]) [] [] ((d,.sy (.d (.l 1 [r,q]))) :: σ)) (hx:(ev σ x).bind Sy.dat=some r:=by rfl) (hy:(ev σ y).bind Sy.dat=some q:=by rfl) (he:elem? P ty'=some e:=by rfl) (hz:sizeOf? P e=some 1:=by rfl) (hv:rh P e=some v:=by rfl) (hvs:v.cells.size=1:=by rfl) (hr1:r.sz=1:=by rfl) (hq1:q.sz=1:=by rfl) (hg:gst ops σ g=some (true,gk):=by rfl) (hN:Nat.blt d N=true:=by rfl) (hs:aF σ d=true:=by rfl):Der P ops W0 N Fin (⟨some d,.buildSlice ty' 2 #[(0,x),(1,y)],ty,pos,after,g⟩ :: os) us pk fk σ:=
 jy (.d (.l 1 [r,q])) (kx x++kx y) [] (fun σ' c a w hk hc=>by
  rw [Option.bind_eq_some_iff] at hx hy
  obtain ⟨s,hx1,hx2⟩:=hx
  obtain ⟨s',hy1,hy2⟩:=hy
  have hv':=jA hx2 (ap hc (ah hx1 (fun κ hκ=>hk κ (by simp [hκ]))))
  have hv2:=jA hy2 (ap hc (ah hy1 (fun κ hκ=>hk κ (by simp [hκ]))))
  obtain ⟨cs,h1,h2,_⟩:=hv'.cells
  obtain ⟨cs',h3,h4,_⟩:=hv2.cells
  obtain ⟨x0,rfl⟩:∃x0,cs = [x0]:=List.length_eq_one_iff.1 ((Rp.len _ _ h2).trans hr1)
  obtain ⟨y0,rfl⟩:∃y0,cs' = [y0]:=List.length_eq_one_iff.1 ((Rp.len _ _ h4).trans hq1)
  unfold Oper.wp
  rw [Dt he hz hv hvs h1 h3]
  have hX:Ext w (w.alloc (.cells #[x0,y0] e)):=(Ext.refl w).alloc _
  have hc1:=hc.grow hX (fun b=>c.F b∨b=w.heap.size) (fun _ h=>.inl h) (fun _ h=>h.imp id (fun h=>by omega)) (fun b hb=>by
   rcases hb with hb|hb
   ·exact Nat.lt_of_lt_of_le (hc.lt b hb) (Below.size hX)
   ·subst hb;simp)
  have hbx:=ey.new w e [x0,y0] _ rfl
  refine ⟨_,_,rfl,hc1,some ⟨w.heap.size,0,none⟩,2,rfl,Nat.le_refl _,by decide,fun h=>(by cases h),.inr ⟨w.heap.size,0,rfl,.inr rfl,⟨[x0],rfl,Rp.keep (fun _ h=>.inl h) (fun b _ hl=>hX.block b hl) _ _ h2,fun j u hj=>?_⟩,⟨[y0],rfl,Rp.keep (fun _ h=>.inl h) (fun b _ hl=>hX.block b hl) _ _ h4,fun j u hj=>?_⟩,trivial⟩⟩
  ·rcases j with _|j
   ·exact (hbx 0 u (by simpa using hj)).1
   ·simp at hj
  ·rcases j with _|j
   ·exact (hbx 1 u (by simpa using hj)).1
   ·simp at hj) h hg hN hs rfl
end
theorem tw (l:List (List ByteArray)) (i:Nat) (h:i<l.length):(l.take (i+1)).flatten=(l.take i).flatten++l[i]:=by
 rw [List.take_succ_eq_append_getElem h,List.flatten_append];simp
theorem Be (l:List (List ByteArray)) (i:Nat):(l.take i).flatten.length≤l.flatten.length:=by
 have:l.flatten=(l.take i).flatten++(l.drop i).flatten:=by rw [← List.flatten_append,List.take_append_drop]
 rw [this,List.length_append];omega
theorem AV (l:List (List ByteArray)) (hl:l.flatten.length≤1000) (hk:l.length≤1000):FnD Tryz.prog 316 [.l 1 (l.map DS)] (.row 1 9 (l.flatten.map .s)):=by
 have f1:=FZ l.flatten.length hl
 refine af Tryz.func316 (fun hw W0=>?_)
 refine kgo ?_
 refine ai [0,9,10] (fun i:Nat=>i≤l.length) (fun i=>l.length - i) (fun i=>[(11,.sy (.d (.i i))),(3,.sy (.d (.i (l.take i).flatten.length)))]) 0 (Nat.zero_le _) (fun i hi=>?_)
 refine kgo ?_
 refine aJ (fun h=>?_) (fun h=>?_)
 ·have hlt:i<l.length:=by simpa using h
  have h1:=Be l (i+1)
  have h2:((l.take (i+1)).flatten.length:Int)=(l.take i).flatten.length+l[i].length:=by rw [tw l i hlt,List.length_append];omega
  refine kgo ?_
  rw [← h2]
  exact aa (i+1) hlt (by omega)
 obtain rfl:i=l.length:=by have:=h;simp at this;omega
 rw [List.take_length]
 refine kgo ?_
 refine Gz (hf:=f1) ?_
 refine kgo ?_
 refine ai [25,26] (fun i:Nat=>i≤l.length) (fun i=>l.length - i) (fun i=>[(27,.sy (.d (.i i))),(6,.sy (.k 20001)),(20001,.tk (.row 1 9 (((l.take i).flatten).map .s)))]) 0 (Nat.zero_le _) (fun i hi=>?_)
 refine kgo ?_
 refine aJ (fun h=>?_) (fun h=>?_)
 ·have hlt:i<l.length:=by simpa using h
  have h1:=Be l (i+1)
  have h2:=tw l i hlt
  have hs:((l.take (i+1)).flatten).map D.s=((l.take i).flatten++l[i]).map D.s:=by rw [h2]
  rw [h2,List.length_append] at h1
  refine kgo ?_
  exact aa (i+1) hlt (by omega)
 obtain rfl:i=l.length:=by have:=h;simp at this;omega
 rw [List.take_length]
 refine kgo ?_
 exact pJ
theorem DP (s:ByteArray):FnD Tryz.prog 318 [.s s] (.d (s8 (0,s))):=by
 refine af Tryz.func318 (fun hw W0=>?_)
 refine kgo ?_
 exact aj
theorem nZ (a:Big) (p:Int) (hp : -1000≤p∧p≤1000) (ha:0≤a.roots∧a.roots≤1000):FnD Tryz.prog 317 [.i p,.p a.D] (.d (.i (p - a.roots))):=by
 refine af Tryz.func317 (fun hw W0=>?_)
 refine kgo ?_
 exact aj
theorem wA (e:Int × ByteArray):FnD Tryz.prog 320 [s8 e] (.d (s8 e)):=by
 refine af Tryz.func320 (fun hw W0=>?_)
 refine kgo ?_
 exact aj
theorem yN {a b:Big} (oa:sj a) (ob:sj b) (hap:iu (a.inner.map Wr.name) (b.inner.map Wr.name)=true):FnD Tryz.prog 283 [a.D,b.D] (.d (ip a b).D):=by
 have ea:=oa.edges
 have eb:=ob.edges
 have ra:=oa.roots
 have rb:=ob.roots
 have la:=oa.outer
 have lb:=ob.outer
 have ia:=oa.inner
 have ib:=ob.inner
 have f1:FnD Tryz.prog 316 [.l 1 [DS a.outer,DS b.outer]] (.row 1 9 ((a.outer++b.outer).map .s)):=by
  have:=AV [a.outer,b.outer] (by simp;omega) (by simp)
  simpa using this
 have f2:FnD Tryz.prog 284 [a.D,b.D,.i (a.roots+b.roots),DI a.sites,DS (a.outer++b.outer),.f 317 [.p a.D],.f 318 []] (.d (rZ a b).D):=
  xJ a b (a.roots+b.roots) a.sites (a.outer++b.outer) 317 318 [.p a.D] [] (fun s=>(0,s)) (fun p=>p - a.roots) rfl rfl oa.dims ob.dims (by omega) (by omega) ⟨ea.1,by omega⟩ ⟨eb.1,by omega⟩ (by rw [List.length_append];omega) (by have:=oa.sitesN;omega) oa.links oa.wires ob.links ob.wires
   (fun x hx=>⟨by have:=ob.pars x hx;omega,fun h=>nZ a _ (by have:=ob.pars x hx;omega) ⟨ra.1,by omega⟩⟩) (fun p hp=>⟨by have:=ob.sites p hp;omega,fun h=>nZ a _ (by have:=ob.sites p hp;omega) ⟨ra.1,by omega⟩⟩)
   (fun l hl=>uo a 318 [] (iz b l) _ rfl (by have h1:=hl.1;have h2:=eb.2;unfold iz;split <;> (constructor <;> dsimp only <;> omega)) ⟨ea.1,by omega⟩ (fun _=>DP _))
 have f3:=m9 a (a.edges+b.edges) (a.outer++b.outer) 320 [] id rfl oa.dims (by omega) ⟨by omega,by omega⟩ ⟨by omega,by omega⟩ (by rw [List.length_append];omega) oa.links oa.wires (fun l _=>wA _)
 have hnd:((zP a b).map Wr.name).Nodup:=by rw [p7];exact vF hap oa.inames ob.inames
 have hwl:(zP a b).length≤1000:=by have h:=congrArg List.length (p7 a b);simp at h;omega
 have f4:=pC (zP a b) 321 hwl hnd (cB Tryz.func321) wh
 rw [← Gl oa ob]
 have hJ:(rZ a b).edges=a.edges+b.edges:=rfl
 have hW:zP a b=(zN a (a.edges+b.edges) (js a b) fun l=>nN (a.edges+b.edges) (js a b) (id (iz a l))).inner++(rZ a b).inner:=rfl
 have hP:Jr a b=⟨(rZ a b).roots,(rZ a b).nodes,(rZ a b).sites,(rZ a b).edges,(rZ a b).outer,xN (zP a b)⟩:=rfl
 rw [hP]
 revert f2 f3 hW f4 hJ hwl
 generalize rZ a b=J
 generalize hR:(zN a (a.edges+b.edges) (js a b) fun l=>nN (a.edges+b.edges) (js a b) (id (iz a l)))=R
 unfold js at hR
 rw [hR]
 generalize xN (zP a b)=S
 generalize zP a b=W
 intro f2 f3 hwl f4 hJ hW
 subst hW
 rw [List.length_append] at hwl
 rw [← hJ] at f3
 refine af Tryz.func283 (fun hw W0=>?_)
 refine kgo ?_
 refine JM ?_
 repeat (first|refine cFz 5 ?_|(refine ca ?_;first|refine aM ?_|refine b6 ?_|refine aR ?_|refine bh ?_|refine aL ?_|refine bg ?_|refine aX ?_|refine az ?_|refine aV ?_)|(refine eG ?_;first|refine bH ?_|refine eC ?_|refine bP ?_|refine cb ?_)|(refine eT ?_;first|refine cS (fun _=>?_)|refine cd ?_|refine bR ?_|refine b9 ?_|refine bu ?_|refine bJ ?_|refine b8 ?_)|(refine eR ?_;first|refine ch ?_|refine d7 ?_|refine b7 ?_|refine bD ?_|refine bN ?_|refine bX ?_|refine bS ?_)|(refine eK ?_;first|refine eF ?_|refine eA ?_|refine bU ?_|refine bG ?_|refine eH ?_|refine bd ?_|refine bc ?_)|(refine bV ?_;first|refine ba ?_|refine bT ?_)|(refine eV ?_;first|refine bI ?_|refine bQ ?_|refine eJ ?_)|(refine bL ?_;first|refine bO ?_|refine aS ?_|refine aN ?_|refine aW ?_|refine aQ ?_|refine aY ?_)|(refine eE ?_;first|refine bZ ?_|refine eB ?_|refine be ?_|refine aP ?_|refine aU ?_)|(refine aK ?_;first|refine aq _ ?_|refine bf ?_|refine aw ?_|refine au ?_|refine ax ?_)|(refine eP ?_;first|refine bW ?_|refine bE ?_|refine bM ?_)|(refine gOp ?_;first|refine eD ?_|refine eM ?_|refine aZ ?_|refine eU ?_|refine eN ?_|refine bK ?_|refine aO ?_|refine cf ?_|refine eO ?_|refine bC ?_|refine bY ?_|refine aT ?_|refine ay ?_|refine cg ?_|refine sNo ?_|refine dU ?_|refine av ?_)|refine dY ?_|refine dq ?_|refine fj ?_|refine bj ?_|refine ci ?_|refine br ?_|refine fm ?_|refine fl ?_|refine eX ?_|refine dB ?_|refine ck ?_|refine bo ?_|refine aA ?_|refine bk ?_|refine ct ?_|refine bt ?_|refine aBlkX ?_|refine cm ?_)
 refine rY 2 a.D ?_
 refine kgo ?_
 refine JU 10004 5 ?_
 exact aj
def zT (sig:List Ctl) (a b:Big):Big × Bool:=if aH sig a && (aH sig b && (iu (a.inner.map Wr.name) (b.inner.map Wr.name) && aH sig (ip a b))) then (ip a b,true) else (fK,false)
theorem mA (sig:List Ctl) (a b:Big) (ia:a.inner.length≤1000) (ib:b.inner.length≤1000):FnO Tryz.prog 251 [.l 3 (sig.map Ctl.D),a.D,b.D] [6,0] (CV (zT sig a b).1++[.d (.b (zT sig a b).2)]):=by
 have f1:=dW sig a (by omega)
 have f2:=dW sig b (by omega)
 have f3:=(fP a ia).toL
 have f4:=(fP b ib).toL
 have f5:=nr (a.inner.map Wr.name) (b.inner.map Wr.name)
 rw [td] at f5
 refine cT Tryz.func251 (fun hw W0=>?_)
 refine kgo ?_
 cases ga:aH sig a
 ·rw [show zT sig a b=(fK,false) from by simp [zT,ga]]
  refine kgo ?_
  exact ik (hp:=.cons (.d rfl) (.cons .m (.cons .n (.cons (.d rfl) (.cons .n (.cons .n (.cons (.d rfl) .nil)))))))
 refine kgo ?_
 cases gb:aH sig b
 ·rw [show zT sig a b=(fK,false) from by simp [zT,gb]]
  refine kgo ?_
  exact ik (hp:=.cons (.d rfl) (.cons .m (.cons .n (.cons (.d rfl) (.cons .n (.cons .n (.cons (.d rfl) .nil)))))))
 refine kgo ?_
 cases gc:iu (a.inner.map Wr.name) (b.inner.map Wr.name)
 ·rw [show zT sig a b=(fK,false) from by simp [zT,gc]]
  refine kgo ?_
  exact ik (hp:=.cons (.d rfl) (.cons .m (.cons .n (.cons (.d rfl) (.cons .n (.cons .n (.cons (.d rfl) .nil)))))))
 have f6:=yN (dM ga) (dM gb) gc
 have f7:=ox sig (ip a b) (by rw [ou];have:=(dM ga).inner;have:=(dM gb).inner;omega)
 rw [show zT sig a b=(zU (aH sig (ip a b)) (ip a b),aH sig (ip a b)) from by unfold zT zU;rw [ga,gb,gc];cases aH sig (ip a b) <;> rfl]
 refine kgo ?_
 exact ik (hp:=.cons (.d rfl) (.cons (.k rfl rfl) (.cons (.k rfl rfl) (.cons (.d rfl) (.cons (.k rfl rfl) (.cons (.k rfl rfl) (.cons (.d rfl) .nil)))))))
theorem wE (sig:List Ctl) (a b:Big) (ia:a.inner.length≤1000) (ib:b.inner.length≤1000):FnO Tryz.prog 213 [.l 3 (sig.map Ctl.D),a.D,b.D] [6,0] (CV (oF sig a b).1++[.d (.b (oF sig a b).2)]):=by
 have f1:=nr a.outer b.outer
 rw [td] at f1
 refine cT Tryz.func213 (fun hw W0=>?_)
 refine kgo ?_
 cases gc:iu a.outer b.outer
 ·rw [show oF sig a b=(fK,false) from by simp [oF,gc]]
  refine kgo ?_
  exact ik (hp:=.cons (.d rfl) (.cons .m (.cons .n (.cons (.d rfl) (.cons .n (.cons .n (.cons (.d rfl) .nil)))))))
 have f2:=mA sig a b ia ib
 rw [show oF sig a b=zT sig a b from by unfold oF zT;rw [gc,Bool.true_and]]
 refine kgo ?_
 exact ik (hp:=.cons (.d rfl) (.cons (.k rfl rfl) (.cons (.k rfl rfl) (.cons (.d rfl) (.cons (.k rfl rfl) (.cons (.k rfl rfl) (.cons (.d rfl) .nil)))))))
theorem sg (sig:List Ctl) (a b:Big) (ia:a.inner.length≤1000) (ib:b.inner.length≤1000):FnO Tryz.prog 215 [.l 3 (sig.map Ctl.D),a.D,b.D] [6,0] (CV (fG sig a b).1++[.d (.b (fG sig a b).2)]):=by
 have h:=m7 sig a b ia ib (fun ga gb gf=>Hv (dM ga) (dM gb) gf)
 have e:(zU (mz sig a b) (Cd a b),mz sig a b)=fG sig a b:=by
  unfold fG mz zU
  show _=if aH sig a && (aH sig b && (CS a b && aH sig (vO a b))) then (vO a b,true) else (fK,false)
  cases ga:aH sig a
  ·rfl
  cases gb:aH sig b
  ·rfl
  cases gf:CS a b
  ·rfl
  rw [BD (dM ga) (dM gb) gf]
  cases aH sig (vO a b) <;> rfl
 rw [← e]
 exact h
theorem HO (l:List ByteArray):(⟨(0:Nat),[],((List.range 0).map fun i:Nat=>-1 - (i:Int)),0,l,(List.range l.length).map fun i:Nat=>⟨l.getD i ⟨#[]⟩,i⟩⟩:Big)=idB l:=by
 unfold idB
 congr 1
 apply List.ext_getElem (by simp)
 intro i h1 h2
 have:i<l.length:=by simpa using h1
 simp [this]
theorem tK (sig:List Ctl) (ctx red mid par:Big) (ho:red.outer=mid.outer) (hl:mid.inner.length+ctx.inner.length≤1000) (hp:par.inner.length≤1000):FnO Tryz.prog 130 [.l 3 (sig.map Ctl.D),ctx.D,red.D,mid.D,par.D] [6,0] (CV (nD sig mid ctx par).1++[.d (.b (nD sig mid ctx par).2)]):=by
 have f1:=fP ctx (by omega)
 have f2:=rU (ctx.inner.map Wr.name) red (by simp;omega)
 have hN:((ctx.inner.map Wr.name).filter fun x=>!qc red.outer x)=fa mid.outer (ctx.inner.map Wr.name):=by
  unfold fa
  refine List.filter_congr fun x _=>?_
  unfold qc
  rw [ho,Bool.eq_iff_iff,Bool.not_eq_true',decide_eq_false_iff_not,decide_eq_true_eq];omega
 rw [hN] at f2
 have hNl:(fa mid.outer (ctx.inner.map Wr.name)).length≤ctx.inner.length:=by unfold fa;have:=List.length_filter_le (fun y=>decide (jo mid.outer y<0)) (ctx.inner.map Wr.name);simpa using this
 have f3:FnD Tryz.prog 214 [.i 0,DS (fa mid.outer (ctx.inner.map Wr.name))] (.d (idB (fa mid.outer (ctx.inner.map Wr.name))).D):=by
  have:=ye 0 (fa mid.outer (ctx.inner.map Wr.name)) (by omega) (by omega)
  rw [HO] at this
  exact this
 have hA:nD sig mid ctx par=if (oF sig mid (idB (fa mid.outer (ctx.inner.map Wr.name)))).2 then (if (fG sig ctx (oF sig mid (idB (fa mid.outer (ctx.inner.map Wr.name)))).1).2 then fG sig (fG sig ctx (oF sig mid (idB (fa mid.outer (ctx.inner.map Wr.name)))).1).1 par else (fK,false)) else (fK,false):=rfl
 rw [hA]
 clear hA hN
 revert f2 f3 hNl
 generalize fa mid.outer (ctx.inner.map Wr.name)=ns
 intro f2 f3 hNl
 have hI:(idB ns).inner.length=ns.length:=by unfold idB;simp
 have hw:=xX sig mid (idB ns)
 have f4:FnD Tryz.prog 213 [.l 3 (sig.map Ctl.D),mid.D,(idB ns).D] (.tp [(oF sig mid (idB ns)).1.D,.b (oF sig mid (idB ns)).2]):=(wE sig mid (idB ns) (by omega) (by omega)).toT
 generalize oF sig mid (idB ns)=S at hw f4 ⊢
 have f5:FnD Tryz.prog 215 [.l 3 (sig.map Ctl.D),ctx.D,S.1.D] (.tp [(fG sig ctx S.1).1.D,.b (fG sig ctx S.1).2]):=(sg sig ctx S.1 (by omega) (by omega)).toT
 have hc:=uk sig ctx S.1
 generalize fG sig ctx S.1=T at hc f5 ⊢
 have f6:=sg sig T.1 par (by omega) hp
 refine cT Tryz.func130 (fun hw W0=>?_)
 refine kgo ?_
 refine rY 7 red.D ?_
 repeat (first|refine cFz 12 ?_|(refine ca ?_;first|refine aM ?_|refine b6 ?_|refine aR ?_|refine bh ?_|refine aL ?_|refine bg ?_|refine aX ?_|refine az ?_|refine aV ?_)|(refine eG ?_;first|refine bH ?_|refine eC ?_|refine bP ?_|refine cb ?_)|(refine eT ?_;first|refine cS (fun _=>?_)|refine cd ?_|refine bR ?_|refine b9 ?_|refine bu ?_|refine bJ ?_|refine b8 ?_)|(refine eR ?_;first|refine ch ?_|refine d7 ?_|refine b7 ?_|refine bD ?_|refine bN ?_|refine bX ?_|refine bS ?_)|(refine eK ?_;first|refine eF ?_|refine eA ?_|refine bU ?_|refine bG ?_|refine eH ?_|refine bd ?_|refine bc ?_)|(refine bV ?_;first|refine ba ?_|refine bT ?_)|(refine eV ?_;first|refine bI ?_|refine bQ ?_|refine eJ ?_)|(refine bL ?_;first|refine bO ?_|refine aS ?_|refine aN ?_|refine aW ?_|refine aQ ?_|refine aY ?_)|(refine eE ?_;first|refine bZ ?_|refine eB ?_|refine be ?_|refine aP ?_|refine aU ?_)|(refine aK ?_;first|refine aq _ ?_|refine bf ?_|refine aw ?_|refine au ?_|refine ax ?_)|(refine eP ?_;first|refine bW ?_|refine bE ?_|refine bM ?_)|(refine gOp ?_;first|refine eD ?_|refine eM ?_|refine aZ ?_|refine eU ?_|refine eN ?_|refine bK ?_|refine aO ?_|refine cf ?_|refine eO ?_|refine bC ?_|refine bY ?_|refine aT ?_|refine ay ?_|refine cg ?_|refine sNo ?_|refine dU ?_|refine av ?_)|refine dY ?_|refine dq ?_|refine fj ?_|refine bj ?_|refine ci ?_|refine br ?_|refine fm ?_|refine fl ?_|refine eX ?_|refine dB ?_|refine ck ?_|refine bo ?_|refine aA ?_|refine bk ?_|refine ct ?_|refine bt ?_|refine aBlkX ?_|refine cm ?_)
 cases g1:S.2
 ·rw [if_neg Bool.false_ne_true]
  refine kgo ?_
  exact ik (hp:=.cons (.d rfl) (.cons .m (.cons .n (.cons (.d rfl) (.cons .n (.cons .n (.cons (.d rfl) .nil)))))))
 rw [if_pos rfl]
 refine kgo ?_
 cases g2:T.2
 ·rw [if_neg Bool.false_ne_true]
  refine kgo ?_
  exact ik (hp:=.cons (.d rfl) (.cons .m (.cons .n (.cons (.d rfl) (.cons .n (.cons .n (.cons (.d rfl) .nil)))))))
 rw [if_pos rfl]
 refine kgo ?_
 exact ik (hp:=.cons (.d rfl) (.cons (.k rfl rfl) (.cons (.k rfl rfl) (.cons (.d rfl) (.cons (.k rfl rfl) (.cons (.k rfl rfl) (.cons (.d rfl) .nil)))))))
end Go.Proofs.YtnobdioccfeokaaGreatDoor
namespace Go.Proofs.YtnobdioccfeokaaGreatDoor
open Go.RowKit
set_option linter.unusedVariables false
set_option linter.unusedSimpArgs false
theorem kE {f g:Nat→Bool} {n:Nat} (h:∀i,i<n→f i=g i):(List.range n).filter f=(List.range n).filter g:=List.filter_congr fun i hi=>h i (List.mem_range.1 hi)
theorem rM (f:Nat→Bool) (n i:Nat) (h:i<n):((List.range n).map f).getD i false=f i:=by
 rw [List.getD_eq_getElem?_getD,List.getElem?_eq_getElem (by simpa using h),List.getElem_map,List.getElem_range];rfl
theorem pe (f:Nat→Bool) (n i:Nat) (h:i<n):tkF ((List.range n).map f) true i=f i:=by
 unfold tkF;rw [rM f n i h];cases f i <;> rfl
theorem F7 (f:Nat→Bool) (n k:Nat) (h:k≤n):atN ((List.range n).map f) true k=((idxOf f k).length:Int):=by
 unfold atN idxOf
 rw [List.length_map,kE (fun i hi=>pe f n i (by omega))]
theorem xP (f:Nat→Bool) (n:Nat) (p:Int) (h:p<n) (hf:0≤p→f p.toNat=true):te ((List.range n).map f) true false p=if 0≤p then dh (idxOf f n) p else p:=by
 unfold te
 by_cases h0:0≤p
 ·obtain ⟨k,rfl⟩:=Int.eq_ofNat_of_zero_le h0
  have hk:f k=true:=hf h0
  rw [if_pos (by rw [decide_eq_true h0];simp only [Int.toNat_natCast,Bool.true_and];rw [pe f n k (by omega)];exact hk),if_pos h0,fJ k (by omega),if_pos hk,Int.toNat_natCast,F7 f n k (by omega)]
 ·rw [if_neg (by rw [decide_eq_false h0];simp),if_neg h0];rfl
theorem n5 (f:Nat→Bool) (n:Nat):iO f n=((idxOf f n).length:Int):=by unfold iO idxOf;rw [List.length_map]
theorem ru {r a:Big} {ns:List Int} (he:0≤a.edges) (l:Int) (h:0≤l∧l<a.edges+a.outer.length):atI (lR r a ns) l=iP r a ns l:=by
 unfold lR iP iV
 have hlen:(jd (fy (bi r a ns) r.edges.toNat) a.edges.toNat).length=a.edges.toNat:=by simp [jd]
 rw [uS _ _ _ h.1,hlen]
 by_cases hl:l<a.edges
 ·rw [if_pos (by omega),if_pos hl]
  obtain ⟨k,rfl⟩:=Int.eq_ofNat_of_zero_le h.1
  have hk:k<a.edges.toNat:=by omega
  rw [fJ k hk]
  unfold jd
  rw [mE _ _ k (by simpa using hk),List.getElem_range,n5];rfl
 ·rw [if_neg (by omega),if_neg hl,oc _ _ _ (by omega) (by omega),n5,Int.toNat_of_nonneg he];rfl
theorem Fk {sig:List Ctl} {a:Big} (h:aH sig a=true) {ns:List Int} {k:Nat} (hk:k<a.nodes.length) (hi:il a ns k=false):fp ns k=false∧il a ns (a.nodes[k]).parent=false:=by
 unfold il at hi ⊢
 rw [fg h _ k hk,Bool.or_eq_false_iff] at hi
 exact hi
theorem GW {sig:List Ctl} {a:Big} (h:aH sig a=true) {ns:List Int} {k:Nat} (hk:k<a.nodes.length) (hi:il a ns k=true) (hn:fp ns k=false):il a ns (a.nodes[k]).parent=true∧0≤(a.nodes[k]).parent:=by
 unfold il at hi ⊢
 rw [fg h _ k hk,hn,Bool.false_or] at hi
 refine ⟨hi,?_⟩
 rcases Int.lt_or_le (a.nodes[k]).parent 0 with h0|h0
 ·rw [ee _ _ h0] at hi;cases hi
 ·exact h0
theorem BB {b:Big} {f:Nat→Bool} {ks:List Int} {n:Nat} (g:Int→Nd) (h:∀k,k<n→f k=true→G8 ((List.range n).map f) true false ks (dF b k)=g k):gD b ((List.range n).map f) true false ks n=(idxOf f n).map g:=by
 unfold gD idxOf
 rw [kE (fun i hi=>pe f n i hi),List.map_map]
 refine List.map_congr_left fun k hk=>?_
 rw [List.mem_filter,List.mem_range] at hk
 exact h k hk.1 hk.2
theorem BP {sig:List Ctl} {r a:Big} {ns:List Int} (hr:aH sig r=true) (ha:aH sig a=true) (him:oK r a ns) (hL:fX r a ns=true) {k:Nat} (hk:k<a.nodes.length) (hi:fp ns k=false) {l:Nat} (hl:(l:Int)∈(a.nodes[k]).links):kK r a ns l=true:=by
 unfold kK
 cases hh:fp ((bi r a ns).take r.edges.toNat) (l:Int) with
 | false=>rfl
 | true=>
  obtain ⟨e,he,e1⟩:=List.mem_take_iff_getElem.1 (cO.1 hh)
  have he1:e<r.edges.toNat∧e<ak r:=by simp [bi] at he;omega
  unfold bi at e1
  rw [List.getElem_map,List.getElem_range] at e1
  obtain ⟨j,hj,e2⟩:=List.mem_iff_getElem.1 hl
  have h1:=BZ him hr ha ((aC _ _).1 hL e he1.2) (by omega) (q:=((k:Int),(j:Int))) (d9.2 ⟨k,j,hk,hj,by rw [e1];exact e2,rfl⟩)
  rw [cO.2 h1] at hi;cases hi
theorem Ag {b:Big} (o:sj b) {j:Nat} (hj:j<b.outer.length):jo (cG b.outer) (b.outer.getD j ⟨#[]⟩)=j:=by
 rw [lH o.names,List.getD_eq_getElem?_getD,List.getElem?_eq_getElem hj]
 exact rF o.names j hj
theorem xI {l:List Int} {x:Int} (h:¬x∈l):dh l x = -1:=by
 unfold dh;rw [if_neg (fun e=>h (cO.1 e))]
def z2 (a:Big) (l:Int):ByteArray:=a.outer.getD (l - a.edges).toNat ⟨#[]⟩
def nC (r a:Big) (ns:List Int):List Wr:=r.outer.mapIdx fun i s=>⟨s,iP r a ns (atI (bi r a ns) (r.edges+i))⟩
def nL (r a:Big) (ns ps:List Int) (names:List ByteArray):List Wr:=names.mapIdx fun i s=>⟨s,iP r a ns (atI ps i)⟩
def Gu (r a:Big) (m:Mat) (ps:List Int) (names:List ByteArray):Big:=
 ⟨a.roots,(pN a (mY a m.nodes) (iV r a m.nodes) a.outer (dP a m.nodes) (z2 a)).nodes,m.roots.map (dP a m.nodes),(iV r a m.nodes).length,cG a.outer,xN (nC r a m.nodes++nL r a m.nodes ps names)⟩
theorem nb {α β:Type} {f g:Nat→α→β} {l:List α} (h:∀i (hi:i<l.length),f i l[i]=g i l[i]):l.mapIdx f=l.mapIdx g:=by
 apply List.ext_getElem (by simp)
 intro i h1 h2
 rw [List.getElem_mapIdx,List.getElem_mapIdx]
 exact h i (by simpa using h1)
theorem lr {l:List ByteArray} (f:Nat→ByteArray→Int):(l.mapIdx fun i s=>(⟨s,f i s⟩:Wr)).map Wr.name=l:=by
 apply List.ext_getElem (by simp)
 intro i h1 h2
 rw [List.getElem_map,List.getElem_mapIdx]
theorem FF {sig:List Ctl} {r a:Big} {m:Mat} (hr:aH sig r=true) (hs:cA r=true) (ha:aH sig a=true) (hm:er r a m=true) {ps:List Int} {names:List ByteArray} (hps:∀l∈ps,0≤l∧l<(ak a:Int)) (hnm:names.length=ps.length):Gu r a m ps names=Hd r a m ps names:=by
 obtain ⟨h1,h2,h3,h4⟩:=cW hm
 have him:=jk h1
 have oa:=dM ha
 have or':=dM hr
 have he:=oa.edges
 have hL:ak a=(a.edges+a.outer.length).toNat:=rfl
 have hrt:∀p∈m.roots,p<a.nodes.length∧il a m.nodes p=false:=fun p hp=>by
  unfold fH at h2
  rw [Bool.and_eq_true] at h2
  have:=List.all_eq_true.1 h2.1 p hp
  unfold jN at this
  rw [Bool.and_eq_true,Bool.not_eq_true'] at this
  have h5:=bB this.1
  exact ⟨by omega,this.2⟩
 have hpl:∀p:Int,p<a.nodes.length→il a m.nodes p=false→te (dm a m.nodes a.nodes.length) true false p=dP a m.nodes p:=fun p h5 h6=>xP _ _ _ h5 (fun h0=>by
  obtain ⟨k,rfl⟩:=Int.eq_ofNat_of_zero_le h0
  show Fo a m.nodes k=true
  unfold Fo
  rw [h6];rfl)
 unfold Gu Hd pN
 dsimp only
 congr 1
 ·symm
  refine BB _ (fun k hk hf=>?_)
  have hf':il a m.nodes k=false:=by unfold Fo at hf;simpa using hf
  obtain ⟨h5,h6⟩:=Fk ha hk hf'
  have hup:=iE ha k hk
  unfold G8 lI ew
  rw [aB a k hk]
  rw [show te ((List.range a.nodes.length).map (Fo a m.nodes)) true false (a.nodes[k]).parent=dP a m.nodes (a.nodes[k]).parent from hpl _ (by omega) h6]
  congr 1
  refine List.map_congr_left fun l hl=>?_
  have hlk:=oa.links _ (List.getElem_mem hk) l hl
  obtain ⟨l,rfl⟩:=Int.eq_ofNat_of_zero_le hlk.1
  rw [ru he.1 _ hlk]
  unfold iP kW
  by_cases hlt:(l:Int)<a.edges
  ·have hkf:=BP hr ha him h4 hk h5 hl
   have e1:dh (iV r a m.nodes) l=_:=fJ (f:=kK r a m.nodes) (n:=a.edges.toNat) l (by omega)
   rw [if_pos hkf] at e1
   rw [if_pos hlt,if_pos (by omega)]
  ·rw [if_neg hlt,xI (fun hin=>by
    obtain ⟨q,hq,_,e⟩:=bp.1 hin
    omega),if_neg (by omega)]
   unfold z2
   rw [Ag oa (by omega)];omega
 ·refine List.map_congr_left fun p hp=>?_
  obtain ⟨h5,h6⟩:=hrt p hp
  have:=hpl p h5 h6
  rw [← this]
  unfold te zX
  by_cases h0:0≤p
  ·obtain ⟨k,rfl⟩:=Int.eq_ofNat_of_zero_le h0
   have hk:k<a.nodes.length:=by omega
   have ht:tkF (dm a m.nodes a.nodes.length) true k=true:=by
    unfold dm
    rw [pe _ _ k hk]
    unfold Fo
    rw [h6];rfl
   rw [if_pos (by rw [decide_eq_true h0];simpa using ht),if_neg (by omega)]
   unfold atL
   rw [mE _ _ k (by simpa using hk),List.getElem_range,Int.toNat_natCast]
  ·rw [if_neg (by rw [decide_eq_false h0];simp),if_neg (show ¬(false=true) by simp),if_pos (by omega)]
 ·exact (n5 _ _).symm
 ·exact lH oa.names
 ·have e1:nC r a m.nodes=pm r (lR r a m.nodes) (bi r a m.nodes):=nb fun i hi=>by
   have hp0:=ii hs
   have:=z7 him hr ha hp0 (r.edges+i) (by have:=or'.edges;omega) (by have:=or'.edges;unfold ak;omega)
   rw [ru he.1 _ ⟨this.1,by omega⟩]
  have e2:nL r a m.nodes ps names=zW (lR r a m.nodes) ps names:=nb fun i hi=>by
   have:=hps _ (og (l:=ps) (i:=i) (by omega) (by omega))
   rw [ru he.1 _ ⟨this.1,by omega⟩]
  rw [e1,e2]
  exact xA (by unfold pm;rw [lr];exact or'.names)
theorem AU:∀i j:Fin 26,i<j→cN (mJ i) (mJ j)=true:=by decide +kernel
theorem qm (outer:List ByteArray) (n:Nat):(cj outer n).Pairwise NLt:=by
 unfold cj
 refine List.Pairwise.sublist (List.take_sublist _ _) (List.pairwise_map.2 ?_)
 refine List.Pairwise.imp_of_mem (fun {x y} hx hy h=>?_) (List.Pairwise.filter _ List.pairwise_lt_range)
 rw [List.mem_filter,List.mem_range] at hx hy
 exact AU ⟨x,hx.1⟩ ⟨y,hy.1⟩ h
theorem wm (outer:List ByteArray) (n:Nat):∀s∈cj outer n,¬s∈outer:=fun s hs hm=>by
 unfold cj at hs
 obtain ⟨i,hi,rfl⟩:=List.mem_map.1 (List.mem_of_mem_take hs)
 rw [List.mem_filter] at hi
 have:=hi.2
 unfold lA at this
 rw [Bool.not_eq_true',List.any_eq_false] at this
 exact this _ hm (by simp)
theorem yi {sig:List Ctl} {r a:Big} (hr:aH sig r=true) (ns ps:List Int) (n:Nat):((nC r a ns++nL r a ns ps (cj r.outer n)).map Wr.name).Nodup:=by
 rw [List.map_append]
 unfold nC nL
 rw [lr,lr]
 exact List.nodup_append.2 ⟨i1 NLt NLt.irr (dM hr).names,i1 NLt NLt.irr (qm _ _),fun x hx y hy e=>wm _ _ _ hy (by rw [← e];exact hx)⟩
theorem Aa {sig:List Ctl} {a:Big} (ha:aH sig a=true) (ns:List Int):idxOf (psF a ns) (ak a)=am a ns:=by
 unfold am idxOf
 rw [kE (fun l hl=>?_)]
 unfold psF IQ mT
 rw [Bool.eq_iff_iff,decide_eq_true_eq,List.length_pos_iff_exists_mem,List.any_eq_true]
 constructor
 ·rintro ⟨q,hq⟩
  rw [List.mem_filter] at hq
  obtain ⟨hq,hp⟩:=hq
  obtain ⟨i,j,hi,hj,e1,rfl⟩:=d9.1 hq
  simp only [Int.toNat_natCast] at hp
  unfold dX at hp
  rw [rM _ _ i hi] at hp
  exact ⟨i,bp.2 ⟨i,hi,by simpa using hp,rfl⟩,by rw [aB a i hi,cO,← e1];exact List.getElem_mem hj⟩
 ·rintro ⟨k,hk,hl2⟩
  obtain ⟨q,rfl,hq,hp⟩:=gW hk
  rw [aB a q hq,cO] at hl2
  obtain ⟨j,hj,e⟩:=List.mem_iff_getElem.1 hl2
  refine ⟨((q:Int),(j:Int)),List.mem_filter.2 ⟨d9.2 ⟨q,j,hq,hj,e,rfl⟩,?_⟩⟩
  simp only [Int.toNat_natCast]
  unfold dX
  rw [rM _ _ q hq,hp];rfl
def sU (r a:Big) (ns:List Int) (p:Int):Int:=if 0≤dh (bz a ns) p then dh (bz a ns) p else -1 - dh r.sites (dh ns p)
def ux (ps:List Int) (names:List ByteArray) (l:Int):ByteArray:=names.getD (dh ps l).toNat ⟨#[]⟩
def Hp (r a:Big) (m:Mat) (ps:List Int) (names:List ByteArray):Big:=⟨r.sites.length,(pN a (bz a m.nodes) [] names (sU r a m.nodes) (ux ps names)).nodes,[],0,cG names,[]⟩
theorem yl {r:Big} {x:Int} (h:0<(cC r x).length):atI (cC r x) 0=dh r.sites x:=by
 have hm:(cC r x)[0]∈cC r x:=List.getElem_mem h
 unfold cC at hm
 obtain ⟨q,hq,hf,e⟩:=bp.1 hm
 unfold ju at hf
 rw [List.getElem?_eq_getElem hq] at hf
 have hx:r.sites[q]=x:=by simpa using hf
 have hin:x∈r.sites:=by rw [← hx];exact List.getElem_mem hq
 have e0:atI (cC r x) 0=(q:Int):=by rw [show (0:Int)=((0:Nat):Int) from rfl,bF _ 0 h];exact e
 rw [e0]
 unfold dh
 rw [if_pos (cO.2 hin)]
 have hi:r.sites.idxOf x<r.sites.length:=List.idxOf_lt_length_of_mem hin
 have h1:r.sites.idxOf x≤q:=by
  rcases Nat.lt_or_ge q (r.sites.idxOf x) with h2|h2
  ·have h3:=List.not_of_lt_findIdx (p:=(· == x)) (xs:=r.sites) (i:=q) h2
   rw [hx] at h3
   simp at h3
  ·exact h2
 have h2:((r.sites.idxOf x:Nat):Int)∈cC r x:=bp.2 ⟨_,hi,by unfold ju;rw [List.getElem?_eq_getElem hi];simp,rfl⟩
 obtain ⟨j,hj,e3⟩:=List.mem_iff_getElem.1 h2
 have hinc:(cC r x).Pairwise (· < ·):=gN _ _
 have h3:(q:Int)≤r.sites.idxOf x:=by
  rw [← e3]
  have e':(cC r x)[0]=(q:Int):=e
  rw [← e']
  rcases Nat.eq_zero_or_pos j with rfl|hj0
  ·exact Int.le_refl _
  ·exact Int.le_of_lt (si hinc h hj hj0)
 omega
theorem De (ps z:List Int) (k:Nat):mi ps z k=ml ps z 0 k:=by
 unfold mi ml
 congr 1
 funext l i
 simp
theorem F4 {sig:List Ctl} {r a:Big} {m:Mat} (hr:aH sig r=true) (ha:aH sig a=true) (hm:er r a m=true) (names:List ByteArray) (hn:names.Pairwise NLt) (hnl:names.length=(am a m.nodes).length):Hp r a m (am a m.nodes) names=Hq r a m (am a m.nodes) names:=by
 have hinc:(am a m.nodes).Pairwise (· < ·):=gN _ _
 unfold Hp Hq pN
 dsimp only
 rw [lH hn]
 congr 1
 unfold jD bz idxOf dX
 rw [kE (fun i hi=>pe (mH a m.nodes) a.nodes.length i hi),List.map_map]
 refine (List.map_congr_left fun k hk=>?_).symm
 rw [List.mem_filter,List.mem_range] at hk
 obtain ⟨hk,hf⟩:=hk
 have hf2:=hf
 unfold mH at hf2
 rw [Bool.and_eq_true,Bool.not_eq_true'] at hf2
 obtain ⟨h5,h6⟩:=GW ha hk hf2.1 hf2.2
 have hup:=iE ha k hk
 obtain ⟨q,hq⟩:=Int.eq_ofNat_of_zero_le h6
 have hql:q<a.nodes.length:=by omega
 have hpm:dh (bz a m.nodes) (q:Int)=_:=fJ (f:=mH a m.nodes) (n:=a.nodes.length) q hql
 unfold jO
 show _=lI a [] names (sU r a m.nodes) (ux (am a m.nodes) names) k
 unfold lI ew
 rw [aB a k hk,hq]
 congr 1
 ·unfold sU
  rw [hq] at h5
  by_cases hh:fp m.nodes (q:Int)=true
  ·have hpf:mH a m.nodes q=false:=by unfold mH;rw [hh];simp
   rw [hpf,if_neg (by simp)] at hpm
   rw [hpm,decide_eq_true hk,hh,if_pos (show (true && true)=true from rfl),if_neg (show ¬(0:Int)≤-1 by omega)]
   have hs:=oZ hm k hk hf (by rw [aB a k hk,hq];exact hh)
   rw [aB a k hk,hq] at hs
   unfold kQ
   rw [yl hs]
  ·rw [Bool.not_eq_true] at hh
   have hpf:mH a m.nodes q=true:=by unfold mH;rw [hh,h5];rfl
   rw [hpf,if_pos rfl] at hpm
   rw [hh,Bool.and_false,if_neg (by simp),hpm,if_pos (by omega)]
   rw [xP _ _ _ (by omega) (fun _=>hpf),if_pos (by omega)]
   exact hpm
 ·refine List.map_congr_left fun l hl=>?_
  obtain ⟨l,rfl,hll⟩:=iC ((e9 ha k hk).2.2.2.2 _ hl)
  have hpl:(l:Int)∈am a m.nodes:=bp.2 ⟨l,hll,List.any_eq_true.2 ⟨k,bp.2 ⟨k,hk,hf,rfl⟩,by rw [aB a k hk];exact cO.2 hl⟩,rfl⟩
  obtain ⟨e,he,e1⟩:=List.mem_iff_getElem.1 hpl
  have hie:=uY hinc e he
  rw [De,← e1,xb 0 hinc (fun x hx=>by
   obtain ⟨i,hi,_,rfl⟩:=bp.1 hx
   rw [List.length_replicate];omega) _ (Nat.le_refl _) e he he]
  unfold kW ux
  rw [xI (l:=[]) (by simp),if_neg (by omega),hie,lH hn,Int.toNat_natCast,List.getD_eq_getElem?_getD,List.getElem?_eq_getElem (by omega)]
  rw [Option.getD_some,rF hn e (by omega)]
  simp
end Go.Proofs.YtnobdioccfeokaaGreatDoor
namespace Go.Proofs.YtnobdioccfeokaaGreatDoor
open Go.RowKit
set_option linter.unusedVariables false
set_option linter.unusedSimpArgs false
set_option maxRecDepth 100000
set_option maxHeartbeats 4000000
attribute [local irreducible] ar Der At
theorem E3 (b:Big) (ns es:List Int) (outer:List ByteArray) (gp gn:Nat) (cp cn:List D) (place:Int→Int) (name:Int→ByteArray) (hcp:(cp.all fun r=>!isT r)=true) (hcn:(cn.all fun r=>!isT r)=true)
 (hn:ns.length≤1000) (he:es.length≤1000) (hol:outer.length≤1000) (hns:∀k∈ns,∃q:Nat,k=q∧q<b.nodes.length) (hll:∀n∈b.nodes,n.links.length≤1000)
 (hp:∀k∈ns,FnD Tryz.prog gp ([.i (dF b k).parent]++cp) (.d (.i (place (dF b k).parent)))) (hnm:∀k∈ns,∀l∈(dF b k).links,dh es l<0→FnD Tryz.prog gn ([.i l]++cn) (.d (.s (name l)))) :
 FnO Tryz.prog 201 [b.D,DI ns,DI es,DS outer,.f gp cp,.f gn cn] [6] [.d (.i b.roots),.tk (.row 3 153 ((pN b ns es outer place name).nodes.map Nd.D)),.d (.n 1),.d (.i es.length),.d (DS (cG outer)),.d (.n 2)]:=by
 have f0:=kY outer hol
 have ho:(cG outer).length≤1000:=by have h:=jG outer [];unfold cG;simp at h;omega
 refine cT Tryz.func201 (fun hw W0=>?_)
 refine kgo ?_
 refine oH 10013 1 20001 153 ?_
 refine ai [2,4,5,6,12,13,27,28] (fun i:Nat=>i≤ns.length) (fun i=>ns.length - i) (fun i=>[(10013,.tk (.bx [.d (.i b.roots),.k 20001,.d (.n 1),.d (.i es.length),.d (DS (cG outer)),.d (.n 2)])),(20001,.tk (.row 3 153 (((ns.take i).map (lI b es outer place name)).map Nd.D))),(29,.sy (.d (.i i)))]) 0 (Nat.zero_le _) (fun i hi=>?_)
 refine kgo ?_
 refine aJ (fun h=>?_) (fun h=>?_)
 ·have hlt:i<ns.length:=by omega
  have hmk:=List.getElem_mem hlt
  obtain ⟨q,hq,hqb⟩:=hns _ hmk
  have hnd:dF b ns[i]=b.nodes[q]:=by rw [hq,aB b q hqb]
  have f1:=hp _ hmk
  have f2:=hnm _ hmk
  rw [hnd] at f1 f2
  have hL:=hll _ (List.getElem_mem hqb)
  refine kgo ?_
  rw [hq]
  refine kgo ?_
  refine oH 10016 2 20002 3 ?_
  refine ai [2,4,5,6,12,13,16,27,28,29,53,54] (fun j:Nat=>j≤(b.nodes[q]).links.length) (fun j=>(b.nodes[q]).links.length - j) (fun j=>[(10016,.tk (.bx [.d (.i (b.nodes[q]).control),.d (.i (place (b.nodes[q]).parent)),.k 20002])),(20002,.tk (.row 1 3 ((((b.nodes[q]).links.take j).map (kW es outer name)).map .i))),(55,.sy (.d (.i j)))]) 0 (Nat.zero_le _) (fun j hj=>?_)
  refine kgo ?_
  refine aJ (fun h2=>?_) (fun h2=>?_)
  ·have hjl:j<(b.nodes[q]).links.length:=by omega
   have f3:=iv es (b.nodes[q]).links[j]
   have hr:=eh (fun x=>x == (b.nodes[q]).links[j]) es
   have hlk:kW es outer name (b.nodes[q]).links[j]=if 0≤nK (fun x=>x == (b.nodes[q]).links[j]) es then nK (fun x=>x == (b.nodes[q]).links[j]) es else es.length+jo (cG outer) (name (b.nodes[q]).links[j]):=rfl
   have f4:=f2 _ (List.getElem_mem hjl)
   have hb:(((b.nodes[q]).links.take j).map (kW es outer name)).length≤1000:=by rw [List.length_map,List.length_take];omega
   have hs:∀V:Int,kW es outer name (b.nodes[q]).links[j]=V→(((b.nodes[q]).links.take (j+1)).map (kW es outer name)).map D.i=(((b.nodes[q]).links.take j).map (kW es outer name)).map D.i++[.i V]:=fun V hV=>by rw [List.take_succ_eq_append_getElem hjl,List.map_append,List.map_append,← hV];rfl
   refine kgo ?_
   refine aJ (fun h3=>?_) (fun h3=>?_)
   ·rw [if_pos h3] at hlk
    have hs:=hs _ hlk
    refine kgo ?_
    exact aa (j+1) hjl (by omega)
   ·rw [if_neg h3] at hlk
    have hs:=hs _ hlk
    have f4:=f4 (by show nK _ _<0;omega)
    have f5:=nR (cG outer) (name (b.nodes[q]).links[j])
    have hr2:=mI (cG outer) (name (b.nodes[q]).links[j])
    refine kgo ?_
    exact aa (j+1) hjl (by omega)
  rw [show (b.nodes[q]).links.take j=(b.nodes[q]).links from List.take_of_length_le (by omega)]
  have hb:((ns.take i).map (lI b es outer place name)).length≤1000:=by rw [List.length_map,List.length_take];omega
  have hs:((ns.take (i+1)).map (lI b es outer place name)).map Nd.D=((ns.take i).map (lI b es outer place name)).map Nd.D++[Nd.D ⟨(b.nodes[q]).control,place (b.nodes[q]).parent,(b.nodes[q]).links.map (kW es outer name)⟩]:=by
   rw [List.take_succ_eq_append_getElem hlt,List.map_append,List.map_append,← hnd];rfl
  refine br (aA (aA (bt (bo ?_))))
  refine pI 10016 2 ?_
  refine kgo ?_
  exact aa (i+1) hlt (by omega)
 rw [show (pN b ns es outer place name).nodes=(ns.take i).map (lI b es outer place name) from by rw [List.take_of_length_le (by omega)];rfl]
 refine kgo ?_
 exact ik (hp:=.cons (.d rfl) (.cons (.k rfl rfl) (.cons (.d rfl) (.cons (.d rfl) (.cons (.d rfl) (.cons (.d rfl) .nil))))))
def mM (sig:List Ctl) (r a:Big) (m:Mat):Bool:=(dR r a m.nodes).2.2 && aH sig (gS r a m)
theorem yx {sig:List Ctl} {r a:Big} (m:Mat) (hbr:aH sig r=true) (hs:cA r=true) (hba:aH sig a=true) (hm:er r a m=true):FnO Tryz.prog 126 [.l 3 (sig.map Ctl.D),r.D,a.D,m.D] [6,0] (CV (zU (mM sig r a m) (gS r a m))++[.d (.b (mM sig r a m))]):=by
 obtain ⟨h1,h2,h3,h4⟩:=cW hm
 have him:=jk h1
 have oa:=dM hba
 have orr:=dM hbr
 have hrl:m.roots.length≤1000:=by have h:=kz (ns:=m.nodes) (rs:=m.roots) h2;have:=orr.roots;omega
 obtain ⟨ae,hae⟩:=Int.eq_ofNat_of_zero_le oa.edges.1
 obtain ⟨re,hre⟩:=Int.eq_ofNat_of_zero_le orr.edges.1
 have hrt:=mv h2
 have hpe:dR r a m.nodes=if decide (16<((am a m.nodes).length:Int)+r.outer.length) then ([],[],false) else (am a m.nodes,cj r.outer (am a m.nodes).length,true):=by unfold dR;rw [Aa hba]
 have f1:=mc m hbr hs hba him
 have f2:=nB m.nodes hbr hba him
 rw [h4,kr h4] at f2
 have f3:=Ea m hba
 have hps:∀l∈am a m.nodes,0≤l∧l<(ak a:Int):=fun l hl=>by
  obtain ⟨i,hi,_,rfl⟩:=bp.1 hl
  omega
 by_cases hp:((am a m.nodes).length:Int)+r.outer.length≤16
 case neg=>
  rw [if_pos (by simp;omega)] at hpe
  rw [decide_eq_false hp] at f1
  rw [show mM sig r a m=false from by unfold mM;rw [hpe];rfl]
  refine cT Tryz.func126 (fun hw W0=>?_)
  refine kgo ?_
  exact ik (hp:=.cons (.d rfl) (.cons .m (.cons .n (.cons (.d rfl) (.cons .n (.cons .n (.cons (.d rfl) .nil)))))))
 rw [if_neg (by simp;omega)] at hpe
 rw [decide_eq_true hp] at f1
 have hnl:(cj r.outer (am a m.nodes).length).length=(am a m.nodes).length:=mL (by omega)
 have hX:gS r a m=Gu r a m (am a m.nodes) (cj r.outer (am a m.nodes).length):=by
  unfold gS
  rw [hpe]
  exact (FF hbr hs hba hm hps hnl).symm
 rw [show mM sig r a m=aH sig (gS r a m) from by unfold mM;rw [hpe];rfl,hX]
 have hil:(bi r a m.nodes).length=ak r:=by unfold bi;simp
 have hix:=z7 him hbr hba (ii hs)
 have hna:ak a=ae+a.outer.length:=by unfold ak;omega
 have hnr:ak r=re+r.outer.length:=by unfold ak;omega
 have hkeep:idxOf (kK r a m.nodes) ae=iV r a m.nodes:=by unfold iV;rw [hae];rfl
 have hkl:(iV r a m.nodes).length≤ae:=by rw [← hkeep];exact fZ _ _
 have hae8:=oa.edges
 have hre8:=orr.edges
 have hlk:∀l,(0≤l∧l<a.edges+a.outer.length)→FnD Tryz.prog 203 [.i l,.p a.D,.p (DI (iV r a m.nodes))] (.d (.i (iP r a m.nodes l))):=fun l hl=>tx a (iV r a m.nodes) l ⟨hl.1,by have:=oa.outer;omega⟩ ⟨hae8.1,by omega⟩ (by omega)
 have hpl:∀p,FnD Tryz.prog 199 [.i p,.p (DI (mY a m.nodes))] (.d (.i (dP a m.nodes p))):=fun p=>tg (mY a m.nodes) p
 have hrest:∀k∈mY a m.nodes,∃q:Nat,k=q∧q<a.nodes.length∧il a m.nodes q=false:=fun k hk=>by
  obtain ⟨q,hq,hf,e⟩:=bp.1 hk
  exact ⟨q,e,hq,by simpa using hf⟩
 have hrestl:(mY a m.nodes).length≤a.nodes.length:=fZ _ _
 have f4:=E3 a (mY a m.nodes) (iV r a m.nodes) a.outer 199 202 [.p (DI (mY a m.nodes))] [.p a.D] (dP a m.nodes) (z2 a) rfl rfl (by have:=oa.nodes;omega) (by omega) (by have:=oa.outer;omega) (fun k hk=>by obtain ⟨q,e,hq,_⟩:=hrest k hk;exact ⟨q,e,hq⟩) (fun n hn=>by
  obtain ⟨i,hi,rfl⟩:=List.mem_iff_getElem.1 hn
  exact (bw hba).7 i hi) (fun k _=>hpl _) (fun k hk l hl hno=>by
  obtain ⟨q,rfl,hq,hf⟩:=hrest k hk
  rw [aB a q hq] at hl
  have hlr:=oa.links _ (List.getElem_mem hq) l hl
  refine tD a l ?_ (by omega) ⟨hae8.1,by omega⟩ (by have:=oa.outer;omega)
  obtain ⟨j,rfl⟩:=Int.eq_ofNat_of_zero_le hlr.1
  rcases Int.lt_or_le (j:Int) a.edges with hlt|hge
  ·have hkf:=BP hbr hba him h4 hq (Fk hba hq hf).1 hl
   have e1:dh (iV r a m.nodes) j=_:=fJ (f:=kK r a m.nodes) (n:=a.edges.toNat) j (by omega)
   rw [if_pos hkf] at e1
   omega
  ·omega)
 have hw1:(nC r a m.nodes).length=r.outer.length:=by unfold nC;simp
 have hw2:(nL r a m.nodes (am a m.nodes) (cj r.outer (am a m.nodes).length)).length=(am a m.nodes).length:=by unfold nL;simpa using hnl
 have hnd:=yi (a:=a) hbr m.nodes (am a m.nodes) (am a m.nodes).length
 have f5:=pC (nC r a m.nodes++nL r a m.nodes (am a m.nodes) (cj r.outer (am a m.nodes).length)) 205 (by rw [List.length_append];omega) hnd (cB Tryz.func205) tJ
 have hinl:(Gu r a m (am a m.nodes) (cj r.outer (am a m.nodes).length)).inner.length≤1000:=by
  unfold Gu
  rw [xi,List.length_append];omega
 have f6:=ox sig (Gu r a m (am a m.nodes) (cj r.outer (am a m.nodes).length)) hinl
 have hs1:∀i (h:i<r.outer.length),(nC r a m.nodes).take (i+1)=(nC r a m.nodes).take i++[⟨r.outer[i],iP r a m.nodes (atI (bi r a m.nodes) (r.edges+i))⟩]:=fun i h=>by
  rw [List.take_succ_eq_append_getElem (by omega)];unfold nC;simp
 have hP:Gu r a m (am a m.nodes) (cj r.outer (am a m.nodes).length)=⟨a.roots,(pN a (mY a m.nodes) (iV r a m.nodes) a.outer (dP a m.nodes) (z2 a)).nodes,m.roots.map (dP a m.nodes),(iV r a m.nodes).length,cG a.outer,xN (nC r a m.nodes++nL r a m.nodes (am a m.nodes) (cj r.outer (am a m.nodes).length))⟩:=rfl
 rw [hP] at f6 ⊢
 clear hP hX hpe hnd
 have hs2:∀i (h:i<(cj r.outer (am a m.nodes).length).length) (h':i<(am a m.nodes).length),(nL r a m.nodes (am a m.nodes) (cj r.outer (am a m.nodes).length)).take (i+1)=(nL r a m.nodes (am a m.nodes) (cj r.outer (am a m.nodes).length)).take i++[⟨(cj r.outer (am a m.nodes).length)[i],iP r a m.nodes (am a m.nodes)[i]⟩]:=fun i h h'=>by
  rw [List.take_succ_eq_append_getElem (by omega)];unfold nL;simp [bF _ i h']
 generalize nL r a m.nodes (am a m.nodes) (cj r.outer (am a m.nodes).length)=W2 at *
 generalize nC r a m.nodes=W1 at *
 generalize cj r.outer (am a m.nodes).length=nm at *
 generalize am a m.nodes=L at *
 generalize (pN a (mY a m.nodes) (iV r a m.nodes) a.outer (dP a m.nodes) (z2 a)).nodes=pn at *
 generalize mY a m.nodes=rest at *
 refine cT Tryz.func126 (fun hw W0=>?_)
 refine kgo ?_
 refine ai [0,5,6,7,8,10,11,13,15,48] (fun i:Nat=>i≤ae) (fun i=>ae - i) (fun i=>[(49,.sy (.d (.i i))),(10015,.tk (.bx [.k 20001])),(20001,.tk (.row 1 3 ((idxOf (kK r a m.nodes) i).map .i)))]) 0 (Nat.zero_le _) (fun i hi=>?_)
 refine kgo ?_
 refine aJ (fun h=>?_) (fun h=>?_)
 ·have hlt:i<ae:=by omega
  have f7:=fc ((bi r a m.nodes).take re) i
  have hli:=fZ (kK r a m.nodes) i
  refine kgo ?_
  refine bE (n:=re) ?_ rfl rfl (congrArg some hre)
  cases hk:fp ((bi r a m.nodes).take re) i
  ·rw [hk] at f7
   have hf:kK r a m.nodes i=true:=by unfold kK;rw [hre];show (!fp ((bi r a m.nodes).take re) i)=true;rw [hk];rfl
   have hs:(idxOf (kK r a m.nodes) (i+1)).map D.i=(idxOf (kK r a m.nodes) i).map D.i++[.i i]:=by rw [dI hf,List.map_append];rfl
   refine kgo ?_
   exact aa (i+1) hlt (by omega)
  ·rw [hk] at f7
   have hf:kK r a m.nodes i=false:=by unfold kK;rw [hre];show (!fp ((bi r a m.nodes).take re) i)=false;rw [hk];rfl
   have hs:(idxOf (kK r a m.nodes) (i+1)).map D.i=(idxOf (kK r a m.nodes) i).map D.i:=by rw [eY hf]
   refine kgo ?_
   exact aa (i+1) hlt (by omega)
 rw [show i=ae by omega,hkeep]
 refine br (aA (aA (bt (bo ?_))))
 refine pI 10015 0 ?_
 refine kgo ?_
 refine rY 17 (DI rest) ?_
 refine kgo ?_
 refine rY 6 a.D ?_
 refine kgo ?_
 refine rY 15 (DI (iV r a m.nodes)) ?_
 refine kgo ?_
 refine oH 10019 2 20002 3 ?_
 refine ai [0,5,8,10,11,13,18,19,20,78,79,31075] (fun i:Nat=>i≤m.roots.length) (fun i=>m.roots.length - i) (fun i=>[(80,.sy (.d (.i i))),(10019,.tk (.bx [.d (.i a.roots),.k 31075,.k 20002,.d (.i (iV r a m.nodes).length),.d (DS (cG a.outer)),.d (.n 2)])),(20002,.tk (.row 1 3 (((m.roots.take i).map (dP a m.nodes)).map .i)))]) 0 (Nat.zero_le _) (fun i hi=>?_)
 refine kgo ?_
 refine aJ (fun h=>?_) (fun h=>?_)
 ·have hlt:i<m.roots.length:=by omega
  have f7:=hpl m.roots[i]
  have hs:((m.roots.take (i+1)).map (dP a m.nodes)).map D.i=((m.roots.take i).map (dP a m.nodes)).map D.i++[.i (dP a m.nodes m.roots[i])]:=by rw [List.take_succ_eq_append_getElem hlt,List.map_append,List.map_append];rfl
  have hq:((m.roots.take i).map (dP a m.nodes)).length≤1000:=by rw [List.length_map,List.length_take];omega
  refine kgo ?_
  exact aa (i+1) hlt (by omega)
 rw [show m.roots.take i=m.roots from List.take_of_length_le (by omega)]
 refine kgo ?_
 refine oH 10019 5 20003 155 ?_
 refine ai [0,5,8,10,11,13,19,20,94,95,31075,20002] (fun i:Nat=>i≤r.outer.length) (fun i=>r.outer.length - i) (fun i=>[(96,.sy (.d (.i i))),(10019,.tk (.bx [.d (.i a.roots),.k 31075,.k 20002,.d (.i (iV r a m.nodes).length),.d (DS (cG a.outer)),.k 20003])),(20003,.tk (.row 2 155 ((W1.take i).map Wr.D)))]) 0 (Nat.zero_le _) (fun i hi=>?_)
 refine kgo ?_
 refine aJ (fun h=>?_) (fun h=>?_)
 ·have hlt:i<r.outer.length:=by omega
  have hx:=hix (r.edges+i) (by omega) (by omega)
  have f7:=hlk (atI (bi r a m.nodes) (r.edges+i)) ⟨hx.1,by omega⟩
  have hs:(W1.take (i+1)).map Wr.D=(W1.take i).map Wr.D++[Wr.D ⟨r.outer[i],iP r a m.nodes (atI (bi r a m.nodes) (r.edges+i))⟩]:=by rw [hs1 i hlt,List.map_append];rfl
  have hq:(W1.take i).length≤1000:=by rw [List.length_take];omega
  refine kgo ?_
  exact aa (i+1) hlt (by omega)
 rw [show W1.take i=W1 from List.take_of_length_le (by omega)]
 refine kgo ?_
 refine He 20003 (t':=.row 2 155 ((W1++W2.take 0).map Wr.D)) (by rw [List.take_zero,List.append_nil]) ?_
 refine ai [0,8,10,19,20,118,119,31075,20002] (fun i:Nat=>i≤nm.length) (fun i=>nm.length - i) (fun i=>[(120,.sy (.d (.i i))),(10019,.tk (.bx [.d (.i a.roots),.k 31075,.k 20002,.d (.i (iV r a m.nodes).length),.d (DS (cG a.outer)),.k 20003])),(20003,.tk (.row 2 155 ((W1++W2.take i).map Wr.D)))]) 0 (Nat.zero_le _) (fun i hi=>?_)
 refine kgo ?_
 refine aJ (fun h=>?_) (fun h=>?_)
 ·have hlt:i<nm.length:=by omega
  have hltL:i<L.length:=by omega
  have hx:=hps _ (List.getElem_mem hltL)
  have f7:=hlk L[i] ⟨hx.1,by omega⟩
  have hs:(W1++W2.take (i+1)).map Wr.D=(W1++W2.take i).map Wr.D++[Wr.D ⟨nm[i],iP r a m.nodes L[i]⟩]:=by rw [hs2 i hlt hltL,← List.append_assoc,List.map_append];rfl
  have hq:(W1++W2.take i).length≤1000:=by rw [List.length_append,List.length_take];omega
  refine kgo ?_
  exact aa (i+1) hlt (by omega)
 rw [show W2.take i=W2 from List.take_of_length_le (by omega)]
 refine br (aA (aA (bt (bo ?_))))
 refine pI 10019 1 ?_
 refine pI 10019 2 ?_
 refine dY (dq ?_)
 refine bH ?_
 refine aM ?_
 refine aQ ?_
 refine dB (bo ?_)
 refine pI 10019 5 ?_
 refine kgo ?_
  --STOP
 exact ik (hp:=.cons (.d rfl) (.cons (.k rfl rfl) (.cons (.k rfl rfl) (.cons (.d rfl) (.cons (.k rfl rfl) (.cons (.k rfl rfl) (.cons (.d rfl) .nil)))))))
end Go.Proofs.YtnobdioccfeokaaGreatDoor
namespace Go.Proofs.YtnobdioccfeokaaGreatDoor
open Go.RowKit
set_option linter.unusedVariables false
set_option linter.unusedSimpArgs false
set_option maxRecDepth 100000
set_option maxHeartbeats 4000000
section
variable {P:Program} {ops:Array Oper} {W0:cz} {N:Nat} {Fin:Us→Env→Prop} {os:List Oper} {us:Us} {pk fk:List Nat} {σ:Env} {g:Option (Nat × Bool)} {gk:List Nat} {d ty ty' f:Nat} {pos:String} {after:Array Edge} {at':Array TypeId} {xs:List Operand} {ds:List D}
theorem GH {sh:List Nat} {ps:List Pt} (h:Der P ops W0 N Fin os (us++[((d :: (gk++(((List.range ps.length).map fun k=>30000+1000 * k+d)++kxs xs)))++pk,(d :: (nE d 0 ps).map Prod.fst)++fk)]) [] [] ((d,.sy (FT (EC sh (C2 d 0 ps)))) :: (nE d 0 ps++σ))) (hx:G7 σ xs=some ds:=by rfl) (hf:FnO P f ds sh ps:=by assumption) (hi:((List.range ps.length).all fun k=>(al σ (30000+1000 * k+d)).isNone)=true:=by rfl) (hg:gst ops σ g=some (true,gk):=by rfl) (hN:Nat.blt d N=true:=by rfl) (hs:aF (nE d 0 ps++σ) d=true:=by rfl) (hu:(nE d 0 ps).all (fun p=>!(Nat.beq p.1 d))=true:=by rfl):Der P ops W0 N Fin (⟨some d,.call { callee:=.value (.func f),args:=xs.toArray,argTypes:=at' },ty,pos,after,g⟩ :: os) us pk fk σ:=
 jy (FT (EC sh (C2 d 0 ps))) (((List.range ps.length).map fun k=>30000+1000 * k+d)++kxs xs) (nE d 0 ps) (fun σ' c a w hk hc=>by
  unfold Oper.wp
  rw [cw hf.enter rfl]
  refine (hf.calls c.F w _ (q9 hc xs ds hx (fun κ hκ=>hk κ (by simp [hκ]))) hc.lt).mono ?_
  rintro e' w' ⟨vs,T,rfl,hX,hl,hT,hdis,hel⟩
  have hc1:=hc.grow hX (fun b=>fresh w w' c.F b∧∀j,¬T j b) (fun b hb=>⟨.inl hb,fun j e=>by have:=hc.lt b hb;have e2:w.heap.size≤b:=(hT j b e).1;omega⟩) (fun _ h=>h.1.imp id (fun h=>h.1)) (fun b hb=>hb.1.elim (fun h'=>Nat.lt_of_lt_of_le (hc.lt b h') (Below.size hX)) (fun h=>h.2))
  obtain ⟨c',h1,h2,h3,h4,h5⟩:=oz hc1 d w.heap.size T hc.ext.size (fun j u hj b hb=>((hc.tok j u hj).2.2 b hb).2.1) (fun i b hb=>⟨fun hF=>hF.2 i hb,hT i b hb⟩) hdis ps 0 vs (fun k=>by
   rcases Nat.lt_or_ge k ps.length with hk'|hk'
   ·left
    rw [Nat.zero_add,hk _ (List.mem_append_left _ (List.mem_map.2 ⟨k,List.mem_range.2 hk',rfl⟩))]
    have:=List.all_eq_true.1 hi k (List.mem_range.2 hk')
    simpa using this
   ·exact .inr hk') hl (fun k p hp=>by rw [Nat.zero_add];exact hel k p hp)
  exact ⟨_,c',rfl,h1,vc _ _ (Cg sh _ _ h5)⟩) h hg hN hs hu
end
theorem FnO.arg {P:Program} {f:Nat} {ds ds':List D} {sh:List Nat} {ps:List Pt} (h:FnO P f ds sh ps) (hd:∀w F vs,DVs w F ds' vs→DVs w F ds vs):FnO P f ds' sh ps:=⟨h.enter,fun F w vs hv hF=>h.calls F w vs (hd _ _ _ hv) hF⟩
attribute [local irreducible] ar Der At
theorem o5 (r a:Big) (m:Mat) (p:Int):FnD Tryz.prog 207 [.i p,.p (DI (bz a m.nodes)),.p r.D,.p m.D] (.d (.i (sU r a m.nodes p))):=by
 have f1:=iv (bz a m.nodes) p
 have f2:=iv m.nodes p
 have f3:=iv r.sites (nK (fun x=>x == p) m.nodes)
 have h1:=eh (fun x=>x == p) (bz a m.nodes)
 have h2:=eh (fun x=>x == nK (fun x=>x == p) m.nodes) r.sites
 have hE:sU r a m.nodes p=if 0≤nK (fun x=>x == p) (bz a m.nodes) then nK (fun x=>x == p) (bz a m.nodes) else -1 - nK (fun x=>x == nK (fun x=>x == p) m.nodes) r.sites:=rfl
 refine af Tryz.func207 (fun hw W0=>?_)
 have hsl:=(wfM hw.2.2.1.2.2.1).1
 unfold maxLen at hsl
 refine kgo ?_
 refine aJ (fun h=>?_) (fun h=>?_)
 ·rw [if_pos h] at hE
  rw [hE]
  refine kgo ?_
  exact aj
 ·rw [if_neg h] at hE
  rw [hE]
  refine kgo ?_
  exact aj
theorem ov (L:List Int) (nm:List ByteArray) (l:Int) (j:Nat) (hj:nK (fun x=>x == l) L=j) (hl:j<nm.length):FnD Tryz.prog 208 [.i l,.p (DS nm),.p (DI L)] (.d (.s nm[j])):=by
 have f1:=iv L l
 rw [hj] at f1
 refine af Tryz.func208 (fun hw W0=>?_)
 refine kgo ?_
 exact aj
def mR (sig:List Ctl) (r a:Big) (m:Mat):Bool:=(dR r a m.nodes).2.2 && aH sig (gj r a m)
theorem sV {sig:List Ctl} {r a:Big} (m:Mat) (hbr:aH sig r=true) (hs:cA r=true) (hba:aH sig a=true) (hm:er r a m=true):FnO Tryz.prog 127 [.l 3 (sig.map Ctl.D),r.D,a.D,m.D] [6,0] (CV (zU (mR sig r a m) (gj r a m))++[.d (.b (mR sig r a m))]):=by
 have him:=jk (cW hm).1
 have oa:=dM hba
 have orr:=dM hbr
 have hpe:dR r a m.nodes=if decide (16<((am a m.nodes).length:Int)+r.outer.length) then ([],[],false) else (am a m.nodes,cj r.outer (am a m.nodes).length,true):=by unfold dR;rw [Aa hba]
 have f1:=mc m hbr hs hba him
 have f3:=lO m hba
 by_cases hp:((am a m.nodes).length:Int)+r.outer.length≤16
 case neg=>
  rw [if_pos (by simp;omega)] at hpe
  rw [decide_eq_false hp] at f1
  rw [show mR sig r a m=false from by unfold mR;rw [hpe];rfl]
  refine cT Tryz.func127 (fun hw W0=>?_)
  refine kgo ?_
  exact ik (hp:=.cons (.d rfl) (.cons .m (.cons .n (.cons (.d rfl) (.cons .n (.cons .n (.cons (.d rfl) .nil)))))))
 rw [if_neg (by simp;omega)] at hpe
 rw [decide_eq_true hp] at f1
 have hnl:(cj r.outer (am a m.nodes).length).length=(am a m.nodes).length:=mL (by omega)
 have hX:gj r a m=Hp r a m (am a m.nodes) (cj r.outer (am a m.nodes).length):=by
  unfold gj
  rw [hpe]
  exact (F4 hbr hba hm _ (qm _ _) hnl).symm
 rw [show mR sig r a m=aH sig (gj r a m) from by unfold mR;rw [hpe];rfl,hX]
 have hpar:∀k∈bz a m.nodes,∃q:Nat,k=q∧q<a.nodes.length∧mH a m.nodes q=true:=fun k hk=>gW hk
 have hparl:(bz a m.nodes).length≤a.nodes.length:=fZ _ _
 have hinc:(am a m.nodes).Pairwise (· < ·):=gN _ _
 have f4:=(E3 a (bz a m.nodes) [] (cj r.outer (am a m.nodes).length) 207 208 [.p (DI (bz a m.nodes)),.p r.D,.p m.D] [.p (DS (cj r.outer (am a m.nodes).length)),.p (DI (am a m.nodes))] (sU r a m.nodes) (ux (am a m.nodes) (cj r.outer (am a m.nodes).length)) rfl rfl (by have:=oa.nodes;omega) (by simp) (by omega) (fun k hk=>by obtain ⟨q,e,hq,_⟩:=hpar k hk;exact ⟨q,e,hq⟩) (fun n hn=>by
  obtain ⟨i,hi,rfl⟩:=List.mem_iff_getElem.1 hn
  exact (bw hba).7 i hi) (fun k _=>o5 r a m _) (fun k hk l hl _=>by
  obtain ⟨q,rfl,hq,hf⟩:=hpar k hk
  rw [aB a q hq] at hl
  obtain ⟨l,rfl,hll⟩:=iC ((e9 hba q hq).2.2.2.2 _ hl)
  have hpl:(l:Int)∈am a m.nodes:=bp.2 ⟨l,hll,List.any_eq_true.2 ⟨q,bp.2 ⟨q,hq,hf,rfl⟩,by rw [aB a q hq];exact cO.2 hl⟩,rfl⟩
  obtain ⟨e,he,e1⟩:=List.mem_iff_getElem.1 hpl
  have hie:=uY hinc e he
  rw [e1] at hie
  have hf2:=ov (am a m.nodes) (cj r.outer (am a m.nodes).length) l e hie (by omega)
  unfold ux
  rw [hie,Int.toNat_natCast,List.getD_eq_getElem?_getD,List.getElem?_eq_getElem (by omega)]
  exact hf2)).arg (ds':=[a.D,DI (bz a m.nodes),.n 1,DS (cj r.outer (am a m.nodes).length),.f 207 [.p (DI (bz a m.nodes)),.p r.D,.p m.D],.f 208 [.p (DS (cj r.outer (am a m.nodes).length)),.p (DI (am a m.nodes))]]) (fun w F vs h=>by
  obtain ⟨v1,t1,rfl,h1,v2,t2,rfl,h2,v3,t3,rfl,h3,h4⟩:=h
  exact ⟨_,_,rfl,h1,_,_,rfl,h2,_,_,rfl,Cp h3,h4⟩)
 have f6:=ox sig (Hp r a m (am a m.nodes) (cj r.outer (am a m.nodes).length)) (Nat.zero_le _)
 have hP:Hp r a m (am a m.nodes) (cj r.outer (am a m.nodes).length)=⟨r.sites.length,(pN a (bz a m.nodes) [] (cj r.outer (am a m.nodes).length) (sU r a m.nodes) (ux (am a m.nodes) (cj r.outer (am a m.nodes).length))).nodes,[],0,cG (cj r.outer (am a m.nodes).length),[]⟩:=rfl
 rw [hP] at f6 ⊢
 clear hP hX hpe
 generalize hpn:(pN a (bz a m.nodes) [] (cj r.outer (am a m.nodes).length) (sU r a m.nodes) (ux (am a m.nodes) (cj r.outer (am a m.nodes).length))).nodes=pn at *
 generalize cj r.outer (am a m.nodes).length=nm at *
 generalize am a m.nodes=L at *
 refine cT Tryz.func127 (fun hw W0=>?_)
 refine kgo ?_
 refine rY 13 (DI (bz a m.nodes)) ?_
 refine rY 5 r.D ?_
 refine rY 7 m.D ?_
 refine kgo ?_
 refine rY 11 (DS nm) ?_
 refine rY 10 (DI L) ?_
 refine kgo ?_
 refine GH (hf:=f4) ?_
 refine aO ?_
 refine au ?_
 refine dB (bo ?_)
 refine pI 10014 1 ?_
 refine kgo ?_
 exact ik (hp:=.cons (.d rfl) (.cons (.k rfl rfl) (.cons (.k rfl rfl) (.cons (.d rfl) (.cons (.k rfl rfl) (.cons (.k rfl rfl) (.cons (.d rfl) .nil)))))))
end Go.Proofs.YtnobdioccfeokaaGreatDoor
namespace Go.Proofs.YtnobdioccfeokaaGreatDoor
open Go.RowKit
set_option linter.unusedVariables false
set_option linter.unusedSimpArgs false
set_option maxRecDepth 100000
set_option maxHeartbeats 4000000
attribute [local irreducible] ar Der At
def mpL (f:Nat→Bool) (root v0 base:Int):Nat→List (Int × Int)
 | 0=>[(root,v0)]
 | k+1=>if f k then mpL f root v0 base k++[((k:Int),base+(idxOf f k).length)] else mpL f root v0 base k
theorem B4 (f:Nat→Bool) (root v0 base:Int) (hr:root<0):∀(k:Nat) (x:Int),nS (mpL f root v0 base k) x=if x<0 then (if x=root then some v0 else none) else if x<k && f x.toNat then some (base+(idxOf f x.toNat).length) else none:=by
 intro k
 induction k with
 | zero=>
  intro x
  unfold mpL nS nS
  by_cases hx:x<0
  ·rw [if_pos hx]
  ·rw [if_neg hx,if_neg (by omega),if_neg (by simp;omega)]
 | succ k ih=>
  intro x
  unfold mpL
  by_cases hf:f k=true
  ·rw [if_pos hf,C8,ih]
   by_cases hx:x<0
   ·rw [if_pos hx,if_pos hx,if_neg (show ¬x=(k:Int) by omega)]
    by_cases h:x=root
    ·rw [if_pos h];rfl
    ·rw [if_neg h];rfl
   ·rw [if_neg hx,if_neg hx]
    by_cases hk:x=(k:Int)
    ·subst hk
     rw [if_pos rfl,if_neg (by simp),if_pos (by simp [hf];omega)];rfl
    ·rw [if_neg hk]
     by_cases hl:x<k
     ·rw [decide_eq_true hl,decide_eq_true (show x<((k+1:Nat):Int) by omega)]
      cases f x.toNat <;> rfl
     ·rw [decide_eq_false hl,decide_eq_false (show ¬x<((k+1:Nat):Int) by omega)];rfl
  ·rw [if_neg hf,ih]
   by_cases hx:x<0
   ·rw [if_pos hx,if_pos hx]
   ·rw [if_neg hx,if_neg hx]
    by_cases hk:x=(k:Int)
    ·subst hk
     rw [if_neg (by simp),if_neg (by simp [hf])]
    ·by_cases hl:x<k
     ·rw [decide_eq_true hl,decide_eq_true (show x<((k+1:Nat):Int) by omega)]
     ·rw [decide_eq_false hl,decide_eq_false (show ¬x<((k+1:Nat):Int) by omega)]
theorem ua {sig:List Ctl} (r:Rul) {p:Big} (hp:aH sig p=true) (hc:r.copies.length≤100) (hc0:∀c∈r.copies,0≤c∧c≤1000):FnD Tryz.prog 129 [r.D,p.D] (.d (mr r.copies p).D):=by
 have hd:=bl hp
 have hdm:=bw hp
 have f1:=nT p.outer (by omega)
 refine af Tryz.func129 (fun hw W0=>?_)
 refine kgo ?_
 refine oH 10005 1 20001 153 ?_
 refine ai [3,4,5,21,22,10018] (fun i:Nat=>i≤r.copies.length) (fun i=>r.copies.length - i) (fun i=>[(23,.sy (.d (.i i))),(10005,.tk (.bx [.d (.i r.copies.length),.k 20001,.d (.n 1),.d (.i 0),.k 10018,.d (.n 2)])),(20001,.tk (.row 3 153 ((dA p r.copies i).map Nd.D)))]) 0 (Nat.zero_le _) (fun i hi=>?_)
 refine kgo ?_
 refine aJ (fun h=>?_) (fun h=>?_)
 ·have hlt:i<r.copies.length:=by omega
  have hci:=hc0 _ (List.getElem_mem hlt)
  have hil:=sq p r.copies i
  have hb1:i * p.nodes.length≤100 * 8:=Nat.mul_le_mul (by omega) hd.2.1
  have hil2:(dA p r.copies i).length≤800:=by omega
  have hnext:dA p r.copies (i+1)=dA p r.copies i++(pK p (-1 - r.copies[i])).map (dO p (pK p (-1 - r.copies[i])) i (dA p r.copies i).length):=by rw [← bF r.copies i hlt];rfl
  refine kgo ?_
  refine FD ?_
  refine kgo ?_
  refine FM ?_ rfl
  have hul:(pK p (-1 - r.copies[i])).length≤p.nodes.length:=dz _ _
  have hix:∀q:Nat,q<p.nodes.length→iK p (-1 - r.copies[i]) q=true→dh (pK p (-1 - r.copies[i])) (q:Int)=((idxOf (iK p (-1 - r.copies[i])) q).length:Int):=fun q hq hf=>by
   have:=fJ (f:=iK p (-1 - r.copies[i])) (n:=p.nodes.length) q hq
   rw [if_pos hf] at this
   exact this
  have hall:idxOf (iK p (-1 - r.copies[i])) p.nodes.length=pK p (-1 - r.copies[i]):=rfl
  obtain ⟨root,hroot⟩:∃root,root = -1 - r.copies[i]:=⟨_,rfl⟩
  rw [← hroot] at hnext hul hix hall ⊢
  generalize hba:(dA p r.copies i).length=base at *
  generalize pK p root=lst at *
  refine kgo ?_
  refine He 20001 (t':=.row 3 153 ((dA p r.copies i++(idxOf (iK p root) 0).map (dO p lst i base)).map Nd.D)) (by rw [show idxOf (iK p root) 0 = [] from rfl,List.map_nil,List.append_nil]) ?_
  refine ai [3,4,5,8,21,22,23,35,36,20001,10018] (fun k:Nat=>k≤p.nodes.length) (fun k=>p.nodes.length - k) (fun k=>[(37,.sy (.d (.i k))),(10005,.tk (.bx [.d (.i r.copies.length),.k 20001,.d (.n 1),.d (.i 0),.k 10018,.d (.n 2)])),(20001,.tk (.row 3 153 ((dA p r.copies i++(idxOf (iK p root) k).map (dO p lst i base)).map Nd.D))),(10028,.tk (.mp (mpL (iK p root) root (-1 - (i:Int)) base k)))]) 0 (Nat.zero_le _) (fun k hk=>?_)
  refine kgo ?_
  refine aJ (fun h2=>?_) (fun h2=>?_)
  ·have hkl:k<p.nodes.length:=by omega
   have hup:=iE hp k hkl
   have hund:=n8 p root k hkl
   have hnd:dF p k=p.nodes[k]:=aB p k hkl
   have hg:=B4 (iK p root) root (-1 - (i:Int)) base (by omega) k (p.nodes[k]).parent
   have hgk:=B4 (iK p root) root (-1 - (i:Int)) base (by omega) k k
   rw [if_neg (by omega),if_neg (by simp)] at hgk
   have hlk:=fZ (iK p root) k
   have hq:∀q:Nat,(p.nodes[k]).parent=(q:Int)→iK p root q=iK p root k:=fun q e=>by
    rw [hund,e,o9 hp q (by omega),n8 p root q (by omega)]
   cases hf:iK p root k
   ·have ho:nS (mpL (iK p root) root (-1 - (i:Int)) base k) (p.nodes[k]).parent=none:=by
     rw [hg]
     by_cases h0:(p.nodes[k]).parent<0
     ·rw [if_pos h0]
      rw [hf,nM p h0] at hund
      exact if_neg (of_decide_eq_false hund.symm)
     ·rw [if_neg h0]
      obtain ⟨q,e⟩:=Int.eq_ofNat_of_zero_le (show 0≤(p.nodes[k]).parent by omega)
      rw [e,Int.toNat_natCast,hq q e,hf,Bool.and_false];rfl
    have hm2:mpL (iK p root) root (-1 - (i:Int)) base (k+1)=mpL (iK p root) root (-1 - (i:Int)) base k:=if_neg (by rw [hf];exact Bool.false_ne_true)
    have hs:(dA p r.copies i++(idxOf (iK p root) (k+1)).map (dO p lst i base)).map Nd.D=(dA p r.copies i++(idxOf (iK p root) k).map (dO p lst i base)).map Nd.D:=by rw [eY hf]
    refine kgo ?_
    refine Bf none ho ?_ (fun v h=>by cases h)
    refine kgo ?_
    rw [← hm2]
    exact aa (k+1) hkl (by omega)
   ·have ho:nS (mpL (iK p root) root (-1 - (i:Int)) base k) (p.nodes[k]).parent=some (dO p lst i base k).parent:=by
     rw [hg]
     show _=some (if (dF p k).parent<0 then -1 - (i:Int) else (base:Int)+dh lst (dF p k).parent)
     rw [hnd]
     by_cases h0:(p.nodes[k]).parent<0
     ·rw [if_pos h0,if_pos h0]
      rw [hf,nM p h0] at hund
      exact if_pos (of_decide_eq_true hund.symm)
     ·rw [if_neg h0,if_neg h0]
      obtain ⟨q,e⟩:=Int.eq_ofNat_of_zero_le (show 0≤(p.nodes[k]).parent by omega)
      rw [e,Int.toNat_natCast,hq q e,hf,Bool.and_true,if_pos (by simp;omega),hix q (by omega) ((hq q e).trans hf)]
    have hvb:I64 (dO p lst i base k).parent:=by
     show I64 (if (dF p k).parent<0 then -1 - (i:Int) else (base:Int)+dh lst (dF p k).parent)
     rw [hnd]
     by_cases h0:(p.nodes[k]).parent<0
     ·rw [if_pos h0];unfold I64;omega
     ·rw [if_neg h0]
      obtain ⟨q,e⟩:=Int.eq_ofNat_of_zero_le (show 0≤(p.nodes[k]).parent by omega)
      have:=fZ (iK p root) q
      rw [e,hix q (by omega) ((hq q e).trans hf)];unfold I64;omega
    have hm2:mpL (iK p root) root (-1 - (i:Int)) base (k+1)=mpL (iK p root) root (-1 - (i:Int)) base k++[((k:Int),(base:Int)+(idxOf (iK p root) k).length)]:=if_pos hf
    have hlen:((((dA p r.copies i++(idxOf (iK p root) k).map (dO p lst i base)).map Nd.D).length:Nat):Int)=(base:Int)+(idxOf (iK p root) k).length:=by rw [List.length_map,List.length_append,List.length_map,hba];omega
    have hlen2:(dA p r.copies i++(idxOf (iK p root) k).map (dO p lst i base)).length≤1000:=by rw [List.length_append,List.length_map,hba];omega
    have hs:(dA p r.copies i++(idxOf (iK p root) (k+1)).map (dO p lst i base)).map Nd.D=(dA p r.copies i++(idxOf (iK p root) k).map (dO p lst i base)).map Nd.D++[Nd.D ⟨(p.nodes[k]).control,(dO p lst i base k).parent,(p.nodes[k]).links⟩]:=by
     rw [dI hf]
     simp only [List.map_append,List.append_assoc,List.map_cons,List.map_nil]
     rw [← hnd];rfl
    have f2:=kB (p.nodes[k]).links (hdm.7 k hkl)
    refine kgo ?_
    refine Bf (some (dO p lst i base k).parent) ho ?_ (fun v h=>by cases h;exact hvb)
    refine kgo ?_
    refine Fx ?_ hgk
    rw [hlen,← hm2]
    repeat (first|(refine ca ?_;first|refine aM ?_|refine b6 ?_|refine aR ?_|refine bh ?_|refine aL ?_|refine bg ?_|refine aX ?_|refine az ?_|refine aV ?_)|(refine eG ?_;first|refine bH ?_|refine eC ?_|refine bP ?_|refine cb ?_)|(refine eT ?_;first|refine cS (fun _=>?_)|refine cd ?_|refine bR ?_|refine b9 ?_|refine bu ?_|refine bJ ?_|refine b8 ?_)|(refine eR ?_;first|refine ch ?_|refine d7 ?_|refine b7 ?_|refine bD ?_|refine bN ?_|refine bX ?_|refine bS ?_)|(refine eK ?_;first|refine eF ?_|refine eA ?_|refine bU ?_|refine bG ?_|refine eH ?_|refine bd ?_|refine bc ?_)|(refine bV ?_;first|refine ba ?_|refine bT ?_)|(refine eV ?_;first|refine bI ?_|refine bQ ?_|refine eJ ?_)|(refine bL ?_;first|refine bO ?_|refine aS ?_|refine aN ?_|refine aW ?_|refine aQ ?_|refine aY ?_)|(refine eE ?_;first|refine bZ ?_|refine eB ?_|refine be ?_|refine aP ?_|refine aU ?_)|(refine aK ?_;first|refine aq _ ?_|refine bf ?_|refine aw ?_|refine au ?_|refine ax ?_)|(refine eP ?_;first|refine bW ?_|refine bE ?_|refine bM ?_)|(refine gOp ?_;first|refine eD ?_|refine eM ?_|refine aZ ?_|refine eU ?_|refine eN ?_|refine bK ?_|refine aO ?_|refine cf ?_|refine eO ?_|refine bC ?_|refine bY ?_|refine aT ?_|refine sFz 63 ?_|refine ay ?_|refine cg ?_|refine sNo ?_|refine dU ?_|refine av ?_)|refine dY ?_|refine dq ?_|refine fj ?_|refine bj ?_|refine ci ?_|refine br ?_|refine fm ?_|refine fl ?_|refine eX ?_|refine dB ?_|refine ck ?_|refine bo ?_|refine aA ?_|refine bk ?_|refine ct ?_|refine bt ?_|refine aBlkX ?_|refine cm ?_|refine sFz 63 ?_)
    exact aa (k+1) hkl (by omega)
  have hs4:(dA p r.copies i++(idxOf (iK p root) k).map (dO p lst i base)).map Nd.D=(dA p r.copies (i+1)).map Nd.D:=by rw [hnext,show k=p.nodes.length by omega,hall]
  refine kgo ?_
  exact aa (i+1) hlt (by omega)
 rw [show i=r.copies.length by omega]
 refine br (aA (aA (bt (bo ?_))))
 refine pI 10005 1 ?_
 refine pI 10005 4 ?_
 refine kgo ?_
 exact aj
end Go.Proofs.YtnobdioccfeokaaGreatDoor
namespace Go.Proofs.YtnobdioccfeokaaGreatDoor
open Go.RowKit
set_option linter.unusedVariables false
set_option linter.unusedSimpArgs false
set_option maxRecDepth 100000
set_option maxHeartbeats 4000000
attribute [local irreducible] ar Der At
theorem CY (b:Big) (l:Int) (hn:b.nodes.length≤1000) (hl:∀i (h:i<b.nodes.length),(b.nodes[i]).links.length≤1000) (hin:b.inner.length≤1000):FnD Tryz.prog 232 [b.D,.i l] (.d (.b (pU b l))):=by
 have f1:=ky b l hn hl hin
 have hp:=di b l hn hl
 have he:(nF b l).length≤1000:=Nat.le_trans (kv b l _) hin
 refine af Tryz.func232 (fun hw W0=>?_)
 have hi:pU b l=decide (((aD b l).length:Int)+(nF b l).length=0):=by
  unfold pU
  cases aD b l <;> cases nF b l <;> simp <;> omega
 rw [hi]
 refine kgo ?_
 exact aj
theorem Cf (b:Big) (d:wy b) (hin:b.inner.length≤1000):FnD Tryz.prog 170 [b.D] (.d (.b (cA b))):=by
 have hr:=bB d.roots
 have he:=bB d.edges
 have hnn:=d.nodes
 have hoo:=d.outer
 refine af Tryz.func170 (fun hw W0=>?_)
 have hsb:cA b=((decide (b.inner.length=0) && !(decide (b.roots=0))) && ((List.range (b.roots.toNat+b.nodes.length)).all (fM b) && (List.range (ak b)).all (dH b))):=by unfold cA;rw [vX b hr.1];simp only [Bool.and_assoc]
 refine kgo ?_
 cases h1:decide ((b.inner.length:Int) > 0)
 rotate_left
 ·rw [show cA b=false by rw [hsb,show decide (b.inner.length=0)=false from decide_eq_false (by have:=of_decide_eq_true h1;omega)];rfl]
  refine kgo ?_
  exact aj
 have h1:=of_decide_eq_false h1
 rw [show decide (b.inner.length=0)=true from decide_eq_true (by omega),Bool.true_and] at hsb
 refine kgo ?_
 cases h2:decide (b.roots=0)
 rotate_left
 ·rw [show cA b=false by rw [hsb,h2];rfl]
  refine kgo ?_
  exact aj
 rw [h2,Bool.not_false,Bool.true_and] at hsb
 have h2:=of_decide_eq_false h2
 refine kgo ?_
 refine ai [1] (fun x:Int=>-b.roots≤x∧x≤b.nodes.length∧(List.range (x+b.roots).toNat).all (fM b)=true) (fun x=>(b.nodes.length - x).toNat) (fun x=>[(3,.sy (.d (.i x)))]) (-b.roots) ⟨Int.le_refl _,by omega,by rw [show (-b.roots+b.roots).toNat=0 by omega];rfl⟩ (fun x hx=>?_)
 obtain ⟨x1,x2,x3⟩:=hx
 refine kgo ?_
 refine aJ (fun h=>?_) (fun h=>?_)
 ·have f1:=iy b x d.nodes d.sites
  have hkl:(dJ b x).length≤1000:=Nat.le_trans (dz _ _) hnn
  have hpl:fM b (x+b.roots).toNat=if x<0 then (!(decide ((dJ b x).length=0)) && decide ((cC b x).length=0)) else decide ((cC b x).length≤1):=by
   unfold fM
   rw [show -b.roots+((x+b.roots).toNat:Int)=x by omega]
   split
   ·unfold i4
    rw [show -1 - (((-1 - x).toNat:Nat):Int)=x by omega]
   ·unfold dV
    rw [show ((x.toNat:Nat):Int)=x by omega]
  have hbad:fM b (x+b.roots).toNat=false→cA b=false:=fun e=>by rw [hsb,aG _ _ (x+b.roots).toNat (by omega) e];rfl
  have hgood:fM b (x+b.roots).toNat=true→(List.range (x+1+b.roots).toNat).all (fM b)=true:=fun e=>by rw [show (x+1+b.roots).toNat=(x+b.roots).toNat+1 by omega,cL,x3,e];rfl
  generalize dJ b x=ks at *
  generalize cC b x=hs at *
  refine kgo ?_
  cases h3:decide (x<0)
  ·have h3:=of_decide_eq_false h3
   rw [if_neg h3] at hpl
   refine kgo ?_
   (repeat refine dU ?_)
   refine kgo ?_
   refine aJ (fun h4=>?_) (fun h4=>?_)
   ·rw [hbad (by rw [hpl];exact decide_eq_false (by omega))]
    refine kgo ?_
    exact aj
   refine kgo ?_
   exact aa (x+1) ⟨by omega,by omega,hgood (by rw [hpl];exact decide_eq_true (by omega))⟩ (by omega)
  have h3:=of_decide_eq_true h3
  rw [if_pos h3] at hpl
  refine kgo ?_
  cases h4:decide ((ks.length:Int)=0)
  rotate_left
  ·rw [show decide (ks.length=0)=true from decide_eq_true (by have:=of_decide_eq_true h4;omega)] at hpl
   rw [hbad (by rw [hpl];rfl)]
   refine kgo ?_
   exact aj
  rw [show decide (ks.length=0)=false from decide_eq_false (by have:=of_decide_eq_false h4;omega)] at hpl
  refine kgo ?_
  cases h5:decide ((hs.length:Int) > 0)
  rotate_left
  ·rw [hbad (by rw [hpl,show decide (hs.length=0)=false from decide_eq_false (by have:=of_decide_eq_true h5;omega)];rfl)]
   refine kgo ?_
   exact aj
  have h5:=of_decide_eq_false h5
  refine kgo ?_
  refine aJ (fun h6=>?_) (fun h6=>?_)
  ·omega
  refine kgo ?_
  exact aa (x+1) ⟨by omega,by omega,hgood (by rw [hpl,show decide (hs.length=0)=true from decide_eq_true (by omega)];rfl)⟩ (by omega)
 rw [show (x+b.roots).toNat=b.roots.toNat+b.nodes.length by omega] at x3
 rw [x3,Bool.true_and] at hsb
 rw [hsb]
 have hln:((ak b:Nat):Int)=b.edges+b.outer.length:=by unfold ak;omega
 refine kgo ?_
 refine ai [1,54] (fun i:Nat=>i≤ak b∧(List.range i).all (dH b)=true) (fun i=>ak b - i) (fun i=>[(55,.sy (.d (.i i)))]) 0 ⟨Nat.zero_le _,rfl⟩ (fun i hx=>?_)
 obtain ⟨hi,hal⟩:=hx
 refine kgo ?_
 refine aJ (fun h=>?_) (fun h=>?_)
 ·have f2:=CY b i d.nodes d.links hin
  refine kgo ?_
  refine cIf (fun h2=>?_) (fun h2=>?_)
  ·rw [aG _ _ i (by omega) (by unfold dH;rw [h2];rfl)]
   refine kgo ?_
   exact aj
  refine kgo ?_
  exact aa (i+1) ⟨by omega,by rw [cL,hal];unfold dH;rw [h2];rfl⟩ (by omega)
 rw [show ak b=i by omega,hal]
 refine kgo ?_
 exact aj
theorem Dn (sig:List Ctl) (a b:Big) (ha:a.inner.length≤1048576) (hb:b.inner.length≤1048576):FnD Tryz.prog 169 [.l 3 (sig.map Ctl.D),a.D,b.D] (.d (.b (aH sig a && aH sig b))):=by
 have f1:=dW sig a ha
 have f2:=dW sig b hb
 refine af Tryz.func169 (fun hw W0=>?_)
 refine kgo ?_
 cases h1:aH sig a
 ·refine kgo ?_
  exact aj
 refine kgo ?_
 exact aj
theorem Ch (r:Rul) (x:Int) (h:r.redex.sites.length≤1000):FnD Tryz.prog 172 [.i x,.p r.D] (.d (.b (!gA r x))):=by
 have f1:=dC x 0 ((r.redex.sites.length:Int) - 1)
 refine af Tryz.func172 (fun hw W0=>?_)
 refine kgo ?_
 exact aj
theorem EF (sig:List Ctl) (r:Rul) (h1:r.redex.inner.length≤1048576) (h2:r.reactum.inner.length≤1048576):FnD Tryz.prog 114 [.l 3 (sig.map Ctl.D),r.D] (.d (.b (g9 sig r))):=by
 have f1:=Dn sig r.redex r.reactum h1 h2
 have f3:=xl r.redex.outer r.reactum.outer
 refine af Tryz.func114 (fun hw W0=>?_)
 unfold g9
 refine dY ?_
 refine dq ?_
 refine CU ?_
 refine dB (bo ?_)
 refine BW 3 r.D ?_
 refine kgo ?_
 cases e1:aH sig r.redex
 ·rw [e1] at f1
  refine kgo ?_
  exact aj
 cases e2:aH sig r.reactum
 ·rw [e1,e2] at f1
  refine kgo ?_
  exact aj
 rw [e1,e2] at f1
 have g1:=bl e1
 have g2:=bl e2
 have f2:=Cf r.redex (bw e1) (by omega)
 refine kgo ?_
 cases e3:cA r.redex
 ·refine kgo ?_
  (repeat refine dU ?_)
  refine kgo ?_
  exact aj
 refine kgo ?_
 cases e4:decide ((r.reactum.inner.length:Int) > 0)
 rotate_left
 ·rw [show decide (r.reactum.inner.length=0)=false from decide_eq_false (by have:=of_decide_eq_true e4;omega)]
  refine kgo ?_
  (repeat refine dU ?_)
  refine kgo ?_
  exact aj
 rw [show decide (r.reactum.inner.length=0)=true from decide_eq_true (by have:=of_decide_eq_false e4;omega)]
 refine kgo ?_
 cases e5:decide (r.redex.roots=r.reactum.roots)
 ·refine kgo ?_
  (repeat refine dU ?_)
  refine kgo ?_
  exact aj
 refine kgo ?_
 cases e6:eqS r.redex.outer r.reactum.outer
 ·refine kgo ?_
  exact aj
 refine kgo ?_
 cases e7:decide ((r.copies.length:Int)=r.reactum.sites.length)
 ·rw [show decide (r.copies.length=r.reactum.sites.length)=false from decide_eq_false (by have:=of_decide_eq_false e7;omega)]
  refine kgo ?_
  exact aj
 rw [show decide (r.copies.length=r.reactum.sites.length)=true from decide_eq_true (by have:=of_decide_eq_true e7;omega)]
 have f4:=cF r.copies 172 [.p r.D] (fun x=>!gA r x) rfl (fun x _=>Ch r x (by omega))
 have hc:r.copies.any (fun x=>!gA r x) = !r.copies.all (gA r):=Db r
 rw [hc] at f4
 refine kgo ?_
 rw [Bool.not_not (b:=r.copies.all (gA r))]
 exact aj
theorem su (l:List Rul) (g:Nat) (cs:List D) (p:Rul→Bool) (hct:(cs.all fun r=>!isT r)=true) (hp:∀x∈l,FnD Tryz.prog g ([x.D]++cs) (.d (.b (p x)))):FnD Tryz.prog 168 [.l 13 (l.map Rul.D),.f g cs] (.d (.i (nK p l))):=by
 refine af Tryz.func168 (fun hw W0=>?_)
 have hl:=(wfM hw.1).1
 refine kgo ?_
 refine ai [0,1,7] (fun i:Nat=>i≤l.length∧(l.take i).any p=false) (fun i=>l.length - i) (fun i=>[(8,.sy (.d (.i i)))]) 0 ⟨Nat.zero_le _,rfl⟩ (fun i hi=>?_)
 refine kgo ?_
 refine aJ (fun h=>?_) (fun h=>?_)
 ·have hlt:i<l.length:=by omega
  have f1:=hp _ (List.getElem_mem hlt)
  refine kgo ?_
  refine cIf (fun h2=>?_) (fun h2=>?_)
  ·refine kgo ?_
   rw [mO hlt h2 hi.2]
   exact aj
  ·refine kgo ?_
   exact aa (i+1) ⟨hlt,km hlt hi.2 h2⟩ (by omega)
 refine kgo ?_
 rw [lv (mP (by omega) hi.2)]
 exact aj
theorem ol (l:List Rul) (g:Nat) (cs:List D) (p:Rul→Bool) (hct:(cs.all fun r=>!isT r)=true) (hp:∀x∈l,FnD Tryz.prog g ([x.D]++cs) (.d (.b (p x)))):FnD Tryz.prog 112 [.l 13 (l.map Rul.D),.f g cs] (.d (.b (l.any p))):=by
 refine af Tryz.func112 (fun hw W0=>?_)
 have f1:=su l g cs p hct hp
 have hr:=eh p l
 have hq:=ku p l
 refine kgo ?_
 rw [← hq]
 exact aj
theorem vv (sig:List Ctl) (r:Rul) (h1:r.redex.inner.length≤1048576) (h2:r.reactum.inner.length≤1048576):FnD Tryz.prog 113 [r.D,.p (.l 3 (sig.map Ctl.D))] (.d (.b (!g9 sig r))):=by
 have f1:=EF sig r h1 h2
 refine af Tryz.func113 (fun hw W0=>?_)
 refine kgo ?_
 exact aj
theorem yU (sig:List Ctl) (rs:List Rul) (hl:∀r∈rs,r.redex.inner.length≤1048576∧r.reactum.inner.length≤1048576):FnD Tryz.prog 61 [.l 3 (sig.map Ctl.D),.l 13 (rs.map Rul.D)] (.d (.b (dv sig rs))):=by
 have f1:=dC rs.length 1 6
 have f2:=ol rs 113 [.p (.l 3 (sig.map Ctl.D))] (fun r=>!g9 sig r) rfl (fun r hr=>vv sig r (hl r hr).1 (hl r hr).2)
 have hc:rs.any (fun r=>!g9 sig r) = !rs.all (g9 sig):=Ew sig rs
 rw [hc] at f2
 refine af Tryz.func61 (fun hw W0=>?_)
 unfold dv
 refine dY ?_
 refine dq ?_
 refine CU ?_
 refine dB (bo ?_)
 refine BW 2 (.l 3 (sig.map Ctl.D)) ?_
 refine kgo ?_
 cases h1:inR (rs.length:Int) 1 6
 ·refine kgo ?_
  exact aj
 refine kgo ?_
 rw [show D.b (true && rs.all (g9 sig))=D.b (!!rs.all (g9 sig)) by rw [Bool.not_not];rfl]
 exact aj
end Go.Proofs.YtnobdioccfeokaaGreatDoor
namespace Go.Proofs.YtnobdioccfeokaaGreatDoor
open Go.RowKit
set_option linter.unusedVariables false
set_option linter.unusedSimpArgs false
set_option maxRecDepth 100000
set_option maxHeartbeats 4000000
attribute [local irreducible] ar Der At
theorem DK {sig:List Ctl} {mid ctx par:Big} (h:aH sig par=false):nD sig mid ctx par=(fK,false):=by
 have hc:∀a,fG sig a par=(fK,false):=fun a=>by unfold fG;rw [h];cases aH sig a <;> rfl
 unfold nD
 rw [hc]
 split
 ·split <;> rfl
 ·rfl
theorem Az {sig:List Ctl} {r:Rul} {a:Big} (m:Mat) (hr:g9 sig r=true) (ha:aH sig a=true) (hm:er r.redex a m=true):FnO Tryz.prog 69 [.l 3 (sig.map Ctl.D),r.D,a.D,m.D] [6,0] (CV (fL sig r a m).1++[.d (.b (fL sig r a m).2)]):=by
 obtain ⟨r1,r2,r3,r4,r5,r6,r7,r8⟩:=jc hr
 have orr:=dM r1
 have or2:=dM r2
 have hcl:r.copies.length≤100:=by have:=or2.sitesN;omega
 have hc0:∀c∈r.copies,0≤c∧c≤1000:=fun c hc=>by
  have:=bB (List.all_eq_true.1 r8 c hc)
  have:=orr.sitesN
  omega
 have f1:FnD Tryz.prog 126 [.l 3 (sig.map Ctl.D),r.redex.D,a.D,m.D] (.tp [(zU (mM sig r.redex a m) (gS r.redex a m)).D,.b (mM sig r.redex a m)]):=(yx m r1 r3 ha hm).toT
 have f2:FnD Tryz.prog 127 [.l 3 (sig.map Ctl.D),r.redex.D,a.D,m.D] (.tp [(zU (mR sig r.redex a m) (gj r.redex a m)).D,.b (mR sig r.redex a m)]):=(sV m r1 r3 ha hm).toT
 have hno1:mM sig r.redex a m=false→fL sig r a m=(fK,false):=fun h=>nP (by
  unfold mM at h
  cases h1:(dR r.redex a m.nodes).2.2
  ·rfl
  ·rw [h1,Bool.true_and] at h;rw [h];rfl)
 have hno2:mR sig r.redex a m=false→fL sig r a m=(fK,false):=fun h=>nP (by
  unfold mR at h
  cases h1:(dR r.redex a m.nodes).2.2
  ·rfl
  ·rw [h1,Bool.true_and] at h;rw [h];simp)
 have hyes:mM sig r.redex a m=true→mR sig r.redex a m=true→aH sig (gj r.redex a m)=true∧(gS r.redex a m).inner.length≤16∧fL sig r a m=nD sig r.reactum (gS r.redex a m) (mr r.copies (gj r.redex a m)):=fun h1 h2=>by
  unfold mM at h1
  unfold mR at h2
  rw [Bool.and_eq_true] at h1 h2
  exact ⟨h2.2,(dM h1.2).inner,sO (by rw [h1.1,h1.2,h2.2];rfl)⟩
 have hor:∀b:Big,zU true b=b:=fun _=>rfl
 refine cT Tryz.func69 (fun hw W0=>?_)
 refine kgo ?_
 cases h1:mM sig r.redex a m
 ·rw [hno1 h1]
  refine kgo ?_
  exact ik (hp:=.cons (.d rfl) (.cons .m (.cons .n (.cons (.d rfl) (.cons .n (.cons .n (.cons (.d rfl) .nil)))))))
 refine kgo ?_
 cases h2:mR sig r.redex a m
 ·rw [hno2 h2]
  refine kgo ?_
  exact ik (hp:=.cons (.d rfl) (.cons .m (.cons .n (.cons (.d rfl) (.cons .n (.cons .n (.cons (.d rfl) .nil)))))))
 obtain ⟨h3,h4,h5⟩:=hyes h1 h2
 rw [h5]
 have f3:=ua r h3 hcl hc0
 have f4:FnD Tryz.prog 128 [.l 3 (sig.map Ctl.D),(mr r.copies (gj r.redex a m)).D] (.tp [(zU (aH sig (mr r.copies (gj r.redex a m))) (mr r.copies (gj r.redex a m))).D,.b (aH sig (mr r.copies (gj r.redex a m)))]):=(ox sig _ (Nat.zero_le _)).toT
 have f5:=tK sig (gS r.redex a m) r.redex r.reactum (mr r.copies (gj r.redex a m)) (E7 r6) (by have:=or2.inner;omega) (Nat.zero_le _)
 have hno:=DK (sig:=sig) (mid:=r.reactum) (ctx:=gS r.redex a m) (par:=mr r.copies (gj r.redex a m))
 clear f1 f2 hno1 hno2 hyes h1 h2 h5
 generalize gS r.redex a m=C at *
 generalize gj r.redex a m=Q at *
 generalize mr r.copies Q=Z at *
 refine kgo ?_
 cases h6:aH sig Z
 ·rw [hno h6]
  refine kgo ?_
  exact ik (hp:=.cons (.d rfl) (.cons .m (.cons .n (.cons (.d rfl) (.cons .n (.cons .n (.cons (.d rfl) .nil)))))))
 refine kgo ?_
 exact ik (hp:=.cons (.d rfl) (.cons (.k rfl rfl) (.cons (.k rfl rfl) (.cons (.d rfl) (.cons (.k rfl rfl) (.cons (.k rfl rfl) (.cons (.d rfl) .nil)))))))
end Go.Proofs.YtnobdioccfeokaaGreatDoor
namespace Go.Proofs.YtnobdioccfeokaaGreatDoor
open Go.RowKit
set_option linter.unusedVariables false
set_option linter.unusedSimpArgs false
set_option maxRecDepth 100000
set_option maxHeartbeats 4000000
attribute [local irreducible] ar Der At
theorem Il:JG Tryz.prog 195:=⟨cB Tryz.func195,fun a n k w hn hk=>by
 unfold maxLen at hk
 go_enter Tryz.func195,Tryz.ntmps195
 go_wp2
 go_ret
 exact ⟨rfl,rfl⟩⟩
theorem qi (m:Mat) (h1:m.nodes.length≤1000) (h2:m.roots.length≤1000):FnO Tryz.prog 70 [m.D] [2] [.tk (.row 1 3 (m.nodes.map .i)),.tk (.row 1 3 (m.roots.map .i))]:=by
 have f1:=kB m.nodes h1
 have f2:=kB m.roots h2
 refine cT Tryz.func70 (fun hw W0=>?_)
 refine kgo ?_
 exact ik (hp:=.cons (.k rfl rfl) (.cons (.k rfl rfl) .nil))
def kS {α:Type} (G:List α→Bool):List α→List α→List α × Bool
 | xs,[]=>(xs,true)
 | xs,m :: ms=>if G (xs++[m]) then kS G (xs++[m]) ms else (xs++[m],false)
theorem xo {α:Type} {G:List α→Bool}:∀(l t xs:List α),kS G xs (l++t)=if (kS G xs l).2 then kS G (kS G xs l).1 t else kS G xs l:=by
 intro l
 induction l with
 | nil=>intro t xs;rfl
 | cons m l ih=>
  intro t xs
  rw [List.cons_append]
  show (if G (xs++[m]) then kS G (xs++[m]) (l++t) else (xs++[m],false))=_
  by_cases hg:G (xs++[m])=true
  ·have e:kS G xs (m :: l)=kS G (xs++[m]) l:=if_pos hg
   rw [e,if_pos hg];exact ih t _
  ·have e:kS G xs (m :: l)=(xs++[m],false):=if_neg hg
   rw [e,if_neg hg];rfl
theorem Hr {α:Type} {G:List α→Bool} {K:List α→Prop} (hK:∀xs m,G (xs++[m])=true→K (xs++[m])):∀(l xs:List α),K xs→(kS G xs l).2=true→K (kS G xs l).1:=by
 intro l
 induction l with
 | nil=>intro xs h _;exact h
 | cons m l ih=>
  intro xs h h2
  unfold kS at h2 ⊢
  split
  ·rename_i hg
   rw [if_pos hg] at h2
   exact ih _ (hK _ _ hg) h2
  ·rename_i hg
   rw [if_neg hg] at h2;cases h2
theorem CM {sig:List Ctl} {r a:Big} (hR:aH sig r=true) (hA:aH sig a=true) (hS:cA r=true) {g0:Nat} {Q:List Mat→WP} {G:List Mat→Bool} {K:List Mat→Prop} (hY:∀xs m,K xs→FnY Tryz.prog g0 [m.D] (Q xs) (Q (xs++[m])) (G (xs++[m]))) (hK:∀xs m,G (xs++[m])=true→K (xs++[m])):∀(n:Nat) (ns:List Int) (xs:List Mat),ns.length+n=r.nodes.length→(∀x∈ns,0≤x∧x<(a.nodes.length:Int))→K xs →
 FnY Tryz.prog 122 [r.D,a.D,DI ns] (zH g0 (Q xs)) (zH g0 (Q (kS G xs (lD r a n ns)).1)) (kS G xs (lD r a n ns)).2:=by
 have hd:=bw hR
 have hda:=(bw hA).nodes
 have hrn:=hd.nodes
 have hrs:=hd.sites
 have hr0:=bl hR
 intro n
 induction n with
 | zero=>
  intro ns xs hl hx hK0
  have hnl:ns.length≤1000:=by omega
  have f1:=Cb (iH r a ns) hR hA
  have f2:=FnO.toD (n:=1) (qi (iH r a ns) hnl (by show (rtL r a ns r.roots.toNat).length≤1000;unfold rtL;rw [List.length_map,List.length_range];omega))
  have hdef:lD r a 0 ns=if er r a (iH r a ns) then [iH r a ns] else []:=rfl
  refine Ac Tryz.func122 (fun hw W0 v=>?_)
  refine kgo ?_
  refine aJ (fun h=>?_) (fun h=>?_)
  rotate_left
  ·omega
  refine kgo ?_
  refine oH 10010 1 20002 3 ?_
  refine ai [2,3,4,5,10,27,20000] (fun i:Nat=>i≤r.roots.toNat) (fun i=>r.roots.toNat - i) (fun i=>[(28,.sy (.d (.i i))),(10010,.tk (.bx [.d (DI ns),.k 20001])),(20001,.tk (.row 1 3 ((rtL r a ns i).map .i)))]) 0 (Nat.zero_le _) (fun i hi=>?_)
  refine kgo ?_
  refine aJ (fun h=>?_) (fun h=>?_)
  ·have f3:=iy r (-1 - (i:Int)) hrn hrs
   have hk1:=qb hS (by omega) i h
   have hz:(0:Int)≤0∧(0:Int)<((dJ r (-1 - (i:Int))).length:Int):=⟨Int.le_refl _,by omega⟩
   have hm1:=Cw r _ _ (List.getElem_mem hk1)
   have hx1:=hx _ (og (l:=ns) hm1.1 (by omega))
   have hql:(rtL r a ns i).length≤1000:=by unfold rtL;rw [List.length_map,List.length_range];omega
   obtain ⟨j,hj⟩:=Int.eq_ofNat_of_zero_le hx1.1
   have hjl:j<a.nodes.length:=by omega
   have hp:rtP r a ns i=(a.nodes[j]).parent:=by
    unfold rtP
    rw [show atI (dJ r (-1 - (i:Int))) 0=(dJ r (-1 - (i:Int)))[0] from by unfold atI;simp [List.getElem?_eq_getElem hk1],hj,aB a j hjl]
   have hs:(rtL r a ns (i+1)).map D.i=(rtL r a ns i).map D.i++[.i (a.nodes[j]).parent]:=by rw [xB,List.map_append,hp];rfl
   have hb1:0≤(dJ r (-1 - (i:Int)))[0]∧(dJ r (-1 - (i:Int)))[0]<(ns.length:Int):=⟨hm1.1,by omega⟩
   refine kgo ?_
   refine cS (n:=j) (fun _=>?_) rfl rfl (congrArg some hj)
   refine kgo ?_
   exact aa (i+1) (by omega) (by omega)
  obtain rfl:i=r.roots.toNat:=by omega
  refine br (aA (aA (bt (bo ?_))))
  refine pI 10010 1 ?_
  refine kgo ?_
  cases h3:er r a (iH r a ns)
  ·rw [hdef,h3]
   refine kgo ?_
   exact Hi
  ·rw [hdef,h3,if_pos rfl]
   rw [show kS G xs [iH r a ns]=(xs++[iH r a ns],G (xs++[iH r a ns])) from by
    show (if G (xs++[iH r a ns]) then (xs++[iH r a ns],true) else (xs++[iH r a ns],false))=_
    cases G (xs++[iH r a ns]) <;> rfl]
   refine kgo ?_
   refine Ii (ds:=[(iH r a ns).D]) ?_ rfl (hY xs (iH r a ns) hK0)
   refine kgo ?_
   exact Hi
 | succ n ih=>
  intro ns xs hl hx hK0
  have hnl:ns.length≤1000:=by omega
  have hall:lD r a (n+1) ns=gv r a n ns a.nodes.length:=rfl
  have f0:=Il
  have hup:=iE hR ns.length (by omega)
  refine Ac Tryz.func122 (fun hw W0 v=>?_)
  refine kgo ?_
  refine aJ (fun h=>?_) (fun h=>?_)
  ·omega
  have hrl:ns.length<r.nodes.length:=by omega
  refine kgo ?_
  refine ai [2,3,4,5,14,69,70] (fun x:Nat × List Mat=>x.1≤a.nodes.length∧K x.2∧kS G xs (gv r a n ns x.1)=(x.2,true)) (fun x=>a.nodes.length - x.1) (fun x=>[(71,.sy (.d (.i x.1))),(20000,.tk (.abs (zH g0 (Q x.2)) (some v)))]) (0,xs) ⟨Nat.zero_le _,hK0,rfl⟩ (fun x hx'=>?_)
  obtain ⟨i,cur⟩:=x
  obtain ⟨hi,hKc,hrun⟩:=hx'
  dsimp only at hi hKc hrun ⊢
  refine kgo ?_
  refine aJ (fun h=>?_) (fun h=>?_)
  rotate_left
  ·obtain rfl:i=a.nodes.length:=by omega
   rw [hall,hrun]
   refine kgo ?_
   exact Hi
  have hlt:i<a.nodes.length:=by omega
  have f1:=fc ns i
  have hcd:s9 r a ns i=if (!decide ((a.nodes[i]).control=(r.nodes[ns.length]).control) || fp ns i) then false else decide ((r.nodes[ns.length]).parent<0) || decide ((a.nodes[i]).parent=atI ns (r.nodes[ns.length]).parent):=by unfold s9;rw [aB a i hlt,aB r ns.length hrl]
  have hsucc:=m8 r a n ns i
  refine kgo ?_
  cases hc:decide ((a.nodes[i]).control=(r.nodes[ns.length]).control)
  ·have hcan:s9 r a ns i=false:=by rw [hcd,hc];rfl
   rw [hcan] at hsucc
   refine kgo ?_
   (repeat refine dU ?_)
   refine kgo ?_
   exact aa (i+1,cur) ⟨hlt,hKc,by show kS G xs (gv r a n ns (i+1))=_;rw [hsucc];simpa using hrun⟩ (by show _ - (i+1)<_ - i;omega)
  refine kgo ?_
  cases h2:fp ns i
  rotate_left
  ·have hcan:s9 r a ns i=false:=by rw [hcd,hc,h2];rfl
   rw [hcan] at hsucc
   refine kgo ?_
   (repeat refine dU ?_)
   refine kgo ?_
   exact aa (i+1,cur) ⟨hlt,hKc,by show kS G xs (gv r a n ns (i+1))=_;rw [hsucc];simpa using hrun⟩ (by show _ - (i+1)<_ - i;omega)
  have hdi:DI (ns++[(i:Int)])=D.l 1 (ns.map D.i++[D.i i]):=congrArg (D.l 1) List.map_append
  have f3:=ih (ns++[(i:Int)]) cur (by rw [List.length_append,List.length_singleton];omega) (fun x hx'=>by
   rcases List.mem_append.1 hx' with h|h
   ·exact hx x h
   ·rw [List.mem_singleton.1 h];omega) hKc
  rw [hdi] at f3
  have hyes:s9 r a ns i=true→kS G xs (gv r a n ns (i+1))=kS G cur (lD r a n (ns++[(i:Int)])):=fun hc=>by
   rw [hsucc,hc,if_pos rfl,xo,hrun,if_pos rfl]
  have hend:s9 r a ns i=true→(kS G cur (lD r a n (ns++[(i:Int)]))).2=false→kS G xs (lD r a (n+1) ns)=kS G cur (lD r a n (ns++[(i:Int)])):=fun hc h2=>by
   obtain ⟨t,ht⟩:=t6 r a n ns (i+1) (a.nodes.length - (i+1))
   rw [show i+1+(a.nodes.length - (i+1))=a.nodes.length by omega] at ht
   rw [hall,ht,xo,hyes hc,h2,if_neg Bool.false_ne_true]
  have hkk:(kS G cur (lD r a n (ns++[(i:Int)]))).2=true→K (kS G cur (lD r a n (ns++[(i:Int)]))).1:=Hr hK _ _ hKc
  generalize kS G cur (lD r a n (ns++[(i:Int)]))=R at *
  obtain ⟨R1,R2⟩:=R
  refine kgo ?_
  cases h4:decide (0≤(r.nodes[ns.length]).parent)
  ·have hcan:s9 r a ns i=true:=by
    rw [hcd,hc,h2,decide_eq_true (show (r.nodes[ns.length]).parent<0 by have:=of_decide_eq_false h4;omega)];rfl
   refine kgo ?_
   refine HR f0 ?_
   refine kgo ?_
   refine sFz 107 ?_
   refine Fa ?_
   refine kgo ?_
   cases R2
   ·rw [hend hcan rfl]
    refine kgo ?_
    exact Hi
   refine kgo ?_
   exact aa (i+1,R1) ⟨hlt,hkk rfl,hyes hcan⟩ (by show _ - (i+1)<_ - i;omega)
  have hp0:0≤(r.nodes[ns.length]).parent∧(r.nodes[ns.length]).parent<(ns.length:Int):=⟨of_decide_eq_true h4,hup.2⟩
  refine kgo ?_
  cases h5:decide ((a.nodes[i]).parent=atI ns (r.nodes[ns.length]).parent)
  ·have hcan:s9 r a ns i=false:=by
    rw [hcd,hc,h2,h5,decide_eq_false (show ¬(r.nodes[ns.length]).parent<0 by omega)];rfl
   rw [hcan] at hsucc
   refine kgo ?_
   exact aa (i+1,cur) ⟨hlt,hKc,by show kS G xs (gv r a n ns (i+1))=_;rw [hsucc];simpa using hrun⟩ (by show _ - (i+1)<_ - i;omega)
  have hcan:s9 r a ns i=true:=by
   rw [hcd,hc,h2,h5];simp
  refine kgo ?_
  refine HR f0 ?_
  refine kgo ?_
  refine sFz 107 ?_
  refine Fa ?_
  refine kgo ?_
  cases R2
  ·rw [hend hcan rfl]
   refine kgo ?_
   exact Hi
  refine kgo ?_
  exact aa (i+1,R1) ⟨hlt,hkk rfl,hyes hcan⟩ (by show _ - (i+1)<_ - i;omega)
theorem rB (xs:List Mat) (m:Mat) (hx:xs.length≤1000):FnY Tryz.prog 123 [m.D] (zR 2 100 (xs.map Mat.D)) (zR 2 100 ((xs++[m]).map Mat.D)) (decide (((xs++[m]).length:Int)≤400)):=by
 rw [show (xs++[m]).map Mat.D=xs.map Mat.D++[m.D] from List.map_append,show ((xs++[m]).length:Int)=((xs.map Mat.D++[m.D]).length:Int) by simp]
 refine Ac Tryz.func123 (fun hw W0 v=>?_)
 refine Fb 1 20000 20001 ?_
 refine kgo ?_
 refine rT ?_
 refine kgo ?_
 refine C9 ?_
 refine kgo ?_
 refine rT ?_
 refine kgo ?_
 refine J2 1 20000 10007 ?_
 exact Hi
theorem BG (M:Nat):∀(l xs:List Mat),xs.length≤M→(kS (fun ys=>decide ((ys.length:Int)≤M)) xs l).1=xs++l.take (M+1 - xs.length):=by
 intro l
 induction l with
 | nil=>intro xs _;show xs=_;simp
 | cons m l ih=>
  intro xs h
  show (if decide (((xs++[m]).length:Int)≤M) then kS _ (xs++[m]) l else (xs++[m],false)).1=_
  have hl:(xs++[m]).length=xs.length+1:=by simp
  by_cases hc:xs.length+1≤M
  ·rw [if_pos (decide_eq_true (by omega)),ih _ (by omega),hl,show M+1 - xs.length=(M+1 - (xs.length+1))+1 by omega,List.take_succ_cons,List.append_assoc];rfl
  ·rw [if_neg (by simp;omega),show M+1 - xs.length=1 by omega];simp
def Ei (r a:Big):List Mat × Bool:=if 400<(qK r a).length then ([],false) else (qK r a,true)
theorem tV {sig:List Ctl} {r a:Big} (hR:aH sig r=true) (hA:aH sig a=true) (hS:cA r=true):FnD Tryz.prog 67 [r.D,a.D] (.tp [.l 2 ((Ei r a).1.map Mat.D),.b (Ei r a).2]):=by
 have f0:=CM hR hA hS (g0:=123) (Q:=fun xs=>zR 2 100 (xs.map Mat.D)) (G:=fun ys=>decide ((ys.length:Int)≤400)) (K:=fun xs=>xs.length≤400) (fun xs m h=>rB xs m (by omega)) (fun xs m h=>by have:=of_decide_eq_true h;omega) r.nodes.length [] [] (by simp) (fun x hx=>by cases hx) (Nat.zero_le _)
 rw [show (kS (fun ys=>decide ((ys.length:Int)≤400)) [] (lD r a r.nodes.length [])).1=qK r a from BG 400 _ _ (Nat.zero_le _)] at f0
 generalize (kS (fun ys=>decide ((ys.length:Int)≤400)) [] (lD r a r.nodes.length [])).2=B at f0
 have f1:FnY Tryz.prog 122 [r.D,a.D,.n 1] (zH 123 (zR 2 100 [])) (zH 123 (zR 2 100 ((qK r a).map Mat.D))) B:=f0.arg (fun w F vs hv=>by
  obtain ⟨v1,t1,rfl,h1,v2,t2,rfl,h2,v3,t3,rfl,h3,h4⟩:=hv
  exact ⟨v1,_,rfl,h1,v2,_,rfl,h2,v3,_,rfl,Cp h3,h4⟩)
 clear f0
 refine af Tryz.func67 (fun hw W0=>?_)
 unfold Ei
 refine dY ?_
 refine dq ?_
 refine CU ?_
 refine dB (bo ?_)
 refine dY ?_
 refine dq ?_
 refine CU ?_
 refine dB (bo ?_)
 refine JJ 10006 (fun u=>?_)
 refine JO 6 10006 10007 ?_
 refine kgo ?_
 refine Ir ?_
 refine F8 10006 (fun σ' a w c hc hk=>q9 hc _ _ rfl hk) ?_
 refine dB (bo ?_)
 refine Fb 6 10006 20001 ?_
 refine kgo ?_
 refine rT ?_
 refine kgo ?_
 refine aJ (fun h=>?_) (fun h=>?_)
 ·rw [List.length_map] at h
  rw [if_pos (by omega)]
  refine kgo ?_
  exact iS
 rw [List.length_map] at h
 rw [if_neg (by omega)]
 refine kgo ?_
 refine rT ?_
 refine dL (d:=4) ?_
 refine kgo ?_
 exact iS
end Go.Proofs.YtnobdioccfeokaaGreatDoor
namespace Go.Proofs.YtnobdioccfeokaaGreatDoor
open Go.RowKit
set_option linter.unusedVariables false
set_option linter.unusedSimpArgs false
theorem aE.congr {W0:cz} {N:Nat} {σ σ':Env} {a:Act} {w:World} {c:Cx} (h:aE W0 N σ a w c) (e:∀κ,al σ' κ=al σ κ):aE W0 N σ' a w c:=
 ⟨h.ext,h.old,h.lt,h.size,h.defers,fun i hi=>by rw [e];exact h.all i hi,fun i t hi=>h.tok i t (by rw [← e];exact hi),fun i j t u hi hj=>h.off i j t u (by rw [← e];exact hi) (by rw [← e];exact hj),fun t s ht=>h.tmp t s (by rw [← e];exact ht)⟩
theorem Ar {c:Cx} {w:World} {z e:Nat} {v:Value} {S:BS} (h:(Tk.row z e []).ok c w v S):(Tk.grw z e []).ok c w v S:=by
 rcases h with h|⟨cells,h1,h2,_⟩
 ·exact .inl h
 ·exact .inr ⟨cells,fun _ _=>False,h1,fun g hg=>⟨h2 g hg,fun _ h=>h⟩,fun j b h=>h.elim,fun i j _ b h=>h.elim,fun j hj=>absurd hj (Nat.not_lt_zero _)⟩
theorem H6 {σ:Env} {κ n e:Nat} {ds ds':List D} (h:al σ κ=some (.tk (.grw n e ds))) (he:ds=ds'):al σ κ=some (.tk (.grw n e ds')):=he ▸ h
def Ej:Nat→Code→Code
 | 0,c=>c
 | n+1,.seq _ y=>Ej n y
 | _,c=>c
theorem GO {c:Cx} {w:World} {z e:Nat} {ds:List D} {v:Value} {S:BS} (h:(Tk.grw z e ds).ok c w v S):Ow w (.l z ds) S [v]:=by
 rcases h with ⟨rfl,a,rfl⟩|⟨cells,T,own,h3,h4,h5,h6⟩
 ·exact ⟨a,0,rfl,Nat.le_refl _,by decide,fun _=>rfl,.inl rfl⟩
 by_cases hd:ds = []
 ·subst hd
  rcases own.2 with ⟨hv,_⟩|⟨g,cap,cur,hv,_,hg,q5,q6,_⟩
  ·exact ⟨none,0,by rw [hv];rfl,Nat.le_refl _,by decide,fun _=>rfl,.inl rfl⟩
  ·exact ⟨some ⟨g,0,none⟩,cap,by rw [hv],q5,q6,fun h=>(by cases h),.inl rfl⟩
 rcases own.2 with ⟨hv,hn0⟩|⟨g,cap,cur,hv,_,hg,q5,q6,_⟩
 ·exact absurd (List.eq_nil_of_length_eq_zero hn0) hd
 have hgo:v.ownBlock=some g:=by rw [hv];rfl
 obtain ⟨l1,l2⟩:=xU own hgo
 obtain ⟨s1,s2⟩:=h3 g hgo
 refine ⟨some ⟨g,0,none⟩,cap,by rw [hv],q5,q6,fun h=>(by cases h),.inr ⟨g,0,fun b=>∃j,T j b,rfl,s1,l1,fun q=>l2 q,fun b ⟨j,hb⟩=>⟨(h4 j b hb).1,fun e=>s2 j (e ▸ hb)⟩,?_⟩⟩
 have:∀(es:List D) (o:Nat) (T:Nat→BS),(∀i j,i≠j→∀b,T i b→¬T j b)→(∀j (hj:j<es.length),∃cs,cs.length=z∧Ow w es[j] (T j) cs∧bA w g (o+j * z) cs)→OwR w es (fun b=>∃j,T j b) z g o:=by
  intro es
  induction es with
  | nil=>intro o T _ _;trivial
  | cons d es ih=>
   intro o T hoff hel
   obtain ⟨cs,p1,p2,p3⟩:=hel 0 (by simp)
   rw [Nat.zero_mul,Nat.add_zero] at p3
   refine ⟨T 0,fun b=>∃j,T (j+1) b,fun b h=>⟨0,h⟩,fun b ⟨j,h⟩=>⟨j+1,h⟩,fun b h ⟨j,h'⟩=>hoff 0 (j+1) (by omega) b h h',⟨cs,p1,p2,p3⟩,ih (o+z) (fun j=>T (j+1)) (fun i j hij=>hoff (i+1) (j+1) (by omega)) (fun j hj=>?_)⟩
   obtain ⟨cs,r1,r2,r3⟩:=hel (j+1) (by simpa using hj)
   refine ⟨cs,r1,by simpa using r2,?_⟩
   rw [show o+z+j * z=o+(j+1) * z by rw [Nat.succ_mul];omega]
   exact r3
 refine this ds 0 T h5 (fun j hj=>?_)
 obtain ⟨cs,p1,p2,p3⟩:=h6 j hj
 refine ⟨cs,p1,p2,fun t u ht=>?_⟩
 have h9:=p3 t u ht
 rw [hv] at own
 rw [Nat.zero_add,World.ownsRow.cellAt own (j * z+t)]
 ·exact h9
 ·rcases Nat.lt_or_ge (j * z+t) cells.length with h|h
  ·rw [← own.1];exact h
  ·rw [List.getElem?_eq_none h] at h9;cases h9
theorem J1 {P:Program} {W0:cz} {N:Nat} {σ:Env} {z e:Nat} {ds:List D} {C:Code} {Q:Exit→Act→World→Prop} (i:Nat) (h:ar P W0 N C ((i,.tk (.own (.l z ds) none none)) :: σ) Q) (hi:al σ i=some (.tk (.grw z e ds)):=by rfl):ar P W0 N C σ Q:=by
 intro a w ⟨c,hc⟩
 obtain ⟨hA,hT,hlt⟩:=hc.tok i _ hi
 exact h a w ⟨c,hc.upd2 hi Chg.rfl' (fun _=>⟨GO hT,fun p hp=>(by cases hp),fun p hp=>(by cases hp)⟩)⟩
theorem Jc {W0:cz} {N:Nat} {σ:Env} {a:Act} {w:World} {c:Cx} (hc:aE W0 N σ a w c) {ss:List Sy} {es:List D} {us':List Value} (r:D) (ho:jq σ ss=some es) (e4:Sy.oks c w ss us') (hr:Gf r=es) (hd:zV ss=true) :
 Ow w r (fun b=>∃κ,κ∈cP ss∧c.T κ b) us'∧∀κ∈cP ss,∃t,al σ κ=some (.tk t):=by
 obtain ⟨p1,p2,p3⟩:=rk hc ss es us' ho e4
 have hkey:∀(m κ:Nat),ss[m]? = some (.k κ)→κ∈cP ss∧∃t,al σ κ=some (.tk t):=fun m κ hm=>by
  have:∀(ss:List Sy) (es:List D) (m:Nat),jq σ ss=some es→ss[m]? = some (.k κ)→κ∈cP ss∧∃t,al σ κ=some (.tk t):=by
   intro ss
   induction ss with
   | nil=>intro es m _ hm;simp at hm
   | cons s ss ih=>
    intro es m ho hm
    have tl:∃es',jq σ ss=some es':=by
     cases s with
     | k j=>unfold jq at ho;split at ho;exact ⟨_,by assumption⟩;cases ho
     | d r=>unfold jq at ho;split at ho;exact ⟨_,by assumption⟩;cases ho
     | _=>cases ho
    obtain ⟨es',hes'⟩:=tl
    cases m with
    | zero=>
     simp at hm
     subst hm
     refine ⟨by simp [cP,kSy],?_⟩
     unfold jq at ho
     split at ho
     ·exact ⟨_,by assumption⟩
     ·cases ho
    | succ m=>
     obtain ⟨q1,q2⟩:=ih es' m hes' (by simpa using hm)
     exact ⟨by simp [cP,q1],q2⟩
  exact this ss es m ho hm
 have htk:∀(m b:Nat),tkT c ss[m]? b→∃κ,ss[m]? = some (.k κ)∧c.T κ b:=fun m b hb=>by
  cases hm:ss[m]? with
  | none=>rw [hm] at hb;exact hb.elim
  | some s=>
   rw [hm] at hb
   cases s with
   | k κ=>exact ⟨κ,rfl,hb⟩
   | _=>exact hb.elim
 have hcells:=pj es us' (fun m=>tkT c ss[m]?) p1 p3 (fun m m' hmm b hb hb'=>by
  obtain ⟨κ,q1,q2⟩:=htk m b hb
  obtain ⟨κ',q3,q4⟩:=htk m' b hb'
  have hne:κ≠κ':=by
   rcases Nat.lt_or_ge m m' with hlt|hge
   ·exact iL ss m m' κ κ' hd hlt q1 q3
   ·exact fun e=>iL ss m' m κ' κ hd (by omega) q3 q1 e.symm
  obtain ⟨t,ht⟩:=(hkey m κ q1).2
  obtain ⟨t',ht'⟩:=(hkey m' κ' q3).2
  exact hc.off κ κ' t t' ht ht' hne b q2 q4)
 have h1:Ow w r (fun b=>∃m:Nat,tkT c ss[m]? b) us':=xu r _ us' (by rw [hr];exact hcells)
 have hsub:∀b,(∃m:Nat,tkT c ss[m]? b)→∃κ,κ∈cP ss∧c.T κ b:=fun b ⟨m,hb⟩=>by
  obtain ⟨κ,q1,q2⟩:=htk m b hb
  exact ⟨κ,(hkey m κ q1).1,q2⟩
 refine ⟨Ow.keep (Nat.le_refl _) r _ _ us' hsub (fun _ _ _=>rfl) h1,fun κ hκ=>?_⟩
 ·have:∀(ss:List Sy),κ∈cP ss→∃m:Nat,ss[m]? = some (Sy.k κ):=by
   intro ss
   induction ss with
   | nil=>intro h;simp [cP] at h
   | cons s ss ih=>
    intro h
    rw [cP,List.mem_append] at h
    rcases h with h|h
    ·cases s with
     | k j=>simp [kSy] at h;subst h;exact ⟨0,rfl⟩
     | _=>simp [kSy] at h
    ·obtain ⟨m,hm⟩:=ih h;exact ⟨m+1,by simpa using hm⟩
  obtain ⟨m,hm⟩:=this ss hκ
  exact (hkey m κ hm).2
def xh:Sy→List Sy
 | .ag ss=>ss
 | .d (.t ds)=>kI ds
 | s=>[s]
def Hf (σ:Env):Sy→Bool
 | .ag ss=>ss.all (pu σ)
 | .d (.t _)=>true
 | s=>pu σ s
def Iy (pls:List (Nat × Nat)):List Sy→List (Nat × Sy)→List Sy
 | cur,[]=>cur
 | cur,(i,s) :: ps=>match pls[i]? with
  | some (off,_)=>Iy pls (cur.take off++(xh s++cur.drop (off+(xh s).length))) ps
  | none=>cur
def okG (pls:List (Nat × Nat)):Nat→List (Nat × Sy)→Bool
 | _,[]=>true
 | n,(i,s) :: ps=>match pls[i]? with
  | some (off,k)=>Nat.beq k (xh s).length && (Nat.ble (off+k) n && okG pls n ps)
  | none=>false
theorem CA (o:Nat):∀(us' old pre post:List Value) (k:Nat),old.length=us'.length→pre.length=o+k→((us'.zipIdx k).foldl (fun (c:Array Value) (p:Value × Nat)=>c.setIfInBounds (o+p.2) p.1) (pre++(old++post)).toArray)=(pre++(us'++post)).toArray:=by
 intro us'
 induction us' with
 | nil=>intro old pre post k h1 _;rw [List.eq_nil_of_length_eq_zero h1];rfl
 | cons u us' ih=>
  intro old pre post k h1 h2
  cases old with
  | nil=>simp at h1
  | cons x old=>
   have h3:=ih old (pre++[u]) post (k+1) (by simpa using h1) (by simp;omega)
   rw [List.zipIdx_cons,List.foldl_cons]
   have h4:(pre++(x :: old++post)).toArray.setIfInBounds (o+k) u=((pre++[u])++(old++post)).toArray:=by
    apply Array.ext'
    simp [List.set_append,h2]
   dsimp only
   rw [h4,h3]
   simp
theorem AQ {W0:cz} {N:Nat} {a:Act} {w:World} {c:Cx} {σ:Env} (h:aE W0 N σ a w c) {s:Sy} {v:Value} (hv:s.ok c w v) (hs:Hf σ s=true):∃us':List Value,v.cells=us'.toArray∧Sy.oks c w (xh s) us':=by
 have one:pu σ s=true→xh s = [s]→∃us':List Value,v.cells=us'.toArray∧Sy.oks c w (xh s) us':=fun h1 h2=>⟨[v],lL (my h hv h1),by rw [h2];exact ⟨v,[],rfl,hv,rfl⟩⟩
 cases s with
 | ag ss=>obtain ⟨vs,rfl,h2⟩:=hv;exact ⟨vs,rfl,h2⟩
 | d r=>
  cases r with
  | t ds=>obtain ⟨cs,rfl,h2⟩:=hv;exact ⟨cs,rfl,kA ds cs h2⟩
  | _=>exact one hs rfl
 | _=>exact one hs rfl
theorem I5 {W0:cz} {N:Nat} {a:Act} {w:World} {c:Cx} {σ:Env} (h:aE W0 N σ a w c) {pls:List (Nat × Nat)} {n:Nat}:∀(ps:List (Nat × Sy)) (qs:List (Nat × Value)) (cur:List Sy) (cs:List Value),cur.length=n→okG pls n ps=true→(ps.all fun p=>Hf σ p.2)=true→Sy.oks c w cur cs→ps.length=qs.length→(∀(j i:Nat) (s:Sy),ps[j]? = some (i,s)→∃v,qs[j]? = some (i,v)∧s.ok c w v) →
 ∃cs':List Value,Instr.fill (fun i=>pls[i]?) cs.toArray qs=some cs'.toArray∧Sy.oks c w (Iy pls cur ps) cs':=by
 intro ps
 induction ps with
 | nil=>intro qs cur cs _ _ _ ho hl _;rw [List.eq_nil_of_length_eq_zero (by simpa using hl.symm:qs.length=0)];exact ⟨cs,rfl,ho⟩
 | cons p ps ih=>
  obtain ⟨i,s⟩:=p
  intro qs cur cs hn hk hb ho hl hq
  cases qs with
  | nil=>simp at hl
  | cons q qs=>
   obtain ⟨v,e1,hv⟩:=hq 0 i s rfl
   simp at e1
   subst e1
   rw [List.all_cons,Bool.and_eq_true] at hb
   obtain ⟨us',hu1,hu2⟩:=AQ h hv hb.1
   unfold okG at hk
   unfold Iy
   cases hp:pls[i]? with
   | none=>rw [hp] at hk;cases hk
   | some ok=>
    obtain ⟨off,k⟩:=ok
    rw [hp] at hk
    dsimp only at hk ⊢
    simp only [Bool.and_eq_true] at hk
    obtain ⟨hk1,hk2,hk3⟩:=hk
    have hk1:=Nat.eq_of_beq_eq_true hk1
    have hk2:=Nat.le_of_ble_eq_true hk2
    have hul:=cM _ _ hu2
    have hcl:=cM _ _ ho
    have hnew:=ln _ _ _ _ (kw off _ _ ho) (ln _ _ _ _ hu2 (kC (off+(xh s).length) _ _ ho))
    obtain ⟨cs',r1,r2⟩:=ih qs (cur.take off++(xh s++cur.drop (off+(xh s).length))) _ (by simp [List.length_take];omega) hk3 hb.2 hnew (by simpa using hl) (fun j i' s' hj=>hq (j+1) i' s' (by simpa using hj))
    refine ⟨cs',?_,r2⟩
    unfold Instr.fill
    rw [hp]
    dsimp only
    rw [hu1]
    have a1:¬(us'.toArray.size≠k∨off+us'.toArray.size > cs.toArray.size):=by simp;omega
    rw [if_neg (by simpa using a1)]
    rw [← r1]
    congr 1
    have h5:=CA off us' ((cs.drop off).take us'.length) (cs.take off) (cs.drop (off+us'.length)) 0 (by simp;omega) (by simp;omega)
    have h6:cs.take off++((cs.drop off).take us'.length++cs.drop (off+us'.length))=cs:=by
     rw [show cs.drop (off+us'.length)=(cs.drop off).drop us'.length by rw [List.drop_drop],List.take_append_drop,List.take_append_drop]
    rw [h6,hul] at h5
    rw [← h5,← Array.foldl_toList,Array.toList_zipIdx]
section
variable {P:Program} {ops:Array Oper} {W0:cz} {N:Nat} {Fin:Us→Env→Prop} {os:List Oper} {us:Us} {pk fk:List Nat} {σ:Env} {g:Option (Nat × Bool)} {gk:List Nat} {d ty ty' f:Nat} {pos:String} {after:Array Edge} {at':Array TypeId}
theorem sGh {o:Oper} (K:List Nat) (up:Env) (hf:∀(σ':Env) (a:Act) (w:World),(∀κ∈K,al σ' κ=al σ κ)→Holds W0 N σ' a w→Holds W0 N (up++σ') a w) (h:Der P ops W0 N Fin (o :: os) us (K++pk) (up.map Prod.fst++fk) (up++σ)):Der P ops W0 N Fin (o :: os) us pk fk σ:=by
 obtain ⟨keys,upd,h1,h2⟩:=h
 refine ⟨keys++K,upd++up,fun σ' a w hk hh=>?_,by rw [List.append_assoc,List.append_assoc,List.map_append,List.append_assoc];exact h2⟩
 have h3:=h1 (up++σ') a w (fun κ hκ=>by
  by_cases hm:κ∈up.map Prod.fst
  ·rw [vu hm,vu hm]
  ·rw [i5 hm,i5 hm];exact hk κ (by simp [hκ])) (hf σ' a w (fun κ hκ=>hk κ (by simp [hκ])) hh)
 rw [List.append_assoc]
 exact h3
theorem Hs (i:Nat) {z e:Nat} {ds:List D} {o:Oper} (hn:∀d∈ds,xH d=true∧Fp d=true) (h:Der P ops W0 N Fin (o :: os) us ([i]++pk) ([i]++fk) ((i,.tk (.own (.l z ds) none none)) :: σ)) (hi:al σ i=some (.tk (.row z e ds)):=by rfl):Der P ops W0 N Fin (o :: os) us pk fk σ:=
 sGh [i] [(i,.tk (.own (.l z ds) none none))] (fun σ' a w hk ⟨c,hc⟩=>by
  have hi':=(hk i (by simp)).trans hi
  obtain ⟨hA,hT,hlt⟩:=hc.tok i _ hi'
  exact ⟨c,hc.upd2 hi' Chg.rfl' (fun _=>⟨Bz hn hT,fun p hp=>(by cases hp),fun p hp=>(by cases hp)⟩)⟩) h
theorem Jo (i:Nat) {z e:Nat} {C:Code} {Q:Exit→Act→World→Prop} (h:ar P W0 N C ((i,.tk (.grw z e [])) :: σ) Q) (hi:al σ i=some (.tk (.row z e [])):=by rfl):ar P W0 N C σ Q:=by
 intro a w ⟨c,hc⟩
 obtain ⟨hA,hT,hlt⟩:=hc.tok i _ hi
 exact h a w ⟨c,hc.upd2 hi Chg.rfl' (fun _=>Ar hT)⟩
theorem Iz (i:Nat) {z e:Nat} {x:Exit} {Q:Exit→Act→World→Prop} (h:At W0 N ((i,.tk (.grw z e [])) :: σ) x Q) (hi:al σ i=some (.tk (.row z e [])):=by rfl):At W0 N σ x Q:=by
 intro a w ⟨c,hc⟩
 obtain ⟨hA,hT,hlt⟩:=hc.tok i _ hi
 exact h a w ⟨c,hc.upd2 hi Chg.rfl' (fun _=>Ar hT)⟩
theorem av {xs:List (Nat × Operand)} {ps:List (Nat × Sy)} {ds0:List D} {v0:Value} {pls:List (Nat × Nat)} (h:Der P ops W0 N Fin os (us++[((d :: (gk++(cP (ps.flatMap fun p=>xh p.2)++kxp xs)))++pk,([d])++fk)]) [] [] ((d,.sy (.ag (Iy pls (kI ds0) ps))) :: σ)) (hx:evq σ xs=some ps:=by rfl) (hr:zd P 4 ty'=some (.t ds0):=by rfl) (hv:rh P ty'=some v0:=by rfl) (hz:zok (.t ds0) v0.cells.toList=true:=by rfl) (hp:plc P ty'=some pls:=by rfl) (hi:okG pls (kI ds0).length ps=true:=by rfl) (h1:(ps.all fun p=>Hf σ p.2)=true:=by rfl) (hg:gst ops σ g=some (true,gk):=by rfl) (hN:Nat.blt d N=true:=by rfl) (hs:aF σ d=true:=by rfl):Der P ops W0 N Fin (⟨some d,.build ty' xs.toArray,ty,pos,after,g⟩ :: os) us pk fk σ:=
 cr (.ag (Iy pls (kI ds0) ps)) (cP (ps.flatMap fun p=>xh p.2)++kxp xs) (fun σ' c a w hk hc=>by
  obtain ⟨h3,h4⟩:=Fq hc xs ps hx (fun κ hκ=>hk κ (by simp [hκ]))
  have hz0:Sy.oks c w (kI ds0) v0.cells.toList:=kA ds0 _ (n7 (.t ds0) _ hz)
  have hone:(ps.all fun p=>Hf σ' p.2)=true:=by
   rw [List.all_eq_true] at h1 ⊢
   intro p hm
   have:=h1 p hm
   have hks:∀κ∈cP (xh p.2),al σ' κ=al σ κ:=fun κ hκ=>hk κ (by
    rw [List.mem_append]
    left
    have:∀(l:List (Nat × Sy)),p∈l→κ∈cP (l.flatMap fun p=>xh p.2):=by
     intro l
     induction l with
     | nil=>intro h;cases h
     | cons x l ih=>
      intro h
      rw [List.flatMap_cons]
      have app:∀(a b:List Sy),cP (a++b)=cP a++cP b:=by
       intro a b
       induction a with
       | nil=>rfl
       | cons s a ih=>rw [List.cons_append,cP,ih,cP,List.append_assoc]
      rw [app,List.mem_append]
      rcases List.mem_cons.1 h with rfl|h
      ·exact .inl hκ
      ·exact .inr (ih h)
    exact this ps hm)
   obtain ⟨i,s⟩:=p
   have key:Hf σ' s=Hf σ s:=by
    cases s with
    | ag ss=>exact fo hks
    | d r=>
     cases r with
     | t ds=>rfl
     | _=>rfl
    | k j=>exact kG (fun κ hκ=>hks κ (by simpa [xh,cP] using hκ))
    | _=>rfl
   rw [key];exact this
  obtain ⟨cs',r1,r2⟩:=I5 hc ps _ (kI ds0) v0.cells.toList rfl hi hone hz0 h3 h4
  rw [Array.toArray_toList] at r1
  refine ⟨.agg cs'.toArray,?_,_,rfl,r2⟩
  refine dl (X:=Instr.build ty' (xs.toArray.map fun (i,x)=>(i,a.eval x))) (run_build w ty' _ _ (nO hv hp ?_))
  simpa using r1) h hg hN hs
theorem Jn {x:Operand} {z e:Nat} {ss:List Sy} {es:List D} {v0:Value} (r:D) (h:Der P ops W0 N Fin os (us++[((d :: (gk++((10000+d) :: (cP ss++kx x))))++pk,(d :: (((10000+d,In.tk (.grw z e [r])) :: (cP ss).map fun κ=>(κ,In.no)).map Prod.fst))++fk)]) [] [] ((d,.sy (.k (10000+d))) :: (((10000+d,.tk (.grw z e [r])) :: (cP ss).map fun κ=>(κ,.no))++σ))) (hx:ev σ x=some (.ag ss):=by rfl) (ho:jq σ ss=some es:=by rfl) (hr:Gf r=es:=by rfl) (hd:zV ss=true:=by rfl) (hf:al σ (10000+d)=none:=by rfl) (h1:ss.all (pu σ)=true:=by rfl) (he:elem? P ty'=some e:=by rfl) (hz:sizeOf? P e=some z:=by rfl) (hv:rh P e=some v0:=by rfl) (hvs:v0.cells.size=z:=by rfl) (hzz:(Nat.blt 0 z && Nat.ble z 1000)=true:=by rfl) (hl:ss.length=z:=by rfl) (hg:gst ops σ g=some (true,gk):=by rfl) (hN:Nat.blt d N=true:=by rfl) (hs:aF (((10000+d,In.tk (.grw z e [r])) :: (cP ss).map fun κ=>(κ,In.no))++σ) d=true:=by rfl) (hu:(((10000+d,In.tk (.grw z e [r])) :: (cP ss).map fun κ=>(κ,In.no)).all fun p=>!(Nat.beq p.1 d))=true:=by rfl):Der P ops W0 N Fin (⟨some d,.buildSlice ty' 1 #[(0,x)],ty,pos,after,g⟩ :: os) us pk fk σ:=by
 refine jy (.k (10000+d)) ((10000+d) :: (cP ss++kx x)) ((10000+d,.tk (.grw z e [r])) :: (cP ss).map fun κ=>(κ,.no)) (fun σ' c a w hk hc=>?_) h hg hN hs hu
 have hks:∀κ∈cP ss,al σ' κ=al σ κ:=fun κ hκ=>hk κ (by simp [hκ])
 have ho':=(kq ss hks).trans ho
 obtain ⟨us',e3,e4⟩:=ap hc (ah hx (fun κ hκ=>hk κ (by simp [hκ])))
 obtain ⟨hO,htk⟩:=Jc hc r ho' e4 hr hd
 have hul:us'.length=z:=(cM _ _ e4).trans hl
 rw [Bool.and_eq_true] at hzz
 have hz0:0<z:=Nat.blt_eq.mp hzz.1
 have hf':al σ' (10000+d)=none:=(hk _ (by simp)).trans hf
 unfold Oper.wp
 rw [rH (cs:=us') (zs:=[]) he hz hv hvs ⟨hz0,Nat.le_of_ble_eq_true hzz.2⟩ (by rw [e3];rfl) hul]
 have hX:Ext w (w.alloc (.cells us'.toArray e)):=(Ext.refl w).alloc _
 have hc1:=hc.grow hX c.F (fun _ h=>h) (fun _ h=>.inl h) (fun b hb=>Nat.lt_of_lt_of_le (hc.lt b hb) (Below.size hX))
 have hsz:(w.alloc (.cells us'.toArray e)).heap.size=w.heap.size+1:=World.size_alloc ..
 have hc2:=hc1.new (i:=10000+d) (t:=.abs (fun _ _ _ _=>True) none) (v:=.slice (some ⟨w.heap.size,0,none⟩) 1 1) (S:=fun b=>b=w.heap.size) hf' ⟨fun _ _ _ _ _ _=>trivial,fun u hu=>by cases hu⟩ (fun b hb=>⟨fun hF=>by subst hb;exact absurd (hc.lt _ hF) (Nat.lt_irrefl _),by subst hb;omega,.inr (by subst hb;exact hc.ext.size)⟩) (fun j u hj b hb hT=>by subst hb;exact absurd ((hc.tok j u hj).2.2 _ hT).2.1 (Nat.lt_irrefl _))
 have hne:∀κ∈cP ss,κ≠10000+d:=fun κ hκ e=>by
  obtain ⟨t,ht⟩:=htk κ hκ
  rw [e,hf'] at ht;cases ht
 have hT2:∀κ,κ≠10000+d→(c.add (10000+d) (.slice (some ⟨w.heap.size,0,none⟩) 1 1) (fun b=>b=w.heap.size)).T κ=c.T κ:=fun κ hκ=>if_neg hκ
 have hTd:(Cx.add c (10000+d) (.slice (some ⟨w.heap.size,0,none⟩) 1 1) (fun b=>b=w.heap.size)).T (10000+d)=(fun b=>b=w.heap.size):=if_pos rfl
 have hρd:(Cx.add c (10000+d) (.slice (some ⟨w.heap.size,0,none⟩) 1 1) (fun b=>b=w.heap.size)).ρ (10000+d)=.slice (some ⟨w.heap.size,0,none⟩) 1 1:=if_pos rfl
 have hlt:∀κ∈cP ss,∀b,c.T κ b→b<w.heap.size:=fun κ hκ b hb=>by
  obtain ⟨t,ht⟩:=htk κ hκ
  exact ((hc.tok κ t ht).2.2 b hb).2.1
 have hO':Ow (w.alloc (.cells us'.toArray e)) r (fun b=>∃κ,κ∈cP ss∧c.T κ b) us':=Ow.keep (Below.size hX) r _ _ us' (fun _ h=>h) (fun b _ hl=>hX.block b hl) hO
 have hc3:=hc2.eatM (u:=.grw z e [r]) (cP ss) (by rw [ab,if_pos rfl]) (fun κ hκ=>⟨hne κ hκ,by
  obtain ⟨t,ht⟩:=htk κ hκ
  exact ⟨t,by rw [ab,if_neg (Ne.symm (hne κ hκ))];exact ht⟩⟩) Chg.rfl' (fun _=>by
  rw [hρd]
  refine .inr ⟨us',fun j b=>j=0∧∃κ,κ∈cP ss∧c.T κ b,?_,fun g hg=>?_,fun j b hb=>?_,fun i j hij b hb hb'=>hij (hb.1.trans hb'.1.symm),fun j hj=>?_⟩
  ·have:=World.ownsRow_lit (base:=0) (e:=e) (size:=z) w us'.toArray 1 (Nat.zero_le _) (by decide) (by simp [hul])
   exact this
  ·cases hg
   refine ⟨.inl (by rw [hTd]),fun j hj=>?_⟩
   obtain ⟨_,κ,q1,q2⟩:=hj
   exact Nat.lt_irrefl _ (hlt κ q1 _ q2)
  ·obtain ⟨_,κ,q1,q2⟩:=hb
   exact ⟨.inr ⟨κ,q1,by rw [hT2 κ (hne κ q1)];exact q2⟩,by have:=hlt κ q1 b q2;omega⟩
  ·have hj0:j=0:=by simpa using hj
   subst hj0
   exact ⟨us',hul,Ow.keep (Nat.le_refl _) r _ _ us' (fun b hb=>⟨rfl,hb⟩) (fun _ _ _=>rfl) hO',fun t u ht=>by rw [Nat.zero_mul,Nat.zero_add];exact ht⟩)
 refine ⟨_,_,rfl,hc3.congr (fun κ=>?_),.inr rfl,?_⟩
 ·rw [List.cons_append,ab,List.cons_append,ab]
  split
  ·rfl
  ·rename_i hκ
   rw [eW,eW,ab,if_neg hκ]
 ·exact hρd.symm
theorem aP {x y:Operand} {i j e n:Nat} {ds:List D} {y0:D} {ti:TypeInfo} {z:Value} (h:Der P ops W0 N Fin os (us++[((d :: (gk++(i :: j :: (10000+d) :: (kx x++kx y))))++pk,([d,10000+d,i,j])++fk)]) [] [] ((d,.sy (.k (10000+d))) :: (10000+d,.tk (.grw n e (ds++[y0]))) :: (i,.no) :: (j,.no) :: σ)) (hx:ev σ x=some (.k i):=by rfl) (hi:al σ i=some (.tk (.grw n e ds)):=by rfl) (hy:ev σ y=some (.k j):=by rfl) (hj:al σ j=some (.tk (.grw n e [y0])):=by rfl) (hf:al σ (10000+d)=none:=by rfl) (he:elem? P ty'=some e:=by rfl) (hti:P.info? e=some ti:=by rfl) (htz:ti.zero=some z:=by rfl) (hsz:ti.size=n:=by rfl) (hzs:z.cells.size=n:=by rfl) (hn:(Nat.blt 0 n && Nat.ble ti.bytes 1000)=true:=by rfl) (hb:ds.length≤1000000:=by first|omega|(simp only [List.length_map,List.length_take];omega)) (hg:gst ops σ g=some (true,gk):=by rfl) (hN:Nat.blt d N=true:=by rfl) (hs:aF ((10000+d,.tk (.grw n e (ds++[y0]))) :: (i,.no) :: (j,.no) :: σ) d=true:=by rfl) (hu:(Nat.beq (10000+d) d || Nat.beq i d || Nat.beq j d || Nat.beq i (10000+d) || Nat.beq j (10000+d) || Nat.beq i j)=false:=by rfl):Der P ops W0 N Fin (⟨some d,.call { callee:=.builtin .append,args:=#[x,y],argTypes:=#[ty',ty'] },ty,pos,after,g⟩ :: os) us pk fk σ:=by
 simp only [Bool.or_eq_false_iff] at hu
 obtain ⟨⟨⟨⟨⟨hu1,hu2⟩,hu3⟩,hu4⟩,hu5⟩,hu6⟩:=hu
 refine jy (.k (10000+d)) (i :: j :: (10000+d) :: (kx x++kx y)) [(10000+d,.tk (.grw n e (ds++[y0]))),(i,.no),(j,.no)] (fun σ' c a w hk hc=>?_) h hg hN hs (by simp [hu1,hu2,hu3])
 rw [Bool.and_eq_true] at hn
 have hn0:0<n:=Nat.blt_eq.mp hn.1
 have hij:¬i=j:=fun e=>by rw [e] at hu6;simp at hu6
 have hi':=(hk i (by simp)).trans hi
 have hj':=(hk j (by simp)).trans hj
 obtain ⟨hAi,hxv⟩:=ap hc (ah hx (fun κ hκ=>hk κ (by simp [hκ])))
 obtain ⟨hAj,hyv⟩:=ap hc (ah hy (fun κ hκ=>hk κ (by simp [hκ])))
 obtain ⟨_,hTi,hlt⟩:=hc.tok i _ hi'
 obtain ⟨_,hTj,hltj⟩:=hc.tok j _ hj'
 rcases hTj with ⟨hd,_⟩|⟨news,Tj,jown,jS,jT,jdis,jel⟩
 ·cases hd
 obtain ⟨cs0,q1,q2,q3⟩:=jel 0 (by simp)
 have hnl:news.length=1 * n:=jown.1
 have hncs:news=cs0:=by
  apply List.ext_getElem?
  intro t
  rcases Nat.lt_or_ge t cs0.length with ht|ht
  ·rw [List.getElem?_eq_getElem ht]
   have:=q3 t _ (List.getElem?_eq_getElem ht)
   rw [Nat.zero_mul,Nat.zero_add] at this;exact this
  ·rw [List.getElem?_eq_none ht,List.getElem?_eq_none (by omega)]
 have hnone:∀u∈news,u.oneCell'=true:=by rw [hncs];exact Rp.one _ _ (Ow.rp _ _ _ q2)
 obtain ⟨g',k',hvj⟩:∃g' k',c.ρ j=.slice (some ⟨g',0,none⟩) 1 k':=by
  rcases jown.2 with ⟨_,hn'⟩|⟨g',k',_,hv,_⟩
  ·simp at hn'
  ·exact ⟨g',k',hv⟩
 have hnc:∀t u,news[t]? = some u→w.cell? ((⟨g',0,none⟩:Addr).add t)=some u:=jown.cells (by rw [hvj];rfl)
 obtain ⟨v',w',cells,T,hrun,own',hcl,hch,hob,hT1,hT2,hT3⟩:∃(v':Value) (w':World) (cells:List Value) (T:Nat→BS),(Builtin.append_ #[ty',ty'] ty #[a.eval x,c.ρ j]).run P w=.ok v' w'∧w'.ownsRow 0 e n v' (ds.length+1) (cells++news)∧cells.length=ds.length * n∧Chg (c.T i) w w'∧(∀b,v'.ownBlock=some b→c.T i b∨b=w.heap.size) ∧
  (∀k b,T k b→c.T i b∧b<w.heap.size∧v'.ownBlock≠some b∧w'.heap[b]? = w.heap[b]?)∧(∀k l,k≠l→∀b,T k b→¬T l b)∧(∀k (h:k<ds.length),∃cs,cs.length=n∧Ow w ds[k] (T k) cs∧∀t u,cs[t]? = some u→cells[k * n+t]? = some u):=by
  rcases hTi with ⟨hd,a0,hv0⟩|⟨cells,T,own,hS,hT,hdis,hel⟩
  ·subst hd
   obtain ⟨v',w',r1,r2,r3,r4⟩:=kc (P:=P) (ty:=ty) he hti htz hsz hzs hn0 a0 ⟨g',0,none⟩ 1 k' news hnl hnc hnone (by decide) (by have:=Nat.le_of_ble_eq_true hn.2;omega) (by decide)
   refine ⟨v',w',[],fun _ _=>False,?_,by simpa using r2,by simp,Chg.grown r3 (fun g hg=>by cases hg),fun b hb=>.inr (r4 b hb),fun k b hb=>hb.elim,fun k l _ b hb=>hb.elim,fun k hk'=>absurd hk' (Nat.not_lt_zero _)⟩
   rw [hxv,hv0,hvj];exact r1
  ·rw [← hxv] at own hS
   have hmb:(ds.length+1) * ti.bytes≤140737488355328:=by
    have:(ds.length+1) * ti.bytes≤1000001 * 1000:=Nat.mul_le_mul (by omega) (Nat.le_of_ble_eq_true hn.2)
    omega
   obtain ⟨v',w',r1,r2,r3,_,r5⟩:=run_append_own_at (P:=P) w 0 ty' ty e ti z n ti.bytes (dE he) hti htz hsz rfl hzs hn0 (a.eval x) ds.length cells own ⟨g',0,none⟩ 1 k' news hnl hnc hnone (by unfold maxLen;omega) hmb (Nat.zero_le _)
   have hne:∀k b,T k b→some b≠(a.eval x).ownBlock:=fun k b hb e=>(hS b e.symm).2 k hb
   refine ⟨v',w',cells,T,by rw [hvj];exact r1,r2,own.1,Chg.grown r3 (fun g hg=>(hS g hg).1),fun b hb=>?_,fun k b hb=>?_,hdis,hel⟩
   ·rcases r5 with r5|r5
    ·exact .inl (hS b (by rw [← r5];exact hb)).1
    ·rw [r5] at hb;cases hb;exact .inr rfl
   ·obtain ⟨t1,t2⟩:=hT k b hb
    refine ⟨t1,t2,fun e=>?_,r3.block b t2 (hne k b hb)⟩
    rcases r5 with r5|r5
    ·exact hne k b hb (by rw [← r5,e])
    ·rw [r5] at e;cases e;exact Nat.lt_irrefl _ t2
 have hex:(execOp a.eval ⟨some d,.call { callee:=.builtin .append,args:=#[x,y],argTypes:=#[ty',ty'] },ty,pos,after,g⟩).run P w=.ok (.value v') w':=by
  generalize a.eval=ρ at *
  simp [execOp,resolve,invoke,builtin,hyv,hrun,Result.andThen]
 have hi1:al ((j,.no) :: σ') i=some (.tk (.grw n e ds)):=by rw [ab,if_neg (Ne.symm hij)];exact hi'
 have hc1:=hc.eff (τ:=[]) hj' ⟨rfl,rfl,rfl,Nat.le_refl _,fun _ _ _=>rfl⟩ c.F (fun _ h=>h) (fun _ h=>.inl h) hc.lt
 have hc2:=hc1.eff (τ:=[]) hi1 hch c.F (fun _ h=>h) (fun _ h=>.inl h) (fun b hb=>Nat.lt_of_lt_of_le (hc.lt b hb) hch.size)
 have hne1:¬i=10000+d:=fun e=>by rw [e] at hu4;simp at hu4
 have hne2:¬j=10000+d:=fun e=>by rw [e] at hu5;simp at hu5
 have hjk:∀b,c.T j b→w'.heap[b]? = w.heap[b]?:=fun b hb=>hch.block b (hltj b hb).2.1 (fun hb'=>hc.off i j _ _ hi' hj' hij b hb' hb)
 unfold Oper.wp
 rw [hex]
 have hnew:=hc2.new (i:=10000+d) (by rw [ab,if_neg hne1,ab,if_neg hne2,hk _ (by simp),hf]) (t:=.grw n e (ds++[y0])) (v:=v') (S:=fun b=>v'.ownBlock=some b∨(∃k,T k b)∨∃k,Tj k b) (.inr ⟨cells++news,fun k b=>if k<ds.length then T k b else Tj (k - ds.length) b,by rw [List.length_append];exact own',fun g hg=>⟨.inl hg,fun k hk'=>?_⟩,fun k b hb=>?_,fun k l hkl b hb hb'=>?_,fun k hk'=>?_⟩) (fun b hb=>?_) (fun j'' u hj'' b hb hb'=>?_)
 ·exact ⟨v',_,rfl,hnew,.inr rfl,(if_pos rfl).symm⟩
 ·dsimp only at hk'
  by_cases hkl:k<ds.length
  ·rw [if_pos hkl] at hk'
   exact (hT1 k g hk').2.2.1 hg
  ·rw [if_neg hkl] at hk'
   have h1:=(jT _ g hk').1
   rcases hob g hg with h2|h2
   ·exact hc.off i j _ _ hi' hj' hij g h2 h1
   ·have:=(jT _ g hk').2;omega
 ·dsimp only at hb
  by_cases hkl:k<ds.length
  ·rw [if_pos hkl] at hb
   obtain ⟨t1,t2,t3,t4⟩:=hT1 k b hb
   exact ⟨.inr (.inl ⟨k,hb⟩),Nat.lt_of_lt_of_le t2 hch.size⟩
  ·rw [if_neg hkl] at hb
   obtain ⟨t1,t2⟩:=jT _ b hb
   exact ⟨.inr (.inr ⟨_,hb⟩),Nat.lt_of_lt_of_le t2 hch.size⟩
 ·dsimp only at hb hb'
  by_cases h1:k<ds.length <;> by_cases h2:l<ds.length
  ·rw [if_pos h1] at hb;rw [if_pos h2] at hb';exact hT2 k l hkl b hb hb'
  ·rw [if_pos h1] at hb;rw [if_neg h2] at hb';exact hc.off i j _ _ hi' hj' hij b (hT1 k b hb).1 (jT _ b hb').1
  ·rw [if_neg h1] at hb;rw [if_pos h2] at hb';exact hc.off i j _ _ hi' hj' hij b (hT1 l b hb').1 (jT _ b hb).1
  ·rw [if_neg h1] at hb;rw [if_neg h2] at hb';exact jdis _ _ (by omega) b hb hb'
 ·by_cases hkl:k<ds.length
  ·obtain ⟨cs,p1,p2,p3⟩:=hT3 k hkl
   refine ⟨cs,p1,?_,fun t u ht=>?_⟩
   ·rw [List.getElem_append_left hkl]
    exact Ow.keep hch.size _ _ _ _ (fun b hb=>by (try dsimp only);rw [if_pos hkl];exact hb) (fun b hb _=>(hT1 k b hb).2.2.2) p2
   ·have:=p3 t u ht
    rw [List.getElem?_append_left]
    ·exact this
    ·rcases Nat.lt_or_ge (k * n+t) cells.length with h|h
     ·exact h
     ·rw [List.getElem?_eq_none h] at this;cases this
  ·have hke:k=ds.length:=by simp at hk';omega
   subst hke
   refine ⟨cs0,q1,?_,fun t u ht=>?_⟩
   ·rw [List.getElem_append_right (Nat.le_refl _)]
    simp only [Nat.sub_self,List.getElem_cons_zero]
    exact Ow.keep hch.size _ _ _ _ (fun b hb=>by (try dsimp only);rw [if_neg hkl];first|exact hb|(rw [Nat.sub_self];exact hb)) (fun b hb _=>hjk b (jT 0 b hb).1) q2
   ·have:=q3 t u ht
    rw [List.getElem?_append_right (by omega),hcl,show ds.length * n+t - ds.length * n=t by omega]
    rw [Nat.zero_mul,Nat.zero_add] at this;exact this
 ·rcases hb with hb|⟨k,hb⟩|⟨k,hb⟩
  ·rcases hob b hb with h1|h1
   ·exact ⟨(hlt b h1).1,Nat.lt_of_lt_of_le (hlt b h1).2.1 hch.size,(hlt b h1).2.2⟩
   ·subst h1
    exact ⟨fun hF=>absurd (hc.lt _ hF) (Nat.lt_irrefl _),(own'.lt _ hb).2,.inr hc.ext.size⟩
  ·have h1:=(hT1 k b hb).1
   exact ⟨(hlt b h1).1,Nat.lt_of_lt_of_le (hlt b h1).2.1 hch.size,(hlt b h1).2.2⟩
  ·have h1:=(jT k b hb).1
   exact ⟨(hltj b h1).1,Nat.lt_of_lt_of_le (hltj b h1).2.1 hch.size,(hltj b h1).2.2⟩
 ·have hj3:¬i=j''∧¬j=j''∧al σ' j''=some (.tk u):=by
   rw [ab] at hj''
   split at hj''
   ·cases hj''
   ·rename_i e1
    rw [ab] at hj''
    split at hj''
    ·cases hj''
    ·rename_i e2;exact ⟨e1,e2,hj''⟩
  obtain ⟨e2,e1,hj3⟩:=hj3
  rcases hb with hb|⟨k,hb⟩|⟨k,hb⟩
  ·rcases hob b hb with h1|h1
   ·exact hc.off i j'' _ u hi' hj3 e2 b h1 hb'
   ·subst h1;exact absurd ((hc.tok j'' u hj3).2.2 _ hb').2.1 (Nat.lt_irrefl _)
  ·exact hc.off i j'' _ u hi' hj3 e2 b (hT1 k b hb).1 hb'
  ·exact hc.off j j'' _ u hj' hj3 e1 b (jT k b hb).1 hb'
theorem bS {x:Operand} {z i e':Nat} {xs:List D} {t e:Nat} (h:Der P ops W0 N Fin os (us++[((d :: (gk++(i :: kx x)))++pk,([d])++fk)]) [] [] ((d,.sy (.d (.i xs.length))) :: σ)) (hx:ev σ x=some (.k i):=by rfl) (hi:al σ i=some (.tk (.grw z e' xs)):=by rfl) (ht:elem? P t=some e:=by rfl) (hg:gst ops σ g=some (true,gk):=by rfl) (hN:Nat.blt d N=true:=by rfl) (hs:aF σ d=true:=by rfl):Der P ops W0 N Fin (⟨some d,.call { callee:=.builtin .len,args:=#[x],argTypes:=#[t] },ty,pos,after,g⟩ :: os) us pk fk σ:=
 cr (.d (.i xs.length)) (i :: kx x) (fun σ' c a w hk hc=>by
  obtain ⟨_,h1⟩:=ap hc (ah hx (fun κ hκ=>hk κ (by simp [hκ])))
  obtain ⟨_,hT,_⟩:=hc.tok i _ ((hk i (by simp)).trans hi)
  rcases hT with ⟨hd,a',hv⟩|⟨cells,T,h2,_,_⟩
  ·exact ⟨.int .i64 xs.length,by rw [hd];exact gw ht (h1.trans hv),by rw [hd];exact ⟨rfl,by unfold I64;decide⟩⟩
  rw [← h1] at h2
  rcases h2.2 with ⟨hv,hn⟩|⟨g',cap,cur,hv,_,_,h5,h6,_⟩
  ·exact ⟨.int .i64 xs.length,by rw [hn];exact gw ht hv,by simp [Sy.ok,DV,Rp,hn];unfold I64;decide⟩
  ·exact ⟨.int .i64 xs.length,gw ht hv,by simp [Sy.ok,DV,Rp];exact I64.nat (by omega)⟩) h hg hN hs
end
section
variable {P:Program} {ops:Array Oper} {W0:cz} {N:Nat} {Fin:Us→Env→Prop} {os:List Oper} {us:Us} {pk fk:List Nat} {σ:Env} {g:Option (Nat × Bool)} {gk:List Nat} {d ty ty' f:Nat} {pos:String} {after:Array Edge}
end
end Go.Proofs.YtnobdioccfeokaaGreatDoor
namespace Go.Proofs.YtnobdioccfeokaaGreatDoor
open Go.RowKit
set_option linter.unusedVariables false
set_option linter.unusedSimpArgs false
set_option maxRecDepth 100000
set_option maxHeartbeats 4000000
attribute [local irreducible] ar Der At
theorem Gk {r a:Big} (h:(Ei r a).2=false):400<(qK r a).length:=by
 unfold Ei at h
 split at h
 ·assumption
 ·cases h
theorem Dm {r a:Big} (h:(Ei r a).2=true):¬400<(qK r a).length∧(Ei r a).1=qK r a:=by
 unfold Ei at h ⊢
 split at h
 ·cases h
 ·rename_i h2;rw [if_neg h2];exact ⟨h2,rfl⟩
theorem A0 {sig:List Ctl} {rs:List Rul} {a:Big} (hr:dv sig rs=true) (ha:ft sig a=true):FnO Tryz.prog 26 [.l 3 (sig.map Ctl.D),.l 13 (rs.map Rul.D),a.D] [0,0] [.tk (.grw 9 104 ((cX (de sig a rs 0 [])).1.map Stp.D)),.d (.b (cX (de sig a rs 0 [])).2)]:=by
 have hrs:=List.all_eq_true.1 (Bool.and_eq_true_iff.1 hr).2
 have hrl:=bB (Bool.and_eq_true_iff.1 hr).1
 have hA:=tn ha
 refine cT Tryz.func26 (fun hw W0=>?_)
 refine dY ?_
 refine dq ?_
 refine CU ?_
 refine dB (bo ?_)
 refine dY ?_
 refine dq ?_
 refine CU ?_
 refine dB (bo ?_)
 refine Jo 10017 ?_
 refine kgo ?_
 refine ai [0,5,18,19] (fun x:Nat × List Stp=>x.1≤rs.length∧x.2.length≤400 * x.1∧de sig a rs 0 []=de sig a (rs.drop x.1) x.1 x.2) (fun x=>rs.length - x.1) (fun x=>[(20,.sy (.d (.i x.1))),(8,.sy (.k 20001)),(20001,.tk (.grw 9 104 (x.2.map Stp.D)))]) (0,[]) ⟨Nat.zero_le _,Nat.zero_le _,rfl⟩ (fun x hx=>?_)
 obtain ⟨i,out⟩:=x
 obtain ⟨hi,hol,hst⟩:=hx
 dsimp only at hi hol hst ⊢
 rw [hst]
 refine kgo ?_
 refine aJ (fun h=>?_) (fun h=>?_)
 rotate_left
 ·obtain rfl:i=rs.length:=by omega
  rw [List.drop_eq_nil_of_le (Nat.le_refl _),show cX (de sig a [] rs.length out)=(out,true) from rfl]
  refine kgo ?_
  exact ik (hp:=.cons (.k rfl rfl) (.cons (.d rfl) .nil))
 have hlt:i<rs.length:=by omega
 rw [sm i hlt]
 obtain ⟨r1,r2,r3,r4,r5,r6,r7,r8⟩:=jc (hrs _ (List.getElem_mem hlt))
 have f1:=tV r1 hA r3
 have hall:=qM (r:=(rs[i]).redex) (a:=a)
 have hno:=Gk (r:=(rs[i]).redex) (a:=a)
 have hyes:=Dm (r:=(rs[i]).redex) (a:=a)
 refine kgo ?_
 cases h2:(Ei (rs[i]).redex a).2
 ·rw [if_pos (hno h2)]
  refine kgo ?_
  refine Cn 6 30006 104 ?_
  refine Iz 30006 ?_
  exact ik (hp:=.cons (.k rfl rfl) (.cons (.d rfl) .nil))
 obtain ⟨hn,he⟩:=hyes h2
 have hml:=xr (rs[i]).redex a
 rw [if_neg hn,he]
 clear hno hyes he
 generalize qK (rs[i]).redex a=ms at *
 refine kgo ?_
 refine ai [0,5,9,10,18,19,20,34,35] (fun x:Nat × List Stp=>x.1≤ms.length∧x.2.length≤400 * i+x.1∧(jQ sig rs[i] a i ms out).bind (de sig a (rs.drop (i+1)) (i+1))=(jQ sig rs[i] a i (ms.drop x.1) x.2).bind (de sig a (rs.drop (i+1)) (i+1))) (fun x=>ms.length - x.1) (fun x=>[(36,.sy (.d (.i x.1))),(8,.sy (.k 20001)),(20001,.tk (.grw 9 104 (x.2.map Stp.D)))]) (0,out) ⟨Nat.zero_le _,hol,rfl⟩ (fun x hx=>?_)
 obtain ⟨j,o⟩:=x
 obtain ⟨hj,hoj,hsj⟩:=hx
 dsimp only at hj hoj hsj ⊢
 rw [hsj]
 refine kgo ?_
 refine aJ (fun h3=>?_) (fun h3=>?_)
 rotate_left
 ·obtain rfl:j=ms.length:=by omega
  rw [List.drop_eq_nil_of_le (Nat.le_refl _)] at hsj ⊢
  refine kgo ?_
  exact aa (i+1,o) ⟨hlt,by show o.length≤400 * (i+1);omega,rfl⟩ (by show _ - (i+1)<_ - i;omega)
 have hjl:j<ms.length:=by omega
 have hm:=hall _ (List.getElem_mem hjl)
 have f2:=yr hA ms[j] (fun p hp=>(mv (cW hm).2.1 p hp).2)
 have hat:=th (sig:=sig) (r:=rs[i]) (a:=a) (k:=i) j hjl o
 refine kgo ?_
 refine cIf (fun h4=>?_) (fun h4=>?_)
 ·rw [Bool.not_eq_true'] at h4
  rw [hat,h4]
  refine kgo ?_
  exact aa (j+1,o) ⟨hjl,by show o.length≤400 * i+(j+1);omega,rfl⟩ (by show _ - (j+1)<_ - j;omega)
 rw [Bool.not_eq_false'] at h4
 rw [hat,h4,if_pos rfl]
 have f3:=Az (sig:=sig) ms[j] (hrs _ (List.getElem_mem hlt)) hA hm
 refine kgo ?_
 refine cIf (fun h5=>?_) (fun h5=>?_)
 ·rw [Bool.not_eq_true'] at h5
  rw [h5]
  refine kgo ?_
  refine Cn 6 30006 104 ?_
  refine Iz 30006 ?_
  exact ik (hp:=.cons (.k rfl rfl) (.cons (.d rfl) .nil))
 rw [Bool.not_eq_false'] at h5
 rw [h5,if_pos rfl]
 have hni:ms[j].nodes.length≤1000:=by
  have:=(jk (cW hm).1).len
  have:=(bw r1).nodes
  omega
 have hrl2:=kz (rs:=ms[j].roots) (ns:=ms[j].nodes) (cW hm).2.1
 have hr0:=bl r1
 have f4:=qi ms[j] hni (by omega)
 refine Js 31050 ?_
 refine nH (ds:=(fL sig rs[i] a ms[j]).1.sites.map D.i) 32050 (fun d hd=>by obtain ⟨n,_,rfl⟩:=List.mem_map.1 hd;exact ⟨rfl,rfl⟩) ?_
 refine nH (ds:=(fL sig rs[i] a ms[j]).1.outer.map D.s) 34050 (fun d hd=>by obtain ⟨n,_,rfl⟩:=List.mem_map.1 hd;exact ⟨rfl,rfl⟩) ?_
 refine nH (ds:=(fL sig rs[i] a ms[j]).1.inner.map Wr.D) 35050 (fun d hd=>by obtain ⟨n,_,rfl⟩:=List.mem_map.1 hd;exact ⟨rfl,rfl⟩) ?_
 refine kgo ?_
 refine Hs (ds:=ms[j].nodes.map D.i) 30058 (fun d hd=>by obtain ⟨n,_,rfl⟩:=List.mem_map.1 hd;exact ⟨rfl,rfl⟩) ?_
 refine Hs (ds:=ms[j].roots.map D.i) 31058 (fun d hd=>by obtain ⟨n,_,rfl⟩:=List.mem_map.1 hd;exact ⟨rfl,rfl⟩) ?_
 (try refine av ?_)
 refine Jn (Stp.D (Stp.mk (i:Int) ms[j] (fL sig rs[i] a ms[j]).1)) ?_
 (try refine aP ?_)
 have hs:(o++[Stp.mk (i:Int) ms[j] (fL sig rs[i] a ms[j]).1]).map Stp.D=o.map Stp.D++[Stp.D (Stp.mk (i:Int) ms[j] (fL sig rs[i] a ms[j]).1)]:=List.map_append
 refine kgo ?_
 exact aa (j+1,o++[Stp.mk (i:Int) ms[j] (fL sig rs[i] a ms[j]).1]) ⟨hjl,by show (o++_).length≤400 * i+(j+1);rw [List.length_append,List.length_singleton];omega,rfl⟩ (by show _ - (j+1)<_ - j;omega) (hs:=⟨⟨rfl,rfl⟩,⟨rfl,rfl⟩,⟨H6 rfl hs.symm,rfl⟩,by repeat (first|exact trivial|refine ⟨⟨rfl,rfl⟩,?_⟩)⟩)
end Go.Proofs.YtnobdioccfeokaaGreatDoor
