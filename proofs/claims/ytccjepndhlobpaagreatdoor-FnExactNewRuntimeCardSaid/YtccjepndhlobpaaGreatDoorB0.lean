/-
  Plain facts and facts on memory that the walks lean on.
-/
import Derived.WalkKit
import Derived.Lib.Hide
import Derived.Deep.QuietTactic
import Derived.BigQuiet
import Derived.Lib.Strings
import Derived.Lib.IndexMore
import Derived.Lib.Bytealg
import Derived.Lib.ItoaNum
import Derived.Lib.ItoaMem
import Derived.Lib.ItoaLen
import Derived.Lib.LaidTab
import Derived.Sort.Grow
import Derived.Deep.RegionHeld3
import Derived.KernelRfl
import Derived.Lib.SmallJoins
import Derived.Deep.AppendLies
import Derived.Maps.AppendAt
import Derived.Laws.AppendOwnNone
import Derived.WideShapes
import Derived.ChangeSlices
import Derived.OpenShut
/-
  Plain laws on bytes and numbers, with no program in sight.
-/
namespace Go.Proofs.YtccjepndhlobpaaGreatDoor
open Go.RowKit
set_option linter.unusedVariables false
set_option linter.unusedSimpArgs false

theorem ret_bool {a b:Bool} (h:a=b):Ending.returned (.bool a)=.returned (.bool b):=by rw [h]
theorem ret_int {k:IntKind} {a b:Int} (h:a=b):Ending.returned (.int k a)=.returned (.int k b):=by rw [h]
theorem ret_str {a b:ByteArray} (h:a=b):Ending.returned (.string a)=.returned (.string b):=by rw [h]
theorem ret_tup {a b:Array Value} (h:a=b):Ending.returned (.tuple a)=.returned (.tuple b):=by rw [h]
theorem ret_sb {a b:ByteArray} {x y:Bool} (h:a=b) (k:x=y):Ending.returned (.tuple #[.string a,.bool x])=.returned (.tuple #[.string b,.bool y]):=by rw [h,k]
theorem take_snoc (s:ByteArray) (k:Nat) (h:k<s.size):s.data.toList.take (k+1)=s.data.toList.take k++[s[k]]:=by
 rw [List.take_succ_eq_append_getElem (by simpa using h)];rfl
theorem take_all (s:ByteArray) (k:Nat) (h:¬k<s.size):s.data.toList.take k=s.data.toList:=
 List.take_of_length_le (by simp;omega)
theorem all_at (s:ByteArray) (p:UInt8→Bool) (k:Nat) (h:k<s.size) (hp:p s[k]=false):s.data.toList.all p=false:=by
 rw [List.all_eq_false]
 refine ⟨s[k],?_,by simp [hp]⟩
 exact List.getElem_mem (l:=s.data.toList) (n:=k) (by simpa using h)
theorem any_at (s:ByteArray) (p:UInt8→Bool) (k:Nat) (h:k<s.size) (hp:p s[k]=true):s.data.toList.any p=true:=by
 rw [List.any_eq_true]
 exact ⟨s[k],List.getElem_mem (l:=s.data.toList) (n:=k) (by simpa using h),hp⟩
theorem byte_lt (s:ByteArray) (k:Nat) (h:k<s.size):(s[k].toNat:Int)<256:=by have:=s[k].toNat_lt;omega

/-- Behind a call that leaves what was there: every old cell and mark reads as it did. -/
theorem bcell {W w1:World} (hb:Below W.heap.size W w1):(∀b o,b<W.heap.size→w1.cell? ⟨b,o,none⟩=W.cell? ⟨b,o,none⟩)∧(∀b o,b<W.heap.size→w1.frozen? ⟨b,o,none⟩=W.frozen? ⟨b,o,none⟩):=
 ⟨fun b o h=>hb.cell (p:=⟨b,o,none⟩) h,fun b o h=>hb.frozen (p:=⟨b,o,none⟩) h⟩

/-- What was there is as it was; there may be more. -/
def Ext (a w:World):Prop:=Below a.heap.size a w
theorem Ext.refl (a:World):Ext a a:=Below.refl _ _
theorem Ext.alloc {a w:World} (h:Ext a w) (o:Obj):Ext a (w.alloc o):=Below.alloc h (Below.size h) o
theorem Ext.drew {a w:World} (h:Ext a w):Ext a w.drew:=Below.drew h
theorem Ext.drewN {a w:World} (h:Ext a w):∀n,Ext a (w.drewN n):=fun n=>⟨h.os,h.tape,h.output,h.size,h.block⟩
theorem Ext.trans {a b c:World} (h:Ext a b) (k:Ext b c):Ext a c:=Below.trans h (Below.mono k (Below.size h))
theorem Ext.setCell {a w:World} (h:Ext a w) {p:Addr} (hp:a.heap.size≤p.block) (u:Value):Ext a (w.setCell p u):=Below.setCell h hp u
/-- A cell of which nothing is said. -/
def farCell (w:World) (b o:Nat):Option Value:=w.cell? ⟨b,o,none⟩
def farMark (w:World) (b o:Nat):Bool:=w.frozen? ⟨b,o,none⟩
theorem Ext.cells {W w1:World} (hb:Ext W w1):(∀b o,w1.cell? ⟨b,o,none⟩=if b<W.heap.size then W.cell? ⟨b,o,none⟩ else farCell w1 b o)∧(∀b o,w1.frozen? ⟨b,o,none⟩=if b<W.heap.size then W.frozen? ⟨b,o,none⟩ else farMark w1 b o)∧W.heap.size≤w1.heap.size:=by
 refine ⟨fun b o=>?_,fun b o=>?_,Below.size hb⟩
 ·split
  ·exact (bcell hb).1 b o (by assumption)
  ·rfl
 ·split
  ·exact (bcell hb).2 b o (by assumption)
  ·rfl

@[go_sem low] theorem cell_alloc_if (w:World) (c:Array Value) (t:TypeId) (n i:Nat):(w.alloc (.cells c t)).cell? ⟨n,i,none⟩=if n=w.heap.size then c[i]? else w.cell? ⟨n,i,none⟩:=by
 split
 ·rename_i h;exact World.cell?_alloc_at c t n i h
 ·rename_i h;exact World.cell?_alloc_old _ _ (a:=⟨n,i,none⟩) h
@[go_sem low] theorem frozen_alloc_if (w:World) (c:Array Value) (t:TypeId) (n i:Nat):(w.alloc (.cells c t)).frozen? ⟨n,i,none⟩=if n=w.heap.size then false else w.frozen? ⟨n,i,none⟩:=by
 split
 ·rename_i h;exact World.frozen?_alloc_at c t n i h
 ·rename_i h;exact World.frozen?_alloc_old _ _ (a:=⟨n,i,none⟩) h

/-- A number lies in a range. -/
def inR (n a b:Int):Bool:=decide (a≤n) && decide (n≤b)
/-- A byte that may stand in a record. -/
def okByte (c:UInt8):Bool:=inR (c.toNat:Int) 32 126 && !((c.toNat:Int) == 35)
def printed (s:ByteArray):Bool:=s.data.toList.all okByte
def hasByte (s:ByteArray) (b:Int):Bool:=s.data.toList.any (fun c=>(c.toNat:Int) == b)
def fits (s:ByteArray) (m:Int):Bool:=decide ((s.size:Int)≤m)
def someB (s:ByteArray):Bool:=!s.data.toList.isEmpty
def cmdB (c:ByteArray):Bool:=inR (c.size:Int) 1 160 && printed c && !hasByte c 64
/-- A record is valid. -/
def recB (c r:ByteArray):Bool:=cmdB c && fits r 200 && printed r

theorem recB_spec (c r:ByteArray):recB c r=(someB c && (printed c && fits c 160) && !hasByte c 64 && (printed r && fits r 200)):=by
 have h:inR (c.size:Int) 1 160=(someB c && fits c 160):=by
  unfold inR someB fits
  have e:c.size=c.data.toList.length:=by simp
  rw [e]
  cases c.data.toList <;> simp;omega
 unfold recB cmdB
 rw [h]
 cases someB c <;> cases printed c <;> cases fits c 160 <;> cases hasByte c 64 <;> cases printed r <;> cases fits r 200 <;> rfl
theorem indexByte_nonneg (l:List UInt8) (b:UInt8):decide (0≤Lib.indexByte l b)=l.any (fun c=>(c.toNat:Int) == (b.toNat:Int)):=by
 induction l with
 | nil=>rfl
 | cons c l ih=>
  have g:=Lib.indexByte_ge l b
  unfold Lib.indexByte
  rw [List.any_cons,← ih]
  by_cases h:c=b
  ·subst h;simp
  ·have h':(c == b)=false:=by simpa using h
   have h2:((c.toNat:Int) == (b.toNat:Int))=false:=by
    simp only [beq_eq_false_iff_ne,ne_eq,Int.natCast_inj]
    exact fun e=>h (UInt8.toNat_inj.1 e)
   rw [h',h2]
   by_cases h3:Lib.indexByte l b = -1
   ·simp [h3]
   ·have h3':(Lib.indexByte l b == -1)=false:=by simpa using h3
    rw [h3']
    simp
    omega
theorem contains_one (s:ByteArray) (b:UInt8):decide (0≤Lib.indexByte s.data.toList b)=hasByte s (b.toNat:Int):=indexByte_nonneg _ _
/-- A cell that there was is as it was. -/
theorem Ext.keep {a w:World} (h:Ext a w) {p:Addr} {v:Value} (hc:a.cell? p=some v):w.cell? p=some v:=
 (Below.cell h (World.block_lt_of_cell? a p hc)).trans hc
theorem Ext.var {P:Program} {a w:World} (h:Ext a w) {g:Nat} {n:String} {cs:Array Value} (hg:P.globalNamed n=some g) (hv:a.var? P n=some cs):w.var? P n=some cs:=
 Joins.var_stays hg hv h (Nat.le_refl _)
theorem Ext.grow {a w:World} (h:Ext a w) (os:Array Obj):Ext a (Sort.grow w os):=by
 refine Ext.trans h ⟨rfl,rfl,rfl,by simp [Sort.grow],fun k hk=>?_⟩
 show (w.heap++os)[k]? = w.heap[k]?
 rw [Array.getElem?_append_left hk]

theorem bytes_mk (s:ByteArray):(⟨s.data.toList.toArray⟩:ByteArray)=s:=by cases s;simp
theorem bytes_ext {a b:ByteArray} (h:a.data.toList=b.data.toList):a=b:=by rw [← bytes_mk a,← bytes_mk b,h]
theorem app_toList (a b:ByteArray):(a++b).data.toList=a.data.toList++b.data.toList:=Joins.data_append a b
theorem digit_piece:∀u:Fin 10,(⟨#[48,49,50,51,52,53,54,55,56,57]⟩:ByteArray).extract u.val (u.val+1)=⟨#[UInt8.ofNat (48+u.val)]⟩:=by decide
/-- A number in decimal. -/
def decS (n:Int):ByteArray:=⟨(Lib.itoa n).toArray⟩
theorem decS_small (n:Int) (h0:0≤n) (h:n<10):(⟨#[48,49,50,51,52,53,54,55,56,57]⟩:ByteArray).extract n.toNat (n.toNat+1)=decS n:=by
 obtain ⟨u,rfl⟩:=Int.eq_ofNat_of_zero_le h0
 unfold decS
 rw [Int.toNat_natCast,Lib.itoa_nonneg,Lib.decDigits_one (by omega)]
 exact digit_piece ⟨u,by omega⟩
theorem decS_big (n:Int) (h:10≤n):decS (n / 10)++decS (n % 10)=decS n:=by
 obtain ⟨u,rfl⟩:=Int.eq_ofNat_of_zero_le (show 0≤n by omega)
 have e1:((u:Int) / 10)=((u / 10:Nat):Int):=by omega
 have e2:((u:Int) % 10)=((u % 10:Nat):Int):=by omega
 unfold decS
 rw [e1,e2,Lib.itoa_nonneg,Lib.itoa_nonneg,Lib.itoa_nonneg,Lib.decDigits_one (Nat.mod_lt u (by decide))]
 refine bytes_ext ?_
 rw [app_toList]
 conv=>rhs;rw [Lib.decDigits,dif_neg (by omega)]
theorem decS_neg (n:Int) (h:n<0):(⟨#[45]⟩:ByteArray)++decS (-n)=decS n:=by
 obtain ⟨u,hu⟩:=Int.eq_ofNat_of_zero_le (show 0≤-n by omega)
 have e:n = -(u:Int):=by omega
 subst e
 unfold decS
 rw [Int.neg_neg,Lib.itoa_neg u (by omega),Lib.itoa_nonneg]
 refine bytes_ext ?_
 rw [app_toList]
 rfl
theorem decS_len (n:Int) (h0 : -9223372036854775808≤n) (h1:n≤9223372036854775807):(decS n).size≤21:=by
 have:=Lib.itoa_length_le n h0 h1
 show (Lib.itoa n).toArray.size≤21
 simpa using this
def sumL (h:Int) (l:List UInt8):Int:=l.foldl (fun h c=>(41 * h+(c.toNat:Int)+1) % 999979) h
def sumB (s:ByteArray):Int:=sumL 7 s.data.toList
def sealB (s:ByteArray):ByteArray:=s ++ ⟨#[35]⟩++decS (sumB s)
theorem sealB_size (s:ByteArray):((sealB s).size:Int)=(s.size:Int)+1+((decS (sumB s)).size:Int):=by
 unfold sealB
 simp [ByteArray.size_append,ByteArray.size_mk']
theorem sumL_snoc (h:Int) (l:List UInt8) (c:UInt8):sumL h (l++[c])=(41 * sumL h l+(c.toNat:Int)+1) % 999979:=by
 simp [sumL]
theorem sumL_bd (h:Int) (l:List UInt8) (h0:0≤h) (h1:h<999979):0≤sumL h l∧sumL h l<999979:=by
 induction l generalizing h with
 | nil=>exact ⟨h0,h1⟩
 | cons c l ih=>
  unfold sumL at ih ⊢
  rw [List.foldl_cons]
  exact ih _ (by omega) (by omega)
theorem sumB_bd (s:ByteArray):0≤sumB s∧sumB s<999979:=sumL_bd 7 _ (by decide) (by decide)
section
variable {P:Program} {md:_} {ops:Array Oper} {Q:Exit→Act→World→Prop} {S:World→Prop}
/-- An operation that looks at no world is taken. -/
theorem tkP (i:Nat) (v:Value) {oi:Oper} {fuel:Nat} {listed:Array Bool} {a:Act} {w:World} (hy:∀w,(execOp a.eval oi).run P w=.ok (.value v) w)
 (h:wpAnyH P md ops Q S fuel (listed.setIfInBounds i true) (a.put oi.dst v) w) (hi:ops[i]? = some oi:=by rfl) (hs:Region.noSelect ops=true:=by kernel_rfl)
 (hf:Region.free md ops listed i=true:=by kernel_rfl) (hr:(Region.ready md ops listed).contains i=true:=by kernel_rfl) (hQ:∀c a w,Q (.panic c) (a.put oi.dst v) w→Q (.panic c) a w:=by exact fun _ _ _ h=>h)
 (hw:Region.wanted oi (yielded ops a.tmps)=true:=by rfl) (hS:S w:=by assumption):wpAnyH P md ops Q S (fuel+1) listed a w:=
 wpAnyH_take hi hs hf hr hQ (.inl ⟨hw,fun w _=>hy w⟩) hS h
/-- An operation that looks at the world is taken. -/
theorem tkY (i:Nat) (v:Value) {oi:Oper} {fuel:Nat} {listed:Array Bool} {a:Act} {w:World} (hy:∀w,S w→(execOp a.eval oi).run P w=.ok (.value v) w)
 (h:wpAnyH P md ops Q S fuel (listed.setIfInBounds i true) (a.put oi.dst v) w) (hi:ops[i]? = some oi:=by rfl) (hs:Region.noSelect ops=true:=by kernel_rfl)
 (hf:Region.free md ops listed i=true:=by kernel_rfl) (hr:(Region.ready md ops listed).contains i=true:=by kernel_rfl) (hQ:∀c a w,Q (.panic c) (a.put oi.dst v) w→Q (.panic c) a w:=by exact fun _ _ _ h=>h)
 (hw:Region.wanted oi (yielded ops a.tmps)=true:=by rfl) (hS:S w:=by assumption):wpAnyH P md ops Q S (fuel+1) listed a w:=
 wpAnyH_take hi hs hf hr hQ (.inl ⟨hw,hy⟩) hS h
/-- An operation that is struck is taken. -/
theorem tkN (i:Nat) {oi:Oper} {fuel:Nat} {listed:Array Bool} {a:Act} {w:World}
 (h:wpAnyH P md ops Q S fuel (listed.setIfInBounds i true) (a.put oi.dst undef) w) (hi:ops[i]? = some oi:=by rfl) (hs:Region.noSelect ops=true:=by kernel_rfl)
 (hf:Region.free md ops listed i=true:=by kernel_rfl) (hr:(Region.ready md ops listed).contains i=true:=by kernel_rfl) (hQ:∀c a w,Q (.panic c) (a.put oi.dst undef) w→Q (.panic c) a w:=by exact fun _ _ _ h=>h)
 (hw:Region.wanted oi (yielded ops a.tmps)=false:=by rfl) (hS:S w:=by assumption):wpAnyH P md ops Q S (fuel+1) listed a w:=
 wpAnyH_take hi hs hf hr hQ (.inr ⟨hw,rfl⟩) hS h
end
theorem aput:(∀(α:Type) (l:List α) (i:Nat) (h:i<l.toArray.size),l.toArray[i]=l[i]'(by simpa using h))∧(∀(α:Type) (l:List α) (i:Nat) (a:α),l.toArray.setIfInBounds i a=(l.set i a).toArray)∧(∀(α:Type) (a:α) (as:List α) (h:0<(a :: as).length),(a :: as)[0]=a)∧(∀(α:Type) (a:α) (as:List α) (i:Nat) (h:i+1<(a :: as).length),(a :: as)[i+1]=as[i]'(by simpa using h))∧(∀(α:Type) (x:α) (xs:List α) (b:α),(x :: xs).set 0 b=b :: xs)∧(∀(α:Type) (x:α) (xs:List α) (n:Nat) (b:α),(x :: xs).set (n+1) b=x :: xs.set n b):=
 ⟨fun _ _ _ _=>by simp,fun _ _ _ _=>by simp,fun _ _ _ _=>rfl,fun _ _ _ _ _=>rfl,fun _ _ _ _=>rfl,fun _ _ _ _ _=>rfl⟩
theorem Xr (w:World):Ext w w:=Ext.refl w
theorem Xa {a w:World} (h:Ext a w) (o:Obj):Ext a (w.alloc o):=Ext.alloc h o
theorem Xd {a w:World} (h:Ext a w):Ext a w.drew:=Ext.drew h
theorem Xn {a w:World} (h:Ext a w) (n:Nat):Ext a (w.drewN n):=Ext.drewN h n
theorem Xt {a b w:World} (h:Ext a b) (k:Ext b w):Ext a w:=Ext.trans h k
theorem Xs {a w:World} (h:Ext a w) {p:Addr} {u:Value} (hb:a.heap.size≤p.block:=by first|(simp only [World.size_alloc,World.size_setCell];omega)|omega):Ext a (w.setCell p u):=Ext.setCell h hb u
theorem xw {a w:World} (h:Ext a w:=by (repeat first|(with_reducible first|assumption|exact Xr _|refine Xa ?_ _|refine Xd ?_|refine Xn ?_ _)|refine Xs ?_|with_reducible refine Xt ?_ (by assumption))):Ext a w:=h
end Go.Proofs.YtccjepndhlobpaaGreatDoor

/-
  Plain laws on the encodings of records, with no program in sight.
-/
namespace Go.Proofs.YtccjepndhlobpaaGreatDoor
open Go.RowKit
set_option linter.unusedVariables false
set_option linter.unusedSimpArgs false

/-- A string can be sealed within the limit. -/
def acOk (s:ByteArray):Bool:=fits s 4000 && !hasByte s 35 && fits (sealB s) 4000
def acStr (s:ByteArray):ByteArray:=if acOk s then sealB s else ⟨#[]⟩
theorem acStr_size (s:ByteArray):(acStr s).size≤4000:=by
 unfold acStr
 split
 ·rename_i h
  unfold acOk fits at h
  simp at h
  omega
 ·decide
/-- The text of a record with a number. -/
def textB (k:Int) (c r:ByteArray):ByteArray:=decS k ++ ⟨#[32]⟩++c ++ ⟨#[64]⟩++r
def lineB (k:Int) (c r:ByteArray):ByteArray:=sealB (textB k c r) ++ ⟨#[10]⟩
def encOk (k:Int) (c r:ByteArray):Bool:=inR k 0 59 && recB c r
def encStr (k:Int) (c r:ByteArray):ByteArray:=if encOk k c r then lineB k c r else ⟨#[]⟩

theorem hasByte_append (a b:ByteArray) (x:Int):hasByte (a++b) x=(hasByte a x || hasByte b x):=by
 unfold hasByte;rw [app_toList,List.any_append]
theorem hasByte_one (c:UInt8) (x:Int):hasByte ⟨#[c]⟩ x=((c.toNat:Int) == x):=by
 simp [hasByte]
theorem printed_no (s:ByteArray) (h:printed s=true):hasByte s 35=false:=by
 unfold printed at h
 unfold hasByte
 rw [List.all_eq_true] at h
 rw [List.any_eq_false]
 intro c hc
 have:=h c hc
 unfold okByte at this
 simp at this ⊢
 exact this.2
theorem decDigits_dig (u:Nat):∀c∈Lib.decDigits u,48≤c.toNat∧c.toNat≤57:=by
 induction u using Nat.strongRecOn with
 | ind u ih=>
  intro c hc
  rw [Lib.decDigits] at hc
  split at hc
  ·rename_i h
   have e:(UInt8.ofNat (48+u)).toNat=48+u:=by simp;omega
   rw [List.mem_singleton.1 hc,e]
   omega
  ·rename_i h
   rw [List.mem_append] at hc
   rcases hc with hc|hc
   ·exact ih (u / 10) (by omega) c hc
   ·have e:(UInt8.ofNat (48+u % 10)).toNat=48+u % 10:=by simp;omega
    rw [List.mem_singleton.1 hc,e]
    omega
theorem decS_no (k:Int) (h:0≤k) (x:Int) (hx:x<48∨57<x):hasByte (decS k) x=false:=by
 obtain ⟨u,rfl⟩:=Int.eq_ofNat_of_zero_le h
 unfold hasByte decS
 rw [Lib.itoa_nonneg,List.any_eq_false]
 intro c hc
 have:=decDigits_dig u c (by simpa using hc)
 simp
 omega
theorem recB_parts {c r:ByteArray} (h:recB c r=true):c.size≤160∧r.size≤200∧printed c=true∧printed r=true∧hasByte c 64=false∧1≤c.size:=by
 unfold recB cmdB inR fits at h
 simp at h
 obtain ⟨⟨⟨⟨⟨h1,h2⟩,h3⟩,h4⟩,h5⟩,h6⟩:=h
 exact ⟨by omega,by omega,h3,h6,h4,by omega⟩
theorem textB_size (k:Int) (c r:ByteArray):(textB k c r).size=(decS k).size+1+c.size+1+r.size:=by
 simp [textB,ByteArray.size_append,ByteArray.size_mk']
theorem textB_ok {k:Int} {c r:ByteArray} (h:encOk k c r=true):acOk (textB k c r)=true:=by
 unfold encOk inR at h
 simp at h
 obtain ⟨⟨k0,k1⟩,hr⟩:=h
 obtain ⟨h1,h2,h3,h4,h5,_⟩:=recB_parts hr
 have z:=decS_len k (by omega) (by omega)
 have e:=textB_size k c r
 have b:=sumB_bd (textB k c r)
 have z2:=decS_len (sumB (textB k c r)) (by omega) (by omega)
 have e2:=sealB_size (textB k c r)
 have n:hasByte (textB k c r) 35=false:=by
  unfold textB
  rw [hasByte_append,hasByte_append,hasByte_append,hasByte_append,decS_no k k0 35 (by omega),printed_no c h3,printed_no r h4]
  decide
 unfold acOk fits
 rw [n]
 simp
 omega
theorem textB_le {k:Int} {c r:ByteArray} (hk : -9223372036854775808≤k) (hk1:k≤9223372036854775807) (hc:c.size≤160) (hr:r.size≤200):(textB k c r).size≤400:=by
 have z:=decS_len k hk hk1
 have e:=textB_size k c r
 omega
end Go.Proofs.YtccjepndhlobpaaGreatDoor

/-
  Plain laws on splitting, with no program in sight; rows that a call owns.
-/
namespace Go.Proofs.YtccjepndhlobpaaGreatDoor
open Go.RowKit
set_option linter.unusedVariables false
set_option linter.unusedSimpArgs false

/-- The parts of a list of bytes between a byte; acc: what the first part holds already. -/
def pieces (b:Int):List UInt8→List UInt8→List (List UInt8)
 | [],acc=>[acc]
 | c :: l,acc=>if (c.toNat:Int) == b then acc :: pieces b l [] else pieces b l (acc++[c])
def mkB (l:List UInt8):ByteArray:=⟨l.toArray⟩
def piecesB (s:ByteArray) (b:Int) (f k:Nat):List ByteArray:=(pieces b (s.data.toList.drop k) ((s.data.toList.drop f).take (k - f))).map mkB
def splitB (s:ByteArray) (b:Int):List ByteArray:=piecesB s b 0 0
theorem extract_mk (s:ByteArray) (f k:Nat):s.extract f k=mkB ((s.data.toList.drop f).take (k - f)):=by
 refine bytes_ext ?_
 rw [Lib.extract_data]
 rfl
theorem drop_cons (s:ByteArray) (k:Nat) (h:k<s.size):s.data.toList.drop k=s[k] :: s.data.toList.drop (k+1):=by
 rw [List.drop_eq_getElem_cons (by simpa using h)];rfl
theorem piecesB_hit (s:ByteArray) (b:Int) (f k:Nat) (h:k<s.size) (hc:((s[k].toNat:Int) == b)=true):piecesB s b f k=s.extract f k :: piecesB s b (k+1) (k+1):=by
 unfold piecesB
 rw [drop_cons s k h,pieces,if_pos hc,List.map_cons,← extract_mk]
 simp
theorem piecesB_miss (s:ByteArray) (b:Int) (f k:Nat) (h:k<s.size) (hf:f≤k) (hc:((s[k].toNat:Int) == b)=false):piecesB s b f k=piecesB s b f (k+1):=by
 unfold piecesB
 rw [drop_cons s k h,pieces,if_neg (by simp [hc])]
 congr 2
 rw [show k+1 - f=(k - f)+1 by omega,List.take_succ_eq_append_getElem (by simp;omega)]
 congr 2
 simp only [List.getElem_drop]
 have e:f+(k - f)=k:=by omega
 simp only [e]
 rfl
theorem piecesB_end (s:ByteArray) (b:Int) (f:Nat) (k:Nat) (h:¬k<s.size) (hk:k≤s.size):piecesB s b f k = [s.extract f s.size]:=by
 have e:k=s.size:=by omega
 subst e
 unfold piecesB
 rw [List.drop_eq_nil_of_le (by simp),pieces,List.map_cons,← extract_mk]
 rfl

/-- What is owned stays owned while only blocks are added. -/
theorem ownsRow_ext {w w1:World} {base:Nat} {e:TypeId} {size:Nat} {v:Value} {n:Nat} {xs:List Value} (h:w.ownsRow base e size v n xs) (hb:Ext w w1):w1.ownsRow base e size v n xs:=
 h.kept (w':=w1) (row:=none) ⟨hb.os,hb.tape,hb.output,Below.size hb,fun k hk _=>hb.block k hk⟩ (by cases v.ownBlock <;> simp)
/-- A write to an own row changes nothing that there was. -/
theorem Ext.grown {a w w':World} {v:Value} {base:Nat} {e:TypeId} {size n:Nat} {xs:List Value} (h:Ext a w) (hg:w.grownBy w' v.ownBlock) (ho:w.ownsRow base e size v n xs) (hb:a.heap.size≤base):Ext a w':=
 Below.grown h hg (Below.size h) fun k hk=>Nat.le_trans hb (ho.lt k hk).1
theorem one_cell {w:World} {b:Nat} {cs:List Value} {t:TypeId} (hb:b=w.heap.size):∀j u,cs[j]? = some u→(w.alloc (.cells cs.toArray t)).cell? ((⟨b,0,none⟩:Addr).add j)=some u:=by
 intro j u h
 subst hb
 have e:((⟨w.heap.size,0,none⟩:Addr).add j)=⟨w.heap.size,j,none⟩:=by
  cases j <;> simp [Addr.add]
 rw [e,World.cell?_alloc_at cs.toArray t w.heap.size j rfl]
 simpa using h
theorem own_cell {w:World} {base g cap:Nat} {e:TypeId} {size n:Nat} {xs:List Value} (h:w.ownsRow base e size (.slice (some ⟨g,0,none⟩) n cap) n xs) (j:Nat) (u:Value) (hj:xs[j]? = some u):w.cell? ⟨g,j,none⟩=some u:=by
 have h:=h.cells (g:=g) rfl j u hj
 have e:((⟨g,0,none⟩:Addr).add j)=⟨g,j,none⟩:=by cases j <;> simp [Addr.add]
 rw [e] at h
 exact h
/-- A cell that there was is marked as it was. -/
theorem Ext.mark {W w1:World} (h:Ext W w1) {b o:Nat} {v:Value} {x:Bool} (hc:W.cell? ⟨b,o,none⟩=some v) (hf:W.frozen? ⟨b,o,none⟩=x):w1.frozen? ⟨b,o,none⟩=x:=
 (Below.frozen (p:=⟨b,o,none⟩) h (World.block_lt_of_cell? W ⟨b,o,none⟩ hc)).trans hf
/-- A cell is as it was behind a store into another block. -/
theorem store_keep {w:World} {b o b' o':Nat} {u v:Value} (h:w.cell? ⟨b,o,none⟩=some v) (hne:b'≠b):(w.setCell ⟨b',o',none⟩ u).cell? ⟨b,o,none⟩=some v:=
 (World.cell?_setCell_other _ _ _ _ (fun e=>hne (congrArg Addr.block e))).trans h
theorem own_lt {w:World} {base g n cap:Nat} {e:TypeId} {size:Nat} {xs:List Value} (h:w.ownsRow base e size (.slice (some ⟨g,0,none⟩) n cap) n xs):base≤g∧g<w.heap.size:=h.lt g rfl
theorem own_kept {w w':World} {base g g' n n' cap cap':Nat} {e:TypeId} {size:Nat} {xs:List Value} (h:w.ownsRow base e size (.slice (some ⟨g,0,none⟩) n cap) n xs) (hg:w.grownBy w' (Value.slice (some ⟨g',0,none⟩) n' cap').ownBlock) (hne:g≠g'):w'.ownsRow base e size (.slice (some ⟨g,0,none⟩) n cap) n xs:=
 h.kept hg (.inr (by simp only [Value.ownBlock,ne_eq,Option.some.injEq];exact hne))
end Go.Proofs.YtccjepndhlobpaaGreatDoor

/-
  Plain data: what the program's structs hold; how much they weigh; no program in sight.
-/
namespace Go.Proofs.YtccjepndhlobpaaGreatDoor
open Go.RowKit
set_option linter.unusedVariables false
set_option linter.unusedSimpArgs false

structure Ctl where
 name:ByteArray
 ports:Int
 kind:Int
structure Nd where
 control:Int
 parent:Int
 links:List Int
structure Wr where
 name:ByteArray
 link:Int
structure Big where
 roots:Int
 nodes:List Nd
 sites:List Int
 edges:Int
 outer:List ByteArray
 inner:List Wr
structure Rul where
 redex:Big
 reactum:Big
 copies:List Int
structure Srt where
 tops:List Int
 nest:List (List Int)
 sorts:List (List Int)
 most:List Int
 apart:List (Int × Int)
structure Rnt where
 sig:List Ctl
 sort:Srt
 rules:List Rul
 hosts:List ByteArray
 agent:Big
 count:Int

/-- A number that an int can be. -/
def I64 (x:Int):Prop:=-9223372036854775808≤x∧x≤9223372036854775807
/-- What a list weighs. -/
def wtL {α:Type} (f:α→Nat) (l:List α):Nat:=l.length+(l.map f).sum
def wt0 {α:Type} (_:α):Nat:=0
def wtCtl (c:Ctl):Nat:=c.name.size
def wtStr (s:ByteArray):Nat:=s.size
def wtWr (x:Wr):Nat:=x.name.size
def wtNd (n:Nd):Nat:=n.links.length
def wtBig (b:Big):Nat:=wtL wtNd b.nodes+b.sites.length+wtL wtStr b.outer+wtL wtWr b.inner
def wtRul (r:Rul):Nat:=wtBig r.redex+wtBig r.reactum+r.copies.length
def wtRow (l:List Int):Nat:=l.length
def wtSrt (s:Srt):Nat:=s.tops.length+wtL wtRow s.nest+wtL wtRow s.sorts+s.most.length+s.apart.length
def wtRnt (r:Rnt):Nat:=wtL wtCtl r.sig+wtSrt r.sort+wtL wtRul r.rules+wtL wtStr r.hosts+wtBig r.agent
/-- What is left behind a weight. -/
def szR (n:Nat) (left:Int):Int:=if (n:Int)≤left then left - n else -1
theorem wtL_nil {α:Type} (f:α→Nat):wtL f []=0:=rfl
theorem wtL_cons {α:Type} (f:α→Nat) (x:α) (l:List α):wtL f (x :: l)=1+f x+wtL f l:=by
 simp [wtL];omega
theorem wtL_take {α:Type} (f:α→Nat) (l:List α) (i:Nat) (h:i<l.length):((l.take (i+1)).map f).sum=((l.take i).map f).sum+f l[i]:=by
 rw [List.take_succ_eq_append_getElem h]
 simp only [List.map_append,List.map_cons,List.map_nil,List.sum_append,List.sum_cons,List.sum_nil,Nat.add_zero]
theorem wtL_all {α:Type} (f:α→Nat) (l:List α) (i:Nat) (h:l.length≤i):((l.take i).map f).sum=(l.map f).sum:=by
 rw [List.take_of_length_le h]
theorem sum_take_le {α:Type} (f:α→Nat) (l:List α) (i:Nat):((l.take i).map f).sum≤(l.map f).sum:=by
 induction l generalizing i with
 | nil=>simp
 | cons x l ih=>
  cases i with
  | zero=>simp
  | succ i=>
   have:=ih i
   simp only [List.take_succ_cons,List.map_cons,List.sum_cons]
   omega
theorem wtL_mem {α:Type} (f:α→Nat) (l:List α):∀x∈l,f x+l.length≤wtL f l:=by
 induction l with
 | nil=>intro x hx;cases hx
 | cons y l ih=>
  intro x hx
  rw [wtL_cons]
  rcases List.mem_cons.1 hx with rfl|hx
  ·simp [wtL];omega
  ·have:=ih x hx
   simp
   omega
end Go.Proofs.YtccjepndhlobpaaGreatDoor

/-
  What lies in memory: slices and structs read as plain data.
-/
namespace Go.Proofs.YtccjepndhlobpaaGreatDoor
open Go.RowKit
set_option linter.unusedVariables false
set_option linter.unusedSimpArgs false

/-- Cells from a place on. -/
def CellsAt (w:World) (b o:Nat) (cs:List Value):Prop:=∀j u,cs[j]? = some u→w.cell? ⟨b,o+j,none⟩=some u
/-- How data lies in cells, all further memory in the blocks from lo on, below hi. -/
abbrev Lie (α:Type):=Nat→Nat→World→List Value→α→Prop
/-- A slice whose elements lie in size cells each. -/
def SlV {α:Type} (size:Nat) (P:Lie α) (lo hi:Nat) (w:World) (v:Value) (xs:List α):Prop:=
 ∃a k,v=.slice a xs.length k∧xs.length≤k∧k≤maxLen∧(a=none→k=0)∧(xs = []∨∃b o,a=some ⟨b,o,none⟩∧lo≤b∧b<hi∧∀i (h:i<xs.length),∃cs,cs.length=size∧P lo hi w cs xs[i]∧CellsAt w b (o+i * size) cs)
/-- The blocks from lo on, below hi, are as they were. -/
def Same (lo hi:Nat) (w w':World):Prop:=∀b,lo≤b→b<hi→b<w.heap.size→w'.heap[b]? = w.heap[b]?
/-- What lies stays while its blocks are as they were. -/
def Keeps {α:Type} (P:Lie α):Prop:=∀lo hi w w' cs x,Same lo hi w w'→P lo hi w cs x→P lo hi w' cs x
/-- What lies between bounds lies between wider ones. -/
def Widens {α:Type} (P:Lie α):Prop:=∀lo hi lo' hi' w cs x,lo'≤lo→hi≤hi'→P lo hi w cs x→P lo' hi' w cs x
theorem Same.ext {lo hi:Nat} {w w':World} (h:Ext w w'):Same lo hi w w':=fun b _ _ hb=>h.block b hb
theorem Same.grown {lo hi g:Nat} {w w':World} (h:w.grownBy w' (some g)) (hg:g<lo∨hi≤g):Same lo hi w w':=fun b h1 h2 hb=>h.block b hb (by simp;omega)
theorem Same.cell {lo hi b o:Nat} {w w':World} {u:Value} (h:Same lo hi w w') (h1:lo≤b) (h2:b<hi) (hc:w.cell? ⟨b,o,none⟩=some u):w'.cell? ⟨b,o,none⟩=some u:=
 (World.cell?_of_block (h b h1 h2 (World.block_lt_of_cell? w ⟨b,o,none⟩ hc))).trans hc
theorem Same.cells {lo hi b o:Nat} {w w':World} {cs:List Value} (h:Same lo hi w w') (h1:lo≤b) (h2:b<hi) (hc:CellsAt w b o cs):CellsAt w' b o cs:=
 fun j u hj=>h.cell h1 h2 (hc j u hj)
theorem SlV.keeps {α:Type} {P:Lie α} (hP:Keeps P) {size lo hi:Nat} {w w':World} {v:Value} {xs:List α} (hs:Same lo hi w w') (h:SlV size P lo hi w v xs):SlV size P lo hi w' v xs:=by
 obtain ⟨a,k,rfl,h1,h2,h3,h4⟩:=h
 refine ⟨a,k,rfl,h1,h2,h3,?_⟩
 rcases h4 with h4|⟨b,o,rfl,hb1,hb2,h4⟩
 ·exact .inl h4
 ·refine .inr ⟨b,o,rfl,hb1,hb2,fun i hi=>?_⟩
  obtain ⟨cs,hl,hp,hc⟩:=h4 i hi
  exact ⟨cs,hl,hP _ _ _ _ _ _ hs hp,hs.cells hb1 hb2 hc⟩
theorem SlV.widens {α:Type} {P:Lie α} (hP:Widens P) {size lo hi lo' hi':Nat} {w:World} {v:Value} {xs:List α} (h1:lo'≤lo) (h2:hi≤hi') (h:SlV size P lo hi w v xs):SlV size P lo' hi' w v xs:=by
 obtain ⟨a,k,rfl,g1,g2,g3,h4⟩:=h
 refine ⟨a,k,rfl,g1,g2,g3,?_⟩
 rcases h4 with h4|⟨b,o,rfl,hb1,hb2,h4⟩
 ·exact .inl h4
 ·refine .inr ⟨b,o,rfl,by omega,by omega,fun i hi=>?_⟩
  obtain ⟨cs,hl,hp,hc⟩:=h4 i hi
  exact ⟨cs,hl,hP _ _ _ _ _ _ _ h1 h2 hp,hc⟩

def IntP:Lie Int:=fun _ _ _ cs x=>cs = [.int .i64 x]∧I64 x
def StrP:Lie ByteArray:=fun _ _ _ cs s=>cs = [.string s]∧s.size≤maxLen
def CtlP:Lie Ctl:=fun _ _ _ cs c=>cs = [.string c.name,.int .i64 c.ports,.int .i64 c.kind]∧c.name.size≤maxLen∧I64 c.ports∧I64 c.kind
def WrP:Lie Wr:=fun _ _ _ cs x=>cs = [.string x.name,.int .i64 x.link]∧x.name.size≤maxLen∧I64 x.link
def PairP:Lie (Int × Int):=fun _ _ _ cs x=>cs = [.int .i64 x.1,.int .i64 x.2]∧I64 x.1∧I64 x.2
abbrev IntsV:=SlV 1 IntP
abbrev StrsV:=SlV 1 StrP
def RowP:Lie (List Int):=fun lo hi w cs l=>∃v,cs = [v]∧IntsV lo hi w v l
def NdP:Lie Nd:=fun lo hi w cs n=>∃v,cs = [.int .i64 n.control,.int .i64 n.parent,v]∧I64 n.control∧I64 n.parent∧IntsV lo hi w v n.links
abbrev RowsV:=SlV 1 RowP
abbrev CtlsV:=SlV 3 CtlP
abbrev NdsV:=SlV 3 NdP
abbrev WrsV:=SlV 2 WrP
abbrev PairsV:=SlV 2 PairP
def BigP:Lie Big:=fun lo hi w cs b=>∃v1 v2 v4 v5,cs = [.int .i64 b.roots,v1,v2,.int .i64 b.edges,v4,v5]∧I64 b.roots∧I64 b.edges∧NdsV lo hi w v1 b.nodes∧IntsV lo hi w v2 b.sites∧StrsV lo hi w v4 b.outer∧WrsV lo hi w v5 b.inner
def RulP:Lie Rul:=fun lo hi w cs r=>∃c1 c2 v,cs=c1++(c2++[v])∧BigP lo hi w c1 r.redex∧BigP lo hi w c2 r.reactum∧IntsV lo hi w v r.copies
abbrev RulsV:=SlV 13 RulP
def SrtP:Lie Srt:=fun lo hi w cs s=>∃v0 v1 v2 v3 v4,cs = [v0,v1,v2,v3,v4]∧IntsV lo hi w v0 s.tops∧RowsV lo hi w v1 s.nest∧RowsV lo hi w v2 s.sorts∧IntsV lo hi w v3 s.most∧PairsV lo hi w v4 s.apart
def RntP:Lie Rnt:=fun lo hi w cs r=>∃v0 c1 v6 v7 c8,cs=v0 :: (c1++(v6 :: v7 :: (c8++[.int .i64 r.count])))∧CtlsV lo hi w v0 r.sig∧SrtP lo hi w c1 r.sort∧RulsV lo hi w v6 r.rules∧StrsV lo hi w v7 r.hosts∧BigP lo hi w c8 r.agent∧I64 r.count

theorem IntP.keeps:Keeps IntP:=fun _ _ _ _ _ _ _ h=>h
theorem StrP.keeps:Keeps StrP:=fun _ _ _ _ _ _ _ h=>h
theorem CtlP.keeps:Keeps CtlP:=fun _ _ _ _ _ _ _ h=>h
theorem WrP.keeps:Keeps WrP:=fun _ _ _ _ _ _ _ h=>h
theorem PairP.keeps:Keeps PairP:=fun _ _ _ _ _ _ _ h=>h
theorem RowP.keeps:Keeps RowP:=by
 rintro lo hi w w' cs l hs ⟨v,rfl,h⟩
 exact ⟨v,rfl,h.keeps IntP.keeps hs⟩
theorem NdP.keeps:Keeps NdP:=by
 rintro lo hi w w' cs n hs ⟨v,rfl,h1,h2,h⟩
 exact ⟨v,rfl,h1,h2,h.keeps IntP.keeps hs⟩
theorem BigP.keeps:Keeps BigP:=by
 rintro lo hi w w' cs b hs ⟨v1,v2,v4,v5,rfl,h1,h2,a,b',c,d⟩
 exact ⟨v1,v2,v4,v5,rfl,h1,h2,a.keeps NdP.keeps hs,b'.keeps IntP.keeps hs,c.keeps StrP.keeps hs,d.keeps WrP.keeps hs⟩
theorem RulP.keeps:Keeps RulP:=by
 rintro lo hi w w' cs r hs ⟨c1,c2,v,rfl,a,b,c⟩
 exact ⟨c1,c2,v,rfl,BigP.keeps _ _ _ _ _ _ hs a,BigP.keeps _ _ _ _ _ _ hs b,c.keeps IntP.keeps hs⟩
theorem SrtP.keeps:Keeps SrtP:=by
 rintro lo hi w w' cs s hs ⟨v0,v1,v2,v3,v4,rfl,a,b,c,d,e⟩
 exact ⟨v0,v1,v2,v3,v4,rfl,a.keeps IntP.keeps hs,b.keeps RowP.keeps hs,c.keeps RowP.keeps hs,d.keeps IntP.keeps hs,e.keeps PairP.keeps hs⟩
theorem RntP.keeps:Keeps RntP:=by
 rintro lo hi w w' cs r hs ⟨v0,c1,v6,v7,c8,rfl,a,b,c,d,e,f⟩
 exact ⟨v0,c1,v6,v7,c8,rfl,a.keeps CtlP.keeps hs,SrtP.keeps _ _ _ _ _ _ hs b,c.keeps RulP.keeps hs,d.keeps StrP.keeps hs,BigP.keeps _ _ _ _ _ _ hs e,f⟩
theorem IntP.widens:Widens IntP:=fun _ _ _ _ _ _ _ _ _ h=>h
theorem StrP.widens:Widens StrP:=fun _ _ _ _ _ _ _ _ _ h=>h
theorem CtlP.widens:Widens CtlP:=fun _ _ _ _ _ _ _ _ _ h=>h
theorem WrP.widens:Widens WrP:=fun _ _ _ _ _ _ _ _ _ h=>h
theorem PairP.widens:Widens PairP:=fun _ _ _ _ _ _ _ _ _ h=>h
theorem RowP.widens:Widens RowP:=by
 rintro lo hi lo' hi' w cs l h1 h2 ⟨v,rfl,h⟩
 exact ⟨v,rfl,h.widens IntP.widens h1 h2⟩
theorem NdP.widens:Widens NdP:=by
 rintro lo hi lo' hi' w cs n h1 h2 ⟨v,rfl,g1,g2,h⟩
 exact ⟨v,rfl,g1,g2,h.widens IntP.widens h1 h2⟩
theorem BigP.widens:Widens BigP:=by
 rintro lo hi lo' hi' w cs b h1 h2 ⟨v1,v2,v4,v5,rfl,g1,g2,a,b',c,d⟩
 exact ⟨v1,v2,v4,v5,rfl,g1,g2,a.widens NdP.widens h1 h2,b'.widens IntP.widens h1 h2,c.widens StrP.widens h1 h2,d.widens WrP.widens h1 h2⟩
theorem RulP.widens:Widens RulP:=by
 rintro lo hi lo' hi' w cs r h1 h2 ⟨c1,c2,v,rfl,a,b,c⟩
 exact ⟨c1,c2,v,rfl,BigP.widens _ _ _ _ _ _ _ h1 h2 a,BigP.widens _ _ _ _ _ _ _ h1 h2 b,c.widens IntP.widens h1 h2⟩
theorem SrtP.widens:Widens SrtP:=by
 rintro lo hi lo' hi' w cs s h1 h2 ⟨v0,v1,v2,v3,v4,rfl,a,b,c,d,e⟩
 exact ⟨v0,v1,v2,v3,v4,rfl,a.widens IntP.widens h1 h2,b.widens RowP.widens h1 h2,c.widens RowP.widens h1 h2,d.widens IntP.widens h1 h2,e.widens PairP.widens h1 h2⟩
/-- What lies stays while only blocks are added. -/
theorem SlV.ext {α:Type} {P:Lie α} (hP:Keeps P) {size lo hi:Nat} {w w':World} {v:Value} {xs:List α} (h:SlV size P lo hi w v xs) (hx:Ext w w'):SlV size P lo hi w' v xs:=h.keeps hP (Same.ext hx)
end Go.Proofs.YtccjepndhlobpaaGreatDoor

/-
  What lies in memory: boxes of cells; rows that are filled; own rows read as data.
-/
namespace Go.Proofs.YtccjepndhlobpaaGreatDoor
open Go.RowKit
set_option linter.unusedVariables false
set_option linter.unusedSimpArgs false

theorem grownBy_trans {w w1 w2:World} {g:Nat} (h:w.grownBy w1 (some g)) (k:w1.grownBy w2 (some g)):w.grownBy w2 (some g):=
 ⟨k.os.trans h.os,k.tape.trans h.tape,k.output.trans h.output,Nat.le_trans h.size k.size,fun j hj hne=>(k.block j (Nat.lt_of_lt_of_le hj h.size) hne).trans (h.block j hj hne)⟩
theorem grownBy_ext {w w1:World} {g:Nat} (h:Ext w w1):w.grownBy w1 (some g):=
 ⟨h.os,h.tape,h.output,Below.size h,fun k hk _=>h.block k hk⟩
theorem grownBy_set {w:World} (g o:Nat) (u:Value):w.grownBy (w.setCell ⟨g,o,none⟩ u) (some g):=
 ⟨rfl,rfl,rfl,by simp,fun k _ hk=>heap_setCell_other w ⟨g,o,none⟩ k u (fun e=>hk (by simp [e]))⟩
theorem grownBy_refl (w:World) (r:Option Nat):w.grownBy w r:=⟨rfl,rfl,rfl,Nat.le_refl _,fun _ _ _=>rfl⟩
theorem grown_mark {w w':World} {g b o:Nat} {x:Bool} {v:Value} (hg:w.grownBy w' (some g)) (hc:w.cell? ⟨b,o,none⟩=some v) (hf:w.frozen? ⟨b,o,none⟩=x) (hne:b≠g):w'.frozen? ⟨b,o,none⟩=x:=
 (World.frozen?_of_block (hg.block b (World.block_lt_of_cell? w ⟨b,o,none⟩ hc) (by simpa using hne))).trans hf
theorem cell_other {w:World} {p q:Addr} {u v:Value} (h:w.cell? q=some v) (hne:p≠q):(w.setCell p u).cell? q=some v:=(World.cell?_setCell_other _ _ _ _ hne).trans h
/-- Cells lie in a block, none of them frozen. -/
def BoxAt (w:World) (B:Nat) (cs:List Value):Prop:=∀j u,cs[j]? = some u→w.cell? ⟨B,j,none⟩=some u∧w.frozen? ⟨B,j,none⟩=false
theorem BoxAt.new (w:World) (t:TypeId) (cs:List Value) (B:Nat) (hB:B=w.heap.size):BoxAt (w.alloc (.cells cs.toArray t)) B cs:=by
 intro j u hj
 subst hB
 refine ⟨?_,World.frozen?_alloc_at _ t w.heap.size j rfl⟩
 rw [World.cell?_alloc_at _ t w.heap.size j rfl]
 simpa using hj
theorem BoxAt.ext {w w':World} {B:Nat} {cs:List Value} (h:BoxAt w B cs) (hx:Ext w w'):BoxAt w' B cs:=
 fun j u hj=>⟨hx.keep (h j u hj).1,hx.mark (h j u hj).1 (h j u hj).2⟩
theorem BoxAt.other {w:World} {B b o:Nat} {u:Value} {cs:List Value} (h:BoxAt w B cs) (hne:b≠B):BoxAt (w.setCell ⟨b,o,none⟩ u) B cs:=
 fun j v hj=>⟨store_keep (h j v hj).1 hne,(World.frozen?_setCell _ _ _ _).trans (h j v hj).2⟩
theorem BoxAt.set {w:World} {B:Nat} {cs:List Value} (h:BoxAt w B cs) (o:Nat) (u:Value):BoxAt (w.setCell ⟨B,o,none⟩ u) B (cs.set o u):=by
 intro j v hj
 rw [List.getElem?_set] at hj
 by_cases ho:o=j
 ·subst ho
  rw [if_pos rfl] at hj
  split at hj
  ·rename_i hl
   cases hj
   obtain ⟨hc,hf⟩:=h o cs[o] (by simp)
   exact ⟨World.cell?_setCell_same _ _ _ hc,(World.frozen?_setCell _ _ _ _).trans hf⟩
  ·cases hj
 ·rw [if_neg ho] at hj
  obtain ⟨hc,hf⟩:=h j v hj
  exact ⟨cell_other hc (by simp [ho]),(World.frozen?_setCell _ _ _ _).trans hf⟩
theorem BoxAt.lt {w:World} {B:Nat} {cs:List Value} {u:Value} (h:BoxAt w B cs) (h0:cs[0]? = some u):B<w.heap.size:=World.block_lt_of_cell? w ⟨B,0,none⟩ (h 0 u h0).1
/-- A list that is written over from a place on. -/
def putAt:List Value→Nat→List Value→List Value
 | xs,_,[]=>xs
 | xs,k,d :: ds=>putAt (xs.set k d) (k+1) ds
/-- A block that is written over from a place on. -/
def putW:World→Nat→Nat→List Value→World
 | w,_,_,[]=>w
 | w,g,k,d :: ds=>putW (w.setCell ⟨g,k,none⟩ d) g (k+1) ds
theorem putAt_length (ds:List Value):∀(xs:List Value) (k:Nat),(putAt xs k ds).length=xs.length:=by
 induction ds with
 | nil=>intro xs k;rfl
 | cons d ds ih=>intro xs k;rw [putAt,ih];simp
theorem putAt_out (ds:List Value):∀(xs:List Value) (k j:Nat),(j<k∨k+ds.length≤j)→(putAt xs k ds)[j]? = xs[j]?:=by
 induction ds with
 | nil=>intro xs k j _;rfl
 | cons d ds ih=>
  intro xs k j h
  rw [putAt,ih _ _ _ (by simp at h;omega),List.getElem?_set_ne (by simp at h;omega)]
theorem putAt_in (ds:List Value):∀(xs:List Value) (k t:Nat) (u:Value),k+ds.length≤xs.length→ds[t]? = some u→(putAt xs k ds)[k+t]? = some u:=by
 induction ds with
 | nil=>intro xs k t u _ h;simp at h
 | cons d ds ih=>
  intro xs k t u hl h
  simp at hl
  cases t with
  | zero=>
   simp at h
   subst h
   rw [putAt,putAt_out ds _ _ _ (by omega)]
   show (xs.set k d)[k]? = some d
   rw [List.getElem?_set,if_pos rfl,if_pos (by omega)]
  | succ t=>
   rw [putAt,show k+(t+1)=(k+1)+t by omega]
   exact ih _ _ _ _ (by simp;omega) (by simpa using h)
theorem own_put {base g cap n:Nat} {e:TypeId} {size:Nat} (ds:List Value):∀(w:World) (k:Nat) (xs:List Value),w.ownsRow base e size (.slice (some ⟨g,0,none⟩) n cap) n xs →
 (putW w g k ds).ownsRow base e size (.slice (some ⟨g,0,none⟩) n cap) n (putAt xs k ds)∧w.grownBy (putW w g k ds) (some g):=by
 induction ds with
 | nil=>intro w k xs h;exact ⟨h,grownBy_refl _ _⟩
 | cons d ds ih=>
  intro w k xs h
  obtain ⟨h1,h2⟩:=h.stored k d
  obtain ⟨h3,h4⟩:=ih _ (k+1) _ h1
  exact ⟨h3,grownBy_trans h2 h4⟩
theorem putW_size (ds:List Value):∀(w:World) (g k:Nat),(putW w g k ds).heap.size=w.heap.size:=by
 induction ds with
 | nil=>intro w g k;rfl
 | cons d ds ih=>intro w g k;rw [putW,ih];simp
theorem SlV.set {α:Type} {P:Lie α} (hP:Keeps P) {size lo hi b o:Nat} {u:Value} {w:World} {v:Value} {xs:List α} (h:SlV size P lo hi w v xs) (hb:b<lo∨hi≤b):SlV size P lo hi (w.setCell ⟨b,o,none⟩ u) v xs:=
 h.keeps hP (Same.grown (grownBy_set b o u) hb)
theorem Keeps.set {α:Type} {P:Lie α} (hP:Keeps P) {lo hi b o:Nat} {u:Value} {w:World} {cs:List Value} {x:α} (h:P lo hi w cs x) (hb:b<lo∨hi≤b):P lo hi (w.setCell ⟨b,o,none⟩ u) cs x:=
 hP _ _ _ _ _ _ (Same.grown (grownBy_set b o u) hb) h
/-- How far an own row is filled. -/
def Filled {α:Type} (size:Nat) (P:Lie α) (g:Nat) (w:World) (xs:List α) (cells:List Value) (i:Nat):Prop:=
 ∀j (h:j<xs.length),j<i→∃ds,ds.length=size∧P (g+1) w.heap.size w ds xs[j]∧∀t u,ds[t]? = some u→cells[j * size+t]? = some u
theorem Filled.zero {α:Type} {size:Nat} {P:Lie α} {g:Nat} {w:World} {xs:List α} {cells:List Value}:Filled size P g w xs cells 0:=fun j _ hj=>absurd hj (Nat.not_lt_zero _)
theorem Filled.ext {α:Type} {size:Nat} {P:Lie α} (hP:Keeps P) (hW:Widens P) {g:Nat} {w w':World} {xs:List α} {cells:List Value} {i:Nat} (h:Filled size P g w xs cells i) (hx:Ext w w'):Filled size P g w' xs cells i:=by
 intro j hj hji
 obtain ⟨ds,h1,h2,h3⟩:=h j hj hji
 exact ⟨ds,h1,hW _ _ _ _ _ _ _ (Nat.le_refl _) (Below.size hx) (hP _ _ _ _ _ _ (Same.ext hx) h2),h3⟩
/-- One element more is filled in. -/
theorem Filled.put {α:Type} {size:Nat} {P:Lie α} (hP:Keeps P) {g:Nat} {w:World} {xs:List α} {cells:List Value} {i:Nat} (h:Filled size P g w xs cells i) (hi:i<xs.length) (ds:List Value) (hd:ds.length=size) (hl:cells.length=xs.length * size)
 (hp:P (g+1) w.heap.size w ds xs[i]) (hgr:w.grownBy (putW w g (i * size) ds) (some g)):Filled size P g (putW w g (i * size) ds) xs (putAt cells (i * size) ds) (i+1):=by
 intro j hj hji
 rw [putW_size]
 have hs:Same (g+1) w.heap.size w (putW w g (i * size) ds):=Same.grown hgr (.inl (by omega))
 by_cases hlt:j<i
 ·obtain ⟨es,h1,h2,h3⟩:=h j hj hlt
  refine ⟨es,h1,hP _ _ _ _ _ _ hs h2,fun t u ht=>?_⟩
  have htl:t<size:=by
   by_cases hh:t<es.length
   ·omega
   ·rw [List.getElem?_eq_none (by omega)] at ht;cases ht
  rw [putAt_out]
  ·exact h3 t u ht
  ·left
   have:(j+1) * size≤i * size:=Nat.mul_le_mul_right _ hlt
   rw [Nat.add_mul] at this
   omega
 ·have e:j=i:=by omega
  subst e
  refine ⟨ds,hd,hP _ _ _ _ _ _ hs hp,fun t u ht=>putAt_in ds cells _ t u ?_ ht⟩
  have:(j+1) * size≤xs.length * size:=Nat.mul_le_mul_right _ hj
  rw [Nat.add_mul] at this
  omega
theorem Filled.all {α:Type} {size:Nat} {P:Lie α} (hW:Widens P) {base g cap lo:Nat} {e:TypeId} {w:World} {xs:List α} {cells:List Value} (h:Filled size P g w xs cells xs.length) (own:w.ownsRow base e size (.slice (some ⟨g,0,none⟩) xs.length cap) xs.length cells) (hlo:lo≤g) (hc:xs.length≤cap) (hcm:cap≤maxLen) :
 SlV size P lo w.heap.size w (.slice (some ⟨g,0,none⟩) xs.length cap) xs:=by
 refine ⟨_,_,rfl,hc,hcm,fun h=>(by cases h),.inr ⟨g,0,rfl,hlo,(own_lt own).2,fun i hi=>?_⟩⟩
 obtain ⟨ds,h1,h2,h3⟩:=h i hi hi
 refine ⟨ds,h1,hW _ _ _ _ _ _ _ (by omega) (Nat.le_refl _) h2,fun t u ht=>?_⟩
 rw [Nat.zero_add]
 exact own_cell own _ _ (h3 t u ht)
end Go.Proofs.YtccjepndhlobpaaGreatDoor

/-
  What lies in memory: own rows that grow by append.
-/
namespace Go.Proofs.YtccjepndhlobpaaGreatDoor
open Go.RowKit
set_option linter.unusedVariables false
set_option linter.unusedSimpArgs false

/-- An own row that reads as a list; the memory of its elements lies apart from the row itself. -/
def RowL {α:Type} (size:Nat) (P:Lie α) (e:TypeId) (base:Nat) (w:World) (v:Value) (xs:List α):Prop:=
 ∃cells,w.ownsRow base e size v xs.length cells∧∀i (h:i<xs.length),∃ds l u,ds.length=size∧base≤l∧u≤w.heap.size∧(∀g,v.ownBlock=some g→g<l∨u≤g)∧P l u w ds xs[i]∧∀t y,ds[t]? = some y→cells[i * size+t]? = some y
theorem RowL.nil {α:Type} {size:Nat} {P:Lie α} {e:TypeId} {base:Nat} {w:World}:RowL size P e base w (.slice none 0 0) []:=
 ⟨[],⟨by simp,.inl ⟨rfl,rfl⟩⟩,fun i h=>absurd h (Nat.not_lt_zero _)⟩
theorem RowL.made {α:Type} {size:Nat} {P:Lie α} {e:TypeId} {base:Nat} {w:World} (hb:base≤w.heap.size):RowL size P e base (w.alloc (.cells #[] e)) (.slice (some ⟨w.heap.size,0,none⟩) 0 0) []:=
 ⟨[],World.ownsRow_made w #[] 0 hb (by decide) (by simp),fun i h=>absurd h (Nat.not_lt_zero _)⟩
theorem own_size {w:World} {base:Nat} {e:TypeId} {size:Nat} {v:Value} {n:Nat} {xs:List Value} (h:w.ownsRow base e size v n xs):∃a k,v=.slice a n k∧n≤k∧k≤maxLen∧(a=none→k=0)∧(n=0∨∃g,a=some ⟨g,0,none⟩∧base≤g∧g<w.heap.size∧∀j y,xs[j]? = some y→w.cell? ⟨g,j,none⟩=some y):=by
 have h0:=h
 obtain ⟨_,⟨rfl,rfl⟩|⟨g,cap,cur,rfl,hb,hg,hn,hm,_,_⟩⟩:=h0
 ·exact ⟨none,0,rfl,Nat.le_refl _,by decide,fun _=>rfl,.inl rfl⟩
 ·exact ⟨_,cap,rfl,hn,hm,fun hh=>(by cases hh),.inr ⟨g,rfl,hb,(own_lt h).2,fun j y hy=>own_cell h j y hy⟩⟩
theorem RowL.toSlV {α:Type} {size:Nat} {P:Lie α} (hW:Widens P) {e:TypeId} {base lo:Nat} {w:World} {v:Value} {xs:List α} (h:RowL size P e base w v xs) (hlo:lo≤base):SlV size P lo w.heap.size w v xs:=by
 obtain ⟨cells,own,hel⟩:=h
 obtain ⟨a,k,rfl,h1,h2,h3,h4⟩:=own_size own
 refine ⟨a,k,rfl,h1,h2,h3,?_⟩
 rcases h4 with h4|⟨g,rfl,g1,g2,g3⟩
 ·left
  cases xs with
  | nil=>rfl
  | cons x xs=>simp at h4
 ·refine .inr ⟨g,0,rfl,by omega,g2,fun i hi=>?_⟩
  obtain ⟨ds,l,u,d1,d2,d3,d4,d5,d6⟩:=hel i hi
  exact ⟨ds,d1,hW _ _ _ _ _ _ _ (by omega) d3 d5,fun t y ht=>by rw [Nat.zero_add];exact g3 _ _ (d6 t y ht)⟩
theorem RowL.ext {α:Type} {size:Nat} {P:Lie α} (hP:Keeps P) {e:TypeId} {base:Nat} {w w':World} {v:Value} {xs:List α} (h:RowL size P e base w v xs) (hx:Ext w w'):RowL size P e base w' v xs:=by
 obtain ⟨cells,own,hel⟩:=h
 refine ⟨cells,ownsRow_ext own hx,fun i hi=>?_⟩
 obtain ⟨ds,l,u,d1,d2,d3,d4,d5,d6⟩:=hel i hi
 exact ⟨ds,l,u,d1,d2,Nat.le_trans d3 (Below.size hx),d4,hP _ _ _ _ _ _ (Same.ext hx) d5,d6⟩
theorem RowL.block {α:Type} {size:Nat} {P:Lie α} {e:TypeId} {base:Nat} {w:World} {v:Value} {xs:List α} (h:RowL size P e base w v xs):∀g,v.ownBlock=some g→base≤g∧g<w.heap.size:=by
 obtain ⟨cells,own,hel⟩:=h
 exact own.lt
theorem RowL.form {α:Type} {size:Nat} {P:Lie α} {e:TypeId} {base:Nat} {w:World} {v:Value} {xs:List α} (h:RowL size P e base w v xs):∃a k,v=.slice a xs.length k∧xs.length≤k∧k≤maxLen:=by
 obtain ⟨cells,own,hel⟩:=h
 obtain ⟨a,k,rfl,h1,h2,_⟩:=own_size own
 exact ⟨a,k,rfl,h1,h2⟩
/-- What grows in an own row of a world that extends an older one extends this one, too. -/
theorem Ext.own {a w w':World} {r:Option Nat} (h:Ext a w) (hg:w.grownBy w' r) (hr:∀g,r=some g→a.heap.size≤g):Ext a w':=by
 refine ⟨hg.os.trans h.os,hg.tape.trans h.tape,hg.output.trans h.output,Nat.le_trans (Below.size h) hg.size,fun k hk=>?_⟩
 rw [hg.block k (Nat.lt_of_lt_of_le hk (Below.size h)) (fun e=>by have:=hr k e.symm;omega)]
 exact h.block k hk
/-- One element more, behind an append. -/
theorem RowL.snoc {α:Type} {size:Nat} {P:Lie α} (hP:Keeps P) {e:TypeId} {base:Nat} {w w':World} {v v':Value} {xs:List α} {x:α} {ds:List Value} {l u:Nat} (h:RowL size P e base w v xs) (hd:ds.length=size) (hl:base≤l) (hu:u≤w.heap.size) (hs:∀g,v.ownBlock=some g→g<l∨u≤g) (hx:P l u w ds x)
 (hr:∀cells,w.ownsRow base e size v xs.length cells→w'.ownsRow base e size v' (xs.length+1) (cells++ds)) (hg:w.grownBy w' v.ownBlock) (hb:v'.ownBlock=v.ownBlock∨v'.ownBlock=some w.heap.size):RowL size P e base w' v' (xs++[x]):=by
 obtain ⟨cells,own,hel⟩:=h
 have hk:∀l u,(∀g,v.ownBlock=some g→g<l∨u≤g)→Same l u w w':=fun l u hh b h1 h2 h3=>hg.block b h3 (fun e=>by have:=hh b e.symm;omega)
 have hv':∀l u,u≤w.heap.size→(∀g,v.ownBlock=some g→g<l∨u≤g)→∀g,v'.ownBlock=some g→g<l∨u≤g:=by
  intro l u hh hs g hg'
  rcases hb with hb|hb
  ·exact hs g (by rw [← hb];exact hg')
  ·rw [hb] at hg';cases hg';exact .inr hh
 refine ⟨cells++ds,by rw [List.length_append];exact hr cells own,fun i hi=>?_⟩
 by_cases hlt:i<xs.length
 ·obtain ⟨es,l1,u1,d1,d2,d3,d4,d5,d6⟩:=hel i hlt
  refine ⟨es,l1,u1,d1,d2,Nat.le_trans d3 hg.size,hv' l1 u1 d3 d4,?_,fun t y ht=>?_⟩
  ·rw [List.getElem_append_left hlt];exact hP _ _ _ _ _ _ (hk l1 u1 d4) d5
  ·have:=d6 t y ht
   rw [List.getElem?_append_left (by
    rcases Nat.lt_or_ge (i * size+t) cells.length with hh|hh
    ·exact hh
    ·rw [List.getElem?_eq_none hh] at this;cases this)]
   exact this
 ·have ei:i=xs.length:=by simp at hi;omega
  subst ei
  refine ⟨ds,l,u,hd,hl,Nat.le_trans hu hg.size,hv' l u hu hs,?_,fun t y ht=>?_⟩
  ·rw [List.getElem_append_right (Nat.le_refl _)];simp only [Nat.sub_self,List.getElem_cons_zero];exact hP _ _ _ _ _ _ (hk l u hs) hx
  ·rw [List.getElem?_append_right (by rw [own.1];omega),own.1,show xs.length * size+t - xs.length * size=t by omega];exact ht
variable {P:Program} {w:World}
/-- Append of one element to an own row, as a step of a walk. -/
theorem wpList_append_row {α:Type} {size:Nat} {Pd:Lie α} (hPd:Keeps Pd) {ops:Array Oper} {rest:List Oper} {o:Oper} {a:Act} {Q:Exit→Act→World→Prop} (hgd:o.guard=none) (s x:Operand) (t:TypeId)
 (ho:o.op=.call { callee:=.builtin .append,args:=#[s,x],argTypes:=#[t,t] })
 (base:Nat) (e:TypeId) (i:TypeInfo) (z:Value) (bytes:Nat) (ht:P.underlying t=some (.slice e)) (hi:P.info? e=some i) (hz:i.zero=some z)
 (hsize:i.size=size) (hby:i.bytes=bytes) (hzs:z.cells.size=size) (hsz:0<size)
 (v:Value) (xs:List α) (hs:a.eval s=v) (hrow:RowL size Pd e base w v xs)
 (ad:Addr) (c:Nat) (ds:List Value) (hx:a.eval x=.slice (some ad) 1 c) (hl:ds.length=size) (hnews:∀j u,ds[j]? = some u→w.cell? (ad.add j)=some u) (h1:∀u∈ds,u.oneCell'=true)
 (l u:Nat) (hbl:base≤l) (hu:u≤w.heap.size) (hsep:∀g,v.ownBlock=some g→g<l∨u≤g) (y:α) (hP:Pd l u w ds y)
 (h63:xs.length<100000000) (hbytes:bytes≤1000) (hbase:base≤w.heap.size)
 (h:∀v' w',RowL size Pd e base w' v' (xs++[y])→(∀W,Ext W w→W.heap.size≤base→Ext W w')→wpList P ops Q rest (a.put o.dst v') w') :
 wpList P ops Q (o :: rest) a w:=by
 have hrow0:=hrow
 obtain ⟨cells,own,hel⟩:=hrow0
 refine wpList_append_own_at w hgd s x t ho base e i z size bytes ht hi hz hsize hby hzs hsz v xs.length cells hs own ad 1 c ds hx (by omega) hnews h1 (by unfold maxLen;omega) ?_ hbase (fun v' w' own' hg hn hb=>h v' w' ?_ ?_)
 ·have:(xs.length+1) * bytes≤100000000 * 1000:=Nat.mul_le_mul (by omega) hbytes
  omega
 ·refine hrow.snoc hPd hl hbl hu hsep hP (fun cells' own2=>?_) hg hb
  have:cells'=cells:=by
   have e1:=own.2
   have e2:=own2.2
   have l1:=own.1
   have l2:=own2.1
   rcases e1 with ⟨ev,en⟩|⟨g,cap,cur,ev,_,hg1,_,_,_,ht1⟩
   ·have:cells = []:=List.eq_nil_of_length_eq_zero (by rw [l1,en];omega)
    have:cells' = []:=List.eq_nil_of_length_eq_zero (by rw [l2,en];omega)
    simp [*]
   ·rcases e2 with ⟨ev2,_⟩|⟨g2,cap2,cur2,ev2,_,hg2,_,_,_,ht2⟩
    ·rw [ev] at ev2;cases ev2
    ·rw [ev] at ev2;cases ev2
     rw [hg1] at hg2;cases hg2
     rw [← ht1,← ht2]
  rw [this];exact own'
 ·intro W hW hb2
  exact hW.own hg (fun g hg'=>Nat.le_trans hb2 (hrow.block g hg').1)
end Go.Proofs.YtccjepndhlobpaaGreatDoor

/-
  What lies in memory: several own rows.
-/
namespace Go.Proofs.YtccjepndhlobpaaGreatDoor
open Go.RowKit
set_option linter.unusedVariables false
set_option linter.unusedSimpArgs false

/-- What lies does not hang on the world. -/
def Flat {α:Type} (P:Lie α):Prop:=∀lo hi lo' hi' w w' cs x,P lo hi w cs x→P lo' hi' w' cs x
theorem IntP.flat:Flat IntP:=fun _ _ _ _ _ _ _ _ h=>h
theorem StrP.flat:Flat StrP:=fun _ _ _ _ _ _ _ _ h=>h
theorem CtlP.flat:Flat CtlP:=fun _ _ _ _ _ _ _ _ h=>h
theorem WrP.flat:Flat WrP:=fun _ _ _ _ _ _ _ _ h=>h
theorem PairP.flat:Flat PairP:=fun _ _ _ _ _ _ _ _ h=>h
/-- A row stays while another one grows. -/
theorem RowL.kept {α:Type} {size:Nat} {P:Lie α} (hP:Flat P) {e:TypeId} {base:Nat} {w w':World} {v:Value} {xs:List α} {r:Option Nat} (h:RowL size P e base w v xs) (hg:w.grownBy w' r) (hne:∀g,v.ownBlock=some g→r≠some g):RowL size P e base w' v xs:=by
 obtain ⟨cells,own,hel⟩:=h
 refine ⟨cells,⟨own.1,?_⟩,fun i hi=>?_⟩
 ·rcases own.2 with hn|⟨g,cap,cur,rfl,h1,h2,h3⟩
  ·exact .inl hn
  ·refine .inr ⟨g,cap,cur,rfl,h1,?_,h3⟩
   have hl:g<w.heap.size:=by
    by_cases hh:g<w.heap.size
    ·exact hh
    ·rw [Array.getElem?_eq_none (by omega)] at h2;cases h2
   rw [hg.block g hl (fun e=>hne g rfl e.symm)];exact h2
 ·obtain ⟨ds,l,u,d1,d2,d3,d4,d5,d6⟩:=hel i hi
  exact ⟨ds,l,u,d1,d2,Nat.le_trans d3 hg.size,d4,hP _ _ _ _ _ _ _ _ d5,d6⟩
variable {P:Program} {w:World}
/-- Append of one element to an own row, as a step of a walk. -/
theorem wpList_append_row2 {α:Type} {size:Nat} {Pd:Lie α} (hPd:Keeps Pd) {ops:Array Oper} {rest:List Oper} {o:Oper} {a:Act} {Q:Exit→Act→World→Prop} (hgd:o.guard=none) (s x:Operand) (t:TypeId)
 (ho:o.op=.call { callee:=.builtin .append,args:=#[s,x],argTypes:=#[t,t] })
 (base:Nat) (e:TypeId) (i:TypeInfo) (z:Value) (bytes:Nat) (ht:P.underlying t=some (.slice e)) (hi:P.info? e=some i) (hz:i.zero=some z)
 (hsize:i.size=size) (hby:i.bytes=bytes) (hzs:z.cells.size=size) (hsz:0<size)
 (v:Value) (xs:List α) (hs:a.eval s=v) (hrow:RowL size Pd e base w v xs)
 (ad:Addr) (c:Nat) (ds:List Value) (hx:a.eval x=.slice (some ad) 1 c) (hl:ds.length=size) (hnews:∀j u,ds[j]? = some u→w.cell? (ad.add j)=some u) (h1:∀u∈ds,u.oneCell'=true)
 (l u:Nat) (hbl:base≤l) (hu:u≤w.heap.size) (hsep:∀g,v.ownBlock=some g→g<l∨u≤g) (y:α) (hP:Pd l u w ds y)
 (h63:xs.length<100000000) (hbytes:bytes≤1000) (hbase:base≤w.heap.size)
 (h:∀v' w',RowL size Pd e base w' v' (xs++[y])→(∀W,Ext W w→W.heap.size≤base→Ext W w')→w.grownBy w' v.ownBlock→(v'.ownBlock=v.ownBlock∨v'.ownBlock=some w.heap.size)→wpList P ops Q rest (a.put o.dst v') w') :
 wpList P ops Q (o :: rest) a w:=by
 have hrow0:=hrow
 obtain ⟨cells,own,hel⟩:=hrow0
 refine wpList_append_own_at w hgd s x t ho base e i z size bytes ht hi hz hsize hby hzs hsz v xs.length cells hs own ad 1 c ds hx (by omega) hnews h1 (by unfold maxLen;omega) ?_ hbase (fun v' w' own' hg hn hb=>h v' w' ?_ ?_ hg hb)
 ·have:(xs.length+1) * bytes≤100000000 * 1000:=Nat.mul_le_mul (by omega) hbytes
  omega
 ·refine hrow.snoc hPd hl hbl hu hsep hP (fun cells' own2=>?_) hg hb
  have:cells'=cells:=by
   have e1:=own.2
   have e2:=own2.2
   have l1:=own.1
   have l2:=own2.1
   rcases e1 with ⟨ev,en⟩|⟨g,cap,cur,ev,_,hg1,_,_,_,ht1⟩
   ·have:cells = []:=List.eq_nil_of_length_eq_zero (by rw [l1,en];omega)
    have:cells' = []:=List.eq_nil_of_length_eq_zero (by rw [l2,en];omega)
    simp [*]
   ·rcases e2 with ⟨ev2,_⟩|⟨g2,cap2,cur2,ev2,_,hg2,_,_,_,ht2⟩
    ·rw [ev] at ev2;cases ev2
    ·rw [ev] at ev2;cases ev2
     rw [hg1] at hg2;cases hg2
     rw [← ht1,← ht2]
  rw [this];exact own'
 ·intro W hW hb2
  exact hW.own hg (fun g hg'=>Nat.le_trans hb2 (hrow.block g hg').1)

/-- Places at which a test holds. -/
def idxOf (f:Nat→Bool) (n:Nat):List Int:=((List.range n).filter f).map (fun (i:Nat)=>(i:Int))
theorem idxOf_yes {f:Nat→Bool} {n:Nat} (h:f n=true):idxOf f (n+1)=idxOf f n++[(n:Int)]:=by
 unfold idxOf;rw [List.range_succ,List.filter_append,List.map_append];simp [h]
theorem idxOf_no {f:Nat→Bool} {n:Nat} (h:f n=false):idxOf f (n+1)=idxOf f n:=by
 unfold idxOf;rw [List.range_succ,List.filter_append,List.map_append];simp [h]
theorem idxOf_len (f:Nat→Bool) (n:Nat):(idxOf f n).length≤n:=by
 unfold idxOf;rw [List.length_map];have:=List.length_filter_le f (List.range n);simpa using this
def kidF (b:Big) (p:Int) (i:Nat):Bool:=match b.nodes[i]? with|none=>false|some n=>decide (n.parent=p)
def holeF (b:Big) (p:Int) (i:Nat):Bool:=match b.sites[i]? with|none=>false|some x=>decide (x=p)
/-- The nodes, the sites with a parent. -/
def kidsL (b:Big) (p:Int):List Int:=idxOf (kidF b p) b.nodes.length
def holesL (b:Big) (p:Int):List Int:=idxOf (holeF b p) b.sites.length
theorem kidF_at (b:Big) (p:Int) (i:Nat) (h:i<b.nodes.length):kidF b p i=decide ((b.nodes[i]).parent=p):=by unfold kidF;rw [List.getElem?_eq_getElem h]
theorem holeF_at (b:Big) (p:Int) (i:Nat) (h:i<b.sites.length):holeF b p i=decide (b.sites[i]=p):=by unfold holeF;rw [List.getElem?_eq_getElem h]
/-- The ports of a node that have a link, up to a place. -/
def portsAt (links:List Int) (l:Int) (i k:Nat):List (Int × Int):=((List.range k).filter (fun j=>decide (links.getD j 0=l))).map (fun (j:Nat)=>((i:Int),(j:Int)))
def portsTo (b:Big) (l:Int) (n:Nat):List (Int × Int):=(List.range n).flatMap (fun i=>portsAt (b.nodes.getD i ⟨0,0,[]⟩).links l i (b.nodes.getD i ⟨0,0,[]⟩).links.length)
/-- The ports of a link. -/
def portsL (b:Big) (l:Int):List (Int × Int):=portsTo b l b.nodes.length
theorem portsAt_yes {links:List Int} {l:Int} {i k:Nat} (hk:k<links.length) (h:links[k]=l):portsAt links l i (k+1)=portsAt links l i k++[((i:Int),(k:Int))]:=by
 unfold portsAt;rw [List.range_succ,List.filter_append,List.map_append]
 simp [List.getElem?_eq_getElem hk,h]
theorem portsAt_no {links:List Int} {l:Int} {i k:Nat} (hk:k<links.length) (h:¬links[k]=l):portsAt links l i (k+1)=portsAt links l i k:=by
 unfold portsAt;rw [List.range_succ,List.filter_append,List.map_append]
 simp [List.getElem?_eq_getElem hk,h]
theorem portsTo_succ (b:Big) (l:Int) (n:Nat) (h:n<b.nodes.length):portsTo b l (n+1)=portsTo b l n++portsAt (b.nodes[n]).links l n (b.nodes[n]).links.length:=by
 unfold portsTo;rw [List.range_succ,List.flatMap_append]
 simp [List.getElem?_eq_getElem h]
theorem portsAt_len (links:List Int) (l:Int) (i k:Nat):(portsAt links l i k).length≤k:=by
 unfold portsAt;rw [List.length_map];have:=List.length_filter_le (fun j=>decide (links.getD j 0=l)) (List.range k);simpa using this
/-- The inner names of a link. -/
def endsTo (b:Big) (l:Int) (n:Nat):List ByteArray:=((b.inner.take n).filter (fun x=>decide (x.link=l))).map Wr.name
def endsL (b:Big) (l:Int):List ByteArray:=endsTo b l b.inner.length
theorem endsTo_yes {b:Big} {l:Int} {n:Nat} (h:n<b.inner.length) (hl:(b.inner[n]).link=l):endsTo b l (n+1)=endsTo b l n++[(b.inner[n]).name]:=by
 unfold endsTo;rw [List.take_succ_eq_append_getElem h,List.filter_append,List.map_append];simp [hl]
theorem endsTo_no {b:Big} {l:Int} {n:Nat} (h:n<b.inner.length) (hl:¬(b.inner[n]).link=l):endsTo b l (n+1)=endsTo b l n:=by
 unfold endsTo;rw [List.take_succ_eq_append_getElem h,List.filter_append,List.map_append];simp [hl]
theorem endsTo_len (b:Big) (l:Int) (n:Nat):(endsTo b l n).length≤n:=by
 unfold endsTo;rw [List.length_map];have:=List.length_filter_le (fun x:Wr=>decide (x.link=l)) (b.inner.take n);simp at this;omega
def idleB (b:Big) (l:Int):Bool:=(portsL b l).isEmpty && (endsL b l).isEmpty
end Go.Proofs.YtccjepndhlobpaaGreatDoor

/-
  What lies in memory: a row that grows by all of another slice.
-/
namespace Go.Proofs.YtccjepndhlobpaaGreatDoor
open Go.RowKit
set_option linter.unusedVariables false
set_option linter.unusedSimpArgs false
/-- The cells of data are single ones. -/
def Ones {α:Type} (P:Lie α):Prop:=∀lo hi w cs x,P lo hi w cs x→∀u∈cs,u.oneCell'=true
theorem flat_cells {α:Type} {P:Lie α} (hP:Flat P) (h1:Ones P) {size lo hi:Nat} {w:World} {b:Nat}:∀(ys:List α) (o:Nat),(∀i (h:i<ys.length),∃cs,cs.length=size∧P lo hi w cs ys[i]∧CellsAt w b (o+i * size) cs) →
 ∃news:List Value,news.length=ys.length * size∧(∀j u,news[j]? = some u→w.cell? ⟨b,o+j,none⟩=some u)∧(∀u∈news,u.oneCell'=true)∧∀i (h:i<ys.length),∃ds,ds.length=size∧P lo hi w ds ys[i]∧∀t y,ds[t]? = some y→news[i * size+t]? = some y:=by
 intro ys
 induction ys with
 | nil=>intro o _;exact ⟨[],by simp,by simp,by simp,fun i h=>absurd h (Nat.not_lt_zero _)⟩
 | cons y ys ih=>
  intro o h
  obtain ⟨cs,c1,c2,c3⟩:=h 0 (by simp)
  obtain ⟨news,n1,n2,n3,n4⟩:=ih (o+size) (fun i hi=>by
   obtain ⟨ds,d1,d2,d3⟩:=h (i+1) (by simp;omega)
   refine ⟨ds,d1,d2,?_⟩
   rw [show o+size+i * size=o+(i+1) * size by rw [Nat.succ_mul];omega];exact d3)
  simp only [Nat.zero_mul,Nat.add_zero] at c3
  refine ⟨cs++news,by simp [n1,c1,Nat.succ_mul];omega,fun j u hj=>?_,fun u hu=>?_,fun i hi=>?_⟩
  ·by_cases hlt:j<cs.length
   ·rw [List.getElem?_append_left hlt] at hj;exact c3 j u hj
   ·rw [List.getElem?_append_right (by omega)] at hj
    have:=n2 _ u hj
    rwa [show o+size+(j - cs.length)=o+j by omega] at this
  ·rcases List.mem_append.1 hu with hu|hu
   ·exact h1 _ _ _ _ _ c2 u hu
   ·exact n3 u hu
  ·cases i with
   | zero=>
    refine ⟨cs,c1,c2,fun t y' ht=>?_⟩
    rw [Nat.zero_mul,Nat.zero_add,List.getElem?_append_left (by
     rcases Nat.lt_or_ge t cs.length with hh|hh
     ·exact hh
     ·rw [List.getElem?_eq_none hh] at ht;cases ht)]
    exact ht
   | succ i=>
    obtain ⟨ds,d1,d2,d3⟩:=n4 i (by simp at hi;omega)
    refine ⟨ds,d1,d2,fun t y' ht=>?_⟩
    rw [List.getElem?_append_right (by rw [c1,Nat.succ_mul];omega),c1,show (i+1) * size+t - size=i * size+t by rw [Nat.succ_mul];omega]
    exact d3 t y' ht
theorem own_same {w:World} {base:Nat} {e:TypeId} {size:Nat} {v:Value} {n:Nat} {xs ys:List Value} (own:w.ownsRow base e size v n xs) (own2:w.ownsRow base e size v n ys):ys=xs:=by
 have e1:=own.2
 have e2:=own2.2
 have l1:=own.1
 have l2:=own2.1
 rcases e1 with ⟨ev,en⟩|⟨g,cap,cur,ev,_,hg1,_,_,_,ht1⟩
 ·have:xs = []:=List.eq_nil_of_length_eq_zero (by rw [l1,en];omega)
  have:ys = []:=List.eq_nil_of_length_eq_zero (by rw [l2,en];omega)
  simp [*]
 ·rcases e2 with ⟨ev2,_⟩|⟨g2,cap2,cur2,ev2,_,hg2,_,_,_,ht2⟩
  ·rw [ev] at ev2;cases ev2
  ·rw [ev] at ev2;cases ev2
   rw [hg1] at hg2;cases hg2
   rw [← ht1,← ht2]
variable {P:Program} {w:World}
/-- Append of all of a slice to an own row, as a step of a walk. -/
theorem wpList_append_all {α:Type} {size:Nat} {Pd:Lie α} (hF:Flat Pd) (hOne:Ones Pd) {ops:Array Oper} {rest:List Oper} {o:Oper} {a:Act} {Q:Exit→Act→World→Prop} (hgd:o.guard=none) (s x:Operand) (t:TypeId)
 (ho:o.op=.call { callee:=.builtin .append,args:=#[s,x],argTypes:=#[t,t] })
 (base:Nat) (e:TypeId) (i:TypeInfo) (z:Value) (bytes:Nat) (ht:P.underlying t=some (.slice e)) (hi:P.info? e=some i) (hz:i.zero=some z)
 (hsize:i.size=size) (hby:i.bytes=bytes) (hzs:z.cells.size=size) (hsz:0<size)
 (v:Value) (xs:List α) (hs:a.eval s=v) (hrow:RowL size Pd e base w v xs)
 (u:Value) (ys:List α) (lo hi':Nat) (hx:a.eval x=u) (hu:SlV size Pd lo hi' w u ys)
 (h63:xs.length+ys.length<100000000) (hbytes:bytes≤1000) (hbase:base≤w.heap.size)
 (h:∀v' w',RowL size Pd e base w' v' (xs++ys)→(∀W,Ext W w→W.heap.size≤base→Ext W w')→w.grownBy w' v.ownBlock→(v'.ownBlock=v.ownBlock∨v'.ownBlock=some w.heap.size)→wpList P ops Q rest (a.put o.dst v') w') :
 wpList P ops Q (o :: rest) a w:=by
 have hrow0:=hrow
 obtain ⟨cells,own,hel⟩:=hrow0
 obtain ⟨ua,uk,rfl,u1,u2,u3,u4⟩:=hu
 cases ua with
 | none=>
  have hk:=u3 rfl
  subst hk
  have hy:ys = []:=List.eq_nil_of_length_eq_zero (by omega)
  subst hy
  refine wpList_append_own_none hgd s x t ho base e i size ht hi v xs.length cells hs own (by simpa using hx) (h v w (by simpa using hrow) (fun W hW _=>hW) (grownBy_refl _ _) (.inl rfl))
 | some ad=>
  have hne:ys = []∨∃b o',ad=⟨b,o',none⟩∧∀i (h:i<ys.length),∃cs,cs.length=size∧Pd lo hi' w cs ys[i]∧CellsAt w b (o'+i * size) cs:=by
   rcases u4 with u4|⟨b,o',e1,_,_,u4⟩
   ·exact .inl u4
   ·cases e1;exact .inr ⟨b,o',rfl,u4⟩
  obtain ⟨news,n1,n2,n3,n4⟩:∃news:List Value,news.length=ys.length * size∧(∀j u,news[j]? = some u→w.cell? (ad.add j)=some u)∧(∀u∈news,u.oneCell'=true)∧∀i (h:i<ys.length),∃ds,ds.length=size∧Pd lo hi' w ds ys[i]∧∀t y,ds[t]? = some y→news[i * size+t]? = some y:=by
   rcases hne with hne|⟨b,o',rfl,hc⟩
   ·subst hne;exact ⟨[],by simp,by simp,by simp,fun i h=>absurd h (Nat.not_lt_zero _)⟩
   ·obtain ⟨news,m1,m2,m3,m4⟩:=flat_cells hF hOne ys o' hc
    refine ⟨news,m1,fun j u hj=>?_,m3,m4⟩
    have:=m2 j u hj
    have e:((⟨b,o',none⟩:Addr).add j)=⟨b,o'+j,none⟩:=by cases j <;> simp [Addr.add]
    rw [e];exact this
  refine wpList_append_own_at w hgd s x t ho base e i z size bytes ht hi hz hsize hby hzs hsz v xs.length cells hs own ad ys.length uk news hx n1 n2 n3 (by unfold maxLen;omega) ?_ hbase (fun v' w' own' hg hn hb=>h v' w' ?_ ?_ hg hb)
  ·have:(xs.length+ys.length) * bytes≤100000000 * 1000:=Nat.mul_le_mul (by omega) hbytes
   omega
  ·refine ⟨cells++news,by rw [List.length_append];exact own',fun j hj=>?_⟩
   by_cases hlt:j<xs.length
   ·obtain ⟨es,l1,u1',d1,d2,d3,d4,d5,d6⟩:=hel j hlt
    refine ⟨es,base,base,d1,Nat.le_refl _,Nat.le_trans hbase hg.size,fun g hg'=>?_,?_,fun t' y' ht'=>?_⟩
    ·rcases hb with hb|hb
     ·right;exact (hrow.block g (by rw [← hb];exact hg')).1
     ·rw [hb] at hg';cases hg';right;exact hbase
    ·rw [List.getElem_append_left hlt];exact hF _ _ _ _ _ _ _ _ d5
    ·have:=d6 t' y' ht'
     rw [List.getElem?_append_left (by
      rcases Nat.lt_or_ge (j * size+t') cells.length with hh|hh
      ·exact hh
      ·rw [List.getElem?_eq_none hh] at this;cases this)]
     exact this
   ·have hjy:j - xs.length<ys.length:=by simp at hj;omega
    obtain ⟨ds,d1,d2,d3⟩:=n4 (j - xs.length) hjy
    refine ⟨ds,base,base,d1,Nat.le_refl _,Nat.le_trans hbase hg.size,fun g hg'=>?_,?_,fun t' y' ht'=>?_⟩
    ·rcases hb with hb|hb
     ·right;exact (hrow.block g (by rw [← hb];exact hg')).1
     ·rw [hb] at hg';cases hg';right;exact hbase
    ·rw [List.getElem_append_right (by omega)];exact hF _ _ _ _ _ _ _ _ d2
    ·have:=d3 t' y' ht'
     have hm:j * size=xs.length * size+(j - xs.length) * size:=by rw [← Nat.add_mul];congr 1;omega
     rw [List.getElem?_append_right (by rw [own.1];omega),own.1,show j * size+t' - xs.length * size=(j - xs.length) * size+t' by omega]
     exact this
  ·intro W hW hb2
   exact hW.own hg (fun g hg'=>Nat.le_trans hb2 (hrow.block g hg').1)
end Go.Proofs.YtccjepndhlobpaaGreatDoor

/-
  What lies in memory: a row that grows by all of another slice, in a region that draws its order.
-/
namespace Go.Proofs.YtccjepndhlobpaaGreatDoor
open Go.RowKit
set_option linter.unusedVariables false
set_option linter.unusedSimpArgs false
theorem RowL.join {α:Type} {size:Nat} {P:Lie α} (hF:Flat P) {e:TypeId} {base:Nat} {w w':World} {v v':Value} {xs ys:List α} {cells news:List Value}
 (own:w.ownsRow base e size v xs.length cells) (hel:∀i (h:i<xs.length),∃ds lo hi,ds.length=size∧P lo hi w ds xs[i]∧∀t y,ds[t]? = some y→cells[i * size+t]? = some y)
 (n4:∀i (h:i<ys.length),∃ds lo hi,ds.length=size∧P lo hi w ds ys[i]∧∀t y,ds[t]? = some y→news[i * size+t]? = some y)
 (own':w'.ownsRow base e size v' (xs.length+ys.length) (cells++news)) (hb:base≤w'.heap.size):RowL size P e base w' v' (xs++ys):=by
 refine ⟨cells++news,by rw [List.length_append];exact own',fun j hj=>?_⟩
 by_cases hlt:j<xs.length
 ·obtain ⟨es,l1,u1,d1,d5,d6⟩:=hel j hlt
  refine ⟨es,base,base,d1,Nat.le_refl _,hb,fun g hg'=>.inr (own'.lt g hg').1,?_,fun t' y' ht'=>?_⟩
  ·rw [List.getElem_append_left hlt];exact hF _ _ _ _ _ _ _ _ d5
  ·have:=d6 t' y' ht'
   rw [List.getElem?_append_left (by
    rcases Nat.lt_or_ge (j * size+t') cells.length with hh|hh
    ·exact hh
    ·rw [List.getElem?_eq_none hh] at this;cases this)]
   exact this
 ·have hjy:j - xs.length<ys.length:=by simp at hj;omega
  obtain ⟨ds,l1,u1,d1,d2,d3⟩:=n4 (j - xs.length) hjy
  refine ⟨ds,base,base,d1,Nat.le_refl _,hb,fun g hg'=>.inr (own'.lt g hg').1,?_,fun t' y' ht'=>?_⟩
  ·rw [List.getElem_append_right (by omega)];exact hF _ _ _ _ _ _ _ _ d2
  ·have:=d3 t' y' ht'
   have hm:j * size=xs.length * size+(j - xs.length) * size:=by rw [← Nat.add_mul];congr 1;omega
   rw [List.getElem?_append_right (by rw [own.1];omega),own.1,show j * size+t' - xs.length * size=(j - xs.length) * size+t' by omega]
   exact this
variable {P:Program} {w:World}
/-- Append of all of a slice to an own row, at a step of a region that draws its order. -/
theorem step_append_all {α:Type} {size:Nat} {Pd:Lie α} (hF:Flat Pd) (hOne:Ones Pd) {ops:Array Oper} {o:Oper} {a:Act} {K:Act→World→Prop} {Q:Exit→Act→World→Prop} {E:Prop} (hgd:o.guard=none) (s x:Operand) (t:TypeId)
 (ho:o.op=.call { callee:=.builtin .append,args:=#[s,x],argTypes:=#[t,t] })
 (base:Nat) (e:TypeId) (i:TypeInfo) (z:Value) (bytes:Nat) (ht:P.underlying t=some (.slice e)) (hi:P.info? e=some i) (hz:i.zero=some z)
 (hsize:i.size=size) (hby:i.bytes=bytes) (hzs:z.cells.size=size) (hsz:0<size)
 (v:Value) (xs:List α) (hs:a.eval s=v) (hrow:RowL size Pd e base w v xs)
 (u:Value) (ys:List α) (lo hi':Nat) (hx:a.eval x=u) (hu:SlV size Pd lo hi' w u ys)
 (h63:xs.length+ys.length<100000000) (hbytes:bytes≤1000) (hbase:base≤w.heap.size)
 (h:∀v' w',RowL size Pd e base w' v' (xs++ys)→(∀W,Ext W w→W.heap.size≤base→Ext W w')→K (a.put o.dst v') w') :
 if Region.wanted o (yielded ops a.tmps)=true then Oper.wp P o a w K Q else E:=by
 have hw:Region.wanted o (yielded ops a.tmps)=true:=by simp [Region.wanted,hgd]
 rw [if_pos hw]
 have hrow0:=hrow
 obtain ⟨cells,own,hel⟩:=hrow0
 obtain ⟨ua,uk,rfl,u1,u2,u3,u4⟩:=hu
 cases ua with
 | none=>
  have hk:=u3 rfl
  subst hk
  have hy:ys = []:=List.eq_nil_of_length_eq_zero (by omega)
  subst hy
  have hrun:=run_append_owned_none (P:=P) (w:=w) base t o.type e i size ht hi v xs.length cells own
  have hx':a.eval x=.slice none 0 0:=by simpa using hx
  unfold Oper.wp
  simp [execOp,ho,resolve,invoke,builtin,hs,hx',hrun,Result.andThen]
  exact h v w (by simpa using hrow) (fun W hW _=>hW)
 | some ad=>
  have hne:ys = []∨∃b o',ad=⟨b,o',none⟩∧∀i (h:i<ys.length),∃cs,cs.length=size∧Pd lo hi' w cs ys[i]∧CellsAt w b (o'+i * size) cs:=by
   rcases u4 with u4|⟨b,o',e1,_,_,u4⟩
   ·exact .inl u4
   ·cases e1;exact .inr ⟨b,o',rfl,u4⟩
  obtain ⟨news,n1,n2,n3,n4⟩:∃news:List Value,news.length=ys.length * size∧(∀j u,news[j]? = some u→w.cell? (ad.add j)=some u)∧(∀u∈news,u.oneCell'=true)∧∀i (h:i<ys.length),∃ds,ds.length=size∧Pd lo hi' w ds ys[i]∧∀t y,ds[t]? = some y→news[i * size+t]? = some y:=by
   rcases hne with hne|⟨b,o',rfl,hc⟩
   ·subst hne;exact ⟨[],by simp,by simp,by simp,fun i h=>absurd h (Nat.not_lt_zero _)⟩
   ·obtain ⟨news,m1,m2,m3,m4⟩:=flat_cells hF hOne ys o' hc
    refine ⟨news,m1,fun j u hj=>?_,m3,m4⟩
    have:=m2 j u hj
    have e:((⟨b,o',none⟩:Addr).add j)=⟨b,o'+j,none⟩:=by cases j <;> simp [Addr.add]
    rw [e];exact this
  refine wp_append_own w s x t ho base e i z size bytes ht hi hz hsize hby hzs hsz v xs.length cells hs own ad ys.length uk news hx n1 n2 n3 (by unfold maxLen;omega) ?_ hbase (fun v' w' own' hg hn=>h v' w' ?_ ?_)
  ·have:(xs.length+ys.length) * bytes≤100000000 * 1000:=Nat.mul_le_mul (by omega) hbytes
   omega
  ·exact RowL.join hF own (fun i hi=>by obtain ⟨ds,l,u,d1,_,_,_,d5,d6⟩:=hel i hi;exact ⟨ds,l,u,d1,d5,d6⟩) (fun i hi=>by obtain ⟨ds,d1,d2,d3⟩:=n4 i hi;exact ⟨ds,lo,hi',d1,d2,d3⟩) own' (Nat.le_trans hbase hg.size)
  ·intro W hW hb2
   exact hW.own hg (fun g hg'=>Nat.le_trans hb2 (hrow.block g hg').1)
end Go.Proofs.YtccjepndhlobpaaGreatDoor

/-
  A region that draws its order, one of whose operations waits for all others: what is held need not hold behind that one.
-/
namespace Go.Proofs.YtccjepndhlobpaaGreatDoor
open Go.RowKit
set_option linter.unusedVariables false
set_option linter.unusedSimpArgs false
section
variable {P:Program} {ops:Array Oper} {Q:Exit→Act→World→Prop} {md:Region.Mode} {S:World→Prop}
/-- Whatever order is picked: what is held holds behind each operation but the number L; behind that one all goes on freely. -/
def anyBut (P:Program) (md:Region.Mode) (ops:Array Oper) (Q:Exit→Act→World→Prop) (S:World→Prop) (L:Nat):Nat→Array Bool→Act→World→Prop
 | 0,listed,a,w=>Region.ready md ops listed = []∧Q .normal a w
 | n+1,listed,a,w=>(Region.ready md ops listed = []→Q .normal a w) ∧
  ∀i∈Region.ready md ops listed,wpOp P ops Q i (fun a' w'=>(i=L∧wpAny P md ops Q n (listed.setIfInBounds i true) a' w')∨(i≠L∧S w'∧anyBut P md ops Q S L n (listed.setIfInBounds i true) a' w')) a w
theorem anyBut_any {L:Nat}:∀(n:Nat) (listed:Array Bool) (a:Act) (w:World),anyBut P md ops Q S L n listed a w→wpAny P md ops Q n listed a w:=by
 intro n
 induction n with
 | zero=>intro listed a w h;exact h
 | succ n ih=>
  intro listed a w h
  refine ⟨h.1,fun i hi=>wpOp_mono (fun a' w' hh=>?_) (h.2 i hi)⟩
  rcases hh with ⟨_,hh⟩|⟨_,_,hh⟩
  ·exact hh
  ·exact ih _ _ _ hh
theorem anyBut_first {L i:Nat} {oi oL:Oper} {v:Value} (hiL:i≠L) (hLo:ops[L]? = some oL) (hLi:∃e∈oL.after,Region.binds md e=true∧e.on=i) (hi:ops[i]? = some oi) (hsel:∀(j:Nat) (o:Oper) cs b,ops[j]? = some o→o.op≠.select cs b)
 (hQ:∀c a w,Q (.panic c) (a.put oi.dst v) w→Q (.panic c) a w) :
 ∀(n:Nat) (listed:Array Bool) (a:Act) (w:World),
  (∀j oj,ops[j]? = some oj→j≠i→listed.getD j true=false→(∀e∈oj.after,Region.binds md e=true→e.on≠i)→oi.apart ops oj=true) →
  i∈Region.ready md ops listed→YieldsIf P ops S oi v a→S w →
  anyBut P md ops Q S L n (listed.setIfInBounds i true) (a.put oi.dst v) w→anyBut P md ops Q S L (n+1) listed a w:=by
 intro n
 induction n with
 | zero=>
  intro listed a w _ hr hy hS H
  refine ⟨fun h=>(by rw [h] at hr;cases hr),fun j hj=>?_⟩
  by_cases hji:j=i
  ·subst hji;exact hy.wpOp hi hS (.inr ⟨hiL,hS,H⟩)
  ·have:=ready_mono hj hji
   rw [H.1] at this
   cases this
 | succ n ih=>
  intro listed a w hfree hr hy hS H
  refine ⟨fun h=>(by rw [h] at hr;cases hr),fun j hj=>?_⟩
  by_cases hji:j=i
  ·subst hji;exact hy.wpOp hi hS (.inr ⟨hiL,hS,H⟩)
  ·have h1:=H.2 j (ready_mono hj hji)
   obtain ⟨hjun,oj,hoj,hall⟩:=mem_ready.1 hj
   have hnot:∀e∈oj.after,Region.binds md e=true→e.on≠i:=fun e he hb heq=>by
    have h1:=hall e he hb
    have h0:=(mem_ready.1 hr).1
    rw [heq] at h1
    rcases Nat.lt_or_ge i listed.size with h'|h'
    ·simp [h'] at h0 h1;rw [h0] at h1;cases h1
    ·simp [Array.getElem?_eq_none h'] at h1
   have hjL:j≠L:=by
    intro e
    subst e
    rw [hLo] at hoj
    cases hoj
    obtain ⟨e,he,hb,heq⟩:=hLi
    exact hnot e he hb heq
   have h1':wpOp P ops Q j (fun a' w'=>S w'∧anyBut P md ops Q S L n ((listed.setIfInBounds i true).setIfInBounds j true) a' w') (a.put oi.dst v) w:=
    wpOp_mono (fun a' w' hh=>by
     rcases hh with ⟨hh,_⟩|⟨_,hh⟩
     ·exact absurd hh hjL
     ·exact hh) h1
   have h2:=wpOp_putIf hoj (hfree j oj hoj hji hjun hnot) (fun cs b=>hsel i oi cs b hi) (fun cs b=>hsel j oj cs b hoj) hQ hy h1'
   have hfree':∀k ok,ops[k]? = some ok→k≠i→(listed.setIfInBounds j true).getD k true=false →
    (∀e∈ok.after,Region.binds md e=true→e.on≠i)→oi.apart ops ok=true:=fun k ok hk hki hun hno=>by
    refine hfree k ok hk hki ?_ hno
    by_cases hjk:j=k
    ·subst hjk;exact hjun
    ·rw [getD_set_ne true hjk] at hun;exact hun
   refine wpOp_mono (fun a' w' h3=>.inr ⟨hjL,h3.2.1,ih (listed.setIfInBounds j true) a' w' hfree' (ready_mono hr (Ne.symm hji)) h3.1 h3.2.1 ?_⟩) h2
   rw [Array.setIfInBounds_comm _ _ hji]
   exact h3.2.2
/-- L waits for an operation, as a Bool. -/
def waitsFor (md:Region.Mode) (ops:Array Oper) (L i:Nat):Bool:=match ops[L]? with|none=>false|some o=>o.after.any (fun e=>Region.binds md e && e.on == i)
theorem anyBut_take {L i:Nat} {oi:Oper} {v:Value} {n:Nat} {listed:Array Bool} {a:Act} {w:World} (hw:waitsFor md ops L i=true) (hiL:i≠L) (hi:ops[i]? = some oi)
 (hs:Region.noSelect ops=true) (hf:Region.free md ops listed i=true) (hr:(Region.ready md ops listed).contains i=true)
 (hQ:∀c a w,Q (.panic c) (a.put oi.dst v) w→Q (.panic c) a w) (hy:YieldsIf P ops S oi v a) (hS:S w)
 (h:anyBut P md ops Q S L n (listed.setIfInBounds i true) (a.put oi.dst v) w):anyBut P md ops Q S L (n+1) listed a w:=by
 unfold waitsFor at hw
 cases hL:ops[L]? with
 | none=>rw [hL] at hw;cases hw
 | some oL=>
  rw [hL] at hw
  dsimp only at hw
  obtain ⟨k,hk,hb⟩:=Array.any_eq_true.1 hw
  simp only [Bool.and_eq_true,beq_iff_eq] at hb
  exact anyBut_first hiL hL ⟨oL.after[k],Array.getElem_mem hk,hb.1,hb.2⟩ hi (Region.noSelect_spec hs) hQ n listed a w (Region.free_spec hi hf) (by simpa using hr) hy hS h
theorem anyBut_last {L:Nat} {n:Nat} {listed:Array Bool} {a:Act} {w:World} {o:Oper} (hr:Region.ready md ops listed = [L]) (ho:ops[L]? = some o)
 (hdone:Region.ready md ops (listed.setIfInBounds L true) = [])
 (h:∀K':Act→World→Prop,(∀a w,Q .normal a w→K' a w)→if Region.wanted o (yielded ops a.tmps)=true then Oper.wp P o a w K' Q else K' (a.put o.dst undef) w):anyBut P md ops Q S L (n+1) listed a w:=by
 refine ⟨fun h0=>(by rw [hr] at h0;cases h0),fun i hi=>?_⟩
 rw [hr] at hi
 obtain rfl:=List.mem_singleton.1 hi
 refine wpOp_step ho (fun K' hK=>h K' (fun a' w' hq=>hK a' w' (.inl ⟨rfl,?_⟩)))
 cases n with
 | zero=>exact ⟨hdone,hq⟩
 | succ n=>exact ⟨fun _=>hq,by rw [hdone];simp⟩
theorem region_but {L:Nat} {id:Nat} {a:Act} {w:World} (hm:P.follows .mixedOrders=true)
 (hS:S w.drew) (h:S w.drew→anyBut P .any ops Q S L ops.size (Array.replicate ops.size false) a w.drew):(Code.region id ops true).wp P Q a w:=
 wp_region_any hm (anyBut_any _ _ _ _ (h hS))
end
end Go.Proofs.YtccjepndhlobpaaGreatDoor

/-
  What lies in memory of its own: no two parts share a block, no cell is frozen.
-/
namespace Go.Proofs.YtccjepndhlobpaaGreatDoor
open Go.RowKit
set_option linter.unusedVariables false
set_option linter.unusedSimpArgs false

/-- Bounds that lie apart. -/
def Off (a b:Nat × Nat):Prop:=a.2≤b.1∨b.2≤a.1
/-- Bounds within bounds, apart from each other. -/
def Parts (lo hi:Nat) (L:List (Nat × Nat)):Prop:=L.Pairwise Off∧∀p∈L,lo≤p.1∧p.2≤hi
theorem Parts.widen {lo hi lo' hi':Nat} {L:List (Nat × Nat)} (h:Parts lo hi L) (h1:lo'≤lo) (h2:hi≤hi'):Parts lo' hi' L:=
 ⟨h.1,fun p hp=>by have:=h.2 p hp;omega⟩
/-- A slice whose row, and whose elements' further memory, lie apart from each other. -/
def SlO {α:Type} (size:Nat) (P:Lie α) (lo hi:Nat) (w:World) (v:Value) (xs:List α):Prop:=
 ∃a k,v=.slice a xs.length k∧xs.length≤k∧k≤maxLen∧(a=none→k=0)∧(xs = []∨∃b o,∃f:Nat→Nat × Nat,a=some ⟨b,o,none⟩∧lo≤b∧b<hi∧b<w.heap.size∧(∀j,w.frozen? ⟨b,j,none⟩=false)∧(∀i j,i<j→j<xs.length→Off (f i) (f j)) ∧
  ∀i (h:i<xs.length),lo≤(f i).1∧(f i).2≤hi∧Off (f i) (b,b+1)∧∃cs,cs.length=size∧P (f i).1 (f i).2 w cs xs[i]∧CellsAt w b (o+i * size) cs)
theorem Same.sub {lo hi l u:Nat} {w w':World} (h:Same lo hi w w') (h1:lo≤l) (h2:u≤hi):Same l u w w':=fun b h3 h4 h5=>h b (by omega) (by omega) h5
theorem SlO.keeps {α:Type} {P:Lie α} (hP:Keeps P) {size lo hi:Nat} {w w':World} {v:Value} {xs:List α} (hz:w.heap.size≤w'.heap.size) (hs:Same lo hi w w') (h:SlO size P lo hi w v xs):SlO size P lo hi w' v xs:=by
 obtain ⟨a,k,rfl,h1,h2,h3,h4⟩:=h
 refine ⟨a,k,rfl,h1,h2,h3,?_⟩
 rcases h4 with h4|⟨b,o,f,rfl,hb1,hb2,hb3,hf,ho,h4⟩
 ·exact .inl h4
 ·refine .inr ⟨b,o,f,rfl,hb1,hb2,by omega,fun j=>(World.frozen?_of_block (hs b hb1 hb2 hb3)).trans (hf j),ho,fun i hi=>?_⟩
  obtain ⟨g1,g2,g3,cs,hl,hp,hc⟩:=h4 i hi
  exact ⟨g1,g2,g3,cs,hl,hP _ _ _ _ _ _ (hs.sub g1 g2) hp,hs.cells hb1 hb2 hc⟩
theorem SlO.widens {α:Type} {P:Lie α} {size lo hi lo' hi':Nat} {w:World} {v:Value} {xs:List α} (h1:lo'≤lo) (h2:hi≤hi') (h:SlO size P lo hi w v xs):SlO size P lo' hi' w v xs:=by
 obtain ⟨a,k,rfl,g1,g2,g3,h4⟩:=h
 refine ⟨a,k,rfl,g1,g2,g3,?_⟩
 rcases h4 with h4|⟨b,o,f,rfl,hb1,hb2,hb3,hf,ho,h4⟩
 ·exact .inl h4
 ·refine .inr ⟨b,o,f,rfl,by omega,by omega,hb3,hf,ho,fun i hi=>?_⟩
  obtain ⟨g1,g2,g3,cs,hl,hp,hc⟩:=h4 i hi
  exact ⟨by omega,by omega,g3,cs,hl,hp,hc⟩
/-- What lies in memory of its own lies in memory. -/
theorem SlO.toV {α:Type} {P P':Lie α} {size lo hi:Nat} {w:World} {v:Value} {xs:List α} (hW:Widens P') (hi':∀l u cs x,P l u w cs x→P' l u w cs x) (h:SlO size P lo hi w v xs):SlV size P' lo hi w v xs:=by
 obtain ⟨a,k,rfl,g1,g2,g3,h4⟩:=h
 refine ⟨a,k,rfl,g1,g2,g3,?_⟩
 rcases h4 with h4|⟨b,o,f,rfl,hb1,hb2,hb3,hf,ho,h4⟩
 ·exact .inl h4
 ·refine .inr ⟨b,o,rfl,hb1,hb2,fun i hi=>?_⟩
  obtain ⟨g1,g2,g3,cs,hl,hp,hc⟩:=h4 i hi
  exact ⟨cs,hl,hW _ _ _ _ _ _ _ g1 g2 (hi' _ _ _ _ hp),hc⟩
theorem SlO.form {α:Type} {P:Lie α} {size lo hi:Nat} {w:World} {v:Value} {xs:List α} (h:SlO size P lo hi w v xs):∃a k,v=.slice a xs.length k∧xs.length≤k∧k≤maxLen:=by
 obtain ⟨a,k,rfl,g1,g2,g3,h4⟩:=h
 exact ⟨a,k,rfl,g1,g2⟩
/-- That stays while its blocks are as they were, and none is lost. -/
def KeepsO {α:Type} (P:Lie α):Prop:=∀lo hi w w' cs x,w.heap.size≤w'.heap.size→Same lo hi w w'→P lo hi w cs x→P lo hi w' cs x
theorem Keeps.toO {α:Type} {P:Lie α} (h:Keeps P):KeepsO P:=fun _ _ _ _ _ _ _ hs hp=>h _ _ _ _ _ _ hs hp
theorem SlO.keepsO {α:Type} {P:Lie α} (hP:KeepsO P) {size lo hi:Nat} {w w':World} {v:Value} {xs:List α} (hz:w.heap.size≤w'.heap.size) (hs:Same lo hi w w') (h:SlO size P lo hi w v xs):SlO size P lo hi w' v xs:=by
 obtain ⟨a,k,rfl,h1,h2,h3,h4⟩:=h
 refine ⟨a,k,rfl,h1,h2,h3,?_⟩
 rcases h4 with h4|⟨b,o,f,rfl,hb1,hb2,hb3,hf,ho,h4⟩
 ·exact .inl h4
 ·refine .inr ⟨b,o,f,rfl,hb1,hb2,by omega,fun j=>(World.frozen?_of_block (hs b hb1 hb2 hb3)).trans (hf j),ho,fun i hi=>?_⟩
  obtain ⟨g1,g2,g3,cs,hl,hp,hc⟩:=h4 i hi
  exact ⟨g1,g2,g3,cs,hl,hP _ _ _ _ _ _ hz (hs.sub g1 g2) hp,hs.cells hb1 hb2 hc⟩
theorem SlO.ext {α:Type} {P:Lie α} (hP:KeepsO P) {size lo hi:Nat} {w w':World} {v:Value} {xs:List α} (h:SlO size P lo hi w v xs) (hx:Ext w w'):SlO size P lo hi w' v xs:=h.keepsO hP (Below.size hx) (Same.ext hx)
theorem SlO.set {α:Type} {P:Lie α} (hP:KeepsO P) {size lo hi b o:Nat} {u:Value} {w:World} {v:Value} {xs:List α} (h:SlO size P lo hi w v xs) (hb:b<lo∨hi≤b):SlO size P lo hi (w.setCell ⟨b,o,none⟩ u) v xs:=
 h.keepsO hP (by simp) (Same.grown (grownBy_set b o u) hb)
theorem KeepsO.ext {α:Type} {P:Lie α} (hP:KeepsO P) {lo hi:Nat} {w w':World} {cs:List Value} {x:α} (h:P lo hi w cs x) (hx:Ext w w'):P lo hi w' cs x:=hP _ _ _ _ _ _ (Below.size hx) (Same.ext hx) h
theorem KeepsO.set {α:Type} {P:Lie α} (hP:KeepsO P) {lo hi b o:Nat} {u:Value} {w:World} {cs:List Value} {x:α} (h:P lo hi w cs x) (hb:b<lo∨hi≤b):P lo hi (w.setCell ⟨b,o,none⟩ u) cs x:=
 hP _ _ _ _ _ _ (by simp) (Same.grown (grownBy_set b o u) hb) h

abbrev IntsO:=SlO 1 IntP
abbrev StrsO:=SlO 1 StrP
abbrev CtlsO:=SlO 3 CtlP
abbrev WrsO:=SlO 2 WrP
abbrev PairsO:=SlO 2 PairP
def RowO:Lie (List Int):=fun lo hi w cs l=>∃v,cs = [v]∧IntsO lo hi w v l
def NdO:Lie Nd:=fun lo hi w cs n=>∃v,cs = [.int .i64 n.control,.int .i64 n.parent,v]∧I64 n.control∧I64 n.parent∧IntsO lo hi w v n.links
abbrev RowsO:=SlO 1 RowO
abbrev NdsO:=SlO 3 NdO
def BigO:Lie Big:=fun lo hi w cs b=>∃v1 v2 v4 v5 l1 u1 l2 u2 l4 u4 l5 u5,cs = [.int .i64 b.roots,v1,v2,.int .i64 b.edges,v4,v5]∧I64 b.roots∧I64 b.edges∧NdsO l1 u1 w v1 b.nodes∧IntsO l2 u2 w v2 b.sites∧StrsO l4 u4 w v4 b.outer∧WrsO l5 u5 w v5 b.inner∧Parts lo hi [(l1,u1),(l2,u2),(l4,u4),(l5,u5)]
def RulO:Lie Rul:=fun lo hi w cs r=>∃c1 c2 v l1 u1 l2 u2 l3 u3,cs=c1++(c2++[v])∧BigO l1 u1 w c1 r.redex∧BigO l2 u2 w c2 r.reactum∧IntsO l3 u3 w v r.copies∧Parts lo hi [(l1,u1),(l2,u2),(l3,u3)]
abbrev RulsO:=SlO 13 RulO
def SrtO:Lie Srt:=fun lo hi w cs s=>∃v0 v1 v2 v3 v4 l0 u0 l1 u1 l2 u2 l3 u3 l4 u4,cs = [v0,v1,v2,v3,v4]∧IntsO l0 u0 w v0 s.tops∧RowsO l1 u1 w v1 s.nest∧RowsO l2 u2 w v2 s.sorts∧IntsO l3 u3 w v3 s.most∧PairsO l4 u4 w v4 s.apart∧Parts lo hi [(l0,u0),(l1,u1),(l2,u2),(l3,u3),(l4,u4)]
def RntO:Lie Rnt:=fun lo hi w cs r=>∃v0 c1 v6 v7 c8 l0 u0 l1 u1 l6 u6 l7 u7 l8 u8,cs=v0 :: (c1++(v6 :: v7 :: (c8++[.int .i64 r.count])))∧CtlsO l0 u0 w v0 r.sig∧SrtO l1 u1 w c1 r.sort∧RulsO l6 u6 w v6 r.rules∧StrsO l7 u7 w v7 r.hosts∧BigO l8 u8 w c8 r.agent∧I64 r.count∧Parts lo hi [(l0,u0),(l1,u1),(l6,u6),(l7,u7),(l8,u8)]
theorem IntP.keepsO:KeepsO IntP:=IntP.keeps.toO
theorem StrP.keepsO:KeepsO StrP:=StrP.keeps.toO
theorem CtlP.keepsO:KeepsO CtlP:=CtlP.keeps.toO
theorem WrP.keepsO:KeepsO WrP:=WrP.keeps.toO
theorem PairP.keepsO:KeepsO PairP:=PairP.keeps.toO
theorem RowO.keepsO:KeepsO RowO:=by
 rintro lo hi w w' cs l hz hs ⟨v,rfl,h⟩
 exact ⟨v,rfl,h.keepsO IntP.keepsO hz hs⟩
theorem NdO.keepsO:KeepsO NdO:=by
 rintro lo hi w w' cs n hz hs ⟨v,rfl,h1,h2,h⟩
 exact ⟨v,rfl,h1,h2,h.keepsO IntP.keepsO hz hs⟩
theorem Parts.at {lo hi:Nat} {L:List (Nat × Nat)} (h:Parts lo hi L) {w w':World} (hs:Same lo hi w w'):∀p∈L,Same p.1 p.2 w w':=fun p hp=>hs.sub (h.2 p hp).1 (h.2 p hp).2
theorem BigO.keepsO:KeepsO BigO:=by
 rintro lo hi w w' cs b hz hs ⟨v1,v2,v4,v5,l1,u1,l2,u2,l4,u4,l5,u5,rfl,h1,h2,a,b',c,d,hp⟩
 have hq:=hp.at hs
 exact ⟨v1,v2,v4,v5,l1,u1,l2,u2,l4,u4,l5,u5,rfl,h1,h2,a.keepsO NdO.keepsO hz (hq (l1,u1) (by simp)),b'.keepsO IntP.keepsO hz (hq (l2,u2) (by simp)),c.keepsO StrP.keepsO hz (hq (l4,u4) (by simp)),d.keepsO WrP.keepsO hz (hq (l5,u5) (by simp)),hp⟩
theorem RulO.keepsO:KeepsO RulO:=by
 rintro lo hi w w' cs r hz hs ⟨c1,c2,v,l1,u1,l2,u2,l3,u3,rfl,a,b,c,hp⟩
 have hq:=hp.at hs
 exact ⟨c1,c2,v,l1,u1,l2,u2,l3,u3,rfl,BigO.keepsO _ _ _ _ _ _ hz (hq (l1,u1) (by simp)) a,BigO.keepsO _ _ _ _ _ _ hz (hq (l2,u2) (by simp)) b,c.keepsO IntP.keepsO hz (hq (l3,u3) (by simp)),hp⟩
theorem SrtO.keepsO:KeepsO SrtO:=by
 rintro lo hi w w' cs s hz hs ⟨v0,v1,v2,v3,v4,l0,u0,l1,u1,l2,u2,l3,u3,l4,u4,rfl,a,b,c,d,e,hp⟩
 have hq:=hp.at hs
 exact ⟨v0,v1,v2,v3,v4,l0,u0,l1,u1,l2,u2,l3,u3,l4,u4,rfl,a.keepsO IntP.keepsO hz (hq (l0,u0) (by simp)),b.keepsO RowO.keepsO hz (hq (l1,u1) (by simp)),c.keepsO RowO.keepsO hz (hq (l2,u2) (by simp)),d.keepsO IntP.keepsO hz (hq (l3,u3) (by simp)),e.keepsO PairP.keepsO hz (hq (l4,u4) (by simp)),hp⟩
theorem RntO.keepsO:KeepsO RntO:=by
 rintro lo hi w w' cs r hz hs ⟨v0,c1,v6,v7,c8,l0,u0,l1,u1,l6,u6,l7,u7,l8,u8,rfl,a,b,c,d,e,f,hp⟩
 have hq:=hp.at hs
 exact ⟨v0,c1,v6,v7,c8,l0,u0,l1,u1,l6,u6,l7,u7,l8,u8,rfl,a.keepsO CtlP.keepsO hz (hq (l0,u0) (by simp)),SrtO.keepsO _ _ _ _ _ _ hz (hq (l1,u1) (by simp)) b,c.keepsO RulO.keepsO hz (hq (l6,u6) (by simp)),d.keepsO StrP.keepsO hz (hq (l7,u7) (by simp)),BigO.keepsO _ _ _ _ _ _ hz (hq (l8,u8) (by simp)) e,f,hp⟩
theorem RowO.widens:Widens RowO:=by
 rintro lo hi lo' hi' w cs l h1 h2 ⟨v,rfl,h⟩
 exact ⟨v,rfl,h.widens h1 h2⟩
theorem NdO.widens:Widens NdO:=by
 rintro lo hi lo' hi' w cs n h1 h2 ⟨v,rfl,g1,g2,h⟩
 exact ⟨v,rfl,g1,g2,h.widens h1 h2⟩
theorem BigO.widens:Widens BigO:=by
 rintro lo hi lo' hi' w cs b h1 h2 ⟨v1,v2,v4,v5,l1,u1,l2,u2,l4,u4,l5,u5,rfl,g1,g2,a,b',c,d,hp⟩
 exact ⟨v1,v2,v4,v5,l1,u1,l2,u2,l4,u4,l5,u5,rfl,g1,g2,a,b',c,d,hp.widen h1 h2⟩
theorem RulO.widens:Widens RulO:=by
 rintro lo hi lo' hi' w cs r h1 h2 ⟨c1,c2,v,l1,u1,l2,u2,l3,u3,rfl,a,b,c,hp⟩
 exact ⟨c1,c2,v,l1,u1,l2,u2,l3,u3,rfl,a,b,c,hp.widen h1 h2⟩
theorem SrtO.widens:Widens SrtO:=by
 rintro lo hi lo' hi' w cs s h1 h2 ⟨v0,v1,v2,v3,v4,l0,u0,l1,u1,l2,u2,l3,u3,l4,u4,rfl,a,b,c,d,e,hp⟩
 exact ⟨v0,v1,v2,v3,v4,l0,u0,l1,u1,l2,u2,l3,u3,l4,u4,rfl,a,b,c,d,e,hp.widen h1 h2⟩
theorem RntO.widens:Widens RntO:=by
 rintro lo hi lo' hi' w cs r h1 h2 ⟨v0,c1,v6,v7,c8,l0,u0,l1,u1,l6,u6,l7,u7,l8,u8,rfl,a,b,c,d,e,f,hp⟩
 exact ⟨v0,c1,v6,v7,c8,l0,u0,l1,u1,l6,u6,l7,u7,l8,u8,rfl,a,b,c,d,e,f,hp.widen h1 h2⟩
theorem IntsO.toV {lo hi:Nat} {w:World} {v:Value} {xs:List Int} (h:IntsO lo hi w v xs):IntsV lo hi w v xs:=SlO.toV IntP.widens (fun _ _ _ _ h=>h) h
theorem StrsO.toV {lo hi:Nat} {w:World} {v:Value} {xs:List ByteArray} (h:StrsO lo hi w v xs):StrsV lo hi w v xs:=SlO.toV StrP.widens (fun _ _ _ _ h=>h) h
theorem CtlsO.toV {lo hi:Nat} {w:World} {v:Value} {xs:List Ctl} (h:CtlsO lo hi w v xs):CtlsV lo hi w v xs:=SlO.toV CtlP.widens (fun _ _ _ _ h=>h) h
theorem WrsO.toV {lo hi:Nat} {w:World} {v:Value} {xs:List Wr} (h:WrsO lo hi w v xs):WrsV lo hi w v xs:=SlO.toV WrP.widens (fun _ _ _ _ h=>h) h
theorem PairsO.toV {lo hi:Nat} {w:World} {v:Value} {xs:List (Int × Int)} (h:PairsO lo hi w v xs):PairsV lo hi w v xs:=SlO.toV PairP.widens (fun _ _ _ _ h=>h) h
theorem RowO.toP {lo hi:Nat} {w:World} {cs:List Value} {x:List Int} (h:RowO lo hi w cs x):RowP lo hi w cs x:=by
 obtain ⟨v,rfl,h⟩:=h;exact ⟨v,rfl,IntsO.toV h⟩
theorem NdO.toP {lo hi:Nat} {w:World} {cs:List Value} {x:Nd} (h:NdO lo hi w cs x):NdP lo hi w cs x:=by
 obtain ⟨v,rfl,h1,h2,h⟩:=h;exact ⟨v,rfl,h1,h2,IntsO.toV h⟩
theorem RowsO.toV {lo hi:Nat} {w:World} {v:Value} {xs:List (List Int)} (h:RowsO lo hi w v xs):RowsV lo hi w v xs:=SlO.toV RowP.widens (fun _ _ _ _ h=>RowO.toP h) h
theorem NdsO.toV {lo hi:Nat} {w:World} {v:Value} {xs:List Nd} (h:NdsO lo hi w v xs):NdsV lo hi w v xs:=SlO.toV NdP.widens (fun _ _ _ _ h=>NdO.toP h) h
theorem BigO.toP {lo hi:Nat} {w:World} {cs:List Value} {x:Big} (h:BigO lo hi w cs x):BigP lo hi w cs x:=by
 obtain ⟨v1,v2,v4,v5,l1,u1,l2,u2,l4,u4,l5,u5,rfl,g1,g2,a,b,c,d,hp⟩:=h
 have q:=hp.2
 simp only [List.mem_cons,List.not_mem_nil,or_false,forall_eq_or_imp,forall_eq] at q
 obtain ⟨q1,q2,q3,q4⟩:=q
 exact ⟨v1,v2,v4,v5,rfl,g1,g2,(NdsO.toV a).widens NdP.widens q1.1 q1.2,(IntsO.toV b).widens IntP.widens q2.1 q2.2,(StrsO.toV c).widens StrP.widens q3.1 q3.2,(WrsO.toV d).widens WrP.widens q4.1 q4.2⟩
theorem RulO.toP {lo hi:Nat} {w:World} {cs:List Value} {x:Rul} (h:RulO lo hi w cs x):RulP lo hi w cs x:=by
 obtain ⟨c1,c2,v,l1,u1,l2,u2,l3,u3,rfl,a,b,c,hp⟩:=h
 have q:=hp.2
 simp only [List.mem_cons,List.not_mem_nil,or_false,forall_eq_or_imp,forall_eq] at q
 obtain ⟨q1,q2,q3⟩:=q
 exact ⟨c1,c2,v,rfl,BigP.widens _ _ _ _ _ _ _ q1.1 q1.2 (BigO.toP a),BigP.widens _ _ _ _ _ _ _ q2.1 q2.2 (BigO.toP b),(IntsO.toV c).widens IntP.widens q3.1 q3.2⟩
theorem RulsO.toV {lo hi:Nat} {w:World} {v:Value} {xs:List Rul} (h:RulsO lo hi w v xs):RulsV lo hi w v xs:=SlO.toV RulP.widens (fun _ _ _ _ h=>RulO.toP h) h
theorem SrtO.toP {lo hi:Nat} {w:World} {cs:List Value} {x:Srt} (h:SrtO lo hi w cs x):SrtP lo hi w cs x:=by
 obtain ⟨v0,v1,v2,v3,v4,l0,u0,l1,u1,l2,u2,l3,u3,l4,u4,rfl,a,b,c,d,e,hp⟩:=h
 have q:=hp.2
 simp only [List.mem_cons,List.not_mem_nil,or_false,forall_eq_or_imp,forall_eq] at q
 obtain ⟨q1,q2,q3,q4,q5⟩:=q
 exact ⟨v0,v1,v2,v3,v4,rfl,(IntsO.toV a).widens IntP.widens q1.1 q1.2,(RowsO.toV b).widens RowP.widens q2.1 q2.2,(RowsO.toV c).widens RowP.widens q3.1 q3.2,(IntsO.toV d).widens IntP.widens q4.1 q4.2,(PairsO.toV e).widens PairP.widens q5.1 q5.2⟩
theorem RntO.toP {lo hi:Nat} {w:World} {cs:List Value} {x:Rnt} (h:RntO lo hi w cs x):RntP lo hi w cs x:=by
 obtain ⟨v0,c1,v6,v7,c8,l0,u0,l1,u1,l6,u6,l7,u7,l8,u8,rfl,a,b,c,d,e,f,hp⟩:=h
 have q:=hp.2
 simp only [List.mem_cons,List.not_mem_nil,or_false,forall_eq_or_imp,forall_eq] at q
 obtain ⟨q1,q2,q3,q4,q5⟩:=q
 exact ⟨v0,c1,v6,v7,c8,rfl,(CtlsO.toV a).widens CtlP.widens q1.1 q1.2,SrtP.widens _ _ _ _ _ _ _ q2.1 q2.2 (SrtO.toP b),(RulsO.toV c).widens RulP.widens q3.1 q3.2,(StrsO.toV d).widens StrP.widens q4.1 q4.2,BigP.widens _ _ _ _ _ _ _ q5.1 q5.2 (BigO.toP e),f⟩
/-- How far an own row is filled, the elements' memory laid one behind the other. -/
def FilledO {α:Type} (size:Nat) (P:Lie α) (g:Nat) (w:World) (xs:List α) (cells:List Value) (i:Nat):Prop:=
 ∃f:Nat→Nat × Nat,(∀j j',j<j'→j'<i→(f j).2≤(f j').1)∧(∀j,j<i→g<(f j).1∧(f j).2≤w.heap.size) ∧
  ∀j (h:j<xs.length),j<i→∃ds,ds.length=size∧P (f j).1 (f j).2 w ds xs[j]∧∀t u,ds[t]? = some u→cells[j * size+t]? = some u
theorem FilledO.zero {α:Type} {size:Nat} {P:Lie α} {g:Nat} {w:World} {xs:List α} {cells:List Value}:FilledO size P g w xs cells 0:=
 ⟨fun _=>(0,0),fun _ _ _ h=>absurd h (Nat.not_lt_zero _),fun _ h=>absurd h (Nat.not_lt_zero _),fun j _ hj=>absurd hj (Nat.not_lt_zero _)⟩
/-- One element more is filled in; its memory has been laid by a call. -/
theorem FilledO.put {α:Type} {size:Nat} {P:Lie α} (hP:KeepsO P) {g:Nat} {w w':World} {xs:List α} {cells:List Value} {i:Nat} (h:FilledO size P g w xs cells i) (hx:Ext w w') (hg:g<w.heap.size) (hi:i<xs.length) (ds:List Value) (hd:ds.length=size) (hl:cells.length=xs.length * size)
 (hp:P w.heap.size w'.heap.size w' ds xs[i]) (hgr:w'.grownBy (putW w' g (i * size) ds) (some g)):FilledO size P g (putW w' g (i * size) ds) xs (putAt cells (i * size) ds) (i+1):=by
 obtain ⟨f,f1,f2,f3⟩:=h
 have hz:=Below.size hx
 refine ⟨fun j=>if j<i then f j else (w.heap.size,w'.heap.size),fun j j' h1 h2=>?_,fun j hj=>?_,fun j hj hji=>?_⟩
 ·by_cases hh:j'<i
  ·simp only [if_pos hh,if_pos (show j<i by omega)];exact f1 j j' h1 hh
  ·simp only [if_neg hh,if_pos (show j<i by omega)];exact (f2 j (by omega)).2
 ·rw [putW_size]
  by_cases hh:j<i
  ·simp only [if_pos hh];have:=f2 j hh;omega
  ·simp only [if_neg hh];omega
 ·by_cases hlt:j<i
  ·simp only [if_pos hlt]
   have hs:Same (f j).1 (f j).2 w (putW w' g (i * size) ds):=by
    intro b b1 b2 b3
    have:=f2 j hlt
    rw [hgr.block b (by omega) (by simp;omega)]
    exact hx.block b b3
   obtain ⟨es,h1,h2,h3⟩:=f3 j hj hlt
   refine ⟨es,h1,hP _ _ _ _ _ _ (by rw [putW_size];omega) hs h2,fun t u ht=>?_⟩
   have htl:t<size:=by
    by_cases hh:t<es.length
    ·omega
    ·rw [List.getElem?_eq_none (by omega)] at ht;cases ht
   rw [putAt_out]
   ·exact h3 t u ht
   ·left
    have:(j+1) * size≤i * size:=Nat.mul_le_mul_right _ hlt
    rw [Nat.add_mul] at this
    omega
  ·have e:j=i:=by omega
   subst e
   simp only [if_neg hlt]
   have hs:Same w.heap.size w'.heap.size w' (putW w' g (j * size) ds):=Same.grown hgr (.inl hg)
   refine ⟨ds,hd,hP _ _ _ _ _ _ (by rw [putW_size];omega) hs hp,fun t u ht=>putAt_in ds cells _ t u ?_ ht⟩
   have:(j+1) * size≤xs.length * size:=Nat.mul_le_mul_right _ hj
   rw [Nat.add_mul] at this
   omega
theorem FilledO.all {α:Type} {size:Nat} {P:Lie α} {base g cap lo:Nat} {e:TypeId} {w:World} {xs:List α} {cells:List Value} (h:FilledO size P g w xs cells xs.length) (own:w.ownsRow base e size (.slice (some ⟨g,0,none⟩) xs.length cap) xs.length cells) (hlo:lo≤g) (hc:xs.length≤cap) (hcm:cap≤maxLen) :
 SlO size P lo w.heap.size w (.slice (some ⟨g,0,none⟩) xs.length cap) xs:=by
 obtain ⟨f,f1,f2,f3⟩:=h
 refine ⟨_,_,rfl,hc,hcm,fun h=>(by cases h),.inr ⟨g,0,f,rfl,hlo,(own_lt own).2,(own_lt own).2,fun j=>own.frozenAt j,fun i j h1 h2=>.inl (f1 i j h1 h2),fun i hi=>?_⟩⟩
 obtain ⟨ds,h1,h2,h3⟩:=f3 i hi hi
 have:=f2 i hi
 refine ⟨by omega,this.2,.inr (by show g+1≤_;omega),ds,h1,h2,fun t u ht=>?_⟩
 rw [Nat.zero_add]
 exact own_cell own _ _ (h3 t u ht)
/-- A filled row of elements that lie in their cells alone. -/
theorem Filled.allO {α:Type} {size:Nat} {P:Lie α} (hF:Flat P) {base g cap lo:Nat} {e:TypeId} {w:World} {xs:List α} {cells:List Value} (h:Filled size P g w xs cells xs.length) (own:w.ownsRow base e size (.slice (some ⟨g,0,none⟩) xs.length cap) xs.length cells) (hlo:lo≤g) (hc:xs.length≤cap) (hcm:cap≤maxLen) :
 SlO size P lo w.heap.size w (.slice (some ⟨g,0,none⟩) xs.length cap) xs:=by
 refine ⟨_,_,rfl,hc,hcm,fun h=>(by cases h),.inr ⟨g,0,fun _=>(lo,lo),rfl,hlo,(own_lt own).2,(own_lt own).2,fun j=>own.frozenAt j,fun i j h1 h2=>.inl (Nat.le_refl _),fun i hi=>?_⟩⟩
 obtain ⟨ds,h1,h2,h3⟩:=h i hi hi
 have:=(own_lt own).2
 refine ⟨Nat.le_refl _,by show lo≤_;omega,.inl (by show lo≤g;exact hlo),ds,h1,hF _ _ _ _ _ _ _ _ h2,fun t u ht=>?_⟩
 rw [Nat.zero_add]
 exact own_cell own _ _ (h3 t u ht)
/-- Only some blocks have changed, and blocks have been laid. -/
structure Only (lo hi:Nat) (w w':World):Prop where
 os:w'.os=w.os
 tape:w'.tape=w.tape
 output:w'.output=w.output
 size:w.heap.size≤w'.heap.size
 block:∀b,b<w.heap.size→(b<lo∨hi≤b)→w'.heap[b]? = w.heap[b]?
theorem Only.refl (lo hi:Nat) (w:World):Only lo hi w w:=⟨rfl,rfl,rfl,Nat.le_refl _,fun _ _ _=>rfl⟩
theorem Only.trans {lo hi:Nat} {w w1 w2:World} (h:Only lo hi w w1) (k:Only lo hi w1 w2):Only lo hi w w2:=
 ⟨k.os.trans h.os,k.tape.trans h.tape,k.output.trans h.output,Nat.le_trans h.size k.size,fun b h1 h2=>(k.block b (Nat.lt_of_lt_of_le h1 h.size) h2).trans (h.block b h1 h2)⟩
theorem Only.of_ext {lo hi:Nat} {w w':World} (h:Ext w w'):Only lo hi w w':=⟨h.os,h.tape,h.output,Below.size h,fun b h1 _=>h.block b h1⟩
theorem Only.ext {lo hi:Nat} {w w1 w2:World} (h:Only lo hi w w1) (k:Ext w1 w2):Only lo hi w w2:=h.trans (.of_ext k)
theorem Only.widen {lo hi lo' hi':Nat} {w w':World} (h:Only lo hi w w') (h1:lo'≤lo) (h2:hi≤hi'):Only lo' hi' w w':=
 ⟨h.os,h.tape,h.output,h.size,fun b h3 h4=>h.block b h3 (by omega)⟩
theorem Only.set {lo hi b o:Nat} {u:Value} {w w':World} (h:Only lo hi w w') (h1:lo≤b) (h2:b<hi):Only lo hi w (w'.setCell ⟨b,o,none⟩ u):=
 h.trans ⟨rfl,rfl,rfl,by simp,fun k _ hk=>heap_setCell_other w' ⟨b,o,none⟩ k u (fun e=>by simp at e;omega)⟩
theorem Only.same {lo hi l u:Nat} {w w':World} (h:Only lo hi w w') (ho:Off (lo,hi) (l,u)):Same l u w w':=fun b h1 h2 h3=>h.block b h3 (by
 rcases ho with ho|ho
 ·exact .inr (by simp at ho;omega)
 ·exact .inl (by simp at ho;omega))
theorem Ext.only {lo hi:Nat} {W w w':World} (h:Ext W w) (k:Only lo hi w w') (hl:W.heap.size≤lo):Ext W w':=
 ⟨k.os.trans h.os,k.tape.trans h.tape,k.output.trans h.output,Nat.le_trans (Below.size h) k.size,fun b hb=>(k.block b (Nat.lt_of_lt_of_le hb (Below.size h)) (.inl (by omega))).trans (h.block b hb)⟩
/-- What has changed at one element of a row. -/
structure Touch (b p n l u:Nat) (w w':World):Prop where
 os:w'.os=w.os
 tape:w'.tape=w.tape
 output:w'.output=w.output
 size:w.heap.size≤w'.heap.size
 block:∀c,c<w.heap.size→c≠b→(c<l∨u≤c)→w'.heap[c]? = w.heap[c]?
 froz:∀j,w'.frozen? ⟨b,j,none⟩=w.frozen? ⟨b,j,none⟩
 cell:∀j,(j<p∨p+n≤j)→w'.cell? ⟨b,j,none⟩=w.cell? ⟨b,j,none⟩
theorem Touch.refl (b p n l u:Nat) (w:World):Touch b p n l u w w:=⟨rfl,rfl,rfl,Nat.le_refl _,fun _ _ _ _=>rfl,fun _=>rfl,fun _ _=>rfl⟩
theorem Touch.set {b p n l u o:Nat} {x:Value} {w w':World} (h:Touch b p n l u w w') (h1:p≤o) (h2:o<p+n):Touch b p n l u w (w'.setCell ⟨b,o,none⟩ x):=
 ⟨h.os,h.tape,h.output,by simpa using h.size,fun c c1 c2 c3=>(heap_setCell_other w' ⟨b,o,none⟩ c x (fun e=>c2 (by simp [e]))).trans (h.block c c1 c2 c3),fun j=>(World.frozen?_setCell _ _ _ _).trans (h.froz j),
  fun j hj=>(World.cell?_setCell_other _ _ _ _ (by intro e;injection e with e1 e2;omega)).trans (h.cell j hj)⟩
theorem Touch.only {b p n l u:Nat} {w w1 w2:World} (h:Touch b p n l u w w1) (k:Only l u w1 w2) (hb:b<w.heap.size) (ho:Off (l,u) (b,b+1)):Touch b p n l u w w2:=by
 have hbb:w2.heap[b]? = w1.heap[b]?:=k.block b (Nat.lt_of_lt_of_le hb h.size) (by
  rcases ho with ho|ho
  ·exact .inr (by simp at ho;omega)
  ·exact .inl (by simp at ho;omega))
 exact ⟨k.os.trans h.os,k.tape.trans h.tape,k.output.trans h.output,Nat.le_trans h.size k.size,fun c c1 c2 c3=>(k.block c (Nat.lt_of_lt_of_le c1 h.size) c3).trans (h.block c c1 c2 c3),
  fun j=>(World.frozen?_of_block hbb).trans (h.froz j),fun j hj=>(World.cell?_of_block hbb).trans (h.cell j hj)⟩
theorem Touch.ext {b p n l u:Nat} {w w1 w2:World} (h:Touch b p n l u w w1) (k:Ext w1 w2) (hb:b<w.heap.size):Touch b p n l u w w2:=by
 have hbb:w2.heap[b]? = w1.heap[b]?:=k.block b (Nat.lt_of_lt_of_le hb h.size)
 exact ⟨k.os.trans h.os,k.tape.trans h.tape,k.output.trans h.output,Nat.le_trans h.size (Below.size k),fun c c1 c2 c3=>(k.block c (Nat.lt_of_lt_of_le c1 h.size)).trans (h.block c c1 c2 c3),
  fun j=>(World.frozen?_of_block hbb).trans (h.froz j),fun j hj=>(World.cell?_of_block hbb).trans (h.cell j hj)⟩
theorem Touch.toOnly {b p n l u lo hi:Nat} {w w':World} (h:Touch b p n l u w w') (h1:lo≤b) (h2:b<hi) (h3:lo≤l) (h4:u≤hi):Only lo hi w w':=
 ⟨h.os,h.tape,h.output,h.size,fun c c1 c2=>h.block c c1 (by omega) (by omega)⟩
/-- One element of a slice in memory of its own, and what a change of it makes. -/
theorem SlO.at {α:Type} {P:Lie α} (hP:KeepsO P) {size lo hi:Nat} {w:World} {v:Value} {xs:List α} (h:SlO size P lo hi w v xs) (i:Nat) (hi':i<xs.length) :
 ∃b o k l u cs,v=.slice (some ⟨b,o,none⟩) xs.length k∧xs.length≤k∧k≤maxLen∧lo≤b∧b<hi∧b<w.heap.size∧(∀j,w.frozen? ⟨b,j,none⟩=false)∧lo≤l∧u≤hi∧Off (l,u) (b,b+1)∧cs.length=size∧P l u w cs xs[i]∧CellsAt w b (o+i * size) cs ∧
  ∀w' y cs',Touch b (o+i * size) size l u w w'→cs'.length=size→P l u w' cs' y→CellsAt w' b (o+i * size) cs'→SlO size P lo hi w' v (xs.set i y):=by
 obtain ⟨a,k,rfl,h1,h2,h3,h4⟩:=h
 rcases h4 with h4|⟨b,o,f,rfl,hb1,hb2,hb3,hf,ho,h4⟩
 ·subst h4;cases hi'
 ·obtain ⟨g1,g2,g3,cs,hl,hp,hc⟩:=h4 i hi'
  refine ⟨b,o,k,(f i).1,(f i).2,cs,rfl,h1,h2,hb1,hb2,hb3,hf,g1,g2,g3,hl,hp,hc,fun w' y cs' ht hl' hp' hc'=>?_⟩
  refine ⟨_,k,by rw [List.length_set],by rw [List.length_set];exact h1,h2,fun e=>(by cases e),.inr ⟨b,o,f,rfl,hb1,hb2,Nat.lt_of_lt_of_le hb3 ht.size,fun j=>(ht.froz j).trans (hf j),fun i j q1 q2=>ho i j q1 (by simpa using q2),fun j hj=>?_⟩⟩
  have hj':j<xs.length:=by simpa using hj
  obtain ⟨e1,e2,e3,ds,el,ep,ec⟩:=h4 j hj'
  by_cases hji:j=i
  ·subst hji
   exact ⟨g1,g2,g3,cs',hl',by rw [List.getElem_set_self];exact hp',hc'⟩
  ·refine ⟨e1,e2,e3,ds,el,?_,fun t x hx=>?_⟩
   ·rw [List.getElem_set_ne (fun e=>hji e.symm)]
    refine hP _ _ _ _ _ _ ht.size (fun c c1 c2 c3=>ht.block c c3 ?_ ?_) ep
    ·intro e
     subst e
     simp only [Off] at e3;omega
    ·have:Off (f j) (f i):=by
      rcases Nat.lt_or_ge j i with q|q
      ·exact ho j i q hi'
      ·have:=ho i j (by omega) hj'
       exact this.symm
     rcases this with q|q
     ·exact .inl (by omega)
     ·exact .inr (by omega)
   ·have htl:t<size:=by
     have:t<ds.length:=by
      by_cases hh:t<ds.length
      ·exact hh
      ·rw [List.getElem?_eq_none (by omega)] at hx;cases hx
     omega
    rw [ht.cell (o+j * size+t) ?_]
    ·exact ec t x hx
    ·rcases Nat.lt_or_ge j i with q|q
     ·left
      have:(j+1) * size≤i * size:=Nat.mul_le_mul_right _ q
      rw [Nat.add_mul] at this;omega
     ·right
      have:(i+1) * size≤j * size:=Nat.mul_le_mul_right _ (by omega)
      rw [Nat.add_mul] at this;omega
theorem CellsAt.nil (w:World) (b o:Nat):CellsAt w b o []:=fun j u h=>by simp at h
theorem CellsAt.cons {w:World} {b o:Nat} {c:Value} {cs:List Value} (h:w.cell? ⟨b,o,none⟩=some c) (k:CellsAt w b (o+1) cs):CellsAt w b o (c :: cs):=by
 intro j u hj
 cases j with
 | zero=>simp at hj;subst hj;exact h
 | succ j=>rw [show o+(j+1)=(o+1)+j by omega];exact k j u (by simpa using hj)
end Go.Proofs.YtccjepndhlobpaaGreatDoor

/-
  What lies in memory of its own: what a change of one part leaves as it was.
-/
namespace Go.Proofs.YtccjepndhlobpaaGreatDoor
open Go.RowKit
set_option linter.unusedVariables false
set_option linter.unusedSimpArgs false

theorem CellsAt.set {w:World} {b p off:Nat} {x:Value} {cs:List Value} (h:CellsAt w b p cs) (ho:off<cs.length):CellsAt (w.setCell ⟨b,p+off,none⟩ x) b p (cs.set off x):=by
 intro j u hj
 rw [List.getElem?_set] at hj
 by_cases e:off=j
 ·subst e
  rw [if_pos rfl,if_pos ho] at hj
  cases hj
  exact World.cell?_setCell_same _ _ _ (h off _ (List.getElem?_eq_getElem ho))
 ·rw [if_neg e] at hj
  exact cell_other (h j u hj) (by intro e2;injection e2 with e3 e4;omega)
theorem CellsAt.ext {w w':World} {b p:Nat} {cs:List Value} (h:CellsAt w b p cs) (hx:Ext w w'):CellsAt w' b p cs:=fun j u hj=>hx.keep (h j u hj)
theorem Only.keep {lo hi:Nat} {w w':World} {q:Addr} {v:Value} (h:Only lo hi w w') (hc:w.cell? q=some v) (hq:q.block<lo∨hi≤q.block):w'.cell? q=some v:=
 (World.cell?_of_block (h.block _ (World.block_lt_of_cell? w q hc) hq)).trans hc
theorem CellsAt.only {l u:Nat} {w w':World} {b p:Nat} {cs:List Value} (h:CellsAt w b p cs) (k:Only l u w w') (ho:Off (l,u) (b,b+1)):CellsAt w' b p cs:=fun j x hj=>k.keep (h j x hj) (by
 rcases ho with ho|ho
 ·exact .inr (by simp at ho ⊢;omega)
 ·exact .inl (by simp at ho ⊢;omega))
theorem SlO.only {α:Type} {P:Lie α} (hP:KeepsO P) {size lo hi l u:Nat} {w w':World} {v:Value} {xs:List α} (h:SlO size P lo hi w v xs) (k:Only l u w w') (ho:Off (l,u) (lo,hi)):SlO size P lo hi w' v xs:=h.keepsO hP k.size (k.same ho)
theorem KeepsO.only {α:Type} {P:Lie α} (hP:KeepsO P) {lo hi l u:Nat} {w w':World} {cs:List Value} {x:α} (h:P lo hi w cs x) (k:Only l u w w') (ho:Off (l,u) (lo,hi)):P lo hi w' cs x:=hP _ _ _ _ _ _ k.size (k.same ho) h
theorem Off.symm {a b:Nat × Nat} (h:Off a b):Off b a:=Or.symm h
theorem Off.sub {a b:Nat × Nat} {l u l' u':Nat} (h:Off a b) (h1:a.1≤l) (h2:u≤a.2) (h3:b.1≤l') (h4:u'≤b.2):Off (l,u) (l',u'):=by
 rcases h with h|h
 ·exact .inl (by show u≤l';omega)
 ·exact .inr (by show u'≤l;omega)
theorem Off.lt {l u b:Nat} (h:Off (l,u) (b,b+1)):b<l∨u≤b:=by
 rcases h with h|h <;> simp at h <;> omega
theorem Parts.off {lo hi:Nat} {L:List (Nat × Nat)} (h:Parts lo hi L) (i j:Nat) (hij:i<j) (hj:j<L.length):Off (L[i]'(by omega)) L[j]:=List.pairwise_iff_getElem.1 h.1 i j (by omega) hj hij
theorem Parts.le {lo hi:Nat} {L:List (Nat × Nat)} (h:Parts lo hi L) (i:Nat) (hi':i<L.length):lo≤(L[i]).1∧(L[i]).2≤hi:=h.2 _ (List.getElem_mem hi')
end Go.Proofs.YtccjepndhlobpaaGreatDoor

/-
  Plain: marks.
-/
namespace Go.Proofs.YtccjepndhlobpaaGreatDoor
open Go.RowKit
set_option linter.unusedVariables false
set_option linter.unusedSimpArgs false

/-- Marks, one element behind the other. -/
def mkL {α:Type} (f:Int→α→α) (c:α→Nat):Int→List α→List α
 | _,[]=>[]
 | k,x :: xs=>f k x :: mkL f c (k+c x) xs
def cnL {α:Type} (c:α→Nat) (xs:List α):Nat:=(xs.map c).sum
/-- Marked up to a place. -/
def mkTo {α:Type} (f:Int→α→α) (c:α→Nat) (i:Nat) (k:Int) (xs:List α):List α:=mkL f c k (xs.take i)++xs.drop i
theorem mkL_len {α:Type} (f:Int→α→α) (c:α→Nat):∀(xs:List α) (k:Int),(mkL f c k xs).length=xs.length:=by
 intro xs
 induction xs with
 | nil=>intro k;rfl
 | cons x xs ih=>intro k;simp [mkL,ih]
theorem cnL_take {α:Type} (c:α→Nat) (xs:List α) (i:Nat) (h:i<xs.length):cnL c (xs.take (i+1))=cnL c (xs.take i)+c xs[i]:=by
 rw [List.take_succ_eq_append_getElem h]
 unfold cnL
 rw [List.map_append,List.sum_append]
 simp
theorem cnL_cons {α:Type} (c:α→Nat) (x:α) (xs:List α):cnL c (x :: xs)=c x+cnL c xs:=by simp [cnL]
theorem mkL_append {α:Type} (f:Int→α→α) (c:α→Nat):∀(xs ys:List α) (k:Int),mkL f c k (xs++ys)=mkL f c k xs++mkL f c (k+cnL c xs) ys:=by
 intro xs
 induction xs with
 | nil=>intro ys k;simp [mkL,cnL]
 | cons x xs ih=>
  intro ys k
  rw [List.cons_append,mkL,ih,mkL,cnL_cons,List.cons_append,show k+((c x+cnL c xs:Nat):Int)=k+(c x:Int)+(cnL c xs:Int) by omega]
theorem mkTo_len {α:Type} (f:Int→α→α) (c:α→Nat) (i:Nat) (k:Int) (xs:List α):(mkTo f c i k xs).length=xs.length:=by
 unfold mkTo;rw [List.length_append,mkL_len,List.length_take,List.length_drop];omega
theorem mkTo_zero {α:Type} (f:Int→α→α) (c:α→Nat) (k:Int) (xs:List α):mkTo f c 0 k xs=xs:=by simp [mkTo,mkL]
theorem mkTo_all {α:Type} (f:Int→α→α) (c:α→Nat) (k:Int) (xs:List α):mkTo f c xs.length k xs=mkL f c k xs:=by simp [mkTo]
theorem mkTo_at {α:Type} (f:Int→α→α) (c:α→Nat) (i:Nat) (k:Int) (xs:List α) (h:i<xs.length) (h':i<(mkTo f c i k xs).length):(mkTo f c i k xs)[i]=xs[i]:=by
 have hl:(mkL f c k (xs.take i)).length=i:=by rw [mkL_len,List.length_take];omega
 simp only [mkTo]
 rw [List.getElem_append_right (by omega)]
 simp [hl]
theorem mkTo_succ {α:Type} (f:Int→α→α) (c:α→Nat) (i:Nat) (k:Int) (xs:List α) (h:i<xs.length):mkTo f c (i+1) k xs=(mkTo f c i k xs).set i (f (k+cnL c (xs.take i)) xs[i]):=by
 have hl:(mkL f c k (xs.take i)).length=i:=by rw [mkL_len,List.length_take];omega
 unfold mkTo
 rw [List.take_succ_eq_append_getElem h,mkL_append,List.set_append_right _ _ (by omega),hl,Nat.sub_self,List.drop_eq_getElem_cons h,List.set_cons_zero,mkL,mkL,List.append_assoc]
 rfl
theorem mkL_at {α:Type} (f:Int→α→α) (c:α→Nat) (i:Nat) (k:Int) (xs:List α) (h:i<xs.length) (h':i<(mkL f c k xs).length):(mkL f c k xs)[i]=f (k+cnL c (xs.take i)) xs[i]:=by
 have e:mkL f c k xs=mkL f c k (xs.take i)++(f (k+cnL c (xs.take i)) xs[i] :: mkL f c (k+cnL c (xs.take i)+c xs[i]) (xs.drop (i+1))):=by
  have:xs=xs.take i++xs[i] :: xs.drop (i+1):=by rw [← List.drop_eq_getElem_cons h,List.take_append_drop]
  conv=>lhs;rw [this,mkL_append,mkL]
 have hl:(mkL f c k (xs.take i)).length=i:=by rw [mkL_len,List.length_take];omega
 simp only [e]
 rw [List.getElem_append_right (by omega)]
 simp [hl]
theorem cnL_take_le {α:Type} (c:α→Nat) (xs:List α) (i:Nat):cnL c (xs.take i)≤cnL c xs:=sum_take_le c xs i
theorem cnL_all {α:Type} (c:α→Nat) (xs:List α):cnL c (xs.take xs.length)=cnL c xs:=by simp
def c1 {α:Type} (_:α):Nat:=1
def c2 {α:Type} (_:α):Nat:=2
def c3 {α:Type} (_:α):Nat:=3
theorem cnL_c1 {α:Type} (xs:List α):cnL c1 xs=xs.length:=by
 induction xs with
 | nil=>rfl
 | cons x xs ih=>rw [cnL_cons,ih];simp [c1];omega
theorem cnL_c2 {α:Type} (xs:List α):cnL c2 xs=2 * xs.length:=by
 induction xs with
 | nil=>rfl
 | cons x xs ih=>rw [cnL_cons,ih];simp [c2];omega
theorem cnL_c3 {α:Type} (xs:List α):cnL c3 xs=3 * xs.length:=by
 induction xs with
 | nil=>rfl
 | cons x xs ih=>rw [cnL_cons,ih];simp [c3];omega
/-- The text of a mark. -/
def markS (n:Int):ByteArray:=if n≤0 then ⟨#[109,48]⟩ else ⟨#[109]⟩++decS n
def mkI (k:Int) (_:Int):Int:=k
def mkS (k:Int) (_:ByteArray):ByteArray:=markS k
def mkCtl (k:Int) (_:Ctl):Ctl:=⟨markS k,k+1,k+1+1⟩
def mkWr (k:Int) (_:Wr):Wr:=⟨markS k,k+1⟩
def mkPair (k:Int) (_:Int × Int):Int × Int:=(k,k+1)
def mkRow (k:Int) (l:List Int):List Int:=mkL mkI c1 k l
def cRow (l:List Int):Nat:=cnL c1 l
def cNd (n:Nd):Nat:=2+cnL c1 n.links
def mkNd (k:Int) (n:Nd):Nd:=⟨k,k+1,mkL mkI c1 (k+1+1) n.links⟩
def cBig (b:Big):Nat:=cnL cNd b.nodes+cnL c1 b.sites+cnL c1 b.outer+cnL c2 b.inner
/-- What the mark of a bigraph makes of its memory. -/
def mkBig (k:Int) (b:Big):Big:=⟨b.roots,mkL mkNd cNd k b.nodes,mkL mkI c1 (k+cnL cNd b.nodes) b.sites,b.edges,mkL mkS c1 (k+cnL cNd b.nodes+cnL c1 b.sites) b.outer,mkL mkWr c2 (k+cnL cNd b.nodes+cnL c1 b.sites+cnL c1 b.outer) b.inner⟩
/-- The same in a row, where its numbers are marked, too. -/
def cBigR (b:Big):Nat:=cBig b+2
def mkBigR (k:Int) (b:Big):Big:=⟨k,mkL mkNd cNd (k+1) b.nodes,mkL mkI c1 (k+1+cnL cNd b.nodes) b.sites,k+1+cnL cNd b.nodes+cnL c1 b.sites,mkL mkS c1 (k+1+cnL cNd b.nodes+cnL c1 b.sites+1) b.outer,mkL mkWr c2 (k+1+cnL cNd b.nodes+cnL c1 b.sites+1+cnL c1 b.outer) b.inner⟩
/-- Where the marks stand behind a bigraph in a row. -/
def upBigR (k:Int) (b:Big):Int:=k+1+cnL cNd b.nodes+cnL c1 b.sites+1+cnL c1 b.outer+cnL c2 b.inner
theorem upBigR_eq (k:Int) (b:Big):upBigR k b=k+cBigR b:=by unfold upBigR cBigR cBig;omega
def cRulR (r:Rul):Nat:=cBigR r.redex+cBigR r.reactum+cnL c1 r.copies
def mkRulR (k:Int) (r:Rul):Rul:=⟨mkBigR k r.redex,mkBigR (upBigR k r.redex) r.reactum,mkL mkI c1 (upBigR (upBigR k r.redex) r.reactum) r.copies⟩
def cSrt (s:Srt):Nat:=cnL c1 s.tops+cnL cRow s.nest+cnL cRow s.sorts+cnL c1 s.most+cnL c2 s.apart
def mkSrt (k:Int) (s:Srt):Srt:=⟨mkL mkI c1 k s.tops,mkL mkRow cRow (k+cnL c1 s.tops) s.nest,mkL mkRow cRow (k+cnL c1 s.tops+cnL cRow s.nest) s.sorts,mkL mkI c1 (k+cnL c1 s.tops+cnL cRow s.nest+cnL cRow s.sorts) s.most,mkL mkPair c2 (k+cnL c1 s.tops+cnL cRow s.nest+cnL cRow s.sorts+cnL c1 s.most) s.apart⟩
def cRnt (r:Rnt):Nat:=cnL c3 r.sig+cSrt r.sort+cnL cRulR r.rules+cnL c1 r.hosts+cBig r.agent
def mkRnt (k:Int) (r:Rnt):Rnt:=⟨mkL mkCtl c3 k r.sig,mkSrt (k+cnL c3 r.sig) r.sort,mkL mkRulR cRulR (k+cnL c3 r.sig+cSrt r.sort) r.rules,mkL mkS c1 (k+cnL c3 r.sig+cSrt r.sort+cnL cRulR r.rules) r.hosts,mkBig (k+cnL c3 r.sig+cSrt r.sort+cnL cRulR r.rules+cnL c1 r.hosts) r.agent,r.count⟩
theorem cnL_le {α:Type} (c d:α→Nat) (m:Nat) (h:∀x,c x≤m+d x) (xs:List α):cnL c xs≤m * xs.length+(xs.map d).sum:=by
 induction xs with
 | nil=>simp [cnL]
 | cons x xs ih=>
  have:=h x
  rw [cnL_cons,List.length_cons,List.map_cons,List.sum_cons,Nat.mul_succ]
  omega
theorem cnL_wt {α:Type} (c d:α→Nat) (m:Nat) (hm:1≤m) (h:∀x,c x≤m+m * d x) (xs:List α):cnL c xs≤m * wtL d xs:=by
 induction xs with
 | nil=>simp [cnL]
 | cons x xs ih=>
  have:=h x
  rw [cnL_cons,wtL_cons,Nat.mul_add,Nat.mul_add]
  omega
theorem cNd_le (n:Nd):cNd n≤2+2 * wtNd n:=by unfold cNd wtNd;rw [cnL_c1];omega
theorem cRow_le (l:List Int):cRow l≤2+2 * wtRow l:=by unfold cRow wtRow;rw [cnL_c1];omega
theorem wtL_len {α:Type} (f:α→Nat) (l:List α):l.length≤wtL f l:=by unfold wtL;omega
theorem cBig_le (b:Big):cBig b≤2 * wtBig b:=by
 have h1:=cnL_wt cNd wtNd 2 (by omega) cNd_le b.nodes
 have h2:=wtL_len wtStr b.outer
 have h3:=wtL_len wtWr b.inner
 have e:wtBig b=wtL wtNd b.nodes+b.sites.length+wtL wtStr b.outer+wtL wtWr b.inner:=rfl
 unfold cBig
 rw [e,cnL_c1,cnL_c1,cnL_c2]
 omega
theorem cRulR_le (r:Rul):cRulR r≤4+4 * wtRul r:=by
 have h1:=cBig_le r.redex
 have h2:=cBig_le r.reactum
 have e:wtRul r=wtBig r.redex+wtBig r.reactum+r.copies.length:=rfl
 unfold cRulR cBigR
 rw [cnL_c1]
 omega
theorem cSrt_le (s:Srt):cSrt s≤2 * wtSrt s:=by
 have h1:=cnL_wt cRow wtRow 2 (by omega) cRow_le s.nest
 have h2:=cnL_wt cRow wtRow 2 (by omega) cRow_le s.sorts
 have e:wtSrt s=s.tops.length+wtL wtRow s.nest+wtL wtRow s.sorts+s.most.length+s.apart.length:=rfl
 unfold cSrt
 rw [cnL_c1,cnL_c1,cnL_c2]
 omega
theorem cRnt_le (r:Rnt):cRnt r≤4 * wtRnt r:=by
 have h1:=wtL_len wtCtl r.sig
 have h2:=cSrt_le r.sort
 have h3:=cnL_wt cRulR wtRul 4 (by omega) cRulR_le r.rules
 have h4:=wtL_len wtStr r.hosts
 have h5:=cBig_le r.agent
 have e:wtRnt r=wtL wtCtl r.sig+wtSrt r.sort+wtL wtRul r.rules+wtL wtStr r.hosts+wtBig r.agent:=rfl
 unfold cRnt
 rw [cnL_c1,cnL_c3]
 omega
theorem markS_len (n:Int) (h0:0≤n) (h1:n≤1000000000):(markS n).size≤maxLen:=by
 unfold markS
 split
 ·decide
 ·rw [ByteArray.size_append]
  have:=decS_len n (by omega) (by omega)
  have e:(⟨#[109]⟩:ByteArray).size=1:=rfl
  unfold maxLen
  omega
end Go.Proofs.YtccjepndhlobpaaGreatDoor

/-
  Plain data and memory: logs and consoles.
-/
namespace Go.Proofs.YtccjepndhlobpaaGreatDoor
open Go.RowKit
set_option linter.unusedVariables false
set_option linter.unusedSimpArgs false

structure Lg where
 durable:ByteArray
 pending:ByteArray
 count:Int
structure Cns where
 run:Rnt
 log:Lg
def wtLg (x:Lg):Nat:=x.durable.size+x.pending.size
def wtCns (x:Cns):Nat:=wtRnt x.run+wtLg x.log
def LgP:Lie Lg:=fun _ _ _ cs x=>cs = [.string x.durable,.string x.pending,.int .i64 x.count]∧x.durable.size≤maxLen∧x.pending.size≤maxLen∧I64 x.count
def CnsP:Lie Cns:=fun lo hi w cs x=>∃c1 c2,cs=c1++c2∧RntP lo hi w c1 x.run∧LgP lo hi w c2 x.log
def CnsO:Lie Cns:=fun lo hi w cs x=>∃c1 c2,cs=c1++c2∧RntO lo hi w c1 x.run∧LgP lo hi w c2 x.log
theorem LgP.keeps:Keeps LgP:=fun _ _ _ _ _ _ _ h=>h
theorem LgP.keepsO:KeepsO LgP:=LgP.keeps.toO
theorem LgP.widens:Widens LgP:=fun _ _ _ _ _ _ _ _ _ h=>h
theorem CnsP.keeps:Keeps CnsP:=by
 rintro lo hi w w' cs x hs ⟨c1,c2,rfl,a,b⟩
 exact ⟨c1,c2,rfl,RntP.keeps _ _ _ _ _ _ hs a,b⟩
theorem CnsO.keepsO:KeepsO CnsO:=by
 rintro lo hi w w' cs x hz hs ⟨c1,c2,rfl,a,b⟩
 exact ⟨c1,c2,rfl,RntO.keepsO _ _ _ _ _ _ hz hs a,b⟩
theorem CnsO.toP {lo hi:Nat} {w:World} {cs:List Value} {x:Cns} (h:CnsO lo hi w cs x):CnsP lo hi w cs x:=by
 obtain ⟨c1,c2,rfl,a,b⟩:=h
 exact ⟨c1,c2,rfl,RntO.toP a,b⟩
def mkCns (k:Int) (x:Cns):Cns:=⟨mkRnt k x.run,x.log⟩
end Go.Proofs.YtccjepndhlobpaaGreatDoor

/-
  The door for deep data: an argument that can be read lies as plain data; no program in sight.
-/
namespace Go.Proofs.YtccjepndhlobpaaGreatDoor
open Go.RowKit Go.ChangeShapes Go.WideShapes
set_option linter.unusedVariables false
set_option linter.unusedSimpArgs false

section
variable {H:Type} {enc:TypeId × Value→H} {P:Program} {w:World}
/-- Whatever can be read at a type lies as plain data. -/
def OpensAt {H:Type} (enc:TypeId × Value→H) (P:Program) (w:World) (t:TypeId) {α:Type} (L:Lie α):Prop:=
 ∀fuel cs x,DataW.trod enc P w 0 (fun _=>true) true fuel t cs=some x→∃d,L 0 w.heap.size w cs d
theorem add_plain (b o i:Nat):(⟨b,o,none⟩:Addr).add i=⟨b,o+i,none⟩:=by
 unfold Addr.add
 split <;> simp_all
theorem opens_int {t:TypeId} (ht:P.underlying t=some (.int .i64)):OpensAt enc P w t IntP:=by
 intro fuel cs x h
 obtain ⟨n,rfl,_,hw⟩:=DataW.trod_int ht h
 exact ⟨n,rfl,bounds_i64 hw⟩
theorem opens_string {t:TypeId} (ht:P.underlying t=some .string):OpensAt enc P w t StrP:=by
 intro fuel cs x h
 obtain ⟨s,rfl,_,hw⟩:=DataW.trod_string ht h
 exact ⟨s,rfl,hw⟩
theorem opens_slice {t e:TypeId} {α:Type} {L:Lie α} {size:Nat} (ht:P.underlying t=some (.slice e)) (hc:P.cellsOf e=size) (hp:0<size) (he:OpensAt enc P w e L) :
 ∀fuel cs x,DataW.trod enc P w 0 (fun _=>true) true fuel t cs=some x→∃v xs,cs = [v]∧SlV size L 0 w.heap.size w v xs:=by
 intro fuel cs x h
 rcases DataW.trod_slice ht h with ⟨rfl,_⟩|⟨a,len,cap,elems,rest,n,_,rfl,rfl,hb,hl,hm,hlen,hel,_,_⟩
 ·exact ⟨_,[],rfl,none,0,rfl,by simp,Nat.zero_le _,fun _=>rfl,.inl rfl⟩
 ·have each:∀i:Fin len,∃y:List Value × α,w.cells? 0 (a.add (i.1 * size)) size=some y.1∧L 0 w.heap.size w y.1 y.2:=by
   intro ⟨i,hi⟩
   have h1:=hel i hi
   rw [List.getElem?_eq_getElem (by omega),Option.bind_eq_some_iff] at h1
   obtain ⟨c,hc1,hc2⟩:=h1
   rw [hc] at hc1
   obtain ⟨d,hd⟩:=he _ _ _ hc2
   exact ⟨(c,d),hc1,hd⟩
  obtain ⟨f,hf⟩:=Classical.axiomOfChoice each
  refine ⟨_,List.ofFn (fun i=>(f i).2),rfl,some a,cap,by simp,by simpa using hl,hm,fun h=>(nomatch h),?_⟩
  by_cases h0:len=0
  ·exact .inl (by subst h0;simp)
  ·obtain ⟨b,off,s⟩:=a
   obtain ⟨_,hl0,hg0⟩:=World.cells?_some (hf ⟨0,by omega⟩).1
   have hc0:=hg0 0 hp
   rw [List.getElem?_eq_getElem (by omega)] at hc0
   obtain rfl:s=none:=by simpa [Addr.add] using World.cell?_spot hc0
   refine .inr ⟨b,off,rfl,Nat.zero_le _,by simpa [Addr.add] using World.block_lt_of_cell? _ _ hc0,fun i hi=>?_⟩
   have hi':i<len:=by simpa using hi
   obtain ⟨_,hl1,hg1⟩:=World.cells?_some (hf ⟨i,hi'⟩).1
   refine ⟨(f ⟨i,hi'⟩).1,hl1,by simpa using (hf ⟨i,hi'⟩).2,fun j u hu=>?_⟩
   have hj:j<size:=by rw [← hl1];exact (List.getElem?_eq_some_iff.1 hu).1
   have:=hg1 j hj
   rw [hu,add_plain,add_plain] at this
   exact this
theorem opens_field {t:TypeId} {fs:Array Field} {fuel:Nat} {cs:List Value} {x:DataW H × List MemPlace} (hs:P.underlying t=some (.struct fs)) (h:DataW.trod enc P w 0 (fun _=>true) true fuel t cs=some x) :
 cs.length=P.cellsOf t∧∃n,∀(i:Nat) (f:Field),fs[i]? = some f→∃y,DataW.trod enc P w 0 (fun _=>true) true n f.type ((cs.drop f.offset).take (P.cellsOf f.type))=some y:=by
 obtain ⟨xs,n,_,_,hl,hlen,hf⟩:=DataW.trod_struct hs h
 refine ⟨hl,n,fun i f hi=>?_⟩
 have hlt:i<xs.length:=by rw [hlen];exact (Array.getElem?_eq_some_iff.1 hi).1
 exact ⟨xs[i],by rw [hf i f hi,List.getElem?_eq_getElem hlt]⟩
end
theorem list2 {α:Type} {cs:List α} (h:cs.length=2):∃a b,cs = [a,b]:=by
 match cs,h with
 | [a,b],_=>exact ⟨a,b,rfl⟩
theorem list3 {α:Type} {cs:List α} (h:cs.length=3):∃a b c,cs = [a,b,c]:=by
 match cs,h with
 | [a,b,c],_=>exact ⟨a,b,c,rfl⟩
theorem list5 {α:Type} {cs:List α} (h:cs.length=5):∃a b c d e,cs = [a,b,c,d,e]:=by
 match cs,h with
 | [a,b,c,d,e],_=>exact ⟨a,b,c,d,e,rfl⟩
theorem list6 {α:Type} {cs:List α} (h:cs.length=6):∃a b c d e f,cs = [a,b,c,d,e,f]:=by
 match cs,h with
 | [a,b,c,d,e,f],_=>exact ⟨a,b,c,d,e,f,rfl⟩
theorem list13 {α:Type} {cs:List α} (h:cs.length=13):∃a0 a1 a2 a3 a4 a5 a6 a7 a8 a9 a10 a11 a12,cs = [a0,a1,a2,a3,a4,a5,a6,a7,a8,a9,a10,a11,a12]:=by
 match cs,h with
 | [a0,a1,a2,a3,a4,a5,a6,a7,a8,a9,a10,a11,a12],_=>exact ⟨a0,a1,a2,a3,a4,a5,a6,a7,a8,a9,a10,a11,a12,rfl⟩
theorem list15 {α:Type} {cs:List α} (h:cs.length=15):∃a0 a1 a2 a3 a4 a5 a6 a7 a8 a9 a10 a11 a12 a13 a14,cs = [a0,a1,a2,a3,a4,a5,a6,a7,a8,a9,a10,a11,a12,a13,a14]:=by
 match cs,h with
 | [a0,a1,a2,a3,a4,a5,a6,a7,a8,a9,a10,a11,a12,a13,a14],_=>exact ⟨a0,a1,a2,a3,a4,a5,a6,a7,a8,a9,a10,a11,a12,a13,a14,rfl⟩
end Go.Proofs.YtccjepndhlobpaaGreatDoor
