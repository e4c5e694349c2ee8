/-
  Proved facts that the law leans on.
-/
import Derived.WalkKit
import Derived.Lib.Hide
import Derived.Deep.QuietTactic
import Derived.BigQuiet
import Derived.Lib.Strings
import Derived.Lib.IndexMore
import Derived.Lib.Bytealg
import Derived.Lib.ItoaNum
import Derived.Lib.ItoaMem
import Derived.Lib.ItoaLen
import Derived.Lib.LaidTab
import Derived.Sort.Grow
import Derived.Deep.RegionHeld3
import Derived.KernelRfl
import Derived.Lib.SmallJoins
import Derived.Deep.AppendLies
import Derived.Maps.AppendAt
import Derived.Laws.AppendOwnNone
import Derived.WideShapes
import Derived.ChangeSlices
import Derived.OpenShut
import Derived.Laws.IdiomStrings
import Derived.Deep.MidRow
import Derived.Laws.Tables
namespace Go.Proofs.YtclpbhoekmecjaaGreatDoor
open Go.RowKit
set_option linter.unusedVariables false
set_option linter.unusedSimpArgs false
theorem am {a b:Bool} (h:a=b):Ending.returned (.bool a)=.returned (.bool b):=by rw [h]
theorem yN {a b:ByteArray} (h:a=b):Ending.returned (.string a)=.returned (.string b):=by rw [h]
theorem Ap (s:ByteArray) (k:Nat) (h:k<s.size):s.data.toList.take (k+1)=s.data.toList.take k++[s[k]]:=by
 rw [List.take_succ_eq_append_getElem (by simpa using h)];rfl
theorem C8 (s:ByteArray) (k:Nat) (h:¬k<s.size):s.data.toList.take k=s.data.toList:=
 List.take_of_length_le (by simp;omega)
theorem FF (s:ByteArray) (p:UInt8→Bool) (k:Nat) (h:k<s.size) (hp:p s[k]=false):s.data.toList.all p=false:=by
 rw [List.all_eq_false]
 refine ⟨s[k],?_,by simp [hp]⟩
 exact List.getElem_mem (l:=s.data.toList) (n:=k) (by simpa using h)
theorem EF (s:ByteArray) (k:Nat) (h:k<s.size):(s[k].toNat:Int)<256:=by have:=s[k].toNat_lt;omega
theorem Gu {W w1:World} (hb:Below W.heap.size W w1):(∀b o,b<W.heap.size→w1.cell? ⟨b,o,none⟩=W.cell? ⟨b,o,none⟩)∧(∀b o,b<W.heap.size→w1.frozen? ⟨b,o,none⟩=W.frozen? ⟨b,o,none⟩):=
 ⟨fun b o h=>hb.cell (p:=⟨b,o,none⟩) h,fun b o h=>hb.frozen (p:=⟨b,o,none⟩) h⟩
def Ext (a w:World):Prop:=Below a.heap.size a w
theorem Ext.refl (a:World):Ext a a:=Below.refl _ _
theorem Ext.alloc {a w:World} (h:Ext a w) (o:Obj):Ext a (w.alloc o):=Below.alloc h (Below.size h) o
theorem Ext.drew {a w:World} (h:Ext a w):Ext a w.drew:=Below.drew h
theorem Ext.drewN {a w:World} (h:Ext a w):∀n,Ext a (w.drewN n):=fun n=>⟨h.os,h.tape,h.output,h.size,h.block⟩
theorem Ext.trans {a b c:World} (h:Ext a b) (k:Ext b c):Ext a c:=Below.trans h (Below.mono k (Below.size h))
theorem Ext.setCell {a w:World} (h:Ext a w) {p:Addr} (hp:a.heap.size≤p.block) (u:Value):Ext a (w.setCell p u):=Below.setCell h hp u
def Ei (w:World) (b o:Nat):Option Value:=w.cell? ⟨b,o,none⟩
def DX (w:World) (b o:Nat):Bool:=w.frozen? ⟨b,o,none⟩
theorem Ext.cells {W w1:World} (hb:Ext W w1):(∀b o,w1.cell? ⟨b,o,none⟩=if b<W.heap.size then W.cell? ⟨b,o,none⟩ else Ei w1 b o)∧(∀b o,w1.frozen? ⟨b,o,none⟩=if b<W.heap.size then W.frozen? ⟨b,o,none⟩ else DX w1 b o)∧W.heap.size≤w1.heap.size:=by
 refine ⟨fun b o=>?_,fun b o=>?_,Below.size hb⟩
 ·split
  ·exact (Gu hb).1 b o (by assumption)
  ·rfl
 ·split
  ·exact (Gu hb).2 b o (by assumption)
  ·rfl
def inR (n a b:Int):Bool:=decide (a≤n) && decide (n≤b)
def Fx (c:UInt8):Bool:=inR (c.toNat:Int) 32 126 && !((c.toNat:Int) == 35)
def yQ (s:ByteArray):Bool:=s.data.toList.all Fx
def EA (s:ByteArray) (b:Int):Bool:=s.data.toList.any (fun c=>(c.toNat:Int) == b)
def Hv (s:ByteArray) (m:Int):Bool:=decide ((s.size:Int)≤m)
def Ic (c:ByteArray):Bool:=inR (c.size:Int) 1 160 && yQ c && !EA c 64
def Ia (c r:ByteArray):Bool:=Ic c && Hv r 200 && yQ r
theorem Ext.keep {a w:World} (h:Ext a w) {p:Addr} {v:Value} (hc:a.cell? p=some v):w.cell? p=some v:=
 (Below.cell h (World.block_lt_of_cell? a p hc)).trans hc
theorem wg (s:ByteArray):(⟨s.data.toList.toArray⟩:ByteArray)=s:=by cases s;simp
theorem Ab {a b:ByteArray} (h:a.data.toList=b.data.toList):a=b:=by rw [← wg a,← wg b,h]
theorem xl (a b:ByteArray):(a++b).data.toList=a.data.toList++b.data.toList:=Joins.data_append a b
theorem vK:∀u:Fin 10,(⟨#[48,49,50,51,52,53,54,55,56,57]⟩:ByteArray).extract u.val (u.val+1)=⟨#[UInt8.ofNat (48+u.val)]⟩:=by decide
def te (n:Int):ByteArray:=⟨(Lib.itoa n).toArray⟩
theorem xX (n:Int) (h0:0≤n) (h:n<10):(⟨#[48,49,50,51,52,53,54,55,56,57]⟩:ByteArray).extract n.toNat (n.toNat+1)=te n:=by
 obtain ⟨u,rfl⟩:=Int.eq_ofNat_of_zero_le h0
 unfold te
 rw [Int.toNat_natCast,Lib.itoa_nonneg,Lib.decDigits_one (by omega)]
 exact vK ⟨u,by omega⟩
theorem B7 (n:Int) (h:10≤n):te (n / 10)++te (n % 10)=te n:=by
 obtain ⟨u,rfl⟩:=Int.eq_ofNat_of_zero_le (show 0≤n by omega)
 have e1:((u:Int) / 10)=((u / 10:Nat):Int):=by omega
 have e2:((u:Int) % 10)=((u % 10:Nat):Int):=by omega
 unfold te
 rw [e1,e2,Lib.itoa_nonneg,Lib.itoa_nonneg,Lib.itoa_nonneg,Lib.decDigits_one (Nat.mod_lt u (by decide))]
 refine Ab ?_
 rw [xl]
 conv=>rhs;rw [Lib.decDigits,dif_neg (by omega)]
theorem wO (n:Int) (h0 : -9223372036854775808≤n) (h1:n≤9223372036854775807):(te n).size≤21:=by
 have:=Lib.itoa_length_le n h0 h1
 show (Lib.itoa n).toArray.size≤21
 simpa using this
def H8 (h:Int) (l:List UInt8):Int:=l.foldl (fun h c=>(41 * h+(c.toNat:Int)+1) % 999979) h
def HO (s:ByteArray):Int:=H8 7 s.data.toList
def G9 (s:ByteArray):ByteArray:=s ++ ⟨#[35]⟩++te (HO s)
section
variable {P:Program} {md:_} {ops:Array Oper} {Q:Exit→Act→World→Prop} {S:World→Prop}
theorem tkP (i:Nat) (v:Value) {oi:Oper} {fuel:Nat} {listed:Array Bool} {a:Act} {w:World} (hy:∀w,(execOp a.eval oi).run P w=.ok (.value v) w)
 (h:wpAnyH P md ops Q S fuel (listed.setIfInBounds i true) (a.put oi.dst v) w) (hi:ops[i]? = some oi:=by rfl) (hs:Region.noSelect ops=true:=by kernel_rfl)
 (hf:Region.free md ops listed i=true:=by kernel_rfl) (hr:(Region.ready md ops listed).contains i=true:=by kernel_rfl) (hQ:∀c a w,Q (.panic c) (a.put oi.dst v) w→Q (.panic c) a w:=by exact fun _ _ _ h=>h)
 (hw:Region.wanted oi (yielded ops a.tmps)=true:=by rfl) (hS:S w:=by assumption):wpAnyH P md ops Q S (fuel+1) listed a w:=
 wpAnyH_take hi hs hf hr hQ (.inl ⟨hw,fun w _=>hy w⟩) hS h
theorem tkY (i:Nat) (v:Value) {oi:Oper} {fuel:Nat} {listed:Array Bool} {a:Act} {w:World} (hy:∀w,S w→(execOp a.eval oi).run P w=.ok (.value v) w)
 (h:wpAnyH P md ops Q S fuel (listed.setIfInBounds i true) (a.put oi.dst v) w) (hi:ops[i]? = some oi:=by rfl) (hs:Region.noSelect ops=true:=by kernel_rfl)
 (hf:Region.free md ops listed i=true:=by kernel_rfl) (hr:(Region.ready md ops listed).contains i=true:=by kernel_rfl) (hQ:∀c a w,Q (.panic c) (a.put oi.dst v) w→Q (.panic c) a w:=by exact fun _ _ _ h=>h)
 (hw:Region.wanted oi (yielded ops a.tmps)=true:=by rfl) (hS:S w:=by assumption):wpAnyH P md ops Q S (fuel+1) listed a w:=
 wpAnyH_take hi hs hf hr hQ (.inl ⟨hw,hy⟩) hS h
theorem tkN (i:Nat) {oi:Oper} {fuel:Nat} {listed:Array Bool} {a:Act} {w:World}
 (h:wpAnyH P md ops Q S fuel (listed.setIfInBounds i true) (a.put oi.dst undef) w) (hi:ops[i]? = some oi:=by rfl) (hs:Region.noSelect ops=true:=by kernel_rfl)
 (hf:Region.free md ops listed i=true:=by kernel_rfl) (hr:(Region.ready md ops listed).contains i=true:=by kernel_rfl) (hQ:∀c a w,Q (.panic c) (a.put oi.dst undef) w→Q (.panic c) a w:=by exact fun _ _ _ h=>h)
 (hw:Region.wanted oi (yielded ops a.tmps)=false:=by rfl) (hS:S w:=by assumption):wpAnyH P md ops Q S (fuel+1) listed a w:=
 wpAnyH_take hi hs hf hr hQ (.inr ⟨hw,rfl⟩) hS h
end
theorem aj:(∀(α:Type) (l:List α) (i:Nat) (h:i<l.toArray.size),l.toArray[i]=l[i]'(by simpa using h))∧(∀(α:Type) (l:List α) (i:Nat) (a:α),l.toArray.setIfInBounds i a=(l.set i a).toArray)∧(∀(α:Type) (a:α) (as:List α) (h:0<(a :: as).length),(a :: as)[0]=a)∧(∀(α:Type) (a:α) (as:List α) (i:Nat) (h:i+1<(a :: as).length),(a :: as)[i+1]=as[i]'(by simpa using h))∧(∀(α:Type) (x:α) (xs:List α) (b:α),(x :: xs).set 0 b=b :: xs)∧(∀(α:Type) (x:α) (xs:List α) (n:Nat) (b:α),(x :: xs).set (n+1) b=x :: xs.set n b):=
 ⟨fun _ _ _ _=>by simp,fun _ _ _ _=>by simp,fun _ _ _ _=>rfl,fun _ _ _ _ _=>rfl,fun _ _ _ _=>rfl,fun _ _ _ _ _=>rfl⟩
theorem Xr (w:World):Ext w w:=Ext.refl w
theorem Xa {a w:World} (h:Ext a w) (o:Obj):Ext a (w.alloc o):=Ext.alloc h o
theorem Xd {a w:World} (h:Ext a w):Ext a w.drew:=Ext.drew h
theorem Xn {a w:World} (h:Ext a w) (n:Nat):Ext a (w.drewN n):=Ext.drewN h n
theorem Xt {a b w:World} (h:Ext a b) (k:Ext b w):Ext a w:=Ext.trans h k
theorem Xs {a w:World} (h:Ext a w) {p:Addr} {u:Value} (hb:a.heap.size≤p.block:=by first|(simp only [World.size_alloc,World.size_setCell];omega)|omega):Ext a (w.setCell p u):=Ext.setCell h hb u
theorem xw {a w:World} (h:Ext a w:=by (repeat first|(with_reducible first|assumption|exact Xr _|refine Xa ?_ _|refine Xd ?_|refine Xn ?_ _)|refine Xs ?_|with_reducible refine Xt ?_ (by assumption))):Ext a w:=h
end Go.Proofs.YtclpbhoekmecjaaGreatDoor
namespace Go.Proofs.YtclpbhoekmecjaaGreatDoor
open Go.RowKit
set_option linter.unusedVariables false
set_option linter.unusedSimpArgs false
def G4 (k:Int) (c r:ByteArray):ByteArray:=te k ++ ⟨#[32]⟩++c ++ ⟨#[64]⟩++r
def G6 (k:Int) (c r:ByteArray):ByteArray:=G9 (G4 k c r) ++ ⟨#[10]⟩
def GQ (k:Int) (c r:ByteArray):Bool:=inR k 0 59 && Ia c r
def encStr (k:Int) (c r:ByteArray):ByteArray:=if GQ k c r then G6 k c r else ⟨#[]⟩
end Go.Proofs.YtclpbhoekmecjaaGreatDoor
namespace Go.Proofs.YtclpbhoekmecjaaGreatDoor
open Go.RowKit
set_option linter.unusedVariables false
set_option linter.unusedSimpArgs false
theorem nU {w w1:World} {base:Nat} {e:TypeId} {size:Nat} {v:Value} {n:Nat} {xs:List Value} (h:w.ownsRow base e size v n xs) (hb:Ext w w1):w1.ownsRow base e size v n xs:=
 h.kept (w':=w1) (row:=none) ⟨hb.os,hb.tape,hb.output,Below.size hb,fun k hk _=>hb.block k hk⟩ (by cases v.ownBlock <;> simp)
theorem Ext.grown {a w w':World} {v:Value} {base:Nat} {e:TypeId} {size n:Nat} {xs:List Value} (h:Ext a w) (hg:w.grownBy w' v.ownBlock) (ho:w.ownsRow base e size v n xs) (hb:a.heap.size≤base):Ext a w':=
 Below.grown h hg (Below.size h) fun k hk=>Nat.le_trans hb (ho.lt k hk).1
theorem fG {w:World} {b:Nat} {cs:List Value} {t:TypeId} (hb:b=w.heap.size):∀j u,cs[j]? = some u→(w.alloc (.cells cs.toArray t)).cell? ((⟨b,0,none⟩:Addr).add j)=some u:=by
 intro j u h
 subst hb
 have e:((⟨w.heap.size,0,none⟩:Addr).add j)=⟨w.heap.size,j,none⟩:=by
  cases j <;> simp [Addr.add]
 rw [e,World.cell?_alloc_at cs.toArray t w.heap.size j rfl]
 simpa using h
theorem rg {w:World} {base g cap:Nat} {e:TypeId} {size n:Nat} {xs:List Value} (h:w.ownsRow base e size (.slice (some ⟨g,0,none⟩) n cap) n xs) (j:Nat) (u:Value) (hj:xs[j]? = some u):w.cell? ⟨g,j,none⟩=some u:=by
 have h:=h.cells (g:=g) rfl j u hj
 have e:((⟨g,0,none⟩:Addr).add j)=⟨g,j,none⟩:=by cases j <;> simp [Addr.add]
 rw [e] at h
 exact h
theorem Ext.mark {W w1:World} (h:Ext W w1) {b o:Nat} {v:Value} {x:Bool} (hc:W.cell? ⟨b,o,none⟩=some v) (hf:W.frozen? ⟨b,o,none⟩=x):w1.frozen? ⟨b,o,none⟩=x:=
 (Below.frozen (p:=⟨b,o,none⟩) h (World.block_lt_of_cell? W ⟨b,o,none⟩ hc)).trans hf
theorem wP {w:World} {base g n cap:Nat} {e:TypeId} {size:Nat} {xs:List Value} (h:w.ownsRow base e size (.slice (some ⟨g,0,none⟩) n cap) n xs):base≤g∧g<w.heap.size:=h.lt g rfl
end Go.Proofs.YtclpbhoekmecjaaGreatDoor
namespace Go.Proofs.YtclpbhoekmecjaaGreatDoor
open Go.RowKit
set_option linter.unusedVariables false
set_option linter.unusedSimpArgs false
structure Ctl where
 name:ByteArray
 ports:Int
 kind:Int
structure Nd where
 control:Int
 parent:Int
 links:List Int
structure Wr where
 name:ByteArray
 link:Int
structure Big where
 roots:Int
 nodes:List Nd
 sites:List Int
 edges:Int
 outer:List ByteArray
 inner:List Wr
structure Rul where
 redex:Big
 reactum:Big
 copies:List Int
structure Srt where
 tops:List Int
 nest:List (List Int)
 sorts:List (List Int)
 most:List Int
 apart:List (Int × Int)
structure Rnt where
 sig:List Ctl
 sort:Srt
 rules:List Rul
 hosts:List ByteArray
 agent:Big
 count:Int
def I64 (x:Int):Prop:=-9223372036854775808≤x∧x≤9223372036854775807
def wtL {α:Type} (f:α→Nat) (l:List α):Nat:=l.length+(l.map f).sum
def fb (c:Ctl):Nat:=c.name.size
def gB (s:ByteArray):Nat:=s.size
def kF (x:Wr):Nat:=x.name.size
def i6 (n:Nd):Nat:=n.links.length
def cR (b:Big):Nat:=wtL i6 b.nodes+b.sites.length+wtL gB b.outer+wtL kF b.inner
def dw (r:Rul):Nat:=cR r.redex+cR r.reactum+r.copies.length
def szR (n:Nat) (left:Int):Int:=if (n:Int)≤left then left - n else -1
theorem vS {α:Type} (f:α→Nat) (x:α) (l:List α):wtL f (x :: l)=1+f x+wtL f l:=by
 simp [wtL];omega
theorem kg {α:Type} (f:α→Nat) (l:List α) (i:Nat) (h:i<l.length):((l.take (i+1)).map f).sum=((l.take i).map f).sum+f l[i]:=by
 rw [List.take_succ_eq_append_getElem h]
 simp only [List.map_append,List.map_cons,List.map_nil,List.sum_append,List.sum_cons,List.sum_nil,Nat.add_zero]
theorem eM {α:Type} (f:α→Nat) (l:List α) (i:Nat):((l.take i).map f).sum≤(l.map f).sum:=by
 induction l generalizing i with
 | nil=>simp
 | cons x l ih=>
  cases i with
  | zero=>simp
  | succ i=>
   have:=ih i
   simp only [List.take_succ_cons,List.map_cons,List.sum_cons]
   omega
theorem kV {α:Type} (f:α→Nat) (l:List α):∀x∈l,f x+l.length≤wtL f l:=by
 induction l with
 | nil=>intro x hx;cases hx
 | cons y l ih=>
  intro x hx
  rw [vS]
  rcases List.mem_cons.1 hx with rfl|hx
  ·simp [wtL];omega
  ·have:=ih x hx
   simp
   omega
end Go.Proofs.YtclpbhoekmecjaaGreatDoor
namespace Go.Proofs.YtclpbhoekmecjaaGreatDoor
open Go.RowKit
set_option linter.unusedVariables false
set_option linter.unusedSimpArgs false
def bE (w:World) (b o:Nat) (cs:List Value):Prop:=∀j u,cs[j]? = some u→w.cell? ⟨b,o+j,none⟩=some u
abbrev Lie (α:Type):=Nat→Nat→World→List Value→α→Prop
def SlV {α:Type} (size:Nat) (P:Lie α) (lo hi:Nat) (w:World) (v:Value) (xs:List α):Prop:=
 ∃a k,v=.slice a xs.length k∧xs.length≤k∧k≤maxLen∧(a=none→k=0)∧(xs = []∨∃b o,a=some ⟨b,o,none⟩∧lo≤b∧b<hi∧∀i (h:i<xs.length),∃cs,cs.length=size∧P lo hi w cs xs[i]∧bE w b (o+i * size) cs)
def bV (lo hi:Nat) (w w':World):Prop:=∀b,lo≤b→b<hi→b<w.heap.size→w'.heap[b]? = w.heap[b]?
def eF {α:Type} (P:Lie α):Prop:=∀lo hi w w' cs x,bV lo hi w w'→P lo hi w cs x→P lo hi w' cs x
def eJ {α:Type} (P:Lie α):Prop:=∀lo hi lo' hi' w cs x,lo'≤lo→hi≤hi'→P lo hi w cs x→P lo' hi' w cs x
theorem bV.ext {lo hi:Nat} {w w':World} (h:Ext w w'):bV lo hi w w':=fun b _ _ hb=>h.block b hb
theorem bV.grown {lo hi g:Nat} {w w':World} (h:w.grownBy w' (some g)) (hg:g<lo∨hi≤g):bV lo hi w w':=fun b h1 h2 hb=>h.block b hb (by simp;omega)
theorem bV.cell {lo hi b o:Nat} {w w':World} {u:Value} (h:bV lo hi w w') (h1:lo≤b) (h2:b<hi) (hc:w.cell? ⟨b,o,none⟩=some u):w'.cell? ⟨b,o,none⟩=some u:=
 (World.cell?_of_block (h b h1 h2 (World.block_lt_of_cell? w ⟨b,o,none⟩ hc))).trans hc
theorem bV.cells {lo hi b o:Nat} {w w':World} {cs:List Value} (h:bV lo hi w w') (h1:lo≤b) (h2:b<hi) (hc:bE w b o cs):bE w' b o cs:=
 fun j u hj=>h.cell h1 h2 (hc j u hj)
theorem SlV.keeps {α:Type} {P:Lie α} (hP:eF P) {size lo hi:Nat} {w w':World} {v:Value} {xs:List α} (hs:bV lo hi w w') (h:SlV size P lo hi w v xs):SlV size P lo hi w' v xs:=by
 obtain ⟨a,k,rfl,h1,h2,h3,h4⟩:=h
 refine ⟨a,k,rfl,h1,h2,h3,?_⟩
 rcases h4 with h4|⟨b,o,rfl,hb1,hb2,h4⟩
 ·exact .inl h4
 ·refine .inr ⟨b,o,rfl,hb1,hb2,fun i hi=>?_⟩
  obtain ⟨cs,hl,hp,hc⟩:=h4 i hi
  exact ⟨cs,hl,hP _ _ _ _ _ _ hs hp,hs.cells hb1 hb2 hc⟩
theorem SlV.widens {α:Type} {P:Lie α} (hP:eJ P) {size lo hi lo' hi':Nat} {w:World} {v:Value} {xs:List α} (h1:lo'≤lo) (h2:hi≤hi') (h:SlV size P lo hi w v xs):SlV size P lo' hi' w v xs:=by
 obtain ⟨a,k,rfl,g1,g2,g3,h4⟩:=h
 refine ⟨a,k,rfl,g1,g2,g3,?_⟩
 rcases h4 with h4|⟨b,o,rfl,hb1,hb2,h4⟩
 ·exact .inl h4
 ·refine .inr ⟨b,o,rfl,by omega,by omega,fun i hi=>?_⟩
  obtain ⟨cs,hl,hp,hc⟩:=h4 i hi
  exact ⟨cs,hl,hP _ _ _ _ _ _ _ h1 h2 hp,hc⟩
def bS:Lie Int:=fun _ _ _ cs x=>cs = [.int .i64 x]∧I64 x
def dv:Lie ByteArray:=fun _ _ _ cs s=>cs = [.string s]∧s.size≤maxLen
def fo:Lie Ctl:=fun _ _ _ cs c=>cs = [.string c.name,.int .i64 c.ports,.int .i64 c.kind]∧c.name.size≤maxLen∧I64 c.ports∧I64 c.kind
def WrP:Lie Wr:=fun _ _ _ cs x=>cs = [.string x.name,.int .i64 x.link]∧x.name.size≤maxLen∧I64 x.link
def dV:Lie (Int × Int):=fun _ _ _ cs x=>cs = [.int .i64 x.1,.int .i64 x.2]∧I64 x.1∧I64 x.2
abbrev nX:=SlV 1 bS
abbrev yg:=SlV 1 dv
def Ct:Lie (List Int):=fun lo hi w cs l=>∃v,cs = [v]∧nX lo hi w v l
def NdP:Lie Nd:=fun lo hi w cs n=>∃v,cs = [.int .i64 n.control,.int .i64 n.parent,v]∧I64 n.control∧I64 n.parent∧nX lo hi w v n.links
abbrev Ge:=SlV 1 Ct
abbrev lu:=SlV 3 fo
abbrev H6:=SlV 3 NdP
abbrev HM:=SlV 2 WrP
abbrev Gx:=SlV 2 dV
def bW:Lie Big:=fun lo hi w cs b=>∃v1 v2 v4 v5,cs = [.int .i64 b.roots,v1,v2,.int .i64 b.edges,v4,v5]∧I64 b.roots∧I64 b.edges∧H6 lo hi w v1 b.nodes∧nX lo hi w v2 b.sites∧yg lo hi w v4 b.outer∧HM lo hi w v5 b.inner
def tO:Lie Rul:=fun lo hi w cs r=>∃c1 c2 v,cs=c1++(c2++[v])∧bW lo hi w c1 r.redex∧bW lo hi w c2 r.reactum∧nX lo hi w v r.copies
abbrev Gs:=SlV 13 tO
def Fl:Lie Srt:=fun lo hi w cs s=>∃v0 v1 v2 v3 v4,cs = [v0,v1,v2,v3,v4]∧nX lo hi w v0 s.tops∧Ge lo hi w v1 s.nest∧Ge lo hi w v2 s.sorts∧nX lo hi w v3 s.most∧Gx lo hi w v4 s.apart
def GE:Lie Rnt:=fun lo hi w cs r=>∃v0 c1 v6 v7 c8,cs=v0 :: (c1++(v6 :: v7 :: (c8++[.int .i64 r.count])))∧lu lo hi w v0 r.sig∧Fl lo hi w c1 r.sort∧Gs lo hi w v6 r.rules∧yg lo hi w v7 r.hosts∧bW lo hi w c8 r.agent∧I64 r.count
theorem bS.keeps:eF bS:=fun _ _ _ _ _ _ _ h=>h
theorem dv.keeps:eF dv:=fun _ _ _ _ _ _ _ h=>h
theorem fo.keeps:eF fo:=fun _ _ _ _ _ _ _ h=>h
theorem WrP.keeps:eF WrP:=fun _ _ _ _ _ _ _ h=>h
theorem dV.keeps:eF dV:=fun _ _ _ _ _ _ _ h=>h
theorem Ct.keeps:eF Ct:=by
 rintro lo hi w w' cs l hs ⟨v,rfl,h⟩
 exact ⟨v,rfl,h.keeps bS.keeps hs⟩
theorem NdP.keeps:eF NdP:=by
 rintro lo hi w w' cs n hs ⟨v,rfl,h1,h2,h⟩
 exact ⟨v,rfl,h1,h2,h.keeps bS.keeps hs⟩
theorem bW.keeps:eF bW:=by
 rintro lo hi w w' cs b hs ⟨v1,v2,v4,v5,rfl,h1,h2,a,b',c,d⟩
 exact ⟨v1,v2,v4,v5,rfl,h1,h2,a.keeps NdP.keeps hs,b'.keeps bS.keeps hs,c.keeps dv.keeps hs,d.keeps WrP.keeps hs⟩
theorem tO.keeps:eF tO:=by
 rintro lo hi w w' cs r hs ⟨c1,c2,v,rfl,a,b,c⟩
 exact ⟨c1,c2,v,rfl,bW.keeps _ _ _ _ _ _ hs a,bW.keeps _ _ _ _ _ _ hs b,c.keeps bS.keeps hs⟩
theorem Fl.keeps:eF Fl:=by
 rintro lo hi w w' cs s hs ⟨v0,v1,v2,v3,v4,rfl,a,b,c,d,e⟩
 exact ⟨v0,v1,v2,v3,v4,rfl,a.keeps bS.keeps hs,b.keeps Ct.keeps hs,c.keeps Ct.keeps hs,d.keeps bS.keeps hs,e.keeps dV.keeps hs⟩
theorem GE.keeps:eF GE:=by
 rintro lo hi w w' cs r hs ⟨v0,c1,v6,v7,c8,rfl,a,b,c,d,e,f⟩
 exact ⟨v0,c1,v6,v7,c8,rfl,a.keeps fo.keeps hs,Fl.keeps _ _ _ _ _ _ hs b,c.keeps tO.keeps hs,d.keeps dv.keeps hs,bW.keeps _ _ _ _ _ _ hs e,f⟩
theorem bS.widens:eJ bS:=fun _ _ _ _ _ _ _ _ _ h=>h
theorem dv.widens:eJ dv:=fun _ _ _ _ _ _ _ _ _ h=>h
theorem fo.widens:eJ fo:=fun _ _ _ _ _ _ _ _ _ h=>h
theorem WrP.widens:eJ WrP:=fun _ _ _ _ _ _ _ _ _ h=>h
theorem dV.widens:eJ dV:=fun _ _ _ _ _ _ _ _ _ h=>h
theorem Ct.widens:eJ Ct:=by
 rintro lo hi lo' hi' w cs l h1 h2 ⟨v,rfl,h⟩
 exact ⟨v,rfl,h.widens bS.widens h1 h2⟩
theorem NdP.widens:eJ NdP:=by
 rintro lo hi lo' hi' w cs n h1 h2 ⟨v,rfl,g1,g2,h⟩
 exact ⟨v,rfl,g1,g2,h.widens bS.widens h1 h2⟩
theorem bW.widens:eJ bW:=by
 rintro lo hi lo' hi' w cs b h1 h2 ⟨v1,v2,v4,v5,rfl,g1,g2,a,b',c,d⟩
 exact ⟨v1,v2,v4,v5,rfl,g1,g2,a.widens NdP.widens h1 h2,b'.widens bS.widens h1 h2,c.widens dv.widens h1 h2,d.widens WrP.widens h1 h2⟩
theorem tO.widens:eJ tO:=by
 rintro lo hi lo' hi' w cs r h1 h2 ⟨c1,c2,v,rfl,a,b,c⟩
 exact ⟨c1,c2,v,rfl,bW.widens _ _ _ _ _ _ _ h1 h2 a,bW.widens _ _ _ _ _ _ _ h1 h2 b,c.widens bS.widens h1 h2⟩
theorem Fl.widens:eJ Fl:=by
 rintro lo hi lo' hi' w cs s h1 h2 ⟨v0,v1,v2,v3,v4,rfl,a,b,c,d,e⟩
 exact ⟨v0,v1,v2,v3,v4,rfl,a.widens bS.widens h1 h2,b.widens Ct.widens h1 h2,c.widens Ct.widens h1 h2,d.widens bS.widens h1 h2,e.widens dV.widens h1 h2⟩
theorem SlV.ext {α:Type} {P:Lie α} (hP:eF P) {size lo hi:Nat} {w w':World} {v:Value} {xs:List α} (h:SlV size P lo hi w v xs) (hx:Ext w w'):SlV size P lo hi w' v xs:=h.keeps hP (bV.ext hx)
end Go.Proofs.YtclpbhoekmecjaaGreatDoor
namespace Go.Proofs.YtclpbhoekmecjaaGreatDoor
open Go.RowKit
set_option linter.unusedVariables false
set_option linter.unusedSimpArgs false
theorem lM {w w1 w2:World} {g:Nat} (h:w.grownBy w1 (some g)) (k:w1.grownBy w2 (some g)):w.grownBy w2 (some g):=
 ⟨k.os.trans h.os,k.tape.trans h.tape,k.output.trans h.output,Nat.le_trans h.size k.size,fun j hj hne=>(k.block j (Nat.lt_of_lt_of_le hj h.size) hne).trans (h.block j hj hne)⟩
theorem bO {w:World} (g o:Nat) (u:Value):w.grownBy (w.setCell ⟨g,o,none⟩ u) (some g):=
 ⟨rfl,rfl,rfl,by simp,fun k _ hk=>heap_setCell_other w ⟨g,o,none⟩ k u (fun e=>hk (by simp [e]))⟩
theorem ke (w:World) (r:Option Nat):w.grownBy w r:=⟨rfl,rfl,rfl,Nat.le_refl _,fun _ _ _=>rfl⟩
theorem mt {w:World} {p q:Addr} {u v:Value} (h:w.cell? q=some v) (hne:p≠q):(w.setCell p u).cell? q=some v:=(World.cell?_setCell_other _ _ _ _ hne).trans h
def dj (w:World) (B:Nat) (cs:List Value):Prop:=∀j u,cs[j]? = some u→w.cell? ⟨B,j,none⟩=some u∧w.frozen? ⟨B,j,none⟩=false
theorem dj.new (w:World) (t:TypeId) (cs:List Value) (B:Nat) (hB:B=w.heap.size):dj (w.alloc (.cells cs.toArray t)) B cs:=by
 intro j u hj
 subst hB
 refine ⟨?_,World.frozen?_alloc_at _ t w.heap.size j rfl⟩
 rw [World.cell?_alloc_at _ t w.heap.size j rfl]
 simpa using hj
theorem dj.ext {w w':World} {B:Nat} {cs:List Value} (h:dj w B cs) (hx:Ext w w'):dj w' B cs:=
 fun j u hj=>⟨hx.keep (h j u hj).1,hx.mark (h j u hj).1 (h j u hj).2⟩
theorem dj.set {w:World} {B:Nat} {cs:List Value} (h:dj w B cs) (o:Nat) (u:Value):dj (w.setCell ⟨B,o,none⟩ u) B (cs.set o u):=by
 intro j v hj
 rw [List.getElem?_set] at hj
 by_cases ho:o=j
 ·subst ho
  rw [if_pos rfl] at hj
  split at hj
  ·rename_i hl
   cases hj
   obtain ⟨hc,hf⟩:=h o cs[o] (by simp)
   exact ⟨World.cell?_setCell_same _ _ _ hc,(World.frozen?_setCell _ _ _ _).trans hf⟩
  ·cases hj
 ·rw [if_neg ho] at hj
  obtain ⟨hc,hf⟩:=h j v hj
  exact ⟨mt hc (by simp [ho]),(World.frozen?_setCell _ _ _ _).trans hf⟩
theorem dj.lt {w:World} {B:Nat} {cs:List Value} {u:Value} (h:dj w B cs) (h0:cs[0]? = some u):B<w.heap.size:=World.block_lt_of_cell? w ⟨B,0,none⟩ (h 0 u h0).1
def ka:List Value→Nat→List Value→List Value
 | xs,_,[]=>xs
 | xs,k,d :: ds=>ka (xs.set k d) (k+1) ds
def rJ:World→Nat→Nat→List Value→World
 | w,_,_,[]=>w
 | w,g,k,d :: ds=>rJ (w.setCell ⟨g,k,none⟩ d) g (k+1) ds
theorem mW (ds:List Value):∀(xs:List Value) (k:Nat),(ka xs k ds).length=xs.length:=by
 induction ds with
 | nil=>intro xs k;rfl
 | cons d ds ih=>intro xs k;rw [ka,ih];simp
theorem iW (ds:List Value):∀(xs:List Value) (k j:Nat),(j<k∨k+ds.length≤j)→(ka xs k ds)[j]? = xs[j]?:=by
 induction ds with
 | nil=>intro xs k j _;rfl
 | cons d ds ih=>
  intro xs k j h
  rw [ka,ih _ _ _ (by simp at h;omega),List.getElem?_set_ne (by simp at h;omega)]
theorem kk (ds:List Value):∀(xs:List Value) (k t:Nat) (u:Value),k+ds.length≤xs.length→ds[t]? = some u→(ka xs k ds)[k+t]? = some u:=by
 induction ds with
 | nil=>intro xs k t u _ h;simp at h
 | cons d ds ih=>
  intro xs k t u hl h
  simp at hl
  cases t with
  | zero=>
   simp at h
   subst h
   rw [ka,iW ds _ _ _ (by omega)]
   show (xs.set k d)[k]? = some d
   rw [List.getElem?_set,if_pos rfl,if_pos (by omega)]
  | succ t=>
   rw [ka,show k+(t+1)=(k+1)+t by omega]
   exact ih _ _ _ _ (by simp;omega) (by simpa using h)
theorem DO {base g cap n:Nat} {e:TypeId} {size:Nat} (ds:List Value):∀(w:World) (k:Nat) (xs:List Value),w.ownsRow base e size (.slice (some ⟨g,0,none⟩) n cap) n xs →
 (rJ w g k ds).ownsRow base e size (.slice (some ⟨g,0,none⟩) n cap) n (ka xs k ds)∧w.grownBy (rJ w g k ds) (some g):=by
 induction ds with
 | nil=>intro w k xs h;exact ⟨h,ke _ _⟩
 | cons d ds ih=>
  intro w k xs h
  obtain ⟨h1,h2⟩:=h.stored k d
  obtain ⟨h3,h4⟩:=ih _ (k+1) _ h1
  exact ⟨h3,lM h2 h4⟩
theorem iK (ds:List Value):∀(w:World) (g k:Nat),(rJ w g k ds).heap.size=w.heap.size:=by
 induction ds with
 | nil=>intro w g k;rfl
 | cons d ds ih=>intro w g k;rw [rJ,ih];simp
theorem SlV.set {α:Type} {P:Lie α} (hP:eF P) {size lo hi b o:Nat} {u:Value} {w:World} {v:Value} {xs:List α} (h:SlV size P lo hi w v xs) (hb:b<lo∨hi≤b):SlV size P lo hi (w.setCell ⟨b,o,none⟩ u) v xs:=
 h.keeps hP (bV.grown (bO b o u) hb)
theorem eF.set {α:Type} {P:Lie α} (hP:eF P) {lo hi b o:Nat} {u:Value} {w:World} {cs:List Value} {x:α} (h:P lo hi w cs x) (hb:b<lo∨hi≤b):P lo hi (w.setCell ⟨b,o,none⟩ u) cs x:=
 hP _ _ _ _ _ _ (bV.grown (bO b o u) hb) h
def kM {α:Type} (size:Nat) (P:Lie α) (g:Nat) (w:World) (xs:List α) (cells:List Value) (i:Nat):Prop:=
 ∀j (h:j<xs.length),j<i→∃ds,ds.length=size∧P (g+1) w.heap.size w ds xs[j]∧∀t u,ds[t]? = some u→cells[j * size+t]? = some u
theorem kM.zero {α:Type} {size:Nat} {P:Lie α} {g:Nat} {w:World} {xs:List α} {cells:List Value}:kM size P g w xs cells 0:=fun j _ hj=>absurd hj (Nat.not_lt_zero _)
theorem kM.ext {α:Type} {size:Nat} {P:Lie α} (hP:eF P) (hW:eJ P) {g:Nat} {w w':World} {xs:List α} {cells:List Value} {i:Nat} (h:kM size P g w xs cells i) (hx:Ext w w'):kM size P g w' xs cells i:=by
 intro j hj hji
 obtain ⟨ds,h1,h2,h3⟩:=h j hj hji
 exact ⟨ds,h1,hW _ _ _ _ _ _ _ (Nat.le_refl _) (Below.size hx) (hP _ _ _ _ _ _ (bV.ext hx) h2),h3⟩
theorem kM.put {α:Type} {size:Nat} {P:Lie α} (hP:eF P) {g:Nat} {w:World} {xs:List α} {cells:List Value} {i:Nat} (h:kM size P g w xs cells i) (hi:i<xs.length) (ds:List Value) (hd:ds.length=size) (hl:cells.length=xs.length * size)
 (hp:P (g+1) w.heap.size w ds xs[i]) (hgr:w.grownBy (rJ w g (i * size) ds) (some g)):kM size P g (rJ w g (i * size) ds) xs (ka cells (i * size) ds) (i+1):=by
 intro j hj hji
 rw [iK]
 have hs:bV (g+1) w.heap.size w (rJ w g (i * size) ds):=bV.grown hgr (.inl (by omega))
 by_cases hlt:j<i
 ·obtain ⟨es,h1,h2,h3⟩:=h j hj hlt
  refine ⟨es,h1,hP _ _ _ _ _ _ hs h2,fun t u ht=>?_⟩
  have htl:t<size:=by
   by_cases hh:t<es.length
   ·omega
   ·rw [List.getElem?_eq_none (by omega)] at ht;cases ht
  rw [iW]
  ·exact h3 t u ht
  ·left
   have:(j+1) * size≤i * size:=Nat.mul_le_mul_right _ hlt
   rw [Nat.add_mul] at this
   omega
 ·have e:j=i:=by omega
  subst e
  refine ⟨ds,hd,hP _ _ _ _ _ _ hs hp,fun t u ht=>kk ds cells _ t u ?_ ht⟩
  have:(j+1) * size≤xs.length * size:=Nat.mul_le_mul_right _ hj
  rw [Nat.add_mul] at this
  omega
theorem kM.all {α:Type} {size:Nat} {P:Lie α} (hW:eJ P) {base g cap lo:Nat} {e:TypeId} {w:World} {xs:List α} {cells:List Value} (h:kM size P g w xs cells xs.length) (own:w.ownsRow base e size (.slice (some ⟨g,0,none⟩) xs.length cap) xs.length cells) (hlo:lo≤g) (hc:xs.length≤cap) (hcm:cap≤maxLen) :
 SlV size P lo w.heap.size w (.slice (some ⟨g,0,none⟩) xs.length cap) xs:=by
 refine ⟨_,_,rfl,hc,hcm,fun h=>(by cases h),.inr ⟨g,0,rfl,hlo,(wP own).2,fun i hi=>?_⟩⟩
 obtain ⟨ds,h1,h2,h3⟩:=h i hi hi
 refine ⟨ds,h1,hW _ _ _ _ _ _ _ (by omega) (Nat.le_refl _) h2,fun t u ht=>?_⟩
 rw [Nat.zero_add]
 exact rg own _ _ (h3 t u ht)
end Go.Proofs.YtclpbhoekmecjaaGreatDoor
namespace Go.Proofs.YtclpbhoekmecjaaGreatDoor
open Go.RowKit
set_option linter.unusedVariables false
set_option linter.unusedSimpArgs false
def fd {α:Type} (size:Nat) (P:Lie α) (e:TypeId) (base:Nat) (w:World) (v:Value) (xs:List α):Prop:=
 ∃cells,w.ownsRow base e size v xs.length cells∧∀i (h:i<xs.length),∃ds l u,ds.length=size∧base≤l∧u≤w.heap.size∧(∀g,v.ownBlock=some g→g<l∨u≤g)∧P l u w ds xs[i]∧∀t y,ds[t]? = some y→cells[i * size+t]? = some y
theorem fd.nil {α:Type} {size:Nat} {P:Lie α} {e:TypeId} {base:Nat} {w:World}:fd size P e base w (.slice none 0 0) []:=
 ⟨[],⟨by simp,.inl ⟨rfl,rfl⟩⟩,fun i h=>absurd h (Nat.not_lt_zero _)⟩
theorem fd.made {α:Type} {size:Nat} {P:Lie α} {e:TypeId} {base:Nat} {w:World} (hb:base≤w.heap.size):fd size P e base (w.alloc (.cells #[] e)) (.slice (some ⟨w.heap.size,0,none⟩) 0 0) []:=
 ⟨[],World.ownsRow_made w #[] 0 hb (by decide) (by simp),fun i h=>absurd h (Nat.not_lt_zero _)⟩
theorem BK {w:World} {base:Nat} {e:TypeId} {size:Nat} {v:Value} {n:Nat} {xs:List Value} (h:w.ownsRow base e size v n xs):∃a k,v=.slice a n k∧n≤k∧k≤maxLen∧(a=none→k=0)∧(n=0∨∃g,a=some ⟨g,0,none⟩∧base≤g∧g<w.heap.size∧∀j y,xs[j]? = some y→w.cell? ⟨g,j,none⟩=some y):=by
 have h0:=h
 obtain ⟨_,⟨rfl,rfl⟩|⟨g,cap,cur,rfl,hb,hg,hn,hm,_,_⟩⟩:=h0
 ·exact ⟨none,0,rfl,Nat.le_refl _,by decide,fun _=>rfl,.inl rfl⟩
 ·exact ⟨_,cap,rfl,hn,hm,fun hh=>(by cases hh),.inr ⟨g,rfl,hb,(wP h).2,fun j y hy=>rg h j y hy⟩⟩
theorem fd.toSlV {α:Type} {size:Nat} {P:Lie α} (hW:eJ P) {e:TypeId} {base lo:Nat} {w:World} {v:Value} {xs:List α} (h:fd size P e base w v xs) (hlo:lo≤base):SlV size P lo w.heap.size w v xs:=by
 obtain ⟨cells,own,hel⟩:=h
 obtain ⟨a,k,rfl,h1,h2,h3,h4⟩:=BK own
 refine ⟨a,k,rfl,h1,h2,h3,?_⟩
 rcases h4 with h4|⟨g,rfl,g1,g2,g3⟩
 ·left
  cases xs with
  | nil=>rfl
  | cons x xs=>simp at h4
 ·refine .inr ⟨g,0,rfl,by omega,g2,fun i hi=>?_⟩
  obtain ⟨ds,l,u,d1,d2,d3,d4,d5,d6⟩:=hel i hi
  exact ⟨ds,d1,hW _ _ _ _ _ _ _ (by omega) d3 d5,fun t y ht=>by rw [Nat.zero_add];exact g3 _ _ (d6 t y ht)⟩
theorem fd.ext {α:Type} {size:Nat} {P:Lie α} (hP:eF P) {e:TypeId} {base:Nat} {w w':World} {v:Value} {xs:List α} (h:fd size P e base w v xs) (hx:Ext w w'):fd size P e base w' v xs:=by
 obtain ⟨cells,own,hel⟩:=h
 refine ⟨cells,nU own hx,fun i hi=>?_⟩
 obtain ⟨ds,l,u,d1,d2,d3,d4,d5,d6⟩:=hel i hi
 exact ⟨ds,l,u,d1,d2,Nat.le_trans d3 (Below.size hx),d4,hP _ _ _ _ _ _ (bV.ext hx) d5,d6⟩
theorem fd.block {α:Type} {size:Nat} {P:Lie α} {e:TypeId} {base:Nat} {w:World} {v:Value} {xs:List α} (h:fd size P e base w v xs):∀g,v.ownBlock=some g→base≤g∧g<w.heap.size:=by
 obtain ⟨cells,own,hel⟩:=h
 exact own.lt
theorem Ext.own {a w w':World} {r:Option Nat} (h:Ext a w) (hg:w.grownBy w' r) (hr:∀g,r=some g→a.heap.size≤g):Ext a w':=by
 refine ⟨hg.os.trans h.os,hg.tape.trans h.tape,hg.output.trans h.output,Nat.le_trans (Below.size h) hg.size,fun k hk=>?_⟩
 rw [hg.block k (Nat.lt_of_lt_of_le hk (Below.size h)) (fun e=>by have:=hr k e.symm;omega)]
 exact h.block k hk
theorem fd.snoc {α:Type} {size:Nat} {P:Lie α} (hP:eF P) {e:TypeId} {base:Nat} {w w':World} {v v':Value} {xs:List α} {x:α} {ds:List Value} {l u:Nat} (h:fd size P e base w v xs) (hd:ds.length=size) (hl:base≤l) (hu:u≤w.heap.size) (hs:∀g,v.ownBlock=some g→g<l∨u≤g) (hx:P l u w ds x)
 (hr:∀cells,w.ownsRow base e size v xs.length cells→w'.ownsRow base e size v' (xs.length+1) (cells++ds)) (hg:w.grownBy w' v.ownBlock) (hb:v'.ownBlock=v.ownBlock∨v'.ownBlock=some w.heap.size):fd size P e base w' v' (xs++[x]):=by
 obtain ⟨cells,own,hel⟩:=h
 have hk:∀l u,(∀g,v.ownBlock=some g→g<l∨u≤g)→bV l u w w':=fun l u hh b h1 h2 h3=>hg.block b h3 (fun e=>by have:=hh b e.symm;omega)
 have hv':∀l u,u≤w.heap.size→(∀g,v.ownBlock=some g→g<l∨u≤g)→∀g,v'.ownBlock=some g→g<l∨u≤g:=by
  intro l u hh hs g hg'
  rcases hb with hb|hb
  ·exact hs g (by rw [← hb];exact hg')
  ·rw [hb] at hg';cases hg';exact .inr hh
 refine ⟨cells++ds,by rw [List.length_append];exact hr cells own,fun i hi=>?_⟩
 by_cases hlt:i<xs.length
 ·obtain ⟨es,l1,u1,d1,d2,d3,d4,d5,d6⟩:=hel i hlt
  refine ⟨es,l1,u1,d1,d2,Nat.le_trans d3 hg.size,hv' l1 u1 d3 d4,?_,fun t y ht=>?_⟩
  ·rw [List.getElem_append_left hlt];exact hP _ _ _ _ _ _ (hk l1 u1 d4) d5
  ·have:=d6 t y ht
   rw [List.getElem?_append_left (by
    rcases Nat.lt_or_ge (i * size+t) cells.length with hh|hh
    ·exact hh
    ·rw [List.getElem?_eq_none hh] at this;cases this)]
   exact this
 ·have ei:i=xs.length:=by simp at hi;omega
  subst ei
  refine ⟨ds,l,u,hd,hl,Nat.le_trans hu hg.size,hv' l u hu hs,?_,fun t y ht=>?_⟩
  ·rw [List.getElem_append_right (Nat.le_refl _)];simp only [Nat.sub_self,List.getElem_cons_zero];exact hP _ _ _ _ _ _ (hk l u hs) hx
  ·rw [List.getElem?_append_right (by rw [own.1];omega),own.1,show xs.length * size+t - xs.length * size=t by omega];exact ht
variable {P:Program} {w:World}
theorem iV {α:Type} {size:Nat} {Pd:Lie α} (hPd:eF Pd) {ops:Array Oper} {rest:List Oper} {o:Oper} {a:Act} {Q:Exit→Act→World→Prop} (hgd:o.guard=none) (s x:Operand) (t:TypeId)
 (ho:o.op=.call { callee:=.builtin .append,args:=#[s,x],argTypes:=#[t,t] })
 (base:Nat) (e:TypeId) (i:TypeInfo) (z:Value) (bytes:Nat) (ht:P.underlying t=some (.slice e)) (hi:P.info? e=some i) (hz:i.zero=some z)
 (hsize:i.size=size) (hby:i.bytes=bytes) (hzs:z.cells.size=size) (hsz:0<size)
 (v:Value) (xs:List α) (hs:a.eval s=v) (hrow:fd size Pd e base w v xs)
 (ad:Addr) (c:Nat) (ds:List Value) (hx:a.eval x=.slice (some ad) 1 c) (hl:ds.length=size) (hnews:∀j u,ds[j]? = some u→w.cell? (ad.add j)=some u) (h1:∀u∈ds,u.oneCell'=true)
 (l u:Nat) (hbl:base≤l) (hu:u≤w.heap.size) (hsep:∀g,v.ownBlock=some g→g<l∨u≤g) (y:α) (hP:Pd l u w ds y)
 (h63:xs.length<100000000) (hbytes:bytes≤1000) (hbase:base≤w.heap.size)
 (h:∀v' w',fd size Pd e base w' v' (xs++[y])→(∀W,Ext W w→W.heap.size≤base→Ext W w')→wpList P ops Q rest (a.put o.dst v') w') :
 wpList P ops Q (o :: rest) a w:=by
 have hrow0:=hrow
 obtain ⟨cells,own,hel⟩:=hrow0
 refine wpList_append_own_at w hgd s x t ho base e i z size bytes ht hi hz hsize hby hzs hsz v xs.length cells hs own ad 1 c ds hx (by omega) hnews h1 (by unfold maxLen;omega) ?_ hbase (fun v' w' own' hg hn hb=>h v' w' ?_ ?_)
 ·have:(xs.length+1) * bytes≤100000000 * 1000:=Nat.mul_le_mul (by omega) hbytes
  omega
 ·refine hrow.snoc hPd hl hbl hu hsep hP (fun cells' own2=>?_) hg hb
  have:cells'=cells:=by
   have e1:=own.2
   have e2:=own2.2
   have l1:=own.1
   have l2:=own2.1
   rcases e1 with ⟨ev,en⟩|⟨g,cap,cur,ev,_,hg1,_,_,_,ht1⟩
   ·have:cells = []:=List.eq_nil_of_length_eq_zero (by rw [l1,en];omega)
    have:cells' = []:=List.eq_nil_of_length_eq_zero (by rw [l2,en];omega)
    simp [*]
   ·rcases e2 with ⟨ev2,_⟩|⟨g2,cap2,cur2,ev2,_,hg2,_,_,_,ht2⟩
    ·rw [ev] at ev2;cases ev2
    ·rw [ev] at ev2;cases ev2
     rw [hg1] at hg2;cases hg2
     rw [← ht1,← ht2]
  rw [this];exact own'
 ·intro W hW hb2
  exact hW.own hg (fun g hg'=>Nat.le_trans hb2 (hrow.block g hg').1)
end Go.Proofs.YtclpbhoekmecjaaGreatDoor
namespace Go.Proofs.YtclpbhoekmecjaaGreatDoor
open Go.RowKit
set_option linter.unusedVariables false
set_option linter.unusedSimpArgs false
def yE {α:Type} (P:Lie α):Prop:=∀lo hi lo' hi' w w' cs x,P lo hi w cs x→P lo' hi' w' cs x
theorem bS.flat:yE bS:=fun _ _ _ _ _ _ _ _ h=>h
theorem dv.flat:yE dv:=fun _ _ _ _ _ _ _ _ h=>h
theorem fo.flat:yE fo:=fun _ _ _ _ _ _ _ _ h=>h
theorem WrP.flat:yE WrP:=fun _ _ _ _ _ _ _ _ h=>h
theorem dV.flat:yE dV:=fun _ _ _ _ _ _ _ _ h=>h
theorem fd.kept {α:Type} {size:Nat} {P:Lie α} (hP:yE P) {e:TypeId} {base:Nat} {w w':World} {v:Value} {xs:List α} {r:Option Nat} (h:fd size P e base w v xs) (hg:w.grownBy w' r) (hne:∀g,v.ownBlock=some g→r≠some g):fd size P e base w' v xs:=by
 obtain ⟨cells,own,hel⟩:=h
 refine ⟨cells,⟨own.1,?_⟩,fun i hi=>?_⟩
 ·rcases own.2 with hn|⟨g,cap,cur,rfl,h1,h2,h3⟩
  ·exact .inl hn
  ·refine .inr ⟨g,cap,cur,rfl,h1,?_,h3⟩
   have hl:g<w.heap.size:=by
    by_cases hh:g<w.heap.size
    ·exact hh
    ·rw [Array.getElem?_eq_none (by omega)] at h2;cases h2
   rw [hg.block g hl (fun e=>hne g rfl e.symm)];exact h2
 ·obtain ⟨ds,l,u,d1,d2,d3,d4,d5,d6⟩:=hel i hi
  exact ⟨ds,l,u,d1,d2,Nat.le_trans d3 hg.size,d4,hP _ _ _ _ _ _ _ _ d5,d6⟩
variable {P:Program} {w:World}
theorem bF {α:Type} {size:Nat} {Pd:Lie α} (hPd:eF Pd) {ops:Array Oper} {rest:List Oper} {o:Oper} {a:Act} {Q:Exit→Act→World→Prop} (hgd:o.guard=none) (s x:Operand) (t:TypeId)
 (ho:o.op=.call { callee:=.builtin .append,args:=#[s,x],argTypes:=#[t,t] })
 (base:Nat) (e:TypeId) (i:TypeInfo) (z:Value) (bytes:Nat) (ht:P.underlying t=some (.slice e)) (hi:P.info? e=some i) (hz:i.zero=some z)
 (hsize:i.size=size) (hby:i.bytes=bytes) (hzs:z.cells.size=size) (hsz:0<size)
 (v:Value) (xs:List α) (hs:a.eval s=v) (hrow:fd size Pd e base w v xs)
 (ad:Addr) (c:Nat) (ds:List Value) (hx:a.eval x=.slice (some ad) 1 c) (hl:ds.length=size) (hnews:∀j u,ds[j]? = some u→w.cell? (ad.add j)=some u) (h1:∀u∈ds,u.oneCell'=true)
 (l u:Nat) (hbl:base≤l) (hu:u≤w.heap.size) (hsep:∀g,v.ownBlock=some g→g<l∨u≤g) (y:α) (hP:Pd l u w ds y)
 (h63:xs.length<100000000) (hbytes:bytes≤1000) (hbase:base≤w.heap.size)
 (h:∀v' w',fd size Pd e base w' v' (xs++[y])→(∀W,Ext W w→W.heap.size≤base→Ext W w')→w.grownBy w' v.ownBlock→(v'.ownBlock=v.ownBlock∨v'.ownBlock=some w.heap.size)→wpList P ops Q rest (a.put o.dst v') w') :
 wpList P ops Q (o :: rest) a w:=by
 have hrow0:=hrow
 obtain ⟨cells,own,hel⟩:=hrow0
 refine wpList_append_own_at w hgd s x t ho base e i z size bytes ht hi hz hsize hby hzs hsz v xs.length cells hs own ad 1 c ds hx (by omega) hnews h1 (by unfold maxLen;omega) ?_ hbase (fun v' w' own' hg hn hb=>h v' w' ?_ ?_ hg hb)
 ·have:(xs.length+1) * bytes≤100000000 * 1000:=Nat.mul_le_mul (by omega) hbytes
  omega
 ·refine hrow.snoc hPd hl hbl hu hsep hP (fun cells' own2=>?_) hg hb
  have:cells'=cells:=by
   have e1:=own.2
   have e2:=own2.2
   have l1:=own.1
   have l2:=own2.1
   rcases e1 with ⟨ev,en⟩|⟨g,cap,cur,ev,_,hg1,_,_,_,ht1⟩
   ·have:cells = []:=List.eq_nil_of_length_eq_zero (by rw [l1,en];omega)
    have:cells' = []:=List.eq_nil_of_length_eq_zero (by rw [l2,en];omega)
    simp [*]
   ·rcases e2 with ⟨ev2,_⟩|⟨g2,cap2,cur2,ev2,_,hg2,_,_,_,ht2⟩
    ·rw [ev] at ev2;cases ev2
    ·rw [ev] at ev2;cases ev2
     rw [hg1] at hg2;cases hg2
     rw [← ht1,← ht2]
  rw [this];exact own'
 ·intro W hW hb2
  exact hW.own hg (fun g hg'=>Nat.le_trans hb2 (hrow.block g hg').1)
def idxOf (f:Nat→Bool) (n:Nat):List Int:=((List.range n).filter f).map (fun (i:Nat)=>(i:Int))
theorem cY {f:Nat→Bool} {n:Nat} (h:f n=true):idxOf f (n+1)=idxOf f n++[(n:Int)]:=by
 unfold idxOf;rw [List.range_succ,List.filter_append,List.map_append];simp [h]
theorem dL {f:Nat→Bool} {n:Nat} (h:f n=false):idxOf f (n+1)=idxOf f n:=by
 unfold idxOf;rw [List.range_succ,List.filter_append,List.map_append];simp [h]
theorem dF (f:Nat→Bool) (n:Nat):(idxOf f n).length≤n:=by
 unfold idxOf;rw [List.length_map];have:=List.length_filter_le f (List.range n);simpa using this
def ph (b:Big) (p:Int) (i:Nat):Bool:=match b.nodes[i]? with|none=>false|some n=>decide (n.parent=p)
def g7 (b:Big) (p:Int) (i:Nat):Bool:=match b.sites[i]? with|none=>false|some x=>decide (x=p)
def eH (b:Big) (p:Int):List Int:=idxOf (ph b p) b.nodes.length
def ba (b:Big) (p:Int):List Int:=idxOf (g7 b p) b.sites.length
theorem Bp (b:Big) (p:Int) (i:Nat) (h:i<b.nodes.length):ph b p i=decide ((b.nodes[i]).parent=p):=by unfold ph;rw [List.getElem?_eq_getElem h]
theorem wE (b:Big) (p:Int) (i:Nat) (h:i<b.sites.length):g7 b p i=decide (b.sites[i]=p):=by unfold g7;rw [List.getElem?_eq_getElem h]
def bR (links:List Int) (l:Int) (i k:Nat):List (Int × Int):=((List.range k).filter (fun j=>decide (links.getD j 0=l))).map (fun (j:Nat)=>((i:Int),(j:Int)))
def cU (b:Big) (l:Int) (n:Nat):List (Int × Int):=(List.range n).flatMap (fun i=>bR (b.nodes.getD i ⟨0,0,[]⟩).links l i (b.nodes.getD i ⟨0,0,[]⟩).links.length)
def aw (b:Big) (l:Int):List (Int × Int):=cU b l b.nodes.length
theorem jx {links:List Int} {l:Int} {i k:Nat} (hk:k<links.length) (h:links[k]=l):bR links l i (k+1)=bR links l i k++[((i:Int),(k:Int))]:=by
 unfold bR;rw [List.range_succ,List.filter_append,List.map_append]
 simp [List.getElem?_eq_getElem hk,h]
theorem kw {links:List Int} {l:Int} {i k:Nat} (hk:k<links.length) (h:¬links[k]=l):bR links l i (k+1)=bR links l i k:=by
 unfold bR;rw [List.range_succ,List.filter_append,List.map_append]
 simp [List.getElem?_eq_getElem hk,h]
theorem eZ (b:Big) (l:Int) (n:Nat) (h:n<b.nodes.length):cU b l (n+1)=cU b l n++bR (b.nodes[n]).links l n (b.nodes[n]).links.length:=by
 unfold cU;rw [List.range_succ,List.flatMap_append]
 simp [List.getElem?_eq_getElem h]
theorem kY (links:List Int) (l:Int) (i k:Nat):(bR links l i k).length≤k:=by
 unfold bR;rw [List.length_map];have:=List.length_filter_le (fun j=>decide (links.getD j 0=l)) (List.range k);simpa using this
def dY (b:Big) (l:Int) (n:Nat):List ByteArray:=((b.inner.take n).filter (fun x=>decide (x.link=l))).map Wr.name
def mP (b:Big) (l:Int):List ByteArray:=dY b l b.inner.length
theorem mC {b:Big} {l:Int} {n:Nat} (h:n<b.inner.length) (hl:(b.inner[n]).link=l):dY b l (n+1)=dY b l n++[(b.inner[n]).name]:=by
 unfold dY;rw [List.take_succ_eq_append_getElem h,List.filter_append,List.map_append];simp [hl]
theorem nT {b:Big} {l:Int} {n:Nat} (h:n<b.inner.length) (hl:¬(b.inner[n]).link=l):dY b l (n+1)=dY b l n:=by
 unfold dY;rw [List.take_succ_eq_append_getElem h,List.filter_append,List.map_append];simp [hl]
theorem iO (b:Big) (l:Int) (n:Nat):(dY b l n).length≤n:=by
 unfold dY;rw [List.length_map];have:=List.length_filter_le (fun x:Wr=>decide (x.link=l)) (b.inner.take n);simp at this;omega
def nz (b:Big) (l:Int):Bool:=(aw b l).isEmpty && (mP b l).isEmpty
end Go.Proofs.YtclpbhoekmecjaaGreatDoor
namespace Go.Proofs.YtclpbhoekmecjaaGreatDoor
open Go.RowKit
set_option linter.unusedVariables false
set_option linter.unusedSimpArgs false
variable {P:Program} {w:World}
end Go.Proofs.YtclpbhoekmecjaaGreatDoor
namespace Go.Proofs.YtclpbhoekmecjaaGreatDoor
open Go.RowKit
set_option linter.unusedVariables false
set_option linter.unusedSimpArgs false
variable {P:Program} {w:World}
end Go.Proofs.YtclpbhoekmecjaaGreatDoor
namespace Go.Proofs.YtclpbhoekmecjaaGreatDoor
open Go.RowKit
set_option linter.unusedVariables false
set_option linter.unusedSimpArgs false
section
variable {P:Program} {ops:Array Oper} {Q:Exit→Act→World→Prop} {md:Region.Mode} {S:World→Prop}
end
end Go.Proofs.YtclpbhoekmecjaaGreatDoor
namespace Go.Proofs.YtclpbhoekmecjaaGreatDoor
open Go.RowKit
set_option linter.unusedVariables false
set_option linter.unusedSimpArgs false
def Off (a b:Nat × Nat):Prop:=a.2≤b.1∨b.2≤a.1
def qD (lo hi:Nat) (L:List (Nat × Nat)):Prop:=L.Pairwise Off∧∀p∈L,lo≤p.1∧p.2≤hi
theorem qD.widen {lo hi lo' hi':Nat} {L:List (Nat × Nat)} (h:qD lo hi L) (h1:lo'≤lo) (h2:hi≤hi'):qD lo' hi' L:=
 ⟨h.1,fun p hp=>by have:=h.2 p hp;omega⟩
def SlO {α:Type} (size:Nat) (P:Lie α) (lo hi:Nat) (w:World) (v:Value) (xs:List α):Prop:=
 ∃a k,v=.slice a xs.length k∧xs.length≤k∧k≤maxLen∧(a=none→k=0)∧(xs = []∨∃b o,∃f:Nat→Nat × Nat,a=some ⟨b,o,none⟩∧lo≤b∧b<hi∧b<w.heap.size∧(∀j,w.frozen? ⟨b,j,none⟩=false)∧(∀i j,i<j→j<xs.length→Off (f i) (f j)) ∧
  ∀i (h:i<xs.length),lo≤(f i).1∧(f i).2≤hi∧Off (f i) (b,b+1)∧∃cs,cs.length=size∧P (f i).1 (f i).2 w cs xs[i]∧bE w b (o+i * size) cs)
theorem bV.sub {lo hi l u:Nat} {w w':World} (h:bV lo hi w w') (h1:lo≤l) (h2:u≤hi):bV l u w w':=fun b h3 h4 h5=>h b (by omega) (by omega) h5
theorem SlO.keeps {α:Type} {P:Lie α} (hP:eF P) {size lo hi:Nat} {w w':World} {v:Value} {xs:List α} (hz:w.heap.size≤w'.heap.size) (hs:bV lo hi w w') (h:SlO size P lo hi w v xs):SlO size P lo hi w' v xs:=by
 obtain ⟨a,k,rfl,h1,h2,h3,h4⟩:=h
 refine ⟨a,k,rfl,h1,h2,h3,?_⟩
 rcases h4 with h4|⟨b,o,f,rfl,hb1,hb2,hb3,hf,ho,h4⟩
 ·exact .inl h4
 ·refine .inr ⟨b,o,f,rfl,hb1,hb2,by omega,fun j=>(World.frozen?_of_block (hs b hb1 hb2 hb3)).trans (hf j),ho,fun i hi=>?_⟩
  obtain ⟨g1,g2,g3,cs,hl,hp,hc⟩:=h4 i hi
  exact ⟨g1,g2,g3,cs,hl,hP _ _ _ _ _ _ (hs.sub g1 g2) hp,hs.cells hb1 hb2 hc⟩
theorem SlO.widens {α:Type} {P:Lie α} {size lo hi lo' hi':Nat} {w:World} {v:Value} {xs:List α} (h1:lo'≤lo) (h2:hi≤hi') (h:SlO size P lo hi w v xs):SlO size P lo' hi' w v xs:=by
 obtain ⟨a,k,rfl,g1,g2,g3,h4⟩:=h
 refine ⟨a,k,rfl,g1,g2,g3,?_⟩
 rcases h4 with h4|⟨b,o,f,rfl,hb1,hb2,hb3,hf,ho,h4⟩
 ·exact .inl h4
 ·refine .inr ⟨b,o,f,rfl,by omega,by omega,hb3,hf,ho,fun i hi=>?_⟩
  obtain ⟨g1,g2,g3,cs,hl,hp,hc⟩:=h4 i hi
  exact ⟨by omega,by omega,g3,cs,hl,hp,hc⟩
def cT {α:Type} (P:Lie α):Prop:=∀lo hi w w' cs x,w.heap.size≤w'.heap.size→bV lo hi w w'→P lo hi w cs x→P lo hi w' cs x
theorem eF.toO {α:Type} {P:Lie α} (h:eF P):cT P:=fun _ _ _ _ _ _ _ hs hp=>h _ _ _ _ _ _ hs hp
theorem SlO.keepsO {α:Type} {P:Lie α} (hP:cT P) {size lo hi:Nat} {w w':World} {v:Value} {xs:List α} (hz:w.heap.size≤w'.heap.size) (hs:bV lo hi w w') (h:SlO size P lo hi w v xs):SlO size P lo hi w' v xs:=by
 obtain ⟨a,k,rfl,h1,h2,h3,h4⟩:=h
 refine ⟨a,k,rfl,h1,h2,h3,?_⟩
 rcases h4 with h4|⟨b,o,f,rfl,hb1,hb2,hb3,hf,ho,h4⟩
 ·exact .inl h4
 ·refine .inr ⟨b,o,f,rfl,hb1,hb2,by omega,fun j=>(World.frozen?_of_block (hs b hb1 hb2 hb3)).trans (hf j),ho,fun i hi=>?_⟩
  obtain ⟨g1,g2,g3,cs,hl,hp,hc⟩:=h4 i hi
  exact ⟨g1,g2,g3,cs,hl,hP _ _ _ _ _ _ hz (hs.sub g1 g2) hp,hs.cells hb1 hb2 hc⟩
theorem SlO.ext {α:Type} {P:Lie α} (hP:cT P) {size lo hi:Nat} {w w':World} {v:Value} {xs:List α} (h:SlO size P lo hi w v xs) (hx:Ext w w'):SlO size P lo hi w' v xs:=h.keepsO hP (Below.size hx) (bV.ext hx)
theorem SlO.set {α:Type} {P:Lie α} (hP:cT P) {size lo hi b o:Nat} {u:Value} {w:World} {v:Value} {xs:List α} (h:SlO size P lo hi w v xs) (hb:b<lo∨hi≤b):SlO size P lo hi (w.setCell ⟨b,o,none⟩ u) v xs:=
 h.keepsO hP (by simp) (bV.grown (bO b o u) hb)
theorem cT.ext {α:Type} {P:Lie α} (hP:cT P) {lo hi:Nat} {w w':World} {cs:List Value} {x:α} (h:P lo hi w cs x) (hx:Ext w w'):P lo hi w' cs x:=hP _ _ _ _ _ _ (Below.size hx) (bV.ext hx) h
theorem cT.set {α:Type} {P:Lie α} (hP:cT P) {lo hi b o:Nat} {u:Value} {w:World} {cs:List Value} {x:α} (h:P lo hi w cs x) (hb:b<lo∨hi≤b):P lo hi (w.setCell ⟨b,o,none⟩ u) cs x:=
 hP _ _ _ _ _ _ (by simp) (bV.grown (bO b o u) hb) h
abbrev yf:=SlO 1 bS
abbrev F5:=SlO 1 dv
abbrev G0:=SlO 3 fo
abbrev H7:=SlO 2 WrP
abbrev Gh:=SlO 2 dV
def EZ:Lie (List Int):=fun lo hi w cs l=>∃v,cs = [v]∧yf lo hi w v l
def NdO:Lie Nd:=fun lo hi w cs n=>∃v,cs = [.int .i64 n.control,.int .i64 n.parent,v]∧I64 n.control∧I64 n.parent∧yf lo hi w v n.links
abbrev Fy:=SlO 1 EZ
abbrev Hw:=SlO 3 NdO
def Bw:Lie Big:=fun lo hi w cs b=>∃v1 v2 v4 v5 l1 u1 l2 u2 l4 u4 l5 u5,cs = [.int .i64 b.roots,v1,v2,.int .i64 b.edges,v4,v5]∧I64 b.roots∧I64 b.edges∧Hw l1 u1 w v1 b.nodes∧yf l2 u2 w v2 b.sites∧F5 l4 u4 w v4 b.outer∧H7 l5 u5 w v5 b.inner∧qD lo hi [(l1,u1),(l2,u2),(l4,u4),(l5,u5)]
def Fk:Lie Rul:=fun lo hi w cs r=>∃c1 c2 v l1 u1 l2 u2 l3 u3,cs=c1++(c2++[v])∧Bw l1 u1 w c1 r.redex∧Bw l2 u2 w c2 r.reactum∧yf l3 u3 w v r.copies∧qD lo hi [(l1,u1),(l2,u2),(l3,u3)]
abbrev G2:=SlO 13 Fk
def Fm:Lie Srt:=fun lo hi w cs s=>∃v0 v1 v2 v3 v4 l0 u0 l1 u1 l2 u2 l3 u3 l4 u4,cs = [v0,v1,v2,v3,v4]∧yf l0 u0 w v0 s.tops∧Fy l1 u1 w v1 s.nest∧Fy l2 u2 w v2 s.sorts∧yf l3 u3 w v3 s.most∧Gh l4 u4 w v4 s.apart∧qD lo hi [(l0,u0),(l1,u1),(l2,u2),(l3,u3),(l4,u4)]
def Fu:Lie Rnt:=fun lo hi w cs r=>∃v0 c1 v6 v7 c8 l0 u0 l1 u1 l6 u6 l7 u7 l8 u8,cs=v0 :: (c1++(v6 :: v7 :: (c8++[.int .i64 r.count])))∧G0 l0 u0 w v0 r.sig∧Fm l1 u1 w c1 r.sort∧G2 l6 u6 w v6 r.rules∧F5 l7 u7 w v7 r.hosts∧Bw l8 u8 w c8 r.agent∧I64 r.count∧qD lo hi [(l0,u0),(l1,u1),(l6,u6),(l7,u7),(l8,u8)]
theorem bS.keepsO:cT bS:=bS.keeps.toO
theorem dv.keepsO:cT dv:=dv.keeps.toO
theorem fo.keepsO:cT fo:=fo.keeps.toO
theorem WrP.keepsO:cT WrP:=WrP.keeps.toO
theorem dV.keepsO:cT dV:=dV.keeps.toO
theorem EZ.keepsO:cT EZ:=by
 rintro lo hi w w' cs l hz hs ⟨v,rfl,h⟩
 exact ⟨v,rfl,h.keepsO bS.keepsO hz hs⟩
theorem NdO.keepsO:cT NdO:=by
 rintro lo hi w w' cs n hz hs ⟨v,rfl,h1,h2,h⟩
 exact ⟨v,rfl,h1,h2,h.keepsO bS.keepsO hz hs⟩
theorem qD.at {lo hi:Nat} {L:List (Nat × Nat)} (h:qD lo hi L) {w w':World} (hs:bV lo hi w w'):∀p∈L,bV p.1 p.2 w w':=fun p hp=>hs.sub (h.2 p hp).1 (h.2 p hp).2
theorem Bw.keepsO:cT Bw:=by
 rintro lo hi w w' cs b hz hs ⟨v1,v2,v4,v5,l1,u1,l2,u2,l4,u4,l5,u5,rfl,h1,h2,a,b',c,d,hp⟩
 have hq:=hp.at hs
 exact ⟨v1,v2,v4,v5,l1,u1,l2,u2,l4,u4,l5,u5,rfl,h1,h2,a.keepsO NdO.keepsO hz (hq (l1,u1) (by simp)),b'.keepsO bS.keepsO hz (hq (l2,u2) (by simp)),c.keepsO dv.keepsO hz (hq (l4,u4) (by simp)),d.keepsO WrP.keepsO hz (hq (l5,u5) (by simp)),hp⟩
theorem Fk.keepsO:cT Fk:=by
 rintro lo hi w w' cs r hz hs ⟨c1,c2,v,l1,u1,l2,u2,l3,u3,rfl,a,b,c,hp⟩
 have hq:=hp.at hs
 exact ⟨c1,c2,v,l1,u1,l2,u2,l3,u3,rfl,Bw.keepsO _ _ _ _ _ _ hz (hq (l1,u1) (by simp)) a,Bw.keepsO _ _ _ _ _ _ hz (hq (l2,u2) (by simp)) b,c.keepsO bS.keepsO hz (hq (l3,u3) (by simp)),hp⟩
theorem Fm.keepsO:cT Fm:=by
 rintro lo hi w w' cs s hz hs ⟨v0,v1,v2,v3,v4,l0,u0,l1,u1,l2,u2,l3,u3,l4,u4,rfl,a,b,c,d,e,hp⟩
 have hq:=hp.at hs
 exact ⟨v0,v1,v2,v3,v4,l0,u0,l1,u1,l2,u2,l3,u3,l4,u4,rfl,a.keepsO bS.keepsO hz (hq (l0,u0) (by simp)),b.keepsO EZ.keepsO hz (hq (l1,u1) (by simp)),c.keepsO EZ.keepsO hz (hq (l2,u2) (by simp)),d.keepsO bS.keepsO hz (hq (l3,u3) (by simp)),e.keepsO dV.keepsO hz (hq (l4,u4) (by simp)),hp⟩
theorem Fu.keepsO:cT Fu:=by
 rintro lo hi w w' cs r hz hs ⟨v0,c1,v6,v7,c8,l0,u0,l1,u1,l6,u6,l7,u7,l8,u8,rfl,a,b,c,d,e,f,hp⟩
 have hq:=hp.at hs
 exact ⟨v0,c1,v6,v7,c8,l0,u0,l1,u1,l6,u6,l7,u7,l8,u8,rfl,a.keepsO fo.keepsO hz (hq (l0,u0) (by simp)),Fm.keepsO _ _ _ _ _ _ hz (hq (l1,u1) (by simp)) b,c.keepsO Fk.keepsO hz (hq (l6,u6) (by simp)),d.keepsO dv.keepsO hz (hq (l7,u7) (by simp)),Bw.keepsO _ _ _ _ _ _ hz (hq (l8,u8) (by simp)) e,f,hp⟩
theorem EZ.widens:eJ EZ:=by
 rintro lo hi lo' hi' w cs l h1 h2 ⟨v,rfl,h⟩
 exact ⟨v,rfl,h.widens h1 h2⟩
theorem NdO.widens:eJ NdO:=by
 rintro lo hi lo' hi' w cs n h1 h2 ⟨v,rfl,g1,g2,h⟩
 exact ⟨v,rfl,g1,g2,h.widens h1 h2⟩
theorem Bw.widens:eJ Bw:=by
 rintro lo hi lo' hi' w cs b h1 h2 ⟨v1,v2,v4,v5,l1,u1,l2,u2,l4,u4,l5,u5,rfl,g1,g2,a,b',c,d,hp⟩
 exact ⟨v1,v2,v4,v5,l1,u1,l2,u2,l4,u4,l5,u5,rfl,g1,g2,a,b',c,d,hp.widen h1 h2⟩
theorem Fk.widens:eJ Fk:=by
 rintro lo hi lo' hi' w cs r h1 h2 ⟨c1,c2,v,l1,u1,l2,u2,l3,u3,rfl,a,b,c,hp⟩
 exact ⟨c1,c2,v,l1,u1,l2,u2,l3,u3,rfl,a,b,c,hp.widen h1 h2⟩
theorem Fm.widens:eJ Fm:=by
 rintro lo hi lo' hi' w cs s h1 h2 ⟨v0,v1,v2,v3,v4,l0,u0,l1,u1,l2,u2,l3,u3,l4,u4,rfl,a,b,c,d,e,hp⟩
 exact ⟨v0,v1,v2,v3,v4,l0,u0,l1,u1,l2,u2,l3,u3,l4,u4,rfl,a,b,c,d,e,hp.widen h1 h2⟩
theorem Fu.widens:eJ Fu:=by
 rintro lo hi lo' hi' w cs r h1 h2 ⟨v0,c1,v6,v7,c8,l0,u0,l1,u1,l6,u6,l7,u7,l8,u8,rfl,a,b,c,d,e,f,hp⟩
 exact ⟨v0,c1,v6,v7,c8,l0,u0,l1,u1,l6,u6,l7,u7,l8,u8,rfl,a,b,c,d,e,f,hp.widen h1 h2⟩
def kT {α:Type} (size:Nat) (P:Lie α) (g:Nat) (w:World) (xs:List α) (cells:List Value) (i:Nat):Prop:=
 ∃f:Nat→Nat × Nat,(∀j j',j<j'→j'<i→(f j).2≤(f j').1)∧(∀j,j<i→g<(f j).1∧(f j).2≤w.heap.size) ∧
  ∀j (h:j<xs.length),j<i→∃ds,ds.length=size∧P (f j).1 (f j).2 w ds xs[j]∧∀t u,ds[t]? = some u→cells[j * size+t]? = some u
theorem kT.zero {α:Type} {size:Nat} {P:Lie α} {g:Nat} {w:World} {xs:List α} {cells:List Value}:kT size P g w xs cells 0:=
 ⟨fun _=>(0,0),fun _ _ _ h=>absurd h (Nat.not_lt_zero _),fun _ h=>absurd h (Nat.not_lt_zero _),fun j _ hj=>absurd hj (Nat.not_lt_zero _)⟩
theorem kT.put {α:Type} {size:Nat} {P:Lie α} (hP:cT P) {g:Nat} {w w':World} {xs:List α} {cells:List Value} {i:Nat} (h:kT size P g w xs cells i) (hx:Ext w w') (hg:g<w.heap.size) (hi:i<xs.length) (ds:List Value) (hd:ds.length=size) (hl:cells.length=xs.length * size)
 (hp:P w.heap.size w'.heap.size w' ds xs[i]) (hgr:w'.grownBy (rJ w' g (i * size) ds) (some g)):kT size P g (rJ w' g (i * size) ds) xs (ka cells (i * size) ds) (i+1):=by
 obtain ⟨f,f1,f2,f3⟩:=h
 have hz:=Below.size hx
 refine ⟨fun j=>if j<i then f j else (w.heap.size,w'.heap.size),fun j j' h1 h2=>?_,fun j hj=>?_,fun j hj hji=>?_⟩
 ·by_cases hh:j'<i
  ·simp only [if_pos hh,if_pos (show j<i by omega)];exact f1 j j' h1 hh
  ·simp only [if_neg hh,if_pos (show j<i by omega)];exact (f2 j (by omega)).2
 ·rw [iK]
  by_cases hh:j<i
  ·simp only [if_pos hh];have:=f2 j hh;omega
  ·simp only [if_neg hh];omega
 ·by_cases hlt:j<i
  ·simp only [if_pos hlt]
   have hs:bV (f j).1 (f j).2 w (rJ w' g (i * size) ds):=by
    intro b b1 b2 b3
    have:=f2 j hlt
    rw [hgr.block b (by omega) (by simp;omega)]
    exact hx.block b b3
   obtain ⟨es,h1,h2,h3⟩:=f3 j hj hlt
   refine ⟨es,h1,hP _ _ _ _ _ _ (by rw [iK];omega) hs h2,fun t u ht=>?_⟩
   have htl:t<size:=by
    by_cases hh:t<es.length
    ·omega
    ·rw [List.getElem?_eq_none (by omega)] at ht;cases ht
   rw [iW]
   ·exact h3 t u ht
   ·left
    have:(j+1) * size≤i * size:=Nat.mul_le_mul_right _ hlt
    rw [Nat.add_mul] at this
    omega
  ·have e:j=i:=by omega
   subst e
   simp only [if_neg hlt]
   have hs:bV w.heap.size w'.heap.size w' (rJ w' g (j * size) ds):=bV.grown hgr (.inl hg)
   refine ⟨ds,hd,hP _ _ _ _ _ _ (by rw [iK];omega) hs hp,fun t u ht=>kk ds cells _ t u ?_ ht⟩
   have:(j+1) * size≤xs.length * size:=Nat.mul_le_mul_right _ hj
   rw [Nat.add_mul] at this
   omega
theorem kT.all {α:Type} {size:Nat} {P:Lie α} {base g cap lo:Nat} {e:TypeId} {w:World} {xs:List α} {cells:List Value} (h:kT size P g w xs cells xs.length) (own:w.ownsRow base e size (.slice (some ⟨g,0,none⟩) xs.length cap) xs.length cells) (hlo:lo≤g) (hc:xs.length≤cap) (hcm:cap≤maxLen) :
 SlO size P lo w.heap.size w (.slice (some ⟨g,0,none⟩) xs.length cap) xs:=by
 obtain ⟨f,f1,f2,f3⟩:=h
 refine ⟨_,_,rfl,hc,hcm,fun h=>(by cases h),.inr ⟨g,0,f,rfl,hlo,(wP own).2,(wP own).2,fun j=>own.frozenAt j,fun i j h1 h2=>.inl (f1 i j h1 h2),fun i hi=>?_⟩⟩
 obtain ⟨ds,h1,h2,h3⟩:=f3 i hi hi
 have:=f2 i hi
 refine ⟨by omega,this.2,.inr (by show g+1≤_;omega),ds,h1,h2,fun t u ht=>?_⟩
 rw [Nat.zero_add]
 exact rg own _ _ (h3 t u ht)
structure rj (lo hi:Nat) (w w':World):Prop where
 os:w'.os=w.os
 tape:w'.tape=w.tape
 output:w'.output=w.output
 size:w.heap.size≤w'.heap.size
 block:∀b,b<w.heap.size→(b<lo∨hi≤b)→w'.heap[b]? = w.heap[b]?
theorem rj.refl (lo hi:Nat) (w:World):rj lo hi w w:=⟨rfl,rfl,rfl,Nat.le_refl _,fun _ _ _=>rfl⟩
theorem rj.trans {lo hi:Nat} {w w1 w2:World} (h:rj lo hi w w1) (k:rj lo hi w1 w2):rj lo hi w w2:=
 ⟨k.os.trans h.os,k.tape.trans h.tape,k.output.trans h.output,Nat.le_trans h.size k.size,fun b h1 h2=>(k.block b (Nat.lt_of_lt_of_le h1 h.size) h2).trans (h.block b h1 h2)⟩
theorem rj.of_ext {lo hi:Nat} {w w':World} (h:Ext w w'):rj lo hi w w':=⟨h.os,h.tape,h.output,Below.size h,fun b h1 _=>h.block b h1⟩
theorem rj.ext {lo hi:Nat} {w w1 w2:World} (h:rj lo hi w w1) (k:Ext w1 w2):rj lo hi w w2:=h.trans (.of_ext k)
theorem rj.widen {lo hi lo' hi':Nat} {w w':World} (h:rj lo hi w w') (h1:lo'≤lo) (h2:hi≤hi'):rj lo' hi' w w':=
 ⟨h.os,h.tape,h.output,h.size,fun b h3 h4=>h.block b h3 (by omega)⟩
theorem rj.set {lo hi b o:Nat} {u:Value} {w w':World} (h:rj lo hi w w') (h1:lo≤b) (h2:b<hi):rj lo hi w (w'.setCell ⟨b,o,none⟩ u):=
 h.trans ⟨rfl,rfl,rfl,by simp,fun k _ hk=>heap_setCell_other w' ⟨b,o,none⟩ k u (fun e=>by simp at e;omega)⟩
structure qP (b p n l u:Nat) (w w':World):Prop where
 os:w'.os=w.os
 tape:w'.tape=w.tape
 output:w'.output=w.output
 size:w.heap.size≤w'.heap.size
 block:∀c,c<w.heap.size→c≠b→(c<l∨u≤c)→w'.heap[c]? = w.heap[c]?
 froz:∀j,w'.frozen? ⟨b,j,none⟩=w.frozen? ⟨b,j,none⟩
 cell:∀j,(j<p∨p+n≤j)→w'.cell? ⟨b,j,none⟩=w.cell? ⟨b,j,none⟩
theorem qP.refl (b p n l u:Nat) (w:World):qP b p n l u w w:=⟨rfl,rfl,rfl,Nat.le_refl _,fun _ _ _ _=>rfl,fun _=>rfl,fun _ _=>rfl⟩
theorem qP.set {b p n l u o:Nat} {x:Value} {w w':World} (h:qP b p n l u w w') (h1:p≤o) (h2:o<p+n):qP b p n l u w (w'.setCell ⟨b,o,none⟩ x):=
 ⟨h.os,h.tape,h.output,by simpa using h.size,fun c c1 c2 c3=>(heap_setCell_other w' ⟨b,o,none⟩ c x (fun e=>c2 (by simp [e]))).trans (h.block c c1 c2 c3),fun j=>(World.frozen?_setCell _ _ _ _).trans (h.froz j),
  fun j hj=>(World.cell?_setCell_other _ _ _ _ (by intro e;injection e with e1 e2;omega)).trans (h.cell j hj)⟩
theorem qP.ext {b p n l u:Nat} {w w1 w2:World} (h:qP b p n l u w w1) (k:Ext w1 w2) (hb:b<w.heap.size):qP b p n l u w w2:=by
 have hbb:w2.heap[b]? = w1.heap[b]?:=k.block b (Nat.lt_of_lt_of_le hb h.size)
 exact ⟨k.os.trans h.os,k.tape.trans h.tape,k.output.trans h.output,Nat.le_trans h.size (Below.size k),fun c c1 c2 c3=>(k.block c (Nat.lt_of_lt_of_le c1 h.size)).trans (h.block c c1 c2 c3),
  fun j=>(World.frozen?_of_block hbb).trans (h.froz j),fun j hj=>(World.cell?_of_block hbb).trans (h.cell j hj)⟩
theorem SlO.at {α:Type} {P:Lie α} (hP:cT P) {size lo hi:Nat} {w:World} {v:Value} {xs:List α} (h:SlO size P lo hi w v xs) (i:Nat) (hi':i<xs.length) :
 ∃b o k l u cs,v=.slice (some ⟨b,o,none⟩) xs.length k∧xs.length≤k∧k≤maxLen∧lo≤b∧b<hi∧b<w.heap.size∧(∀j,w.frozen? ⟨b,j,none⟩=false)∧lo≤l∧u≤hi∧Off (l,u) (b,b+1)∧cs.length=size∧P l u w cs xs[i]∧bE w b (o+i * size) cs ∧
  ∀w' y cs',qP b (o+i * size) size l u w w'→cs'.length=size→P l u w' cs' y→bE w' b (o+i * size) cs'→SlO size P lo hi w' v (xs.set i y):=by
 obtain ⟨a,k,rfl,h1,h2,h3,h4⟩:=h
 rcases h4 with h4|⟨b,o,f,rfl,hb1,hb2,hb3,hf,ho,h4⟩
 ·subst h4;cases hi'
 ·obtain ⟨g1,g2,g3,cs,hl,hp,hc⟩:=h4 i hi'
  refine ⟨b,o,k,(f i).1,(f i).2,cs,rfl,h1,h2,hb1,hb2,hb3,hf,g1,g2,g3,hl,hp,hc,fun w' y cs' ht hl' hp' hc'=>?_⟩
  refine ⟨_,k,by rw [List.length_set],by rw [List.length_set];exact h1,h2,fun e=>(by cases e),.inr ⟨b,o,f,rfl,hb1,hb2,Nat.lt_of_lt_of_le hb3 ht.size,fun j=>(ht.froz j).trans (hf j),fun i j q1 q2=>ho i j q1 (by simpa using q2),fun j hj=>?_⟩⟩
  have hj':j<xs.length:=by simpa using hj
  obtain ⟨e1,e2,e3,ds,el,ep,ec⟩:=h4 j hj'
  by_cases hji:j=i
  ·subst hji
   exact ⟨g1,g2,g3,cs',hl',by rw [List.getElem_set_self];exact hp',hc'⟩
  ·refine ⟨e1,e2,e3,ds,el,?_,fun t x hx=>?_⟩
   ·rw [List.getElem_set_ne (fun e=>hji e.symm)]
    refine hP _ _ _ _ _ _ ht.size (fun c c1 c2 c3=>ht.block c c3 ?_ ?_) ep
    ·intro e
     subst e
     simp only [Off] at e3;omega
    ·have:Off (f j) (f i):=by
      rcases Nat.lt_or_ge j i with q|q
      ·exact ho j i q hi'
      ·have:=ho i j (by omega) hj'
       exact this.symm
     rcases this with q|q
     ·exact .inl (by omega)
     ·exact .inr (by omega)
   ·have htl:t<size:=by
     have:t<ds.length:=by
      by_cases hh:t<ds.length
      ·exact hh
      ·rw [List.getElem?_eq_none (by omega)] at hx;cases hx
     omega
    rw [ht.cell (o+j * size+t) ?_]
    ·exact ec t x hx
    ·rcases Nat.lt_or_ge j i with q|q
     ·left
      have:(j+1) * size≤i * size:=Nat.mul_le_mul_right _ q
      rw [Nat.add_mul] at this;omega
     ·right
      have:(i+1) * size≤j * size:=Nat.mul_le_mul_right _ (by omega)
      rw [Nat.add_mul] at this;omega
theorem bE.nil (w:World) (b o:Nat):bE w b o []:=fun j u h=>by simp at h
theorem bE.cons {w:World} {b o:Nat} {c:Value} {cs:List Value} (h:w.cell? ⟨b,o,none⟩=some c) (k:bE w b (o+1) cs):bE w b o (c :: cs):=by
 intro j u hj
 cases j with
 | zero=>simp at hj;subst hj;exact h
 | succ j=>rw [show o+(j+1)=(o+1)+j by omega];exact k j u (by simpa using hj)
end Go.Proofs.YtclpbhoekmecjaaGreatDoor
namespace Go.Proofs.YtclpbhoekmecjaaGreatDoor
open Go.RowKit
set_option linter.unusedVariables false
set_option linter.unusedSimpArgs false
theorem bE.set {w:World} {b p off:Nat} {x:Value} {cs:List Value} (h:bE w b p cs) (ho:off<cs.length):bE (w.setCell ⟨b,p+off,none⟩ x) b p (cs.set off x):=by
 intro j u hj
 rw [List.getElem?_set] at hj
 by_cases e:off=j
 ·subst e
  rw [if_pos rfl,if_pos ho] at hj
  cases hj
  exact World.cell?_setCell_same _ _ _ (h off _ (List.getElem?_eq_getElem ho))
 ·rw [if_neg e] at hj
  exact mt (h j u hj) (by intro e2;injection e2 with e3 e4;omega)
theorem bE.ext {w w':World} {b p:Nat} {cs:List Value} (h:bE w b p cs) (hx:Ext w w'):bE w' b p cs:=fun j u hj=>hx.keep (h j u hj)
theorem rj.keep {lo hi:Nat} {w w':World} {q:Addr} {v:Value} (h:rj lo hi w w') (hc:w.cell? q=some v) (hq:q.block<lo∨hi≤q.block):w'.cell? q=some v:=
 (World.cell?_of_block (h.block _ (World.block_lt_of_cell? w q hc) hq)).trans hc
theorem Off.symm {a b:Nat × Nat} (h:Off a b):Off b a:=Or.symm h
theorem Off.sub {a b:Nat × Nat} {l u l' u':Nat} (h:Off a b) (h1:a.1≤l) (h2:u≤a.2) (h3:b.1≤l') (h4:u'≤b.2):Off (l,u) (l',u'):=by
 rcases h with h|h
 ·exact .inl (by show u≤l';omega)
 ·exact .inr (by show u'≤l;omega)
theorem Off.lt {l u b:Nat} (h:Off (l,u) (b,b+1)):b<l∨u≤b:=by
 rcases h with h|h <;> simp at h <;> omega
end Go.Proofs.YtclpbhoekmecjaaGreatDoor
namespace Go.Proofs.YtclpbhoekmecjaaGreatDoor
open Go.RowKit
set_option linter.unusedVariables false
set_option linter.unusedSimpArgs false
def mkL {α:Type} (f:Int→α→α) (c:α→Nat):Int→List α→List α
 | _,[]=>[]
 | k,x :: xs=>f k x :: mkL f c (k+c x) xs
def cnL {α:Type} (c:α→Nat) (xs:List α):Nat:=(xs.map c).sum
def mh {α:Type} (f:Int→α→α) (c:α→Nat) (i:Nat) (k:Int) (xs:List α):List α:=mkL f c k (xs.take i)++xs.drop i
theorem jR {α:Type} (f:Int→α→α) (c:α→Nat):∀(xs:List α) (k:Int),(mkL f c k xs).length=xs.length:=by
 intro xs
 induction xs with
 | nil=>intro k;rfl
 | cons x xs ih=>intro k;simp [mkL,ih]
theorem fg {α:Type} (c:α→Nat) (xs:List α) (i:Nat) (h:i<xs.length):cnL c (xs.take (i+1))=cnL c (xs.take i)+c xs[i]:=by
 rw [List.take_succ_eq_append_getElem h]
 unfold cnL
 rw [List.map_append,List.sum_append]
 simp
theorem kq {α:Type} (c:α→Nat) (x:α) (xs:List α):cnL c (x :: xs)=c x+cnL c xs:=by simp [cnL]
theorem qd {α:Type} (f:Int→α→α) (c:α→Nat):∀(xs ys:List α) (k:Int),mkL f c k (xs++ys)=mkL f c k xs++mkL f c (k+cnL c xs) ys:=by
 intro xs
 induction xs with
 | nil=>intro ys k;simp [mkL,cnL]
 | cons x xs ih=>
  intro ys k
  rw [List.cons_append,mkL,ih,mkL,kq,List.cons_append,show k+((c x+cnL c xs:Nat):Int)=k+(c x:Int)+(cnL c xs:Int) by omega]
theorem rc {α:Type} (f:Int→α→α) (c:α→Nat) (i:Nat) (k:Int) (xs:List α):(mh f c i k xs).length=xs.length:=by
 unfold mh;rw [List.length_append,jR,List.length_take,List.length_drop];omega
theorem gY {α:Type} (f:Int→α→α) (c:α→Nat) (k:Int) (xs:List α):mh f c 0 k xs=xs:=by simp [mh,mkL]
theorem Dc {α:Type} (f:Int→α→α) (c:α→Nat) (k:Int) (xs:List α):mh f c xs.length k xs=mkL f c k xs:=by simp [mh]
theorem En {α:Type} (f:Int→α→α) (c:α→Nat) (i:Nat) (k:Int) (xs:List α) (h:i<xs.length) (h':i<(mh f c i k xs).length):(mh f c i k xs)[i]=xs[i]:=by
 have hl:(mkL f c k (xs.take i)).length=i:=by rw [jR,List.length_take];omega
 simp only [mh]
 rw [List.getElem_append_right (by omega)]
 simp [hl]
theorem zZ {α:Type} (f:Int→α→α) (c:α→Nat) (i:Nat) (k:Int) (xs:List α) (h:i<xs.length):mh f c (i+1) k xs=(mh f c i k xs).set i (f (k+cnL c (xs.take i)) xs[i]):=by
 have hl:(mkL f c k (xs.take i)).length=i:=by rw [jR,List.length_take];omega
 unfold mh
 rw [List.take_succ_eq_append_getElem h,qd,List.set_append_right _ _ (by omega),hl,Nat.sub_self,List.drop_eq_getElem_cons h,List.set_cons_zero,mkL,mkL,List.append_assoc]
 rfl
theorem wS {α:Type} (f:Int→α→α) (c:α→Nat) (i:Nat) (k:Int) (xs:List α) (h:i<xs.length) (h':i<(mkL f c k xs).length):(mkL f c k xs)[i]=f (k+cnL c (xs.take i)) xs[i]:=by
 have e:mkL f c k xs=mkL f c k (xs.take i)++(f (k+cnL c (xs.take i)) xs[i] :: mkL f c (k+cnL c (xs.take i)+c xs[i]) (xs.drop (i+1))):=by
  have:xs=xs.take i++xs[i] :: xs.drop (i+1):=by rw [← List.drop_eq_getElem_cons h,List.take_append_drop]
  conv=>lhs;rw [this,qd,mkL]
 have hl:(mkL f c k (xs.take i)).length=i:=by rw [jR,List.length_take];omega
 simp only [e]
 rw [List.getElem_append_right (by omega)]
 simp [hl]
theorem aR {α:Type} (c:α→Nat) (xs:List α) (i:Nat):cnL c (xs.take i)≤cnL c xs:=eM c xs i
theorem gR {α:Type} (c:α→Nat) (xs:List α):cnL c (xs.take xs.length)=cnL c xs:=by simp
def c1 {α:Type} (_:α):Nat:=1
def c2 {α:Type} (_:α):Nat:=2
def c3 {α:Type} (_:α):Nat:=3
theorem jz {α:Type} (xs:List α):cnL c1 xs=xs.length:=by
 induction xs with
 | nil=>rfl
 | cons x xs ih=>rw [kq,ih];simp [c1];omega
theorem Aj {α:Type} (xs:List α):cnL c2 xs=2 * xs.length:=by
 induction xs with
 | nil=>rfl
 | cons x xs ih=>rw [kq,ih];simp [c2];omega
theorem F7 {α:Type} (xs:List α):cnL c3 xs=3 * xs.length:=by
 induction xs with
 | nil=>rfl
 | cons x xs ih=>rw [kq,ih];simp [c3];omega
def jZ (n:Int):ByteArray:=if n≤0 then ⟨#[109,48]⟩ else ⟨#[109]⟩++te n
def mkI (k:Int) (_:Int):Int:=k
def mkS (k:Int) (_:ByteArray):ByteArray:=jZ k
def Ed (k:Int) (_:Ctl):Ctl:=⟨jZ k,k+1,k+1+1⟩
def sW (k:Int) (_:Wr):Wr:=⟨jZ k,k+1⟩
def cNd (n:Nd):Nat:=2+cnL c1 n.links
def nn (k:Int) (n:Nd):Nd:=⟨k,k+1,mkL mkI c1 (k+1+1) n.links⟩
def kz (b:Big):Nat:=cnL cNd b.nodes+cnL c1 b.sites+cnL c1 b.outer+cnL c2 b.inner
def jg (k:Int) (b:Big):Big:=⟨b.roots,mkL nn cNd k b.nodes,mkL mkI c1 (k+cnL cNd b.nodes) b.sites,b.edges,mkL mkS c1 (k+cnL cNd b.nodes+cnL c1 b.sites) b.outer,mkL sW c2 (k+cnL cNd b.nodes+cnL c1 b.sites+cnL c1 b.outer) b.inner⟩
def lU (b:Big):Nat:=kz b+2
def Dl (k:Int) (b:Big):Big:=⟨k,mkL nn cNd (k+1) b.nodes,mkL mkI c1 (k+1+cnL cNd b.nodes) b.sites,k+1+cnL cNd b.nodes+cnL c1 b.sites,mkL mkS c1 (k+1+cnL cNd b.nodes+cnL c1 b.sites+1) b.outer,mkL sW c2 (k+1+cnL cNd b.nodes+cnL c1 b.sites+1+cnL c1 b.outer) b.inner⟩
def AO (k:Int) (b:Big):Int:=k+1+cnL cNd b.nodes+cnL c1 b.sites+1+cnL c1 b.outer+cnL c2 b.inner
def eR (r:Rul):Nat:=lU r.redex+lU r.reactum+cnL c1 r.copies
def zU (k:Int) (r:Rul):Rul:=⟨Dl k r.redex,Dl (AO k r.redex) r.reactum,mkL mkI c1 (AO (AO k r.redex) r.reactum) r.copies⟩
theorem za {α:Type} (c d:α→Nat) (m:Nat) (hm:1≤m) (h:∀x,c x≤m+m * d x) (xs:List α):cnL c xs≤m * wtL d xs:=by
 induction xs with
 | nil=>simp [cnL]
 | cons x xs ih=>
  have:=h x
  rw [kq,vS,Nat.mul_add,Nat.mul_add]
  omega
theorem FE (n:Nd):cNd n≤2+2 * i6 n:=by unfold cNd i6;rw [jz];omega
theorem fC {α:Type} (f:α→Nat) (l:List α):l.length≤wtL f l:=by unfold wtL;omega
theorem uJ (b:Big):kz b≤2 * cR b:=by
 have h1:=za cNd i6 2 (by omega) FE b.nodes
 have h2:=fC gB b.outer
 have h3:=fC kF b.inner
 have e:cR b=wtL i6 b.nodes+b.sites.length+wtL gB b.outer+wtL kF b.inner:=rfl
 unfold kz
 rw [e,jz,jz,Aj]
 omega
theorem Cs (r:Rul):eR r≤4+4 * dw r:=by
 have h1:=uJ r.redex
 have h2:=uJ r.reactum
 have e:dw r=cR r.redex+cR r.reactum+r.copies.length:=rfl
 unfold eR lU
 rw [jz]
 omega
theorem Aa (n:Int) (h0:0≤n) (h1:n≤1000000000):(jZ n).size≤maxLen:=by
 unfold jZ
 split
 ·decide
 ·rw [ByteArray.size_append]
  have:=wO n (by omega) (by omega)
  have e:(⟨#[109]⟩:ByteArray).size=1:=rfl
  unfold maxLen
  omega
end Go.Proofs.YtclpbhoekmecjaaGreatDoor
namespace Go.Proofs.YtclpbhoekmecjaaGreatDoor
open Go.RowKit
set_option linter.unusedVariables false
set_option linter.unusedSimpArgs false
structure Lg where
 durable:ByteArray
 pending:ByteArray
 count:Int
structure Cns where
 run:Rnt
 log:Lg
def LgP:Lie Lg:=fun _ _ _ cs x=>cs = [.string x.durable,.string x.pending,.int .i64 x.count]∧x.durable.size≤maxLen∧x.pending.size≤maxLen∧I64 x.count
def Hh:Lie Cns:=fun lo hi w cs x=>∃c1 c2,cs=c1++c2∧GE lo hi w c1 x.run∧LgP lo hi w c2 x.log
def Hn:Lie Cns:=fun lo hi w cs x=>∃c1 c2,cs=c1++c2∧Fu lo hi w c1 x.run∧LgP lo hi w c2 x.log
theorem LgP.keeps:eF LgP:=fun _ _ _ _ _ _ _ h=>h
theorem LgP.keepsO:cT LgP:=LgP.keeps.toO
theorem LgP.widens:eJ LgP:=fun _ _ _ _ _ _ _ _ _ h=>h
theorem Hh.keeps:eF Hh:=by
 rintro lo hi w w' cs x hs ⟨c1,c2,rfl,a,b⟩
 exact ⟨c1,c2,rfl,GE.keeps _ _ _ _ _ _ hs a,b⟩
theorem Hn.keepsO:cT Hn:=by
 rintro lo hi w w' cs x hz hs ⟨c1,c2,rfl,a,b⟩
 exact ⟨c1,c2,rfl,Fu.keepsO _ _ _ _ _ _ hz hs a,b⟩
end Go.Proofs.YtclpbhoekmecjaaGreatDoor
namespace Go.Proofs.YtclpbhoekmecjaaGreatDoor
open Go.RowKit Go.ChangeShapes Go.WideShapes
set_option linter.unusedVariables false
set_option linter.unusedSimpArgs false
section
variable {H:Type} {enc:TypeId × Value→H} {P:Program} {w:World}
def fx {H:Type} (enc:TypeId × Value→H) (P:Program) (w:World) (t:TypeId) {α:Type} (L:Lie α):Prop:=
 ∀fuel cs x,DataW.trod enc P w 0 (fun _=>true) true fuel t cs=some x→∃d,L 0 w.heap.size w cs d
theorem ta (b o i:Nat):(⟨b,o,none⟩:Addr).add i=⟨b,o+i,none⟩:=by
 unfold Addr.add
 split <;> simp_all
theorem Ar {t:TypeId} (ht:P.underlying t=some (.int .i64)):fx enc P w t bS:=by
 intro fuel cs x h
 obtain ⟨n,rfl,_,hw⟩:=DataW.trod_int ht h
 exact ⟨n,rfl,bounds_i64 hw⟩
theorem sB {t:TypeId} (ht:P.underlying t=some .string):fx enc P w t dv:=by
 intro fuel cs x h
 obtain ⟨s,rfl,_,hw⟩:=DataW.trod_string ht h
 exact ⟨s,rfl,hw⟩
theorem eU {t e:TypeId} {α:Type} {L:Lie α} {size:Nat} (ht:P.underlying t=some (.slice e)) (hc:P.cellsOf e=size) (hp:0<size) (he:fx enc P w e L) :
 ∀fuel cs x,DataW.trod enc P w 0 (fun _=>true) true fuel t cs=some x→∃v xs,cs = [v]∧SlV size L 0 w.heap.size w v xs:=by
 intro fuel cs x h
 rcases DataW.trod_slice ht h with ⟨rfl,_⟩|⟨a,len,cap,elems,rest,n,_,rfl,rfl,hb,hl,hm,hlen,hel,_,_⟩
 ·exact ⟨_,[],rfl,none,0,rfl,by simp,Nat.zero_le _,fun _=>rfl,.inl rfl⟩
 ·have each:∀i:Fin len,∃y:List Value × α,w.cells? 0 (a.add (i.1 * size)) size=some y.1∧L 0 w.heap.size w y.1 y.2:=by
   intro ⟨i,hi⟩
   have h1:=hel i hi
   rw [List.getElem?_eq_getElem (by omega),Option.bind_eq_some_iff] at h1
   obtain ⟨c,hc1,hc2⟩:=h1
   rw [hc] at hc1
   obtain ⟨d,hd⟩:=he _ _ _ hc2
   exact ⟨(c,d),hc1,hd⟩
  obtain ⟨f,hf⟩:=Classical.axiomOfChoice each
  refine ⟨_,List.ofFn (fun i=>(f i).2),rfl,some a,cap,by simp,by simpa using hl,hm,fun h=>(nomatch h),?_⟩
  by_cases h0:len=0
  ·exact .inl (by subst h0;simp)
  ·obtain ⟨b,off,s⟩:=a
   obtain ⟨_,hl0,hg0⟩:=World.cells?_some (hf ⟨0,by omega⟩).1
   have hc0:=hg0 0 hp
   rw [List.getElem?_eq_getElem (by omega)] at hc0
   obtain rfl:s=none:=by simpa [Addr.add] using World.cell?_spot hc0
   refine .inr ⟨b,off,rfl,Nat.zero_le _,by simpa [Addr.add] using World.block_lt_of_cell? _ _ hc0,fun i hi=>?_⟩
   have hi':i<len:=by simpa using hi
   obtain ⟨_,hl1,hg1⟩:=World.cells?_some (hf ⟨i,hi'⟩).1
   refine ⟨(f ⟨i,hi'⟩).1,hl1,by simpa using (hf ⟨i,hi'⟩).2,fun j u hu=>?_⟩
   have hj:j<size:=by rw [← hl1];exact (List.getElem?_eq_some_iff.1 hu).1
   have:=hg1 j hj
   rw [hu,ta,ta] at this
   exact this
theorem eT {t:TypeId} {fs:Array Field} {fuel:Nat} {cs:List Value} {x:DataW H × List MemPlace} (hs:P.underlying t=some (.struct fs)) (h:DataW.trod enc P w 0 (fun _=>true) true fuel t cs=some x) :
 cs.length=P.cellsOf t∧∃n,∀(i:Nat) (f:Field),fs[i]? = some f→∃y,DataW.trod enc P w 0 (fun _=>true) true n f.type ((cs.drop f.offset).take (P.cellsOf f.type))=some y:=by
 obtain ⟨xs,n,_,_,hl,hlen,hf⟩:=DataW.trod_struct hs h
 refine ⟨hl,n,fun i f hi=>?_⟩
 have hlt:i<xs.length:=by rw [hlen];exact (Array.getElem?_eq_some_iff.1 hi).1
 exact ⟨xs[i],by rw [hf i f hi,List.getElem?_eq_getElem hlt]⟩
end
theorem Eo {α:Type} {cs:List α} (h:cs.length=2):∃a b,cs = [a,b]:=by
 match cs,h with
 | [a,b],_=>exact ⟨a,b,rfl⟩
theorem Fv {α:Type} {cs:List α} (h:cs.length=3):∃a b c,cs = [a,b,c]:=by
 match cs,h with
 | [a,b,c],_=>exact ⟨a,b,c,rfl⟩
theorem GO {α:Type} {cs:List α} (h:cs.length=6):∃a b c d e f,cs = [a,b,c,d,e,f]:=by
 match cs,h with
 | [a,b,c,d,e,f],_=>exact ⟨a,b,c,d,e,f,rfl⟩
theorem FH {α:Type} {cs:List α} (h:cs.length=13):∃a0 a1 a2 a3 a4 a5 a6 a7 a8 a9 a10 a11 a12,cs = [a0,a1,a2,a3,a4,a5,a6,a7,a8,a9,a10,a11,a12]:=by
 match cs,h with
 | [a0,a1,a2,a3,a4,a5,a6,a7,a8,a9,a10,a11,a12],_=>exact ⟨a0,a1,a2,a3,a4,a5,a6,a7,a8,a9,a10,a11,a12,rfl⟩
end Go.Proofs.YtclpbhoekmecjaaGreatDoor
namespace Go.Proofs.YtclpbhoekmecjaaGreatDoor
open Go.RowKit
set_option linter.unusedVariables false
set_option linter.unusedSimpArgs false
def GZ (w:World) (g:Nat) (s:ByteArray):Prop:=∀j (h:j<s.data.size),w.cell? ⟨g,j,none⟩=some (.int .u8 (s.data[j].toNat:Int))
theorem yU {P:Program} {w:World} {g:Nat} {s:ByteArray} (h:GZ w g s) (src dst e:TypeId) (cap:Nat) (hs:P.underlying src=some (.slice e)) (he:P.underlying e=some (.int .u8)) (hd:P.underlying dst=some .string) :
 (convert src dst (.slice (some ⟨g,0,none⟩) s.size cap)).run P w=.ok (.string s) w:=by
 have hl:s.size=s.data.toList.length:=by simp
 rw [hl,run_convert_bytes_back w src dst e ⟨g,0,none⟩ cap s.data.toList hs he hd]
 intro j hj
 have e1:((⟨g,0,none⟩:Addr).add j)=⟨g,j,none⟩:=by cases j <;> simp [Addr.add]
 rw [e1,h j (by simpa using hj)]
 simp
theorem vM {P:Program} {w:World} {ops:Array Oper} {rest:List Oper} {o:Oper} {a:Act} {Q:Exit→Act→World→Prop} (hgd:o.guard=none) (src dst e:TypeId) (x:Operand)
 (ho:o.op=.convert src dst x) {g:Nat} {s:ByteArray} (hl:GZ w g s) (n cap:Nat) (hn:s.size=n) (hx:a.eval x=.slice (some ⟨g,0,none⟩) n cap) (hs:P.underlying src=some (.slice e)) (he:P.underlying e=some (.int .u8)) (hd:P.underlying dst=some .string)
 (h:wpList P ops Q rest (a.put o.dst (.string s)) w):wpList P ops Q (o :: rest) a w:=by
 subst hn
 refine wpList_plain hgd fun K hK=>?_
 unfold Oper.wp execOp
 simp only [ho,hx,Sem.run_bind,yU hl src dst e cap hs he hd,Result.andThen_ok,Sem.run_pure]
 exact hK _ _ h
end Go.Proofs.YtclpbhoekmecjaaGreatDoor
namespace Go.Proofs.YtclpbhoekmecjaaGreatDoor
open Go.RowKit
set_option linter.unusedVariables false
set_option linter.unusedSimpArgs false
theorem eF.ofFlat {α:Type} {P:Lie α} (h:yE P):eF P:=fun _ _ _ _ _ _ _ hp=>h _ _ _ _ _ _ _ _ hp
def tR {α:Type} (size:Nat) (P:Lie α) (e:TypeId) (base m:Nat) (w:World) (v:Value) (xs:List α):Prop:=
 ∃cells,∃f:Nat→Nat × Nat,w.ownsRow base e size v xs.length cells∧m≤w.heap.size∧(∀i j,i<j→j<xs.length→(f i).2≤(f j).1) ∧
  ∀i (h:i<xs.length),∃ds,ds.length=size∧base≤(f i).1∧(f i).2≤m∧(∀g,v.ownBlock=some g→g<(f i).1∨(f i).2≤g)∧P (f i).1 (f i).2 w ds xs[i]∧∀t y,ds[t]? = some y→cells[i * size+t]? = some y
theorem tR.nil {α:Type} {size:Nat} {P:Lie α} {e:TypeId} {base m:Nat} {w:World} (hm:m≤w.heap.size):tR size P e base m w (.slice none 0 0) []:=
 ⟨[],fun _=>(0,0),⟨by simp,.inl ⟨rfl,rfl⟩⟩,hm,fun _ _ _ h=>absurd h (Nat.not_lt_zero _),fun i h=>absurd h (Nat.not_lt_zero _)⟩
theorem tR.made {α:Type} {size:Nat} {P:Lie α} {e:TypeId} {base m:Nat} {w:World} (hb:base≤w.heap.size) (hm:m≤w.heap.size):tR size P e base m (w.alloc (.cells #[] e)) (.slice (some ⟨w.heap.size,0,none⟩) 0 0) []:=
 ⟨[],fun _=>(0,0),World.ownsRow_made w #[] 0 hb (by decide) (by simp),by simp;omega,fun _ _ _ h=>absurd h (Nat.not_lt_zero _),fun i h=>absurd h (Nat.not_lt_zero _)⟩
theorem tR.ext {α:Type} {size:Nat} {P:Lie α} (hP:cT P) {e:TypeId} {base m:Nat} {w w':World} {v:Value} {xs:List α} (h:tR size P e base m w v xs) (hx:Ext w w'):tR size P e base m w' v xs:=by
 obtain ⟨cells,f,own,hm,hf,hel⟩:=h
 refine ⟨cells,f,nU own hx,Nat.le_trans hm (Below.size hx),hf,fun i hi=>?_⟩
 obtain ⟨ds,d1,d2,d3,d4,d5,d6⟩:=hel i hi
 exact ⟨ds,d1,d2,d3,d4,hP.ext d5 hx,d6⟩
theorem tR.block {α:Type} {size:Nat} {P:Lie α} {e:TypeId} {base m:Nat} {w:World} {v:Value} {xs:List α} (h:tR size P e base m w v xs):∀g,v.ownBlock=some g→base≤g∧g<w.heap.size:=by
 obtain ⟨cells,f,own,hel⟩:=h
 exact own.lt
theorem tR.snoc {α:Type} {size:Nat} {P:Lie α} (hP:cT P) {e:TypeId} {base m:Nat} {w w':World} {v v':Value} {xs:List α} {x:α} {ds:List Value} {l u:Nat} (h:tR size P e base m w v xs) (hd:ds.length=size) (hml:m≤l) (hl:base≤l) (hlu:l≤u) (hu:u≤w.heap.size) (hs:∀g,v.ownBlock=some g→g<l∨u≤g) (hx:P l u w ds x)
 (hr:∀cells,w.ownsRow base e size v xs.length cells→w'.ownsRow base e size v' (xs.length+1) (cells++ds)) (hg:w.grownBy w' v.ownBlock) (hb:v'.ownBlock=v.ownBlock∨v'.ownBlock=some w.heap.size):tR size P e base u w' v' (xs++[x]):=by
 obtain ⟨cells,f,own,hm,hf,hel⟩:=h
 have hk:∀l u,(∀g,v.ownBlock=some g→g<l∨u≤g)→bV l u w w':=fun l u hh b h1 h2 h3=>hg.block b h3 (fun e=>by have:=hh b e.symm;omega)
 have hv':∀l u,u≤w.heap.size→(∀g,v.ownBlock=some g→g<l∨u≤g)→∀g,v'.ownBlock=some g→g<l∨u≤g:=by
  intro l u hh hs g hg'
  rcases hb with hb|hb
  ·exact hs g (by rw [← hb];exact hg')
  ·rw [hb] at hg';cases hg';exact .inr hh
 refine ⟨cells++ds,fun i=>if i<xs.length then f i else (l,u),by rw [List.length_append];exact hr cells own,Nat.le_trans hu hg.size,fun i j h1 h2=>?_,fun i hi=>?_⟩
 ·have h2':j<xs.length+1:=by simpa using h2
  by_cases hj:j<xs.length
  ·simp only [if_pos hj,if_pos (show i<xs.length by omega)];exact hf i j h1 hj
  ·simp only [if_neg hj,if_pos (show i<xs.length by omega)]
   obtain ⟨_,_,_,d3,_⟩:=hel i (by omega)
   show (f i).2≤l
   omega
 ·by_cases hlt:i<xs.length
  ·simp only [if_pos hlt]
   obtain ⟨es,d1,d2,d3,d4,d5,d6⟩:=hel i hlt
   refine ⟨es,d1,d2,by omega,hv' _ _ (by omega) d4,?_,fun t y ht=>?_⟩
   ·rw [List.getElem_append_left hlt];exact hP _ _ _ _ _ _ hg.size (hk _ _ d4) d5
   ·have:=d6 t y ht
    rw [List.getElem?_append_left (by
     rcases Nat.lt_or_ge (i * size+t) cells.length with hh|hh
     ·exact hh
     ·rw [List.getElem?_eq_none hh] at this;cases this)]
    exact this
  ·have ei:i=xs.length:=by simp at hi;omega
   subst ei
   simp only [if_neg (Nat.lt_irrefl _)]
   refine ⟨ds,hd,hl,Nat.le_refl _,hv' l u hu hs,?_,fun t y ht=>?_⟩
   ·rw [List.getElem_append_right (Nat.le_refl _)];simp only [Nat.sub_self,List.getElem_cons_zero];exact hP _ _ _ _ _ _ hg.size (hk l u hs) hx
   ·rw [List.getElem?_append_right (by rw [own.1];omega),own.1,show xs.length * size+t - xs.length * size=t by omega];exact ht
theorem tR.set {α:Type} {size:Nat} {P:Lie α} (hP:cT P) {e:TypeId} {base m B o:Nat} {u:Value} {w:World} {v:Value} {xs:List α} (h:tR size P e base m w v xs) (hB:B<base):tR size P e base m (w.setCell ⟨B,o,none⟩ u) v xs:=by
 obtain ⟨cells,f,own,hm,hf,hel⟩:=h
 have hg:=bO (w:=w) B o u
 refine ⟨cells,f,⟨own.1,?_⟩,by simpa using hm,hf,fun i hi=>?_⟩
 ·rcases own.2 with hn|⟨g,cap,cur,rfl,h1,h2,h3⟩
  ·exact .inl hn
  ·refine .inr ⟨g,cap,cur,rfl,h1,?_,h3⟩
   have hl:g<w.heap.size:=by
    by_cases hh:g<w.heap.size
    ·exact hh
    ·rw [Array.getElem?_eq_none (by omega)] at h2;cases h2
   rw [hg.block g hl (by simp;omega)];exact h2
 ·obtain ⟨ds,d1,d2,d3,d4,d5,d6⟩:=hel i hi
  exact ⟨ds,d1,d2,d3,d4,hP.set d5 (.inl (by omega)),d6⟩
theorem SlO.grown {α:Type} {P:Lie α} (hP:cT P) {size lo hi:Nat} {w w':World} {v:Value} {xs:List α} {r:Option Nat} (h:SlO size P lo hi w v xs) (hg:w.grownBy w' r) (hr:∀g,r=some g→g<lo∨hi≤g):SlO size P lo hi w' v xs:=
 h.keepsO hP hg.size (fun b h1 h2 h3=>hg.block b h3 (fun e=>by have:=hr b e.symm;omega))
theorem cT.grown {α:Type} {P:Lie α} (hP:cT P) {lo hi:Nat} {w w':World} {cs:List Value} {x:α} {r:Option Nat} (h:P lo hi w cs x) (hg:w.grownBy w' r) (hr:∀g,r=some g→g<lo∨hi≤g):P lo hi w' cs x:=
 hP _ _ _ _ _ _ hg.size (fun b h1 h2 h3=>hg.block b h3 (fun e=>by have:=hr b e.symm;omega)) h
theorem dj.grown {w w':World} {B:Nat} {cs:List Value} {r:Option Nat} (h:dj w B cs) (hg:w.grownBy w' r) (hr:∀g,r=some g→g≠B):dj w' B cs:=by
 intro j u hj
 obtain ⟨h1,h2⟩:=h j u hj
 have hb:=hg.block B (World.block_lt_of_cell? w ⟨B,j,none⟩ h1) (fun e=>hr B e.symm rfl)
 exact ⟨(World.cell?_of_block hb).trans h1,(World.frozen?_of_block hb).trans h2⟩
variable {P:Program} {w:World}
end Go.Proofs.YtclpbhoekmecjaaGreatDoor
namespace Go.Proofs.YtclpbhoekmecjaaGreatDoor
open Go.RowKit
set_option linter.unusedVariables false
set_option linter.unusedSimpArgs false
section
variable {P:Program} {ops:Array Oper} {Q:Exit→Act→World→Prop} {md:Region.Mode} {S:World→Prop}
def pD (md:Region.Mode) (ops:Array Oper) (listed:Array Bool):Prop:=
 ∀k ok,ops[k]? = some ok→listed.getD k false=true→∀e∈ok.after,Region.binds md e=true→listed.getD e.on false=true
theorem sX {listed:Array Bool} {i:Nat} (h:listed.getD i true=false):listed.getD i false=false:=by
 rcases Nat.lt_or_ge i listed.size with h'|h'
 ·simp [h'] at h ⊢;exact h
 ·simp [Array.getElem?_eq_none h'] at h
theorem pd {listed:Array Bool} {i j:Nat} (h:(listed.setIfInBounds i true).getD j false=true):j=i∨listed.getD j false=true:=by
 by_cases hij:i=j
 ·exact .inl hij.symm
 ·rw [getD_set_ne false hij] at h;exact .inr h
theorem nV {listed:Array Bool} {i j:Nat} (h:listed.getD j false=true):(listed.setIfInBounds i true).getD j false=true:=by
 by_cases hij:i=j
 ·subst hij
  rcases Nat.lt_or_ge i listed.size with h'|h'
  ·simp [h']
  ·simp [Array.getElem?_eq_none h'] at h
 ·rw [getD_set_ne false hij];exact h
theorem pD.set {listed:Array Bool} {j:Nat} (h:pD md ops listed) (hj:j∈Region.ready md ops listed):pD md ops (listed.setIfInBounds j true):=by
 intro k ok hk hl e he hb
 refine nV ?_
 rcases pd hl with rfl|hl
 ·obtain ⟨_,o,ho,hall⟩:=mem_ready.1 hj
  rw [hk] at ho;cases ho
  exact hall e he hb
 ·exact h k ok hk hl e he hb
def lR (md:Region.Mode) (ops:Array Oper):Nat→Nat→Nat→Bool
 | 0,_,_=>false
 | f+1,j,i=>match ops[j]? with|none=>false|some o=>o.after.any (fun e=>Region.binds md e && (e.on == i || lR md ops f e.on i))
theorem ni {listed:Array Bool} {i:Nat} (hC:pD md ops listed):∀(f j:Nat) (oj:Oper),ops[j]? = some oj→(∀e∈oj.after,Region.binds md e=true→listed.getD e.on false=true)→lR md ops f j i=true→listed.getD i false=true:=by
 intro f
 induction f with
 | zero=>intro j oj _ _ h;cases h
 | succ f ih=>
  intro j oj hj hall h
  unfold lR at h
  rw [hj] at h
  dsimp only at h
  obtain ⟨k,hk,hb⟩:=Array.any_eq_true.1 h
  simp only [Bool.and_eq_true,Bool.or_eq_true,beq_iff_eq] at hb
  have hm:=Array.getElem_mem hk
  obtain ⟨hb1,hb2⟩:=hb
  have hl:=hall _ hm hb1
  rcases hb2 with hb2|hb2
  ·rw [← hb2];exact hl
  ·cases ho:ops[(oj.after[k]).on]? with
   | none=>
    cases f with
    | zero=>cases hb2
    | succ f=>unfold lR at hb2;rw [ho] at hb2;cases hb2
   | some o2=>exact ih _ o2 ho (hC _ o2 ho hl) hb2
def uw (P:Program) (md:Region.Mode) (ops:Array Oper) (Q:Exit→Act→World→Prop) (S:World→Prop) (L:Nat):Nat→Array Bool→Act→World→Prop
 | 0,listed,a,w=>Region.ready md ops listed = []∧Q .normal a w
 | n+1,listed,a,w=>pD md ops listed→(Region.ready md ops listed = []→Q .normal a w) ∧
  ∀i∈Region.ready md ops listed,wpOp P ops Q i (fun a' w'=>(L≤i∧wpAny P md ops Q n (listed.setIfInBounds i true) a' w')∨(i<L∧S w'∧uw P md ops Q S L n (listed.setIfInBounds i true) a' w')) a w
def jF (P:Program) (md:Region.Mode) (ops:Array Oper) (Q:Exit→Act→World→Prop) (S:World→Prop) (L fuel:Nat) (listed:Array Bool) (a:Act) (w:World) (rs:List Nat):Prop:=
 ∀i∈rs,i<L∧wpOp P ops Q i (fun a' w'=>S w'∧uw P md ops Q S L fuel (listed.setIfInBounds i true) a' w') a w
theorem jF.nil {L fuel:Nat} {listed:Array Bool} {a:Act} {w:World}:jF P md ops Q S L fuel listed a w []:=fun _ h=>by cases h
theorem jF.cons {L fuel:Nat} {listed:Array Bool} {a:Act} {w:World} {i:Nat} {o:Oper} {rs:List Nat} (ho:ops[i]? = some o) (hiL:i<L)
 (h:∀K':Act→World→Prop,Shut (∀a w,S w→(S w→uw P md ops Q S L fuel (listed.setIfInBounds i true) a w)→K' a w)→if Region.wanted o (yielded ops a.tmps)=true then Oper.wp P o a w K' Q else K' (a.put o.dst undef) w)
 (hs:jF P md ops Q S L fuel listed a w rs):jF P md ops Q S L fuel listed a w (i :: rs):=fun j hj=>by
 rcases List.mem_cons.1 hj with rfl|hj
 ·exact ⟨hiL,wpOp_step ho (fun K' hK=>h K' (fun a w hS hW=>hK a w ⟨hS,hW hS⟩))⟩
 ·exact hs j hj
def Dm (md:Region.Mode) (ops:Array Oper):Array Bool→List Nat→Bool
 | listed,[]=>(Region.ready md ops listed).isEmpty
 | listed,i :: l=>(Region.ready md ops listed == [i]) && Dm md ops (listed.setIfInBounds i true) l
theorem dj.drew {w:World} {B:Nat} {cs:List Value} (h:dj w B cs):dj w.drew B cs:=h
end
end Go.Proofs.YtclpbhoekmecjaaGreatDoor
namespace Go.Proofs.YtclpbhoekmecjaaGreatDoor
open Go.RowKit
set_option linter.unusedVariables false
set_option linter.unusedSimpArgs false
theorem jt (b:Nat):∀(vs:List Value) (w:World) (o:Nat),w.setCells b o vs=rJ w b o vs:=by
 intro vs
 induction vs with
 | nil=>intro w o;rfl
 | cons v vs ih=>intro w o;exact ih _ _
theorem pX (ds:List Value):∀(w:World) (b k:Nat),w.grownBy (rJ w b k ds) (some b):=by
 induction ds with
 | nil=>intro w b k;exact ke _ _
 | cons d ds ih=>intro w b k;exact lM (bO b k d) (ih _ b (k+1))
theorem dj.put {k B:Nat} {ds:List Value} {w:World} {cs:List Value} (h:dj w B cs):dj (rJ w B k ds) B (ka cs k ds):=by
 induction ds generalizing w k cs with
 | nil=>exact h
 | cons d ds ih=>exact ih (h.set k d)
variable {P:Program}
theorem mr {w:World} {B:Nat} {old:List Value} (hb:dj w B old) (o:Nat) (cs:List Value) (hl:o+cs.length≤old.length) (ty:TypeId) (hi:(P.info? ty).map (·.size)=some cs.length) (h1:cs.all (·.oneCell')=true) :
 ∃w',(Instr.storeAt ty (.pointer (some ⟨B,o,none⟩)) (.agg cs.toArray)).run P w=.ok () w'∧dj w' B (ka old o cs)∧w.grownBy w' (some B)∧w'.heap.size=w.heap.size:=by
 refine ⟨rJ w B o cs,?_,hb.put,pX cs w B o,iK _ _ _ _⟩
 rw [run_storeAt_mid w B o ty cs.toArray (fun j hj=>?_) (by simpa using hi) (all_oneCell_toArray (by simpa using h1)),jt]
 have hj':o+j<old.length:=by simp at hj;omega
 obtain ⟨h2,h3⟩:=hb (o+j) _ (List.getElem?_eq_getElem hj')
 exact ⟨by rw [h2];rfl,h3⟩
end Go.Proofs.YtclpbhoekmecjaaGreatDoor
namespace Go.Proofs.YtclpbhoekmecjaaGreatDoor
open Go.RowKit
set_option linter.unusedVariables false
set_option linter.unusedSimpArgs false
structure Ob where
 eff:Bool
 c:(Nat→Value)→Value
 R:Value→Nat→Nat→World→Prop
def Ob.val (o:Ob) (k:Nat) (vs:Nat→Value):Value:=if o.eff then vs k else o.c vs
def obP (c:(Nat→Value)→Value):Ob:=⟨false,c,fun _ _ _ _=>True⟩
def obE (R:Value→Nat→Nat→World→Prop):Ob:=⟨true,fun _=>undef,R⟩
def Bu (D:List Ob) (k:Nat):Ob:=D.getD k (obP fun _=>undef)
section
variable {P:Program} {md:Region.Mode} {ops:Array Oper} {Q:Exit→Act→World→Prop}
def CS (W:World) (L:Nat) (D:List Ob) (vs:Nat→Value) (l u:Nat→Nat) (w:World):Prop:=
 Ext W w∧(∀j,j<L→(Bu D j).eff=true→(Bu D j).R (vs j) (l j) (u j) w∧(W.heap.size≤l j∧l j≤u j∧u j≤w.heap.size)) ∧
  ∀i j,i<L→j<L→i≠j→(Bu D i).eff=true→(Bu D j).eff=true→Off (l i,u i) (l j,u j)
structure Ib (md:Region.Mode) (ops:Array Oper) (L:Nat) (fs tail:List Nat):Prop where
 sel:∀(j:Nat) (o:Oper) cs b,ops[j]? = some o→o.op≠.select cs b
 len:L+tail.length≤ops.size
 down:∀k o,ops[k]? = some o→∀e∈o.after,Region.binds md e=true→e.on<k
 au:∀k o,k<L→ops[k]? = some o→∀t∈o.looksAt ops,∀j oj,j<L→ops[j]? = some oj→oj.dst=some t→∃e∈o.after,Region.binds md e=true∧e.on=j
 dsts:∀k o,k<L→ops[k]? = some o→∀j oj d,j<k→ops[j]? = some oj→oj.dst=some d→o.dst≠some d
 till:∀k o,L≤k→ops[k]? = some o→∀i,i<L→i ∉ fs→lR md ops ops.size k i=true
 loose:∀f∈fs,f<L∧∃o t ix,ops[f]? = some o∧o.op=.extract t ix∧∀j oj,f<j→ops[j]? = some oj→(∀e∈oj.after,Region.binds md e=true→e.on≠f)→o.apart ops oj=true
 chain:Dm md ops ((List.range L).foldl (fun a k=>a.setIfInBounds k true) (Array.replicate ops.size false)) tail=true
structure Rep (ops:Array Oper) (L:Nat) (a0:Act) (V:Nat→Value) (p:Nat→Prop) (a:Act):Prop where
 def':a.defers=a0.defers
 size:a.tmps.size=a0.tmps.size
 out:∀t,(∀k o,k<L→ops[k]? = some o→p k→o.dst≠some t)→a.tmps[t]? = a0.tmps[t]?
 at':∀k o t,k<L→ops[k]? = some o→p k→o.dst=some t→t<a0.tmps.size→a.tmps[t]? = some (V k)
variable {L:Nat} {a0:Act} {V:Nat→Value}
theorem Rep.zero:Rep ops L a0 V (fun _=>False) a0:=⟨rfl,rfl,fun _ _=>rfl,fun _ _ _ _ _ h=>h.elim⟩
theorem iH (a:Act) (d:Option Tmp) (v:Value):(a.put d v).defers=a.defers:=by cases d <;> rfl
theorem BC (a:Act) (d:Option Tmp) (v:Value):(a.put d v).tmps.size=a.tmps.size:=by cases d <;> simp [Act.put]
theorem Rep.put {fs tail:List Nat} (hF:Ib md ops L fs tail) {p:Nat→Prop} {a:Act} (h:Rep ops L a0 V p a) {k:Nat} {o:Oper} (hk:k<L) (ho:ops[k]? = some o) (hn:¬p k):Rep ops L a0 V (fun j=>p j∨j=k) (a.put o.dst (V k)):=by
 have hd:∀j oj d,j<L→ops[j]? = some oj→j≠k→oj.dst=some d→o.dst≠some d:=by
  intro j oj d hj hoj hne hjd hod
  rcases Nat.lt_or_ge j k with h'|h'
  ·exact hF.dsts k o hk ho j oj d h' hoj hjd hod
  ·exact hF.dsts j oj hj hoj k o d (by omega) ho hod hjd
 refine ⟨(iH _ _ _).trans h.def',(BC _ _ _).trans h.size,fun t ht=>?_,fun j oj t hj hoj hp hjt hlt=>?_⟩
 ·have h1:=h.out t (fun j oj hj hoj hp=>ht j oj hj hoj (.inl hp))
  have h2:=ht k o hk ho (.inr rfl)
  cases hod:o.dst with
  | none=>exact h1
  | some d=>
   have hne:d≠t:=fun e=>h2 (by rw [hod,e])
   simp only [Act.put,Array.getElem?_setIfInBounds_ne hne]
   exact h1
 ·by_cases hjk:j=k
  ·subst hjk
   rw [ho] at hoj;cases hoj
   rw [hjt]
   simp only [Act.put]
   rw [Array.getElem?_setIfInBounds_self_of_lt (by rw [h.size];exact hlt)]
  ·have hp':p j:=hp.resolve_right hjk
   have h1:=h.at' j oj t hj hoj hp' hjt hlt
   cases hod:o.dst with
   | none=>exact h1
   | some d=>
    have hne:d≠t:=fun e=>hd j oj t hj hoj hjk hjt (by rw [hod,e])
    simp only [Act.put,Array.getElem?_setIfInBounds_ne hne]
    exact h1
theorem qz {a b:Act} (h1:a.defers=b.defers) (h2:∀t:Nat,a.tmps[t]? = b.tmps[t]?):a=b:=by
 obtain ⟨x,y⟩:=a
 obtain ⟨x',y'⟩:=b
 have h3:x=x':=Array.ext_getElem? h2
 have h4:y=y':=h1
 rw [h3,h4]
theorem tn {listed:Array Bool} {i j:Nat} (hi:i<listed.size):(listed.setIfInBounds i true).getD j false=true↔(listed.getD j false=true∨j=i):=by
 constructor
 ·intro h
  exact (pd h).symm
 ·rintro (h|rfl)
  ·exact nV h
  ·simp [hi]
end
end Go.Proofs.YtclpbhoekmecjaaGreatDoor
namespace Go.Proofs.YtclpbhoekmecjaaGreatDoor
open Go.RowKit
set_option linter.unusedVariables false
set_option linter.unusedSimpArgs false
def Kn (W:World) (p:World→Prop):Prop:=∀w,Ext W w→p w
theorem Kn.at {W w:World} {p:World→Prop} (h:Kn W p) (hx:Ext W w):p w:=h w hx
theorem Kn.cell {W:World} {q:Addr} {v:Value} {p:World→Prop} (k:Kn W p) (h:W.cell? q=some v):Kn W (fun w=>w.cell? q=some v∧p w):=fun w hx=>⟨hx.keep h,k w hx⟩
theorem yE.keepsO {α:Type} {P:Lie α} (h:yE P):cT P:=(eF.ofFlat h).toO
theorem yE.keeps {α:Type} {P:Lie α} (h:yE P):eF P:=eF.ofFlat h
section
variable {P:Program} {w:World}
end
def FS (md:Region.Mode) (ops:Array Oper) (D:List Ob) (k:Nat) (vs:Nat→Value) (l u:Nat→Nat) (w:World):Prop:=∀j,j<k→lR md ops ops.size k j=true→(Bu D j).eff=true→(Bu D j).R (vs j) (l j) (u j) w
theorem FS.at {md:Region.Mode} {ops:Array Oper} {D:List Ob} {k:Nat} {vs:Nat→Value} {l u:Nat→Nat} {w:World} (h:FS md ops D k vs l u w) (j:Nat) {R:Value→Nat→Nat→World→Prop} (hj:Bu D j=obE R:=by (simp only [Bu,List.nil_append,List.cons_append,List.getD_cons_succ,List.getD_cons_zero] <;> rfl)) (hl:j<k:=by decide) (hr:lR md ops ops.size k j=true:=by kernel_rfl):R (vs j) (l j) (u j) w:=by
 have:=h j hl hr (by rw [hj];rfl)
 rw [hj] at this
 exact this
theorem CS.at {W:World} {L:Nat} {D:List Ob} {vs:Nat→Value} {l u:Nat→Nat} {w:World} (h:CS W L D vs l u w) (j:Nat) {R:Value→Nat→Nat→World→Prop} (hj:Bu D j=obE R:=by (simp only [Bu,List.nil_append,List.cons_append,List.getD_cons_succ,List.getD_cons_zero] <;> rfl)) (hl:j<L:=by decide):R (vs j) (l j) (u j) w∧W.heap.size≤l j∧l j≤u j∧u j≤w.heap.size:=by
 have:=h.2.1 j hl (by rw [hj];rfl)
 rw [hj] at this
 exact this
theorem CS.ext {W:World} {L:Nat} {D:List Ob} {vs:Nat→Value} {l u:Nat→Nat} {w:World} (h:CS W L D vs l u w):Ext W w:=h.1
section
variable {P:Program} {md:Region.Mode} {ops:Array Oper} {W:World} {Fin:List Ob→((Nat→Value)→Act)→Prop} {m:Nat} {D:List Ob} {A A':(Nat→Value)→Act} {o:Oper}
end
end Go.Proofs.YtclpbhoekmecjaaGreatDoor
namespace Go.Proofs.YtclpbhoekmecjaaGreatDoor
open Go.RowKit
set_option linter.unusedVariables false
set_option linter.unusedSimpArgs false
def FR {α:Type} (Pd:Lie α) (base lo hi:Nat) (w:World) (v:Value) (ys:List α):Prop:=
 ∀i (h:i<ys.length) ds,Pd lo hi w ds ys[i]→∃l u,base≤l∧u≤w.heap.size∧(∀g,v.ownBlock=some g→g<l∨u≤g)∧Pd l u w ds ys[i]
theorem FR.flat {α:Type} {size:Nat} {Pd:Lie α} (hF:yE Pd) {e:TypeId} {base lo hi:Nat} {w:World} {v:Value} {xs:List α} (ys:List α) (h:fd size Pd e base w v xs) (hb:base≤w.heap.size):FR Pd base lo hi w v ys:=
 fun i hi' ds hd=>⟨base,base,Nat.le_refl _,hb,fun g hg=>.inr (h.block g hg).1,hF _ _ _ _ _ _ _ _ hd⟩
variable {P:Program} {w:World}
end Go.Proofs.YtclpbhoekmecjaaGreatDoor
namespace Go.Proofs.YtclpbhoekmecjaaGreatDoor
open Go.RowKit
set_option linter.unusedVariables false
set_option linter.unusedSimpArgs false
inductive D where
 | i (n:Int)
 | s (b:ByteArray)
 | b (x:Bool)
 | l (z:Nat) (xs:List D)
 | t (xs:List D)
 | n (z:Nat)
 | p (d:D)
 | f (g:Nat) (ds:List D)
 | any
abbrev BS:=Nat→Prop
mutual
def Rp (w:World) (S:BS):D→List Value→Prop
 | .i n,cs=>cs = [.int .i64 n]∧I64 n
 | .s b,cs=>cs = [.string b]∧b.size≤maxLen
 | .b x,cs=>cs = [.bool x]
 | .l z xs,cs=>∃a k,cs = [.slice a xs.length k]∧xs.length≤k∧k≤maxLen∧(a=none→k=0)∧(xs = []∨∃b o,a=some ⟨b,o,none⟩∧S b∧RpR w S z b o xs)
 | .t ds,cs=>RpL w S ds cs
 | .n _,cs=>∃a,cs = [.slice a 0 0]
 | .p d,cs=>∃b o us,cs = [.pointer (some ⟨b,o,none⟩)]∧S b∧Rp w S d us∧bE w b o us
 | .f g ds,cs=>∃vs:List Value,cs = [.func (.func g) #[] vs.toArray]∧RpL w S ds vs
 | .any,cs=>∃v,cs = [v]∧v.oneCell'=true
def RpR (w:World) (S:BS) (z b:Nat) (o:Nat):List D→Prop
 | []=>True
 | d :: ds=>(∃cs,cs.length=z∧Rp w S d cs∧bE w b o cs)∧RpR w S z b (o+z) ds
def RpL (w:World) (S:BS):List D→List Value→Prop
 | [],cs=>cs = []
 | d :: ds,cs=>∃c e,cs=c++e∧Rp w S d c∧RpL w S ds e
end
def fR (S:BS) (w w':World):Prop:=∀b,S b→b<w.heap.size→w'.heap[b]? = w.heap[b]?
theorem fR.cells {S:BS} {w w':World} (h:fR S w w') {b o:Nat} (hb:S b) {cs:List Value} (hc:bE w b o cs):bE w' b o cs:=fun j u hj=>by
 have h1:=hc j u hj
 exact (World.cell?_of_block (h b hb (World.block_lt_of_cell? w ⟨b,o+j,none⟩ h1))).trans h1
mutual
theorem Rp.keep {S S':BS} {w w':World} (hS:∀b,S b→S' b) (h:fR S w w'):∀(d:D) (cs:List Value),Rp w S d cs→Rp w' S' d cs
 | .i n,cs,r=>r
 | .s b,cs,r=>r
 | .b x,cs,r=>r
 | .l z xs,cs,r=>by
  obtain ⟨a,k,h1,h2,h3,h4,h5⟩:=r
  refine ⟨a,k,h1,h2,h3,h4,h5.imp id ?_⟩
  rintro ⟨b,o,h6,h7,h8⟩
  exact ⟨b,o,h6,hS _ h7,RpR.keep hS h z b h7 xs o h8⟩
 | .t ds,cs,r=>RpL.keep hS h ds cs r
 | .n _,cs,r=>r
 | .p d,cs,⟨b,o,us,h1,h2,h3,h4⟩=>⟨b,o,us,h1,hS _ h2,Rp.keep hS h d us h3,h.cells h2 h4⟩
 | .f g ds,cs,⟨vs,h1,h2⟩=>⟨vs,h1,RpL.keep hS h ds vs h2⟩
 | .any,cs,r=>r
theorem RpR.keep {S S':BS} {w w':World} (hS:∀b,S b→S' b) (h:fR S w w') (z b:Nat) (hb:S b):∀(ds:List D) (o:Nat),RpR w S z b o ds→RpR w' S' z b o ds
 | [],o,_=>trivial
 | d :: ds,o,⟨⟨cs,h1,h2,h3⟩,h4⟩=>⟨⟨cs,h1,Rp.keep hS h d cs h2,h.cells hb h3⟩,RpR.keep hS h z b hb ds (o+z) h4⟩
theorem RpL.keep {S S':BS} {w w':World} (hS:∀b,S b→S' b) (h:fR S w w'):∀(ds:List D) (cs:List Value),RpL w S ds cs→RpL w' S' ds cs
 | [],cs,r=>r
 | d :: ds,cs,⟨c,e,h1,h2,h3⟩=>⟨c,e,h1,Rp.keep hS h d c h2,RpL.keep hS h ds e h3⟩
end
theorem ij {w:World} {S:BS} {z b:Nat}:∀(ds:List D) (o:Nat),RpR w S z b o ds↔∀i (h:i<ds.length),∃cs,cs.length=z∧Rp w S ds[i] cs∧bE w b (o+i * z) cs:=by
 intro ds
 induction ds with
 | nil=>intro o;exact ⟨fun _ i h=>absurd h (Nat.not_lt_zero _),fun _=>trivial⟩
 | cons d ds ih=>
  intro o
  unfold RpR
  rw [ih]
  constructor
  ·rintro ⟨h1,h2⟩ i hi
   cases i with
   | zero=>rw [Nat.zero_mul,Nat.add_zero];exact h1
   | succ i=>
    have:=h2 i (by simpa using hi)
    rw [show o+(i+1) * z=o+z+i * z by rw [Nat.add_mul];omega]
    exact this
  ·intro h
   refine ⟨?_,fun i hi=>?_⟩
   ·have:=h 0 (by simp)
    rw [Nat.zero_mul,Nat.add_zero] at this;exact this
   ·have:=h (i+1) (by simpa using hi)
    rw [show o+(i+1) * z=o+z+i * z by rw [Nat.add_mul];omega] at this
    exact this
def DV (w:World) (S:BS) (d:D) (v:Value):Prop:=match d with
 | .t ds=>∃cs,v=.agg cs.toArray∧RpL w S ds cs
 | d=>Rp w S d [v]
theorem DV.keep {S S':BS} {w w':World} (hS:∀b,S b→S' b) (h:fR S w w') {d:D} {v:Value} (r:DV w S d v):DV w' S' d v:=by
 cases d with
 | t ds=>obtain ⟨cs,h1,h2⟩:=r;exact ⟨cs,h1,RpL.keep hS h ds cs h2⟩
 | _=>exact Rp.keep hS h _ _ r
mutual
def Ow (w:World):D→BS→List Value→Prop
 | .i n,T,cs=>cs = [.int .i64 n]∧I64 n
 | .s b,T,cs=>cs = [.string b]∧b.size≤maxLen
 | .b x,T,cs=>cs = [.bool x]
 | .n _,T,cs=>∃a,cs = [.slice a 0 0]
 | .l z xs,T,cs=>∃a k,cs = [.slice a xs.length k]∧xs.length≤k∧k≤maxLen∧(a=none→k=0)∧(xs = []∨∃(b o:Nat) (U:BS),a=some ⟨b,o,none⟩∧T b∧b<w.heap.size∧(∀q,w.frozen? ⟨b,q,none⟩=false)∧(∀c,U c→T c∧c≠b)∧OwR w xs U z b o)
 | .t ds,T,cs=>OwL w ds T cs
 | .p _,T,cs=>False
 | .f _ _,T,cs=>False
 | .any,T,cs=>False
def OwR (w:World):List D→BS→Nat→Nat→Nat→Prop
 | [],U,z,b,o=>True
 | d :: ds,U,z,b,o=>∃U1 U2:BS,(∀c,U1 c→U c)∧(∀c,U2 c→U c)∧(∀c,U1 c→¬U2 c)∧(∃cs,cs.length=z∧Ow w d U1 cs∧bE w b o cs)∧OwR w ds U2 z b (o+z)
def OwL (w:World):List D→BS→List Value→Prop
 | [],T,cs=>cs = []
 | d :: ds,T,cs=>∃(T1 T2:BS) (c e:List Value),(∀x,T1 x→T x)∧(∀x,T2 x→T x)∧(∀x,T1 x→¬T2 x)∧cs=c++e∧Ow w d T1 c∧OwL w ds T2 e
end
mutual
theorem Ow.keep {w w':World} (hsz:w.heap.size≤w'.heap.size):∀(d:D) (T T':BS) (cs:List Value),(∀b,T b→T' b)→fR T w w'→Ow w d T cs→Ow w' d T' cs
 | .i n,T,T',cs,hS,h,r=>r
 | .s b,T,T',cs,hS,h,r=>r
 | .b x,T,T',cs,hS,h,r=>r
 | .n _,T,T',cs,hS,h,r=>r
 | .l z xs,T,T',cs,hS,h,r=>by
  obtain ⟨a,k,h1,h2,h3,h4,h5⟩:=r
  refine ⟨a,k,h1,h2,h3,h4,h5.imp id ?_⟩
  rintro ⟨b,o,U,e1,e2,e3,e4,e5,e6⟩
  exact ⟨b,o,U,e1,hS _ e2,Nat.lt_of_lt_of_le e3 hsz,fun q=>(World.frozen?_of_block (h b e2 e3)).trans (e4 q),fun c hc=>⟨hS _ (e5 c hc).1,(e5 c hc).2⟩,OwR.keep hsz xs U z b o (fun c hc=>h c (e5 c hc).1) (h b e2) e6⟩
 | .t ds,T,T',cs,hS,h,r=>OwL.keep hsz ds T T' cs hS h r
 | .p _,_,_,_,_,_,r=>r
 | .f _ _,_,_,_,_,_,r=>r
 | .any,_,_,_,_,_,r=>r
theorem OwR.keep {w w':World} (hsz:w.heap.size≤w'.heap.size):∀(ds:List D) (U:BS) (z b o:Nat),fR U w w'→(b<w.heap.size→w'.heap[b]? = w.heap[b]?)→OwR w ds U z b o→OwR w' ds U z b o
 | [],U,z,b,o,h,hb,r=>trivial
 | d :: ds,U,z,b,o,h,hb,⟨U1,U2,h1,h2,h3,⟨cs,h4,h5,h6⟩,h7⟩=>⟨U1,U2,h1,h2,h3,⟨cs,h4,Ow.keep hsz d U1 U1 cs (fun _ h=>h) (fun c hc=>h c (h1 c hc)) h5,fun j u hj=>by
  have h8:=h6 j u hj
  exact (World.cell?_of_block (hb (World.block_lt_of_cell? w ⟨b,o+j,none⟩ h8))).trans h8⟩,OwR.keep hsz ds U2 z b (o+z) (fun c hc=>h c (h2 c hc)) hb h7⟩
theorem OwL.keep {w w':World} (hsz:w.heap.size≤w'.heap.size):∀(ds:List D) (T T':BS) (cs:List Value),(∀b,T b→T' b)→fR T w w'→OwL w ds T cs→OwL w' ds T' cs
 | [],T,T',cs,hS,h,r=>r
 | d :: ds,T,T',cs,hS,h,⟨T1,T2,c,e,h1,h2,h3,h4,h5,h6⟩=>⟨T1,T2,c,e,fun x hx=>hS x (h1 x hx),fun x hx=>hS x (h2 x hx),h3,h4,Ow.keep hsz d T1 T1 c (fun _ h=>h) (fun x hx=>h x (h1 x hx)) h5,OwL.keep hsz ds T2 T2 e (fun _ h=>h) (fun x hx=>h x (h2 x hx)) h6⟩
end
mutual
theorem Ow.rp {w:World}:∀(d:D) (T:BS) (cs:List Value),Ow w d T cs→Rp w T d cs
 | .i n,T,cs,r=>r
 | .s b,T,cs,r=>r
 | .b x,T,cs,r=>r
 | .n _,T,cs,r=>r
 | .l z xs,T,cs,⟨a,k,h1,h2,h3,h4,h5⟩=>⟨a,k,h1,h2,h3,h4,h5.imp id (fun ⟨b,o,U,e1,e2,e3,e4,e5,e6⟩=>⟨b,o,e1,e2,OwR.rp xs U T z b o (fun c hc=>(e5 c hc).1) e6⟩)⟩
 | .t ds,T,cs,r=>OwL.rp ds T cs r
 | .p _,_,_,r=>r.elim
 | .f _ _,_,_,r=>r.elim
 | .any,_,_,r=>r.elim
theorem OwR.rp {w:World}:∀(ds:List D) (U T:BS) (z b o:Nat),(∀c,U c→T c)→OwR w ds U z b o→RpR w T z b o ds
 | [],U,T,z,b,o,hU,r=>trivial
 | d :: ds,U,T,z,b,o,hU,⟨U1,U2,h1,h2,h3,⟨cs,h4,h5,h6⟩,h7⟩=>⟨⟨cs,h4,Rp.keep (fun c hc=>hU c (h1 c hc)) (fun _ _ _=>rfl) _ _ (Ow.rp d U1 cs h5),h6⟩,OwR.rp ds U2 T z b (o+z) (fun c hc=>hU c (h2 c hc)) h7⟩
theorem OwL.rp {w:World}:∀(ds:List D) (T:BS) (cs:List Value),OwL w ds T cs→RpL w T ds cs
 | [],T,cs,r=>r
 | d :: ds,T,cs,⟨T1,T2,c,e,h1,h2,h3,h4,h5,h6⟩=>⟨c,e,h4,Rp.keep h1 (fun _ _ _=>rfl) _ _ (Ow.rp d T1 c h5),RpL.keep h2 (fun _ _ _=>rfl) _ _ (OwL.rp ds T2 e h6)⟩
end
def E0 (w:World) (b:Nat) (m:List (Int × Int)):Prop:=∃(es:Array MapEntry) (clock:Nat),w.heap[b]? = some (.map es clock)∧es.toList.map (fun e=>(e.key,e.val))=m.map fun p=>(Value.int .i64 p.1,Value.int .i64 p.2)
theorem E0.keep {w w':World} {b:Nat} {m:List (Int × Int)} (h:E0 w b m) (hb:b<w.heap.size→w'.heap[b]? = w.heap[b]?):E0 w' b m:=by
 obtain ⟨es,clock,h1,h2⟩:=h
 exact ⟨es,clock,by rw [hb (Array.getElem?_eq_some_iff.1 h1).1];exact h1,h2⟩
inductive Sy where
 | v (x:Value)
 | d (d:D)
 | at (d:D)
 | k (i:Nat)
 | bx (i o:Nat)
 | el (i z n o:Nat)
 | tp (xs:List Sy)
 | ag (xs:List Sy)
 | atS (o:Nat) (xs:List Sy)
 | q (p:Prop)
 | eo (i q:Nat)
 | cl (z:Nat) (xs:List D)
inductive Tk where
 | bx (cs:List Sy)
 | row (z:Nat) (e:TypeId) (ds:List D)
 | deep (z:Nat) (e:TypeId) (ds:List D) (ps:List (Nat × Value))
 | mp (m:List (Int × Int))
 | own (d:D) (pin:Option (Nat × Value)) (tag:Option (Value × BS))
 | abs (p:World→BS→Value→BS→Prop) (tag:Option Value)
 | grw (z:Nat) (e:TypeId) (ds:List D)
 | bxs (cs:List Sy)
 | bxt (cs:List Sy) (u:Value)
inductive In where
 | sy (s:Sy)
 | tk (t:Tk)
 | no
abbrev Env:=List (Nat × In)
def au:Env→Nat→Option In
 | [],_=>none
 | (k,i) :: σ,n=>match Nat.beq k n with|true=>some i|false=>au σ n
theorem ah (k:Nat) (i:In) (σ:Env) (n:Nat):au ((k,i) :: σ) n=if k=n then some i else au σ n:=by
 show (match Nat.beq k n with|true=>some i|false=>au σ n)=_
 by_cases h:k=n
 ·subst h;simp
 ·rw [if_neg h]
  have:Nat.beq k n=false:=by
   cases hb:Nat.beq k n with
   | false=>rfl
   | true=>exact absurd (Nat.eq_of_beq_eq_true hb) h
  simp only [this]
theorem ii (τ σ:Env) (n:Nat):au (τ++σ) n=(au τ n).orElse (fun _=>au σ n):=by
 induction τ with
 | nil=>rfl
 | cons p τ ih=>
  obtain ⟨k,i⟩:=p
  rw [List.cons_append,ah,ah]
  split
  ·rfl
  ·exact ih
structure Cx where
 F:BS
 ρ:Nat→Value
 T:Nat→BS
 A:BS
mutual
def Sy.ok (c:Cx) (w:World):Sy→Value→Prop
 | .v x,y=>y=x
 | .d u,y=>DV w c.F u y
 | .at u,y=>∃b o cs,y=.pointer (some ⟨b,o,none⟩)∧c.F b∧Rp w c.F u cs∧bE w b o cs
 | .k i,y=>c.A i∧y=c.ρ i
 | .bx i o,y=>c.A i∧∃b,c.ρ i=.pointer (some ⟨b,0,none⟩)∧y=.pointer (some ⟨b,o,none⟩)
 | .el i z n o,y=>c.A i∧∃b m k,c.ρ i=.slice (some ⟨b,0,none⟩) m k∧y=.pointer (some ⟨b,n * z+o,none⟩)
 | .tp xs,y=>∃vs:List Value,y=.tuple vs.toArray∧Sy.oks c w xs vs
 | .ag xs,y=>∃vs:List Value,y=.agg vs.toArray∧Sy.oks c w xs vs
 | .atS o xs,y=>∃(b:Nat) (vs:List Value),y=.pointer (some ⟨b,o,none⟩)∧c.F b∧Sy.oks c w xs vs∧bE w b 0 vs∧∀u∈vs,u.oneCell'=true
 | .q p,y=>∃b,y=.bool b∧(b=true→p)
 | .eo i n0,y=>c.A i∧∃b o m cp,c.ρ i=.slice (some ⟨b,o,none⟩) m cp∧y=.pointer (some ⟨b,o+n0,none⟩)
 | .cl z xs,y=>DV w c.F (.l z xs) y∧∃a,y=.slice a xs.length xs.length
def Sy.oks (c:Cx) (w:World):List Sy→List Value→Prop
 | [],vs=>vs = []
 | s :: ss,vs=>∃y t,vs=y :: t∧Sy.ok c w s y∧Sy.oks c w ss t
end
def Tk.ok (c:Cx) (w:World):Tk→Value→BS→Prop
 | .bx cs,v,S=>∃b us,v=.pointer (some ⟨b,0,none⟩)∧S b∧Sy.oks c w cs us∧dj w b us
 | .row z e ds,v,S=>(ds = []∧∃a,v=.slice a 0 0)∨∃cells,w.ownsRow 0 e z v ds.length cells∧(∀g,v.ownBlock=some g→S g) ∧
  ∀j (h:j<ds.length),∃cs,cs.length=z∧Rp w c.F ds[j] cs∧∀t u,cs[t]? = some u→cells[j * z+t]? = some u
 | .deep z e ds ps,v,S=>(ds = []∧ps = []∧∃a,v=.slice a 0 0)∨∃(cells:List Value) (T:Nat→BS),w.ownsRow 0 e z v ds.length cells∧(∀g,v.ownBlock=some g→S g∧∀j,¬T j g)∧(∀j b,T j b→S b∧b<w.heap.size∧∀o,w.frozen? ⟨b,o,none⟩=false)∧(∀i j,i≠j→∀b,T i b→¬T j b) ∧
  (∀j (h:j<ds.length),∃cs,cs.length=z∧Rp w (T j) ds[j] cs∧∀t u,cs[t]? = some u→cells[j * z+t]? = some u)∧∀p∈ps,cells[p.1]? = some p.2
 | .mp m,v,S=>∃b,v=.map (some b)∧S b∧E0 w b m
 | .own d pin tag,v,S=>Ow w d S [v]∧(∀p,pin=some p→∃b o m k,v=.slice (some ⟨b,o,none⟩) m k∧S b∧w.cell? ⟨b,o+p.1,none⟩=some p.2)∧(∀p,tag=some p→v=p.1∧S=p.2)
 | .abs p tag,v,S=>(∀(w':World) (F':BS),(∀b,c.F b→F' b)→w.heap.size≤w'.heap.size→fR c.F w w'→fR S w w'→p w' F' v S)∧∀u,tag=some u→v=u
 | .grw z e ds,v,S=>(ds = []∧∃a,v=.slice a 0 0)∨∃(cells:List Value) (T:Nat→BS),w.ownsRow 0 e z v ds.length cells∧(∀g,v.ownBlock=some g→S g∧∀j,¬T j g)∧(∀j b,T j b→S b∧b<w.heap.size)∧(∀i j,i≠j→∀b,T i b→¬T j b) ∧
  ∀j (h:j<ds.length),∃cs,cs.length=z∧Ow w ds[j] (T j) cs∧∀t u,cs[t]? = some u→cells[j * z+t]? = some u
 | .bxs cs,v,S=>∃b us m k,0<m∧v=.slice (some ⟨b,0,none⟩) m k∧S b∧Sy.oks c w cs us∧dj w b us
 | .bxt cs u,v,S=>v=u∧∃b us,v=.pointer (some ⟨b,0,none⟩)∧S b∧Sy.oks c w cs us∧dj w b us
structure Cx.Le (c c':Cx):Prop where
 F:∀b,c.F b→c'.F b
 ρ:∀i,c.A i→c'.A i∧c'.ρ i=c.ρ i
theorem Cx.Le.refl (c:Cx):c.Le c:=⟨fun _ h=>h,fun _ h=>⟨h,rfl⟩⟩
mutual
theorem Sy.keep {c c':Cx} (hc:c.Le c') {w w':World} (h:fR c.F w w'):∀(s:Sy) (y:Value),s.ok c w y→s.ok c' w' y
 | .v x,y,r=>r
 | .d u,y,r=>DV.keep hc.F h r
 | .at u,y,⟨b,o,cs,h1,h2,h3,h4⟩=>⟨b,o,cs,h1,hc.F _ h2,Rp.keep hc.F h _ _ h3,h.cells h2 h4⟩
 | .k i,y,⟨h1,h2⟩=>⟨(hc.ρ i h1).1,h2.trans (hc.ρ i h1).2.symm⟩
 | .bx i o,y,⟨h1,b,h2,h3⟩=>⟨(hc.ρ i h1).1,b,(hc.ρ i h1).2.trans h2,h3⟩
 | .el i z n o,y,⟨h1,b,m,cp,h2,h3⟩=>⟨(hc.ρ i h1).1,b,m,cp,(hc.ρ i h1).2.trans h2,h3⟩
 | .tp xs,y,⟨vs,h1,h2⟩=>⟨vs,h1,Sy.keeps hc h xs vs h2⟩
 | .ag xs,y,⟨vs,h1,h2⟩=>⟨vs,h1,Sy.keeps hc h xs vs h2⟩
 | .atS o xs,y,⟨b,vs,h1,h2,h3,h4,h5⟩=>⟨b,vs,h1,hc.F _ h2,Sy.keeps hc h xs vs h3,h.cells h2 h4,h5⟩
 | .q p,y,r=>r
 | .eo i n0,y,⟨h1,b,o,m,cp,h2,h3⟩=>⟨(hc.ρ i h1).1,b,o,m,cp,(hc.ρ i h1).2.trans h2,h3⟩
 | .cl z xs,y,⟨h1,h2⟩=>⟨DV.keep hc.F h h1,h2⟩
theorem Sy.keeps {c c':Cx} (hc:c.Le c') {w w':World} (h:fR c.F w w'):∀(s:List Sy) (ys:List Value),Sy.oks c w s ys→Sy.oks c' w' s ys
 | [],vs,r=>r
 | s :: ss,vs,⟨y,t,h1,h2,h3⟩=>⟨y,t,h1,Sy.keep hc h s y h2,Sy.keeps hc h ss t h3⟩
end
theorem Tk.keep {c c':Cx} (hc:c.Le c') {w w':World} (hsz:w.heap.size≤w'.heap.size) (h:fR c.F w w') {S:BS} (hS:fR S w w') (t:Tk) (v:Value) (r:t.ok c w v S):t.ok c' w' v S:=by
 cases t with
 | bx cs=>
  obtain ⟨b,us,h1,h2,h3,h4⟩:=r
  refine ⟨b,us,h1,h2,Sy.keeps hc h _ _ h3,fun j u hj=>?_⟩
  obtain ⟨h5,h6⟩:=h4 j u hj
  have hb:=hS b h2 (World.block_lt_of_cell? w ⟨b,j,none⟩ h5)
  exact ⟨(World.cell?_of_block hb).trans h5,(World.frozen?_of_block hb).trans h6⟩
 | mp m=>
  obtain ⟨b,h1,h2,h3⟩:=r
  exact ⟨b,h1,h2,h3.keep (fun hl=>hS b h2 hl)⟩
 | abs p tag=>
  obtain ⟨h1,h2⟩:=r
  exact ⟨fun w2 F2 hF2 hsz2 hA2 hS2=>h1 w2 F2 (fun b hb=>hF2 b (hc.F b hb)) (Nat.le_trans hsz hsz2) (fun b hb hl=>(hA2 b (hc.F b hb) (Nat.lt_of_lt_of_le hl hsz)).trans (h b hb hl)) (fun b hb hl=>(hS2 b hb (Nat.lt_of_lt_of_le hl hsz)).trans (hS b hb hl)),h2⟩
 | bxt cs u0=>
  obtain ⟨h0,b,us,h1,h2,h3,h4⟩:=r
  refine ⟨h0,b,us,h1,h2,Sy.keeps hc h _ _ h3,fun j u hj=>?_⟩
  obtain ⟨h5,h6⟩:=h4 j u hj
  have hb:=hS b h2 (World.block_lt_of_cell? w ⟨b,j,none⟩ h5)
  exact ⟨(World.cell?_of_block hb).trans h5,(World.frozen?_of_block hb).trans h6⟩
 | bxs cs=>
  obtain ⟨b,us,m,k,h0,h1,h2,h3,h4⟩:=r
  refine ⟨b,us,m,k,h0,h1,h2,Sy.keeps hc h _ _ h3,fun j u hj=>?_⟩
  obtain ⟨h5,h6⟩:=h4 j u hj
  have hb:=hS b h2 (World.block_lt_of_cell? w ⟨b,j,none⟩ h5)
  exact ⟨(World.cell?_of_block hb).trans h5,(World.frozen?_of_block hb).trans h6⟩
 | grw z e ds=>
  rcases r with r|⟨cells,T,h1,h2,h3,h4,h5⟩
  ·exact .inl r
  refine .inr ⟨cells,T,⟨h1.1,?_⟩,h2,fun j b hb=>⟨(h3 j b hb).1,Nat.lt_of_lt_of_le (h3 j b hb).2 hsz⟩,h4,fun j hj=>?_⟩
  ·rcases h1.2 with hn|⟨g,cap,cur,hv,hb,hg,rest⟩
   ·exact .inl hn
   ·refine .inr ⟨g,cap,cur,hv,hb,?_,rest⟩
    rw [hS g (h2 g (by rw [hv];rfl)).1 (Array.getElem?_eq_some_iff.1 hg).1];exact hg
  ·obtain ⟨cs,q1,q2,q3⟩:=h5 j hj
   exact ⟨cs,q1,Ow.keep hsz _ _ _ _ (fun _ h=>h) (fun b hb hl=>hS b (h3 j b hb).1 hl) q2,q3⟩
 | own d pin tag=>
  obtain ⟨h1,h2,h3⟩:=r
  exact ⟨Ow.keep hsz d S S _ (fun _ h=>h) hS h1,fun p hp=>by
   obtain ⟨b,o,m,k,e1,e2,e3⟩:=h2 p hp
   exact ⟨b,o,m,k,e1,e2,(World.cell?_of_block (hS b e2 (World.block_lt_of_cell? w ⟨b,o+p.1,none⟩ e3))).trans e3⟩,h3⟩
 | deep z e ds ps=>
  rcases r with r|⟨cells,T,h1,h2,h3,h4,h5,h6⟩
  ·exact .inl r
  refine .inr ⟨cells,T,⟨h1.1,?_⟩,h2,fun j b hb=>?_,h4,fun j hj=>?_,h6⟩
  ·rcases h1.2 with hn|⟨g,cap,cur,hv,hb,hg,rest⟩
   ·exact .inl hn
   ·refine .inr ⟨g,cap,cur,hv,hb,?_,rest⟩
    rw [hS g (h2 g (by rw [hv];rfl)).1 (Array.getElem?_eq_some_iff.1 hg).1];exact hg
  ·obtain ⟨q1,q2,q3⟩:=h3 j b hb
   exact ⟨q1,Nat.lt_of_lt_of_le q2 hsz,fun o=>(World.frozen?_of_block (hS b q1 q2)).trans (q3 o)⟩
  ·obtain ⟨cs,q1,q2,q3⟩:=h5 j hj
   exact ⟨cs,q1,Rp.keep (fun _ h=>h) (fun b hb hl=>hS b (h3 j b hb).1 hl) _ _ q2,q3⟩
 | row z e ds=>
  rcases r with r|⟨cells,h1,h2,h3⟩
  ·exact .inl r
  refine .inr ⟨cells,⟨h1.1,?_⟩,h2,fun j hj=>?_⟩
  ·rcases h1.2 with hn|⟨g,cap,cur,hv,hb,hg,rest⟩
   ·exact .inl hn
   ·refine .inr ⟨g,cap,cur,hv,hb,?_,rest⟩
    rw [hS g (h2 g (by rw [hv];rfl)) (Array.getElem?_eq_some_iff.1 hg).1];exact hg
  ·obtain ⟨cs,h4,h5,h6⟩:=h3 j hj
   exact ⟨cs,h4,Rp.keep hc.F h _ _ h5,h6⟩
structure Chg (S:BS) (w w':World):Prop where
 os:w'.os=w.os
 tape:w'.tape=w.tape
 output:w'.output=w.output
 size:w.heap.size≤w'.heap.size
 block:∀b,b<w.heap.size→¬S b→w'.heap[b]? = w.heap[b]?
structure cf where
 w:World
 F:BS
 M:BS
structure oK where
 w:World
 F:BS
def oK.toB (W:oK):cf:=⟨W.w,W.F,fun _=>False⟩
structure aL (W0:cf) (N:Nat) (σ:Env) (a:Act) (w:World) (c:Cx):Prop where
 ext:Chg W0.M W0.w w
 old:∀b,c.F b→W0.F b∨W0.M b∨W0.w.heap.size≤b
 lt:∀b,c.F b→b<w.heap.size
 size:a.tmps.size=N
 defers:a.defers = []
 all:∀i,c.A i→au σ i≠none
 tok:∀i t,au σ i=some (.tk t)→c.A i∧t.ok c w (c.ρ i) (c.T i)∧∀b,c.T i b→¬c.F b∧b<w.heap.size∧(W0.M b∨W0.w.heap.size≤b)
 off:∀i j t u,au σ i=some (.tk t)→au σ j=some (.tk u)→i≠j→∀b,c.T i b→¬c.T j b
 tmp:∀t s,au σ t=some (.sy s)→∃v,a.tmps[t]? = some v∧s.ok c w v
def Holds (W0:cf) (N:Nat) (σ:Env) (a:Act) (w:World):Prop:=∃c,aL W0 N σ a w c
theorem aL.put {W0:cf} {N:Nat} {σ:Env} {a:Act} {w:World} {c:Cx} (h:aL W0 N σ a w c) {d:Nat} {s:Sy} {v:Value} (hd:d<N) (hv:s.ok c w v) (hA:au σ d=none∨∃s,au σ d=some (.sy s)):aL W0 N ((d,.sy s) :: σ) (a.put (some d) v) w c:=by
 have hne:∀i t,au ((d,.sy s) :: σ) i=some (.tk t)→au σ i=some (.tk t):=fun i t hi=>by
  rw [ah] at hi
  split at hi
  ·cases hi
  ·exact hi
 refine ⟨h.ext,h.old,h.lt,by simp [Act.put,h.size],h.defers,fun i hi=>?_,fun i t hi=>h.tok i t (hne i t hi),fun i j t u hi hj=>h.off i j t u (hne i t hi) (hne j u hj),fun t s' ht=>?_⟩
 ·rw [ah]
  split
  ·simp
  ·exact h.all i hi
 ·rw [ah] at ht
  simp only [Act.put]
  by_cases e:d=t
  ·rw [if_pos e] at ht
   cases ht
   subst e
   exact ⟨v,by rw [Array.getElem?_setIfInBounds_self_of_lt (by rw [h.size];exact hd)],hv⟩
  ·rw [if_neg e] at ht
   rw [Array.getElem?_setIfInBounds_ne e]
   exact h.tmp t s' ht
end Go.Proofs.YtclpbhoekmecjaaGreatDoor
namespace Go.Proofs.YtclpbhoekmecjaaGreatDoor
open Go.RowKit
set_option linter.unusedVariables false
set_option linter.unusedSimpArgs false
theorem Holds.congr {W0:cf} {N:Nat} {σ σ':Env} {a:Act} {w:World} (h:Holds W0 N σ a w) (e:∀κ,au σ' κ=au σ κ):Holds W0 N σ' a w:=by
 obtain ⟨c,h⟩:=h
 exact ⟨c,h.ext,h.old,h.lt,h.size,h.defers,fun i hi=>by rw [e];exact h.all i hi,fun i t ht=>h.tok i t (by rw [← e];exact ht),
  fun i j t u hi hj=>h.off i j t u (by rw [← e];exact hi) (by rw [← e];exact hj),fun t s ht=>h.tmp t s (by rw [← e];exact ht)⟩
theorem Chg.drew {S:BS} {w w':World} (h:Chg S w w'):Chg S w w'.drew:=⟨h.os,h.tape,h.output,h.size,h.block⟩
theorem Holds.drew {W0:cf} {N:Nat} {σ:Env} {a:Act} {w:World} (h:Holds W0 N σ a w):Holds W0 N σ a w.drew:=by
 obtain ⟨c,h⟩:=h
 have hg:∀S:BS,fR S w w.drew:=fun S b _ _=>rfl
 exact ⟨c,h.ext.drew,h.old,h.lt,h.size,h.defers,h.all,fun i t ht=>⟨(h.tok i t ht).1,Tk.keep (w:=w) (w':=w.drew) (Cx.Le.refl c) (Nat.le_refl _) (hg _) (hg _) t _ (h.tok i t ht).2.1,(h.tok i t ht).2.2⟩,h.off,
  fun t s ht=>(h.tmp t s ht).imp fun v hv=>⟨hv.1,Sy.keep (w:=w) (w':=w.drew) (Cx.Le.refl c) (hg _) s v hv.2⟩⟩
abbrev Us:=List (List Nat × List Nat)
def Fn (a b:List Nat):Bool:=a.any fun x=>b.any fun y=>Nat.beq x y
def pq (x y:List Nat × List Nat):Bool:=Fn x.2 y.1 || Fn x.2 y.2 || Fn x.1 y.2
theorem Bm {a b:List Nat} {x:Nat} (ha:x∈a) (hb:x∈b):Fn a b=true:=by
 unfold Fn
 rw [List.any_eq_true]
 refine ⟨x,ha,?_⟩
 rw [List.any_eq_true]
 exact ⟨x,hb,by simp⟩
def AE (md:Region.Mode) (ops:Array Oper) (us:Us):Bool:=
 (List.range ops.size).all fun k=>((ops[k]?).map fun o=>o.after.all fun e=>!Region.binds md e || decide (e.on<k)).getD true &&
  (List.range k).all fun j=>!(pq (us.getD j ([],[])) (us.getD k ([],[]))) || lR md ops ops.size k j
section
variable {P:Program} {ops:Array Oper} {W0:cf} {N:Nat} {Q:Exit→Act→World→Prop}
def CA (P:Program) (ops:Array Oper) (W0:cf) (N:Nat) (o:Oper) (σ:Env) (keys:List Nat) (upd:Env):Prop:=
 ∀(σ':Env) (a:Act) (w:World),(∀κ∈keys,au σ' κ=au σ κ)→Holds W0 N σ' a w →
  (Region.wanted o (yielded ops a.tmps)=true∧Oper.wp P o a w (Holds W0 N (upd++σ')) (fun _ _ _=>False)) ∨
  (Region.wanted o (yielded ops a.tmps)=false∧Holds W0 N (upd++σ') (a.put o.dst undef) w)
def Der (P:Program) (ops:Array Oper) (W0:cf) (N:Nat) (Fin:Us→Env→Prop):List Oper→Us→List Nat→List Nat→Env→Prop
 | [],us,_,_,σ=>Fin us σ
 | o :: os,us,pk,fk,σ=>∃keys upd,CA P ops W0 N o σ keys upd∧Der P ops W0 N Fin os (us++[(keys++pk,upd.map Prod.fst++fk)]) [] [] (upd++σ)
theorem CA.fz {P:Program} {ops:Array Oper} {W0:cf} {N:Nat} {o:Oper} {σ:Env} {keys:List Nat} {upd:Env} {t i n e:Nat} {ds:List D} (ht:au σ t=some (.sy (.k i))) (hi:au σ i=some (.tk (.row n e ds))) (hne:Nat.beq i t=false) (hf:∀(σ':Env) (a:Act) (w:World),au σ' t=some (.sy (.k i))→au σ' i=some (.tk (.row n e ds))→Holds W0 N σ' a w→Holds W0 N ((t,.sy (.d (.l n ds))) :: (i,.no) :: σ') a w)
 (h:CA P ops W0 N o ((t,.sy (.d (.l n ds))) :: (i,.no) :: σ) keys upd):CA P ops W0 N o σ (keys++[t,i]) (upd++[(t,.sy (.d (.l n ds))),(i,.no)]):=by
 intro σ' a w hk hh
 have h1:=hf σ' a w ((hk t (by simp)).trans ht) ((hk i (by simp)).trans hi) hh
 have h2:=h _ a w (fun κ hκ=>?_) h1
 ·rw [List.append_assoc];exact h2
 ·rw [ah,ah,ah,ah,hk κ (by simp [hκ])]
theorem Oper.wp_weak {o:Oper} {a:Act} {w:World} {K:Act→World→Prop} {R:Exit→Act→World→Prop} (h:Oper.wp P o a w K (fun _ _ _=>False)):Oper.wp P o a w K R:=by
 unfold Oper.wp at *
 generalize (execOp a.eval o).run P w=r at *
 cases r with
 | ok n w'=>
  cases n <;> simp only [Oper.upon] at h ⊢ <;>
   first
    | exact h
    | exact Calls.mono h (fun e w'' he=>by
     cases e with
     | returned v=>exact he
     | panicked c=>exact he.elim
     | outgrown=>exact (let ⟨_,_,h⟩:=he;h.elim))
 | halt x w'=>cases x <;> simp only [Oper.upon] at h ⊢
theorem CA.op {o:Oper} {σ:Env} {keys:List Nat} {upd:Env} (h:CA P ops W0 N o σ keys upd) {i:Nat} (hi:ops[i]? = some o) {σ':Env} {a:Act} {w:World} (hk:∀κ∈keys,au σ' κ=au σ κ) (hh:Holds W0 N σ' a w) {K:Act→World→Prop} (hK:∀a' w',Holds W0 N (upd++σ') a' w'→K a' w'):wpOp P ops Q i K a w:=by
 unfold wpOp
 rw [hi]
 dsimp only
 rcases h σ' a w hk hh with ⟨h1,h2⟩|⟨h1,h2⟩
 ·rw [h1,if_pos rfl]
  exact .inl (Oper.wp_mono hK (Oper.wp_weak h2))
 ·rw [h1]
  exact hK _ _ h2
theorem E3:∀(os:List Oper) (k:Nat) (us:Us) (σ:Env) (a:Act) (w:World),(∀i,os[i]? = ops[k+i]?)→k+os.length=ops.size →
 Der P ops W0 N (fun _ σ=>∀a w,Holds W0 N σ a w→Q .normal a w) os us [] [] σ→Holds W0 N σ a w→wpOps P ops Q ((List.range os.length).map (k + ·)) a w:=by
 intro os
 induction os with
 | nil=>intro k us σ a w _ _ h hh;exact h a w hh
 | cons o os ih=>
  intro k us σ a w hos hsz h hh
  obtain ⟨keys,upd,h1,h2⟩:=h
  rw [List.length_cons,List.range_succ_eq_map,List.map_cons,List.map_map,wpOps_cons]
  refine h1.op (i:=k+0) (by have:=hos 0;simpa using this.symm) (fun _ _=>rfl) hh (fun a' w' hh'=>?_)
  have:=ih (k+1) _ _ a' w' (fun i=>by have:=hos (i+1);rw [show k+1+i=k+(i+1) by omega];simpa using this) (by simp at hsz;omega) h2 hh'
  have e:(fun x=>k+x) ∘ Nat.succ=(fun x=>k+1+x):=by funext x;simp;omega
  rw [e];exact this
theorem xG {id:Nat} {σ:Env} {a:Act} {w:World} (hh:Holds W0 N σ a w) (h:Der P ops W0 N (fun _ σ=>∀a w,Holds W0 N σ a w→Q .normal a w) ops.toList [] [] [] σ):(Code.region id ops false).wp P Q a w:=by
 refine wp_region ?_
 have:=E3 ops.toList 0 [] σ a w (fun i=>by simp) (by simp) h hh
 simpa using this
theorem Eb {Fin:Us→Env→Prop}:∀(os:List Oper) (us:Us) (σ:Env),Der P ops W0 N Fin os us [] [] σ →
 ∃(rd:Nat→List Nat) (up:Nat→Env) (τ:Nat→Env),τ us.length=σ∧(∀k,us.length≤k→k<us.length+os.length→τ (k+1)=up k++τ k∧∀o,os[k - us.length]? = some o→CA P ops W0 N o (τ k) (rd k) (up k)) ∧
  ∃us',us'.length=us.length+os.length∧(∀k,k<us.length→us'[k]? = us[k]?)∧(∀k,us.length≤k→k<us.length+os.length→us'[k]? = some (rd k,(up k).map Prod.fst))∧Fin us' (τ (us.length+os.length)):=by
 intro os
 induction os with
 | nil=>exact fun us σ h=>⟨fun _=>[],fun _=>[],fun _=>σ,rfl,fun k h1 h2=>by simp at h2;omega,us,rfl,fun _ _=>rfl,fun k h1 h2=>by simp at h2;omega,h⟩
 | cons o os ih=>
  intro us σ h
  obtain ⟨keys,upd,h1,h2⟩:=h
  obtain ⟨rd,up,τ,e1,e2,us',e3,e4,e5,e6⟩:=ih _ _ h2
  simp only [List.length_append,List.length_cons,List.length_nil] at e1 e2 e3 e4 e5 e6
  refine ⟨fun k=>if k=us.length then keys else rd k,fun k=>if k=us.length then upd else up k,fun k=>if k=us.length then σ else τ k,if_pos rfl,fun k k1 k2=>?_,us',by simp only [List.length_cons];omega,fun k hk=>?_,fun k k1 k2=>?_,?_⟩
  ·by_cases e:k=us.length
   ·subst e
    dsimp only
    rw [if_neg (by omega),if_pos rfl,if_pos rfl,if_pos rfl,Nat.sub_self]
    refine ⟨e1,fun o' ho=>?_⟩
    simp at ho
    subst ho
    exact h1
   ·obtain ⟨g1,g2⟩:=e2 k (by omega) (by simp at k2;omega)
    dsimp only
    rw [if_neg (by omega),if_neg e,if_neg e,if_neg e]
    refine ⟨g1,fun o' ho=>g2 o' ?_⟩
    rw [show k - us.length=(k - (us.length+1))+1 by omega] at ho
    simpa using ho
  ·rw [e4 k (by omega),List.getElem?_append_left hk]
  ·by_cases e:k=us.length
   ·subst e
    dsimp only
    rw [if_pos rfl,if_pos rfl,e4 _ (by omega),List.getElem?_append_right (Nat.le_refl _)]
    simp
   ·dsimp only
    rw [if_neg e,if_neg e]
    exact e5 k (by omega) (by simp at k2;omega)
  ·dsimp only
   rw [if_neg (by simp)]
   rw [List.length_cons,show us.length+(os.length+1)=us.length+(0+1)+os.length by omega]
   exact e6
def FJ (up:Nat→Env) (p:Nat→Prop) (κ k:Nat):Prop:=p k∧κ∈(up k).map Prod.fst∧∀j,p j→κ∈(up j).map Prod.fst→j≤k
structure Inv (up:Nat→Env) (σ0:Env) (p:Nat→Prop) (σ:Env):Prop where
 last:∀κ k,FJ up p κ k→au σ κ=au (up k) κ
 none:∀κ,(∀k,p k→κ ∉ (up k).map Prod.fst)→au σ κ=au σ0 κ
theorem rZ {τ:Env} {κ:Nat}:au τ κ=none↔κ ∉ τ.map Prod.fst:=by
 induction τ with
 | nil=>simp [au]
 | cons p τ ih=>
  obtain ⟨k,i⟩:=p
  rw [ah]
  by_cases e:k=κ
  ·simp [e]
  ·rw [if_neg e,ih];simp [Ne.symm (Ne.intro e)]
theorem Ez {τ σ:Env} {κ:Nat} (h:κ∈τ.map Prod.fst):au (τ++σ) κ=au τ κ:=by
 rw [ii]
 cases e:au τ κ with
 | none=>exact absurd h (rZ.1 e)
 | some i=>rfl
theorem lT {τ σ:Env} {κ:Nat} (h:κ ∉ τ.map Prod.fst):au (τ++σ) κ=au σ κ:=by
 rw [ii,rZ.2 h];rfl
theorem EY {up:Nat→Env} {p:Nat→Prop} (κ:Nat):∀n,(∀k,p k→k<n)→(∃k,FJ up p κ k)∨∀k,p k→κ ∉ (up k).map Prod.fst:=by
 intro n
 induction n generalizing p with
 | zero=>exact fun h=>.inr fun k hk=>absurd (h k hk) (Nat.not_lt_zero _)
 | succ n ih=>
  intro h
  by_cases hn:p n∧κ∈(up n).map Prod.fst
  ·exact .inl ⟨n,hn.1,hn.2,fun j hj _=>by have:=h j hj;omega⟩
  ·rcases ih (p:=fun k=>p k∧k<n) (fun k hk=>hk.2) with ⟨k,h1,h2,h3⟩|h1
   ·refine .inl ⟨k,h1.1,h2,fun j hj hjw=>?_⟩
    by_cases e:j=n
    ·subst e;exact absurd ⟨hj,hjw⟩ hn
    ·exact h3 j ⟨hj,by have:=h j hj;omega⟩ hjw
   ·refine .inr fun k hk hkw=>?_
    by_cases e:k=n
    ·subst e;exact hn ⟨hk,hkw⟩
    ·exact h1 k ⟨hk,by have:=h k hk;omega⟩ hkw
theorem Inv.same {up:Nat→Env} {σ0 σ σ':Env} {p q:Nat→Prop} {n:Nat} (h:Inv up σ0 p σ) (h':Inv up σ0 q σ') (hp:∀k,p k→k<n) (κ:Nat) (hw:∀k,κ∈(up k).map Prod.fst→(p k↔q k)):au σ κ=au σ' κ:=by
 rcases EY (up:=up) (p:=p) κ n hp with ⟨k,h1,h2,h3⟩|h1
 ·rw [h.last κ k ⟨h1,h2,h3⟩,h'.last κ k ⟨(hw k h2).1 h1,h2,fun j hj hjw=>h3 j ((hw j hjw).2 hj) hjw⟩]
 ·rw [h.none κ h1,h'.none κ (fun k hk hkw=>h1 k ((hw k hkw).2 hk) hkw)]
theorem Inv.zero {up:Nat→Env} {σ0:Env}:Inv up σ0 (fun _=>False) σ0:=⟨fun _ _ h=>h.1.elim,fun _ _=>rfl⟩
theorem Inv.step {up:Nat→Env} {σ0 σ:Env} {p q:Nat→Prop} {i:Nat} (h:Inv up σ0 p σ) (hq:∀k,q k↔p k∨k=i) (hi:∀k κ,p k→κ∈(up k).map Prod.fst→κ∈(up i).map Prod.fst→k≤i):Inv up σ0 q (up i++σ):=by
 refine ⟨fun κ k hk=>?_,fun κ hn=>?_⟩
 ·obtain ⟨h1,h2,h3⟩:=hk
  by_cases e:k=i
  ·subst e;exact Ez h2
  ·have hp:p k:=((hq k).1 h1).resolve_right e
   have hni:κ ∉ (up i).map Prod.fst:=fun hκ=>by
    have:=h3 i ((hq i).2 (.inr rfl)) hκ
    have:=hi k κ hp h2 hκ
    omega
   rw [lT hni]
   exact h.last κ k ⟨hp,h2,fun j hj hjw=>h3 j ((hq j).2 (.inl hj)) hjw⟩
 ·rw [lT (hn i ((hq i).2 (.inr rfl)))]
  exact h.none κ (fun k hk=>hn k ((hq k).2 (.inl hk)))
theorem Bz {md:Region.Mode} {n:Nat} (hn:ops.size=n) {σ0:Env} {rd:Nat→List Nat} {up τ:Nat→Env} (hτ0:τ 0=σ0)
 (hst:∀k,k<n→τ (k+1)=up k++τ k∧∀o,ops[k]? = some o→CA P ops W0 N o (τ k) (rd k) (up k))
 (hdown:∀k o,ops[k]? = some o→∀e∈o.after,Region.binds md e=true→e.on<k)
 (hrace:∀j k,j<k→k<n→pq (rd j,(up j).map Prod.fst) (rd k,(up k).map Prod.fst)=true→lR md ops ops.size k j=true)
 (hfin:∀a w,Holds W0 N (τ n) a w→Q .normal a w):∀(fuel:Nat) (ls:Array Bool) (σ:Env) (a:Act) (w:World),ls.size=n→pD md ops ls→(∃S:List Nat,S.length≤fuel∧∀k,k<n→ls.getD k false=false→k∈S) →
  Inv up σ0 (fun k=>ls.getD k false=true) σ→Holds W0 N σ a w→wpAny P md ops Q fuel ls a w:=by
 have base:∀k,k≤n→Inv up σ0 (fun j=>j<k) (τ k):=by
  intro k
  induction k with
  | zero=>exact fun _=>by rw [hτ0];exact ⟨fun κ k h=>absurd h.1 (Nat.not_lt_zero _),fun _ _=>rfl⟩
  | succ k ih=>
   intro hk
   rw [(hst k (by omega)).1]
   exact (ih (by omega)).step (fun j=>by omega) (fun j κ hj _ _=>by omega)
 have listed_lt:∀(ls:Array Bool) k,ls.size=n→ls.getD k false=true→k<n:=fun ls k hs hk=>by
  rcases Nat.lt_or_ge k n with h|h
  ·exact h
  ·rw [Array.getD_eq_getD_getElem?,Array.getElem?_eq_none (by omega)] at hk;cases hk
 have fin:∀(ls:Array Bool) (σ:Env) (a:Act) (w:World),ls.size=n→Inv up σ0 (fun k=>ls.getD k false=true) σ→Holds W0 N σ a w→(∀k,k<n→ls.getD k false=true)→Q .normal a w:=by
  intro ls σ a w hs hI hh hall
  refine hfin a w (hh.congr fun κ=>?_)
  exact (base n (Nat.le_refl _)).same hI (fun k hk=>hk) κ (fun k _=>⟨fun h=>hall k h,fun h=>listed_lt ls k hs h⟩)
 have prog:∀(ls:Array Bool),ls.size=n→Region.ready md ops ls = []→∀k,k<n→ls.getD k false=true:=by
  intro ls hs hr k
  induction k using Nat.strongRecOn with
  | ind k ih=>
   intro hk
   cases hl:ls.getD k false with
   | true=>rfl
   | false=>
    have hm:k∈Region.ready md ops ls:=by
     refine mem_ready.2 ⟨?_,ops[k]'(by omega),Array.getElem?_eq_getElem (by omega),fun e he hb=>ih e.on (hdown k _ (Array.getElem?_eq_getElem (by omega)) e he hb) (by have:=hdown k _ (Array.getElem?_eq_getElem (by omega)) e he hb;omega)⟩
     have:k<ls.size:=by omega
     simp [this] at hl ⊢
     exact hl
    rw [hr] at hm;cases hm
 intro fuel
 induction fuel with
 | zero=>
  intro ls σ a w hs hC ⟨S,hS,hSm⟩ hI hh
  have hall:∀k,k<n→ls.getD k false=true:=fun k hk=>by
   cases hl:ls.getD k false with
   | true=>rfl
   | false=>have:=List.length_pos_of_mem (hSm k hk hl);omega
  refine ⟨?_,fin ls σ a w hs hI hh hall⟩
  cases hr:Region.ready md ops ls with
  | nil=>rfl
  | cons i t=>
   have hi:i∈Region.ready md ops ls:=by rw [hr];simp
   obtain ⟨h1,o,ho,_⟩:=mem_ready.1 hi
   have:=hall i (by rw [← hn];exact (Array.getElem?_eq_some_iff.1 ho).1)
   rw [sX h1] at this;cases this
 | succ fuel ih=>
  intro ls σ a w hs hC ⟨S,hS,hSm⟩ hI hh
  refine ⟨fun hr=>fin ls σ a w hs hI hh (prog ls hs hr),fun i hi=>?_⟩
  obtain ⟨h1,o,ho,hall⟩:=mem_ready.1 hi
  have hin:i<n:=by rw [← hn];exact (Array.getElem?_eq_some_iff.1 ho).1
  have hnot:=sX h1
  have before:∀k,k<n→k≠i→pq (rd k,(up k).map Prod.fst) (rd i,(up i).map Prod.fst)=true∨pq (rd i,(up i).map Prod.fst) (rd k,(up k).map Prod.fst)=true→(ls.getD k false=true↔k<i):=by
   intro k hk hne hc
   have sym:∀x y,pq x y=true→pq y x=true:=fun x y h=>by
    unfold pq Fn at *
    simp only [Bool.or_eq_true,List.any_eq_true] at h ⊢
    rcases h with (⟨u,h1,v,h2,h3⟩|⟨u,h1,v,h2,h3⟩)|⟨u,h1,v,h2,h3⟩
    ·exact .inr ⟨v,h2,u,h1,by rw [Nat.eq_of_beq_eq_true h3];simp⟩
    ·exact .inl (.inr ⟨v,h2,u,h1,by rw [Nat.eq_of_beq_eq_true h3];simp⟩)
    ·exact .inl (.inl ⟨v,h2,u,h1,by rw [Nat.eq_of_beq_eq_true h3];simp⟩)
   have hc1:pq (rd k,(up k).map Prod.fst) (rd i,(up i).map Prod.fst)=true:=hc.elim id (sym _ _)
   constructor
   ·intro hl
    rcases Nat.lt_or_ge k i with h|h
    ·exact h
    ·exfalso
     have hr:=hrace i k (by omega) hk (sym _ _ hc1)
     have hok:ops[k]? = some (ops[k]'(by omega)):=Array.getElem?_eq_getElem (by omega)
     have:=ni hC ops.size k _ hok (hC k _ hok hl) hr
     rw [hnot] at this;cases this
   ·intro h
    exact ni hC ops.size i o ho hall (hrace k i h hin hc1)
  refine ((hst i hin).2 o ho).op ho (fun κ hκ=>?_) hh (fun a' w' hh'=>?_)
  ·refine hI.same (base i (by omega)) (fun k hk=>listed_lt ls k hs hk) κ (fun k hkw=>?_)
   by_cases e:k=i
   ·subst e;exact ⟨fun h=>absurd (hnot.symm.trans h) (by decide),fun h=>absurd h (Nat.lt_irrefl _)⟩
   ·by_cases hk:k<n
    ·exact before k hk e (.inl (by unfold pq;rw [Bm (a:=(up k).map Prod.fst) (b:=rd i) hkw hκ];rfl))
    ·exact ⟨fun h=>absurd (listed_lt ls k hs h) hk,fun h=>absurd h (by omega)⟩
  ·refine ih _ _ a' w' (by simp [hs]) (hC.set hi) ⟨S.erase i,?_,fun k hk hl=>?_⟩ (hI.step (fun k=>?_) (fun k κ hk h2 h3=>?_)) hh'
   ·have hm:=hSm i hin hnot
    rw [List.length_erase_of_mem hm];omega
   ·by_cases e:i=k
    ·subst e
     rw [Array.getD_eq_getD_getElem?,Array.getElem?_setIfInBounds_self_of_lt (by omega)] at hl;cases hl
    ·rw [getD_set_ne false e] at hl
     exact (List.mem_erase_of_ne (Ne.symm e)).2 (hSm k hk hl)
   ·exact tn (by omega)
   ·by_cases e:k=i
    ·omega
    ·have:=(before k (listed_lt ls k hs hk) e (.inl (by unfold pq;rw [Bm (a:=(up k).map Prod.fst) (b:=(up i).map Prod.fst) h2 h3];simp))).1 hk
     omega
theorem yx {id:Nat} {σ:Env} {a:Act} {w:World} (hh:Holds W0 N σ a w) (hm:P.follows .mixedOrders=true)
 (h:Der P ops W0 N (fun us σ=>AE .any ops us=true∧∀a w,Holds W0 N σ a w→Q .normal a w) ops.toList [] [] [] σ):(Code.region id ops true).wp P Q a w:=by
 obtain ⟨rd,up,τ,h1,h2,us,h3,_,h5,h6,h7⟩:=Eb _ _ _ h
 simp only [List.length_nil,Nat.zero_add,Array.length_toList] at h1 h2 h3 h5 h6 h7
 unfold AE at h6
 have h8:=List.all_eq_true.1 h6
 refine wp_region_any hm (Bz (md:=.any) rfl h1 (fun k hk=>⟨(h2 k (Nat.zero_le _) hk).1,fun o ho=>(h2 k (Nat.zero_le _) hk).2 o (by simpa using ho)⟩) (fun k o ho e he hb=>?_) (fun j k hjk hk hc=>?_) h7 ops.size _ _ a _ (by simp) (fun k ok hk hl=>?_) ⟨List.range ops.size,by simp,fun k hk _=>List.mem_range.2 hk⟩ (?_:Inv up σ _ σ) hh.drew)
 ·have h9:=h8 k (List.mem_range.2 (Array.getElem?_eq_some_iff.1 ho).1)
  rw [ho,Bool.and_eq_true] at h9
  simp only [Option.map_some,Option.getD_some] at h9
  have:=Array.all_eq_true_iff_forall_mem.1 h9.1 e he
  simpa [hb] using this
 ·have h9:=h8 k (List.mem_range.2 hk)
  rw [Bool.and_eq_true] at h9
  have h10:=List.all_eq_true.1 h9.2 j (List.mem_range.2 hjk)
  rw [List.getD_eq_getElem?_getD,List.getD_eq_getElem?_getD,h5 j (Nat.zero_le _) (by omega),h5 k (Nat.zero_le _) hk] at h10
  simp only [Option.getD_some,hc,Bool.not_true,Bool.false_or] at h10
  exact h10
 ·rw [Array.getD_eq_getD_getElem?] at hl
  by_cases hk':k<ops.size <;> simp [hk'] at hl
 ·have e:(fun k=>(Array.replicate ops.size false).getD k false=true)=fun _=>False:=by
   funext k
   by_cases hk':k<ops.size <;> simp [hk']
  rw [e];exact Inv.zero
end
end Go.Proofs.YtclpbhoekmecjaaGreatDoor
namespace Go.Proofs.YtclpbhoekmecjaaGreatDoor
open Go.RowKit
set_option linter.unusedVariables false
set_option linter.unusedSimpArgs false
theorem Chg.ext {S:BS} {w w':World} (h:Ext w w'):Chg S w w':=⟨h.os,h.tape,h.output,Below.size h,fun b hb _=>h.block b hb⟩
theorem Chg.grown {S:BS} {w w':World} {r:Option Nat} (h:w.grownBy w' r) (hr:∀g,r=some g→S g):Chg S w w':=
 ⟨h.os,h.tape,h.output,h.size,fun b hb hn=>h.block b hb (fun e=>hn (hr b e.symm))⟩
section
variable {W0:cf} {N:Nat} {σ:Env} {a:Act} {w w':World} {c:Cx}
theorem Chg.toExt {w w':World} (h:Chg (fun _=>False) w w'):Ext w w':=⟨h.os,h.tape,h.output,h.size,fun b hb=>h.block b hb id⟩
theorem Chg.more {S:BS} {w w' w'':World} (h:Chg S w w') (hg:Ext w' w''):Chg S w w'':=⟨hg.os.trans h.os,hg.tape.trans h.tape,hg.output.trans h.output,Nat.le_trans h.size (Below.size hg),fun b hb hn=>(hg.block b (Nat.lt_of_lt_of_le hb h.size)).trans (h.block b hb hn)⟩
theorem aL.ext' (h:aL W0 N σ a w c) {S:BS} (hg:Chg S w w') (hS:∀b,S b→W0.M b∨W0.w.heap.size≤b):Chg W0.M W0.w w':=by
 have hx:=h.ext
 refine ⟨hg.os.trans hx.os,hg.tape.trans hx.tape,hg.output.trans hx.output,Nat.le_trans hx.size hg.size,fun k hk hn=>?_⟩
 exact (hg.block k (Nat.lt_of_lt_of_le hk hx.size) (fun hs=>(hS k hs).elim hn (Nat.not_le.2 hk))).trans (hx.block k hk hn)
theorem aL.agF (h:aL W0 N σ a w c) {S:BS} (hg:Chg S w w') (hS:∀b,S b→¬c.F b):fR c.F w w':=
 fun b hb hl=>hg.block b hl (fun hs=>hS b hs hb)
theorem aL.eff (h:aL W0 N σ a w c) {τ:Env} {i:Nat} {t:Tk} (hi:au σ i=some (.tk t)) (hg:Chg (c.T i) w w') (F':BS) (hF:∀b,c.F b→F' b) (hF':∀b,F' b→c.F b∨c.T i b∨w.heap.size≤b) (hFl:∀b,F' b→b<w'.heap.size) :
 aL W0 N ((i,.no) :: σ) a w' { c with F:=F' }:=by
 obtain ⟨_,_,hti⟩:=h.tok i t hi
 have hS:∀b,c.T i b→¬c.F b:=fun b hb=>(hti b hb).1
 have hle:Cx.Le c { c with F:=F' }:=⟨hF,fun _ h=>⟨h,rfl⟩⟩
 have hag:=h.agF hg hS
 have old:∀j u,au ((i,.no) :: σ) j=some (.tk u)→i≠j∧au σ j=some (.tk u):=fun j u hj=>by
  rw [ah] at hj
  split at hj
  ·cases hj
  ·exact ⟨by assumption,hj⟩
 have hge:∀b,c.T i b→W0.M b∨W0.w.heap.size≤b:=fun b hb=>(hti b hb).2.2
 refine ⟨h.ext' hg hge,fun b hb=>(hF' b hb).elim (h.old b) (fun h'=>.inr (h'.elim (hge b) (fun h'=>.inr (Nat.le_trans h.ext.size h')))),hFl,h.size,h.defers,fun j hj=>?_,fun j u hj=>?_,fun j k u v hj hk hne b=>?_,fun t s ht=>?_⟩
 ·rw [ah];split
  ·simp
  ·exact h.all j hj
 ·obtain ⟨hne,hj⟩:=old j u hj
  obtain ⟨k1,k2,k3⟩:=h.tok j u hj
  refine ⟨k1,Tk.keep hle hg.size hag (fun b hb hl=>hg.block b hl (fun hs=>h.off i j t u hi hj hne b hs hb)) u _ k2,fun b hb=>⟨fun hf=>?_,Nat.lt_of_lt_of_le (k3 b hb).2.1 hg.size,(k3 b hb).2.2⟩⟩
  rcases hF' b hf with h1|h1|h1
  ·exact (k3 b hb).1 h1
  ·exact h.off i j t u hi hj hne b h1 hb
  ·have:=(k3 b hb).2.1;omega
 ·exact h.off j k u v (old j u hj).2 (old k v hk).2 hne b
 ·rw [ah] at ht
  split at ht
  ·cases ht
  ·obtain ⟨v,h1,h2⟩:=h.tmp t s ht
   exact ⟨v,h1,Sy.keep hle hag s v h2⟩
theorem aL.grow (h:aL W0 N σ a w c) (hg:Ext w w') (F':BS) (hF:∀b,c.F b→F' b) (hF':∀b,F' b→c.F b∨w.heap.size≤b) (hFl:∀b,F' b→b<w'.heap.size) :
 aL W0 N σ a w' { c with F:=F' }:=by
 have hle:Cx.Le c { c with F:=F' }:=⟨hF,fun _ h=>⟨h,rfl⟩⟩
 have ag:∀S:BS,fR S w w':=fun S b _ hl=>hg.block b hl
 refine ⟨h.ext.more hg,fun b hb=>(hF' b hb).elim (h.old b) (fun h'=>.inr (.inr (Nat.le_trans h.ext.size h'))),hFl,h.size,h.defers,h.all,fun j u hj=>?_,h.off,fun t s ht=>?_⟩
 ·obtain ⟨k1,k2,k3⟩:=h.tok j u hj
  refine ⟨k1,Tk.keep hle (Below.size hg) (ag _) (ag _) u _ k2,fun b hb=>⟨fun hf=>?_,Nat.lt_of_lt_of_le (k3 b hb).2.1 (Below.size hg),(k3 b hb).2.2⟩⟩
  rcases hF' b hf with h1|h1
  ·exact (k3 b hb).1 h1
  ·have:=(k3 b hb).2.1;omega
 ·obtain ⟨v,h1,h2⟩:=h.tmp t s ht
  exact ⟨v,h1,Sy.keep hle (ag _) s v h2⟩
theorem aL.freeze (h:aL W0 N σ a w c) {i:Nat} {t:Tk} (hi:au σ i=some (.tk t)):aL W0 N ((i,.no) :: σ) a w { c with F:=fun b=>c.F b∨c.T i b }:=
 h.eff (τ:=[]) hi ⟨rfl,rfl,rfl,Nat.le_refl _,fun _ _ _=>rfl⟩ _ (fun _ h=>.inl h) (fun b hb=>hb.elim .inl (fun h=>.inr (.inl h))) (fun b hb=>hb.elim (h.lt b) (fun hT=>((h.tok i t hi).2.2 b hT).2.1))
def Cx.add (c:Cx) (i:Nat) (v:Value) (S:BS):Cx:=⟨c.F,fun j=>if j=i then v else c.ρ j,fun j=>if j=i then S else c.T j,fun j=>c.A j∨j=i⟩
theorem Cx.add_le {i:Nat} {v:Value} {S:BS} (hA:¬c.A i):c.Le (c.add i v S):=⟨fun _ h=>h,fun j hj=>⟨.inl hj,by unfold Cx.add;dsimp only;rw [if_neg (fun e=>hA (by rw [← e];exact hj))]⟩⟩
theorem aL.new (h:aL W0 N σ a w c) {i:Nat} (hi:au σ i=none) {t:Tk} {v:Value} {S:BS} (ht:t.ok c w v S) (hS:∀b,S b→¬c.F b∧b<w.heap.size∧(W0.M b∨W0.w.heap.size≤b)) (hoff:∀j u,au σ j=some (.tk u)→∀b,S b→¬c.T j b) :
 aL W0 N ((i,.tk t) :: σ) a w (c.add i v S):=by
 have hA:¬c.A i:=fun hA=>h.all i hA hi
 have hle:=Cx.add_le (v:=v) (S:=S) hA
 have ag:∀S:BS,fR S w w:=fun S b _ hl=>rfl
 have e1:(c.add i v S).ρ i=v:=if_pos rfl
 have e2:(c.add i v S).T i=S:=if_pos rfl
 have e3:∀j,j≠i→(c.add i v S).ρ j=c.ρ j∧(c.add i v S).T j=c.T j:=fun j hj=>⟨if_neg hj,if_neg hj⟩
 refine ⟨h.ext,h.old,h.lt,h.size,h.defers,fun j hj=>?_,fun j u hj=>?_,fun j k u x hj hk hne b=>?_,fun t' s ht'=>?_⟩
 ·rw [ah];split
  ·simp
  ·exact h.all j (hj.resolve_right (fun e=>by rename_i h';exact h' e.symm))
 ·rw [ah] at hj
  by_cases e:i=j
  ·subst e
   rw [if_pos rfl] at hj;cases hj
   rw [e1,e2]
   exact ⟨.inr rfl,Tk.keep hle (Nat.le_refl _) (ag _) (ag _) _ _ ht,hS⟩
  ·rw [if_neg e] at hj
   obtain ⟨k1,k2,k3⟩:=h.tok j u hj
   obtain ⟨e4,e5⟩:=e3 j (Ne.symm e)
   rw [e4,e5]
   exact ⟨.inl k1,Tk.keep hle (Nat.le_refl _) (ag _) (ag _) _ _ k2,k3⟩
 ·rw [ah] at hj hk
  by_cases e:i=j
  ·subst e
   rw [if_neg hne] at hk
   rw [e2,(e3 k (Ne.symm hne)).2]
   exact hoff k x hk b
  ·rw [if_neg e] at hj
   rw [(e3 j (Ne.symm e)).2]
   by_cases e':i=k
   ·subst e'
    rw [e2]
    exact fun h1 h2=>hoff j u hj b h2 h1
   ·rw [if_neg e'] at hk
    rw [(e3 k (Ne.symm e')).2]
    exact h.off j k u x hj hk hne b
 ·rw [ah] at ht'
  split at ht'
  ·cases ht'
  ·obtain ⟨x,h1,h2⟩:=h.tmp t' s ht'
   exact ⟨x,h1,Sy.keep hle (ag _) s x h2⟩
theorem aL.upd (h:aL W0 N σ a w c) {i:Nat} {t u:Tk} (hi:au σ i=some (.tk t)) (hg:Chg (c.T i) w w') (hsz:w'.heap.size=w.heap.size) (hu:fR c.F w w'→u.ok c w' (c.ρ i) (c.T i)) :
 aL W0 N ((i,.tk u) :: σ) a w' c:=by
 obtain ⟨hAi,_,hti⟩:=h.tok i t hi
 have hS:∀b,c.T i b→¬c.F b:=fun b hb=>(hti b hb).1
 have hag:=h.agF hg hS
 refine ⟨h.ext' hg (fun b hb=>(hti b hb).2.2),h.old,fun b hb=>by rw [hsz];exact h.lt b hb,h.size,h.defers,fun j hj=>?_,fun j x hj=>?_,fun j k x y hj hk hne b=>?_,fun t' s ht'=>?_⟩
 ·rw [ah];split
  ·simp
  ·exact h.all j hj
 ·rw [ah] at hj
  by_cases e:i=j
  ·subst e
   rw [if_pos rfl] at hj;cases hj
   exact ⟨hAi,hu hag,fun b hb=>⟨(hti b hb).1,by rw [hsz];exact (hti b hb).2.1,(hti b hb).2.2⟩⟩
  ·rw [if_neg e] at hj
   obtain ⟨k1,k2,k3⟩:=h.tok j x hj
   exact ⟨k1,Tk.keep (Cx.Le.refl c) hg.size hag (fun b hb hl=>hg.block b hl (fun hs=>h.off i j t x hi hj e b hs hb)) x _ k2,fun b hb=>⟨(k3 b hb).1,by rw [hsz];exact (k3 b hb).2.1,(k3 b hb).2.2⟩⟩
 ·have conv:∀j x,au ((i,.tk u) :: σ) j=some (.tk x)→∃x',au σ j=some (.tk x'):=fun j x hj=>by
   rw [ah] at hj
   by_cases e:i=j
   ·subst e;exact ⟨t,hi⟩
   ·rw [if_neg e] at hj;exact ⟨x,hj⟩
  obtain ⟨x',hx'⟩:=conv j x hj
  obtain ⟨y',hy'⟩:=conv k y hk
  exact h.off j k x' y' hx' hy' hne b
 ·rw [ah] at ht'
  split at ht'
  ·cases ht'
  ·obtain ⟨x,h1,h2⟩:=h.tmp t' s ht'
   exact ⟨x,h1,Sy.keep (Cx.Le.refl c) hag s x h2⟩
end
def ev (σ:Env):Operand→Option Sy
 | .tmp t=>match au σ t with
  | some (.sy s)=>some s
  | _=>none
 | .const v=>some (.v v)
 | .func f=>some (.d (.f f []))
 | _=>none
def kx:Operand→List Nat
 | .tmp t=>[t]
 | _=>[]
theorem af {σ σ':Env} {x:Operand} {s:Sy} (he:ev σ x=some s) (hk:∀κ∈kx x,au σ' κ=au σ κ):ev σ' x=some s:=by
 cases x with
 | tmp t=>
  have:=hk t (by simp [kx])
  unfold ev at he ⊢
  dsimp only at he ⊢
  rw [this];exact he
 | const v=>exact he
 | func f=>exact he
 | _=>cases he
theorem av {W0:cf} {N:Nat} {σ:Env} {a:Act} {w:World} {c:Cx} {x:Operand} {s:Sy} (h:aL W0 N σ a w c) (he:ev σ x=some s):s.ok c w (a.eval x):=by
 cases x with
 | tmp t=>
  unfold ev at he
  dsimp only at he
  split at he
  ·rename_i s' hs
   cases he
   obtain ⟨v,h1,h2⟩:=h.tmp t _ hs
   have:a.eval (.tmp t)=v:=by simp [Act.eval,Array.getD_eq_getD_getElem?,h1]
   rw [this];exact h2
  ·cases he
 | const v=>cases he;exact rfl
 | func f=>cases he;exact ⟨[],rfl,rfl⟩
 | _=>cases he
def aM (σ:Env) (d:Nat):Bool:=match au σ d with
 | none=>true
 | some (.sy _)=>true
 | _=>false
theorem mo {σ:Env} {d:Nat} (h:aM σ d=true):au σ d=none∨∃s,au σ d=some (.sy s):=by
 unfold aM at h
 split at h
 ·exact .inl (by assumption)
 ·exact .inr ⟨_,by assumption⟩
 ·cases h
def gst (ops:Array Oper) (σ:Env):Option (Nat × Bool)→Option (Bool × List Nat)
 | none=>some (true,[])
 | some (j,want)=>match (ops[j]?).bind (·.dst) with
  | some d=>match au σ d with
   | some (.sy (.d (.b x)))=>some (x == want,[d])
   | some (.sy (.v (.bool x)))=>some (x == want,[d])
   | _=>none
  | none=>none
theorem wo {ops:Array Oper} {W0:cf} {N:Nat} {σ σ':Env} {a:Act} {w:World} {o:Oper} {b:Bool} {gk:List Nat} (hg:gst ops σ o.guard=some (b,gk)) (hk:∀κ∈gk,au σ' κ=au σ κ) (h:Holds W0 N σ' a w):Region.wanted o (yielded ops a.tmps)=b:=by
 unfold Region.wanted
 cases hgd:o.guard with
 | none=>rw [hgd] at hg;cases hg;rfl
 | some p=>
  obtain ⟨j,want⟩:=p
  rw [hgd] at hg
  unfold gst at hg
  dsimp only at hg ⊢
  unfold yielded
  cases hd:(ops[j]?).bind (·.dst) with
  | none=>rw [hd] at hg;cases hg
  | some d=>
   rw [hd] at hg
   dsimp only at hg
   obtain ⟨c,h⟩:=h
   split at hg
   ·rename_i x hx
    cases hg
    obtain ⟨v,h1,h2⟩:=h.tmp d _ (by rw [hk d (by simp)];exact hx)
    have:v=.bool x:=by simpa [Sy.ok,DV,Rp] using h2
    subst this
    simp only [Option.bind_some,h1]
    cases x <;> cases want <;> rfl
   ·rename_i x hx
    cases hg
    obtain ⟨v,h1,h2⟩:=h.tmp d _ (by rw [hk d (by simp)];exact hx)
    have:v=.bool x:=h2
    subst this
    simp only [Option.bind_some,h1]
    cases x <;> cases want <;> rfl
   ·cases hg
section
variable {P:Program} {ops:Array Oper} {W0:cf} {N:Nat} {Fin:Us→Env→Prop} {os:List Oper} {us:Us} {pk fk:List Nat} {σ:Env} {g:Option (Nat × Bool)} {gk:List Nat} {d ty:Nat} {pos:String} {after:Array Edge} {op:Op}
theorem b6 (s:Sy) (keys:List Nat) (hex:∀(σ':Env) (c:Cx) (a:Act) (w:World),(∀κ∈keys,au σ' κ=au σ κ)→aL W0 N σ' a w c→∃v,(execOp a.eval ⟨some d,op,ty,pos,after,g⟩).run P w=.ok (.value v) w∧s.ok c w v)
 (h:Der P ops W0 N Fin os (us++[((d :: (gk++keys))++pk,([d])++fk)]) [] [] ((d,.sy s) :: σ)) (hg:gst ops σ g=some (true,gk):=by rfl) (hN:Nat.blt d N=true:=by rfl) (hs:aM σ d=true:=by rfl):Der P ops W0 N Fin (⟨some d,op,ty,pos,after,g⟩ :: os) us pk fk σ:=by
 refine ⟨d :: (gk++keys),[(d,.sy s)],fun σ' a w hk hh=>.inl ⟨wo (o:=⟨some d,op,ty,pos,after,g⟩) hg (fun κ hκ=>hk κ (by simp [hκ])) hh,?_⟩,h⟩
 obtain ⟨c,hc⟩:=hh
 obtain ⟨v,h1,h2⟩:=hex σ' c a w (fun κ hκ=>hk κ (by simp [hκ])) hc
 unfold Oper.wp
 rw [h1]
 exact ⟨c,hc.put (Nat.blt_eq.mp hN) h2 (by rw [hk d (by simp)];exact mo hs)⟩
theorem sNo (h:Der P ops W0 N Fin os (us++[((d :: gk)++pk,([d])++fk)]) [] [] ((d,.sy (.v undef)) :: σ)) (hg:gst ops σ g=some (false,gk):=by rfl) (hN:Nat.blt d N=true:=by rfl) (hs:aM σ d=true:=by rfl):Der P ops W0 N Fin (⟨some d,op,ty,pos,after,g⟩ :: os) us pk fk σ:=by
 refine ⟨d :: gk,[(d,.sy (.v undef))],fun σ' a w hk hh=>.inr ⟨wo (o:=⟨some d,op,ty,pos,after,g⟩) hg (fun κ hκ=>hk κ (by simp [hκ])) hh,?_⟩,h⟩
 obtain ⟨c,hc⟩:=hh
 exact ⟨c,hc.put (Nat.blt_eq.mp hN) rfl (by rw [hk d (by simp)];exact mo hs)⟩
theorem me (s:Sy) (keys:List Nat) (upd:Env) (hex:∀(σ':Env) (c:Cx) (a:Act) (w:World),(∀κ∈keys,au σ' κ=au σ κ)→aL W0 N σ' a w c →
 Oper.wp P ⟨some d,op,ty,pos,after,g⟩ a w (fun a' w'=>∃v c',a'=a.put (some d) v∧aL W0 N (upd++σ') a w' c'∧s.ok c' w' v) (fun _ _ _=>False))
 (h:Der P ops W0 N Fin os (us++[((d :: (gk++keys))++pk,(d :: upd.map Prod.fst)++fk)]) [] [] ((d,.sy s) :: (upd++σ))) (hg:gst ops σ g=some (true,gk):=by rfl) (hN:Nat.blt d N=true:=by rfl) (hs:aM (upd++σ) d=true:=by rfl) (hu:upd.all (fun p=>!(Nat.beq p.1 d))=true:=by rfl):Der P ops W0 N Fin (⟨some d,op,ty,pos,after,g⟩ :: os) us pk fk σ:=by
 refine ⟨d :: (gk++keys),(d,.sy s) :: upd,fun σ' a w hk hh=>.inl ⟨wo (o:=⟨some d,op,ty,pos,after,g⟩) hg (fun κ hκ=>hk κ (by simp [hκ])) hh,?_⟩,h⟩
 obtain ⟨c,hc⟩:=hh
 refine Oper.wp_mono ?_ (hex σ' c a w (fun κ hκ=>hk κ (by simp [hκ])) hc)
 rintro a' w' ⟨v,c',rfl,h1,h2⟩
 refine ⟨c',h1.put (Nat.blt_eq.mp hN) h2 ?_⟩
 have hnd:d ∉ upd.map Prod.fst:=fun hm=>by
  obtain ⟨p,hp,he⟩:=List.mem_map.1 hm
  have:=List.all_eq_true.1 hu p hp
  rw [he] at this;simp at this
 rw [lT hnd,hk d (by simp)]
 have:=mo hs
 rw [lT hnd] at this
 exact this
theorem lI (keys:List Nat) (upd:Env) (hex:∀(σ':Env) (c:Cx) (a:Act) (w:World),(∀κ∈keys,au σ' κ=au σ κ)→aL W0 N σ' a w c →
 Oper.wp P ⟨none,op,ty,pos,after,g⟩ a w (fun a' w'=>a'=a∧∃c',aL W0 N (upd++σ') a w' c') (fun _ _ _=>False))
 (h:Der P ops W0 N Fin os (us++[((gk++keys)++pk,(upd.map Prod.fst)++fk)]) [] [] (upd++σ)) (hg:gst ops σ g=some (true,gk):=by rfl):Der P ops W0 N Fin (⟨none,op,ty,pos,after,g⟩ :: os) us pk fk σ:=by
 refine ⟨gk++keys,upd,fun σ' a w hk hh=>.inl ⟨wo (o:=⟨none,op,ty,pos,after,g⟩) hg (fun κ hκ=>hk κ (by simp [hκ])) hh,?_⟩,h⟩
 obtain ⟨c,hc⟩:=hh
 refine Oper.wp_mono ?_ (hex σ' c a w (fun κ hκ=>hk κ (by simp [hκ])) hc)
 rintro a' w' ⟨rfl,c',h1⟩
 exact ⟨c',h1⟩
end
end Go.Proofs.YtclpbhoekmecjaaGreatDoor
