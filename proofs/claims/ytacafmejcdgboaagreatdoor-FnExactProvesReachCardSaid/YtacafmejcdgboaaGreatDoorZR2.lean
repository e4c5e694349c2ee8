/-
  Proved facts that the law leans on.
-/
import Derived.WalkKit
import Derived.Lib.Hide
import Derived.Deep.QuietTactic
import Derived.BigQuiet
import Derived.Lib.Strings
import Derived.Lib.IndexMore
import Derived.Lib.Bytealg
import Derived.Lib.ItoaNum
import Derived.Lib.ItoaMem
import Derived.Lib.ItoaLen
import Derived.Lib.LaidTab
import Derived.Sort.Grow
import Derived.Deep.RegionHeld3
import Derived.KernelRfl
import Derived.Lib.SmallJoins
import Derived.Deep.AppendLies
import Derived.Maps.AppendAt
import Derived.Laws.AppendOwnNone
import Derived.WideShapes
import Derived.ChangeSlices
import Derived.OpenShut
import Derived.Laws.IdiomStrings
import Derived.Deep.MidRow
import Derived.Laws.Tables
namespace Go.Proofs.YtacafmejcdgboaaGreatDoor
open Go.RowKit
set_option linter.unusedVariables false
set_option linter.unusedSimpArgs false
theorem ap {a b:Bool} (h:a=b):Ending.returned (.bool a)=.returned (.bool b):=by rw [h]
theorem Ak (s:ByteArray) (k:Nat) (h:k<s.size):s.data.toList.take (k+1)=s.data.toList.take k++[s[k]]:=by
 rw [List.take_succ_eq_append_getElem (by simpa using h)];rfl
theorem Bu (s:ByteArray) (k:Nat) (h:¬k<s.size):s.data.toList.take k=s.data.toList:=
 List.take_of_length_le (by simp;omega)
theorem E9 (s:ByteArray) (p:UInt8→Bool) (k:Nat) (h:k<s.size) (hp:p s[k]=false):s.data.toList.all p=false:=by
 rw [List.all_eq_false]
 refine ⟨s[k],?_,by simp [hp]⟩
 exact List.getElem_mem (l:=s.data.toList) (n:=k) (by simpa using h)
theorem Dx (s:ByteArray) (k:Nat) (h:k<s.size):(s[k].toNat:Int)<256:=by have:=s[k].toNat_lt;omega
theorem F7 {W w1:World} (hb:Below W.heap.size W w1):(∀b o,b<W.heap.size→w1.cell? ⟨b,o,none⟩=W.cell? ⟨b,o,none⟩)∧(∀b o,b<W.heap.size→w1.frozen? ⟨b,o,none⟩=W.frozen? ⟨b,o,none⟩):=
 ⟨fun b o h=>hb.cell (p:=⟨b,o,none⟩) h,fun b o h=>hb.frozen (p:=⟨b,o,none⟩) h⟩
def Ext (a w:World):Prop:=Below a.heap.size a w
theorem Ext.refl (a:World):Ext a a:=Below.refl _ _
theorem Ext.alloc {a w:World} (h:Ext a w) (o:Obj):Ext a (w.alloc o):=Below.alloc h (Below.size h) o
theorem Ext.drew {a w:World} (h:Ext a w):Ext a w.drew:=Below.drew h
theorem Ext.drewN {a w:World} (h:Ext a w):∀n,Ext a (w.drewN n):=fun n=>⟨h.os,h.tape,h.output,h.size,h.block⟩
theorem Ext.trans {a b c:World} (h:Ext a b) (k:Ext b c):Ext a c:=Below.trans h (Below.mono k (Below.size h))
theorem Ext.setCell {a w:World} (h:Ext a w) {p:Addr} (hp:a.heap.size≤p.block) (u:Value):Ext a (w.setCell p u):=Below.setCell h hp u
def Dw (w:World) (b o:Nat):Option Value:=w.cell? ⟨b,o,none⟩
def EA (w:World) (b o:Nat):Bool:=w.frozen? ⟨b,o,none⟩
theorem Ext.cells {W w1:World} (hb:Ext W w1):(∀b o,w1.cell? ⟨b,o,none⟩=if b<W.heap.size then W.cell? ⟨b,o,none⟩ else Dw w1 b o)∧(∀b o,w1.frozen? ⟨b,o,none⟩=if b<W.heap.size then W.frozen? ⟨b,o,none⟩ else EA w1 b o)∧W.heap.size≤w1.heap.size:=by
 refine ⟨fun b o=>?_,fun b o=>?_,Below.size hb⟩
 ·split
  ·exact (F7 hb).1 b o (by assumption)
  ·rfl
 ·split
  ·exact (F7 hb).2 b o (by assumption)
  ·rfl
def inR (n a b:Int):Bool:=decide (a≤n) && decide (n≤b)
def FD (c:UInt8):Bool:=inR (c.toNat:Int) 32 126 && !((c.toNat:Int) == 35)
def x8 (s:ByteArray):Bool:=s.data.toList.all FD
def DL (s:ByteArray) (b:Int):Bool:=s.data.toList.any (fun c=>(c.toNat:Int) == b)
def GZ (s:ByteArray) (m:Int):Bool:=decide ((s.size:Int)≤m)
def G5 (c:ByteArray):Bool:=inR (c.size:Int) 1 160 && x8 c && !DL c 64
def G9 (c r:ByteArray):Bool:=G5 c && GZ r 200 && x8 r
theorem Ext.keep {a w:World} (h:Ext a w) {p:Addr} {v:Value} (hc:a.cell? p=some v):w.cell? p=some v:=
 (Below.cell h (World.block_lt_of_cell? a p hc)).trans hc
def GR (n:Int):ByteArray:=⟨(Lib.itoa n).toArray⟩
def G8 (h:Int) (l:List UInt8):Int:=l.foldl (fun h c=>(41 * h+(c.toNat:Int)+1) % 999979) h
def Hg (s:ByteArray):Int:=G8 7 s.data.toList
def Gu (s:ByteArray):ByteArray:=s ++ ⟨#[35]⟩++GR (Hg s)
section
variable {P:Program} {md:_} {ops:Array Oper} {Q:Exit→Act→World→Prop} {S:World→Prop}
theorem tkP (i:Nat) (v:Value) {oi:Oper} {fuel:Nat} {listed:Array Bool} {a:Act} {w:World} (hy:∀w,(execOp a.eval oi).run P w=.ok (.value v) w)
 (h:wpAnyH P md ops Q S fuel (listed.setIfInBounds i true) (a.put oi.dst v) w) (hi:ops[i]? = some oi:=by rfl) (hs:Region.noSelect ops=true:=by kernel_rfl)
 (hf:Region.free md ops listed i=true:=by kernel_rfl) (hr:(Region.ready md ops listed).contains i=true:=by kernel_rfl) (hQ:∀c a w,Q (.panic c) (a.put oi.dst v) w→Q (.panic c) a w:=by exact fun _ _ _ h=>h)
 (hw:Region.wanted oi (yielded ops a.tmps)=true:=by rfl) (hS:S w:=by assumption):wpAnyH P md ops Q S (fuel+1) listed a w:=
 wpAnyH_take hi hs hf hr hQ (.inl ⟨hw,fun w _=>hy w⟩) hS h
theorem tkY (i:Nat) (v:Value) {oi:Oper} {fuel:Nat} {listed:Array Bool} {a:Act} {w:World} (hy:∀w,S w→(execOp a.eval oi).run P w=.ok (.value v) w)
 (h:wpAnyH P md ops Q S fuel (listed.setIfInBounds i true) (a.put oi.dst v) w) (hi:ops[i]? = some oi:=by rfl) (hs:Region.noSelect ops=true:=by kernel_rfl)
 (hf:Region.free md ops listed i=true:=by kernel_rfl) (hr:(Region.ready md ops listed).contains i=true:=by kernel_rfl) (hQ:∀c a w,Q (.panic c) (a.put oi.dst v) w→Q (.panic c) a w:=by exact fun _ _ _ h=>h)
 (hw:Region.wanted oi (yielded ops a.tmps)=true:=by rfl) (hS:S w:=by assumption):wpAnyH P md ops Q S (fuel+1) listed a w:=
 wpAnyH_take hi hs hf hr hQ (.inl ⟨hw,hy⟩) hS h
theorem tkN (i:Nat) {oi:Oper} {fuel:Nat} {listed:Array Bool} {a:Act} {w:World}
 (h:wpAnyH P md ops Q S fuel (listed.setIfInBounds i true) (a.put oi.dst undef) w) (hi:ops[i]? = some oi:=by rfl) (hs:Region.noSelect ops=true:=by kernel_rfl)
 (hf:Region.free md ops listed i=true:=by kernel_rfl) (hr:(Region.ready md ops listed).contains i=true:=by kernel_rfl) (hQ:∀c a w,Q (.panic c) (a.put oi.dst undef) w→Q (.panic c) a w:=by exact fun _ _ _ h=>h)
 (hw:Region.wanted oi (yielded ops a.tmps)=false:=by rfl) (hS:S w:=by assumption):wpAnyH P md ops Q S (fuel+1) listed a w:=
 wpAnyH_take hi hs hf hr hQ (.inr ⟨hw,rfl⟩) hS h
end
theorem aH:(∀(α:Type) (l:List α) (i:Nat) (h:i<l.toArray.size),l.toArray[i]=l[i]'(by simpa using h))∧(∀(α:Type) (l:List α) (i:Nat) (a:α),l.toArray.setIfInBounds i a=(l.set i a).toArray)∧(∀(α:Type) (a:α) (as:List α) (h:0<(a :: as).length),(a :: as)[0]=a)∧(∀(α:Type) (a:α) (as:List α) (i:Nat) (h:i+1<(a :: as).length),(a :: as)[i+1]=as[i]'(by simpa using h))∧(∀(α:Type) (x:α) (xs:List α) (b:α),(x :: xs).set 0 b=b :: xs)∧(∀(α:Type) (x:α) (xs:List α) (n:Nat) (b:α),(x :: xs).set (n+1) b=x :: xs.set n b):=
 ⟨fun _ _ _ _=>by simp,fun _ _ _ _=>by simp,fun _ _ _ _=>rfl,fun _ _ _ _ _=>rfl,fun _ _ _ _=>rfl,fun _ _ _ _ _=>rfl⟩
theorem Xr (w:World):Ext w w:=Ext.refl w
theorem Xa {a w:World} (h:Ext a w) (o:Obj):Ext a (w.alloc o):=Ext.alloc h o
theorem Xd {a w:World} (h:Ext a w):Ext a w.drew:=Ext.drew h
theorem Xn {a w:World} (h:Ext a w) (n:Nat):Ext a (w.drewN n):=Ext.drewN h n
theorem Xt {a b w:World} (h:Ext a b) (k:Ext b w):Ext a w:=Ext.trans h k
theorem Xs {a w:World} (h:Ext a w) {p:Addr} {u:Value} (hb:a.heap.size≤p.block:=by first|(simp only [World.size_alloc,World.size_setCell];omega)|omega):Ext a (w.setCell p u):=Ext.setCell h hb u
theorem xw {a w:World} (h:Ext a w:=by (repeat first|(with_reducible first|assumption|exact Xr _|refine Xa ?_ _|refine Xd ?_|refine Xn ?_ _)|refine Xs ?_|with_reducible refine Xt ?_ (by assumption))):Ext a w:=h
end Go.Proofs.YtacafmejcdgboaaGreatDoor
namespace Go.Proofs.YtacafmejcdgboaaGreatDoor
open Go.RowKit
set_option linter.unusedVariables false
set_option linter.unusedSimpArgs false
def Gr (k:Int) (c r:ByteArray):ByteArray:=GR k ++ ⟨#[32]⟩++c ++ ⟨#[64]⟩++r
def GF (k:Int) (c r:ByteArray):ByteArray:=Gu (Gr k c r) ++ ⟨#[10]⟩
def Gq (k:Int) (c r:ByteArray):Bool:=inR k 0 59 && G9 c r
def encStr (k:Int) (c r:ByteArray):ByteArray:=if Gq k c r then GF k c r else ⟨#[]⟩
end Go.Proofs.YtacafmejcdgboaaGreatDoor
namespace Go.Proofs.YtacafmejcdgboaaGreatDoor
open Go.RowKit
set_option linter.unusedVariables false
set_option linter.unusedSimpArgs false
theorem nG {w w1:World} {base:Nat} {e:TypeId} {size:Nat} {v:Value} {n:Nat} {xs:List Value} (h:w.ownsRow base e size v n xs) (hb:Ext w w1):w1.ownsRow base e size v n xs:=
 h.kept (w':=w1) (row:=none) ⟨hb.os,hb.tape,hb.output,Below.size hb,fun k hk _=>hb.block k hk⟩ (by cases v.ownBlock <;> simp)
theorem Ext.grown {a w w':World} {v:Value} {base:Nat} {e:TypeId} {size n:Nat} {xs:List Value} (h:Ext a w) (hg:w.grownBy w' v.ownBlock) (ho:w.ownsRow base e size v n xs) (hb:a.heap.size≤base):Ext a w':=
 Below.grown h hg (Below.size h) fun k hk=>Nat.le_trans hb (ho.lt k hk).1
theorem ig {w:World} {b:Nat} {cs:List Value} {t:TypeId} (hb:b=w.heap.size):∀j u,cs[j]? = some u→(w.alloc (.cells cs.toArray t)).cell? ((⟨b,0,none⟩:Addr).add j)=some u:=by
 intro j u h
 subst hb
 have e:((⟨w.heap.size,0,none⟩:Addr).add j)=⟨w.heap.size,j,none⟩:=by
  cases j <;> simp [Addr.add]
 rw [e,World.cell?_alloc_at cs.toArray t w.heap.size j rfl]
 simpa using h
theorem pQ {w:World} {base g cap:Nat} {e:TypeId} {size n:Nat} {xs:List Value} (h:w.ownsRow base e size (.slice (some ⟨g,0,none⟩) n cap) n xs) (j:Nat) (u:Value) (hj:xs[j]? = some u):w.cell? ⟨g,j,none⟩=some u:=by
 have h:=h.cells (g:=g) rfl j u hj
 have e:((⟨g,0,none⟩:Addr).add j)=⟨g,j,none⟩:=by cases j <;> simp [Addr.add]
 rw [e] at h
 exact h
theorem Ext.mark {W w1:World} (h:Ext W w1) {b o:Nat} {v:Value} {x:Bool} (hc:W.cell? ⟨b,o,none⟩=some v) (hf:W.frozen? ⟨b,o,none⟩=x):w1.frozen? ⟨b,o,none⟩=x:=
 (Below.frozen (p:=⟨b,o,none⟩) h (World.block_lt_of_cell? W ⟨b,o,none⟩ hc)).trans hf
theorem vQ {w:World} {base g n cap:Nat} {e:TypeId} {size:Nat} {xs:List Value} (h:w.ownsRow base e size (.slice (some ⟨g,0,none⟩) n cap) n xs):base≤g∧g<w.heap.size:=h.lt g rfl
end Go.Proofs.YtacafmejcdgboaaGreatDoor
namespace Go.Proofs.YtacafmejcdgboaaGreatDoor
open Go.RowKit
set_option linter.unusedVariables false
set_option linter.unusedSimpArgs false
structure Ctl where
 name:ByteArray
 ports:Int
 kind:Int
structure Nd where
 control:Int
 parent:Int
 links:List Int
structure Wr where
 name:ByteArray
 link:Int
structure Big where
 roots:Int
 nodes:List Nd
 sites:List Int
 edges:Int
 outer:List ByteArray
 inner:List Wr
structure Rul where
 redex:Big
 reactum:Big
 copies:List Int
structure Srt where
 tops:List Int
 nest:List (List Int)
 sorts:List (List Int)
 most:List Int
 apart:List (Int × Int)
structure Rnt where
 sig:List Ctl
 sort:Srt
 rules:List Rul
 hosts:List ByteArray
 agent:Big
 count:Int
def I64 (x:Int):Prop:=-9223372036854775808≤x∧x≤9223372036854775807
def wtL {α:Type} (f:α→Nat) (l:List α):Nat:=l.length+(l.map f).sum
def fW (c:Ctl):Nat:=c.name.size
def iX (s:ByteArray):Nat:=s.size
def mT (x:Wr):Nat:=x.name.size
def kv (n:Nd):Nat:=n.links.length
def eD (b:Big):Nat:=wtL kv b.nodes+b.sites.length+wtL iX b.outer+wtL mT b.inner
def eY (r:Rul):Nat:=eD r.redex+eD r.reactum+r.copies.length
def szR (n:Nat) (left:Int):Int:=if (n:Int)≤left then left - n else -1
theorem Cf {α:Type} (f:α→Nat) (x:α) (l:List α):wtL f (x :: l)=1+f x+wtL f l:=by
 simp [wtL];omega
theorem jW {α:Type} (f:α→Nat) (l:List α) (i:Nat) (h:i<l.length):((l.take (i+1)).map f).sum=((l.take i).map f).sum+f l[i]:=by
 rw [List.take_succ_eq_append_getElem h]
 simp only [List.map_append,List.map_cons,List.map_nil,List.sum_append,List.sum_cons,List.sum_nil,Nat.add_zero]
theorem fI {α:Type} (f:α→Nat) (l:List α) (i:Nat):((l.take i).map f).sum≤(l.map f).sum:=by
 induction l generalizing i with
 | nil=>simp
 | cons x l ih=>
  cases i with
  | zero=>simp
  | succ i=>
   have:=ih i
   simp only [List.take_succ_cons,List.map_cons,List.sum_cons]
   omega
theorem po {α:Type} (f:α→Nat) (l:List α):∀x∈l,f x+l.length≤wtL f l:=by
 induction l with
 | nil=>intro x hx;cases hx
 | cons y l ih=>
  intro x hx
  rw [Cf]
  rcases List.mem_cons.1 hx with rfl|hx
  ·simp [wtL];omega
  ·have:=ih x hx
   simp
   omega
end Go.Proofs.YtacafmejcdgboaaGreatDoor
namespace Go.Proofs.YtacafmejcdgboaaGreatDoor
open Go.RowKit
set_option linter.unusedVariables false
set_option linter.unusedSimpArgs false
def bB (w:World) (b o:Nat) (cs:List Value):Prop:=∀j u,cs[j]? = some u→w.cell? ⟨b,o+j,none⟩=some u
abbrev Lie (α:Type):=Nat→Nat→World→List Value→α→Prop
def SlV {α:Type} (size:Nat) (P:Lie α) (lo hi:Nat) (w:World) (v:Value) (xs:List α):Prop:=
 ∃a k,v=.slice a xs.length k∧xs.length≤k∧k≤maxLen∧(a=none→k=0)∧(xs = []∨∃b o,a=some ⟨b,o,none⟩∧lo≤b∧b<hi∧∀i (h:i<xs.length),∃cs,cs.length=size∧P lo hi w cs xs[i]∧bB w b (o+i * size) cs)
def cW (lo hi:Nat) (w w':World):Prop:=∀b,lo≤b→b<hi→b<w.heap.size→w'.heap[b]? = w.heap[b]?
def eu {α:Type} (P:Lie α):Prop:=∀lo hi w w' cs x,cW lo hi w w'→P lo hi w cs x→P lo hi w' cs x
def ez {α:Type} (P:Lie α):Prop:=∀lo hi lo' hi' w cs x,lo'≤lo→hi≤hi'→P lo hi w cs x→P lo' hi' w cs x
theorem cW.ext {lo hi:Nat} {w w':World} (h:Ext w w'):cW lo hi w w':=fun b _ _ hb=>h.block b hb
theorem cW.grown {lo hi g:Nat} {w w':World} (h:w.grownBy w' (some g)) (hg:g<lo∨hi≤g):cW lo hi w w':=fun b h1 h2 hb=>h.block b hb (by simp;omega)
theorem cW.cell {lo hi b o:Nat} {w w':World} {u:Value} (h:cW lo hi w w') (h1:lo≤b) (h2:b<hi) (hc:w.cell? ⟨b,o,none⟩=some u):w'.cell? ⟨b,o,none⟩=some u:=
 (World.cell?_of_block (h b h1 h2 (World.block_lt_of_cell? w ⟨b,o,none⟩ hc))).trans hc
theorem cW.cells {lo hi b o:Nat} {w w':World} {cs:List Value} (h:cW lo hi w w') (h1:lo≤b) (h2:b<hi) (hc:bB w b o cs):bB w' b o cs:=
 fun j u hj=>h.cell h1 h2 (hc j u hj)
theorem SlV.keeps {α:Type} {P:Lie α} (hP:eu P) {size lo hi:Nat} {w w':World} {v:Value} {xs:List α} (hs:cW lo hi w w') (h:SlV size P lo hi w v xs):SlV size P lo hi w' v xs:=by
 obtain ⟨a,k,rfl,h1,h2,h3,h4⟩:=h
 refine ⟨a,k,rfl,h1,h2,h3,?_⟩
 rcases h4 with h4|⟨b,o,rfl,hb1,hb2,h4⟩
 ·exact .inl h4
 ·refine .inr ⟨b,o,rfl,hb1,hb2,fun i hi=>?_⟩
  obtain ⟨cs,hl,hp,hc⟩:=h4 i hi
  exact ⟨cs,hl,hP _ _ _ _ _ _ hs hp,hs.cells hb1 hb2 hc⟩
theorem SlV.widens {α:Type} {P:Lie α} (hP:ez P) {size lo hi lo' hi':Nat} {w:World} {v:Value} {xs:List α} (h1:lo'≤lo) (h2:hi≤hi') (h:SlV size P lo hi w v xs):SlV size P lo' hi' w v xs:=by
 obtain ⟨a,k,rfl,g1,g2,g3,h4⟩:=h
 refine ⟨a,k,rfl,g1,g2,g3,?_⟩
 rcases h4 with h4|⟨b,o,rfl,hb1,hb2,h4⟩
 ·exact .inl h4
 ·refine .inr ⟨b,o,rfl,by omega,by omega,fun i hi=>?_⟩
  obtain ⟨cs,hl,hp,hc⟩:=h4 i hi
  exact ⟨cs,hl,hP _ _ _ _ _ _ _ h1 h2 hp,hc⟩
def cH:Lie Int:=fun _ _ _ cs x=>cs = [.int .i64 x]∧I64 x
def dV:Lie ByteArray:=fun _ _ _ cs s=>cs = [.string s]∧s.size≤maxLen
def gU:Lie Ctl:=fun _ _ _ cs c=>cs = [.string c.name,.int .i64 c.ports,.int .i64 c.kind]∧c.name.size≤maxLen∧I64 c.ports∧I64 c.kind
def WrP:Lie Wr:=fun _ _ _ cs x=>cs = [.string x.name,.int .i64 x.link]∧x.name.size≤maxLen∧I64 x.link
def dP:Lie (Int × Int):=fun _ _ _ cs x=>cs = [.int .i64 x.1,.int .i64 x.2]∧I64 x.1∧I64 x.2
abbrev te:=SlV 1 cH
abbrev yO:=SlV 1 dV
def Bs:Lie (List Int):=fun lo hi w cs l=>∃v,cs = [v]∧te lo hi w v l
def NdP:Lie Nd:=fun lo hi w cs n=>∃v,cs = [.int .i64 n.control,.int .i64 n.parent,v]∧I64 n.control∧I64 n.parent∧te lo hi w v n.links
abbrev Fi:=SlV 1 Bs
abbrev nM:=SlV 3 gU
abbrev G6:=SlV 3 NdP
abbrev GW:=SlV 2 WrP
abbrev FR:=SlV 2 dP
def dw:Lie Big:=fun lo hi w cs b=>∃v1 v2 v4 v5,cs = [.int .i64 b.roots,v1,v2,.int .i64 b.edges,v4,v5]∧I64 b.roots∧I64 b.edges∧G6 lo hi w v1 b.nodes∧te lo hi w v2 b.sites∧yO lo hi w v4 b.outer∧GW lo hi w v5 b.inner
def sM:Lie Rul:=fun lo hi w cs r=>∃c1 c2 v,cs=c1++(c2++[v])∧dw lo hi w c1 r.redex∧dw lo hi w c2 r.reactum∧te lo hi w v r.copies
abbrev FP:=SlV 13 sM
def EW:Lie Srt:=fun lo hi w cs s=>∃v0 v1 v2 v3 v4,cs = [v0,v1,v2,v3,v4]∧te lo hi w v0 s.tops∧Fi lo hi w v1 s.nest∧Fi lo hi w v2 s.sorts∧te lo hi w v3 s.most∧FR lo hi w v4 s.apart
def Gg:Lie Rnt:=fun lo hi w cs r=>∃v0 c1 v6 v7 c8,cs=v0 :: (c1++(v6 :: v7 :: (c8++[.int .i64 r.count])))∧nM lo hi w v0 r.sig∧EW lo hi w c1 r.sort∧FP lo hi w v6 r.rules∧yO lo hi w v7 r.hosts∧dw lo hi w c8 r.agent∧I64 r.count
theorem cH.keeps:eu cH:=fun _ _ _ _ _ _ _ h=>h
theorem dV.keeps:eu dV:=fun _ _ _ _ _ _ _ h=>h
theorem gU.keeps:eu gU:=fun _ _ _ _ _ _ _ h=>h
theorem WrP.keeps:eu WrP:=fun _ _ _ _ _ _ _ h=>h
theorem dP.keeps:eu dP:=fun _ _ _ _ _ _ _ h=>h
theorem Bs.keeps:eu Bs:=by
 rintro lo hi w w' cs l hs ⟨v,rfl,h⟩
 exact ⟨v,rfl,h.keeps cH.keeps hs⟩
theorem NdP.keeps:eu NdP:=by
 rintro lo hi w w' cs n hs ⟨v,rfl,h1,h2,h⟩
 exact ⟨v,rfl,h1,h2,h.keeps cH.keeps hs⟩
theorem dw.keeps:eu dw:=by
 rintro lo hi w w' cs b hs ⟨v1,v2,v4,v5,rfl,h1,h2,a,b',c,d⟩
 exact ⟨v1,v2,v4,v5,rfl,h1,h2,a.keeps NdP.keeps hs,b'.keeps cH.keeps hs,c.keeps dV.keeps hs,d.keeps WrP.keeps hs⟩
theorem sM.keeps:eu sM:=by
 rintro lo hi w w' cs r hs ⟨c1,c2,v,rfl,a,b,c⟩
 exact ⟨c1,c2,v,rfl,dw.keeps _ _ _ _ _ _ hs a,dw.keeps _ _ _ _ _ _ hs b,c.keeps cH.keeps hs⟩
theorem EW.keeps:eu EW:=by
 rintro lo hi w w' cs s hs ⟨v0,v1,v2,v3,v4,rfl,a,b,c,d,e⟩
 exact ⟨v0,v1,v2,v3,v4,rfl,a.keeps cH.keeps hs,b.keeps Bs.keeps hs,c.keeps Bs.keeps hs,d.keeps cH.keeps hs,e.keeps dP.keeps hs⟩
theorem Gg.keeps:eu Gg:=by
 rintro lo hi w w' cs r hs ⟨v0,c1,v6,v7,c8,rfl,a,b,c,d,e,f⟩
 exact ⟨v0,c1,v6,v7,c8,rfl,a.keeps gU.keeps hs,EW.keeps _ _ _ _ _ _ hs b,c.keeps sM.keeps hs,d.keeps dV.keeps hs,dw.keeps _ _ _ _ _ _ hs e,f⟩
theorem cH.widens:ez cH:=fun _ _ _ _ _ _ _ _ _ h=>h
theorem dV.widens:ez dV:=fun _ _ _ _ _ _ _ _ _ h=>h
theorem gU.widens:ez gU:=fun _ _ _ _ _ _ _ _ _ h=>h
theorem WrP.widens:ez WrP:=fun _ _ _ _ _ _ _ _ _ h=>h
theorem dP.widens:ez dP:=fun _ _ _ _ _ _ _ _ _ h=>h
theorem Bs.widens:ez Bs:=by
 rintro lo hi lo' hi' w cs l h1 h2 ⟨v,rfl,h⟩
 exact ⟨v,rfl,h.widens cH.widens h1 h2⟩
theorem NdP.widens:ez NdP:=by
 rintro lo hi lo' hi' w cs n h1 h2 ⟨v,rfl,g1,g2,h⟩
 exact ⟨v,rfl,g1,g2,h.widens cH.widens h1 h2⟩
theorem dw.widens:ez dw:=by
 rintro lo hi lo' hi' w cs b h1 h2 ⟨v1,v2,v4,v5,rfl,g1,g2,a,b',c,d⟩
 exact ⟨v1,v2,v4,v5,rfl,g1,g2,a.widens NdP.widens h1 h2,b'.widens cH.widens h1 h2,c.widens dV.widens h1 h2,d.widens WrP.widens h1 h2⟩
theorem sM.widens:ez sM:=by
 rintro lo hi lo' hi' w cs r h1 h2 ⟨c1,c2,v,rfl,a,b,c⟩
 exact ⟨c1,c2,v,rfl,dw.widens _ _ _ _ _ _ _ h1 h2 a,dw.widens _ _ _ _ _ _ _ h1 h2 b,c.widens cH.widens h1 h2⟩
theorem EW.widens:ez EW:=by
 rintro lo hi lo' hi' w cs s h1 h2 ⟨v0,v1,v2,v3,v4,rfl,a,b,c,d,e⟩
 exact ⟨v0,v1,v2,v3,v4,rfl,a.widens cH.widens h1 h2,b.widens Bs.widens h1 h2,c.widens Bs.widens h1 h2,d.widens cH.widens h1 h2,e.widens dP.widens h1 h2⟩
theorem SlV.ext {α:Type} {P:Lie α} (hP:eu P) {size lo hi:Nat} {w w':World} {v:Value} {xs:List α} (h:SlV size P lo hi w v xs) (hx:Ext w w'):SlV size P lo hi w' v xs:=h.keeps hP (cW.ext hx)
end Go.Proofs.YtacafmejcdgboaaGreatDoor
namespace Go.Proofs.YtacafmejcdgboaaGreatDoor
open Go.RowKit
set_option linter.unusedVariables false
set_option linter.unusedSimpArgs false
theorem lz {w w1 w2:World} {g:Nat} (h:w.grownBy w1 (some g)) (k:w1.grownBy w2 (some g)):w.grownBy w2 (some g):=
 ⟨k.os.trans h.os,k.tape.trans h.tape,k.output.trans h.output,Nat.le_trans h.size k.size,fun j hj hne=>(k.block j (Nat.lt_of_lt_of_le hj h.size) hne).trans (h.block j hj hne)⟩
theorem bF {w:World} (g o:Nat) (u:Value):w.grownBy (w.setCell ⟨g,o,none⟩ u) (some g):=
 ⟨rfl,rfl,rfl,by simp,fun k _ hk=>heap_setCell_other w ⟨g,o,none⟩ k u (fun e=>hk (by simp [e]))⟩
theorem jD (w:World) (r:Option Nat):w.grownBy w r:=⟨rfl,rfl,rfl,Nat.le_refl _,fun _ _ _=>rfl⟩
theorem lM {w:World} {p q:Addr} {u v:Value} (h:w.cell? q=some v) (hne:p≠q):(w.setCell p u).cell? q=some v:=(World.cell?_setCell_other _ _ _ _ hne).trans h
def dA (w:World) (B:Nat) (cs:List Value):Prop:=∀j u,cs[j]? = some u→w.cell? ⟨B,j,none⟩=some u∧w.frozen? ⟨B,j,none⟩=false
theorem dA.new (w:World) (t:TypeId) (cs:List Value) (B:Nat) (hB:B=w.heap.size):dA (w.alloc (.cells cs.toArray t)) B cs:=by
 intro j u hj
 subst hB
 refine ⟨?_,World.frozen?_alloc_at _ t w.heap.size j rfl⟩
 rw [World.cell?_alloc_at _ t w.heap.size j rfl]
 simpa using hj
theorem dA.ext {w w':World} {B:Nat} {cs:List Value} (h:dA w B cs) (hx:Ext w w'):dA w' B cs:=
 fun j u hj=>⟨hx.keep (h j u hj).1,hx.mark (h j u hj).1 (h j u hj).2⟩
theorem dA.set {w:World} {B:Nat} {cs:List Value} (h:dA w B cs) (o:Nat) (u:Value):dA (w.setCell ⟨B,o,none⟩ u) B (cs.set o u):=by
 intro j v hj
 rw [List.getElem?_set] at hj
 by_cases ho:o=j
 ·subst ho
  rw [if_pos rfl] at hj
  split at hj
  ·rename_i hl
   cases hj
   obtain ⟨hc,hf⟩:=h o cs[o] (by simp)
   exact ⟨World.cell?_setCell_same _ _ _ hc,(World.frozen?_setCell _ _ _ _).trans hf⟩
  ·cases hj
 ·rw [if_neg ho] at hj
  obtain ⟨hc,hf⟩:=h j v hj
  exact ⟨lM hc (by simp [ho]),(World.frozen?_setCell _ _ _ _).trans hf⟩
theorem dA.lt {w:World} {B:Nat} {cs:List Value} {u:Value} (h:dA w B cs) (h0:cs[0]? = some u):B<w.heap.size:=World.block_lt_of_cell? w ⟨B,0,none⟩ (h 0 u h0).1
def jl:List Value→Nat→List Value→List Value
 | xs,_,[]=>xs
 | xs,k,d :: ds=>jl (xs.set k d) (k+1) ds
def qH:World→Nat→Nat→List Value→World
 | w,_,_,[]=>w
 | w,g,k,d :: ds=>qH (w.setCell ⟨g,k,none⟩ d) g (k+1) ds
theorem mw (ds:List Value):∀(xs:List Value) (k:Nat),(jl xs k ds).length=xs.length:=by
 induction ds with
 | nil=>intro xs k;rfl
 | cons d ds ih=>intro xs k;rw [jl,ih];simp
theorem iE (ds:List Value):∀(xs:List Value) (k j:Nat),(j<k∨k+ds.length≤j)→(jl xs k ds)[j]? = xs[j]?:=by
 induction ds with
 | nil=>intro xs k j _;rfl
 | cons d ds ih=>
  intro xs k j h
  rw [jl,ih _ _ _ (by simp at h;omega),List.getElem?_set_ne (by simp at h;omega)]
theorem jO (ds:List Value):∀(xs:List Value) (k t:Nat) (u:Value),k+ds.length≤xs.length→ds[t]? = some u→(jl xs k ds)[k+t]? = some u:=by
 induction ds with
 | nil=>intro xs k t u _ h;simp at h
 | cons d ds ih=>
  intro xs k t u hl h
  simp at hl
  cases t with
  | zero=>
   simp at h
   subst h
   rw [jl,iE ds _ _ _ (by omega)]
   show (xs.set k d)[k]? = some d
   rw [List.getElem?_set,if_pos rfl,if_pos (by omega)]
  | succ t=>
   rw [jl,show k+(t+1)=(k+1)+t by omega]
   exact ih _ _ _ _ (by simp;omega) (by simpa using h)
theorem DW {base g cap n:Nat} {e:TypeId} {size:Nat} (ds:List Value):∀(w:World) (k:Nat) (xs:List Value),w.ownsRow base e size (.slice (some ⟨g,0,none⟩) n cap) n xs →
 (qH w g k ds).ownsRow base e size (.slice (some ⟨g,0,none⟩) n cap) n (jl xs k ds)∧w.grownBy (qH w g k ds) (some g):=by
 induction ds with
 | nil=>intro w k xs h;exact ⟨h,jD _ _⟩
 | cons d ds ih=>
  intro w k xs h
  obtain ⟨h1,h2⟩:=h.stored k d
  obtain ⟨h3,h4⟩:=ih _ (k+1) _ h1
  exact ⟨h3,lz h2 h4⟩
theorem iy (ds:List Value):∀(w:World) (g k:Nat),(qH w g k ds).heap.size=w.heap.size:=by
 induction ds with
 | nil=>intro w g k;rfl
 | cons d ds ih=>intro w g k;rw [qH,ih];simp
theorem SlV.set {α:Type} {P:Lie α} (hP:eu P) {size lo hi b o:Nat} {u:Value} {w:World} {v:Value} {xs:List α} (h:SlV size P lo hi w v xs) (hb:b<lo∨hi≤b):SlV size P lo hi (w.setCell ⟨b,o,none⟩ u) v xs:=
 h.keeps hP (cW.grown (bF b o u) hb)
theorem eu.set {α:Type} {P:Lie α} (hP:eu P) {lo hi b o:Nat} {u:Value} {w:World} {cs:List Value} {x:α} (h:P lo hi w cs x) (hb:b<lo∨hi≤b):P lo hi (w.setCell ⟨b,o,none⟩ u) cs x:=
 hP _ _ _ _ _ _ (cW.grown (bF b o u) hb) h
def ku {α:Type} (size:Nat) (P:Lie α) (g:Nat) (w:World) (xs:List α) (cells:List Value) (i:Nat):Prop:=
 ∀j (h:j<xs.length),j<i→∃ds,ds.length=size∧P (g+1) w.heap.size w ds xs[j]∧∀t u,ds[t]? = some u→cells[j * size+t]? = some u
theorem ku.zero {α:Type} {size:Nat} {P:Lie α} {g:Nat} {w:World} {xs:List α} {cells:List Value}:ku size P g w xs cells 0:=fun j _ hj=>absurd hj (Nat.not_lt_zero _)
theorem ku.ext {α:Type} {size:Nat} {P:Lie α} (hP:eu P) (hW:ez P) {g:Nat} {w w':World} {xs:List α} {cells:List Value} {i:Nat} (h:ku size P g w xs cells i) (hx:Ext w w'):ku size P g w' xs cells i:=by
 intro j hj hji
 obtain ⟨ds,h1,h2,h3⟩:=h j hj hji
 exact ⟨ds,h1,hW _ _ _ _ _ _ _ (Nat.le_refl _) (Below.size hx) (hP _ _ _ _ _ _ (cW.ext hx) h2),h3⟩
theorem ku.put {α:Type} {size:Nat} {P:Lie α} (hP:eu P) {g:Nat} {w:World} {xs:List α} {cells:List Value} {i:Nat} (h:ku size P g w xs cells i) (hi:i<xs.length) (ds:List Value) (hd:ds.length=size) (hl:cells.length=xs.length * size)
 (hp:P (g+1) w.heap.size w ds xs[i]) (hgr:w.grownBy (qH w g (i * size) ds) (some g)):ku size P g (qH w g (i * size) ds) xs (jl cells (i * size) ds) (i+1):=by
 intro j hj hji
 rw [iy]
 have hs:cW (g+1) w.heap.size w (qH w g (i * size) ds):=cW.grown hgr (.inl (by omega))
 by_cases hlt:j<i
 ·obtain ⟨es,h1,h2,h3⟩:=h j hj hlt
  refine ⟨es,h1,hP _ _ _ _ _ _ hs h2,fun t u ht=>?_⟩
  have htl:t<size:=by
   by_cases hh:t<es.length
   ·omega
   ·rw [List.getElem?_eq_none (by omega)] at ht;cases ht
  rw [iE]
  ·exact h3 t u ht
  ·left
   have:(j+1) * size≤i * size:=Nat.mul_le_mul_right _ hlt
   rw [Nat.add_mul] at this
   omega
 ·have e:j=i:=by omega
  subst e
  refine ⟨ds,hd,hP _ _ _ _ _ _ hs hp,fun t u ht=>jO ds cells _ t u ?_ ht⟩
  have:(j+1) * size≤xs.length * size:=Nat.mul_le_mul_right _ hj
  rw [Nat.add_mul] at this
  omega
theorem ku.all {α:Type} {size:Nat} {P:Lie α} (hW:ez P) {base g cap lo:Nat} {e:TypeId} {w:World} {xs:List α} {cells:List Value} (h:ku size P g w xs cells xs.length) (own:w.ownsRow base e size (.slice (some ⟨g,0,none⟩) xs.length cap) xs.length cells) (hlo:lo≤g) (hc:xs.length≤cap) (hcm:cap≤maxLen) :
 SlV size P lo w.heap.size w (.slice (some ⟨g,0,none⟩) xs.length cap) xs:=by
 refine ⟨_,_,rfl,hc,hcm,fun h=>(by cases h),.inr ⟨g,0,rfl,hlo,(vQ own).2,fun i hi=>?_⟩⟩
 obtain ⟨ds,h1,h2,h3⟩:=h i hi hi
 refine ⟨ds,h1,hW _ _ _ _ _ _ _ (by omega) (Nat.le_refl _) h2,fun t u ht=>?_⟩
 rw [Nat.zero_add]
 exact pQ own _ _ (h3 t u ht)
end Go.Proofs.YtacafmejcdgboaaGreatDoor
namespace Go.Proofs.YtacafmejcdgboaaGreatDoor
open Go.RowKit
set_option linter.unusedVariables false
set_option linter.unusedSimpArgs false
def fP {α:Type} (size:Nat) (P:Lie α) (e:TypeId) (base:Nat) (w:World) (v:Value) (xs:List α):Prop:=
 ∃cells,w.ownsRow base e size v xs.length cells∧∀i (h:i<xs.length),∃ds l u,ds.length=size∧base≤l∧u≤w.heap.size∧(∀g,v.ownBlock=some g→g<l∨u≤g)∧P l u w ds xs[i]∧∀t y,ds[t]? = some y→cells[i * size+t]? = some y
theorem fP.nil {α:Type} {size:Nat} {P:Lie α} {e:TypeId} {base:Nat} {w:World}:fP size P e base w (.slice none 0 0) []:=
 ⟨[],⟨by simp,.inl ⟨rfl,rfl⟩⟩,fun i h=>absurd h (Nat.not_lt_zero _)⟩
theorem fP.made {α:Type} {size:Nat} {P:Lie α} {e:TypeId} {base:Nat} {w:World} (hb:base≤w.heap.size):fP size P e base (w.alloc (.cells #[] e)) (.slice (some ⟨w.heap.size,0,none⟩) 0 0) []:=
 ⟨[],World.ownsRow_made w #[] 0 hb (by decide) (by simp),fun i h=>absurd h (Nat.not_lt_zero _)⟩
theorem Bj {w:World} {base:Nat} {e:TypeId} {size:Nat} {v:Value} {n:Nat} {xs:List Value} (h:w.ownsRow base e size v n xs):∃a k,v=.slice a n k∧n≤k∧k≤maxLen∧(a=none→k=0)∧(n=0∨∃g,a=some ⟨g,0,none⟩∧base≤g∧g<w.heap.size∧∀j y,xs[j]? = some y→w.cell? ⟨g,j,none⟩=some y):=by
 have h0:=h
 obtain ⟨_,⟨rfl,rfl⟩|⟨g,cap,cur,rfl,hb,hg,hn,hm,_,_⟩⟩:=h0
 ·exact ⟨none,0,rfl,Nat.le_refl _,by decide,fun _=>rfl,.inl rfl⟩
 ·exact ⟨_,cap,rfl,hn,hm,fun hh=>(by cases hh),.inr ⟨g,rfl,hb,(vQ h).2,fun j y hy=>pQ h j y hy⟩⟩
theorem fP.toSlV {α:Type} {size:Nat} {P:Lie α} (hW:ez P) {e:TypeId} {base lo:Nat} {w:World} {v:Value} {xs:List α} (h:fP size P e base w v xs) (hlo:lo≤base):SlV size P lo w.heap.size w v xs:=by
 obtain ⟨cells,own,hel⟩:=h
 obtain ⟨a,k,rfl,h1,h2,h3,h4⟩:=Bj own
 refine ⟨a,k,rfl,h1,h2,h3,?_⟩
 rcases h4 with h4|⟨g,rfl,g1,g2,g3⟩
 ·left
  cases xs with
  | nil=>rfl
  | cons x xs=>simp at h4
 ·refine .inr ⟨g,0,rfl,by omega,g2,fun i hi=>?_⟩
  obtain ⟨ds,l,u,d1,d2,d3,d4,d5,d6⟩:=hel i hi
  exact ⟨ds,d1,hW _ _ _ _ _ _ _ (by omega) d3 d5,fun t y ht=>by rw [Nat.zero_add];exact g3 _ _ (d6 t y ht)⟩
theorem fP.ext {α:Type} {size:Nat} {P:Lie α} (hP:eu P) {e:TypeId} {base:Nat} {w w':World} {v:Value} {xs:List α} (h:fP size P e base w v xs) (hx:Ext w w'):fP size P e base w' v xs:=by
 obtain ⟨cells,own,hel⟩:=h
 refine ⟨cells,nG own hx,fun i hi=>?_⟩
 obtain ⟨ds,l,u,d1,d2,d3,d4,d5,d6⟩:=hel i hi
 exact ⟨ds,l,u,d1,d2,Nat.le_trans d3 (Below.size hx),d4,hP _ _ _ _ _ _ (cW.ext hx) d5,d6⟩
theorem fP.block {α:Type} {size:Nat} {P:Lie α} {e:TypeId} {base:Nat} {w:World} {v:Value} {xs:List α} (h:fP size P e base w v xs):∀g,v.ownBlock=some g→base≤g∧g<w.heap.size:=by
 obtain ⟨cells,own,hel⟩:=h
 exact own.lt
theorem Ext.own {a w w':World} {r:Option Nat} (h:Ext a w) (hg:w.grownBy w' r) (hr:∀g,r=some g→a.heap.size≤g):Ext a w':=by
 refine ⟨hg.os.trans h.os,hg.tape.trans h.tape,hg.output.trans h.output,Nat.le_trans (Below.size h) hg.size,fun k hk=>?_⟩
 rw [hg.block k (Nat.lt_of_lt_of_le hk (Below.size h)) (fun e=>by have:=hr k e.symm;omega)]
 exact h.block k hk
theorem fP.snoc {α:Type} {size:Nat} {P:Lie α} (hP:eu P) {e:TypeId} {base:Nat} {w w':World} {v v':Value} {xs:List α} {x:α} {ds:List Value} {l u:Nat} (h:fP size P e base w v xs) (hd:ds.length=size) (hl:base≤l) (hu:u≤w.heap.size) (hs:∀g,v.ownBlock=some g→g<l∨u≤g) (hx:P l u w ds x)
 (hr:∀cells,w.ownsRow base e size v xs.length cells→w'.ownsRow base e size v' (xs.length+1) (cells++ds)) (hg:w.grownBy w' v.ownBlock) (hb:v'.ownBlock=v.ownBlock∨v'.ownBlock=some w.heap.size):fP size P e base w' v' (xs++[x]):=by
 obtain ⟨cells,own,hel⟩:=h
 have hk:∀l u,(∀g,v.ownBlock=some g→g<l∨u≤g)→cW l u w w':=fun l u hh b h1 h2 h3=>hg.block b h3 (fun e=>by have:=hh b e.symm;omega)
 have hv':∀l u,u≤w.heap.size→(∀g,v.ownBlock=some g→g<l∨u≤g)→∀g,v'.ownBlock=some g→g<l∨u≤g:=by
  intro l u hh hs g hg'
  rcases hb with hb|hb
  ·exact hs g (by rw [← hb];exact hg')
  ·rw [hb] at hg';cases hg';exact .inr hh
 refine ⟨cells++ds,by rw [List.length_append];exact hr cells own,fun i hi=>?_⟩
 by_cases hlt:i<xs.length
 ·obtain ⟨es,l1,u1,d1,d2,d3,d4,d5,d6⟩:=hel i hlt
  refine ⟨es,l1,u1,d1,d2,Nat.le_trans d3 hg.size,hv' l1 u1 d3 d4,?_,fun t y ht=>?_⟩
  ·rw [List.getElem_append_left hlt];exact hP _ _ _ _ _ _ (hk l1 u1 d4) d5
  ·have:=d6 t y ht
   rw [List.getElem?_append_left (by
    rcases Nat.lt_or_ge (i * size+t) cells.length with hh|hh
    ·exact hh
    ·rw [List.getElem?_eq_none hh] at this;cases this)]
   exact this
 ·have ei:i=xs.length:=by simp at hi;omega
  subst ei
  refine ⟨ds,l,u,hd,hl,Nat.le_trans hu hg.size,hv' l u hu hs,?_,fun t y ht=>?_⟩
  ·rw [List.getElem_append_right (Nat.le_refl _)];simp only [Nat.sub_self,List.getElem_cons_zero];exact hP _ _ _ _ _ _ (hk l u hs) hx
  ·rw [List.getElem?_append_right (by rw [own.1];omega),own.1,show xs.length * size+t - xs.length * size=t by omega];exact ht
variable {P:Program} {w:World}
theorem lO {α:Type} {size:Nat} {Pd:Lie α} (hPd:eu Pd) {ops:Array Oper} {rest:List Oper} {o:Oper} {a:Act} {Q:Exit→Act→World→Prop} (hgd:o.guard=none) (s x:Operand) (t:TypeId)
 (ho:o.op=.call { callee:=.builtin .append,args:=#[s,x],argTypes:=#[t,t] })
 (base:Nat) (e:TypeId) (i:TypeInfo) (z:Value) (bytes:Nat) (ht:P.underlying t=some (.slice e)) (hi:P.info? e=some i) (hz:i.zero=some z)
 (hsize:i.size=size) (hby:i.bytes=bytes) (hzs:z.cells.size=size) (hsz:0<size)
 (v:Value) (xs:List α) (hs:a.eval s=v) (hrow:fP size Pd e base w v xs)
 (ad:Addr) (c:Nat) (ds:List Value) (hx:a.eval x=.slice (some ad) 1 c) (hl:ds.length=size) (hnews:∀j u,ds[j]? = some u→w.cell? (ad.add j)=some u) (h1:∀u∈ds,u.oneCell'=true)
 (l u:Nat) (hbl:base≤l) (hu:u≤w.heap.size) (hsep:∀g,v.ownBlock=some g→g<l∨u≤g) (y:α) (hP:Pd l u w ds y)
 (h63:xs.length<100000000) (hbytes:bytes≤1000) (hbase:base≤w.heap.size)
 (h:∀v' w',fP size Pd e base w' v' (xs++[y])→(∀W,Ext W w→W.heap.size≤base→Ext W w')→wpList P ops Q rest (a.put o.dst v') w') :
 wpList P ops Q (o :: rest) a w:=by
 have hrow0:=hrow
 obtain ⟨cells,own,hel⟩:=hrow0
 refine wpList_append_own_at w hgd s x t ho base e i z size bytes ht hi hz hsize hby hzs hsz v xs.length cells hs own ad 1 c ds hx (by omega) hnews h1 (by unfold maxLen;omega) ?_ hbase (fun v' w' own' hg hn hb=>h v' w' ?_ ?_)
 ·have:(xs.length+1) * bytes≤100000000 * 1000:=Nat.mul_le_mul (by omega) hbytes
  omega
 ·refine hrow.snoc hPd hl hbl hu hsep hP (fun cells' own2=>?_) hg hb
  have:cells'=cells:=by
   have e1:=own.2
   have e2:=own2.2
   have l1:=own.1
   have l2:=own2.1
   rcases e1 with ⟨ev,en⟩|⟨g,cap,cur,ev,_,hg1,_,_,_,ht1⟩
   ·have:cells = []:=List.eq_nil_of_length_eq_zero (by rw [l1,en];omega)
    have:cells' = []:=List.eq_nil_of_length_eq_zero (by rw [l2,en];omega)
    simp [*]
   ·rcases e2 with ⟨ev2,_⟩|⟨g2,cap2,cur2,ev2,_,hg2,_,_,_,ht2⟩
    ·rw [ev] at ev2;cases ev2
    ·rw [ev] at ev2;cases ev2
     rw [hg1] at hg2;cases hg2
     rw [← ht1,← ht2]
  rw [this];exact own'
 ·intro W hW hb2
  exact hW.own hg (fun g hg'=>Nat.le_trans hb2 (hrow.block g hg').1)
end Go.Proofs.YtacafmejcdgboaaGreatDoor
namespace Go.Proofs.YtacafmejcdgboaaGreatDoor
open Go.RowKit
set_option linter.unusedVariables false
set_option linter.unusedSimpArgs false
def xF {α:Type} (P:Lie α):Prop:=∀lo hi lo' hi' w w' cs x,P lo hi w cs x→P lo' hi' w' cs x
theorem cH.flat:xF cH:=fun _ _ _ _ _ _ _ _ h=>h
theorem dV.flat:xF dV:=fun _ _ _ _ _ _ _ _ h=>h
theorem gU.flat:xF gU:=fun _ _ _ _ _ _ _ _ h=>h
theorem WrP.flat:xF WrP:=fun _ _ _ _ _ _ _ _ h=>h
theorem dP.flat:xF dP:=fun _ _ _ _ _ _ _ _ h=>h
theorem fP.kept {α:Type} {size:Nat} {P:Lie α} (hP:xF P) {e:TypeId} {base:Nat} {w w':World} {v:Value} {xs:List α} {r:Option Nat} (h:fP size P e base w v xs) (hg:w.grownBy w' r) (hne:∀g,v.ownBlock=some g→r≠some g):fP size P e base w' v xs:=by
 obtain ⟨cells,own,hel⟩:=h
 refine ⟨cells,⟨own.1,?_⟩,fun i hi=>?_⟩
 ·rcases own.2 with hn|⟨g,cap,cur,rfl,h1,h2,h3⟩
  ·exact .inl hn
  ·refine .inr ⟨g,cap,cur,rfl,h1,?_,h3⟩
   have hl:g<w.heap.size:=by
    by_cases hh:g<w.heap.size
    ·exact hh
    ·rw [Array.getElem?_eq_none (by omega)] at h2;cases h2
   rw [hg.block g hl (fun e=>hne g rfl e.symm)];exact h2
 ·obtain ⟨ds,l,u,d1,d2,d3,d4,d5,d6⟩:=hel i hi
  exact ⟨ds,l,u,d1,d2,Nat.le_trans d3 hg.size,d4,hP _ _ _ _ _ _ _ _ d5,d6⟩
variable {P:Program} {w:World}
theorem bN {α:Type} {size:Nat} {Pd:Lie α} (hPd:eu Pd) {ops:Array Oper} {rest:List Oper} {o:Oper} {a:Act} {Q:Exit→Act→World→Prop} (hgd:o.guard=none) (s x:Operand) (t:TypeId)
 (ho:o.op=.call { callee:=.builtin .append,args:=#[s,x],argTypes:=#[t,t] })
 (base:Nat) (e:TypeId) (i:TypeInfo) (z:Value) (bytes:Nat) (ht:P.underlying t=some (.slice e)) (hi:P.info? e=some i) (hz:i.zero=some z)
 (hsize:i.size=size) (hby:i.bytes=bytes) (hzs:z.cells.size=size) (hsz:0<size)
 (v:Value) (xs:List α) (hs:a.eval s=v) (hrow:fP size Pd e base w v xs)
 (ad:Addr) (c:Nat) (ds:List Value) (hx:a.eval x=.slice (some ad) 1 c) (hl:ds.length=size) (hnews:∀j u,ds[j]? = some u→w.cell? (ad.add j)=some u) (h1:∀u∈ds,u.oneCell'=true)
 (l u:Nat) (hbl:base≤l) (hu:u≤w.heap.size) (hsep:∀g,v.ownBlock=some g→g<l∨u≤g) (y:α) (hP:Pd l u w ds y)
 (h63:xs.length<100000000) (hbytes:bytes≤1000) (hbase:base≤w.heap.size)
 (h:∀v' w',fP size Pd e base w' v' (xs++[y])→(∀W,Ext W w→W.heap.size≤base→Ext W w')→w.grownBy w' v.ownBlock→(v'.ownBlock=v.ownBlock∨v'.ownBlock=some w.heap.size)→wpList P ops Q rest (a.put o.dst v') w') :
 wpList P ops Q (o :: rest) a w:=by
 have hrow0:=hrow
 obtain ⟨cells,own,hel⟩:=hrow0
 refine wpList_append_own_at w hgd s x t ho base e i z size bytes ht hi hz hsize hby hzs hsz v xs.length cells hs own ad 1 c ds hx (by omega) hnews h1 (by unfold maxLen;omega) ?_ hbase (fun v' w' own' hg hn hb=>h v' w' ?_ ?_ hg hb)
 ·have:(xs.length+1) * bytes≤100000000 * 1000:=Nat.mul_le_mul (by omega) hbytes
  omega
 ·refine hrow.snoc hPd hl hbl hu hsep hP (fun cells' own2=>?_) hg hb
  have:cells'=cells:=by
   have e1:=own.2
   have e2:=own2.2
   have l1:=own.1
   have l2:=own2.1
   rcases e1 with ⟨ev,en⟩|⟨g,cap,cur,ev,_,hg1,_,_,_,ht1⟩
   ·have:cells = []:=List.eq_nil_of_length_eq_zero (by rw [l1,en];omega)
    have:cells' = []:=List.eq_nil_of_length_eq_zero (by rw [l2,en];omega)
    simp [*]
   ·rcases e2 with ⟨ev2,_⟩|⟨g2,cap2,cur2,ev2,_,hg2,_,_,_,ht2⟩
    ·rw [ev] at ev2;cases ev2
    ·rw [ev] at ev2;cases ev2
     rw [hg1] at hg2;cases hg2
     rw [← ht1,← ht2]
  rw [this];exact own'
 ·intro W hW hb2
  exact hW.own hg (fun g hg'=>Nat.le_trans hb2 (hrow.block g hg').1)
def idxOf (f:Nat→Bool) (n:Nat):List Int:=((List.range n).filter f).map (fun (i:Nat)=>(i:Int))
theorem cP {f:Nat→Bool} {n:Nat} (h:f n=true):idxOf f (n+1)=idxOf f n++[(n:Int)]:=by
 unfold idxOf;rw [List.range_succ,List.filter_append,List.map_append];simp [h]
theorem dK {f:Nat→Bool} {n:Nat} (h:f n=false):idxOf f (n+1)=idxOf f n:=by
 unfold idxOf;rw [List.range_succ,List.filter_append,List.map_append];simp [h]
theorem dx (f:Nat→Bool) (n:Nat):(idxOf f n).length≤n:=by
 unfold idxOf;rw [List.length_map];have:=List.length_filter_le f (List.range n);simpa using this
def oA (b:Big) (p:Int) (i:Nat):Bool:=match b.nodes[i]? with|none=>false|some n=>decide (n.parent=p)
def gY (b:Big) (p:Int) (i:Nat):Bool:=match b.sites[i]? with|none=>false|some x=>decide (x=p)
def eI (b:Big) (p:Int):List Int:=idxOf (oA b p) b.nodes.length
def bq (b:Big) (p:Int):List Int:=idxOf (gY b p) b.sites.length
theorem zO (b:Big) (p:Int) (i:Nat) (h:i<b.nodes.length):oA b p i=decide ((b.nodes[i]).parent=p):=by unfold oA;rw [List.getElem?_eq_getElem h]
theorem vp (b:Big) (p:Int) (i:Nat) (h:i<b.sites.length):gY b p i=decide (b.sites[i]=p):=by unfold gY;rw [List.getElem?_eq_getElem h]
def cu (links:List Int) (l:Int) (i k:Nat):List (Int × Int):=((List.range k).filter (fun j=>decide (links.getD j 0=l))).map (fun (j:Nat)=>((i:Int),(j:Int)))
def cL (b:Big) (l:Int) (n:Nat):List (Int × Int):=(List.range n).flatMap (fun i=>cu (b.nodes.getD i ⟨0,0,[]⟩).links l i (b.nodes.getD i ⟨0,0,[]⟩).links.length)
def aE (b:Big) (l:Int):List (Int × Int):=cL b l b.nodes.length
theorem iL {links:List Int} {l:Int} {i k:Nat} (hk:k<links.length) (h:links[k]=l):cu links l i (k+1)=cu links l i k++[((i:Int),(k:Int))]:=by
 unfold cu;rw [List.range_succ,List.filter_append,List.map_append]
 simp [List.getElem?_eq_getElem hk,h]
theorem jY {links:List Int} {l:Int} {i k:Nat} (hk:k<links.length) (h:¬links[k]=l):cu links l i (k+1)=cu links l i k:=by
 unfold cu;rw [List.range_succ,List.filter_append,List.map_append]
 simp [List.getElem?_eq_getElem hk,h]
theorem eP (b:Big) (l:Int) (n:Nat) (h:n<b.nodes.length):cL b l (n+1)=cL b l n++cu (b.nodes[n]).links l n (b.nodes[n]).links.length:=by
 unfold cL;rw [List.range_succ,List.flatMap_append]
 simp [List.getElem?_eq_getElem h]
theorem kI (links:List Int) (l:Int) (i k:Nat):(cu links l i k).length≤k:=by
 unfold cu;rw [List.length_map];have:=List.length_filter_le (fun j=>decide (links.getD j 0=l)) (List.range k);simpa using this
def dJ (b:Big) (l:Int) (n:Nat):List ByteArray:=((b.inner.take n).filter (fun x=>decide (x.link=l))).map Wr.name
def iP (b:Big) (l:Int):List ByteArray:=dJ b l b.inner.length
theorem lP {b:Big} {l:Int} {n:Nat} (h:n<b.inner.length) (hl:(b.inner[n]).link=l):dJ b l (n+1)=dJ b l n++[(b.inner[n]).name]:=by
 unfold dJ;rw [List.take_succ_eq_append_getElem h,List.filter_append,List.map_append];simp [hl]
theorem nJ {b:Big} {l:Int} {n:Nat} (h:n<b.inner.length) (hl:¬(b.inner[n]).link=l):dJ b l (n+1)=dJ b l n:=by
 unfold dJ;rw [List.take_succ_eq_append_getElem h,List.filter_append,List.map_append];simp [hl]
theorem gA (b:Big) (l:Int) (n:Nat):(dJ b l n).length≤n:=by
 unfold dJ;rw [List.length_map];have:=List.length_filter_le (fun x:Wr=>decide (x.link=l)) (b.inner.take n);simp at this;omega
def jf (b:Big) (l:Int):Bool:=(aE b l).isEmpty && (iP b l).isEmpty
end Go.Proofs.YtacafmejcdgboaaGreatDoor
namespace Go.Proofs.YtacafmejcdgboaaGreatDoor
open Go.RowKit
set_option linter.unusedVariables false
set_option linter.unusedSimpArgs false
variable {P:Program} {w:World}
end Go.Proofs.YtacafmejcdgboaaGreatDoor
namespace Go.Proofs.YtacafmejcdgboaaGreatDoor
open Go.RowKit
set_option linter.unusedVariables false
set_option linter.unusedSimpArgs false
variable {P:Program} {w:World}
end Go.Proofs.YtacafmejcdgboaaGreatDoor
namespace Go.Proofs.YtacafmejcdgboaaGreatDoor
open Go.RowKit
set_option linter.unusedVariables false
set_option linter.unusedSimpArgs false
section
variable {P:Program} {ops:Array Oper} {Q:Exit→Act→World→Prop} {md:Region.Mode} {S:World→Prop}
end
end Go.Proofs.YtacafmejcdgboaaGreatDoor
namespace Go.Proofs.YtacafmejcdgboaaGreatDoor
open Go.RowKit
set_option linter.unusedVariables false
set_option linter.unusedSimpArgs false
def Off (a b:Nat × Nat):Prop:=a.2≤b.1∨b.2≤a.1
def qb (lo hi:Nat) (L:List (Nat × Nat)):Prop:=L.Pairwise Off∧∀p∈L,lo≤p.1∧p.2≤hi
theorem qb.widen {lo hi lo' hi':Nat} {L:List (Nat × Nat)} (h:qb lo hi L) (h1:lo'≤lo) (h2:hi≤hi'):qb lo' hi' L:=
 ⟨h.1,fun p hp=>by have:=h.2 p hp;omega⟩
def SlO {α:Type} (size:Nat) (P:Lie α) (lo hi:Nat) (w:World) (v:Value) (xs:List α):Prop:=
 ∃a k,v=.slice a xs.length k∧xs.length≤k∧k≤maxLen∧(a=none→k=0)∧(xs = []∨∃b o,∃f:Nat→Nat × Nat,a=some ⟨b,o,none⟩∧lo≤b∧b<hi∧b<w.heap.size∧(∀j,w.frozen? ⟨b,j,none⟩=false)∧(∀i j,i<j→j<xs.length→Off (f i) (f j)) ∧
  ∀i (h:i<xs.length),lo≤(f i).1∧(f i).2≤hi∧Off (f i) (b,b+1)∧∃cs,cs.length=size∧P (f i).1 (f i).2 w cs xs[i]∧bB w b (o+i * size) cs)
theorem cW.sub {lo hi l u:Nat} {w w':World} (h:cW lo hi w w') (h1:lo≤l) (h2:u≤hi):cW l u w w':=fun b h3 h4 h5=>h b (by omega) (by omega) h5
theorem SlO.keeps {α:Type} {P:Lie α} (hP:eu P) {size lo hi:Nat} {w w':World} {v:Value} {xs:List α} (hz:w.heap.size≤w'.heap.size) (hs:cW lo hi w w') (h:SlO size P lo hi w v xs):SlO size P lo hi w' v xs:=by
 obtain ⟨a,k,rfl,h1,h2,h3,h4⟩:=h
 refine ⟨a,k,rfl,h1,h2,h3,?_⟩
 rcases h4 with h4|⟨b,o,f,rfl,hb1,hb2,hb3,hf,ho,h4⟩
 ·exact .inl h4
 ·refine .inr ⟨b,o,f,rfl,hb1,hb2,by omega,fun j=>(World.frozen?_of_block (hs b hb1 hb2 hb3)).trans (hf j),ho,fun i hi=>?_⟩
  obtain ⟨g1,g2,g3,cs,hl,hp,hc⟩:=h4 i hi
  exact ⟨g1,g2,g3,cs,hl,hP _ _ _ _ _ _ (hs.sub g1 g2) hp,hs.cells hb1 hb2 hc⟩
theorem SlO.widens {α:Type} {P:Lie α} {size lo hi lo' hi':Nat} {w:World} {v:Value} {xs:List α} (h1:lo'≤lo) (h2:hi≤hi') (h:SlO size P lo hi w v xs):SlO size P lo' hi' w v xs:=by
 obtain ⟨a,k,rfl,g1,g2,g3,h4⟩:=h
 refine ⟨a,k,rfl,g1,g2,g3,?_⟩
 rcases h4 with h4|⟨b,o,f,rfl,hb1,hb2,hb3,hf,ho,h4⟩
 ·exact .inl h4
 ·refine .inr ⟨b,o,f,rfl,by omega,by omega,hb3,hf,ho,fun i hi=>?_⟩
  obtain ⟨g1,g2,g3,cs,hl,hp,hc⟩:=h4 i hi
  exact ⟨by omega,by omega,g3,cs,hl,hp,hc⟩
def cK {α:Type} (P:Lie α):Prop:=∀lo hi w w' cs x,w.heap.size≤w'.heap.size→cW lo hi w w'→P lo hi w cs x→P lo hi w' cs x
theorem eu.toO {α:Type} {P:Lie α} (h:eu P):cK P:=fun _ _ _ _ _ _ _ hs hp=>h _ _ _ _ _ _ hs hp
theorem SlO.keepsO {α:Type} {P:Lie α} (hP:cK P) {size lo hi:Nat} {w w':World} {v:Value} {xs:List α} (hz:w.heap.size≤w'.heap.size) (hs:cW lo hi w w') (h:SlO size P lo hi w v xs):SlO size P lo hi w' v xs:=by
 obtain ⟨a,k,rfl,h1,h2,h3,h4⟩:=h
 refine ⟨a,k,rfl,h1,h2,h3,?_⟩
 rcases h4 with h4|⟨b,o,f,rfl,hb1,hb2,hb3,hf,ho,h4⟩
 ·exact .inl h4
 ·refine .inr ⟨b,o,f,rfl,hb1,hb2,by omega,fun j=>(World.frozen?_of_block (hs b hb1 hb2 hb3)).trans (hf j),ho,fun i hi=>?_⟩
  obtain ⟨g1,g2,g3,cs,hl,hp,hc⟩:=h4 i hi
  exact ⟨g1,g2,g3,cs,hl,hP _ _ _ _ _ _ hz (hs.sub g1 g2) hp,hs.cells hb1 hb2 hc⟩
theorem SlO.ext {α:Type} {P:Lie α} (hP:cK P) {size lo hi:Nat} {w w':World} {v:Value} {xs:List α} (h:SlO size P lo hi w v xs) (hx:Ext w w'):SlO size P lo hi w' v xs:=h.keepsO hP (Below.size hx) (cW.ext hx)
theorem SlO.set {α:Type} {P:Lie α} (hP:cK P) {size lo hi b o:Nat} {u:Value} {w:World} {v:Value} {xs:List α} (h:SlO size P lo hi w v xs) (hb:b<lo∨hi≤b):SlO size P lo hi (w.setCell ⟨b,o,none⟩ u) v xs:=
 h.keepsO hP (by simp) (cW.grown (bF b o u) hb)
theorem cK.ext {α:Type} {P:Lie α} (hP:cK P) {lo hi:Nat} {w w':World} {cs:List Value} {x:α} (h:P lo hi w cs x) (hx:Ext w w'):P lo hi w' cs x:=hP _ _ _ _ _ _ (Below.size hx) (cW.ext hx) h
theorem cK.set {α:Type} {P:Lie α} (hP:cK P) {lo hi b o:Nat} {u:Value} {w:World} {cs:List Value} {x:α} (h:P lo hi w cs x) (hb:b<lo∨hi≤b):P lo hi (w.setCell ⟨b,o,none⟩ u) cs x:=
 hP _ _ _ _ _ _ (by simp) (cW.grown (bF b o u) hb) h
abbrev xt:=SlO 1 cH
abbrev F1:=SlO 1 dV
abbrev Gt:=SlO 3 gU
abbrev G4:=SlO 2 WrP
abbrev Fl:=SlO 2 dP
def EB:Lie (List Int):=fun lo hi w cs l=>∃v,cs = [v]∧xt lo hi w v l
def NdO:Lie Nd:=fun lo hi w cs n=>∃v,cs = [.int .i64 n.control,.int .i64 n.parent,v]∧I64 n.control∧I64 n.parent∧xt lo hi w v n.links
abbrev FS:=SlO 1 EB
abbrev G1:=SlO 3 NdO
def AK:Lie Big:=fun lo hi w cs b=>∃v1 v2 v4 v5 l1 u1 l2 u2 l4 u4 l5 u5,cs = [.int .i64 b.roots,v1,v2,.int .i64 b.edges,v4,v5]∧I64 b.roots∧I64 b.edges∧G1 l1 u1 w v1 b.nodes∧xt l2 u2 w v2 b.sites∧F1 l4 u4 w v4 b.outer∧G4 l5 u5 w v5 b.inner∧qb lo hi [(l1,u1),(l2,u2),(l4,u4),(l5,u5)]
def ES:Lie Rul:=fun lo hi w cs r=>∃c1 c2 v l1 u1 l2 u2 l3 u3,cs=c1++(c2++[v])∧AK l1 u1 w c1 r.redex∧AK l2 u2 w c2 r.reactum∧xt l3 u3 w v r.copies∧qb lo hi [(l1,u1),(l2,u2),(l3,u3)]
abbrev Gs:=SlO 13 ES
def EO:Lie Srt:=fun lo hi w cs s=>∃v0 v1 v2 v3 v4 l0 u0 l1 u1 l2 u2 l3 u3 l4 u4,cs = [v0,v1,v2,v3,v4]∧xt l0 u0 w v0 s.tops∧FS l1 u1 w v1 s.nest∧FS l2 u2 w v2 s.sorts∧xt l3 u3 w v3 s.most∧Fl l4 u4 w v4 s.apart∧qb lo hi [(l0,u0),(l1,u1),(l2,u2),(l3,u3),(l4,u4)]
def ET:Lie Rnt:=fun lo hi w cs r=>∃v0 c1 v6 v7 c8 l0 u0 l1 u1 l6 u6 l7 u7 l8 u8,cs=v0 :: (c1++(v6 :: v7 :: (c8++[.int .i64 r.count])))∧Gt l0 u0 w v0 r.sig∧EO l1 u1 w c1 r.sort∧Gs l6 u6 w v6 r.rules∧F1 l7 u7 w v7 r.hosts∧AK l8 u8 w c8 r.agent∧I64 r.count∧qb lo hi [(l0,u0),(l1,u1),(l6,u6),(l7,u7),(l8,u8)]
theorem cH.keepsO:cK cH:=cH.keeps.toO
theorem dV.keepsO:cK dV:=dV.keeps.toO
theorem gU.keepsO:cK gU:=gU.keeps.toO
theorem WrP.keepsO:cK WrP:=WrP.keeps.toO
theorem dP.keepsO:cK dP:=dP.keeps.toO
theorem EB.keepsO:cK EB:=by
 rintro lo hi w w' cs l hz hs ⟨v,rfl,h⟩
 exact ⟨v,rfl,h.keepsO cH.keepsO hz hs⟩
theorem NdO.keepsO:cK NdO:=by
 rintro lo hi w w' cs n hz hs ⟨v,rfl,h1,h2,h⟩
 exact ⟨v,rfl,h1,h2,h.keepsO cH.keepsO hz hs⟩
theorem qb.at {lo hi:Nat} {L:List (Nat × Nat)} (h:qb lo hi L) {w w':World} (hs:cW lo hi w w'):∀p∈L,cW p.1 p.2 w w':=fun p hp=>hs.sub (h.2 p hp).1 (h.2 p hp).2
theorem AK.keepsO:cK AK:=by
 rintro lo hi w w' cs b hz hs ⟨v1,v2,v4,v5,l1,u1,l2,u2,l4,u4,l5,u5,rfl,h1,h2,a,b',c,d,hp⟩
 have hq:=hp.at hs
 exact ⟨v1,v2,v4,v5,l1,u1,l2,u2,l4,u4,l5,u5,rfl,h1,h2,a.keepsO NdO.keepsO hz (hq (l1,u1) (by simp)),b'.keepsO cH.keepsO hz (hq (l2,u2) (by simp)),c.keepsO dV.keepsO hz (hq (l4,u4) (by simp)),d.keepsO WrP.keepsO hz (hq (l5,u5) (by simp)),hp⟩
theorem ES.keepsO:cK ES:=by
 rintro lo hi w w' cs r hz hs ⟨c1,c2,v,l1,u1,l2,u2,l3,u3,rfl,a,b,c,hp⟩
 have hq:=hp.at hs
 exact ⟨c1,c2,v,l1,u1,l2,u2,l3,u3,rfl,AK.keepsO _ _ _ _ _ _ hz (hq (l1,u1) (by simp)) a,AK.keepsO _ _ _ _ _ _ hz (hq (l2,u2) (by simp)) b,c.keepsO cH.keepsO hz (hq (l3,u3) (by simp)),hp⟩
theorem EO.keepsO:cK EO:=by
 rintro lo hi w w' cs s hz hs ⟨v0,v1,v2,v3,v4,l0,u0,l1,u1,l2,u2,l3,u3,l4,u4,rfl,a,b,c,d,e,hp⟩
 have hq:=hp.at hs
 exact ⟨v0,v1,v2,v3,v4,l0,u0,l1,u1,l2,u2,l3,u3,l4,u4,rfl,a.keepsO cH.keepsO hz (hq (l0,u0) (by simp)),b.keepsO EB.keepsO hz (hq (l1,u1) (by simp)),c.keepsO EB.keepsO hz (hq (l2,u2) (by simp)),d.keepsO cH.keepsO hz (hq (l3,u3) (by simp)),e.keepsO dP.keepsO hz (hq (l4,u4) (by simp)),hp⟩
theorem ET.keepsO:cK ET:=by
 rintro lo hi w w' cs r hz hs ⟨v0,c1,v6,v7,c8,l0,u0,l1,u1,l6,u6,l7,u7,l8,u8,rfl,a,b,c,d,e,f,hp⟩
 have hq:=hp.at hs
 exact ⟨v0,c1,v6,v7,c8,l0,u0,l1,u1,l6,u6,l7,u7,l8,u8,rfl,a.keepsO gU.keepsO hz (hq (l0,u0) (by simp)),EO.keepsO _ _ _ _ _ _ hz (hq (l1,u1) (by simp)) b,c.keepsO ES.keepsO hz (hq (l6,u6) (by simp)),d.keepsO dV.keepsO hz (hq (l7,u7) (by simp)),AK.keepsO _ _ _ _ _ _ hz (hq (l8,u8) (by simp)) e,f,hp⟩
theorem EB.widens:ez EB:=by
 rintro lo hi lo' hi' w cs l h1 h2 ⟨v,rfl,h⟩
 exact ⟨v,rfl,h.widens h1 h2⟩
theorem NdO.widens:ez NdO:=by
 rintro lo hi lo' hi' w cs n h1 h2 ⟨v,rfl,g1,g2,h⟩
 exact ⟨v,rfl,g1,g2,h.widens h1 h2⟩
theorem AK.widens:ez AK:=by
 rintro lo hi lo' hi' w cs b h1 h2 ⟨v1,v2,v4,v5,l1,u1,l2,u2,l4,u4,l5,u5,rfl,g1,g2,a,b',c,d,hp⟩
 exact ⟨v1,v2,v4,v5,l1,u1,l2,u2,l4,u4,l5,u5,rfl,g1,g2,a,b',c,d,hp.widen h1 h2⟩
theorem ES.widens:ez ES:=by
 rintro lo hi lo' hi' w cs r h1 h2 ⟨c1,c2,v,l1,u1,l2,u2,l3,u3,rfl,a,b,c,hp⟩
 exact ⟨c1,c2,v,l1,u1,l2,u2,l3,u3,rfl,a,b,c,hp.widen h1 h2⟩
theorem EO.widens:ez EO:=by
 rintro lo hi lo' hi' w cs s h1 h2 ⟨v0,v1,v2,v3,v4,l0,u0,l1,u1,l2,u2,l3,u3,l4,u4,rfl,a,b,c,d,e,hp⟩
 exact ⟨v0,v1,v2,v3,v4,l0,u0,l1,u1,l2,u2,l3,u3,l4,u4,rfl,a,b,c,d,e,hp.widen h1 h2⟩
theorem ET.widens:ez ET:=by
 rintro lo hi lo' hi' w cs r h1 h2 ⟨v0,c1,v6,v7,c8,l0,u0,l1,u1,l6,u6,l7,u7,l8,u8,rfl,a,b,c,d,e,f,hp⟩
 exact ⟨v0,c1,v6,v7,c8,l0,u0,l1,u1,l6,u6,l7,u7,l8,u8,rfl,a,b,c,d,e,f,hp.widen h1 h2⟩
def kG {α:Type} (size:Nat) (P:Lie α) (g:Nat) (w:World) (xs:List α) (cells:List Value) (i:Nat):Prop:=
 ∃f:Nat→Nat × Nat,(∀j j',j<j'→j'<i→(f j).2≤(f j').1)∧(∀j,j<i→g<(f j).1∧(f j).2≤w.heap.size) ∧
  ∀j (h:j<xs.length),j<i→∃ds,ds.length=size∧P (f j).1 (f j).2 w ds xs[j]∧∀t u,ds[t]? = some u→cells[j * size+t]? = some u
theorem kG.zero {α:Type} {size:Nat} {P:Lie α} {g:Nat} {w:World} {xs:List α} {cells:List Value}:kG size P g w xs cells 0:=
 ⟨fun _=>(0,0),fun _ _ _ h=>absurd h (Nat.not_lt_zero _),fun _ h=>absurd h (Nat.not_lt_zero _),fun j _ hj=>absurd hj (Nat.not_lt_zero _)⟩
theorem kG.put {α:Type} {size:Nat} {P:Lie α} (hP:cK P) {g:Nat} {w w':World} {xs:List α} {cells:List Value} {i:Nat} (h:kG size P g w xs cells i) (hx:Ext w w') (hg:g<w.heap.size) (hi:i<xs.length) (ds:List Value) (hd:ds.length=size) (hl:cells.length=xs.length * size)
 (hp:P w.heap.size w'.heap.size w' ds xs[i]) (hgr:w'.grownBy (qH w' g (i * size) ds) (some g)):kG size P g (qH w' g (i * size) ds) xs (jl cells (i * size) ds) (i+1):=by
 obtain ⟨f,f1,f2,f3⟩:=h
 have hz:=Below.size hx
 refine ⟨fun j=>if j<i then f j else (w.heap.size,w'.heap.size),fun j j' h1 h2=>?_,fun j hj=>?_,fun j hj hji=>?_⟩
 ·by_cases hh:j'<i
  ·simp only [if_pos hh,if_pos (show j<i by omega)];exact f1 j j' h1 hh
  ·simp only [if_neg hh,if_pos (show j<i by omega)];exact (f2 j (by omega)).2
 ·rw [iy]
  by_cases hh:j<i
  ·simp only [if_pos hh];have:=f2 j hh;omega
  ·simp only [if_neg hh];omega
 ·by_cases hlt:j<i
  ·simp only [if_pos hlt]
   have hs:cW (f j).1 (f j).2 w (qH w' g (i * size) ds):=by
    intro b b1 b2 b3
    have:=f2 j hlt
    rw [hgr.block b (by omega) (by simp;omega)]
    exact hx.block b b3
   obtain ⟨es,h1,h2,h3⟩:=f3 j hj hlt
   refine ⟨es,h1,hP _ _ _ _ _ _ (by rw [iy];omega) hs h2,fun t u ht=>?_⟩
   have htl:t<size:=by
    by_cases hh:t<es.length
    ·omega
    ·rw [List.getElem?_eq_none (by omega)] at ht;cases ht
   rw [iE]
   ·exact h3 t u ht
   ·left
    have:(j+1) * size≤i * size:=Nat.mul_le_mul_right _ hlt
    rw [Nat.add_mul] at this
    omega
  ·have e:j=i:=by omega
   subst e
   simp only [if_neg hlt]
   have hs:cW w.heap.size w'.heap.size w' (qH w' g (j * size) ds):=cW.grown hgr (.inl hg)
   refine ⟨ds,hd,hP _ _ _ _ _ _ (by rw [iy];omega) hs hp,fun t u ht=>jO ds cells _ t u ?_ ht⟩
   have:(j+1) * size≤xs.length * size:=Nat.mul_le_mul_right _ hj
   rw [Nat.add_mul] at this
   omega
theorem kG.all {α:Type} {size:Nat} {P:Lie α} {base g cap lo:Nat} {e:TypeId} {w:World} {xs:List α} {cells:List Value} (h:kG size P g w xs cells xs.length) (own:w.ownsRow base e size (.slice (some ⟨g,0,none⟩) xs.length cap) xs.length cells) (hlo:lo≤g) (hc:xs.length≤cap) (hcm:cap≤maxLen) :
 SlO size P lo w.heap.size w (.slice (some ⟨g,0,none⟩) xs.length cap) xs:=by
 obtain ⟨f,f1,f2,f3⟩:=h
 refine ⟨_,_,rfl,hc,hcm,fun h=>(by cases h),.inr ⟨g,0,f,rfl,hlo,(vQ own).2,(vQ own).2,fun j=>own.frozenAt j,fun i j h1 h2=>.inl (f1 i j h1 h2),fun i hi=>?_⟩⟩
 obtain ⟨ds,h1,h2,h3⟩:=f3 i hi hi
 have:=f2 i hi
 refine ⟨by omega,this.2,.inr (by show g+1≤_;omega),ds,h1,h2,fun t u ht=>?_⟩
 rw [Nat.zero_add]
 exact pQ own _ _ (h3 t u ht)
structure pz (lo hi:Nat) (w w':World):Prop where
 os:w'.os=w.os
 tape:w'.tape=w.tape
 output:w'.output=w.output
 size:w.heap.size≤w'.heap.size
 block:∀b,b<w.heap.size→(b<lo∨hi≤b)→w'.heap[b]? = w.heap[b]?
theorem pz.refl (lo hi:Nat) (w:World):pz lo hi w w:=⟨rfl,rfl,rfl,Nat.le_refl _,fun _ _ _=>rfl⟩
theorem pz.trans {lo hi:Nat} {w w1 w2:World} (h:pz lo hi w w1) (k:pz lo hi w1 w2):pz lo hi w w2:=
 ⟨k.os.trans h.os,k.tape.trans h.tape,k.output.trans h.output,Nat.le_trans h.size k.size,fun b h1 h2=>(k.block b (Nat.lt_of_lt_of_le h1 h.size) h2).trans (h.block b h1 h2)⟩
theorem pz.of_ext {lo hi:Nat} {w w':World} (h:Ext w w'):pz lo hi w w':=⟨h.os,h.tape,h.output,Below.size h,fun b h1 _=>h.block b h1⟩
theorem pz.ext {lo hi:Nat} {w w1 w2:World} (h:pz lo hi w w1) (k:Ext w1 w2):pz lo hi w w2:=h.trans (.of_ext k)
theorem pz.widen {lo hi lo' hi':Nat} {w w':World} (h:pz lo hi w w') (h1:lo'≤lo) (h2:hi≤hi'):pz lo' hi' w w':=
 ⟨h.os,h.tape,h.output,h.size,fun b h3 h4=>h.block b h3 (by omega)⟩
theorem pz.set {lo hi b o:Nat} {u:Value} {w w':World} (h:pz lo hi w w') (h1:lo≤b) (h2:b<hi):pz lo hi w (w'.setCell ⟨b,o,none⟩ u):=
 h.trans ⟨rfl,rfl,rfl,by simp,fun k _ hk=>heap_setCell_other w' ⟨b,o,none⟩ k u (fun e=>by simp at e;omega)⟩
structure pL (b p n l u:Nat) (w w':World):Prop where
 os:w'.os=w.os
 tape:w'.tape=w.tape
 output:w'.output=w.output
 size:w.heap.size≤w'.heap.size
 block:∀c,c<w.heap.size→c≠b→(c<l∨u≤c)→w'.heap[c]? = w.heap[c]?
 froz:∀j,w'.frozen? ⟨b,j,none⟩=w.frozen? ⟨b,j,none⟩
 cell:∀j,(j<p∨p+n≤j)→w'.cell? ⟨b,j,none⟩=w.cell? ⟨b,j,none⟩
theorem pL.refl (b p n l u:Nat) (w:World):pL b p n l u w w:=⟨rfl,rfl,rfl,Nat.le_refl _,fun _ _ _ _=>rfl,fun _=>rfl,fun _ _=>rfl⟩
theorem pL.set {b p n l u o:Nat} {x:Value} {w w':World} (h:pL b p n l u w w') (h1:p≤o) (h2:o<p+n):pL b p n l u w (w'.setCell ⟨b,o,none⟩ x):=
 ⟨h.os,h.tape,h.output,by simpa using h.size,fun c c1 c2 c3=>(heap_setCell_other w' ⟨b,o,none⟩ c x (fun e=>c2 (by simp [e]))).trans (h.block c c1 c2 c3),fun j=>(World.frozen?_setCell _ _ _ _).trans (h.froz j),
  fun j hj=>(World.cell?_setCell_other _ _ _ _ (by intro e;injection e with e1 e2;omega)).trans (h.cell j hj)⟩
theorem pL.ext {b p n l u:Nat} {w w1 w2:World} (h:pL b p n l u w w1) (k:Ext w1 w2) (hb:b<w.heap.size):pL b p n l u w w2:=by
 have hbb:w2.heap[b]? = w1.heap[b]?:=k.block b (Nat.lt_of_lt_of_le hb h.size)
 exact ⟨k.os.trans h.os,k.tape.trans h.tape,k.output.trans h.output,Nat.le_trans h.size (Below.size k),fun c c1 c2 c3=>(k.block c (Nat.lt_of_lt_of_le c1 h.size)).trans (h.block c c1 c2 c3),
  fun j=>(World.frozen?_of_block hbb).trans (h.froz j),fun j hj=>(World.cell?_of_block hbb).trans (h.cell j hj)⟩
theorem SlO.at {α:Type} {P:Lie α} (hP:cK P) {size lo hi:Nat} {w:World} {v:Value} {xs:List α} (h:SlO size P lo hi w v xs) (i:Nat) (hi':i<xs.length) :
 ∃b o k l u cs,v=.slice (some ⟨b,o,none⟩) xs.length k∧xs.length≤k∧k≤maxLen∧lo≤b∧b<hi∧b<w.heap.size∧(∀j,w.frozen? ⟨b,j,none⟩=false)∧lo≤l∧u≤hi∧Off (l,u) (b,b+1)∧cs.length=size∧P l u w cs xs[i]∧bB w b (o+i * size) cs ∧
  ∀w' y cs',pL b (o+i * size) size l u w w'→cs'.length=size→P l u w' cs' y→bB w' b (o+i * size) cs'→SlO size P lo hi w' v (xs.set i y):=by
 obtain ⟨a,k,rfl,h1,h2,h3,h4⟩:=h
 rcases h4 with h4|⟨b,o,f,rfl,hb1,hb2,hb3,hf,ho,h4⟩
 ·subst h4;cases hi'
 ·obtain ⟨g1,g2,g3,cs,hl,hp,hc⟩:=h4 i hi'
  refine ⟨b,o,k,(f i).1,(f i).2,cs,rfl,h1,h2,hb1,hb2,hb3,hf,g1,g2,g3,hl,hp,hc,fun w' y cs' ht hl' hp' hc'=>?_⟩
  refine ⟨_,k,by rw [List.length_set],by rw [List.length_set];exact h1,h2,fun e=>(by cases e),.inr ⟨b,o,f,rfl,hb1,hb2,Nat.lt_of_lt_of_le hb3 ht.size,fun j=>(ht.froz j).trans (hf j),fun i j q1 q2=>ho i j q1 (by simpa using q2),fun j hj=>?_⟩⟩
  have hj':j<xs.length:=by simpa using hj
  obtain ⟨e1,e2,e3,ds,el,ep,ec⟩:=h4 j hj'
  by_cases hji:j=i
  ·subst hji
   exact ⟨g1,g2,g3,cs',hl',by rw [List.getElem_set_self];exact hp',hc'⟩
  ·refine ⟨e1,e2,e3,ds,el,?_,fun t x hx=>?_⟩
   ·rw [List.getElem_set_ne (fun e=>hji e.symm)]
    refine hP _ _ _ _ _ _ ht.size (fun c c1 c2 c3=>ht.block c c3 ?_ ?_) ep
    ·intro e
     subst e
     simp only [Off] at e3;omega
    ·have:Off (f j) (f i):=by
      rcases Nat.lt_or_ge j i with q|q
      ·exact ho j i q hi'
      ·have:=ho i j (by omega) hj'
       exact this.symm
     rcases this with q|q
     ·exact .inl (by omega)
     ·exact .inr (by omega)
   ·have htl:t<size:=by
     have:t<ds.length:=by
      by_cases hh:t<ds.length
      ·exact hh
      ·rw [List.getElem?_eq_none (by omega)] at hx;cases hx
     omega
    rw [ht.cell (o+j * size+t) ?_]
    ·exact ec t x hx
    ·rcases Nat.lt_or_ge j i with q|q
     ·left
      have:(j+1) * size≤i * size:=Nat.mul_le_mul_right _ q
      rw [Nat.add_mul] at this;omega
     ·right
      have:(i+1) * size≤j * size:=Nat.mul_le_mul_right _ (by omega)
      rw [Nat.add_mul] at this;omega
theorem bB.nil (w:World) (b o:Nat):bB w b o []:=fun j u h=>by simp at h
theorem bB.cons {w:World} {b o:Nat} {c:Value} {cs:List Value} (h:w.cell? ⟨b,o,none⟩=some c) (k:bB w b (o+1) cs):bB w b o (c :: cs):=by
 intro j u hj
 cases j with
 | zero=>simp at hj;subst hj;exact h
 | succ j=>rw [show o+(j+1)=(o+1)+j by omega];exact k j u (by simpa using hj)
end Go.Proofs.YtacafmejcdgboaaGreatDoor
namespace Go.Proofs.YtacafmejcdgboaaGreatDoor
open Go.RowKit
set_option linter.unusedVariables false
set_option linter.unusedSimpArgs false
theorem bB.set {w:World} {b p off:Nat} {x:Value} {cs:List Value} (h:bB w b p cs) (ho:off<cs.length):bB (w.setCell ⟨b,p+off,none⟩ x) b p (cs.set off x):=by
 intro j u hj
 rw [List.getElem?_set] at hj
 by_cases e:off=j
 ·subst e
  rw [if_pos rfl,if_pos ho] at hj
  cases hj
  exact World.cell?_setCell_same _ _ _ (h off _ (List.getElem?_eq_getElem ho))
 ·rw [if_neg e] at hj
  exact lM (h j u hj) (by intro e2;injection e2 with e3 e4;omega)
theorem bB.ext {w w':World} {b p:Nat} {cs:List Value} (h:bB w b p cs) (hx:Ext w w'):bB w' b p cs:=fun j u hj=>hx.keep (h j u hj)
theorem pz.keep {lo hi:Nat} {w w':World} {q:Addr} {v:Value} (h:pz lo hi w w') (hc:w.cell? q=some v) (hq:q.block<lo∨hi≤q.block):w'.cell? q=some v:=
 (World.cell?_of_block (h.block _ (World.block_lt_of_cell? w q hc) hq)).trans hc
theorem Off.symm {a b:Nat × Nat} (h:Off a b):Off b a:=Or.symm h
theorem Off.sub {a b:Nat × Nat} {l u l' u':Nat} (h:Off a b) (h1:a.1≤l) (h2:u≤a.2) (h3:b.1≤l') (h4:u'≤b.2):Off (l,u) (l',u'):=by
 rcases h with h|h
 ·exact .inl (by show u≤l';omega)
 ·exact .inr (by show u'≤l;omega)
theorem Off.lt {l u b:Nat} (h:Off (l,u) (b,b+1)):b<l∨u≤b:=by
 rcases h with h|h <;> simp at h <;> omega
end Go.Proofs.YtacafmejcdgboaaGreatDoor
namespace Go.Proofs.YtacafmejcdgboaaGreatDoor
open Go.RowKit
set_option linter.unusedVariables false
set_option linter.unusedSimpArgs false
def c1 {α:Type} (_:α):Nat:=1
def c2 {α:Type} (_:α):Nat:=2
def c3 {α:Type} (_:α):Nat:=3
theorem kN {α:Type} (f:α→Nat) (l:List α):l.length≤wtL f l:=by unfold wtL;omega
end Go.Proofs.YtacafmejcdgboaaGreatDoor
namespace Go.Proofs.YtacafmejcdgboaaGreatDoor
open Go.RowKit
set_option linter.unusedVariables false
set_option linter.unusedSimpArgs false
structure Lg where
 durable:ByteArray
 pending:ByteArray
 count:Int
structure Cns where
 run:Rnt
 log:Lg
def LgP:Lie Lg:=fun _ _ _ cs x=>cs = [.string x.durable,.string x.pending,.int .i64 x.count]∧x.durable.size≤maxLen∧x.pending.size≤maxLen∧I64 x.count
def GI:Lie Cns:=fun lo hi w cs x=>∃c1 c2,cs=c1++c2∧Gg lo hi w c1 x.run∧LgP lo hi w c2 x.log
def GK:Lie Cns:=fun lo hi w cs x=>∃c1 c2,cs=c1++c2∧ET lo hi w c1 x.run∧LgP lo hi w c2 x.log
theorem LgP.keeps:eu LgP:=fun _ _ _ _ _ _ _ h=>h
theorem LgP.keepsO:cK LgP:=LgP.keeps.toO
theorem LgP.widens:ez LgP:=fun _ _ _ _ _ _ _ _ _ h=>h
theorem GI.keeps:eu GI:=by
 rintro lo hi w w' cs x hs ⟨c1,c2,rfl,a,b⟩
 exact ⟨c1,c2,rfl,Gg.keeps _ _ _ _ _ _ hs a,b⟩
theorem GK.keepsO:cK GK:=by
 rintro lo hi w w' cs x hz hs ⟨c1,c2,rfl,a,b⟩
 exact ⟨c1,c2,rfl,ET.keepsO _ _ _ _ _ _ hz hs a,b⟩
end Go.Proofs.YtacafmejcdgboaaGreatDoor
namespace Go.Proofs.YtacafmejcdgboaaGreatDoor
open Go.RowKit Go.ChangeShapes Go.WideShapes
set_option linter.unusedVariables false
set_option linter.unusedSimpArgs false
section
variable {H:Type} {enc:TypeId × Value→H} {P:Program} {w:World}
def fG {H:Type} (enc:TypeId × Value→H) (P:Program) (w:World) (t:TypeId) {α:Type} (L:Lie α):Prop:=
 ∀fuel cs x,DataW.trod enc P w 0 (fun _=>true) true fuel t cs=some x→∃d,L 0 w.heap.size w cs d
theorem sE (b o i:Nat):(⟨b,o,none⟩:Addr).add i=⟨b,o+i,none⟩:=by
 unfold Addr.add
 split <;> simp_all
theorem xS {t:TypeId} (ht:P.underlying t=some (.int .i64)):fG enc P w t cH:=by
 intro fuel cs x h
 obtain ⟨n,rfl,_,hw⟩:=DataW.trod_int ht h
 exact ⟨n,rfl,bounds_i64 hw⟩
theorem rY {t:TypeId} (ht:P.underlying t=some .string):fG enc P w t dV:=by
 intro fuel cs x h
 obtain ⟨s,rfl,_,hw⟩:=DataW.trod_string ht h
 exact ⟨s,rfl,hw⟩
theorem eJ {t e:TypeId} {α:Type} {L:Lie α} {size:Nat} (ht:P.underlying t=some (.slice e)) (hc:P.cellsOf e=size) (hp:0<size) (he:fG enc P w e L) :
 ∀fuel cs x,DataW.trod enc P w 0 (fun _=>true) true fuel t cs=some x→∃v xs,cs = [v]∧SlV size L 0 w.heap.size w v xs:=by
 intro fuel cs x h
 rcases DataW.trod_slice ht h with ⟨rfl,_⟩|⟨a,len,cap,elems,rest,n,_,rfl,rfl,hb,hl,hm,hlen,hel,_,_⟩
 ·exact ⟨_,[],rfl,none,0,rfl,by simp,Nat.zero_le _,fun _=>rfl,.inl rfl⟩
 ·have each:∀i:Fin len,∃y:List Value × α,w.cells? 0 (a.add (i.1 * size)) size=some y.1∧L 0 w.heap.size w y.1 y.2:=by
   intro ⟨i,hi⟩
   have h1:=hel i hi
   rw [List.getElem?_eq_getElem (by omega),Option.bind_eq_some_iff] at h1
   obtain ⟨c,hc1,hc2⟩:=h1
   rw [hc] at hc1
   obtain ⟨d,hd⟩:=he _ _ _ hc2
   exact ⟨(c,d),hc1,hd⟩
  obtain ⟨f,hf⟩:=Classical.axiomOfChoice each
  refine ⟨_,List.ofFn (fun i=>(f i).2),rfl,some a,cap,by simp,by simpa using hl,hm,fun h=>(nomatch h),?_⟩
  by_cases h0:len=0
  ·exact .inl (by subst h0;simp)
  ·obtain ⟨b,off,s⟩:=a
   obtain ⟨_,hl0,hg0⟩:=World.cells?_some (hf ⟨0,by omega⟩).1
   have hc0:=hg0 0 hp
   rw [List.getElem?_eq_getElem (by omega)] at hc0
   obtain rfl:s=none:=by simpa [Addr.add] using World.cell?_spot hc0
   refine .inr ⟨b,off,rfl,Nat.zero_le _,by simpa [Addr.add] using World.block_lt_of_cell? _ _ hc0,fun i hi=>?_⟩
   have hi':i<len:=by simpa using hi
   obtain ⟨_,hl1,hg1⟩:=World.cells?_some (hf ⟨i,hi'⟩).1
   refine ⟨(f ⟨i,hi'⟩).1,hl1,by simpa using (hf ⟨i,hi'⟩).2,fun j u hu=>?_⟩
   have hj:j<size:=by rw [← hl1];exact (List.getElem?_eq_some_iff.1 hu).1
   have:=hg1 j hj
   rw [hu,sE,sE] at this
   exact this
theorem eO {t:TypeId} {fs:Array Field} {fuel:Nat} {cs:List Value} {x:DataW H × List MemPlace} (hs:P.underlying t=some (.struct fs)) (h:DataW.trod enc P w 0 (fun _=>true) true fuel t cs=some x) :
 cs.length=P.cellsOf t∧∃n,∀(i:Nat) (f:Field),fs[i]? = some f→∃y,DataW.trod enc P w 0 (fun _=>true) true n f.type ((cs.drop f.offset).take (P.cellsOf f.type))=some y:=by
 obtain ⟨xs,n,_,_,hl,hlen,hf⟩:=DataW.trod_struct hs h
 refine ⟨hl,n,fun i f hi=>?_⟩
 have hlt:i<xs.length:=by rw [hlen];exact (Array.getElem?_eq_some_iff.1 hi).1
 exact ⟨xs[i],by rw [hf i f hi,List.getElem?_eq_getElem hlt]⟩
end
theorem Dv {α:Type} {cs:List α} (h:cs.length=2):∃a b,cs = [a,b]:=by
 match cs,h with
 | [a,b],_=>exact ⟨a,b,rfl⟩
theorem Fx {α:Type} {cs:List α} (h:cs.length=3):∃a b c,cs = [a,b,c]:=by
 match cs,h with
 | [a,b,c],_=>exact ⟨a,b,c,rfl⟩
theorem Gn {α:Type} {cs:List α} (h:cs.length=6):∃a b c d e f,cs = [a,b,c,d,e,f]:=by
 match cs,h with
 | [a,b,c,d,e,f],_=>exact ⟨a,b,c,d,e,f,rfl⟩
theorem E6 {α:Type} {cs:List α} (h:cs.length=13):∃a0 a1 a2 a3 a4 a5 a6 a7 a8 a9 a10 a11 a12,cs = [a0,a1,a2,a3,a4,a5,a6,a7,a8,a9,a10,a11,a12]:=by
 match cs,h with
 | [a0,a1,a2,a3,a4,a5,a6,a7,a8,a9,a10,a11,a12],_=>exact ⟨a0,a1,a2,a3,a4,a5,a6,a7,a8,a9,a10,a11,a12,rfl⟩
end Go.Proofs.YtacafmejcdgboaaGreatDoor
namespace Go.Proofs.YtacafmejcdgboaaGreatDoor
open Go.RowKit
set_option linter.unusedVariables false
set_option linter.unusedSimpArgs false
end Go.Proofs.YtacafmejcdgboaaGreatDoor
namespace Go.Proofs.YtacafmejcdgboaaGreatDoor
open Go.RowKit
set_option linter.unusedVariables false
set_option linter.unusedSimpArgs false
theorem eu.ofFlat {α:Type} {P:Lie α} (h:xF P):eu P:=fun _ _ _ _ _ _ _ hp=>h _ _ _ _ _ _ _ _ hp
def tJ {α:Type} (size:Nat) (P:Lie α) (e:TypeId) (base m:Nat) (w:World) (v:Value) (xs:List α):Prop:=
 ∃cells,∃f:Nat→Nat × Nat,w.ownsRow base e size v xs.length cells∧m≤w.heap.size∧(∀i j,i<j→j<xs.length→(f i).2≤(f j).1) ∧
  ∀i (h:i<xs.length),∃ds,ds.length=size∧base≤(f i).1∧(f i).2≤m∧(∀g,v.ownBlock=some g→g<(f i).1∨(f i).2≤g)∧P (f i).1 (f i).2 w ds xs[i]∧∀t y,ds[t]? = some y→cells[i * size+t]? = some y
theorem tJ.nil {α:Type} {size:Nat} {P:Lie α} {e:TypeId} {base m:Nat} {w:World} (hm:m≤w.heap.size):tJ size P e base m w (.slice none 0 0) []:=
 ⟨[],fun _=>(0,0),⟨by simp,.inl ⟨rfl,rfl⟩⟩,hm,fun _ _ _ h=>absurd h (Nat.not_lt_zero _),fun i h=>absurd h (Nat.not_lt_zero _)⟩
theorem tJ.made {α:Type} {size:Nat} {P:Lie α} {e:TypeId} {base m:Nat} {w:World} (hb:base≤w.heap.size) (hm:m≤w.heap.size):tJ size P e base m (w.alloc (.cells #[] e)) (.slice (some ⟨w.heap.size,0,none⟩) 0 0) []:=
 ⟨[],fun _=>(0,0),World.ownsRow_made w #[] 0 hb (by decide) (by simp),by simp;omega,fun _ _ _ h=>absurd h (Nat.not_lt_zero _),fun i h=>absurd h (Nat.not_lt_zero _)⟩
theorem tJ.ext {α:Type} {size:Nat} {P:Lie α} (hP:cK P) {e:TypeId} {base m:Nat} {w w':World} {v:Value} {xs:List α} (h:tJ size P e base m w v xs) (hx:Ext w w'):tJ size P e base m w' v xs:=by
 obtain ⟨cells,f,own,hm,hf,hel⟩:=h
 refine ⟨cells,f,nG own hx,Nat.le_trans hm (Below.size hx),hf,fun i hi=>?_⟩
 obtain ⟨ds,d1,d2,d3,d4,d5,d6⟩:=hel i hi
 exact ⟨ds,d1,d2,d3,d4,hP.ext d5 hx,d6⟩
theorem tJ.block {α:Type} {size:Nat} {P:Lie α} {e:TypeId} {base m:Nat} {w:World} {v:Value} {xs:List α} (h:tJ size P e base m w v xs):∀g,v.ownBlock=some g→base≤g∧g<w.heap.size:=by
 obtain ⟨cells,f,own,hel⟩:=h
 exact own.lt
theorem tJ.snoc {α:Type} {size:Nat} {P:Lie α} (hP:cK P) {e:TypeId} {base m:Nat} {w w':World} {v v':Value} {xs:List α} {x:α} {ds:List Value} {l u:Nat} (h:tJ size P e base m w v xs) (hd:ds.length=size) (hml:m≤l) (hl:base≤l) (hlu:l≤u) (hu:u≤w.heap.size) (hs:∀g,v.ownBlock=some g→g<l∨u≤g) (hx:P l u w ds x)
 (hr:∀cells,w.ownsRow base e size v xs.length cells→w'.ownsRow base e size v' (xs.length+1) (cells++ds)) (hg:w.grownBy w' v.ownBlock) (hb:v'.ownBlock=v.ownBlock∨v'.ownBlock=some w.heap.size):tJ size P e base u w' v' (xs++[x]):=by
 obtain ⟨cells,f,own,hm,hf,hel⟩:=h
 have hk:∀l u,(∀g,v.ownBlock=some g→g<l∨u≤g)→cW l u w w':=fun l u hh b h1 h2 h3=>hg.block b h3 (fun e=>by have:=hh b e.symm;omega)
 have hv':∀l u,u≤w.heap.size→(∀g,v.ownBlock=some g→g<l∨u≤g)→∀g,v'.ownBlock=some g→g<l∨u≤g:=by
  intro l u hh hs g hg'
  rcases hb with hb|hb
  ·exact hs g (by rw [← hb];exact hg')
  ·rw [hb] at hg';cases hg';exact .inr hh
 refine ⟨cells++ds,fun i=>if i<xs.length then f i else (l,u),by rw [List.length_append];exact hr cells own,Nat.le_trans hu hg.size,fun i j h1 h2=>?_,fun i hi=>?_⟩
 ·have h2':j<xs.length+1:=by simpa using h2
  by_cases hj:j<xs.length
  ·simp only [if_pos hj,if_pos (show i<xs.length by omega)];exact hf i j h1 hj
  ·simp only [if_neg hj,if_pos (show i<xs.length by omega)]
   obtain ⟨_,_,_,d3,_⟩:=hel i (by omega)
   show (f i).2≤l
   omega
 ·by_cases hlt:i<xs.length
  ·simp only [if_pos hlt]
   obtain ⟨es,d1,d2,d3,d4,d5,d6⟩:=hel i hlt
   refine ⟨es,d1,d2,by omega,hv' _ _ (by omega) d4,?_,fun t y ht=>?_⟩
   ·rw [List.getElem_append_left hlt];exact hP _ _ _ _ _ _ hg.size (hk _ _ d4) d5
   ·have:=d6 t y ht
    rw [List.getElem?_append_left (by
     rcases Nat.lt_or_ge (i * size+t) cells.length with hh|hh
     ·exact hh
     ·rw [List.getElem?_eq_none hh] at this;cases this)]
    exact this
  ·have ei:i=xs.length:=by simp at hi;omega
   subst ei
   simp only [if_neg (Nat.lt_irrefl _)]
   refine ⟨ds,hd,hl,Nat.le_refl _,hv' l u hu hs,?_,fun t y ht=>?_⟩
   ·rw [List.getElem_append_right (Nat.le_refl _)];simp only [Nat.sub_self,List.getElem_cons_zero];exact hP _ _ _ _ _ _ hg.size (hk l u hs) hx
   ·rw [List.getElem?_append_right (by rw [own.1];omega),own.1,show xs.length * size+t - xs.length * size=t by omega];exact ht
theorem tJ.set {α:Type} {size:Nat} {P:Lie α} (hP:cK P) {e:TypeId} {base m B o:Nat} {u:Value} {w:World} {v:Value} {xs:List α} (h:tJ size P e base m w v xs) (hB:B<base):tJ size P e base m (w.setCell ⟨B,o,none⟩ u) v xs:=by
 obtain ⟨cells,f,own,hm,hf,hel⟩:=h
 have hg:=bF (w:=w) B o u
 refine ⟨cells,f,⟨own.1,?_⟩,by simpa using hm,hf,fun i hi=>?_⟩
 ·rcases own.2 with hn|⟨g,cap,cur,rfl,h1,h2,h3⟩
  ·exact .inl hn
  ·refine .inr ⟨g,cap,cur,rfl,h1,?_,h3⟩
   have hl:g<w.heap.size:=by
    by_cases hh:g<w.heap.size
    ·exact hh
    ·rw [Array.getElem?_eq_none (by omega)] at h2;cases h2
   rw [hg.block g hl (by simp;omega)];exact h2
 ·obtain ⟨ds,d1,d2,d3,d4,d5,d6⟩:=hel i hi
  exact ⟨ds,d1,d2,d3,d4,hP.set d5 (.inl (by omega)),d6⟩
theorem SlO.grown {α:Type} {P:Lie α} (hP:cK P) {size lo hi:Nat} {w w':World} {v:Value} {xs:List α} {r:Option Nat} (h:SlO size P lo hi w v xs) (hg:w.grownBy w' r) (hr:∀g,r=some g→g<lo∨hi≤g):SlO size P lo hi w' v xs:=
 h.keepsO hP hg.size (fun b h1 h2 h3=>hg.block b h3 (fun e=>by have:=hr b e.symm;omega))
theorem cK.grown {α:Type} {P:Lie α} (hP:cK P) {lo hi:Nat} {w w':World} {cs:List Value} {x:α} {r:Option Nat} (h:P lo hi w cs x) (hg:w.grownBy w' r) (hr:∀g,r=some g→g<lo∨hi≤g):P lo hi w' cs x:=
 hP _ _ _ _ _ _ hg.size (fun b h1 h2 h3=>hg.block b h3 (fun e=>by have:=hr b e.symm;omega)) h
theorem dA.grown {w w':World} {B:Nat} {cs:List Value} {r:Option Nat} (h:dA w B cs) (hg:w.grownBy w' r) (hr:∀g,r=some g→g≠B):dA w' B cs:=by
 intro j u hj
 obtain ⟨h1,h2⟩:=h j u hj
 have hb:=hg.block B (World.block_lt_of_cell? w ⟨B,j,none⟩ h1) (fun e=>hr B e.symm rfl)
 exact ⟨(World.cell?_of_block hb).trans h1,(World.frozen?_of_block hb).trans h2⟩
variable {P:Program} {w:World}
end Go.Proofs.YtacafmejcdgboaaGreatDoor
namespace Go.Proofs.YtacafmejcdgboaaGreatDoor
open Go.RowKit
set_option linter.unusedVariables false
set_option linter.unusedSimpArgs false
section
variable {P:Program} {ops:Array Oper} {Q:Exit→Act→World→Prop} {md:Region.Mode} {S:World→Prop}
def o5 (md:Region.Mode) (ops:Array Oper) (listed:Array Bool):Prop:=
 ∀k ok,ops[k]? = some ok→listed.getD k false=true→∀e∈ok.after,Region.binds md e=true→listed.getD e.on false=true
theorem sL {listed:Array Bool} {i:Nat} (h:listed.getD i true=false):listed.getD i false=false:=by
 rcases Nat.lt_or_ge i listed.size with h'|h'
 ·simp [h'] at h ⊢;exact h
 ·simp [Array.getElem?_eq_none h'] at h
theorem nF {listed:Array Bool} {i j:Nat} (h:(listed.setIfInBounds i true).getD j false=true):j=i∨listed.getD j false=true:=by
 by_cases hij:i=j
 ·exact .inl hij.symm
 ·rw [getD_set_ne false hij] at h;exact .inr h
theorem oe {listed:Array Bool} {i j:Nat} (h:listed.getD j false=true):(listed.setIfInBounds i true).getD j false=true:=by
 by_cases hij:i=j
 ·subst hij
  rcases Nat.lt_or_ge i listed.size with h'|h'
  ·simp [h']
  ·simp [Array.getElem?_eq_none h'] at h
 ·rw [getD_set_ne false hij];exact h
theorem o5.set {listed:Array Bool} {j:Nat} (h:o5 md ops listed) (hj:j∈Region.ready md ops listed):o5 md ops (listed.setIfInBounds j true):=by
 intro k ok hk hl e he hb
 refine oe ?_
 rcases nF hl with rfl|hl
 ·obtain ⟨_,o,ho,hall⟩:=mem_ready.1 hj
  rw [hk] at ho;cases ho
  exact hall e he hb
 ·exact h k ok hk hl e he hb
def gi (md:Region.Mode) (ops:Array Oper):Nat→Nat→Nat→Bool
 | 0,_,_=>false
 | f+1,j,i=>match ops[j]? with|none=>false|some o=>o.after.any (fun e=>Region.binds md e && (e.on == i || gi md ops f e.on i))
theorem my {listed:Array Bool} {i:Nat} (hC:o5 md ops listed):∀(f j:Nat) (oj:Oper),ops[j]? = some oj→(∀e∈oj.after,Region.binds md e=true→listed.getD e.on false=true)→gi md ops f j i=true→listed.getD i false=true:=by
 intro f
 induction f with
 | zero=>intro j oj _ _ h;cases h
 | succ f ih=>
  intro j oj hj hall h
  unfold gi at h
  rw [hj] at h
  dsimp only at h
  obtain ⟨k,hk,hb⟩:=Array.any_eq_true.1 h
  simp only [Bool.and_eq_true,Bool.or_eq_true,beq_iff_eq] at hb
  have hm:=Array.getElem_mem hk
  obtain ⟨hb1,hb2⟩:=hb
  have hl:=hall _ hm hb1
  rcases hb2 with hb2|hb2
  ·rw [← hb2];exact hl
  ·cases ho:ops[(oj.after[k]).on]? with
   | none=>
    cases f with
    | zero=>cases hb2
    | succ f=>unfold gi at hb2;rw [ho] at hb2;cases hb2
   | some o2=>exact ih _ o2 ho (hC _ o2 ho hl) hb2
def tn (P:Program) (md:Region.Mode) (ops:Array Oper) (Q:Exit→Act→World→Prop) (S:World→Prop) (L:Nat):Nat→Array Bool→Act→World→Prop
 | 0,listed,a,w=>Region.ready md ops listed = []∧Q .normal a w
 | n+1,listed,a,w=>o5 md ops listed→(Region.ready md ops listed = []→Q .normal a w) ∧
  ∀i∈Region.ready md ops listed,wpOp P ops Q i (fun a' w'=>(L≤i∧wpAny P md ops Q n (listed.setIfInBounds i true) a' w')∨(i<L∧S w'∧tn P md ops Q S L n (listed.setIfInBounds i true) a' w')) a w
def jx (P:Program) (md:Region.Mode) (ops:Array Oper) (Q:Exit→Act→World→Prop) (S:World→Prop) (L fuel:Nat) (listed:Array Bool) (a:Act) (w:World) (rs:List Nat):Prop:=
 ∀i∈rs,i<L∧wpOp P ops Q i (fun a' w'=>S w'∧tn P md ops Q S L fuel (listed.setIfInBounds i true) a' w') a w
theorem jx.nil {L fuel:Nat} {listed:Array Bool} {a:Act} {w:World}:jx P md ops Q S L fuel listed a w []:=fun _ h=>by cases h
theorem jx.cons {L fuel:Nat} {listed:Array Bool} {a:Act} {w:World} {i:Nat} {o:Oper} {rs:List Nat} (ho:ops[i]? = some o) (hiL:i<L)
 (h:∀K':Act→World→Prop,Shut (∀a w,S w→(S w→tn P md ops Q S L fuel (listed.setIfInBounds i true) a w)→K' a w)→if Region.wanted o (yielded ops a.tmps)=true then Oper.wp P o a w K' Q else K' (a.put o.dst undef) w)
 (hs:jx P md ops Q S L fuel listed a w rs):jx P md ops Q S L fuel listed a w (i :: rs):=fun j hj=>by
 rcases List.mem_cons.1 hj with rfl|hj
 ·exact ⟨hiL,wpOp_step ho (fun K' hK=>h K' (fun a w hS hW=>hK a w ⟨hS,hW hS⟩))⟩
 ·exact hs j hj
def CY (md:Region.Mode) (ops:Array Oper):Array Bool→List Nat→Bool
 | listed,[]=>(Region.ready md ops listed).isEmpty
 | listed,i :: l=>(Region.ready md ops listed == [i]) && CY md ops (listed.setIfInBounds i true) l
theorem dA.drew {w:World} {B:Nat} {cs:List Value} (h:dA w B cs):dA w.drew B cs:=h
end
end Go.Proofs.YtacafmejcdgboaaGreatDoor
namespace Go.Proofs.YtacafmejcdgboaaGreatDoor
open Go.RowKit
set_option linter.unusedVariables false
set_option linter.unusedSimpArgs false
theorem iM (b:Nat):∀(vs:List Value) (w:World) (o:Nat),w.setCells b o vs=qH w b o vs:=by
 intro vs
 induction vs with
 | nil=>intro w o;rfl
 | cons v vs ih=>intro w o;exact ih _ _
theorem oM (ds:List Value):∀(w:World) (b k:Nat),w.grownBy (qH w b k ds) (some b):=by
 induction ds with
 | nil=>intro w b k;exact jD _ _
 | cons d ds ih=>intro w b k;exact lz (bF b k d) (ih _ b (k+1))
theorem dA.put {k B:Nat} {ds:List Value} {w:World} {cs:List Value} (h:dA w B cs):dA (qH w B k ds) B (jl cs k ds):=by
 induction ds generalizing w k cs with
 | nil=>exact h
 | cons d ds ih=>exact ih (h.set k d)
variable {P:Program}
theorem lL {w:World} {B:Nat} {old:List Value} (hb:dA w B old) (o:Nat) (cs:List Value) (hl:o+cs.length≤old.length) (ty:TypeId) (hi:(P.info? ty).map (·.size)=some cs.length) (h1:cs.all (·.oneCell')=true) :
 ∃w',(Instr.storeAt ty (.pointer (some ⟨B,o,none⟩)) (.agg cs.toArray)).run P w=.ok () w'∧dA w' B (jl old o cs)∧w.grownBy w' (some B)∧w'.heap.size=w.heap.size:=by
 refine ⟨qH w B o cs,?_,hb.put,oM cs w B o,iy _ _ _ _⟩
 rw [run_storeAt_mid w B o ty cs.toArray (fun j hj=>?_) (by simpa using hi) (all_oneCell_toArray (by simpa using h1)),iM]
 have hj':o+j<old.length:=by simp at hj;omega
 obtain ⟨h2,h3⟩:=hb (o+j) _ (List.getElem?_eq_getElem hj')
 exact ⟨by rw [h2];rfl,h3⟩
end Go.Proofs.YtacafmejcdgboaaGreatDoor
namespace Go.Proofs.YtacafmejcdgboaaGreatDoor
open Go.RowKit
set_option linter.unusedVariables false
set_option linter.unusedSimpArgs false
structure Ob where
 eff:Bool
 c:(Nat→Value)→Value
 R:Value→Nat→Nat→World→Prop
def Ob.val (o:Ob) (k:Nat) (vs:Nat→Value):Value:=if o.eff then vs k else o.c vs
def obP (c:(Nat→Value)→Value):Ob:=⟨false,c,fun _ _ _ _=>True⟩
def obE (R:Value→Nat→Nat→World→Prop):Ob:=⟨true,fun _=>undef,R⟩
def AF (D:List Ob) (k:Nat):Ob:=D.getD k (obP fun _=>undef)
section
variable {P:Program} {md:Region.Mode} {ops:Array Oper} {Q:Exit→Act→World→Prop}
def BG (W:World) (L:Nat) (D:List Ob) (vs:Nat→Value) (l u:Nat→Nat) (w:World):Prop:=
 Ext W w∧(∀j,j<L→(AF D j).eff=true→(AF D j).R (vs j) (l j) (u j) w∧(W.heap.size≤l j∧l j≤u j∧u j≤w.heap.size)) ∧
  ∀i j,i<L→j<L→i≠j→(AF D i).eff=true→(AF D j).eff=true→Off (l i,u i) (l j,u j)
structure Hh (md:Region.Mode) (ops:Array Oper) (L:Nat) (fs tail:List Nat):Prop where
 sel:∀(j:Nat) (o:Oper) cs b,ops[j]? = some o→o.op≠.select cs b
 len:L+tail.length≤ops.size
 down:∀k o,ops[k]? = some o→∀e∈o.after,Region.binds md e=true→e.on<k
 am:∀k o,k<L→ops[k]? = some o→∀t∈o.looksAt ops,∀j oj,j<L→ops[j]? = some oj→oj.dst=some t→∃e∈o.after,Region.binds md e=true∧e.on=j
 dsts:∀k o,k<L→ops[k]? = some o→∀j oj d,j<k→ops[j]? = some oj→oj.dst=some d→o.dst≠some d
 till:∀k o,L≤k→ops[k]? = some o→∀i,i<L→i ∉ fs→gi md ops ops.size k i=true
 loose:∀f∈fs,f<L∧∃o t ix,ops[f]? = some o∧o.op=.extract t ix∧∀j oj,f<j→ops[j]? = some oj→(∀e∈oj.after,Region.binds md e=true→e.on≠f)→o.apart ops oj=true
 chain:CY md ops ((List.range L).foldl (fun a k=>a.setIfInBounds k true) (Array.replicate ops.size false)) tail=true
structure Rep (ops:Array Oper) (L:Nat) (a0:Act) (V:Nat→Value) (p:Nat→Prop) (a:Act):Prop where
 def':a.defers=a0.defers
 size:a.tmps.size=a0.tmps.size
 out:∀t,(∀k o,k<L→ops[k]? = some o→p k→o.dst≠some t)→a.tmps[t]? = a0.tmps[t]?
 at':∀k o t,k<L→ops[k]? = some o→p k→o.dst=some t→t<a0.tmps.size→a.tmps[t]? = some (V k)
variable {L:Nat} {a0:Act} {V:Nat→Value}
theorem Rep.zero:Rep ops L a0 V (fun _=>False) a0:=⟨rfl,rfl,fun _ _=>rfl,fun _ _ _ _ _ h=>h.elim⟩
theorem iC (a:Act) (d:Option Tmp) (v:Value):(a.put d v).defers=a.defers:=by cases d <;> rfl
theorem CB (a:Act) (d:Option Tmp) (v:Value):(a.put d v).tmps.size=a.tmps.size:=by cases d <;> simp [Act.put]
theorem Rep.put {fs tail:List Nat} (hF:Hh md ops L fs tail) {p:Nat→Prop} {a:Act} (h:Rep ops L a0 V p a) {k:Nat} {o:Oper} (hk:k<L) (ho:ops[k]? = some o) (hn:¬p k):Rep ops L a0 V (fun j=>p j∨j=k) (a.put o.dst (V k)):=by
 have hd:∀j oj d,j<L→ops[j]? = some oj→j≠k→oj.dst=some d→o.dst≠some d:=by
  intro j oj d hj hoj hne hjd hod
  rcases Nat.lt_or_ge j k with h'|h'
  ·exact hF.dsts k o hk ho j oj d h' hoj hjd hod
  ·exact hF.dsts j oj hj hoj k o d (by omega) ho hod hjd
 refine ⟨(iC _ _ _).trans h.def',(CB _ _ _).trans h.size,fun t ht=>?_,fun j oj t hj hoj hp hjt hlt=>?_⟩
 ·have h1:=h.out t (fun j oj hj hoj hp=>ht j oj hj hoj (.inl hp))
  have h2:=ht k o hk ho (.inr rfl)
  cases hod:o.dst with
  | none=>exact h1
  | some d=>
   have hne:d≠t:=fun e=>h2 (by rw [hod,e])
   simp only [Act.put,Array.getElem?_setIfInBounds_ne hne]
   exact h1
 ·by_cases hjk:j=k
  ·subst hjk
   rw [ho] at hoj;cases hoj
   rw [hjt]
   simp only [Act.put]
   rw [Array.getElem?_setIfInBounds_self_of_lt (by rw [h.size];exact hlt)]
  ·have hp':p j:=hp.resolve_right hjk
   have h1:=h.at' j oj t hj hoj hp' hjt hlt
   cases hod:o.dst with
   | none=>exact h1
   | some d=>
    have hne:d≠t:=fun e=>hd j oj t hj hoj hjk hjt (by rw [hod,e])
    simp only [Act.put,Array.getElem?_setIfInBounds_ne hne]
    exact h1
theorem qr {a b:Act} (h1:a.defers=b.defers) (h2:∀t:Nat,a.tmps[t]? = b.tmps[t]?):a=b:=by
 obtain ⟨x,y⟩:=a
 obtain ⟨x',y'⟩:=b
 have h3:x=x':=Array.ext_getElem? h2
 have h4:y=y':=h1
 rw [h3,h4]
theorem qV {listed:Array Bool} {i j:Nat} (hi:i<listed.size):(listed.setIfInBounds i true).getD j false=true↔(listed.getD j false=true∨j=i):=by
 constructor
 ·intro h
  exact (nF h).symm
 ·rintro (h|rfl)
  ·exact oe h
  ·simp [hi]
end
end Go.Proofs.YtacafmejcdgboaaGreatDoor
namespace Go.Proofs.YtacafmejcdgboaaGreatDoor
open Go.RowKit
set_option linter.unusedVariables false
set_option linter.unusedSimpArgs false
def Kn (W:World) (p:World→Prop):Prop:=∀w,Ext W w→p w
theorem Kn.at {W w:World} {p:World→Prop} (h:Kn W p) (hx:Ext W w):p w:=h w hx
theorem Kn.cell {W:World} {q:Addr} {v:Value} {p:World→Prop} (k:Kn W p) (h:W.cell? q=some v):Kn W (fun w=>w.cell? q=some v∧p w):=fun w hx=>⟨hx.keep h,k w hx⟩
theorem xF.keepsO {α:Type} {P:Lie α} (h:xF P):cK P:=(eu.ofFlat h).toO
theorem xF.keeps {α:Type} {P:Lie α} (h:xF P):eu P:=eu.ofFlat h
section
variable {P:Program} {w:World}
end
def Fq (md:Region.Mode) (ops:Array Oper) (D:List Ob) (k:Nat) (vs:Nat→Value) (l u:Nat→Nat) (w:World):Prop:=∀j,j<k→gi md ops ops.size k j=true→(AF D j).eff=true→(AF D j).R (vs j) (l j) (u j) w
theorem Fq.at {md:Region.Mode} {ops:Array Oper} {D:List Ob} {k:Nat} {vs:Nat→Value} {l u:Nat→Nat} {w:World} (h:Fq md ops D k vs l u w) (j:Nat) {R:Value→Nat→Nat→World→Prop} (hj:AF D j=obE R:=by (simp only [AF,List.nil_append,List.cons_append,List.getD_cons_succ,List.getD_cons_zero] <;> rfl)) (hl:j<k:=by decide) (hr:gi md ops ops.size k j=true:=by kernel_rfl):R (vs j) (l j) (u j) w:=by
 have:=h j hl hr (by rw [hj];rfl)
 rw [hj] at this
 exact this
theorem BG.at {W:World} {L:Nat} {D:List Ob} {vs:Nat→Value} {l u:Nat→Nat} {w:World} (h:BG W L D vs l u w) (j:Nat) {R:Value→Nat→Nat→World→Prop} (hj:AF D j=obE R:=by (simp only [AF,List.nil_append,List.cons_append,List.getD_cons_succ,List.getD_cons_zero] <;> rfl)) (hl:j<L:=by decide):R (vs j) (l j) (u j) w∧W.heap.size≤l j∧l j≤u j∧u j≤w.heap.size:=by
 have:=h.2.1 j hl (by rw [hj];rfl)
 rw [hj] at this
 exact this
theorem BG.ext {W:World} {L:Nat} {D:List Ob} {vs:Nat→Value} {l u:Nat→Nat} {w:World} (h:BG W L D vs l u w):Ext W w:=h.1
section
variable {P:Program} {md:Region.Mode} {ops:Array Oper} {W:World} {Fin:List Ob→((Nat→Value)→Act)→Prop} {m:Nat} {D:List Ob} {A A':(Nat→Value)→Act} {o:Oper}
end
end Go.Proofs.YtacafmejcdgboaaGreatDoor
namespace Go.Proofs.YtacafmejcdgboaaGreatDoor
open Go.RowKit
set_option linter.unusedVariables false
set_option linter.unusedSimpArgs false
def F6 {α:Type} (Pd:Lie α) (base lo hi:Nat) (w:World) (v:Value) (ys:List α):Prop:=
 ∀i (h:i<ys.length) ds,Pd lo hi w ds ys[i]→∃l u,base≤l∧u≤w.heap.size∧(∀g,v.ownBlock=some g→g<l∨u≤g)∧Pd l u w ds ys[i]
theorem F6.flat {α:Type} {size:Nat} {Pd:Lie α} (hF:xF Pd) {e:TypeId} {base lo hi:Nat} {w:World} {v:Value} {xs:List α} (ys:List α) (h:fP size Pd e base w v xs) (hb:base≤w.heap.size):F6 Pd base lo hi w v ys:=
 fun i hi' ds hd=>⟨base,base,Nat.le_refl _,hb,fun g hg=>.inr (h.block g hg).1,hF _ _ _ _ _ _ _ _ hd⟩
variable {P:Program} {w:World}
end Go.Proofs.YtacafmejcdgboaaGreatDoor
