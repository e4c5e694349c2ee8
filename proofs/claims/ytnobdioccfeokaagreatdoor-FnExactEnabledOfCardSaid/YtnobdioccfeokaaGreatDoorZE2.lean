/-
  Proved facts that the law leans on.
-/
import Derived.WalkKit
import Derived.Lib.Hide
import Derived.Deep.QuietTactic
import Derived.BigQuiet
import Derived.Lib.Strings
import Derived.Lib.IndexMore
import Derived.Lib.Bytealg
import Derived.Lib.ItoaNum
import Derived.Lib.ItoaMem
import Derived.Lib.ItoaLen
import Derived.Lib.LaidTab
import Derived.Sort.Grow
import Derived.Deep.RegionHeld3
import Derived.KernelRfl
import Derived.Lib.SmallJoins
import Derived.Deep.AppendLies
import Derived.Maps.AppendAt
import Derived.Laws.AppendOwnNone
import Derived.WideShapes
import Derived.ChangeSlices
import Derived.OpenShut
import Derived.Laws.IdiomStrings
import Derived.Deep.MidRow
namespace Go.Proofs.YtnobdioccfeokaaGreatDoor
open Go.RowKit
set_option linter.unusedVariables false
set_option linter.unusedSimpArgs false
theorem cE {a b:Bool} (h:a=b):Ending.returned (.bool a)=.returned (.bool b):=by rw [h]
theorem AR {a b:ByteArray} (h:a=b):Ending.returned (.string a)=.returned (.string b):=by rw [h]
theorem B2 (s:ByteArray) (k:Nat) (h:k<s.size):s.data.toList.take (k+1)=s.data.toList.take k++[s[k]]:=by
 rw [List.take_succ_eq_append_getElem (by simpa using h)];rfl
theorem D4 (s:ByteArray) (k:Nat) (h:¬k<s.size):s.data.toList.take k=s.data.toList:=
 List.take_of_length_le (by simp;omega)
theorem H9 (s:ByteArray) (p:UInt8→Bool) (k:Nat) (h:k<s.size) (hp:p s[k]=false):s.data.toList.all p=false:=by
 rw [List.all_eq_false]
 refine ⟨s[k],?_,by simp [hp]⟩
 exact List.getElem_mem (l:=s.data.toList) (n:=k) (by simpa using h)
theorem Gy (s:ByteArray) (k:Nat) (h:k<s.size):(s[k].toNat:Int)<256:=by have:=s[k].toNat_lt;omega
theorem Ic {W w1:World} (hb:Below W.heap.size W w1):(∀b o,b<W.heap.size→w1.cell? ⟨b,o,none⟩=W.cell? ⟨b,o,none⟩)∧(∀b o,b<W.heap.size→w1.frozen? ⟨b,o,none⟩=W.frozen? ⟨b,o,none⟩):=
 ⟨fun b o h=>hb.cell (p:=⟨b,o,none⟩) h,fun b o h=>hb.frozen (p:=⟨b,o,none⟩) h⟩
def Ext (a w:World):Prop:=Below a.heap.size a w
theorem Ext.refl (a:World):Ext a a:=Below.refl _ _
theorem Ext.alloc {a w:World} (h:Ext a w) (o:Obj):Ext a (w.alloc o):=Below.alloc h (Below.size h) o
theorem Ext.drew {a w:World} (h:Ext a w):Ext a w.drew:=Below.drew h
theorem Ext.drewN {a w:World} (h:Ext a w):∀n,Ext a (w.drewN n):=fun n=>⟨h.os,h.tape,h.output,h.size,h.block⟩
theorem Ext.trans {a b c:World} (h:Ext a b) (k:Ext b c):Ext a c:=Below.trans h (Below.mono k (Below.size h))
theorem Ext.setCell {a w:World} (h:Ext a w) {p:Addr} (hp:a.heap.size≤p.block) (u:Value):Ext a (w.setCell p u):=Below.setCell h hp u
def FY (w:World) (b o:Nat):Option Value:=w.cell? ⟨b,o,none⟩
def Gn (w:World) (b o:Nat):Bool:=w.frozen? ⟨b,o,none⟩
theorem Ext.cells {W w1:World} (hb:Ext W w1):(∀b o,w1.cell? ⟨b,o,none⟩=if b<W.heap.size then W.cell? ⟨b,o,none⟩ else FY w1 b o)∧(∀b o,w1.frozen? ⟨b,o,none⟩=if b<W.heap.size then W.frozen? ⟨b,o,none⟩ else Gn w1 b o)∧W.heap.size≤w1.heap.size:=by
 refine ⟨fun b o=>?_,fun b o=>?_,Below.size hb⟩
 ·split
  ·exact (Ic hb).1 b o (by assumption)
  ·rfl
 ·split
  ·exact (Ic hb).2 b o (by assumption)
  ·rfl
def inR (n a b:Int):Bool:=decide (a≤n) && decide (n≤b)
def Hl (c:UInt8):Bool:=inR (c.toNat:Int) 32 126 && !((c.toNat:Int) == 35)
def BL (s:ByteArray):Bool:=s.data.toList.all Hl
def Gt (s:ByteArray) (b:Int):Bool:=s.data.toList.any (fun c=>(c.toNat:Int) == b)
def J5 (s:ByteArray) (m:Int):Bool:=decide ((s.size:Int)≤m)
def JT (c:ByteArray):Bool:=inR (c.size:Int) 1 160 && BL c && !Gt c 64
def J6 (c r:ByteArray):Bool:=JT c && J5 r 200 && BL r
theorem Ext.keep {a w:World} (h:Ext a w) {p:Addr} {v:Value} (hc:a.cell? p=some v):w.cell? p=some v:=
 (Below.cell h (World.block_lt_of_cell? a p hc)).trans hc
theorem xE (s:ByteArray):(⟨s.data.toList.toArray⟩:ByteArray)=s:=by cases s;simp
theorem Cz {a b:ByteArray} (h:a.data.toList=b.data.toList):a=b:=by rw [← xE a,← xE b,h]
theorem zb (a b:ByteArray):(a++b).data.toList=a.data.toList++b.data.toList:=Joins.data_append a b
theorem vI:∀u:Fin 10,(⟨#[48,49,50,51,52,53,54,55,56,57]⟩:ByteArray).extract u.val (u.val+1)=⟨#[UInt8.ofNat (48+u.val)]⟩:=by decide
def sS (n:Int):ByteArray:=⟨(Lib.itoa n).toArray⟩
theorem yM (n:Int) (h0:0≤n) (h:n<10):(⟨#[48,49,50,51,52,53,54,55,56,57]⟩:ByteArray).extract n.toNat (n.toNat+1)=sS n:=by
 obtain ⟨u,rfl⟩:=Int.eq_ofNat_of_zero_le h0
 unfold sS
 rw [Int.toNat_natCast,Lib.itoa_nonneg,Lib.decDigits_one (by omega)]
 exact vI ⟨u,by omega⟩
theorem C6 (n:Int) (h:10≤n):sS (n / 10)++sS (n % 10)=sS n:=by
 obtain ⟨u,rfl⟩:=Int.eq_ofNat_of_zero_le (show 0≤n by omega)
 have e1:((u:Int) / 10)=((u / 10:Nat):Int):=by omega
 have e2:((u:Int) % 10)=((u % 10:Nat):Int):=by omega
 unfold sS
 rw [e1,e2,Lib.itoa_nonneg,Lib.itoa_nonneg,Lib.itoa_nonneg,Lib.decDigits_one (Nat.mod_lt u (by decide))]
 refine Cz ?_
 rw [zb]
 conv=>rhs;rw [Lib.decDigits,dif_neg (by omega)]
theorem xO (n:Int) (h0 : -9223372036854775808≤n) (h1:n≤9223372036854775807):(sS n).size≤21:=by
 have:=Lib.itoa_length_le n h0 h1
 show (Lib.itoa n).toArray.size≤21
 simpa using this
def J4 (h:Int) (l:List UInt8):Int:=l.foldl (fun h c=>(41 * h+(c.toNat:Int)+1) % 999979) h
def J0 (s:ByteArray):Int:=J4 7 s.data.toList
def I9 (s:ByteArray):ByteArray:=s ++ ⟨#[35]⟩++sS (J0 s)
section
variable {P:Program} {md:_} {ops:Array Oper} {Q:Exit→Act→World→Prop} {S:World→Prop}
theorem tkP (i:Nat) (v:Value) {oi:Oper} {fuel:Nat} {listed:Array Bool} {a:Act} {w:World} (hy:∀w,(execOp a.eval oi).run P w=.ok (.value v) w)
 (h:wpAnyH P md ops Q S fuel (listed.setIfInBounds i true) (a.put oi.dst v) w) (hi:ops[i]? = some oi:=by rfl) (hs:Region.noSelect ops=true:=by kernel_rfl)
 (hf:Region.free md ops listed i=true:=by kernel_rfl) (hr:(Region.ready md ops listed).contains i=true:=by kernel_rfl) (hQ:∀c a w,Q (.panic c) (a.put oi.dst v) w→Q (.panic c) a w:=by exact fun _ _ _ h=>h)
 (hw:Region.wanted oi (yielded ops a.tmps)=true:=by rfl) (hS:S w:=by assumption):wpAnyH P md ops Q S (fuel+1) listed a w:=
 wpAnyH_take hi hs hf hr hQ (.inl ⟨hw,fun w _=>hy w⟩) hS h
end
theorem uy:(∀(α:Type) (l:List α) (i:Nat) (h:i<l.toArray.size),l.toArray[i]=l[i]'(by simpa using h))∧(∀(α:Type) (l:List α) (i:Nat) (a:α),l.toArray.setIfInBounds i a=(l.set i a).toArray)∧(∀(α:Type) (a:α) (as:List α) (h:0<(a :: as).length),(a :: as)[0]=a)∧(∀(α:Type) (a:α) (as:List α) (i:Nat) (h:i+1<(a :: as).length),(a :: as)[i+1]=as[i]'(by simpa using h))∧(∀(α:Type) (x:α) (xs:List α) (b:α),(x :: xs).set 0 b=b :: xs)∧(∀(α:Type) (x:α) (xs:List α) (n:Nat) (b:α),(x :: xs).set (n+1) b=x :: xs.set n b):=
 ⟨fun _ _ _ _=>by simp,fun _ _ _ _=>by simp,fun _ _ _ _=>rfl,fun _ _ _ _ _=>rfl,fun _ _ _ _=>rfl,fun _ _ _ _ _=>rfl⟩
theorem Xr (w:World):Ext w w:=Ext.refl w
theorem Xa {a w:World} (h:Ext a w) (o:Obj):Ext a (w.alloc o):=Ext.alloc h o
theorem Xd {a w:World} (h:Ext a w):Ext a w.drew:=Ext.drew h
theorem Xn {a w:World} (h:Ext a w) (n:Nat):Ext a (w.drewN n):=Ext.drewN h n
theorem Xt {a b w:World} (h:Ext a b) (k:Ext b w):Ext a w:=Ext.trans h k
theorem Xs {a w:World} (h:Ext a w) {p:Addr} {u:Value} (hb:a.heap.size≤p.block:=by first|(simp only [World.size_alloc,World.size_setCell];omega)|omega):Ext a (w.setCell p u):=Ext.setCell h hb u
theorem xw {a w:World} (h:Ext a w:=by (repeat first|(with_reducible first|assumption|exact Xr _|refine Xa ?_ _|refine Xd ?_|refine Xn ?_ _)|refine Xs ?_|with_reducible refine Xt ?_ (by assumption))):Ext a w:=h
end Go.Proofs.YtnobdioccfeokaaGreatDoor
namespace Go.Proofs.YtnobdioccfeokaaGreatDoor
open Go.RowKit
set_option linter.unusedVariables false
set_option linter.unusedSimpArgs false
def I3 (k:Int) (c r:ByteArray):ByteArray:=sS k ++ ⟨#[32]⟩++c ++ ⟨#[64]⟩++r
def Jl (k:Int) (c r:ByteArray):ByteArray:=I9 (I3 k c r) ++ ⟨#[10]⟩
def Jd (k:Int) (c r:ByteArray):Bool:=inR k 0 59 && J6 c r
def encStr (k:Int) (c r:ByteArray):ByteArray:=if Jd k c r then Jl k c r else ⟨#[]⟩
end Go.Proofs.YtnobdioccfeokaaGreatDoor
namespace Go.Proofs.YtnobdioccfeokaaGreatDoor
open Go.RowKit
set_option linter.unusedVariables false
set_option linter.unusedSimpArgs false
theorem po {w w1:World} {base:Nat} {e:TypeId} {size:Nat} {v:Value} {n:Nat} {xs:List Value} (h:w.ownsRow base e size v n xs) (hb:Ext w w1):w1.ownsRow base e size v n xs:=
 h.kept (w':=w1) (row:=none) ⟨hb.os,hb.tape,hb.output,Below.size hb,fun k hk _=>hb.block k hk⟩ (by cases v.ownBlock <;> simp)
theorem Ext.grown {a w w':World} {v:Value} {base:Nat} {e:TypeId} {size n:Nat} {xs:List Value} (h:Ext a w) (hg:w.grownBy w' v.ownBlock) (ho:w.ownsRow base e size v n xs) (hb:a.heap.size≤base):Ext a w':=
 Below.grown h hg (Below.size h) fun k hk=>Nat.le_trans hb (ho.lt k hk).1
theorem nQ {w:World} {b:Nat} {cs:List Value} {t:TypeId} (hb:b=w.heap.size):∀j u,cs[j]? = some u→(w.alloc (.cells cs.toArray t)).cell? ((⟨b,0,none⟩:Addr).add j)=some u:=by
 intro j u h
 subst hb
 have e:((⟨w.heap.size,0,none⟩:Addr).add j)=⟨w.heap.size,j,none⟩:=by
  cases j <;> simp [Addr.add]
 rw [e,World.cell?_alloc_at cs.toArray t w.heap.size j rfl]
 simpa using h
theorem rx {w:World} {base g cap:Nat} {e:TypeId} {size n:Nat} {xs:List Value} (h:w.ownsRow base e size (.slice (some ⟨g,0,none⟩) n cap) n xs) (j:Nat) (u:Value) (hj:xs[j]? = some u):w.cell? ⟨g,j,none⟩=some u:=by
 have h:=h.cells (g:=g) rfl j u hj
 have e:((⟨g,0,none⟩:Addr).add j)=⟨g,j,none⟩:=by cases j <;> simp [Addr.add]
 rw [e] at h
 exact h
theorem Ext.mark {W w1:World} (h:Ext W w1) {b o:Nat} {v:Value} {x:Bool} (hc:W.cell? ⟨b,o,none⟩=some v) (hf:W.frozen? ⟨b,o,none⟩=x):w1.frozen? ⟨b,o,none⟩=x:=
 (Below.frozen (p:=⟨b,o,none⟩) h (World.block_lt_of_cell? W ⟨b,o,none⟩ hc)).trans hf
theorem xR {w:World} {base g n cap:Nat} {e:TypeId} {size:Nat} {xs:List Value} (h:w.ownsRow base e size (.slice (some ⟨g,0,none⟩) n cap) n xs):base≤g∧g<w.heap.size:=h.lt g rfl
end Go.Proofs.YtnobdioccfeokaaGreatDoor
namespace Go.Proofs.YtnobdioccfeokaaGreatDoor
open Go.RowKit
set_option linter.unusedVariables false
set_option linter.unusedSimpArgs false
structure Ctl where
 name:ByteArray
 ports:Int
 kind:Int
structure Nd where
 control:Int
 parent:Int
 links:List Int
structure Wr where
 name:ByteArray
 link:Int
structure Big where
 roots:Int
 nodes:List Nd
 sites:List Int
 edges:Int
 outer:List ByteArray
 inner:List Wr
structure Rul where
 redex:Big
 reactum:Big
 copies:List Int
structure Srt where
 tops:List Int
 nest:List (List Int)
 sorts:List (List Int)
 most:List Int
 apart:List (Int × Int)
structure Rnt where
 sig:List Ctl
 sort:Srt
 rules:List Rul
 hosts:List ByteArray
 agent:Big
 count:Int
def I64 (x:Int):Prop:=-9223372036854775808≤x∧x≤9223372036854775807
def wtL {α:Type} (f:α→Nat) (l:List α):Nat:=l.length+(l.map f).sum
def eq (c:Ctl):Nat:=c.name.size
def ed (s:ByteArray):Nat:=s.size
def mG (x:Wr):Nat:=x.name.size
def jx (n:Nd):Nat:=n.links.length
def dN (b:Big):Nat:=wtL jx b.nodes+b.sites.length+wtL ed b.outer+wtL mG b.inner
def dG (r:Rul):Nat:=dN r.redex+dN r.reactum+r.copies.length
def DG (l:List Int):Nat:=l.length
def iI (s:Srt):Nat:=s.tops.length+wtL DG s.nest+wtL DG s.sorts+s.most.length+s.apart.length
def io (r:Rnt):Nat:=wtL eq r.sig+iI r.sort+wtL dG r.rules+wtL ed r.hosts+dN r.agent
def szR (n:Nat) (left:Int):Int:=if (n:Int)≤left then left - n else -1
theorem wL {α:Type} (f:α→Nat) (x:α) (l:List α):wtL f (x :: l)=1+f x+wtL f l:=by
 simp [wtL];omega
theorem kj {α:Type} (f:α→Nat) (l:List α) (i:Nat) (h:i<l.length):((l.take (i+1)).map f).sum=((l.take i).map f).sum+f l[i]:=by
 rw [List.take_succ_eq_append_getElem h]
 simp only [List.map_append,List.map_cons,List.map_nil,List.sum_append,List.sum_cons,List.sum_nil,Nat.add_zero]
theorem fd {α:Type} (f:α→Nat) (l:List α) (i:Nat):((l.take i).map f).sum≤(l.map f).sum:=by
 induction l generalizing i with
 | nil=>simp
 | cons x l ih=>
  cases i with
  | zero=>simp
  | succ i=>
   have:=ih i
   simp only [List.take_succ_cons,List.map_cons,List.sum_cons]
   omega
theorem rA {α:Type} (f:α→Nat) (l:List α):∀x∈l,f x+l.length≤wtL f l:=by
 induction l with
 | nil=>intro x hx;cases hx
 | cons y l ih=>
  intro x hx
  rw [wL]
  rcases List.mem_cons.1 hx with rfl|hx
  ·simp [wtL];omega
  ·have:=ih x hx
   simp
   omega
end Go.Proofs.YtnobdioccfeokaaGreatDoor
namespace Go.Proofs.YtnobdioccfeokaaGreatDoor
open Go.RowKit
set_option linter.unusedVariables false
set_option linter.unusedSimpArgs false
def bA (w:World) (b o:Nat) (cs:List Value):Prop:=∀j u,cs[j]? = some u→w.cell? ⟨b,o+j,none⟩=some u
abbrev Lie (α:Type):=Nat→Nat→World→List Value→α→Prop
def SlV {α:Type} (size:Nat) (P:Lie α) (lo hi:Nat) (w:World) (v:Value) (xs:List α):Prop:=
 ∃a k,v=.slice a xs.length k∧xs.length≤k∧k≤maxLen∧(a=none→k=0)∧(xs = []∨∃b o,a=some ⟨b,o,none⟩∧lo≤b∧b<hi∧∀i (h:i<xs.length),∃cs,cs.length=size∧P lo hi w cs xs[i]∧bA w b (o+i * size) cs)
def jt (lo hi:Nat) (w w':World):Prop:=∀b,lo≤b→b<hi→b<w.heap.size→w'.heap[b]? = w.heap[b]?
def ez {α:Type} (P:Lie α):Prop:=∀lo hi w w' cs x,jt lo hi w w'→P lo hi w cs x→P lo hi w' cs x
def eu {α:Type} (P:Lie α):Prop:=∀lo hi lo' hi' w cs x,lo'≤lo→hi≤hi'→P lo hi w cs x→P lo' hi' w cs x
theorem jt.ext {lo hi:Nat} {w w':World} (h:Ext w w'):jt lo hi w w':=fun b _ _ hb=>h.block b hb
theorem jt.grown {lo hi g:Nat} {w w':World} (h:w.grownBy w' (some g)) (hg:g<lo∨hi≤g):jt lo hi w w':=fun b h1 h2 hb=>h.block b hb (by simp;omega)
theorem jt.cell {lo hi b o:Nat} {w w':World} {u:Value} (h:jt lo hi w w') (h1:lo≤b) (h2:b<hi) (hc:w.cell? ⟨b,o,none⟩=some u):w'.cell? ⟨b,o,none⟩=some u:=
 (World.cell?_of_block (h b h1 h2 (World.block_lt_of_cell? w ⟨b,o,none⟩ hc))).trans hc
theorem jt.cells {lo hi b o:Nat} {w w':World} {cs:List Value} (h:jt lo hi w w') (h1:lo≤b) (h2:b<hi) (hc:bA w b o cs):bA w' b o cs:=
 fun j u hj=>h.cell h1 h2 (hc j u hj)
theorem SlV.keeps {α:Type} {P:Lie α} (hP:ez P) {size lo hi:Nat} {w w':World} {v:Value} {xs:List α} (hs:jt lo hi w w') (h:SlV size P lo hi w v xs):SlV size P lo hi w' v xs:=by
 obtain ⟨a,k,rfl,h1,h2,h3,h4⟩:=h
 refine ⟨a,k,rfl,h1,h2,h3,?_⟩
 rcases h4 with h4|⟨b,o,rfl,hb1,hb2,h4⟩
 ·exact .inl h4
 ·refine .inr ⟨b,o,rfl,hb1,hb2,fun i hi=>?_⟩
  obtain ⟨cs,hl,hp,hc⟩:=h4 i hi
  exact ⟨cs,hl,hP _ _ _ _ _ _ hs hp,hs.cells hb1 hb2 hc⟩
theorem SlV.widens {α:Type} {P:Lie α} (hP:eu P) {size lo hi lo' hi':Nat} {w:World} {v:Value} {xs:List α} (h1:lo'≤lo) (h2:hi≤hi') (h:SlV size P lo hi w v xs):SlV size P lo' hi' w v xs:=by
 obtain ⟨a,k,rfl,g1,g2,g3,h4⟩:=h
 refine ⟨a,k,rfl,g1,g2,g3,?_⟩
 rcases h4 with h4|⟨b,o,rfl,hb1,hb2,h4⟩
 ·exact .inl h4
 ·refine .inr ⟨b,o,rfl,by omega,by omega,fun i hi=>?_⟩
  obtain ⟨cs,hl,hp,hc⟩:=h4 i hi
  exact ⟨cs,hl,hP _ _ _ _ _ _ _ h1 h2 hp,hc⟩
def iY:Lie Int:=fun _ _ _ cs x=>cs = [.int .i64 x]∧I64 x
def pH:Lie ByteArray:=fun _ _ _ cs s=>cs = [.string s]∧s.size≤maxLen
def p8:Lie Ctl:=fun _ _ _ cs c=>cs = [.string c.name,.int .i64 c.ports,.int .i64 c.kind]∧c.name.size≤maxLen∧I64 c.ports∧I64 c.kind
def WrP:Lie Wr:=fun _ _ _ cs x=>cs = [.string x.name,.int .i64 x.link]∧x.name.size≤maxLen∧I64 x.link
def iW:Lie (Int × Int):=fun _ _ _ cs x=>cs = [.int .i64 x.1,.int .i64 x.2]∧I64 x.1∧I64 x.2
abbrev uK:=SlV 1 iY
abbrev FW:=SlV 1 pH
def DQ:Lie (List Int):=fun lo hi w cs l=>∃v,cs = [v]∧uK lo hi w v l
def NdP:Lie Nd:=fun lo hi w cs n=>∃v,cs = [.int .i64 n.control,.int .i64 n.parent,v]∧I64 n.control∧I64 n.parent∧uK lo hi w v n.links
abbrev IL:=SlV 1 DQ
abbrev Fy:=SlV 3 p8
abbrev JN:=SlV 3 NdP
abbrev J3:=SlV 2 WrP
abbrev Ig:=SlV 2 iW
def r9:Lie Big:=fun lo hi w cs b=>∃v1 v2 v4 v5,cs = [.int .i64 b.roots,v1,v2,.int .i64 b.edges,v4,v5]∧I64 b.roots∧I64 b.edges∧JN lo hi w v1 b.nodes∧uK lo hi w v2 b.sites∧FW lo hi w v4 b.outer∧J3 lo hi w v5 b.inner
def G5:Lie Rul:=fun lo hi w cs r=>∃c1 c2 v,cs=c1++(c2++[v])∧r9 lo hi w c1 r.redex∧r9 lo hi w c2 r.reactum∧uK lo hi w v r.copies
abbrev Jt:=SlV 13 G5
def G6:Lie Srt:=fun lo hi w cs s=>∃v0 v1 v2 v3 v4,cs = [v0,v1,v2,v3,v4]∧uK lo hi w v0 s.tops∧IL lo hi w v1 s.nest∧IL lo hi w v2 s.sorts∧uK lo hi w v3 s.most∧Ig lo hi w v4 s.apart
def I1:Lie Rnt:=fun lo hi w cs r=>∃v0 c1 v6 v7 c8,cs=v0 :: (c1++(v6 :: v7 :: (c8++[.int .i64 r.count])))∧Fy lo hi w v0 r.sig∧G6 lo hi w c1 r.sort∧Jt lo hi w v6 r.rules∧FW lo hi w v7 r.hosts∧r9 lo hi w c8 r.agent∧I64 r.count
theorem iY.keeps:ez iY:=fun _ _ _ _ _ _ _ h=>h
theorem pH.keeps:ez pH:=fun _ _ _ _ _ _ _ h=>h
theorem p8.keeps:ez p8:=fun _ _ _ _ _ _ _ h=>h
theorem WrP.keeps:ez WrP:=fun _ _ _ _ _ _ _ h=>h
theorem iW.keeps:ez iW:=fun _ _ _ _ _ _ _ h=>h
theorem DQ.keeps:ez DQ:=by
 rintro lo hi w w' cs l hs ⟨v,rfl,h⟩
 exact ⟨v,rfl,h.keeps iY.keeps hs⟩
theorem NdP.keeps:ez NdP:=by
 rintro lo hi w w' cs n hs ⟨v,rfl,h1,h2,h⟩
 exact ⟨v,rfl,h1,h2,h.keeps iY.keeps hs⟩
theorem r9.keeps:ez r9:=by
 rintro lo hi w w' cs b hs ⟨v1,v2,v4,v5,rfl,h1,h2,a,b',c,d⟩
 exact ⟨v1,v2,v4,v5,rfl,h1,h2,a.keeps NdP.keeps hs,b'.keeps iY.keeps hs,c.keeps pH.keeps hs,d.keeps WrP.keeps hs⟩
theorem G5.keeps:ez G5:=by
 rintro lo hi w w' cs r hs ⟨c1,c2,v,rfl,a,b,c⟩
 exact ⟨c1,c2,v,rfl,r9.keeps _ _ _ _ _ _ hs a,r9.keeps _ _ _ _ _ _ hs b,c.keeps iY.keeps hs⟩
theorem G6.keeps:ez G6:=by
 rintro lo hi w w' cs s hs ⟨v0,v1,v2,v3,v4,rfl,a,b,c,d,e⟩
 exact ⟨v0,v1,v2,v3,v4,rfl,a.keeps iY.keeps hs,b.keeps DQ.keeps hs,c.keeps DQ.keeps hs,d.keeps iY.keeps hs,e.keeps iW.keeps hs⟩
theorem I1.keeps:ez I1:=by
 rintro lo hi w w' cs r hs ⟨v0,c1,v6,v7,c8,rfl,a,b,c,d,e,f⟩
 exact ⟨v0,c1,v6,v7,c8,rfl,a.keeps p8.keeps hs,G6.keeps _ _ _ _ _ _ hs b,c.keeps G5.keeps hs,d.keeps pH.keeps hs,r9.keeps _ _ _ _ _ _ hs e,f⟩
theorem iY.widens:eu iY:=fun _ _ _ _ _ _ _ _ _ h=>h
theorem pH.widens:eu pH:=fun _ _ _ _ _ _ _ _ _ h=>h
theorem p8.widens:eu p8:=fun _ _ _ _ _ _ _ _ _ h=>h
theorem WrP.widens:eu WrP:=fun _ _ _ _ _ _ _ _ _ h=>h
theorem iW.widens:eu iW:=fun _ _ _ _ _ _ _ _ _ h=>h
theorem DQ.widens:eu DQ:=by
 rintro lo hi lo' hi' w cs l h1 h2 ⟨v,rfl,h⟩
 exact ⟨v,rfl,h.widens iY.widens h1 h2⟩
theorem NdP.widens:eu NdP:=by
 rintro lo hi lo' hi' w cs n h1 h2 ⟨v,rfl,g1,g2,h⟩
 exact ⟨v,rfl,g1,g2,h.widens iY.widens h1 h2⟩
theorem r9.widens:eu r9:=by
 rintro lo hi lo' hi' w cs b h1 h2 ⟨v1,v2,v4,v5,rfl,g1,g2,a,b',c,d⟩
 exact ⟨v1,v2,v4,v5,rfl,g1,g2,a.widens NdP.widens h1 h2,b'.widens iY.widens h1 h2,c.widens pH.widens h1 h2,d.widens WrP.widens h1 h2⟩
theorem G5.widens:eu G5:=by
 rintro lo hi lo' hi' w cs r h1 h2 ⟨c1,c2,v,rfl,a,b,c⟩
 exact ⟨c1,c2,v,rfl,r9.widens _ _ _ _ _ _ _ h1 h2 a,r9.widens _ _ _ _ _ _ _ h1 h2 b,c.widens iY.widens h1 h2⟩
theorem G6.widens:eu G6:=by
 rintro lo hi lo' hi' w cs s h1 h2 ⟨v0,v1,v2,v3,v4,rfl,a,b,c,d,e⟩
 exact ⟨v0,v1,v2,v3,v4,rfl,a.widens iY.widens h1 h2,b.widens DQ.widens h1 h2,c.widens DQ.widens h1 h2,d.widens iY.widens h1 h2,e.widens iW.widens h1 h2⟩
theorem SlV.ext {α:Type} {P:Lie α} (hP:ez P) {size lo hi:Nat} {w w':World} {v:Value} {xs:List α} (h:SlV size P lo hi w v xs) (hx:Ext w w'):SlV size P lo hi w' v xs:=h.keeps hP (jt.ext hx)
end Go.Proofs.YtnobdioccfeokaaGreatDoor
namespace Go.Proofs.YtnobdioccfeokaaGreatDoor
open Go.RowKit
set_option linter.unusedVariables false
set_option linter.unusedSimpArgs false
theorem rq {w w1 w2:World} {g:Nat} (h:w.grownBy w1 (some g)) (k:w1.grownBy w2 (some g)):w.grownBy w2 (some g):=
 ⟨k.os.trans h.os,k.tape.trans h.tape,k.output.trans h.output,Nat.le_trans h.size k.size,fun j hj hne=>(k.block j (Nat.lt_of_lt_of_le hj h.size) hne).trans (h.block j hj hne)⟩
theorem co {w:World} (g o:Nat) (u:Value):w.grownBy (w.setCell ⟨g,o,none⟩ u) (some g):=
 ⟨rfl,rfl,rfl,by simp,fun k _ hk=>heap_setCell_other w ⟨g,o,none⟩ k u (fun e=>hk (by simp [e]))⟩
theorem nt (w:World) (r:Option Nat):w.grownBy w r:=⟨rfl,rfl,rfl,Nat.le_refl _,fun _ _ _=>rfl⟩
theorem mx {w:World} {p q:Addr} {u v:Value} (h:w.cell? q=some v) (hne:p≠q):(w.setCell p u).cell? q=some v:=(World.cell?_setCell_other _ _ _ _ hne).trans h
def ey (w:World) (B:Nat) (cs:List Value):Prop:=∀j u,cs[j]? = some u→w.cell? ⟨B,j,none⟩=some u∧w.frozen? ⟨B,j,none⟩=false
theorem ey.new (w:World) (t:TypeId) (cs:List Value) (B:Nat) (hB:B=w.heap.size):ey (w.alloc (.cells cs.toArray t)) B cs:=by
 intro j u hj
 subst hB
 refine ⟨?_,World.frozen?_alloc_at _ t w.heap.size j rfl⟩
 rw [World.cell?_alloc_at _ t w.heap.size j rfl]
 simpa using hj
theorem ey.ext {w w':World} {B:Nat} {cs:List Value} (h:ey w B cs) (hx:Ext w w'):ey w' B cs:=
 fun j u hj=>⟨hx.keep (h j u hj).1,hx.mark (h j u hj).1 (h j u hj).2⟩
theorem ey.set {w:World} {B:Nat} {cs:List Value} (h:ey w B cs) (o:Nat) (u:Value):ey (w.setCell ⟨B,o,none⟩ u) B (cs.set o u):=by
 intro j v hj
 rw [List.getElem?_set] at hj
 by_cases ho:o=j
 ·subst ho
  rw [if_pos rfl] at hj
  split at hj
  ·rename_i hl
   cases hj
   obtain ⟨hc,hf⟩:=h o cs[o] (by simp)
   exact ⟨World.cell?_setCell_same _ _ _ hc,(World.frozen?_setCell _ _ _ _).trans hf⟩
  ·cases hj
 ·rw [if_neg ho] at hj
  obtain ⟨hc,hf⟩:=h j v hj
  exact ⟨mx hc (by simp [ho]),(World.frozen?_setCell _ _ _ _).trans hf⟩
theorem ey.lt {w:World} {B:Nat} {cs:List Value} {u:Value} (h:ey w B cs) (h0:cs[0]? = some u):B<w.heap.size:=World.block_lt_of_cell? w ⟨B,0,none⟩ (h 0 u h0).1
def ly:List Value→Nat→List Value→List Value
 | xs,_,[]=>xs
 | xs,k,d :: ds=>ly (xs.set k d) (k+1) ds
def wN:World→Nat→Nat→List Value→World
 | w,_,_,[]=>w
 | w,g,k,d :: ds=>wN (w.setCell ⟨g,k,none⟩ d) g (k+1) ds
theorem nk (ds:List Value):∀(xs:List Value) (k:Nat),(ly xs k ds).length=xs.length:=by
 induction ds with
 | nil=>intro xs k;rfl
 | cons d ds ih=>intro xs k;rw [ly,ih];simp
theorem jF (ds:List Value):∀(xs:List Value) (k j:Nat),(j<k∨k+ds.length≤j)→(ly xs k ds)[j]? = xs[j]?:=by
 induction ds with
 | nil=>intro xs k j _;rfl
 | cons d ds ih=>
  intro xs k j h
  rw [ly,ih _ _ _ (by simp at h;omega),List.getElem?_set_ne (by simp at h;omega)]
theorem lS (ds:List Value):∀(xs:List Value) (k t:Nat) (u:Value),k+ds.length≤xs.length→ds[t]? = some u→(ly xs k ds)[k+t]? = some u:=by
 induction ds with
 | nil=>intro xs k t u _ h;simp at h
 | cons d ds ih=>
  intro xs k t u hl h
  simp at hl
  cases t with
  | zero=>
   simp at h
   subst h
   rw [ly,jF ds _ _ _ (by omega)]
   show (xs.set k d)[k]? = some d
   rw [List.getElem?_set,if_pos rfl,if_pos (by omega)]
  | succ t=>
   rw [ly,show k+(t+1)=(k+1)+t by omega]
   exact ih _ _ _ _ (by simp;omega) (by simpa using h)
theorem ka (ds:List Value):∀(w:World) (g k:Nat),(wN w g k ds).heap.size=w.heap.size:=by
 induction ds with
 | nil=>intro w g k;rfl
 | cons d ds ih=>intro w g k;rw [wN,ih];simp
theorem SlV.set {α:Type} {P:Lie α} (hP:ez P) {size lo hi b o:Nat} {u:Value} {w:World} {v:Value} {xs:List α} (h:SlV size P lo hi w v xs) (hb:b<lo∨hi≤b):SlV size P lo hi (w.setCell ⟨b,o,none⟩ u) v xs:=
 h.keeps hP (jt.grown (co b o u) hb)
theorem ez.set {α:Type} {P:Lie α} (hP:ez P) {lo hi b o:Nat} {u:Value} {w:World} {cs:List Value} {x:α} (h:P lo hi w cs x) (hb:b<lo∨hi≤b):P lo hi (w.setCell ⟨b,o,none⟩ u) cs x:=
 hP _ _ _ _ _ _ (jt.grown (co b o u) hb) h
def kT {α:Type} (size:Nat) (P:Lie α) (g:Nat) (w:World) (xs:List α) (cells:List Value) (i:Nat):Prop:=
 ∀j (h:j<xs.length),j<i→∃ds,ds.length=size∧P (g+1) w.heap.size w ds xs[j]∧∀t u,ds[t]? = some u→cells[j * size+t]? = some u
theorem kT.zero {α:Type} {size:Nat} {P:Lie α} {g:Nat} {w:World} {xs:List α} {cells:List Value}:kT size P g w xs cells 0:=fun j _ hj=>absurd hj (Nat.not_lt_zero _)
theorem kT.ext {α:Type} {size:Nat} {P:Lie α} (hP:ez P) (hW:eu P) {g:Nat} {w w':World} {xs:List α} {cells:List Value} {i:Nat} (h:kT size P g w xs cells i) (hx:Ext w w'):kT size P g w' xs cells i:=by
 intro j hj hji
 obtain ⟨ds,h1,h2,h3⟩:=h j hj hji
 exact ⟨ds,h1,hW _ _ _ _ _ _ _ (Nat.le_refl _) (Below.size hx) (hP _ _ _ _ _ _ (jt.ext hx) h2),h3⟩
theorem kT.put {α:Type} {size:Nat} {P:Lie α} (hP:ez P) {g:Nat} {w:World} {xs:List α} {cells:List Value} {i:Nat} (h:kT size P g w xs cells i) (hi:i<xs.length) (ds:List Value) (hd:ds.length=size) (hl:cells.length=xs.length * size)
 (hp:P (g+1) w.heap.size w ds xs[i]) (hgr:w.grownBy (wN w g (i * size) ds) (some g)):kT size P g (wN w g (i * size) ds) xs (ly cells (i * size) ds) (i+1):=by
 intro j hj hji
 rw [ka]
 have hs:jt (g+1) w.heap.size w (wN w g (i * size) ds):=jt.grown hgr (.inl (by omega))
 by_cases hlt:j<i
 ·obtain ⟨es,h1,h2,h3⟩:=h j hj hlt
  refine ⟨es,h1,hP _ _ _ _ _ _ hs h2,fun t u ht=>?_⟩
  have htl:t<size:=by
   by_cases hh:t<es.length
   ·omega
   ·rw [List.getElem?_eq_none (by omega)] at ht;cases ht
  rw [jF]
  ·exact h3 t u ht
  ·left
   have:(j+1) * size≤i * size:=Nat.mul_le_mul_right _ hlt
   rw [Nat.add_mul] at this
   omega
 ·have e:j=i:=by omega
  subst e
  refine ⟨ds,hd,hP _ _ _ _ _ _ hs hp,fun t u ht=>lS ds cells _ t u ?_ ht⟩
  have:(j+1) * size≤xs.length * size:=Nat.mul_le_mul_right _ hj
  rw [Nat.add_mul] at this
  omega
theorem kT.all {α:Type} {size:Nat} {P:Lie α} (hW:eu P) {base g cap lo:Nat} {e:TypeId} {w:World} {xs:List α} {cells:List Value} (h:kT size P g w xs cells xs.length) (own:w.ownsRow base e size (.slice (some ⟨g,0,none⟩) xs.length cap) xs.length cells) (hlo:lo≤g) (hc:xs.length≤cap) (hcm:cap≤maxLen) :
 SlV size P lo w.heap.size w (.slice (some ⟨g,0,none⟩) xs.length cap) xs:=by
 refine ⟨_,_,rfl,hc,hcm,fun h=>(by cases h),.inr ⟨g,0,rfl,hlo,(xR own).2,fun i hi=>?_⟩⟩
 obtain ⟨ds,h1,h2,h3⟩:=h i hi hi
 refine ⟨ds,h1,hW _ _ _ _ _ _ _ (by omega) (Nat.le_refl _) h2,fun t u ht=>?_⟩
 rw [Nat.zero_add]
 exact rx own _ _ (h3 t u ht)
end Go.Proofs.YtnobdioccfeokaaGreatDoor
namespace Go.Proofs.YtnobdioccfeokaaGreatDoor
open Go.RowKit
set_option linter.unusedVariables false
set_option linter.unusedSimpArgs false
def kk {α:Type} (size:Nat) (P:Lie α) (e:TypeId) (base:Nat) (w:World) (v:Value) (xs:List α):Prop:=
 ∃cells,w.ownsRow base e size v xs.length cells∧∀i (h:i<xs.length),∃ds l u,ds.length=size∧base≤l∧u≤w.heap.size∧(∀g,v.ownBlock=some g→g<l∨u≤g)∧P l u w ds xs[i]∧∀t y,ds[t]? = some y→cells[i * size+t]? = some y
theorem kk.nil {α:Type} {size:Nat} {P:Lie α} {e:TypeId} {base:Nat} {w:World}:kk size P e base w (.slice none 0 0) []:=
 ⟨[],⟨by simp,.inl ⟨rfl,rfl⟩⟩,fun i h=>absurd h (Nat.not_lt_zero _)⟩
theorem kk.made {α:Type} {size:Nat} {P:Lie α} {e:TypeId} {base:Nat} {w:World} (hb:base≤w.heap.size):kk size P e base (w.alloc (.cells #[] e)) (.slice (some ⟨w.heap.size,0,none⟩) 0 0) []:=
 ⟨[],World.ownsRow_made w #[] 0 hb (by decide) (by simp),fun i h=>absurd h (Nat.not_lt_zero _)⟩
theorem Eh {w:World} {base:Nat} {e:TypeId} {size:Nat} {v:Value} {n:Nat} {xs:List Value} (h:w.ownsRow base e size v n xs):∃a k,v=.slice a n k∧n≤k∧k≤maxLen∧(a=none→k=0)∧(n=0∨∃g,a=some ⟨g,0,none⟩∧base≤g∧g<w.heap.size∧∀j y,xs[j]? = some y→w.cell? ⟨g,j,none⟩=some y):=by
 have h0:=h
 obtain ⟨_,⟨rfl,rfl⟩|⟨g,cap,cur,rfl,hb,hg,hn,hm,_,_⟩⟩:=h0
 ·exact ⟨none,0,rfl,Nat.le_refl _,by decide,fun _=>rfl,.inl rfl⟩
 ·exact ⟨_,cap,rfl,hn,hm,fun hh=>(by cases hh),.inr ⟨g,rfl,hb,(xR h).2,fun j y hy=>rx h j y hy⟩⟩
theorem kk.toSlV {α:Type} {size:Nat} {P:Lie α} (hW:eu P) {e:TypeId} {base lo:Nat} {w:World} {v:Value} {xs:List α} (h:kk size P e base w v xs) (hlo:lo≤base):SlV size P lo w.heap.size w v xs:=by
 obtain ⟨cells,own,hel⟩:=h
 obtain ⟨a,k,rfl,h1,h2,h3,h4⟩:=Eh own
 refine ⟨a,k,rfl,h1,h2,h3,?_⟩
 rcases h4 with h4|⟨g,rfl,g1,g2,g3⟩
 ·left
  cases xs with
  | nil=>rfl
  | cons x xs=>simp at h4
 ·refine .inr ⟨g,0,rfl,by omega,g2,fun i hi=>?_⟩
  obtain ⟨ds,l,u,d1,d2,d3,d4,d5,d6⟩:=hel i hi
  exact ⟨ds,d1,hW _ _ _ _ _ _ _ (by omega) d3 d5,fun t y ht=>by rw [Nat.zero_add];exact g3 _ _ (d6 t y ht)⟩
theorem kk.ext {α:Type} {size:Nat} {P:Lie α} (hP:ez P) {e:TypeId} {base:Nat} {w w':World} {v:Value} {xs:List α} (h:kk size P e base w v xs) (hx:Ext w w'):kk size P e base w' v xs:=by
 obtain ⟨cells,own,hel⟩:=h
 refine ⟨cells,po own hx,fun i hi=>?_⟩
 obtain ⟨ds,l,u,d1,d2,d3,d4,d5,d6⟩:=hel i hi
 exact ⟨ds,l,u,d1,d2,Nat.le_trans d3 (Below.size hx),d4,hP _ _ _ _ _ _ (jt.ext hx) d5,d6⟩
theorem kk.block {α:Type} {size:Nat} {P:Lie α} {e:TypeId} {base:Nat} {w:World} {v:Value} {xs:List α} (h:kk size P e base w v xs):∀g,v.ownBlock=some g→base≤g∧g<w.heap.size:=by
 obtain ⟨cells,own,hel⟩:=h
 exact own.lt
theorem Ext.own {a w w':World} {r:Option Nat} (h:Ext a w) (hg:w.grownBy w' r) (hr:∀g,r=some g→a.heap.size≤g):Ext a w':=by
 refine ⟨hg.os.trans h.os,hg.tape.trans h.tape,hg.output.trans h.output,Nat.le_trans (Below.size h) hg.size,fun k hk=>?_⟩
 rw [hg.block k (Nat.lt_of_lt_of_le hk (Below.size h)) (fun e=>by have:=hr k e.symm;omega)]
 exact h.block k hk
theorem kk.snoc {α:Type} {size:Nat} {P:Lie α} (hP:ez P) {e:TypeId} {base:Nat} {w w':World} {v v':Value} {xs:List α} {x:α} {ds:List Value} {l u:Nat} (h:kk size P e base w v xs) (hd:ds.length=size) (hl:base≤l) (hu:u≤w.heap.size) (hs:∀g,v.ownBlock=some g→g<l∨u≤g) (hx:P l u w ds x)
 (hr:∀cells,w.ownsRow base e size v xs.length cells→w'.ownsRow base e size v' (xs.length+1) (cells++ds)) (hg:w.grownBy w' v.ownBlock) (hb:v'.ownBlock=v.ownBlock∨v'.ownBlock=some w.heap.size):kk size P e base w' v' (xs++[x]):=by
 obtain ⟨cells,own,hel⟩:=h
 have hk:∀l u,(∀g,v.ownBlock=some g→g<l∨u≤g)→jt l u w w':=fun l u hh b h1 h2 h3=>hg.block b h3 (fun e=>by have:=hh b e.symm;omega)
 have hv':∀l u,u≤w.heap.size→(∀g,v.ownBlock=some g→g<l∨u≤g)→∀g,v'.ownBlock=some g→g<l∨u≤g:=by
  intro l u hh hs g hg'
  rcases hb with hb|hb
  ·exact hs g (by rw [← hb];exact hg')
  ·rw [hb] at hg';cases hg';exact .inr hh
 refine ⟨cells++ds,by rw [List.length_append];exact hr cells own,fun i hi=>?_⟩
 by_cases hlt:i<xs.length
 ·obtain ⟨es,l1,u1,d1,d2,d3,d4,d5,d6⟩:=hel i hlt
  refine ⟨es,l1,u1,d1,d2,Nat.le_trans d3 hg.size,hv' l1 u1 d3 d4,?_,fun t y ht=>?_⟩
  ·rw [List.getElem_append_left hlt];exact hP _ _ _ _ _ _ (hk l1 u1 d4) d5
  ·have:=d6 t y ht
   rw [List.getElem?_append_left (by
    rcases Nat.lt_or_ge (i * size+t) cells.length with hh|hh
    ·exact hh
    ·rw [List.getElem?_eq_none hh] at this;cases this)]
   exact this
 ·have ei:i=xs.length:=by simp at hi;omega
  subst ei
  refine ⟨ds,l,u,hd,hl,Nat.le_trans hu hg.size,hv' l u hu hs,?_,fun t y ht=>?_⟩
  ·rw [List.getElem_append_right (Nat.le_refl _)];simp only [Nat.sub_self,List.getElem_cons_zero];exact hP _ _ _ _ _ _ (hk l u hs) hx
  ·rw [List.getElem?_append_right (by rw [own.1];omega),own.1,show xs.length * size+t - xs.length * size=t by omega];exact ht
variable {P:Program} {w:World}
theorem mQ {α:Type} {size:Nat} {Pd:Lie α} (hPd:ez Pd) {ops:Array Oper} {rest:List Oper} {o:Oper} {a:Act} {Q:Exit→Act→World→Prop} (hgd:o.guard=none) (s x:Operand) (t:TypeId)
 (ho:o.op=.call { callee:=.builtin .append,args:=#[s,x],argTypes:=#[t,t] })
 (base:Nat) (e:TypeId) (i:TypeInfo) (z:Value) (bytes:Nat) (ht:P.underlying t=some (.slice e)) (hi:P.info? e=some i) (hz:i.zero=some z)
 (hsize:i.size=size) (hby:i.bytes=bytes) (hzs:z.cells.size=size) (hsz:0<size)
 (v:Value) (xs:List α) (hs:a.eval s=v) (hrow:kk size Pd e base w v xs)
 (ad:Addr) (c:Nat) (ds:List Value) (hx:a.eval x=.slice (some ad) 1 c) (hl:ds.length=size) (hnews:∀j u,ds[j]? = some u→w.cell? (ad.add j)=some u) (h1:∀u∈ds,u.oneCell'=true)
 (l u:Nat) (hbl:base≤l) (hu:u≤w.heap.size) (hsep:∀g,v.ownBlock=some g→g<l∨u≤g) (y:α) (hP:Pd l u w ds y)
 (h63:xs.length<100000000) (hbytes:bytes≤1000) (hbase:base≤w.heap.size)
 (h:∀v' w',kk size Pd e base w' v' (xs++[y])→(∀W,Ext W w→W.heap.size≤base→Ext W w')→wpList P ops Q rest (a.put o.dst v') w') :
 wpList P ops Q (o :: rest) a w:=by
 have hrow0:=hrow
 obtain ⟨cells,own,hel⟩:=hrow0
 refine wpList_append_own_at w hgd s x t ho base e i z size bytes ht hi hz hsize hby hzs hsz v xs.length cells hs own ad 1 c ds hx (by omega) hnews h1 (by unfold maxLen;omega) ?_ hbase (fun v' w' own' hg hn hb=>h v' w' ?_ ?_)
 ·have:(xs.length+1) * bytes≤100000000 * 1000:=Nat.mul_le_mul (by omega) hbytes
  omega
 ·refine hrow.snoc hPd hl hbl hu hsep hP (fun cells' own2=>?_) hg hb
  have:cells'=cells:=by
   have e1:=own.2
   have e2:=own2.2
   have l1:=own.1
   have l2:=own2.1
   rcases e1 with ⟨ev,en⟩|⟨g,cap,cur,ev,_,hg1,_,_,_,ht1⟩
   ·have:cells = []:=List.eq_nil_of_length_eq_zero (by rw [l1,en];omega)
    have:cells' = []:=List.eq_nil_of_length_eq_zero (by rw [l2,en];omega)
    simp [*]
   ·rcases e2 with ⟨ev2,_⟩|⟨g2,cap2,cur2,ev2,_,hg2,_,_,_,ht2⟩
    ·rw [ev] at ev2;cases ev2
    ·rw [ev] at ev2;cases ev2
     rw [hg1] at hg2;cases hg2
     rw [← ht1,← ht2]
  rw [this];exact own'
 ·intro W hW hb2
  exact hW.own hg (fun g hg'=>Nat.le_trans hb2 (hrow.block g hg').1)
end Go.Proofs.YtnobdioccfeokaaGreatDoor
namespace Go.Proofs.YtnobdioccfeokaaGreatDoor
open Go.RowKit
set_option linter.unusedVariables false
set_option linter.unusedSimpArgs false
def Hj {α:Type} (P:Lie α):Prop:=∀lo hi lo' hi' w w' cs x,P lo hi w cs x→P lo' hi' w' cs x
theorem kk.kept {α:Type} {size:Nat} {P:Lie α} (hP:Hj P) {e:TypeId} {base:Nat} {w w':World} {v:Value} {xs:List α} {r:Option Nat} (h:kk size P e base w v xs) (hg:w.grownBy w' r) (hne:∀g,v.ownBlock=some g→r≠some g):kk size P e base w' v xs:=by
 obtain ⟨cells,own,hel⟩:=h
 refine ⟨cells,⟨own.1,?_⟩,fun i hi=>?_⟩
 ·rcases own.2 with hn|⟨g,cap,cur,rfl,h1,h2,h3⟩
  ·exact .inl hn
  ·refine .inr ⟨g,cap,cur,rfl,h1,?_,h3⟩
   have hl:g<w.heap.size:=by
    by_cases hh:g<w.heap.size
    ·exact hh
    ·rw [Array.getElem?_eq_none (by omega)] at h2;cases h2
   rw [hg.block g hl (fun e=>hne g rfl e.symm)];exact h2
 ·obtain ⟨ds,l,u,d1,d2,d3,d4,d5,d6⟩:=hel i hi
  exact ⟨ds,l,u,d1,d2,Nat.le_trans d3 hg.size,d4,hP _ _ _ _ _ _ _ _ d5,d6⟩
variable {P:Program} {w:World}
theorem fB {α:Type} {size:Nat} {Pd:Lie α} (hPd:ez Pd) {ops:Array Oper} {rest:List Oper} {o:Oper} {a:Act} {Q:Exit→Act→World→Prop} (hgd:o.guard=none) (s x:Operand) (t:TypeId)
 (ho:o.op=.call { callee:=.builtin .append,args:=#[s,x],argTypes:=#[t,t] })
 (base:Nat) (e:TypeId) (i:TypeInfo) (z:Value) (bytes:Nat) (ht:P.underlying t=some (.slice e)) (hi:P.info? e=some i) (hz:i.zero=some z)
 (hsize:i.size=size) (hby:i.bytes=bytes) (hzs:z.cells.size=size) (hsz:0<size)
 (v:Value) (xs:List α) (hs:a.eval s=v) (hrow:kk size Pd e base w v xs)
 (ad:Addr) (c:Nat) (ds:List Value) (hx:a.eval x=.slice (some ad) 1 c) (hl:ds.length=size) (hnews:∀j u,ds[j]? = some u→w.cell? (ad.add j)=some u) (h1:∀u∈ds,u.oneCell'=true)
 (l u:Nat) (hbl:base≤l) (hu:u≤w.heap.size) (hsep:∀g,v.ownBlock=some g→g<l∨u≤g) (y:α) (hP:Pd l u w ds y)
 (h63:xs.length<100000000) (hbytes:bytes≤1000) (hbase:base≤w.heap.size)
 (h:∀v' w',kk size Pd e base w' v' (xs++[y])→(∀W,Ext W w→W.heap.size≤base→Ext W w')→w.grownBy w' v.ownBlock→(v'.ownBlock=v.ownBlock∨v'.ownBlock=some w.heap.size)→wpList P ops Q rest (a.put o.dst v') w') :
 wpList P ops Q (o :: rest) a w:=by
 have hrow0:=hrow
 obtain ⟨cells,own,hel⟩:=hrow0
 refine wpList_append_own_at w hgd s x t ho base e i z size bytes ht hi hz hsize hby hzs hsz v xs.length cells hs own ad 1 c ds hx (by omega) hnews h1 (by unfold maxLen;omega) ?_ hbase (fun v' w' own' hg hn hb=>h v' w' ?_ ?_ hg hb)
 ·have:(xs.length+1) * bytes≤100000000 * 1000:=Nat.mul_le_mul (by omega) hbytes
  omega
 ·refine hrow.snoc hPd hl hbl hu hsep hP (fun cells' own2=>?_) hg hb
  have:cells'=cells:=by
   have e1:=own.2
   have e2:=own2.2
   have l1:=own.1
   have l2:=own2.1
   rcases e1 with ⟨ev,en⟩|⟨g,cap,cur,ev,_,hg1,_,_,_,ht1⟩
   ·have:cells = []:=List.eq_nil_of_length_eq_zero (by rw [l1,en];omega)
    have:cells' = []:=List.eq_nil_of_length_eq_zero (by rw [l2,en];omega)
    simp [*]
   ·rcases e2 with ⟨ev2,_⟩|⟨g2,cap2,cur2,ev2,_,hg2,_,_,_,ht2⟩
    ·rw [ev] at ev2;cases ev2
    ·rw [ev] at ev2;cases ev2
     rw [hg1] at hg2;cases hg2
     rw [← ht1,← ht2]
  rw [this];exact own'
 ·intro W hW hb2
  exact hW.own hg (fun g hg'=>Nat.le_trans hb2 (hrow.block g hg').1)
def idxOf (f:Nat→Bool) (n:Nat):List Int:=((List.range n).filter f).map (fun (i:Nat)=>(i:Int))
theorem dI {f:Nat→Bool} {n:Nat} (h:f n=true):idxOf f (n+1)=idxOf f n++[(n:Int)]:=by
 unfold idxOf;rw [List.range_succ,List.filter_append,List.map_append];simp [h]
theorem eY {f:Nat→Bool} {n:Nat} (h:f n=false):idxOf f (n+1)=idxOf f n:=by
 unfold idxOf;rw [List.range_succ,List.filter_append,List.map_append];simp [h]
theorem fZ (f:Nat→Bool) (n:Nat):(idxOf f n).length≤n:=by
 unfold idxOf;rw [List.length_map];have:=List.length_filter_le f (List.range n);simpa using this
def sf (b:Big) (p:Int) (i:Nat):Bool:=match b.nodes[i]? with|none=>false|some n=>decide (n.parent=p)
def ju (b:Big) (p:Int) (i:Nat):Bool:=match b.sites[i]? with|none=>false|some x=>decide (x=p)
def dJ (b:Big) (p:Int):List Int:=idxOf (sf b p) b.nodes.length
def cC (b:Big) (p:Int):List Int:=idxOf (ju b p) b.sites.length
theorem F5 (b:Big) (p:Int) (i:Nat) (h:i<b.nodes.length):sf b p i=decide ((b.nodes[i]).parent=p):=by unfold sf;rw [List.getElem?_eq_getElem h]
theorem Dw (b:Big) (p:Int) (i:Nat) (h:i<b.sites.length):ju b p i=decide (b.sites[i]=p):=by unfold ju;rw [List.getElem?_eq_getElem h]
def cI (links:List Int) (l:Int) (i k:Nat):List (Int × Int):=((List.range k).filter (fun j=>decide (links.getD j 0=l))).map (fun (j:Nat)=>((i:Int),(j:Int)))
def dK (b:Big) (l:Int) (n:Nat):List (Int × Int):=(List.range n).flatMap (fun i=>cI (b.nodes.getD i ⟨0,0,[]⟩).links l i (b.nodes.getD i ⟨0,0,[]⟩).links.length)
def aD (b:Big) (l:Int):List (Int × Int):=dK b l b.nodes.length
theorem li {links:List Int} {l:Int} {i k:Nat} (hk:k<links.length) (h:links[k]=l):cI links l i (k+1)=cI links l i k++[((i:Int),(k:Int))]:=by
 unfold cI;rw [List.range_succ,List.filter_append,List.map_append]
 simp [List.getElem?_eq_getElem hk,h]
theorem mW {links:List Int} {l:Int} {i k:Nat} (hk:k<links.length) (h:¬links[k]=l):cI links l i (k+1)=cI links l i k:=by
 unfold cI;rw [List.range_succ,List.filter_append,List.map_append]
 simp [List.getElem?_eq_getElem hk,h]
theorem fY (b:Big) (l:Int) (n:Nat) (h:n<b.nodes.length):dK b l (n+1)=dK b l n++cI (b.nodes[n]).links l n (b.nodes[n]).links.length:=by
 unfold dK;rw [List.range_succ,List.flatMap_append]
 simp [List.getElem?_eq_getElem h]
theorem oX (links:List Int) (l:Int) (i k:Nat):(cI links l i k).length≤k:=by
 unfold cI;rw [List.length_map];have:=List.length_filter_le (fun j=>decide (links.getD j 0=l)) (List.range k);simpa using this
def ex (b:Big) (l:Int) (n:Nat):List ByteArray:=((b.inner.take n).filter (fun x=>decide (x.link=l))).map Wr.name
def nF (b:Big) (l:Int):List ByteArray:=ex b l b.inner.length
theorem qy {b:Big} {l:Int} {n:Nat} (h:n<b.inner.length) (hl:(b.inner[n]).link=l):ex b l (n+1)=ex b l n++[(b.inner[n]).name]:=by
 unfold ex;rw [List.take_succ_eq_append_getElem h,List.filter_append,List.map_append];simp [hl]
theorem uf {b:Big} {l:Int} {n:Nat} (h:n<b.inner.length) (hl:¬(b.inner[n]).link=l):ex b l (n+1)=ex b l n:=by
 unfold ex;rw [List.take_succ_eq_append_getElem h,List.filter_append,List.map_append];simp [hl]
theorem kv (b:Big) (l:Int) (n:Nat):(ex b l n).length≤n:=by
 unfold ex;rw [List.length_map];have:=List.length_filter_le (fun x:Wr=>decide (x.link=l)) (b.inner.take n);simp at this;omega
def pU (b:Big) (l:Int):Bool:=(aD b l).isEmpty && (nF b l).isEmpty
end Go.Proofs.YtnobdioccfeokaaGreatDoor
namespace Go.Proofs.YtnobdioccfeokaaGreatDoor
open Go.RowKit
set_option linter.unusedVariables false
set_option linter.unusedSimpArgs false
variable {P:Program} {w:World}
end Go.Proofs.YtnobdioccfeokaaGreatDoor
namespace Go.Proofs.YtnobdioccfeokaaGreatDoor
open Go.RowKit
set_option linter.unusedVariables false
set_option linter.unusedSimpArgs false
variable {P:Program} {w:World}
end Go.Proofs.YtnobdioccfeokaaGreatDoor
namespace Go.Proofs.YtnobdioccfeokaaGreatDoor
open Go.RowKit
set_option linter.unusedVariables false
set_option linter.unusedSimpArgs false
section
variable {P:Program} {ops:Array Oper} {Q:Exit→Act→World→Prop} {md:Region.Mode} {S:World→Prop}
end
end Go.Proofs.YtnobdioccfeokaaGreatDoor
namespace Go.Proofs.YtnobdioccfeokaaGreatDoor
open Go.RowKit
set_option linter.unusedVariables false
set_option linter.unusedSimpArgs false
def Off (a b:Nat × Nat):Prop:=a.2≤b.1∨b.2≤a.1
def rX (lo hi:Nat) (L:List (Nat × Nat)):Prop:=L.Pairwise Off∧∀p∈L,lo≤p.1∧p.2≤hi
theorem rX.widen {lo hi lo' hi':Nat} {L:List (Nat × Nat)} (h:rX lo hi L) (h1:lo'≤lo) (h2:hi≤hi'):rX lo' hi' L:=
 ⟨h.1,fun p hp=>by have:=h.2 p hp;omega⟩
def SlO {α:Type} (size:Nat) (P:Lie α) (lo hi:Nat) (w:World) (v:Value) (xs:List α):Prop:=
 ∃a k,v=.slice a xs.length k∧xs.length≤k∧k≤maxLen∧(a=none→k=0)∧(xs = []∨∃b o,∃f:Nat→Nat × Nat,a=some ⟨b,o,none⟩∧lo≤b∧b<hi∧b<w.heap.size∧(∀j,w.frozen? ⟨b,j,none⟩=false)∧(∀i j,i<j→j<xs.length→Off (f i) (f j)) ∧
  ∀i (h:i<xs.length),lo≤(f i).1∧(f i).2≤hi∧Off (f i) (b,b+1)∧∃cs,cs.length=size∧P (f i).1 (f i).2 w cs xs[i]∧bA w b (o+i * size) cs)
theorem jt.sub {lo hi l u:Nat} {w w':World} (h:jt lo hi w w') (h1:lo≤l) (h2:u≤hi):jt l u w w':=fun b h3 h4 h5=>h b (by omega) (by omega) h5
theorem SlO.keeps {α:Type} {P:Lie α} (hP:ez P) {size lo hi:Nat} {w w':World} {v:Value} {xs:List α} (hz:w.heap.size≤w'.heap.size) (hs:jt lo hi w w') (h:SlO size P lo hi w v xs):SlO size P lo hi w' v xs:=by
 obtain ⟨a,k,rfl,h1,h2,h3,h4⟩:=h
 refine ⟨a,k,rfl,h1,h2,h3,?_⟩
 rcases h4 with h4|⟨b,o,f,rfl,hb1,hb2,hb3,hf,ho,h4⟩
 ·exact .inl h4
 ·refine .inr ⟨b,o,f,rfl,hb1,hb2,by omega,fun j=>(World.frozen?_of_block (hs b hb1 hb2 hb3)).trans (hf j),ho,fun i hi=>?_⟩
  obtain ⟨g1,g2,g3,cs,hl,hp,hc⟩:=h4 i hi
  exact ⟨g1,g2,g3,cs,hl,hP _ _ _ _ _ _ (hs.sub g1 g2) hp,hs.cells hb1 hb2 hc⟩
theorem SlO.widens {α:Type} {P:Lie α} {size lo hi lo' hi':Nat} {w:World} {v:Value} {xs:List α} (h1:lo'≤lo) (h2:hi≤hi') (h:SlO size P lo hi w v xs):SlO size P lo' hi' w v xs:=by
 obtain ⟨a,k,rfl,g1,g2,g3,h4⟩:=h
 refine ⟨a,k,rfl,g1,g2,g3,?_⟩
 rcases h4 with h4|⟨b,o,f,rfl,hb1,hb2,hb3,hf,ho,h4⟩
 ·exact .inl h4
 ·refine .inr ⟨b,o,f,rfl,by omega,by omega,hb3,hf,ho,fun i hi=>?_⟩
  obtain ⟨g1,g2,g3,cs,hl,hp,hc⟩:=h4 i hi
  exact ⟨by omega,by omega,g3,cs,hl,hp,hc⟩
def cR {α:Type} (P:Lie α):Prop:=∀lo hi w w' cs x,w.heap.size≤w'.heap.size→jt lo hi w w'→P lo hi w cs x→P lo hi w' cs x
theorem ez.toO {α:Type} {P:Lie α} (h:ez P):cR P:=fun _ _ _ _ _ _ _ hs hp=>h _ _ _ _ _ _ hs hp
theorem SlO.keepsO {α:Type} {P:Lie α} (hP:cR P) {size lo hi:Nat} {w w':World} {v:Value} {xs:List α} (hz:w.heap.size≤w'.heap.size) (hs:jt lo hi w w') (h:SlO size P lo hi w v xs):SlO size P lo hi w' v xs:=by
 obtain ⟨a,k,rfl,h1,h2,h3,h4⟩:=h
 refine ⟨a,k,rfl,h1,h2,h3,?_⟩
 rcases h4 with h4|⟨b,o,f,rfl,hb1,hb2,hb3,hf,ho,h4⟩
 ·exact .inl h4
 ·refine .inr ⟨b,o,f,rfl,hb1,hb2,by omega,fun j=>(World.frozen?_of_block (hs b hb1 hb2 hb3)).trans (hf j),ho,fun i hi=>?_⟩
  obtain ⟨g1,g2,g3,cs,hl,hp,hc⟩:=h4 i hi
  exact ⟨g1,g2,g3,cs,hl,hP _ _ _ _ _ _ hz (hs.sub g1 g2) hp,hs.cells hb1 hb2 hc⟩
theorem SlO.ext {α:Type} {P:Lie α} (hP:cR P) {size lo hi:Nat} {w w':World} {v:Value} {xs:List α} (h:SlO size P lo hi w v xs) (hx:Ext w w'):SlO size P lo hi w' v xs:=h.keepsO hP (Below.size hx) (jt.ext hx)
theorem SlO.set {α:Type} {P:Lie α} (hP:cR P) {size lo hi b o:Nat} {u:Value} {w:World} {v:Value} {xs:List α} (h:SlO size P lo hi w v xs) (hb:b<lo∨hi≤b):SlO size P lo hi (w.setCell ⟨b,o,none⟩ u) v xs:=
 h.keepsO hP (by simp) (jt.grown (co b o u) hb)
theorem cR.ext {α:Type} {P:Lie α} (hP:cR P) {lo hi:Nat} {w w':World} {cs:List Value} {x:α} (h:P lo hi w cs x) (hx:Ext w w'):P lo hi w' cs x:=hP _ _ _ _ _ _ (Below.size hx) (jt.ext hx) h
theorem cR.set {α:Type} {P:Lie α} (hP:cR P) {lo hi b o:Nat} {u:Value} {w:World} {cs:List Value} {x:α} (h:P lo hi w cs x) (hb:b<lo∨hi≤b):P lo hi (w.setCell ⟨b,o,none⟩ u) cs x:=
 hP _ _ _ _ _ _ (by simp) (jt.grown (co b o u) hb) h
abbrev yK:=SlO 1 iY
abbrev Ih:=SlO 1 pH
abbrev Jy:=SlO 3 p8
abbrev JV:=SlO 2 WrP
abbrev IM:=SlO 2 iW
def Gx:Lie (List Int):=fun lo hi w cs l=>∃v,cs = [v]∧yK lo hi w v l
def NdO:Lie Nd:=fun lo hi w cs n=>∃v,cs = [.int .i64 n.control,.int .i64 n.parent,v]∧I64 n.control∧I64 n.parent∧yK lo hi w v n.links
abbrev Ib:=SlO 1 Gx
abbrev JX:=SlO 3 NdO
def CQ:Lie Big:=fun lo hi w cs b=>∃v1 v2 v4 v5 l1 u1 l2 u2 l4 u4 l5 u5,cs = [.int .i64 b.roots,v1,v2,.int .i64 b.edges,v4,v5]∧I64 b.roots∧I64 b.edges∧JX l1 u1 w v1 b.nodes∧yK l2 u2 w v2 b.sites∧Ih l4 u4 w v4 b.outer∧JV l5 u5 w v5 b.inner∧rX lo hi [(l1,u1),(l2,u2),(l4,u4),(l5,u5)]
def Hc:Lie Rul:=fun lo hi w cs r=>∃c1 c2 v l1 u1 l2 u2 l3 u3,cs=c1++(c2++[v])∧CQ l1 u1 w c1 r.redex∧CQ l2 u2 w c2 r.reactum∧yK l3 u3 w v r.copies∧rX lo hi [(l1,u1),(l2,u2),(l3,u3)]
abbrev Ji:=SlO 13 Hc
def Hh:Lie Srt:=fun lo hi w cs s=>∃v0 v1 v2 v3 v4 l0 u0 l1 u1 l2 u2 l3 u3 l4 u4,cs = [v0,v1,v2,v3,v4]∧yK l0 u0 w v0 s.tops∧Ib l1 u1 w v1 s.nest∧Ib l2 u2 w v2 s.sorts∧yK l3 u3 w v3 s.most∧IM l4 u4 w v4 s.apart∧rX lo hi [(l0,u0),(l1,u1),(l2,u2),(l3,u3),(l4,u4)]
def Hb:Lie Rnt:=fun lo hi w cs r=>∃v0 c1 v6 v7 c8 l0 u0 l1 u1 l6 u6 l7 u7 l8 u8,cs=v0 :: (c1++(v6 :: v7 :: (c8++[.int .i64 r.count])))∧Jy l0 u0 w v0 r.sig∧Hh l1 u1 w c1 r.sort∧Ji l6 u6 w v6 r.rules∧Ih l7 u7 w v7 r.hosts∧CQ l8 u8 w c8 r.agent∧I64 r.count∧rX lo hi [(l0,u0),(l1,u1),(l6,u6),(l7,u7),(l8,u8)]
theorem iY.keepsO:cR iY:=iY.keeps.toO
theorem pH.keepsO:cR pH:=pH.keeps.toO
theorem p8.keepsO:cR p8:=p8.keeps.toO
theorem WrP.keepsO:cR WrP:=WrP.keeps.toO
theorem iW.keepsO:cR iW:=iW.keeps.toO
theorem Gx.keepsO:cR Gx:=by
 rintro lo hi w w' cs l hz hs ⟨v,rfl,h⟩
 exact ⟨v,rfl,h.keepsO iY.keepsO hz hs⟩
theorem NdO.keepsO:cR NdO:=by
 rintro lo hi w w' cs n hz hs ⟨v,rfl,h1,h2,h⟩
 exact ⟨v,rfl,h1,h2,h.keepsO iY.keepsO hz hs⟩
theorem rX.at {lo hi:Nat} {L:List (Nat × Nat)} (h:rX lo hi L) {w w':World} (hs:jt lo hi w w'):∀p∈L,jt p.1 p.2 w w':=fun p hp=>hs.sub (h.2 p hp).1 (h.2 p hp).2
theorem CQ.keepsO:cR CQ:=by
 rintro lo hi w w' cs b hz hs ⟨v1,v2,v4,v5,l1,u1,l2,u2,l4,u4,l5,u5,rfl,h1,h2,a,b',c,d,hp⟩
 have hq:=hp.at hs
 exact ⟨v1,v2,v4,v5,l1,u1,l2,u2,l4,u4,l5,u5,rfl,h1,h2,a.keepsO NdO.keepsO hz (hq (l1,u1) (by simp)),b'.keepsO iY.keepsO hz (hq (l2,u2) (by simp)),c.keepsO pH.keepsO hz (hq (l4,u4) (by simp)),d.keepsO WrP.keepsO hz (hq (l5,u5) (by simp)),hp⟩
theorem Hc.keepsO:cR Hc:=by
 rintro lo hi w w' cs r hz hs ⟨c1,c2,v,l1,u1,l2,u2,l3,u3,rfl,a,b,c,hp⟩
 have hq:=hp.at hs
 exact ⟨c1,c2,v,l1,u1,l2,u2,l3,u3,rfl,CQ.keepsO _ _ _ _ _ _ hz (hq (l1,u1) (by simp)) a,CQ.keepsO _ _ _ _ _ _ hz (hq (l2,u2) (by simp)) b,c.keepsO iY.keepsO hz (hq (l3,u3) (by simp)),hp⟩
theorem Hh.keepsO:cR Hh:=by
 rintro lo hi w w' cs s hz hs ⟨v0,v1,v2,v3,v4,l0,u0,l1,u1,l2,u2,l3,u3,l4,u4,rfl,a,b,c,d,e,hp⟩
 have hq:=hp.at hs
 exact ⟨v0,v1,v2,v3,v4,l0,u0,l1,u1,l2,u2,l3,u3,l4,u4,rfl,a.keepsO iY.keepsO hz (hq (l0,u0) (by simp)),b.keepsO Gx.keepsO hz (hq (l1,u1) (by simp)),c.keepsO Gx.keepsO hz (hq (l2,u2) (by simp)),d.keepsO iY.keepsO hz (hq (l3,u3) (by simp)),e.keepsO iW.keepsO hz (hq (l4,u4) (by simp)),hp⟩
theorem Hb.keepsO:cR Hb:=by
 rintro lo hi w w' cs r hz hs ⟨v0,c1,v6,v7,c8,l0,u0,l1,u1,l6,u6,l7,u7,l8,u8,rfl,a,b,c,d,e,f,hp⟩
 have hq:=hp.at hs
 exact ⟨v0,c1,v6,v7,c8,l0,u0,l1,u1,l6,u6,l7,u7,l8,u8,rfl,a.keepsO p8.keepsO hz (hq (l0,u0) (by simp)),Hh.keepsO _ _ _ _ _ _ hz (hq (l1,u1) (by simp)) b,c.keepsO Hc.keepsO hz (hq (l6,u6) (by simp)),d.keepsO pH.keepsO hz (hq (l7,u7) (by simp)),CQ.keepsO _ _ _ _ _ _ hz (hq (l8,u8) (by simp)) e,f,hp⟩
theorem Gx.widens:eu Gx:=by
 rintro lo hi lo' hi' w cs l h1 h2 ⟨v,rfl,h⟩
 exact ⟨v,rfl,h.widens h1 h2⟩
theorem NdO.widens:eu NdO:=by
 rintro lo hi lo' hi' w cs n h1 h2 ⟨v,rfl,g1,g2,h⟩
 exact ⟨v,rfl,g1,g2,h.widens h1 h2⟩
theorem CQ.widens:eu CQ:=by
 rintro lo hi lo' hi' w cs b h1 h2 ⟨v1,v2,v4,v5,l1,u1,l2,u2,l4,u4,l5,u5,rfl,g1,g2,a,b',c,d,hp⟩
 exact ⟨v1,v2,v4,v5,l1,u1,l2,u2,l4,u4,l5,u5,rfl,g1,g2,a,b',c,d,hp.widen h1 h2⟩
theorem Hc.widens:eu Hc:=by
 rintro lo hi lo' hi' w cs r h1 h2 ⟨c1,c2,v,l1,u1,l2,u2,l3,u3,rfl,a,b,c,hp⟩
 exact ⟨c1,c2,v,l1,u1,l2,u2,l3,u3,rfl,a,b,c,hp.widen h1 h2⟩
theorem Hh.widens:eu Hh:=by
 rintro lo hi lo' hi' w cs s h1 h2 ⟨v0,v1,v2,v3,v4,l0,u0,l1,u1,l2,u2,l3,u3,l4,u4,rfl,a,b,c,d,e,hp⟩
 exact ⟨v0,v1,v2,v3,v4,l0,u0,l1,u1,l2,u2,l3,u3,l4,u4,rfl,a,b,c,d,e,hp.widen h1 h2⟩
theorem Hb.widens:eu Hb:=by
 rintro lo hi lo' hi' w cs r h1 h2 ⟨v0,c1,v6,v7,c8,l0,u0,l1,u1,l6,u6,l7,u7,l8,u8,rfl,a,b,c,d,e,f,hp⟩
 exact ⟨v0,c1,v6,v7,c8,l0,u0,l1,u1,l6,u6,l7,u7,l8,u8,rfl,a,b,c,d,e,f,hp.widen h1 h2⟩
def lg {α:Type} (size:Nat) (P:Lie α) (g:Nat) (w:World) (xs:List α) (cells:List Value) (i:Nat):Prop:=
 ∃f:Nat→Nat × Nat,(∀j j',j<j'→j'<i→(f j).2≤(f j').1)∧(∀j,j<i→g<(f j).1∧(f j).2≤w.heap.size) ∧
  ∀j (h:j<xs.length),j<i→∃ds,ds.length=size∧P (f j).1 (f j).2 w ds xs[j]∧∀t u,ds[t]? = some u→cells[j * size+t]? = some u
theorem lg.zero {α:Type} {size:Nat} {P:Lie α} {g:Nat} {w:World} {xs:List α} {cells:List Value}:lg size P g w xs cells 0:=
 ⟨fun _=>(0,0),fun _ _ _ h=>absurd h (Nat.not_lt_zero _),fun _ h=>absurd h (Nat.not_lt_zero _),fun j _ hj=>absurd hj (Nat.not_lt_zero _)⟩
theorem lg.put {α:Type} {size:Nat} {P:Lie α} (hP:cR P) {g:Nat} {w w':World} {xs:List α} {cells:List Value} {i:Nat} (h:lg size P g w xs cells i) (hx:Ext w w') (hg:g<w.heap.size) (hi:i<xs.length) (ds:List Value) (hd:ds.length=size) (hl:cells.length=xs.length * size)
 (hp:P w.heap.size w'.heap.size w' ds xs[i]) (hgr:w'.grownBy (wN w' g (i * size) ds) (some g)):lg size P g (wN w' g (i * size) ds) xs (ly cells (i * size) ds) (i+1):=by
 obtain ⟨f,f1,f2,f3⟩:=h
 have hz:=Below.size hx
 refine ⟨fun j=>if j<i then f j else (w.heap.size,w'.heap.size),fun j j' h1 h2=>?_,fun j hj=>?_,fun j hj hji=>?_⟩
 ·by_cases hh:j'<i
  ·simp only [if_pos hh,if_pos (show j<i by omega)];exact f1 j j' h1 hh
  ·simp only [if_neg hh,if_pos (show j<i by omega)];exact (f2 j (by omega)).2
 ·rw [ka]
  by_cases hh:j<i
  ·simp only [if_pos hh];have:=f2 j hh;omega
  ·simp only [if_neg hh];omega
 ·by_cases hlt:j<i
  ·simp only [if_pos hlt]
   have hs:jt (f j).1 (f j).2 w (wN w' g (i * size) ds):=by
    intro b b1 b2 b3
    have:=f2 j hlt
    rw [hgr.block b (by omega) (by simp;omega)]
    exact hx.block b b3
   obtain ⟨es,h1,h2,h3⟩:=f3 j hj hlt
   refine ⟨es,h1,hP _ _ _ _ _ _ (by rw [ka];omega) hs h2,fun t u ht=>?_⟩
   have htl:t<size:=by
    by_cases hh:t<es.length
    ·omega
    ·rw [List.getElem?_eq_none (by omega)] at ht;cases ht
   rw [jF]
   ·exact h3 t u ht
   ·left
    have:(j+1) * size≤i * size:=Nat.mul_le_mul_right _ hlt
    rw [Nat.add_mul] at this
    omega
  ·have e:j=i:=by omega
   subst e
   simp only [if_neg hlt]
   have hs:jt w.heap.size w'.heap.size w' (wN w' g (j * size) ds):=jt.grown hgr (.inl hg)
   refine ⟨ds,hd,hP _ _ _ _ _ _ (by rw [ka];omega) hs hp,fun t u ht=>lS ds cells _ t u ?_ ht⟩
   have:(j+1) * size≤xs.length * size:=Nat.mul_le_mul_right _ hj
   rw [Nat.add_mul] at this
   omega
theorem lg.all {α:Type} {size:Nat} {P:Lie α} {base g cap lo:Nat} {e:TypeId} {w:World} {xs:List α} {cells:List Value} (h:lg size P g w xs cells xs.length) (own:w.ownsRow base e size (.slice (some ⟨g,0,none⟩) xs.length cap) xs.length cells) (hlo:lo≤g) (hc:xs.length≤cap) (hcm:cap≤maxLen) :
 SlO size P lo w.heap.size w (.slice (some ⟨g,0,none⟩) xs.length cap) xs:=by
 obtain ⟨f,f1,f2,f3⟩:=h
 refine ⟨_,_,rfl,hc,hcm,fun h=>(by cases h),.inr ⟨g,0,f,rfl,hlo,(xR own).2,(xR own).2,fun j=>own.frozenAt j,fun i j h1 h2=>.inl (f1 i j h1 h2),fun i hi=>?_⟩⟩
 obtain ⟨ds,h1,h2,h3⟩:=f3 i hi hi
 have:=f2 i hi
 refine ⟨by omega,this.2,.inr (by show g+1≤_;omega),ds,h1,h2,fun t u ht=>?_⟩
 rw [Nat.zero_add]
 exact rx own _ _ (h3 t u ht)
structure rm (lo hi:Nat) (w w':World):Prop where
 os:w'.os=w.os
 tape:w'.tape=w.tape
 output:w'.output=w.output
 size:w.heap.size≤w'.heap.size
 block:∀b,b<w.heap.size→(b<lo∨hi≤b)→w'.heap[b]? = w.heap[b]?
theorem rm.refl (lo hi:Nat) (w:World):rm lo hi w w:=⟨rfl,rfl,rfl,Nat.le_refl _,fun _ _ _=>rfl⟩
theorem rm.trans {lo hi:Nat} {w w1 w2:World} (h:rm lo hi w w1) (k:rm lo hi w1 w2):rm lo hi w w2:=
 ⟨k.os.trans h.os,k.tape.trans h.tape,k.output.trans h.output,Nat.le_trans h.size k.size,fun b h1 h2=>(k.block b (Nat.lt_of_lt_of_le h1 h.size) h2).trans (h.block b h1 h2)⟩
theorem rm.of_ext {lo hi:Nat} {w w':World} (h:Ext w w'):rm lo hi w w':=⟨h.os,h.tape,h.output,Below.size h,fun b h1 _=>h.block b h1⟩
theorem rm.ext {lo hi:Nat} {w w1 w2:World} (h:rm lo hi w w1) (k:Ext w1 w2):rm lo hi w w2:=h.trans (.of_ext k)
theorem rm.widen {lo hi lo' hi':Nat} {w w':World} (h:rm lo hi w w') (h1:lo'≤lo) (h2:hi≤hi'):rm lo' hi' w w':=
 ⟨h.os,h.tape,h.output,h.size,fun b h3 h4=>h.block b h3 (by omega)⟩
theorem rm.set {lo hi b o:Nat} {u:Value} {w w':World} (h:rm lo hi w w') (h1:lo≤b) (h2:b<hi):rm lo hi w (w'.setCell ⟨b,o,none⟩ u):=
 h.trans ⟨rfl,rfl,rfl,by simp,fun k _ hk=>heap_setCell_other w' ⟨b,o,none⟩ k u (fun e=>by simp at e;omega)⟩
structure rv (b p n l u:Nat) (w w':World):Prop where
 os:w'.os=w.os
 tape:w'.tape=w.tape
 output:w'.output=w.output
 size:w.heap.size≤w'.heap.size
 block:∀c,c<w.heap.size→c≠b→(c<l∨u≤c)→w'.heap[c]? = w.heap[c]?
 froz:∀j,w'.frozen? ⟨b,j,none⟩=w.frozen? ⟨b,j,none⟩
 cell:∀j,(j<p∨p+n≤j)→w'.cell? ⟨b,j,none⟩=w.cell? ⟨b,j,none⟩
theorem rv.refl (b p n l u:Nat) (w:World):rv b p n l u w w:=⟨rfl,rfl,rfl,Nat.le_refl _,fun _ _ _ _=>rfl,fun _=>rfl,fun _ _=>rfl⟩
theorem rv.set {b p n l u o:Nat} {x:Value} {w w':World} (h:rv b p n l u w w') (h1:p≤o) (h2:o<p+n):rv b p n l u w (w'.setCell ⟨b,o,none⟩ x):=
 ⟨h.os,h.tape,h.output,by simpa using h.size,fun c c1 c2 c3=>(heap_setCell_other w' ⟨b,o,none⟩ c x (fun e=>c2 (by simp [e]))).trans (h.block c c1 c2 c3),fun j=>(World.frozen?_setCell _ _ _ _).trans (h.froz j),
  fun j hj=>(World.cell?_setCell_other _ _ _ _ (by intro e;injection e with e1 e2;omega)).trans (h.cell j hj)⟩
theorem rv.ext {b p n l u:Nat} {w w1 w2:World} (h:rv b p n l u w w1) (k:Ext w1 w2) (hb:b<w.heap.size):rv b p n l u w w2:=by
 have hbb:w2.heap[b]? = w1.heap[b]?:=k.block b (Nat.lt_of_lt_of_le hb h.size)
 exact ⟨k.os.trans h.os,k.tape.trans h.tape,k.output.trans h.output,Nat.le_trans h.size (Below.size k),fun c c1 c2 c3=>(k.block c (Nat.lt_of_lt_of_le c1 h.size)).trans (h.block c c1 c2 c3),
  fun j=>(World.frozen?_of_block hbb).trans (h.froz j),fun j hj=>(World.cell?_of_block hbb).trans (h.cell j hj)⟩
theorem SlO.at {α:Type} {P:Lie α} (hP:cR P) {size lo hi:Nat} {w:World} {v:Value} {xs:List α} (h:SlO size P lo hi w v xs) (i:Nat) (hi':i<xs.length) :
 ∃b o k l u cs,v=.slice (some ⟨b,o,none⟩) xs.length k∧xs.length≤k∧k≤maxLen∧lo≤b∧b<hi∧b<w.heap.size∧(∀j,w.frozen? ⟨b,j,none⟩=false)∧lo≤l∧u≤hi∧Off (l,u) (b,b+1)∧cs.length=size∧P l u w cs xs[i]∧bA w b (o+i * size) cs ∧
  ∀w' y cs',rv b (o+i * size) size l u w w'→cs'.length=size→P l u w' cs' y→bA w' b (o+i * size) cs'→SlO size P lo hi w' v (xs.set i y):=by
 obtain ⟨a,k,rfl,h1,h2,h3,h4⟩:=h
 rcases h4 with h4|⟨b,o,f,rfl,hb1,hb2,hb3,hf,ho,h4⟩
 ·subst h4;cases hi'
 ·obtain ⟨g1,g2,g3,cs,hl,hp,hc⟩:=h4 i hi'
  refine ⟨b,o,k,(f i).1,(f i).2,cs,rfl,h1,h2,hb1,hb2,hb3,hf,g1,g2,g3,hl,hp,hc,fun w' y cs' ht hl' hp' hc'=>?_⟩
  refine ⟨_,k,by rw [List.length_set],by rw [List.length_set];exact h1,h2,fun e=>(by cases e),.inr ⟨b,o,f,rfl,hb1,hb2,Nat.lt_of_lt_of_le hb3 ht.size,fun j=>(ht.froz j).trans (hf j),fun i j q1 q2=>ho i j q1 (by simpa using q2),fun j hj=>?_⟩⟩
  have hj':j<xs.length:=by simpa using hj
  obtain ⟨e1,e2,e3,ds,el,ep,ec⟩:=h4 j hj'
  by_cases hji:j=i
  ·subst hji
   exact ⟨g1,g2,g3,cs',hl',by rw [List.getElem_set_self];exact hp',hc'⟩
  ·refine ⟨e1,e2,e3,ds,el,?_,fun t x hx=>?_⟩
   ·rw [List.getElem_set_ne (fun e=>hji e.symm)]
    refine hP _ _ _ _ _ _ ht.size (fun c c1 c2 c3=>ht.block c c3 ?_ ?_) ep
    ·intro e
     subst e
     simp only [Off] at e3;omega
    ·have:Off (f j) (f i):=by
      rcases Nat.lt_or_ge j i with q|q
      ·exact ho j i q hi'
      ·have:=ho i j (by omega) hj'
       exact this.symm
     rcases this with q|q
     ·exact .inl (by omega)
     ·exact .inr (by omega)
   ·have htl:t<size:=by
     have:t<ds.length:=by
      by_cases hh:t<ds.length
      ·exact hh
      ·rw [List.getElem?_eq_none (by omega)] at hx;cases hx
     omega
    rw [ht.cell (o+j * size+t) ?_]
    ·exact ec t x hx
    ·rcases Nat.lt_or_ge j i with q|q
     ·left
      have:(j+1) * size≤i * size:=Nat.mul_le_mul_right _ q
      rw [Nat.add_mul] at this;omega
     ·right
      have:(i+1) * size≤j * size:=Nat.mul_le_mul_right _ (by omega)
      rw [Nat.add_mul] at this;omega
theorem bA.nil (w:World) (b o:Nat):bA w b o []:=fun j u h=>by simp at h
theorem bA.cons {w:World} {b o:Nat} {c:Value} {cs:List Value} (h:w.cell? ⟨b,o,none⟩=some c) (k:bA w b (o+1) cs):bA w b o (c :: cs):=by
 intro j u hj
 cases j with
 | zero=>simp at hj;subst hj;exact h
 | succ j=>rw [show o+(j+1)=(o+1)+j by omega];exact k j u (by simpa using hj)
end Go.Proofs.YtnobdioccfeokaaGreatDoor
namespace Go.Proofs.YtnobdioccfeokaaGreatDoor
open Go.RowKit
set_option linter.unusedVariables false
set_option linter.unusedSimpArgs false
theorem bA.set {w:World} {b p off:Nat} {x:Value} {cs:List Value} (h:bA w b p cs) (ho:off<cs.length):bA (w.setCell ⟨b,p+off,none⟩ x) b p (cs.set off x):=by
 intro j u hj
 rw [List.getElem?_set] at hj
 by_cases e:off=j
 ·subst e
  rw [if_pos rfl,if_pos ho] at hj
  cases hj
  exact World.cell?_setCell_same _ _ _ (h off _ (List.getElem?_eq_getElem ho))
 ·rw [if_neg e] at hj
  exact mx (h j u hj) (by intro e2;injection e2 with e3 e4;omega)
theorem bA.ext {w w':World} {b p:Nat} {cs:List Value} (h:bA w b p cs) (hx:Ext w w'):bA w' b p cs:=fun j u hj=>hx.keep (h j u hj)
theorem rm.keep {lo hi:Nat} {w w':World} {q:Addr} {v:Value} (h:rm lo hi w w') (hc:w.cell? q=some v) (hq:q.block<lo∨hi≤q.block):w'.cell? q=some v:=
 (World.cell?_of_block (h.block _ (World.block_lt_of_cell? w q hc) hq)).trans hc
theorem Off.symm {a b:Nat × Nat} (h:Off a b):Off b a:=Or.symm h
theorem Off.sub {a b:Nat × Nat} {l u l' u':Nat} (h:Off a b) (h1:a.1≤l) (h2:u≤a.2) (h3:b.1≤l') (h4:u'≤b.2):Off (l,u) (l',u'):=by
 rcases h with h|h
 ·exact .inl (by show u≤l';omega)
 ·exact .inr (by show u'≤l;omega)
theorem Off.lt {l u b:Nat} (h:Off (l,u) (b,b+1)):b<l∨u≤b:=by
 rcases h with h|h <;> simp at h <;> omega
end Go.Proofs.YtnobdioccfeokaaGreatDoor
namespace Go.Proofs.YtnobdioccfeokaaGreatDoor
open Go.RowKit
set_option linter.unusedVariables false
set_option linter.unusedSimpArgs false
def mkL {α:Type} (f:Int→α→α) (c:α→Nat):Int→List α→List α
 | _,[]=>[]
 | k,x :: xs=>f k x :: mkL f c (k+c x) xs
def cnL {α:Type} (c:α→Nat) (xs:List α):Nat:=(xs.map c).sum
def lC {α:Type} (f:Int→α→α) (c:α→Nat) (i:Nat) (k:Int) (xs:List α):List α:=mkL f c k (xs.take i)++xs.drop i
theorem pA {α:Type} (f:Int→α→α) (c:α→Nat):∀(xs:List α) (k:Int),(mkL f c k xs).length=xs.length:=by
 intro xs
 induction xs with
 | nil=>intro k;rfl
 | cons x xs ih=>intro k;simp [mkL,ih]
theorem gH {α:Type} (c:α→Nat) (xs:List α) (i:Nat) (h:i<xs.length):cnL c (xs.take (i+1))=cnL c (xs.take i)+c xs[i]:=by
 rw [List.take_succ_eq_append_getElem h]
 unfold cnL
 rw [List.map_append,List.sum_append]
 simp
theorem mf {α:Type} (c:α→Nat) (x:α) (xs:List α):cnL c (x :: xs)=c x+cnL c xs:=by simp [cnL]
theorem qr {α:Type} (f:Int→α→α) (c:α→Nat):∀(xs ys:List α) (k:Int),mkL f c k (xs++ys)=mkL f c k xs++mkL f c (k+cnL c xs) ys:=by
 intro xs
 induction xs with
 | nil=>intro ys k;simp [mkL,cnL]
 | cons x xs ih=>
  intro ys k
  rw [List.cons_append,mkL,ih,mkL,mf,List.cons_append,show k+((c x+cnL c xs:Nat):Int)=k+(c x:Int)+(cnL c xs:Int) by omega]
theorem qY {α:Type} (f:Int→α→α) (c:α→Nat) (i:Nat) (k:Int) (xs:List α):(lC f c i k xs).length=xs.length:=by
 unfold lC;rw [List.length_append,pA,List.length_take,List.length_drop];omega
theorem gq {α:Type} (f:Int→α→α) (c:α→Nat) (k:Int) (xs:List α):lC f c 0 k xs=xs:=by simp [lC,mkL]
theorem Ez {α:Type} (f:Int→α→α) (c:α→Nat) (k:Int) (xs:List α):lC f c xs.length k xs=mkL f c k xs:=by simp [lC]
theorem FL {α:Type} (f:Int→α→α) (c:α→Nat) (i:Nat) (k:Int) (xs:List α) (h:i<xs.length) (h':i<(lC f c i k xs).length):(lC f c i k xs)[i]=xs[i]:=by
 have hl:(mkL f c k (xs.take i)).length=i:=by rw [pA,List.length_take];omega
 simp only [lC]
 rw [List.getElem_append_right (by omega)]
 simp [hl]
theorem Bo {α:Type} (f:Int→α→α) (c:α→Nat) (i:Nat) (k:Int) (xs:List α) (h:i<xs.length):lC f c (i+1) k xs=(lC f c i k xs).set i (f (k+cnL c (xs.take i)) xs[i]):=by
 have hl:(mkL f c k (xs.take i)).length=i:=by rw [pA,List.length_take];omega
 unfold lC
 rw [List.take_succ_eq_append_getElem h,qr,List.set_append_right _ _ (by omega),hl,Nat.sub_self,List.drop_eq_getElem_cons h,List.set_cons_zero,mkL,mkL,List.append_assoc]
 rfl
theorem HM {α:Type} (f:Int→α→α) (c:α→Nat) (i:Nat) (k:Int) (xs:List α) (h:i<xs.length) (h':i<(mkL f c k xs).length):(mkL f c k xs)[i]=f (k+cnL c (xs.take i)) xs[i]:=by
 have e:mkL f c k xs=mkL f c k (xs.take i)++(f (k+cnL c (xs.take i)) xs[i] :: mkL f c (k+cnL c (xs.take i)+c xs[i]) (xs.drop (i+1))):=by
  have:xs=xs.take i++xs[i] :: xs.drop (i+1):=by rw [← List.drop_eq_getElem_cons h,List.take_append_drop]
  conv=>lhs;rw [this,qr,mkL]
 have hl:(mkL f c k (xs.take i)).length=i:=by rw [pA,List.length_take];omega
 simp only [e]
 rw [List.getElem_append_right (by omega)]
 simp [hl]
theorem bq {α:Type} (c:α→Nat) (xs:List α) (i:Nat):cnL c (xs.take i)≤cnL c xs:=fd c xs i
theorem i7 {α:Type} (c:α→Nat) (xs:List α):cnL c (xs.take xs.length)=cnL c xs:=by simp
def c1 {α:Type} (_:α):Nat:=1
def c2 {α:Type} (_:α):Nat:=2
def c3 {α:Type} (_:α):Nat:=3
theorem mg {α:Type} (xs:List α):cnL c1 xs=xs.length:=by
 induction xs with
 | nil=>rfl
 | cons x xs ih=>rw [mf,ih];simp [c1];omega
theorem Fu {α:Type} (xs:List α):cnL c2 xs=2 * xs.length:=by
 induction xs with
 | nil=>rfl
 | cons x xs ih=>rw [mf,ih];simp [c2];omega
theorem If {α:Type} (xs:List α):cnL c3 xs=3 * xs.length:=by
 induction xs with
 | nil=>rfl
 | cons x xs ih=>rw [mf,ih];simp [c3];omega
def kO (n:Int):ByteArray:=if n≤0 then ⟨#[109,48]⟩ else ⟨#[109]⟩++sS n
def mkI (k:Int) (_:Int):Int:=k
def mkS (k:Int) (_:ByteArray):ByteArray:=kO k
def D1 (k:Int) (_:Ctl):Ctl:=⟨kO k,k+1,k+1+1⟩
def zF (k:Int) (_:Wr):Wr:=⟨kO k,k+1⟩
def w7 (k:Int) (_:Int × Int):Int × Int:=(k,k+1)
def BJ (k:Int) (l:List Int):List Int:=mkL mkI c1 k l
def kJ (l:List Int):Nat:=cnL c1 l
def cNd (n:Nd):Nat:=2+cnL c1 n.links
def pP (k:Int) (n:Nd):Nd:=⟨k,k+1,mkL mkI c1 (k+1+1) n.links⟩
def sb (b:Big):Nat:=cnL cNd b.nodes+cnL c1 b.sites+cnL c1 b.outer+cnL c2 b.inner
def vg (k:Int) (b:Big):Big:=⟨b.roots,mkL pP cNd k b.nodes,mkL mkI c1 (k+cnL cNd b.nodes) b.sites,b.edges,mkL mkS c1 (k+cnL cNd b.nodes+cnL c1 b.sites) b.outer,mkL zF c2 (k+cnL cNd b.nodes+cnL c1 b.sites+cnL c1 b.outer) b.inner⟩
def pW (b:Big):Nat:=sb b+2
def E9 (k:Int) (b:Big):Big:=⟨k,mkL pP cNd (k+1) b.nodes,mkL mkI c1 (k+1+cnL cNd b.nodes) b.sites,k+1+cnL cNd b.nodes+cnL c1 b.sites,mkL mkS c1 (k+1+cnL cNd b.nodes+cnL c1 b.sites+1) b.outer,mkL zF c2 (k+1+cnL cNd b.nodes+cnL c1 b.sites+1+cnL c1 b.outer) b.inner⟩
def AO (k:Int) (b:Big):Int:=k+1+cnL cNd b.nodes+cnL c1 b.sites+1+cnL c1 b.outer+cnL c2 b.inner
def fx (r:Rul):Nat:=pW r.redex+pW r.reactum+cnL c1 r.copies
def xK (k:Int) (r:Rul):Rul:=⟨E9 k r.redex,E9 (AO k r.redex) r.reactum,mkL mkI c1 (AO (AO k r.redex) r.reactum) r.copies⟩
def uE (s:Srt):Nat:=cnL c1 s.tops+cnL kJ s.nest+cnL kJ s.sorts+cnL c1 s.most+cnL c2 s.apart
def Iu (k:Int) (s:Srt):Srt:=⟨mkL mkI c1 k s.tops,mkL BJ kJ (k+cnL c1 s.tops) s.nest,mkL BJ kJ (k+cnL c1 s.tops+cnL kJ s.nest) s.sorts,mkL mkI c1 (k+cnL c1 s.tops+cnL kJ s.nest+cnL kJ s.sorts) s.most,mkL w7 c2 (k+cnL c1 s.tops+cnL kJ s.nest+cnL kJ s.sorts+cnL c1 s.most) s.apart⟩
def Fi (r:Rnt):Nat:=cnL c3 r.sig+uE r.sort+cnL fx r.rules+cnL c1 r.hosts+sb r.agent
def Jq (k:Int) (r:Rnt):Rnt:=⟨mkL D1 c3 k r.sig,Iu (k+cnL c3 r.sig) r.sort,mkL xK fx (k+cnL c3 r.sig+uE r.sort) r.rules,mkL mkS c1 (k+cnL c3 r.sig+uE r.sort+cnL fx r.rules) r.hosts,vg (k+cnL c3 r.sig+uE r.sort+cnL fx r.rules+cnL c1 r.hosts) r.agent,r.count⟩
theorem BQ {α:Type} (c d:α→Nat) (m:Nat) (hm:1≤m) (h:∀x,c x≤m+m * d x) (xs:List α):cnL c xs≤m * wtL d xs:=by
 induction xs with
 | nil=>simp [cnL]
 | cons x xs ih=>
  have:=h x
  rw [mf,wL,Nat.mul_add,Nat.mul_add]
  omega
theorem Ix (n:Nd):cNd n≤2+2 * jx n:=by unfold cNd jx;rw [mg];omega
theorem gZ {α:Type} (f:α→Nat) (l:List α):l.length≤wtL f l:=by unfold wtL;omega
theorem vq (b:Big):sb b≤2 * dN b:=by
 have h1:=BQ cNd jx 2 (by omega) Ix b.nodes
 have h2:=gZ ed b.outer
 have h3:=gZ mG b.inner
 have e:dN b=wtL jx b.nodes+b.sites.length+wtL ed b.outer+wtL mG b.inner:=rfl
 unfold sb
 rw [e,mg,mg,Fu]
 omega
theorem EB (r:Rul):fx r≤4+4 * dG r:=by
 have h1:=vq r.redex
 have h2:=vq r.reactum
 have e:dG r=dN r.redex+dN r.reactum+r.copies.length:=rfl
 unfold fx pW
 rw [mg]
 omega
theorem CL (n:Int) (h0:0≤n) (h1:n≤1000000000):(kO n).size≤maxLen:=by
 unfold kO
 split
 ·decide
 ·rw [ByteArray.size_append]
  have:=xO n (by omega) (by omega)
  have e:(⟨#[109]⟩:ByteArray).size=1:=rfl
  unfold maxLen
  omega
end Go.Proofs.YtnobdioccfeokaaGreatDoor
namespace Go.Proofs.YtnobdioccfeokaaGreatDoor
open Go.RowKit
set_option linter.unusedVariables false
set_option linter.unusedSimpArgs false
structure Lg where
 durable:ByteArray
 pending:ByteArray
 count:Int
structure Cns where
 run:Rnt
 log:Lg
def LgP:Lie Lg:=fun _ _ _ cs x=>cs = [.string x.durable,.string x.pending,.int .i64 x.count]∧x.durable.size≤maxLen∧x.pending.size≤maxLen∧I64 x.count
def JE:Lie Cns:=fun lo hi w cs x=>∃c1 c2,cs=c1++c2∧I1 lo hi w c1 x.run∧LgP lo hi w c2 x.log
def JF:Lie Cns:=fun lo hi w cs x=>∃c1 c2,cs=c1++c2∧Hb lo hi w c1 x.run∧LgP lo hi w c2 x.log
theorem LgP.keeps:ez LgP:=fun _ _ _ _ _ _ _ h=>h
theorem LgP.keepsO:cR LgP:=LgP.keeps.toO
theorem LgP.widens:eu LgP:=fun _ _ _ _ _ _ _ _ _ h=>h
theorem JE.keeps:ez JE:=by
 rintro lo hi w w' cs x hs ⟨c1,c2,rfl,a,b⟩
 exact ⟨c1,c2,rfl,I1.keeps _ _ _ _ _ _ hs a,b⟩
theorem JF.keepsO:cR JF:=by
 rintro lo hi w w' cs x hz hs ⟨c1,c2,rfl,a,b⟩
 exact ⟨c1,c2,rfl,Hb.keepsO _ _ _ _ _ _ hz hs a,b⟩
end Go.Proofs.YtnobdioccfeokaaGreatDoor
namespace Go.Proofs.YtnobdioccfeokaaGreatDoor
open Go.RowKit Go.ChangeShapes Go.WideShapes
set_option linter.unusedVariables false
set_option linter.unusedSimpArgs false
section
variable {H:Type} {enc:TypeId × Value→H} {P:Program} {w:World}
def fe {H:Type} (enc:TypeId × Value→H) (P:Program) (w:World) (t:TypeId) {α:Type} (L:Lie α):Prop:=
 ∀fuel cs x,DataW.trod enc P w 0 (fun _=>true) true fuel t cs=some x→∃d,L 0 w.heap.size w cs d
theorem tU (b o i:Nat):(⟨b,o,none⟩:Addr).add i=⟨b,o+i,none⟩:=by
 unfold Addr.add
 split <;> simp_all
theorem Bk {t:TypeId} (ht:P.underlying t=some (.int .i64)):fe enc P w t iY:=by
 intro fuel cs x h
 obtain ⟨n,rfl,_,hw⟩:=DataW.trod_int ht h
 exact ⟨n,rfl,bounds_i64 hw⟩
theorem uj {t:TypeId} (ht:P.underlying t=some .string):fe enc P w t pH:=by
 intro fuel cs x h
 obtain ⟨s,rfl,_,hw⟩:=DataW.trod_string ht h
 exact ⟨s,rfl,hw⟩
theorem dS {t e:TypeId} {α:Type} {L:Lie α} {size:Nat} (ht:P.underlying t=some (.slice e)) (hc:P.cellsOf e=size) (hp:0<size) (he:fe enc P w e L) :
 ∀fuel cs x,DataW.trod enc P w 0 (fun _=>true) true fuel t cs=some x→∃v xs,cs = [v]∧SlV size L 0 w.heap.size w v xs:=by
 intro fuel cs x h
 rcases DataW.trod_slice ht h with ⟨rfl,_⟩|⟨a,len,cap,elems,rest,n,_,rfl,rfl,hb,hl,hm,hlen,hel,_,_⟩
 ·exact ⟨_,[],rfl,none,0,rfl,by simp,Nat.zero_le _,fun _=>rfl,.inl rfl⟩
 ·have each:∀i:Fin len,∃y:List Value × α,w.cells? 0 (a.add (i.1 * size)) size=some y.1∧L 0 w.heap.size w y.1 y.2:=by
   intro ⟨i,hi⟩
   have h1:=hel i hi
   rw [List.getElem?_eq_getElem (by omega),Option.bind_eq_some_iff] at h1
   obtain ⟨c,hc1,hc2⟩:=h1
   rw [hc] at hc1
   obtain ⟨d,hd⟩:=he _ _ _ hc2
   exact ⟨(c,d),hc1,hd⟩
  obtain ⟨f,hf⟩:=Classical.axiomOfChoice each
  refine ⟨_,List.ofFn (fun i=>(f i).2),rfl,some a,cap,by simp,by simpa using hl,hm,fun h=>(nomatch h),?_⟩
  by_cases h0:len=0
  ·exact .inl (by subst h0;simp)
  ·obtain ⟨b,off,s⟩:=a
   obtain ⟨_,hl0,hg0⟩:=World.cells?_some (hf ⟨0,by omega⟩).1
   have hc0:=hg0 0 hp
   rw [List.getElem?_eq_getElem (by omega)] at hc0
   obtain rfl:s=none:=by simpa [Addr.add] using World.cell?_spot hc0
   refine .inr ⟨b,off,rfl,Nat.zero_le _,by simpa [Addr.add] using World.block_lt_of_cell? _ _ hc0,fun i hi=>?_⟩
   have hi':i<len:=by simpa using hi
   obtain ⟨_,hl1,hg1⟩:=World.cells?_some (hf ⟨i,hi'⟩).1
   refine ⟨(f ⟨i,hi'⟩).1,hl1,by simpa using (hf ⟨i,hi'⟩).2,fun j u hu=>?_⟩
   have hj:j<size:=by rw [← hl1];exact (List.getElem?_eq_some_iff.1 hu).1
   have:=hg1 j hj
   rw [hu,tU,tU] at this
   exact this
theorem fh {t:TypeId} {fs:Array Field} {fuel:Nat} {cs:List Value} {x:DataW H × List MemPlace} (hs:P.underlying t=some (.struct fs)) (h:DataW.trod enc P w 0 (fun _=>true) true fuel t cs=some x) :
 cs.length=P.cellsOf t∧∃n,∀(i:Nat) (f:Field),fs[i]? = some f→∃y,DataW.trod enc P w 0 (fun _=>true) true n f.type ((cs.drop f.offset).take (P.cellsOf f.type))=some y:=by
 obtain ⟨xs,n,_,_,hl,hlen,hf⟩:=DataW.trod_struct hs h
 refine ⟨hl,n,fun i f hi=>?_⟩
 have hlt:i<xs.length:=by rw [hlen];exact (Array.getElem?_eq_some_iff.1 hi).1
 exact ⟨xs[i],by rw [hf i f hi,List.getElem?_eq_getElem hlt]⟩
end
theorem Iw {α:Type} {cs:List α} (h:cs.length=2):∃a b,cs = [a,b]:=by
 match cs,h with
 | [a,b],_=>exact ⟨a,b,rfl⟩
theorem II {α:Type} {cs:List α} (h:cs.length=3):∃a b c,cs = [a,b,c]:=by
 match cs,h with
 | [a,b,c],_=>exact ⟨a,b,c,rfl⟩
theorem Jg {α:Type} {cs:List α} (h:cs.length=6):∃a b c d e f,cs = [a,b,c,d,e,f]:=by
 match cs,h with
 | [a,b,c,d,e,f],_=>exact ⟨a,b,c,d,e,f,rfl⟩
theorem Hn {α:Type} {cs:List α} (h:cs.length=13):∃a0 a1 a2 a3 a4 a5 a6 a7 a8 a9 a10 a11 a12,cs = [a0,a1,a2,a3,a4,a5,a6,a7,a8,a9,a10,a11,a12]:=by
 match cs,h with
 | [a0,a1,a2,a3,a4,a5,a6,a7,a8,a9,a10,a11,a12],_=>exact ⟨a0,a1,a2,a3,a4,a5,a6,a7,a8,a9,a10,a11,a12,rfl⟩
end Go.Proofs.YtnobdioccfeokaaGreatDoor
namespace Go.Proofs.YtnobdioccfeokaaGreatDoor
open Go.RowKit
set_option linter.unusedVariables false
set_option linter.unusedSimpArgs false
def Jf (w:World) (g:Nat) (s:ByteArray):Prop:=∀j (h:j<s.data.size),w.cell? ⟨g,j,none⟩=some (.int .u8 (s.data[j].toNat:Int))
theorem Bs {P:Program} {w:World} {g:Nat} {s:ByteArray} (h:Jf w g s) (src dst e:TypeId) (cap:Nat) (hs:P.underlying src=some (.slice e)) (he:P.underlying e=some (.int .u8)) (hd:P.underlying dst=some .string) :
 (convert src dst (.slice (some ⟨g,0,none⟩) s.size cap)).run P w=.ok (.string s) w:=by
 have hl:s.size=s.data.toList.length:=by simp
 rw [hl,run_convert_bytes_back w src dst e ⟨g,0,none⟩ cap s.data.toList hs he hd]
 intro j hj
 have e1:((⟨g,0,none⟩:Addr).add j)=⟨g,j,none⟩:=by cases j <;> simp [Addr.add]
 rw [e1,h j (by simpa using hj)]
 simp
theorem vp {P:Program} {w:World} {ops:Array Oper} {rest:List Oper} {o:Oper} {a:Act} {Q:Exit→Act→World→Prop} (hgd:o.guard=none) (src dst e:TypeId) (x:Operand)
 (ho:o.op=.convert src dst x) {g:Nat} {s:ByteArray} (hl:Jf w g s) (n cap:Nat) (hn:s.size=n) (hx:a.eval x=.slice (some ⟨g,0,none⟩) n cap) (hs:P.underlying src=some (.slice e)) (he:P.underlying e=some (.int .u8)) (hd:P.underlying dst=some .string)
 (h:wpList P ops Q rest (a.put o.dst (.string s)) w):wpList P ops Q (o :: rest) a w:=by
 subst hn
 refine wpList_plain hgd fun K hK=>?_
 unfold Oper.wp execOp
 simp only [ho,hx,Sem.run_bind,Bs hl src dst e cap hs he hd,Result.andThen_ok,Sem.run_pure]
 exact hK _ _ h
end Go.Proofs.YtnobdioccfeokaaGreatDoor
namespace Go.Proofs.YtnobdioccfeokaaGreatDoor
open Go.RowKit
set_option linter.unusedVariables false
set_option linter.unusedSimpArgs false
theorem ez.ofFlat {α:Type} {P:Lie α} (h:Hj P):ez P:=fun _ _ _ _ _ _ _ hp=>h _ _ _ _ _ _ _ _ hp
def vx {α:Type} (size:Nat) (P:Lie α) (e:TypeId) (base m:Nat) (w:World) (v:Value) (xs:List α):Prop:=
 ∃cells,∃f:Nat→Nat × Nat,w.ownsRow base e size v xs.length cells∧m≤w.heap.size∧(∀i j,i<j→j<xs.length→(f i).2≤(f j).1) ∧
  ∀i (h:i<xs.length),∃ds,ds.length=size∧base≤(f i).1∧(f i).2≤m∧(∀g,v.ownBlock=some g→g<(f i).1∨(f i).2≤g)∧P (f i).1 (f i).2 w ds xs[i]∧∀t y,ds[t]? = some y→cells[i * size+t]? = some y
theorem vx.nil {α:Type} {size:Nat} {P:Lie α} {e:TypeId} {base m:Nat} {w:World} (hm:m≤w.heap.size):vx size P e base m w (.slice none 0 0) []:=
 ⟨[],fun _=>(0,0),⟨by simp,.inl ⟨rfl,rfl⟩⟩,hm,fun _ _ _ h=>absurd h (Nat.not_lt_zero _),fun i h=>absurd h (Nat.not_lt_zero _)⟩
theorem vx.made {α:Type} {size:Nat} {P:Lie α} {e:TypeId} {base m:Nat} {w:World} (hb:base≤w.heap.size) (hm:m≤w.heap.size):vx size P e base m (w.alloc (.cells #[] e)) (.slice (some ⟨w.heap.size,0,none⟩) 0 0) []:=
 ⟨[],fun _=>(0,0),World.ownsRow_made w #[] 0 hb (by decide) (by simp),by simp;omega,fun _ _ _ h=>absurd h (Nat.not_lt_zero _),fun i h=>absurd h (Nat.not_lt_zero _)⟩
theorem vx.ext {α:Type} {size:Nat} {P:Lie α} (hP:cR P) {e:TypeId} {base m:Nat} {w w':World} {v:Value} {xs:List α} (h:vx size P e base m w v xs) (hx:Ext w w'):vx size P e base m w' v xs:=by
 obtain ⟨cells,f,own,hm,hf,hel⟩:=h
 refine ⟨cells,f,po own hx,Nat.le_trans hm (Below.size hx),hf,fun i hi=>?_⟩
 obtain ⟨ds,d1,d2,d3,d4,d5,d6⟩:=hel i hi
 exact ⟨ds,d1,d2,d3,d4,hP.ext d5 hx,d6⟩
theorem vx.block {α:Type} {size:Nat} {P:Lie α} {e:TypeId} {base m:Nat} {w:World} {v:Value} {xs:List α} (h:vx size P e base m w v xs):∀g,v.ownBlock=some g→base≤g∧g<w.heap.size:=by
 obtain ⟨cells,f,own,hel⟩:=h
 exact own.lt
theorem vx.snoc {α:Type} {size:Nat} {P:Lie α} (hP:cR P) {e:TypeId} {base m:Nat} {w w':World} {v v':Value} {xs:List α} {x:α} {ds:List Value} {l u:Nat} (h:vx size P e base m w v xs) (hd:ds.length=size) (hml:m≤l) (hl:base≤l) (hlu:l≤u) (hu:u≤w.heap.size) (hs:∀g,v.ownBlock=some g→g<l∨u≤g) (hx:P l u w ds x)
 (hr:∀cells,w.ownsRow base e size v xs.length cells→w'.ownsRow base e size v' (xs.length+1) (cells++ds)) (hg:w.grownBy w' v.ownBlock) (hb:v'.ownBlock=v.ownBlock∨v'.ownBlock=some w.heap.size):vx size P e base u w' v' (xs++[x]):=by
 obtain ⟨cells,f,own,hm,hf,hel⟩:=h
 have hk:∀l u,(∀g,v.ownBlock=some g→g<l∨u≤g)→jt l u w w':=fun l u hh b h1 h2 h3=>hg.block b h3 (fun e=>by have:=hh b e.symm;omega)
 have hv':∀l u,u≤w.heap.size→(∀g,v.ownBlock=some g→g<l∨u≤g)→∀g,v'.ownBlock=some g→g<l∨u≤g:=by
  intro l u hh hs g hg'
  rcases hb with hb|hb
  ·exact hs g (by rw [← hb];exact hg')
  ·rw [hb] at hg';cases hg';exact .inr hh
 refine ⟨cells++ds,fun i=>if i<xs.length then f i else (l,u),by rw [List.length_append];exact hr cells own,Nat.le_trans hu hg.size,fun i j h1 h2=>?_,fun i hi=>?_⟩
 ·have h2':j<xs.length+1:=by simpa using h2
  by_cases hj:j<xs.length
  ·simp only [if_pos hj,if_pos (show i<xs.length by omega)];exact hf i j h1 hj
  ·simp only [if_neg hj,if_pos (show i<xs.length by omega)]
   obtain ⟨_,_,_,d3,_⟩:=hel i (by omega)
   show (f i).2≤l
   omega
 ·by_cases hlt:i<xs.length
  ·simp only [if_pos hlt]
   obtain ⟨es,d1,d2,d3,d4,d5,d6⟩:=hel i hlt
   refine ⟨es,d1,d2,by omega,hv' _ _ (by omega) d4,?_,fun t y ht=>?_⟩
   ·rw [List.getElem_append_left hlt];exact hP _ _ _ _ _ _ hg.size (hk _ _ d4) d5
   ·have:=d6 t y ht
    rw [List.getElem?_append_left (by
     rcases Nat.lt_or_ge (i * size+t) cells.length with hh|hh
     ·exact hh
     ·rw [List.getElem?_eq_none hh] at this;cases this)]
    exact this
  ·have ei:i=xs.length:=by simp at hi;omega
   subst ei
   simp only [if_neg (Nat.lt_irrefl _)]
   refine ⟨ds,hd,hl,Nat.le_refl _,hv' l u hu hs,?_,fun t y ht=>?_⟩
   ·rw [List.getElem_append_right (Nat.le_refl _)];simp only [Nat.sub_self,List.getElem_cons_zero];exact hP _ _ _ _ _ _ hg.size (hk l u hs) hx
   ·rw [List.getElem?_append_right (by rw [own.1];omega),own.1,show xs.length * size+t - xs.length * size=t by omega];exact ht
theorem vx.set {α:Type} {size:Nat} {P:Lie α} (hP:cR P) {e:TypeId} {base m B o:Nat} {u:Value} {w:World} {v:Value} {xs:List α} (h:vx size P e base m w v xs) (hB:B<base):vx size P e base m (w.setCell ⟨B,o,none⟩ u) v xs:=by
 obtain ⟨cells,f,own,hm,hf,hel⟩:=h
 have hg:=co (w:=w) B o u
 refine ⟨cells,f,⟨own.1,?_⟩,by simpa using hm,hf,fun i hi=>?_⟩
 ·rcases own.2 with hn|⟨g,cap,cur,rfl,h1,h2,h3⟩
  ·exact .inl hn
  ·refine .inr ⟨g,cap,cur,rfl,h1,?_,h3⟩
   have hl:g<w.heap.size:=by
    by_cases hh:g<w.heap.size
    ·exact hh
    ·rw [Array.getElem?_eq_none (by omega)] at h2;cases h2
   rw [hg.block g hl (by simp;omega)];exact h2
 ·obtain ⟨ds,d1,d2,d3,d4,d5,d6⟩:=hel i hi
  exact ⟨ds,d1,d2,d3,d4,hP.set d5 (.inl (by omega)),d6⟩
theorem SlO.grown {α:Type} {P:Lie α} (hP:cR P) {size lo hi:Nat} {w w':World} {v:Value} {xs:List α} {r:Option Nat} (h:SlO size P lo hi w v xs) (hg:w.grownBy w' r) (hr:∀g,r=some g→g<lo∨hi≤g):SlO size P lo hi w' v xs:=
 h.keepsO hP hg.size (fun b h1 h2 h3=>hg.block b h3 (fun e=>by have:=hr b e.symm;omega))
theorem cR.grown {α:Type} {P:Lie α} (hP:cR P) {lo hi:Nat} {w w':World} {cs:List Value} {x:α} {r:Option Nat} (h:P lo hi w cs x) (hg:w.grownBy w' r) (hr:∀g,r=some g→g<lo∨hi≤g):P lo hi w' cs x:=
 hP _ _ _ _ _ _ hg.size (fun b h1 h2 h3=>hg.block b h3 (fun e=>by have:=hr b e.symm;omega)) h
theorem ey.grown {w w':World} {B:Nat} {cs:List Value} {r:Option Nat} (h:ey w B cs) (hg:w.grownBy w' r) (hr:∀g,r=some g→g≠B):ey w' B cs:=by
 intro j u hj
 obtain ⟨h1,h2⟩:=h j u hj
 have hb:=hg.block B (World.block_lt_of_cell? w ⟨B,j,none⟩ h1) (fun e=>hr B e.symm rfl)
 exact ⟨(World.cell?_of_block hb).trans h1,(World.frozen?_of_block hb).trans h2⟩
variable {P:Program} {w:World}
end Go.Proofs.YtnobdioccfeokaaGreatDoor
namespace Go.Proofs.YtnobdioccfeokaaGreatDoor
open Go.RowKit
set_option linter.unusedVariables false
set_option linter.unusedSimpArgs false
section
variable {P:Program} {ops:Array Oper} {Q:Exit→Act→World→Prop} {md:Region.Mode} {S:World→Prop}
def ql (md:Region.Mode) (ops:Array Oper) (listed:Array Bool):Prop:=
 ∀k ok,ops[k]? = some ok→listed.getD k false=true→∀e∈ok.after,Region.binds md e=true→listed.getD e.on false=true
theorem un {listed:Array Bool} {i:Nat} (h:listed.getD i true=false):listed.getD i false=false:=by
 rcases Nat.lt_or_ge i listed.size with h'|h'
 ·simp [h'] at h ⊢;exact h
 ·simp [Array.getElem?_eq_none h'] at h
theorem o7 {listed:Array Bool} {i j:Nat} (h:(listed.setIfInBounds i true).getD j false=true):j=i∨listed.getD j false=true:=by
 by_cases hij:i=j
 ·exact .inl hij.symm
 ·rw [getD_set_ne false hij] at h;exact .inr h
theorem ow {listed:Array Bool} {i j:Nat} (h:listed.getD j false=true):(listed.setIfInBounds i true).getD j false=true:=by
 by_cases hij:i=j
 ·subst hij
  rcases Nat.lt_or_ge i listed.size with h'|h'
  ·simp [h']
  ·simp [Array.getElem?_eq_none h'] at h
 ·rw [getD_set_ne false hij];exact h
theorem ql.set {listed:Array Bool} {j:Nat} (h:ql md ops listed) (hj:j∈Region.ready md ops listed):ql md ops (listed.setIfInBounds j true):=by
 intro k ok hk hl e he hb
 refine ow ?_
 rcases o7 hl with rfl|hl
 ·obtain ⟨_,o,ho,hall⟩:=mem_ready.1 hj
  rw [hk] at ho;cases ho
  exact hall e he hb
 ·exact h k ok hk hl e he hb
def gy (md:Region.Mode) (ops:Array Oper):Nat→Nat→Nat→Bool
 | 0,_,_=>false
 | f+1,j,i=>match ops[j]? with|none=>false|some o=>o.after.any (fun e=>Region.binds md e && (e.on == i || gy md ops f e.on i))
theorem ni {listed:Array Bool} {i:Nat} (hC:ql md ops listed):∀(f j:Nat) (oj:Oper),ops[j]? = some oj→(∀e∈oj.after,Region.binds md e=true→listed.getD e.on false=true)→gy md ops f j i=true→listed.getD i false=true:=by
 intro f
 induction f with
 | zero=>intro j oj _ _ h;cases h
 | succ f ih=>
  intro j oj hj hall h
  unfold gy at h
  rw [hj] at h
  dsimp only at h
  obtain ⟨k,hk,hb⟩:=Array.any_eq_true.1 h
  simp only [Bool.and_eq_true,Bool.or_eq_true,beq_iff_eq] at hb
  have hm:=Array.getElem_mem hk
  obtain ⟨hb1,hb2⟩:=hb
  have hl:=hall _ hm hb1
  rcases hb2 with hb2|hb2
  ·rw [← hb2];exact hl
  ·cases ho:ops[(oj.after[k]).on]? with
   | none=>
    cases f with
    | zero=>cases hb2
    | succ f=>unfold gy at hb2;rw [ho] at hb2;cases hb2
   | some o2=>exact ih _ o2 ho (hC _ o2 ho hl) hb2
def vm (P:Program) (md:Region.Mode) (ops:Array Oper) (Q:Exit→Act→World→Prop) (S:World→Prop) (L:Nat):Nat→Array Bool→Act→World→Prop
 | 0,listed,a,w=>Region.ready md ops listed = []∧Q .normal a w
 | n+1,listed,a,w=>ql md ops listed→(Region.ready md ops listed = []→Q .normal a w) ∧
  ∀i∈Region.ready md ops listed,wpOp P ops Q i (fun a' w'=>(L≤i∧wpAny P md ops Q n (listed.setIfInBounds i true) a' w')∨(i<L∧S w'∧vm P md ops Q S L n (listed.setIfInBounds i true) a' w')) a w
def jI (P:Program) (md:Region.Mode) (ops:Array Oper) (Q:Exit→Act→World→Prop) (S:World→Prop) (L fuel:Nat) (listed:Array Bool) (a:Act) (w:World) (rs:List Nat):Prop:=
 ∀i∈rs,i<L∧wpOp P ops Q i (fun a' w'=>S w'∧vm P md ops Q S L fuel (listed.setIfInBounds i true) a' w') a w
theorem jI.nil {L fuel:Nat} {listed:Array Bool} {a:Act} {w:World}:jI P md ops Q S L fuel listed a w []:=fun _ h=>by cases h
theorem jI.cons {L fuel:Nat} {listed:Array Bool} {a:Act} {w:World} {i:Nat} {o:Oper} {rs:List Nat} (ho:ops[i]? = some o) (hiL:i<L)
 (h:∀K':Act→World→Prop,Shut (∀a w,S w→(S w→vm P md ops Q S L fuel (listed.setIfInBounds i true) a w)→K' a w)→if Region.wanted o (yielded ops a.tmps)=true then Oper.wp P o a w K' Q else K' (a.put o.dst undef) w)
 (hs:jI P md ops Q S L fuel listed a w rs):jI P md ops Q S L fuel listed a w (i :: rs):=fun j hj=>by
 rcases List.mem_cons.1 hj with rfl|hj
 ·exact ⟨hiL,wpOp_step ho (fun K' hK=>h K' (fun a w hS hW=>hK a w ⟨hS,hW hS⟩))⟩
 ·exact hs j hj
def E0 (md:Region.Mode) (ops:Array Oper):Array Bool→List Nat→Bool
 | listed,[]=>(Region.ready md ops listed).isEmpty
 | listed,i :: l=>(Region.ready md ops listed == [i]) && E0 md ops (listed.setIfInBounds i true) l
theorem ey.drew {w:World} {B:Nat} {cs:List Value} (h:ey w B cs):ey w.drew B cs:=h
end
end Go.Proofs.YtnobdioccfeokaaGreatDoor
namespace Go.Proofs.YtnobdioccfeokaaGreatDoor
open Go.RowKit
set_option linter.unusedVariables false
set_option linter.unusedSimpArgs false
theorem me (b:Nat):∀(vs:List Value) (w:World) (o:Nat),w.setCells b o vs=wN w b o vs:=by
 intro vs
 induction vs with
 | nil=>intro w o;rfl
 | cons v vs ih=>intro w o;exact ih _ _
theorem qg (ds:List Value):∀(w:World) (b k:Nat),w.grownBy (wN w b k ds) (some b):=by
 induction ds with
 | nil=>intro w b k;exact nt _ _
 | cons d ds ih=>intro w b k;exact rq (co b k d) (ih _ b (k+1))
theorem ey.put {k B:Nat} {ds:List Value} {w:World} {cs:List Value} (h:ey w B cs):ey (wN w B k ds) B (ly cs k ds):=by
 induction ds generalizing w k cs with
 | nil=>exact h
 | cons d ds ih=>exact ih (h.set k d)
variable {P:Program}
theorem mV {w:World} {B:Nat} {old:List Value} (hb:ey w B old) (o:Nat) (cs:List Value) (hl:o+cs.length≤old.length) (ty:TypeId) (hi:(P.info? ty).map (·.size)=some cs.length) (h1:cs.all (·.oneCell')=true) :
 ∃w',(Instr.storeAt ty (.pointer (some ⟨B,o,none⟩)) (.agg cs.toArray)).run P w=.ok () w'∧ey w' B (ly old o cs)∧w.grownBy w' (some B)∧w'.heap.size=w.heap.size:=by
 refine ⟨wN w B o cs,?_,hb.put,qg cs w B o,ka _ _ _ _⟩
 rw [run_storeAt_mid w B o ty cs.toArray (fun j hj=>?_) (by simpa using hi) (all_oneCell_toArray (by simpa using h1)),me]
 have hj':o+j<old.length:=by simp at hj;omega
 obtain ⟨h2,h3⟩:=hb (o+j) _ (List.getElem?_eq_getElem hj')
 exact ⟨by rw [h2];rfl,h3⟩
end Go.Proofs.YtnobdioccfeokaaGreatDoor
