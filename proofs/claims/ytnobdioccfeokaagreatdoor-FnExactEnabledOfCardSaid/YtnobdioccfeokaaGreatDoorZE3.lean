/-
  Proved facts that the law leans on.
-/
import Derived.Test.YtnobdioccfeokaaGreatDoorZE2
import Derived.BigQuiet
import Derived.Laws.Tables
namespace Go.Proofs.YtnobdioccfeokaaGreatDoor
open Go.RowKit
set_option linter.unusedVariables false
set_option linter.unusedSimpArgs false
structure Ob where
 eff:Bool
 c:(Nat→Value)→Value
 R:Value→Nat→Nat→World→Prop
def Ob.val (o:Ob) (k:Nat) (vs:Nat→Value):Value:=if o.eff then vs k else o.c vs
def obP (c:(Nat→Value)→Value):Ob:=⟨false,c,fun _ _ _ _=>True⟩
def obE (R:Value→Nat→Nat→World→Prop):Ob:=⟨true,fun _=>undef,R⟩
def CR (D:List Ob) (k:Nat):Ob:=D.getD k (obP fun _=>undef)
section
variable {P:Program} {md:Region.Mode} {ops:Array Oper} {Q:Exit→Act→World→Prop}
def Ed (W:World) (L:Nat) (D:List Ob) (vs:Nat→Value) (l u:Nat→Nat) (w:World):Prop:=
 Ext W w∧(∀j,j<L→(CR D j).eff=true→(CR D j).R (vs j) (l j) (u j) w∧(W.heap.size≤l j∧l j≤u j∧u j≤w.heap.size)) ∧
  ∀i j,i<L→j<L→i≠j→(CR D i).eff=true→(CR D j).eff=true→Off (l i,u i) (l j,u j)
structure JS (md:Region.Mode) (ops:Array Oper) (L:Nat) (fs tail:List Nat):Prop where
 sel:∀(j:Nat) (o:Oper) cs b,ops[j]? = some o→o.op≠.select cs b
 len:L+tail.length≤ops.size
 down:∀k o,ops[k]? = some o→∀e∈o.after,Region.binds md e=true→e.on<k
 al:∀k o,k<L→ops[k]? = some o→∀t∈o.looksAt ops,∀j oj,j<L→ops[j]? = some oj→oj.dst=some t→∃e∈o.after,Region.binds md e=true∧e.on=j
 dsts:∀k o,k<L→ops[k]? = some o→∀j oj d,j<k→ops[j]? = some oj→oj.dst=some d→o.dst≠some d
 till:∀k o,L≤k→ops[k]? = some o→∀i,i<L→i ∉ fs→gy md ops ops.size k i=true
 loose:∀f∈fs,f<L∧∃o t ix,ops[f]? = some o∧o.op=.extract t ix∧∀j oj,f<j→ops[j]? = some oj→(∀e∈oj.after,Region.binds md e=true→e.on≠f)→o.apart ops oj=true
 chain:E0 md ops ((List.range L).foldl (fun a k=>a.setIfInBounds k true) (Array.replicate ops.size false)) tail=true
structure Rep (ops:Array Oper) (L:Nat) (a0:Act) (V:Nat→Value) (p:Nat→Prop) (a:Act):Prop where
 def':a.defers=a0.defers
 size:a.tmps.size=a0.tmps.size
 out:∀t,(∀k o,k<L→ops[k]? = some o→p k→o.dst≠some t)→a.tmps[t]? = a0.tmps[t]?
 at':∀k o t,k<L→ops[k]? = some o→p k→o.dst=some t→t<a0.tmps.size→a.tmps[t]? = some (V k)
variable {L:Nat} {a0:Act} {V:Nat→Value}
theorem Rep.zero:Rep ops L a0 V (fun _=>False) a0:=⟨rfl,rfl,fun _ _=>rfl,fun _ _ _ _ _ h=>h.elim⟩
theorem iZ (a:Act) (d:Option Tmp) (v:Value):(a.put d v).defers=a.defers:=by cases d <;> rfl
theorem Dq (a:Act) (d:Option Tmp) (v:Value):(a.put d v).tmps.size=a.tmps.size:=by cases d <;> simp [Act.put]
theorem Rep.put {fs tail:List Nat} (hF:JS md ops L fs tail) {p:Nat→Prop} {a:Act} (h:Rep ops L a0 V p a) {k:Nat} {o:Oper} (hk:k<L) (ho:ops[k]? = some o) (hn:¬p k):Rep ops L a0 V (fun j=>p j∨j=k) (a.put o.dst (V k)):=by
 have hd:∀j oj d,j<L→ops[j]? = some oj→j≠k→oj.dst=some d→o.dst≠some d:=by
  intro j oj d hj hoj hne hjd hod
  rcases Nat.lt_or_ge j k with h'|h'
  ·exact hF.dsts k o hk ho j oj d h' hoj hjd hod
  ·exact hF.dsts j oj hj hoj k o d (by omega) ho hod hjd
 refine ⟨(iZ _ _ _).trans h.def',(Dq _ _ _).trans h.size,fun t ht=>?_,fun j oj t hj hoj hp hjt hlt=>?_⟩
 ·have h1:=h.out t (fun j oj hj hoj hp=>ht j oj hj hoj (.inl hp))
  have h2:=ht k o hk ho (.inr rfl)
  cases hod:o.dst with
  | none=>exact h1
  | some d=>
   have hne:d≠t:=fun e=>h2 (by rw [hod,e])
   simp only [Act.put,Array.getElem?_setIfInBounds_ne hne]
   exact h1
 ·by_cases hjk:j=k
  ·subst hjk
   rw [ho] at hoj;cases hoj
   rw [hjt]
   simp only [Act.put]
   rw [Array.getElem?_setIfInBounds_self_of_lt (by rw [h.size];exact hlt)]
  ·have hp':p j:=hp.resolve_right hjk
   have h1:=h.at' j oj t hj hoj hp' hjt hlt
   cases hod:o.dst with
   | none=>exact h1
   | some d=>
    have hne:d≠t:=fun e=>hd j oj t hj hoj hjk hjt (by rw [hod,e])
    simp only [Act.put,Array.getElem?_setIfInBounds_ne hne]
    exact h1
theorem qX {a b:Act} (h1:a.defers=b.defers) (h2:∀t:Nat,a.tmps[t]? = b.tmps[t]?):a=b:=by
 obtain ⟨x,y⟩:=a
 obtain ⟨x',y'⟩:=b
 have h3:x=x':=Array.ext_getElem? h2
 have h4:y=y':=h1
 rw [h3,h4]
theorem sF {listed:Array Bool} {i j:Nat} (hi:i<listed.size):(listed.setIfInBounds i true).getD j false=true↔(listed.getD j false=true∨j=i):=by
 constructor
 ·intro h
  exact (o7 h).symm
 ·rintro (h|rfl)
  ·exact ow h
  ·simp [hi]
end
end Go.Proofs.YtnobdioccfeokaaGreatDoor
namespace Go.Proofs.YtnobdioccfeokaaGreatDoor
open Go.RowKit
set_option linter.unusedVariables false
set_option linter.unusedSimpArgs false
def Kn (W:World) (p:World→Prop):Prop:=∀w,Ext W w→p w
theorem Kn.at {W w:World} {p:World→Prop} (h:Kn W p) (hx:Ext W w):p w:=h w hx
theorem Kn.cell {W:World} {q:Addr} {v:Value} {p:World→Prop} (k:Kn W p) (h:W.cell? q=some v):Kn W (fun w=>w.cell? q=some v∧p w):=fun w hx=>⟨hx.keep h,k w hx⟩
theorem Hj.keepsO {α:Type} {P:Lie α} (h:Hj P):cR P:=(ez.ofFlat h).toO
theorem Hj.keeps {α:Type} {P:Lie α} (h:Hj P):ez P:=ez.ofFlat h
section
variable {P:Program} {w:World}
end
def Hx (md:Region.Mode) (ops:Array Oper) (D:List Ob) (k:Nat) (vs:Nat→Value) (l u:Nat→Nat) (w:World):Prop:=∀j,j<k→gy md ops ops.size k j=true→(CR D j).eff=true→(CR D j).R (vs j) (l j) (u j) w
theorem Hx.at {md:Region.Mode} {ops:Array Oper} {D:List Ob} {k:Nat} {vs:Nat→Value} {l u:Nat→Nat} {w:World} (h:Hx md ops D k vs l u w) (j:Nat) {R:Value→Nat→Nat→World→Prop} (hj:CR D j=obE R:=by (simp only [CR,List.nil_append,List.cons_append,List.getD_cons_succ,List.getD_cons_zero] <;> rfl)) (hl:j<k:=by decide) (hr:gy md ops ops.size k j=true:=by kernel_rfl):R (vs j) (l j) (u j) w:=by
 have:=h j hl hr (by rw [hj];rfl)
 rw [hj] at this
 exact this
theorem Ed.at {W:World} {L:Nat} {D:List Ob} {vs:Nat→Value} {l u:Nat→Nat} {w:World} (h:Ed W L D vs l u w) (j:Nat) {R:Value→Nat→Nat→World→Prop} (hj:CR D j=obE R:=by (simp only [CR,List.nil_append,List.cons_append,List.getD_cons_succ,List.getD_cons_zero] <;> rfl)) (hl:j<L:=by decide):R (vs j) (l j) (u j) w∧W.heap.size≤l j∧l j≤u j∧u j≤w.heap.size:=by
 have:=h.2.1 j hl (by rw [hj];rfl)
 rw [hj] at this
 exact this
theorem Ed.ext {W:World} {L:Nat} {D:List Ob} {vs:Nat→Value} {l u:Nat→Nat} {w:World} (h:Ed W L D vs l u w):Ext W w:=h.1
section
variable {P:Program} {md:Region.Mode} {ops:Array Oper} {W:World} {Fin:List Ob→((Nat→Value)→Act)→Prop} {m:Nat} {D:List Ob} {A A':(Nat→Value)→Act} {o:Oper}
end
end Go.Proofs.YtnobdioccfeokaaGreatDoor
namespace Go.Proofs.YtnobdioccfeokaaGreatDoor
open Go.RowKit
set_option linter.unusedVariables false
set_option linter.unusedSimpArgs false
variable {P:Program} {w:World}
end Go.Proofs.YtnobdioccfeokaaGreatDoor
