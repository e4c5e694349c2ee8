/-
  Plain facts and facts on memory that the walks lean on.
-/
import Derived.Test.YtccjepndhlobpaaGreatDoorB2
import Derived.Test.YtccjepndhlobpaaGreatDoorB0
import Derived.BigQuiet
/-
  A region that draws its order: operations that only add to the world may come in whatever order.
-/
namespace Go.Proofs.YtccjepndhlobpaaGreatDoor
open Go.RowKit
set_option linter.unusedVariables false
set_option linter.unusedSimpArgs false
/-- What is known of an operation: its value, or a fact that stays while the world grows. -/
structure Ob where
 eff:Bool
 c:(Nat→Value)→Value
 R:Value→Nat→Nat→World→Prop
def Ob.val (o:Ob) (k:Nat) (vs:Nat→Value):Value:=if o.eff then vs k else o.c vs
def obP (c:(Nat→Value)→Value):Ob:=⟨false,c,fun _ _ _ _=>True⟩
def obE (R:Value→Nat→Nat→World→Prop):Ob:=⟨true,fun _=>undef,R⟩
def obAt (D:List Ob) (k:Nat):Ob:=D.getD k (obP fun _=>undef)
def Stays (R:Value→Nat→Nat→World→Prop):Prop:=∀v l u w w',R v l u w→Ext w w'→R v l u w'
section
variable {P:Program} {md:Region.Mode} {ops:Array Oper} {Q:Exit→Act→World→Prop}
def StepOk (P:Program) (md:Region.Mode) (ops:Array Oper) (W:World) (D:List Ob) (A:(Nat→Value)→Act) (k:Nat) (o:Oper) (b:Ob):Prop:=
 ∀(vs:Nat→Value) (l u:Nat→Nat) (w:World),Ext W w→(∀j,j<k→reachB md ops ops.size k j=true→(obAt D j).eff=true→(obAt D j).R (vs j) (l j) (u j) w) →
  (b.eff=true∧Region.wanted o (yielded ops (A vs).tmps)=true∧Oper.wp P o (A vs) w (fun a' w'=>∃v,a'=(A vs).put o.dst v∧Ext w w'∧b.R v w.heap.size w'.heap.size w') (fun _ _ _=>False)) ∨
  (b.eff=false∧((Region.wanted o (yielded ops (A vs).tmps)=true∧(execOp (A vs).eval o).run P w=.ok (.value (b.c vs)) w)∨(Region.wanted o (yielded ops (A vs).tmps)=false∧b.c vs=undef)))
/-- All operations from the list's length on are told one by one. -/
def Obl (P:Program) (md:Region.Mode) (ops:Array Oper) (W:World) (Fin:List Ob→((Nat→Value)→Act)→Prop):Nat→List Ob→((Nat→Value)→Act)→Prop
 | 0,D,A=>Fin D A
 | m+1,D,A=>∃o b A',ops[D.length]? = some o∧Stays b.R∧StepOk P md ops W D A D.length o b∧(∀vs,(A vs).put o.dst (b.val D.length vs)=A' vs)∧Obl P md ops W Fin m (D++[b]) A'
/-- What is known behind all of them. -/
def Known (W:World) (L:Nat) (D:List Ob) (vs:Nat→Value) (l u:Nat→Nat) (w:World):Prop:=
 Ext W w∧(∀j,j<L→(obAt D j).eff=true→(obAt D j).R (vs j) (l j) (u j) w∧(W.heap.size≤l j∧l j≤u j∧u j≤w.heap.size)) ∧
  ∀i j,i<L→j<L→i≠j→(obAt D i).eff=true→(obAt D j).eff=true→Off (l i,u i) (l j,u j)
def FinOk (P:Program) (ops:Array Oper) (Q:Exit→Act→World→Prop) (W:World) (L:Nat) (tail:List Nat) (D:List Ob) (A:(Nat→Value)→Act):Prop:=
 ∀vs l u w,Known W L D vs l u w→wpList P ops Q (picked ops tail) (A vs) w
/-- The region's own form, to be decided. -/
def formAt (md:Region.Mode) (ops:Array Oper) (L:Nat) (fs:List Nat) (k:Nat) (o:Oper):Bool:=
 o.after.all (fun e=>!Region.binds md e || decide (e.on<k)) &&
 (decide (L≤k) || ((o.looksAt ops).all (fun t=>(List.range L).all (fun j=>!(((ops[j]?).bind (·.dst)) == some t) || o.after.any (fun e=>Region.binds md e && (e.on == j)))) &&
   (List.range k).all (fun j=>((ops[j]?).bind (·.dst)).isNone || !(o.dst == ((ops[j]?).bind (·.dst)))))) &&
 (decide (k<L) || (List.range L).all (fun i=>fs.contains i || reachB md ops ops.size k i))
/-- A loose operation: what it takes out of a tuple is looked at only by operations that wait for it. -/
def looseAt (md:Region.Mode) (ops:Array Oper) (L f:Nat):Bool:=
 decide (f<L) && ((ops[f]?).map fun o=>(match o.op with | .extract _ _=>true|_=>false) &&
  (List.range ops.size).all fun j=>decide (j≤f) || ((ops[j]?).map fun oj=>oj.after.any (fun e=>Region.binds md e && (e.on == f)) || o.apart ops oj).getD true).getD false
def formB (md:Region.Mode) (ops:Array Oper) (L:Nat) (fs tail:List Nat):Bool:=
 (Region.noSelect ops && fs.all (looseAt md ops L)) && (decide (L+tail.length≤ops.size) && ((List.range ops.size).all (fun k=>((ops[k]?).map (formAt md ops L fs k)).getD true) &&
 chainB md ops ((List.range L).foldl (fun a k=>a.setIfInBounds k true) (Array.replicate ops.size false)) tail))
structure Form (md:Region.Mode) (ops:Array Oper) (L:Nat) (fs tail:List Nat):Prop where
 sel:∀(j:Nat) (o:Oper) cs b,ops[j]? = some o→o.op≠.select cs b
 len:L+tail.length≤ops.size
 down:∀k o,ops[k]? = some o→∀e∈o.after,Region.binds md e=true→e.on<k
 look:∀k o,k<L→ops[k]? = some o→∀t∈o.looksAt ops,∀j oj,j<L→ops[j]? = some oj→oj.dst=some t→∃e∈o.after,Region.binds md e=true∧e.on=j
 dsts:∀k o,k<L→ops[k]? = some o→∀j oj d,j<k→ops[j]? = some oj→oj.dst=some d→o.dst≠some d
 till:∀k o,L≤k→ops[k]? = some o→∀i,i<L→i ∉ fs→reachB md ops ops.size k i=true
 loose:∀f∈fs,f<L∧∃o t ix,ops[f]? = some o∧o.op=.extract t ix∧∀j oj,f<j→ops[j]? = some oj→(∀e∈oj.after,Region.binds md e=true→e.on≠f)→o.apart ops oj=true
 chain:chainB md ops ((List.range L).foldl (fun a k=>a.setIfInBounds k true) (Array.replicate ops.size false)) tail=true
theorem formB_form {L:Nat} {fs tail:List Nat} (h:formB md ops L fs tail=true):Form md ops L fs tail:=by
 unfold formB at h
 rw [Bool.and_eq_true,Bool.and_eq_true,Bool.and_eq_true,Bool.and_eq_true,decide_eq_true_eq] at h
 obtain ⟨⟨h1,h0⟩,h2,h3,h4⟩:=h
 have key:∀k o,ops[k]? = some o→formAt md ops L fs k o=true:=fun k o hk=>by
  have:=List.all_eq_true.1 h3 k (List.mem_range.2 (Array.getElem?_eq_some_iff.1 hk).1)
  rw [hk] at this
  simpa using this
 have key2:=fun k o hk=>by
  have:=key k o hk
  unfold formAt at this
  rw [Bool.and_eq_true,Bool.and_eq_true,Bool.or_eq_true,Bool.or_eq_true,Bool.and_eq_true,decide_eq_true_eq,decide_eq_true_eq] at this
  exact this
 refine ⟨Region.noSelect_spec h1,h2,fun k o hk e he hb=>?_,fun k o hL hk t ht j oj hj hoj hd=>?_,fun k o hL hk j oj d hj hoj hd=>?_,fun k o hL hk i hi hn=>?_,fun f hf=>?_,h4⟩
 ·have:=Array.all_eq_true_iff_forall_mem.1 (key2 k o hk).1.1 e he
  simpa [hb] using this
 ·have h5:=(key2 k o hk).1.2.resolve_left (by omega)
  have h6:=List.all_eq_true.1 (List.all_eq_true.1 h5.1 t ht) j (List.mem_range.2 hj)
  rw [hoj] at h6
  simp only [Option.bind_some,hd,beq_self_eq_true,Bool.not_true,Bool.false_or] at h6
  obtain ⟨i,hi,he⟩:=Array.any_eq_true.1 h6
  simp only [Bool.and_eq_true,beq_iff_eq] at he
  exact ⟨_,Array.getElem_mem hi,he.1,he.2⟩
 ·have h5:=(key2 k o hk).1.2.resolve_left (by omega)
  have h6:=List.all_eq_true.1 h5.2 j (List.mem_range.2 hj)
  rw [hoj] at h6
  simp only [Option.bind_some,hd] at h6
  intro e
  rw [e] at h6
  simp at h6
 ·have h5:=(key2 k o hk).2.resolve_left (by omega)
  have h6:=List.all_eq_true.1 h5 i (List.mem_range.2 hi)
  rw [Bool.or_eq_true] at h6
  exact h6.resolve_left (fun h=>hn (by simpa using h))
 ·have h5:=List.all_eq_true.1 h0 f hf
  unfold looseAt at h5
  rw [Bool.and_eq_true,decide_eq_true_eq] at h5
  refine ⟨h5.1,?_⟩
  cases ho:ops[f]? with
  | none=>rw [ho] at h5;exact absurd h5.2 (by simp)
  | some o=>
   rw [ho] at h5
   simp only [Option.map_some,Option.getD_some,Bool.and_eq_true] at h5
   obtain ⟨_,h6,h7⟩:=h5
   split at h6
   ·rename_i t ix hop
    refine ⟨o,t,ix,rfl,hop,fun j oj hj hoj hno=>?_⟩
    have h8:=List.all_eq_true.1 h7 j (List.mem_range.2 (Array.getElem?_eq_some_iff.1 hoj).1)
    rw [hoj] at h8
    simp only [Option.map_some,Option.getD_some,Bool.or_eq_true,decide_eq_true_eq] at h8
    rcases h8 with h8|h8|h8
    ·omega
    ·obtain ⟨i,hi,he⟩:=Array.any_eq_true.1 h8
     simp only [Bool.and_eq_true,beq_iff_eq] at he
     exact absurd he.2 (hno _ (Array.getElem_mem hi) he.1)
    ·exact h8
   ·cases h6
/-- How a frame has come from another one: which values lie in which slots. -/
structure Rep (ops:Array Oper) (L:Nat) (a0:Act) (V:Nat→Value) (p:Nat→Prop) (a:Act):Prop where
 def':a.defers=a0.defers
 size:a.tmps.size=a0.tmps.size
 out:∀t,(∀k o,k<L→ops[k]? = some o→p k→o.dst≠some t)→a.tmps[t]? = a0.tmps[t]?
 at':∀k o t,k<L→ops[k]? = some o→p k→o.dst=some t→t<a0.tmps.size→a.tmps[t]? = some (V k)
variable {L:Nat} {a0:Act} {V:Nat→Value}
theorem Rep.zero:Rep ops L a0 V (fun _=>False) a0:=⟨rfl,rfl,fun _ _=>rfl,fun _ _ _ _ _ h=>h.elim⟩
theorem put_defers (a:Act) (d:Option Tmp) (v:Value):(a.put d v).defers=a.defers:=by cases d <;> rfl
theorem put_size (a:Act) (d:Option Tmp) (v:Value):(a.put d v).tmps.size=a.tmps.size:=by cases d <;> simp [Act.put]
theorem Rep.put {fs tail:List Nat} (hF:Form md ops L fs tail) {p:Nat→Prop} {a:Act} (h:Rep ops L a0 V p a) {k:Nat} {o:Oper} (hk:k<L) (ho:ops[k]? = some o) (hn:¬p k):Rep ops L a0 V (fun j=>p j∨j=k) (a.put o.dst (V k)):=by
 have hd:∀j oj d,j<L→ops[j]? = some oj→j≠k→oj.dst=some d→o.dst≠some d:=by
  intro j oj d hj hoj hne hjd hod
  rcases Nat.lt_or_ge j k with h'|h'
  ·exact hF.dsts k o hk ho j oj d h' hoj hjd hod
  ·exact hF.dsts j oj hj hoj k o d (by omega) ho hod hjd
 refine ⟨(put_defers _ _ _).trans h.def',(put_size _ _ _).trans h.size,fun t ht=>?_,fun j oj t hj hoj hp hjt hlt=>?_⟩
 ·have h1:=h.out t (fun j oj hj hoj hp=>ht j oj hj hoj (.inl hp))
  have h2:=ht k o hk ho (.inr rfl)
  cases hod:o.dst with
  | none=>exact h1
  | some d=>
   have hne:d≠t:=fun e=>h2 (by rw [hod,e])
   simp only [Act.put,Array.getElem?_setIfInBounds_ne hne]
   exact h1
 ·by_cases hjk:j=k
  ·subst hjk
   rw [ho] at hoj;cases hoj
   rw [hjt]
   simp only [Act.put]
   rw [Array.getElem?_setIfInBounds_self_of_lt (by rw [h.size];exact hlt)]
  ·have hp':p j:=hp.resolve_right hjk
   have h1:=h.at' j oj t hj hoj hp' hjt hlt
   cases hod:o.dst with
   | none=>exact h1
   | some d=>
    have hne:d≠t:=fun e=>hd j oj t hj hoj hjk hjt (by rw [hod,e])
    simp only [Act.put,Array.getElem?_setIfInBounds_ne hne]
    exact h1
theorem Rep.congr {V':Nat→Value} {p:Nat→Prop} {a:Act} (h:Rep ops L a0 V p a) (hV:∀k,k<L→p k→V k=V' k):Rep ops L a0 V' p a:=
 ⟨h.def',h.size,h.out,fun k o t hk ho hp hd hlt=>by rw [← hV k hk hp];exact h.at' k o t hk ho hp hd hlt⟩
theorem Rep.iff {p q:Nat→Prop} {a:Act} (h:Rep ops L a0 V p a) (hpq:∀k,k<L→(p k↔q k)):Rep ops L a0 V q a:=
 ⟨h.def',h.size,fun t ht=>h.out t (fun k o hk ho hp=>ht k o hk ho ((hpq k hk).1 hp)),fun k o t hk ho hp hd hlt=>h.at' k o t hk ho ((hpq k hk).2 hp) hd hlt⟩
/-- Two frames agree in a slot. -/
theorem Rep.slot {V':Nat→Value} {p q:Nat→Prop} {a b:Act} (ha:Rep ops L a0 V p a) (hb:Rep ops L a0 V' q b) (t:Nat) (h:∀k o,k<L→ops[k]? = some o→o.dst=some t→(p k∧q k∧V k=V' k)∨(¬p k∧¬q k)):a.tmps[t]? = b.tmps[t]?:=by
 by_cases hx:∃k o,k<L∧ops[k]? = some o∧o.dst=some t∧p k
 ·obtain ⟨k,o,hk,ho,hd,hp⟩:=hx
  rcases h k o hk ho hd with ⟨_,hq,hv⟩|⟨hn,_⟩
  ·by_cases hlt:t<a0.tmps.size
   ·rw [ha.at' k o t hk ho hp hd hlt,hb.at' k o t hk ho hq hd hlt,hv]
   ·rw [Array.getElem?_eq_none (by rw [ha.size];omega),Array.getElem?_eq_none (by rw [hb.size];omega)]
  ·exact absurd hp hn
 ·rw [ha.out t (fun k o hk ho hp hd=>hx ⟨k,o,hk,ho,hd,hp⟩),hb.out t (fun k o hk ho hq hd=>?_)]
  rcases h k o hk ho hd with ⟨hp,_⟩|⟨_,hn⟩
  ·exact hx ⟨k,o,hk,ho,hd,hp⟩
  ·exact hn hq
theorem act_ext {a b:Act} (h1:a.defers=b.defers) (h2:∀t:Nat,a.tmps[t]? = b.tmps[t]?):a=b:=by
 obtain ⟨x,y⟩:=a
 obtain ⟨x',y'⟩:=b
 have h3:x=x':=Array.ext_getElem? h2
 have h4:y=y':=h1
 rw [h3,h4]
theorem exec_same {o:Oper} {a b:Act} (hs:∀cs b,o.op≠.select cs b) (h:∀t∈o.looksAt ops,a.tmps[t]? = b.tmps[t]?):execOp a.eval o=execOp b.eval o:=by
 refine execOp_congr o hs fun x hx=>?_
 cases x with
 | tmp t=>
  have:t∈o.looksAt ops:=List.mem_append_left _ (List.mem_filterMap.2 ⟨.tmp t,by simpa using hx,rfl⟩)
  have:=h t this
  simp only [Act.eval,Array.getD_eq_getD_getElem?,this]
 | _=>rfl
theorem wanted_same {o:Oper} {a b:Act} (h:∀t∈o.looksAt ops,a.tmps[t]? = b.tmps[t]?):Region.wanted o (yielded ops a.tmps)=Region.wanted o (yielded ops b.tmps):=by
 unfold Region.wanted
 cases hg:o.guard with
 | none=>rfl
 | some gw=>
  obtain ⟨g,want⟩:=gw
  have:yielded ops a.tmps g=yielded ops b.tmps g:=by
   unfold yielded
   cases ht:(ops[g]?).bind (·.dst) with
   | none=>rfl
   | some t=>
    have:=h t (by simp [Oper.looksAt,hg,ht])
    simp only [Option.bind_some,this]
  simp only [this]
theorem put_cancel {a b:Act} {d:Option Tmp} {u v:Value} (hs:a.tmps.size=b.tmps.size) (h:b.put d u=b.put d v):a.put d u=a.put d v:=by
 cases d with
 | none=>rfl
 | some t=>
  simp only [Act.put,Act.mk.injEq,and_true] at h ⊢
  by_cases ht:t<b.tmps.size
  ·have:=congrArg (fun x=>x[t]?) h
   simp only [Array.getElem?_setIfInBounds_self_of_lt ht,Option.some.injEq] at this
   rw [this]
  ·have h1:a.tmps.size≤t:=by rw [hs];exact Nat.le_of_not_lt ht
   rw [Array.setIfInBounds_eq_of_size_le h1,Array.setIfInBounds_eq_of_size_le h1]
theorem wp_transport {o:Oper} {a b:Act} {w:World} {T:Value→World→Prop} (he:execOp a.eval o=execOp b.eval o) (hs:a.tmps.size=b.tmps.size) (h:Oper.wp P o b w (fun a' w'=>∃v,a'=b.put o.dst v∧T v w') (fun _ _ _=>False)):Oper.wp P o a w (fun a' w'=>∃v,a'=a.put o.dst v∧T v w') Q:=by
 unfold Oper.wp at *
 rw [he]
 generalize (execOp b.eval o).run P w=r at *
 cases r with
 | ok n w'=>
  cases n <;> simp only [Oper.upon] at h ⊢
  case value u=>
   obtain ⟨v,h1,h2⟩:=h
   exact ⟨v,put_cancel hs h1,h2⟩
  case skip=>
   obtain ⟨v,h1,h2⟩:=h
   exact ⟨v,put_cancel hs h1,h2⟩
  case defer d=>
   obtain ⟨v,h1,h2⟩:=h
   have:=congrArg Act.defers h1
   rw [put_defers,put_defers] at this
   have:=congrArg List.length this
   simp at this
  case enter f args=>
   refine Calls.mono h fun e w'' he=>?_
   cases e with
   | returned u=>
    obtain ⟨v,h1,h2⟩:=he
    exact ⟨v,put_cancel hs h1,h2⟩
   | panicked c=>exact he.elim
    | outgrown=>exact (let ⟨_,_,h⟩:=he;h.elim)
  case row row args=>
   exact Rows.mono h fun u w'' he=>by
    obtain ⟨v,h1,h2⟩:=he
    exact ⟨v,put_cancel hs h1,h2⟩
 | halt x w'=>
  cases x <;> simp only [Oper.upon] at h ⊢
theorem obl_all {W:World} {Fin:List Ob→((Nat→Value)→Act)→Prop}:∀(m:Nat) (D:List Ob) (A:(Nat→Value)→Act),Obl P md ops W Fin m D A →
 ∃(DF:List Ob) (B:Nat→(Nat→Value)→Act),(∀k,k<D.length→obAt DF k=obAt D k)∧B D.length=A∧Fin DF (B (D.length+m)) ∧
  ∀k,D.length≤k→k<D.length+m→∃o,ops[k]? = some o∧Stays (obAt DF k).R∧StepOk P md ops W DF (B k) k o (obAt DF k)∧∀vs,B (k+1) vs=(B k vs).put o.dst ((obAt DF k).val k vs):=by
 intro m
 induction m with
 | zero=>exact fun D A h=>⟨D,fun _=>A,fun _ _=>rfl,rfl,h,fun k h1 h2=>by omega⟩
 | succ m ih=>
  intro D A h
  obtain ⟨o,b,A',ho,hs,hk,hA,h⟩:=h
  obtain ⟨DF,B,h1,h2,h3,h4⟩:=ih _ _ h
  simp only [List.length_append,List.length_cons,List.length_nil] at h1 h2 h3 h4
  have hb:obAt DF D.length=b:=by
   rw [h1 _ (by omega)]
   simp [obAt]
  have hlt:∀k,k<D.length→obAt DF k=obAt D k:=fun k hk=>by
   rw [h1 k (by omega)]
   simp [obAt,List.getElem?_append_left hk]
  refine ⟨DF,fun k=>if k=D.length then A else B k,hlt,if_pos rfl,?_,fun k k1 k2=>?_⟩
  ·dsimp only
   rw [if_neg (by omega),show D.length+(m+1)=D.length+(0+1)+m by omega]
   exact h3
  ·by_cases e:k=D.length
   ·subst e
    refine ⟨o,ho,by rw [hb];exact hs,?_,fun vs=>?_⟩
    ·simp only [if_pos]
     rw [hb]
     exact fun vs l u w hx hf=>hk vs l u w hx (fun j j1 j2=>by rw [← hlt j j1];exact hf j j1 j2)
    ·simp only [if_pos]
     rw [if_neg (by omega),hb,hA]
     exact congrFun h2 vs
   ·obtain ⟨o',g1,g2,g3,g4⟩:=h4 k (by omega) (by omega)
    refine ⟨o',g1,g2,?_,fun vs=>?_⟩
    ·dsimp only;rw [if_neg e];exact g3
    ·dsimp only;rw [if_neg e,if_neg (by omega)];exact g4 vs
theorem getD_flip2 {listed:Array Bool} {i:Nat} (h:listed.getD i true=false):listed.getD i false≠true:=by rw [getD_flip h];simp
theorem marks (n:Nat):∀L:Nat,((List.range L).foldl (fun a k=>a.setIfInBounds k true) (Array.replicate n false)).size=n∧∀k,k<n→((List.range L).foldl (fun a k=>a.setIfInBounds k true) (Array.replicate n false)).getD k false=decide (k<L):=by
 intro L
 induction L with
 | zero=>exact ⟨by simp,fun k hk=>by simp [hk]⟩
 | succ L ih=>
  rw [List.range_succ,List.foldl_append,List.foldl_cons,List.foldl_nil]
  refine ⟨by rw [Array.size_setIfInBounds];exact ih.1,fun k hk=>?_⟩
  by_cases e:L=k
  ·subst e
   simp only [Array.getD_eq_getD_getElem?]
   rw [Array.getElem?_setIfInBounds_self_of_lt (by rw [ih.1];exact hk)]
   simp
  ·rw [getD_set_ne false e,ih.2 k hk]
   exact decide_eq_decide.2 (by omega)
theorem marks_eq {n L:Nat} {ls:Array Bool} (hs:ls.size=n) (h1:∀k,k<L→ls.getD k false=true) (h2:∀k,L≤k→ls.getD k false=false):ls=(List.range L).foldl (fun a k=>a.setIfInBounds k true) (Array.replicate n false):=by
 obtain ⟨g1,g2⟩:=marks n L
 refine Array.ext (by rw [hs,g1]) fun k k1 k2=>?_
 have e1:ls.getD k false=ls[k]:=by simp [Array.getD,k1]
 have e2:=g2 k (by omega)
 have e3:((List.range L).foldl (fun a k=>a.setIfInBounds k true) (Array.replicate n false)).getD k false=((List.range L).foldl (fun a k=>a.setIfInBounds k true) (Array.replicate n false))[k]:=by simp [Array.getD,k2]
 rw [← e1,← e3,e2]
 by_cases hk:k<L
 ·rw [h1 k hk,decide_eq_true hk]
 ·rw [h2 k (by omega),decide_eq_false hk]
theorem getD_set_iff {listed:Array Bool} {i j:Nat} (hi:i<listed.size):(listed.setIfInBounds i true).getD j false=true↔(listed.getD j false=true∨j=i):=by
 constructor
 ·intro h
  exact (getD_set_or h).symm
 ·rintro (h|rfl)
  ·exact getD_set_up h
  ·simp [hi]
/-- Values that differ only where nothing has come up. -/
theorem val_same {W:World} {fs tail:List Nat} (hF:Form md ops L fs tail) {D:List Ob} {B:Nat→(Nat→Value)→Act}
 (repB:∀vs k,k≤L→Rep ops L a0 (fun k=>(obAt D k).val k vs) (fun j=>j<k) (B k vs))
 (hst:∀k,k<L→∃o,ops[k]? = some o∧Stays (obAt D k).R∧StepOk P md ops W D (B k) k o (obAt D k)∧∀vs,B (k+1) vs=(B k vs).put o.dst ((obAt D k).val k vs))
 {ls:Array Bool} {w:World} {vs vs':Nat→Value} {l u:Nat→Nat} (hC:Closed md ops ls) (hX:Ext W w) (hv:∀j,ls.getD j false=true→vs j=vs' j)
 (hK:∀j,j<L→ls.getD j false=true→(obAt D j).eff=true→(obAt D j).R (vs j) (l j) (u j) w) :
 ∀n k,k<n→k<L→ls.getD k false=true→(obAt D k).val k vs=(obAt D k).val k vs':=by
 intro n
 induction n with
 | zero=>intro k h;omega
 | succ n ih=>
  intro k hkn hk hlk
  obtain ⟨o,ho,_,h3,_⟩:=hst k hk
  have hanc:∀j,reachB md ops ops.size k j=true→ls.getD j false=true:=fun j hj=>reach_listed hC _ k o ho (hC k o ho hlk) hj
  have f1:∀j,j<k→reachB md ops ops.size k j=true→(obAt D j).eff=true→(obAt D j).R (vs j) (l j) (u j) w:=fun j j1 j2 j3=>hK j (by omega) (hanc j j2) j3
  have f2:∀j,j<k→reachB md ops ops.size k j=true→(obAt D j).eff=true→(obAt D j).R (vs' j) (l j) (u j) w:=fun j j1 j2 j3=>by rw [← hv j (hanc j j2)];exact f1 j j1 j2 j3
  have hsl:∀t∈o.looksAt ops,(B k vs).tmps[t]? = (B k vs').tmps[t]?:=fun t ht=>(repB vs k (by omega)).slot (repB vs' k (by omega)) t fun j oj hj hoj hd=>by
   obtain ⟨e,he,hb,rfl⟩:=hF.look k o hk ho t ht j oj hj hoj hd
   have hlt:=hF.down k o ho e he hb
   exact .inl ⟨hlt,hlt,ih _ (by omega) hj (hC k o ho hlk e he hb)⟩
  have q1:=h3 vs l u w hX f1
  have q2:=h3 vs' l u w hX f2
  unfold Ob.val
  rcases q1 with ⟨e1,_⟩|⟨e1,q1⟩
  ·rw [if_pos e1,if_pos e1];exact hv k hlk
  ·rcases q2 with ⟨e2,_⟩|⟨_,q2⟩
   ·rw [e1] at e2;cases e2
   ·rw [e1]
    have hw:=wanted_same (ops:=ops) hsl
    have hx:=exec_same (ops:=ops) (hF.sel k o · · ho) hsl
    rcases q1 with ⟨w1,q1⟩|⟨w1,q1⟩
    ·rcases q2 with ⟨w2,q2⟩|⟨w2,q2⟩
     ·rw [hx,q2] at q1
      simp at q1 ⊢
      exact q1.symm
     ·rw [hw,w2] at w1;cases w1
    ·rcases q2 with ⟨w2,q2⟩|⟨w2,q2⟩
     ·rw [hw,w2] at w1;cases w1
     ·simp [q1,q2]
theorem extract_quiet {o:Oper} {ρ:Operand→Value} {t:Operand} {ix:Nat} (ho:o.op=.extract t ix) {v:Value} {w w2:World} (h:(execOp ρ o).run P w=.ok (.value v) w):(execOp ρ o).run P w2=.ok (.value v) w2:=by
 unfold execOp at h ⊢
 simp only [ho] at h ⊢
 unfold Instr.extract at h ⊢
 generalize ρ t=x at h ⊢
 cases x
 case tuple vs=>cases hv:vs[ix]? <;> simp_all [go_sem]
 all_goals simp_all [go_sem]
theorem mono_main {W:World} {fs tail:List Nat} (hF:Form md ops L fs tail) (D:List Ob) (hE:∀f∈fs,(obAt D f).eff=false) (hQ:fs≠[]→∀c a d v w,Q (.panic c) (Act.put a d v) w→Q (.panic c) a w) (B:Nat→(Nat→Value)→Act) (hB0:∀vs,B 0 vs=a0)
 (hst:∀k,k<L→∃o,ops[k]? = some o∧Stays (obAt D k).R∧StepOk P md ops W D (B k) k o (obAt D k)∧∀vs,B (k+1) vs=(B k vs).put o.dst ((obAt D k).val k vs))
 (hfin:FinOk P ops Q W L tail D (B L)):∀(fuel:Nat) (ls:Array Bool) (a:Act) (w:World) (vs:Nat→Value) (l u:Nat→Nat) (S:List Nat),S.length+tail.length≤fuel→(∀k,k<L→ls.getD k false=false→k∈S) →
  ls.size=ops.size→(∀k,L≤k→ls.getD k false=false)→Closed md ops ls→Ext W w→Rep ops L a0 (fun k=>(obAt D k).val k vs) (fun k=>ls.getD k false=true) a →
  (∀j,j<L→ls.getD j false=true→(obAt D j).eff=true→(obAt D j).R (vs j) (l j) (u j) w∧(W.heap.size≤l j∧l j≤u j∧u j≤w.heap.size)) →
  (∀i j,i<L→j<L→i≠j→ls.getD i false=true→ls.getD j false=true→(obAt D i).eff=true→(obAt D j).eff=true→Off (l i,u i) (l j,u j))→wpAny P md ops Q fuel ls a w:=by
 have hLn:L≤ops.size:=by have:=hF.len;omega
 have repB:∀vs k,k≤L→Rep ops L a0 (fun k=>(obAt D k).val k vs) (fun j=>j<k) (B k vs):=by
  intro vs k
  induction k with
  | zero=>exact fun _=>by rw [hB0];exact Rep.zero.iff (fun j _=>⟨fun h=>h.elim,fun h=>by omega⟩)
  | succ k ih=>
   intro hk
   obtain ⟨o,ho,_,_,h4⟩:=hst k (by omega)
   rw [h4]
   exact ((ih (by omega)).put hF (by omega) ho (Nat.lt_irrefl _)).iff (fun j _=>by omega)
 have last:∀(fuel:Nat) (ls:Array Bool) (a:Act) (w:World) (vs:Nat→Value) (l u:Nat→Nat),tail.length≤fuel→ls.size=ops.size→(∀k,L≤k→ls.getD k false=false)→Ext W w→Rep ops L a0 (fun k=>(obAt D k).val k vs) (fun k=>ls.getD k false=true) a →
  (∀j,j<L→ls.getD j false=true→(obAt D j).eff=true→(obAt D j).R (vs j) (l j) (u j) w∧(W.heap.size≤l j∧l j≤u j∧u j≤w.heap.size)) →
  (∀i j,i<L→j<L→i≠j→ls.getD i false=true→ls.getD j false=true→(obAt D i).eff=true→(obAt D j).eff=true→Off (l i,u i) (l j,u j))→(∀k,k<L→ls.getD k false=true)→wpAny P md ops Q fuel ls a w:=by
  intro fuel ls a w vs l u hf hsz hhi hX hR hK hO hall
  have e:a=B L vs:=act_ext ((hR.def').trans (repB vs L (Nat.le_refl _)).def'.symm) (fun t=>hR.slot (repB vs L (Nat.le_refl _)) t (fun k o hk _ _=>.inl ⟨hall k hk,hk,rfl⟩))
  rw [e,marks_eq hsz hall hhi]
  exact wpAny_list tail fuel _ _ _ hf hF.chain (hfin vs l u w ⟨hX,fun j hj=>hK j hj (hall j hj),fun i j hi hj hne h1 h2=>hO i j hi hj hne (hall i hi) (hall j hj) h1 h2⟩)
 intro fuel
 induction fuel with
 | zero=>
  intro ls a w vs l u S hS hSm hsz hhi hC hX hR hK hO
  refine last 0 ls a w vs l u (by omega) hsz hhi hX hR hK hO fun k hk=>?_
  cases h:ls.getD k false with
  | true=>rfl
  | false=>
   have h1:=List.length_pos_of_mem (hSm k hk h)
   omega
 | succ fuel ih=>
  intro ls a w vs l u S hS hSm hsz hhi hC hX hR hK hO
  by_cases hall:∀k,k<L→ls.getD k false=true
  ·exact last _ ls a w vs l u (by omega) hsz hhi hX hR hK hO hall
  have hex:∃k,k<L∧ls.getD k false=false∧∀j,j<k→ls.getD j false=true:=by
   have:∀n,n≤L→(∀j,j<n→ls.getD j false=true)∨∃k,k<L∧ls.getD k false=false∧∀j,j<k→ls.getD j false=true:=by
    intro n
    induction n with
    | zero=>exact fun _=>.inl fun j hj=>by omega
    | succ n ihn=>
     intro hn
     rcases ihn (by omega) with h|h
     ·cases hl:ls.getD n false with
      | true=>
       refine .inl fun j hj=>?_
       by_cases e:j=n
       ·rw [e];exact hl
       ·exact h j (by omega)
      | false=>exact .inr ⟨n,by omega,hl,h⟩
     ·exact .inr h
   rcases this L (Nat.le_refl _) with h|h
   ·exact absurd h hall
   ·exact h
  obtain ⟨k0,k1,k2,k3⟩:=hex
  have hne:k0∈Region.ready md ops ls:=by
   obtain ⟨o,ho,_⟩:=hst k0 k1
   refine mem_ready.2 ⟨?_,o,ho,fun e he hb=>k3 _ (hF.down k0 o ho e he hb)⟩
   have:k0<ls.size:=by omega
   simp [this] at k2 ⊢
   exact k2
  have prep:∀i,i<L→i∈Region.ready md ops ls→∃o,ops[i]? = some o∧Stays (obAt D i).R∧StepOk P md ops W D (B i) i o (obAt D i)∧ls.getD i false=false∧(∀j,j<i→reachB md ops ops.size i j=true→(obAt D j).eff=true→(obAt D j).R (vs j) (l j) (u j) w)∧Region.wanted o (yielded ops a.tmps)=Region.wanted o (yielded ops (B i vs).tmps) ∧
   execOp a.eval o=execOp (B i vs).eval o∧a.tmps.size=(B i vs).tmps.size∧(S.erase i).length+tail.length≤fuel∧i<ls.size∧(∀k,k<L→(ls.setIfInBounds i true).getD k false=false→k∈S.erase i)∧(∀k,L≤k→(ls.setIfInBounds i true).getD k false=false) ∧
   ((obAt D i).eff=false→wpAny P md ops Q fuel (ls.setIfInBounds i true) (a.put o.dst ((obAt D i).c vs)) w):=by
   intro i hiL hi
   obtain ⟨hun,o,ho,hall'⟩:=mem_ready.1 hi
   have hanc:∀j,reachB md ops ops.size i j=true→ls.getD j false=true:=fun j hj=>reach_listed hC _ i o ho hall' hj
   obtain ⟨o',ho',hstay,hok,hput⟩:=hst i hiL
   rw [ho] at ho';cases ho'
   have hun':ls.getD i false=false:=getD_flip hun
   have f1:∀j,j<i→reachB md ops ops.size i j=true→(obAt D j).eff=true→(obAt D j).R (vs j) (l j) (u j) w:=fun j j1 j2 j3=>(hK j (by omega) (hanc j j2) j3).1
   have hsl:∀t∈o.looksAt ops,a.tmps[t]? = (B i vs).tmps[t]?:=fun t ht=>hR.slot (repB vs i (by omega)) t fun j oj hj hoj hd=>by
    obtain ⟨e,he,hb,rfl⟩:=hF.look i o hiL ho t ht j oj hj hoj hd
    exact .inl ⟨hall' e he hb,hF.down i o ho e he hb,rfl⟩
   have hw:=wanted_same (ops:=ops) hsl
   have hx:=exec_same (ops:=ops) (hF.sel i o · · ho) hsl
   have hsz2:a.tmps.size=(B i vs).tmps.size:=hR.size.trans (repB vs i (by omega)).size.symm
   have hmem:=hSm i hiL hun'
   have hSl:(S.erase i).length+tail.length≤fuel:=by
    have h1:=List.length_pos_of_mem hmem
    rw [List.length_erase_of_mem hmem]
    omega
   have his:i<ls.size:=by omega
   have hSm':∀k,k<L→(ls.setIfInBounds i true).getD k false=false→k∈S.erase i:=fun k hk hl=>by
    have hki:k≠i:=fun e=>by
     have:=(getD_set_iff (j:=k) his).2 (.inr e)
     rw [this] at hl;cases hl
    rw [getD_set_ne false (Ne.symm hki)] at hl
    exact (List.mem_erase_of_ne hki).2 (hSm k hk hl)
   have hhi':∀k,L≤k→(ls.setIfInBounds i true).getD k false=false:=fun k hk=>by
    rw [getD_set_ne false (by omega)];exact hhi k hk
   refine ⟨o,ho,hstay,hok,hun',f1,hw,hx,hsz2,hSl,his,hSm',hhi',fun heff=>?_⟩
   have hval:(obAt D i).val i vs=(obAt D i).c vs:=by unfold Ob.val;rw [heff];rfl
   have hRep:Rep ops L a0 (fun k=>(obAt D k).val k vs) (fun k=>(ls.setIfInBounds i true).getD k false=true) (a.put o.dst ((obAt D i).c vs)):=by
    have h2:=hR.put hF hiL ho (fun h:ls.getD i false=true=>by rw [hun'] at h;cases h)
    rw [hval] at h2
    exact h2.iff (fun k _=>(getD_set_iff his).symm)
   have hold:∀j,(ls.setIfInBounds i true).getD j false=true→(obAt D j).eff=true→ls.getD j false=true:=fun j hj he=>by
    rcases (getD_set_iff his).1 hj with h|h
    ·exact h
    ·rw [h,heff] at he;cases he
   exact ih _ _ w vs l u (S.erase i) hSl hSm' (by rw [Array.size_setIfInBounds];exact hsz) hhi' (hC.set hi) hX hRep (fun j hj hl he=>hK j hj (hold j hl he) he) (fun i' j hi' hj hne' hl1 hl2 he1 he2=>hO i' j hi' hj hne' (hold _ hl1 he1) (hold _ hl2 he2) he1 he2)
  by_cases hk0:k0∈fs
  ·obtain ⟨o,ho,hstay,hok,hun',f1,hw,hx,hsz2,hSl,his,hSm',hhi',hgo⟩:=prep k0 k1 hne
   obtain ⟨_,o',t,ix,ho',hop,hap⟩:=hF.loose k0 hk0
   rw [ho] at ho';cases ho'
   rcases hok vs l u w hX f1 with ⟨heff,_⟩|⟨heff,hy⟩
   ·rw [hE k0 hk0] at heff;cases heff
   ·refine wpAny_first (v:=(obAt D k0).c vs) ho hF.sel (fun c a' w' hh=>hQ (fun e=>by rw [e] at hk0;cases hk0) _ _ _ _ _ hh) fuel ls a w (fun j oj hoj hne' hun2 hno=>?_) hne ?_ (hgo heff)
    ·rcases Nat.lt_or_ge k0 j with h|h
     ·exact hap j oj h hoj hno
     ·exact absurd (k3 j (by omega)) (getD_flip2 hun2)
    ·rcases hy with ⟨h1,h2⟩|⟨h1,h2⟩
     ·exact .inl ⟨hw.trans h1,fun w2=>by rw [hx];exact extract_quiet hop h2⟩
     ·exact .inr ⟨hw.trans h1,h2⟩
  refine ⟨fun h=>(by rw [h] at hne;cases hne),fun i hi=>?_⟩
  have hiL:i<L:=by
   obtain ⟨hun,o,ho,hall'⟩:=mem_ready.1 hi
   rcases Nat.lt_or_ge i L with h|h
   ·exact h
   ·have:=reach_listed hC _ i o ho hall' (hF.till i o h ho k0 k1 hk0)
    rw [k2] at this;cases this
  obtain ⟨o,ho,hstay,hok,hun',f1,hw,hx,hsz2,hSl,his,hSm',hhi',hgo⟩:=prep i hiL hi
  rcases hok vs l u w hX f1 with ⟨heff,hwt,hwp⟩|⟨heff,hy⟩
  ·have h1:=wp_transport (Q:=Q) (o:=o) (T:=fun v w'=>Ext w w'∧(obAt D i).R v w.heap.size w'.heap.size w') hx hsz2 hwp
   unfold wpOp
   rw [ho]
   dsimp only
   rw [if_pos (hw.trans hwt)]
   refine .inl (Oper.wp_mono (fun a' w' hh=>?_) h1)
   obtain ⟨v,rfl,hx',hRv⟩:=hh
   have hvs:∀j,ls.getD j false=true→vs j=(fun j=>if j=i then v else vs j) j:=fun j hj=>by
    have:j≠i:=fun e=>by rw [e,hun'] at hj;cases hj
    simp only [if_neg this]
   have hval:=val_same hF repB hst hC hX hvs (fun j j1 j2 j3=>(hK j j1 j2 j3).1)
   have hRep:Rep ops L a0 (fun k=>(obAt D k).val k (fun j=>if j=i then v else vs j)) (fun k=>(ls.setIfInBounds i true).getD k false=true) (a.put o.dst v):=by
    have h2:=(hR.congr (V':=fun k=>(obAt D k).val k (fun j=>if j=i then v else vs j)) (fun k hk hp=>hval (k+1) k (by omega) hk hp)).put hF hiL ho (fun h:ls.getD i false=true=>by rw [hun'] at h;cases h)
    have e:(obAt D i).val i (fun j=>if j=i then v else vs j)=v:=by unfold Ob.val;rw [if_pos heff];exact if_pos rfl
    rw [e] at h2
    exact h2.iff (fun k _=>(getD_set_iff his).symm)
   refine ih _ _ w' (fun j=>if j=i then v else vs j) (fun j=>if j=i then w.heap.size else l j) (fun j=>if j=i then w'.heap.size else u j) (S.erase i) hSl hSm' (by rw [Array.size_setIfInBounds];exact hsz) hhi' (hC.set hi) (hX.trans hx') hRep (fun j hj hl he=>?_) (fun i' j hi' hj hne' hl1 hl2 he1 he2=>?_)
   ·by_cases e:j=i
    ·subst e
     simp only [if_pos]
     exact ⟨hRv,Below.size hX,Below.size hx',Nat.le_refl _⟩
    ·simp only [if_neg e]
     obtain ⟨g1,g2,g3,g4⟩:=hK j hj (((getD_set_iff his).1 hl).resolve_right e) he
     exact ⟨(hst j hj).elim fun _ h=>h.2.1 _ _ _ _ _ g1 hx',g2,g3,Nat.le_trans g4 (Below.size hx')⟩
   ·by_cases e1:i'=i
    ·have e2:j≠i:=fun e=>hne' (e1.trans e.symm)
     simp only [if_pos e1,if_neg e2]
     obtain ⟨_,_,_,g4⟩:=hK j hj (((getD_set_iff his).1 hl2).resolve_right e2) he2
     exact .inr g4
    ·by_cases e2:j=i
     ·simp only [if_neg e1,if_pos e2]
      obtain ⟨_,_,_,g4⟩:=hK i' hi' (((getD_set_iff his).1 hl1).resolve_right e1) he1
      exact .inl g4
     ·simp only [if_neg e1,if_neg e2]
      exact hO i' j hi' hj hne' (((getD_set_iff his).1 hl1).resolve_right e1) (((getD_set_iff his).1 hl2).resolve_right e2) he1 he2
  ·replace hgo:=hgo heff
   unfold wpOp
   rw [ho]
   dsimp only
   rcases hy with ⟨hwt,hy⟩|⟨hwt,hy⟩
   ·rw [if_pos (hw.trans hwt)]
    refine .inl ?_
    unfold Oper.wp
    rw [hx,hy]
    exact hgo
   ·rw [if_neg (by rw [hw,hwt];simp),← hy]
    exact hgo
/-- A region whose operations, up to L, only add to the world; those from L on come one behind the other. -/
theorem region_loose (L:Nat) (fs tail:List Nat) {id:Nat} {a:Act} {w:World} (hm:P.follows .mixedOrders=true) (hf:formB .any ops L fs tail=true) (hQ:fs≠[]→∀c a d v w,Q (.panic c) (Act.put a d v) w→Q (.panic c) a w)
 (h:Obl P .any ops w (fun D A=>(∀f∈fs,(obAt D f).eff=false)∧FinOk P ops Q w L tail D A) L [] (fun _=>a)):(Code.region id ops true).wp P Q a w:=by
 have hF:=formB_form hf
 obtain ⟨D,B,_,h2,h3,h4⟩:=obl_all L [] _ h
 simp only [List.length_nil,Nat.zero_add] at h2 h3 h4
 refine wp_region_any hm (mono_main (W:=w) (a0:=a) hF D h3.1 hQ B (fun vs=>congrFun h2 vs) (fun k hk=>h4 k (Nat.zero_le _) hk) h3.2 ops.size _ a _ (fun _=>undef) (fun _=>0) (fun _=>0) (List.range L) (by rw [List.length_range];exact hF.len) (fun k hk _=>List.mem_range.2 hk) (by simp) (fun k _=>by by_cases hk:k<ops.size <;> simp [hk]) (fun k ok hk hl=>?_) (Ext.refl w).drew (Rep.zero.iff (fun k _=>?_)) (fun j _ hl _=>?_) (fun i j _ _ _ hl _ _ _=>?_))
 ·have:k<ops.size:=(Array.getElem?_eq_some_iff.1 hk).1
  simp [this] at hl
 ·constructor
  ·exact fun h=>h.elim
  ·intro hl
   by_cases hk:k<ops.size <;> simp [hk] at hl
 ·by_cases hk:j<ops.size <;> simp [hk] at hl
 ·by_cases hk:i<ops.size <;> simp [hk] at hl
theorem obl_mono {W:World} {F G:List Ob→((Nat→Value)→Act)→Prop} (hFG:∀D A,F D A→G D A):∀(m:Nat) (D:List Ob) (A:(Nat→Value)→Act),Obl P md ops W F m D A→Obl P md ops W G m D A
 | 0,_,_,h=>hFG _ _ h
 | m+1,_,_,⟨o,b,A',h1,h2,h3,h4,h5⟩=>⟨o,b,A',h1,h2,h3,h4,obl_mono hFG m _ _ h5⟩
theorem region_mono (L:Nat) (tail:List Nat) {id:Nat} {a:Act} {w:World} (hm:P.follows .mixedOrders=true) (hf:formB .any ops L [] tail=true)
 (h:Obl P .any ops w (FinOk P ops Q w L tail) L [] (fun _=>a)):(Code.region id ops true).wp P Q a w:=
 region_loose L [] tail hm hf (fun h=>absurd rfl h) (obl_mono (fun D A h=>⟨fun f hf=>(by cases hf),h⟩) L [] _ h)
end
end Go.Proofs.YtccjepndhlobpaaGreatDoor

/-
  A region whose operations only add to the world: the steps of a walk.
-/
namespace Go.Proofs.YtccjepndhlobpaaGreatDoor
open Go.RowKit
set_option linter.unusedVariables false
set_option linter.unusedSimpArgs false
/-- What holds in every world that has grown out of this one. -/
def Kn (W:World) (p:World→Prop):Prop:=∀w,Ext W w→p w
theorem Kn.at {W w:World} {p:World→Prop} (h:Kn W p) (hx:Ext W w):p w:=h w hx
theorem Kn.none {W:World}:Kn W (fun _=>True):=fun _ _=>trivial
theorem Kn.cell {W:World} {q:Addr} {v:Value} {p:World→Prop} (k:Kn W p) (h:W.cell? q=some v):Kn W (fun w=>w.cell? q=some v∧p w):=fun w hx=>⟨hx.keep h,k w hx⟩
theorem block_keep {w w':World} {g:Nat} {o:Obj} (h:w.heap[g]? = some o) (hx:Ext w w'):w'.heap[g]? = some o:=(hx.block g (Array.getElem?_eq_some_iff.1 h).1).trans h
/-- A new row without elements. -/
def RNew (e:TypeId):Value→Nat→Nat→World→Prop:=fun v _ _ w=>∃g,v=.slice (some ⟨g,0,Option.none⟩) 0 0∧w.heap[g]? = some (.cells #[] e (0,0))
theorem RNew.stays (e:TypeId):Stays (RNew e):=fun v l u w w' ⟨g,h1,h2⟩ hx=>⟨g,h1,block_keep h2 hx⟩
def ROwn {α:Type} (size:Nat) (Pd:Lie α) (xs:List α):Value→Nat→Nat→World→Prop:=fun v l u w=>SlO size Pd l u w v xs
theorem ROwn.stays {α:Type} {size:Nat} {Pd:Lie α} (hP:KeepsO Pd) (xs:List α):Stays (ROwn size Pd xs):=fun v l u w w' h hx=>SlO.ext hP h hx
def RIs (x:Value):Value→Nat→Nat→World→Prop:=fun v _ _ _=>v=x
theorem RIs.stays (x:Value):Stays (RIs x):=fun _ _ _ _ _ h _=>h
def RBig (b:Big):Value→Nat→Nat→World→Prop:=fun v l u w=>∃ds,v=.agg ds.toArray∧BigP l u w ds b
theorem RBig.stays (b:Big):Stays (RBig b):=fun v l u w w' ⟨ds,h1,h2⟩ hx=>⟨ds,h1,BigP.keeps _ _ _ _ _ _ (Same.ext hx) h2⟩
def RVal {α:Type} (size:Nat) (Pd:Lie α) (xs:List α):Value→Nat→Nat→World→Prop:=fun v l u w=>SlV size Pd l u w v xs
theorem RVal.stays {α:Type} {size:Nat} {Pd:Lie α} (hP:Keeps Pd) (xs:List α):Stays (RVal size Pd xs):=fun v l u w w' h hx=>SlV.ext hP h hx
theorem Flat.keepsO {α:Type} {P:Lie α} (h:Flat P):KeepsO P:=(Keeps.ofFlat h).toO
theorem Flat.keeps {α:Type} {P:Lie α} (h:Flat P):Keeps P:=Keeps.ofFlat h
section
variable {P:Program} {w:World}
/-- append([]T{}, xs...): a row of its own. -/
theorem copy_run {α:Type} {size:Nat} {Pd:Lie α} (hF:Flat Pd) (hOne:Ones Pd) (t ty e:TypeId) (i:TypeInfo) (z:Value) (bytes:Nat) (ht:P.underlying t=some (.slice e)) (hi:P.info? e=some i) (hz:i.zero=some z)
 (hsize:i.size=size) (hby:i.bytes=bytes) (hzs:z.cells.size=size) (hsz:0<size) (g:Nat) (hg:w.heap[g]? = some (.cells #[] e (0,0)))
 (u:Value) (ys:List α) (lo hi':Nat) (hu:SlV size Pd lo hi' w u ys) (h63:ys.length<100000000) (hbytes:bytes≤1000) :
 ∃v' w',(Builtin.append_ #[t,t] ty #[.slice (some ⟨g,0,none⟩) 0 0,u]).run P w=.ok v' w'∧Ext w w'∧SlO size Pd w.heap.size w'.heap.size w' v' ys:=by
 have hgl:g<w.heap.size:=(Array.getElem?_eq_some_iff.1 hg).1
 have own:w.ownsRow 0 e size (.slice (some ⟨g,0,none⟩) 0 0) 0 []:=⟨by simp,.inr ⟨g,0,#[],rfl,Nat.zero_le _,hg,Nat.le_refl _,by decide,by simp,by simp⟩⟩
 obtain ⟨ua,uk,rfl,u1,u2,u3,u4⟩:=hu
 have nilcase:ys = []→∀w',Ext w w'→SlO size Pd w.heap.size w'.heap.size w' (.slice (some ⟨g,0,none⟩) 0 0) ys:=fun hy w' hx=>⟨_,0,by rw [hy];rfl,by rw [hy];exact Nat.le_refl _,by decide,fun h=>(by cases h),.inl hy⟩
 cases ua with
 | none=>
  have hk:=u3 rfl
  subst hk
  have hy:ys = []:=List.eq_nil_of_length_eq_zero (by omega)
  have:=run_append_owned_none (P:=P) (w:=w) 0 t ty e i size ht hi _ 0 [] own
  refine ⟨_,w,by rw [hy];exact this,Ext.refl w,nilcase hy w (Ext.refl w)⟩
 | some ad=>
  have hne:ys = []∨∃b o',ad=⟨b,o',none⟩∧∀i (h:i<ys.length),∃cs,cs.length=size∧Pd lo hi' w cs ys[i]∧CellsAt w b (o'+i * size) cs:=by
   rcases u4 with u4|⟨b,o',e1,_,_,u4⟩
   ·exact .inl u4
   ·cases e1;exact .inr ⟨b,o',rfl,u4⟩
  obtain ⟨news,n1,n2,n3,n4⟩:∃news:List Value,news.length=ys.length * size∧(∀j u,news[j]? = some u→w.cell? (ad.add j)=some u)∧(∀u∈news,u.oneCell'=true)∧∀i (h:i<ys.length),∃ds,ds.length=size∧Pd lo hi' w ds ys[i]∧∀t y,ds[t]? = some y→news[i * size+t]? = some y:=by
   rcases hne with hne|⟨b,o',rfl,hc⟩
   ·subst hne;exact ⟨[],by simp,by simp,by simp,fun i h=>absurd h (Nat.not_lt_zero _)⟩
   ·obtain ⟨news,m1,m2,m3,m4⟩:=flat_cells hF hOne ys o' hc
    refine ⟨news,m1,fun j u hj=>?_,m3,m4⟩
    have:=m2 j u hj
    have e:((⟨b,o',none⟩:Addr).add j)=⟨b,o'+j,none⟩:=by cases j <;> simp [Addr.add]
    rw [e];exact this
  by_cases hy:ys = []
  ·subst hy
   have hn:news = []:=List.eq_nil_of_length_eq_zero (by simpa using n1)
   subst hn
   have hr:=run_append_room (P:=P) w t ty e i ht hi g 0 0 #[] hg ad 0 uk [] (by simp) (fun _ _ h=>by simp at h) (fun _ h=>by simp at h) (Nat.le_refl _) (by simp)
   refine ⟨_,_,hr,?_,nilcase rfl _ ?_⟩ <;>
   ·refine ⟨rfl,rfl,rfl,by simp,fun k hk=>?_⟩
    by_cases e:k=g
    ·subst e
     rw [setRow_heap w k #[] _ _ _ hg,hg]
     simp
    ·exact setRow_other w g k _ e
  ·have hpos:0<ys.length:=List.length_pos_iff.2 hy
   have hb:ys.length * bytes≤100000000 * 1000:=Nat.mul_le_mul (by omega) hbytes
   subst hsize
   subst hby
   have hr:=run_append_grow (P:=P) w t ty e i z ht hi hz ⟨g,0,none⟩ 0 0 [] (by simp) (fun _ _ h=>by simp at h) ad ys.length uk news n1 n2 (by omega) (by omega) (growslice_fits (by omega) (by rw [Nat.zero_add];omega))
   simp only [Nat.zero_add,Array.empty_append] at hr
   obtain ⟨w',hw'⟩:∃w',w'=w.drew.alloc (.cells (news.toArray++Builtin.zeroCells z.cells (grownCap w ys.length 0 e - ys.length)) e):=⟨_,rfl⟩
   rw [← hw'] at hr
   have hx:Ext w w':=by rw [hw'];exact ((Ext.refl w).drew).alloc _
   have hge:=grownCap_ge w ys.length 0 e
   have hcm:grownCap w ys.length 0 e≤maxLen:=grownCap_le_maxLen w ys.length 0 e (by unfold maxLen;omega)
   have hsz':w'.heap.size=w.heap.size+1:=by rw [hw'];simp
   have hcell:∀j y,news[j]? = some y→w'.cell? ⟨w.heap.size,j,none⟩=some y:=fun j y hj=>by
    rw [hw',World.cell?_alloc_at _ e w.heap.size j (by simp)]
    have hlt:j<news.length:=by
     rcases Nat.lt_or_ge j news.length with h|h
     ·exact h
     ·rw [List.getElem?_eq_none h] at hj;cases hj
    rw [Array.getElem?_append_left (by simpa using hlt)]
    simpa using hj
   have hfro:∀j,w'.frozen? ⟨w.heap.size,j,none⟩=false:=fun j=>by
    rw [hw'];exact World.frozen?_alloc_at _ e w.heap.size j (by simp)
   refine ⟨_,w',hr,hx,_,_,rfl,hge,hcm,fun h=>(by cases h),.inr ⟨w.heap.size,0,fun _=>(w.heap.size,w.heap.size),rfl,Nat.le_refl _,by omega,by omega,hfro,fun i j _ _=>.inl (Nat.le_refl _),fun j hj=>?_⟩⟩
   obtain ⟨ds,d1,d2,d3⟩:=n4 j hj
   exact ⟨Nat.le_refl _,by show w.heap.size≤_;omega,.inl (Nat.le_refl _),ds,d1,hF _ _ _ _ _ _ _ _ d2,fun t y ht=>by rw [Nat.zero_add];exact hcell _ _ (d3 t y ht)⟩
end
theorem toList_at {ops:Array Oper} {k:Nat} {o:Oper} (h:ops.toList[k]? = some o):ops[k]? = some o:=by simpa using h
def Facts (md:Region.Mode) (ops:Array Oper) (D:List Ob) (k:Nat) (vs:Nat→Value) (l u:Nat→Nat) (w:World):Prop:=∀j,j<k→reachB md ops ops.size k j=true→(obAt D j).eff=true→(obAt D j).R (vs j) (l j) (u j) w
theorem Facts.at {md:Region.Mode} {ops:Array Oper} {D:List Ob} {k:Nat} {vs:Nat→Value} {l u:Nat→Nat} {w:World} (h:Facts md ops D k vs l u w) (j:Nat) {R:Value→Nat→Nat→World→Prop} (hj:obAt D j=obE R:=by (simp only [obAt,List.nil_append,List.cons_append,List.getD_cons_succ,List.getD_cons_zero] <;> rfl)) (hl:j<k:=by decide) (hr:reachB md ops ops.size k j=true:=by kernel_rfl):R (vs j) (l j) (u j) w:=by
 have:=h j hl hr (by rw [hj];rfl)
 rw [hj] at this
 exact this
theorem Known.at {W:World} {L:Nat} {D:List Ob} {vs:Nat→Value} {l u:Nat→Nat} {w:World} (h:Known W L D vs l u w) (j:Nat) {R:Value→Nat→Nat→World→Prop} (hj:obAt D j=obE R:=by (simp only [obAt,List.nil_append,List.cons_append,List.getD_cons_succ,List.getD_cons_zero] <;> rfl)) (hl:j<L:=by decide):R (vs j) (l j) (u j) w∧W.heap.size≤l j∧l j≤u j∧u j≤w.heap.size:=by
 have:=h.2.1 j hl (by rw [hj];rfl)
 rw [hj] at this
 exact this
theorem Known.ext {W:World} {L:Nat} {D:List Ob} {vs:Nat→Value} {l u:Nat→Nat} {w:World} (h:Known W L D vs l u w):Ext W w:=h.1
theorem Known.off {W:World} {L:Nat} {D:List Ob} {vs:Nat→Value} {l u:Nat→Nat} {w:World} (h:Known W L D vs l u w) (i j:Nat) {R S:Value→Nat→Nat→World→Prop} (hi:obAt D i=obE R:=by (simp only [obAt,List.nil_append,List.cons_append,List.getD_cons_succ,List.getD_cons_zero] <;> rfl)) (hj:obAt D j=obE S:=by (simp only [obAt,List.nil_append,List.cons_append,List.getD_cons_succ,List.getD_cons_zero] <;> rfl)) (hl:i<L:=by decide) (hl':j<L:=by decide) (hne:i≠j:=by decide):Off (l i,u i) (l j,u j):=
 h.2.2 i j hl hl' hne (by rw [hi];rfl) (by rw [hj];rfl)
/-- A struct is read out of a box, in whatever world. -/
theorem exec_load_boxL {P:Program} {op:Oper} {a:Act} {w:World} (ty:TypeId) (x:Operand) (ho:op.op=.load ty x) (B:Nat) (cs:List Value) (hx:a.eval x=.pointer (some ⟨B,0,none⟩)) (hb:BoxAt w B cs) (d:TypeDesc) (hu:P.underlying ty=some d) (hd:d.isRow=true) (hi:(P.info? ty).map (·.size)=some cs.length) :
 (execOp a.eval op).run P w=.ok (.value (.agg cs.toArray)) w:=by
 have h:=load_fact (P:=P) hb 0 cs (fun j v hj=>by simpa using hj) ty d hu hd hi
 unfold execOp
 simp only [ho,hx,h,Sem.run_bind,Sem.run_pure,Result.andThen_ok]
theorem wpList_load_boxG {P:Program} {ops:Array Oper} {rest:List Oper} {op:Oper} {a:Act} {w:World} {Q:Exit→Act→World→Prop} (hw:Region.wanted op (yielded ops a.tmps)=true) (ty:TypeId) (x:Operand) (ho:op.op=.load ty x)
 (B:Nat) (cs:List Value) (hx:a.eval x=.pointer (some ⟨B,0,none⟩)) (hb:BoxAt w B cs) (d:TypeDesc) (hu:P.underlying ty=some d) (hd:d.isRow=true) (hi:(P.info? ty).map (·.size)=some cs.length)
 (h:wpList P ops Q rest (a.put op.dst (.agg cs.toArray)) w):wpList P ops Q (op :: rest) a w:=by
 simp only [wpList,hw,if_true]
 left
 unfold Oper.wp
 rw [exec_load_boxL ty x ho B cs hx hb d hu hd hi]
 exact h
theorem wpList_load_allG {P:Program} {ops:Array Oper} {rest:List Oper} {op:Oper} {a:Act} {w:World} {Q:Exit→Act→World→Prop} (hw:Region.wanted op (yielded ops a.tmps)=true) (ty:TypeId) (x:Operand) (ho:op.op=.load ty x)
 {B:Nat} {cs:List Value} (hb:BoxAt w B cs) (hx:a.eval x=.pointer (some ⟨B,0,none⟩)) {d:TypeDesc} (hu:P.underlying ty=some d) (hd:d.isRow=true) (hi:(P.info? ty).map (·.size)=some cs.length)
 (h:wpList P ops Q rest (a.put op.dst (.agg cs.toArray)) w):wpList P ops Q (op :: rest) a w:=wpList_load_boxG hw ty x ho B cs hx hb d hu hd hi h
theorem wpList_load_all {P:Program} {ops:Array Oper} {rest:List Oper} {op:Oper} {a:Act} {w:World} {Q:Exit→Act→World→Prop} (hg:op.guard=none) (ty:TypeId) (x:Operand) (ho:op.op=.load ty x)
 {B:Nat} {cs:List Value} (hb:BoxAt w B cs) (hx:a.eval x=.pointer (some ⟨B,0,none⟩)) {d:TypeDesc} (hu:P.underlying ty=some d) (hd:d.isRow=true) (hi:(P.info? ty).map (·.size)=some cs.length)
 (h:wpList P ops Q rest (a.put op.dst (.agg cs.toArray)) w):wpList P ops Q (op :: rest) a w:=wpList_load_box hg ty x ho B 0 cs cs hx hb (fun j v hj=>by simpa using hj) d hu hd hi h
theorem BoxAt.only {lo hi B:Nat} {w w':World} {cs:List Value} (h:BoxAt w B cs) (k:Only lo hi w w') (ho:B<lo∨hi≤B):BoxAt w' B cs:=by
 intro j u hj
 obtain ⟨h1,h2⟩:=h j u hj
 have hb:=k.block B (World.block_lt_of_cell? w ⟨B,j,none⟩ h1) (by omega)
 exact ⟨(World.cell?_of_block hb).trans h1,(World.frozen?_of_block hb).trans h2⟩
/-- What is known of a struct, and of a tuple that begins with one. -/
def RAgg {α:Type} (Pd:Lie α) (x:α):Value→Nat→Nat→World→Prop:=fun v l u w=>∃ds,v=.agg ds.toArray∧Pd l u w ds x
theorem RAgg.stays {α:Type} {Pd:Lie α} (hP:KeepsO Pd) (x:α):Stays (RAgg Pd x):=fun v l u w w' ⟨ds,h1,h2⟩ hx=>⟨ds,h1,hP.ext h2 hx⟩
def RTup {α:Type} (Pd:Lie α) (x:α) (t:List Value):Value→Nat→Nat→World→Prop:=fun v l u w=>∃ds:List Value,v=.tuple (.agg ds.toArray :: t).toArray∧Pd l u w ds x
theorem RTup.stays {α:Type} {Pd:Lie α} (hP:KeepsO Pd) (x:α) (t:List Value):Stays (RTup Pd x t):=fun v l u w w' ⟨ds,h1,h2⟩ hx=>⟨ds,h1,hP.ext h2 hx⟩
def tupAt (v:Value) (i:Nat):Value:=match v with | .tuple a=>a.getD i undef|_=>undef
/-- A component is taken out of a tuple. -/
theorem exec_extract {P:Program} {o:Oper} {a:Act} {w:World} (x:Operand) (i:Nat) (ho:o.op=.extract x i) {v y:Value} {t:List Value} (hx:a.eval x=v) (hv:v=.tuple t.toArray) (hi:t[i]? = some y):(execOp a.eval o).run P w=.ok (.value y) w:=by
 unfold execOp
 simp only [ho,hx,hv]
 simp [Instr.extract,hi,go_sem]
section
variable {P:Program} {md:Region.Mode} {ops:Array Oper} {W:World} {Fin:List Ob→((Nat→Value)→Act)→Prop} {m:Nat} {D:List Ob} {A A':(Nat→Value)→Act} {o:Oper}
/-- A step: what looks at no world. -/
theorem mP {c:(Nat→Value)→Value} (h:Obl P md ops W Fin m (D++[obP c]) A') (ho:ops.toList[D.length]? = some o:=by rfl)
 (hw:∀vs,Region.wanted o (yielded ops (A vs).tmps)=true:=by exact fun _=>rfl)
 (hy:∀vs w,(execOp (A vs).eval o).run P w=.ok (.value (c vs)) w:=by intro vs w;go_simp;try with_reducible rfl)
 (hA:∀vs,(A vs).put o.dst (c vs)=A' vs:=by intro vs;simp only [Act.put,aput];with_reducible rfl):Obl P md ops W Fin (m+1) D A:=
 ⟨o,obP c,A',toList_at ho,fun _ _ _ _ _ _ _=>trivial,fun vs l u w _ _=>.inr ⟨rfl,.inl ⟨hw vs,hy vs w⟩⟩,hA,h⟩
/-- A step: what looks at cells that are known. -/
theorem mL {c:(Nat→Value)→Value} {p:World→Prop} (k:Kn W p) (h:Obl P md ops W Fin m (D++[obP c]) A') (ho:ops.toList[D.length]? = some o:=by rfl)
 (hw:∀vs,Region.wanted o (yielded ops (A vs).tmps)=true:=by exact fun _=>rfl)
 (hy:∀vs w,p w→(execOp (A vs).eval o).run P w=.ok (.value (c vs)) w:=by intro vs w hk;go_split_ands;go_simp;try with_reducible rfl)
 (hA:∀vs,(A vs).put o.dst (c vs)=A' vs:=by intro vs;simp only [Act.put,aput];with_reducible rfl):Obl P md ops W Fin (m+1) D A:=
 ⟨o,obP c,A',toList_at ho,fun _ _ _ _ _ _ _=>trivial,fun vs l u w hx _=>.inr ⟨rfl,.inl ⟨hw vs,hy vs w (k w hx)⟩⟩,hA,h⟩
/-- A step that adds to the world. -/
theorem mE (k:Nat) (R:Value→Nat→Nat→World→Prop) (hs:Stays R) (hc:∀(vs:Nat→Value) (l u:Nat→Nat) (w:World),Ext W w→Facts md ops D k vs l u w→∀K:Act→World→Prop,Shut (∀v w',R v w.heap.size w'.heap.size w'→Ext w w'→K ((A vs).put o.dst v) w')→Oper.wp P o (A vs) w K (fun _ _ _=>False))
 (h:Obl P md ops W Fin m (D++[obE R]) A') (hk:D.length=k:=by rfl) (ho:ops.toList[D.length]? = some o:=by rfl)
 (hw:∀vs,Region.wanted o (yielded ops (A vs).tmps)=true:=by exact fun _=>rfl)
 (hA:∀vs,(A vs).put o.dst (vs k)=A' vs:=by intro vs;simp only [Act.put,aput];with_reducible rfl):Obl P md ops W Fin (m+1) D A:=
 ⟨o,obE R,A',toList_at ho,hs,fun vs l u w hx hf=>.inl ⟨rfl,hw vs,hc vs l u w hx (by rw [← hk];exact hf) _ (fun v w' h1 h2=>⟨v,rfl,h2,h1⟩)⟩,by rw [hk];exact hA,h⟩
/-- A step: a new row without elements. -/
theorem mNew (k:Nat) (e:TypeId) (h:Obl P md ops W Fin m (D++[obE (RNew e)]) A') (hk:D.length=k:=by rfl) (ho:ops.toList[D.length]? = some o:=by rfl)
 (hrun:∀(a:Act) w,(execOp a.eval o).run P w=.ok (.value (.slice (some ⟨w.heap.size,0,none⟩) 0 0)) (w.alloc (.cells #[] e)):=by intro a w;go_simp)
 (hw:∀vs,Region.wanted o (yielded ops (A vs).tmps)=true:=by exact fun _=>rfl)
 (hA:∀vs,(A vs).put o.dst (vs k)=A' vs:=by intro vs;simp only [Act.put,aput];with_reducible rfl):Obl P md ops W Fin (m+1) D A:=by
 refine mE k (RNew e) (RNew.stays e) (fun vs l u w hx hf K hK=>?_) h hk ho hw hA
 unfold Oper.wp
 rw [hrun]
 exact hK _ _ ⟨_,rfl,heap_alloc_new _ _⟩ ((Ext.refl w).alloc _)
/-- A step: a row of its own, copied from another one: append([]T{}, xs...). -/
theorem mCopy (k:Nat) {α:Type} {size:Nat} {Pd:Lie α} (hF:Flat Pd) (hOne:Ones Pd) (j:Nat) (s x:Operand) (t e:TypeId) (i:TypeInfo) (z:Value) (bytes:Nat) (xs:List α) (lo hi':Nat) (u:Value) (hu:SlV size Pd lo hi' W u xs) (hn:xs.length<100000000)
 (hi:P.info? e=some i) (hz:i.zero=some z) (hsize:i.size=size) (hby:i.bytes=bytes)
 (h:Obl P md ops W Fin m (D++[obE (ROwn size Pd xs)]) A') (ht:P.underlying t=some (.slice e):=by rfl) (hzs:z.cells.size=size:=by rfl) (hsz:0<size:=by decide) (hbytes:bytes≤1000:=by decide) (hk:D.length=k:=by rfl) (ho:ops.toList[D.length]? = some o:=by rfl)
 (hop:o.op=.call { callee:=.builtin .append,args:=#[s,x],argTypes:=#[t,t] }:=by rfl)
 (hs:∀vs,(A vs).eval s=vs j:=by intro vs;go_simp) (hx':∀vs,(A vs).eval x=u:=by intro vs;go_simp) (hj:obAt D j=obE (RNew e):=by (simp only [obAt,List.nil_append,List.cons_append,List.getD_cons_succ,List.getD_cons_zero] <;> rfl)) (hjl:j<k:=by decide) (hr:reachB md ops ops.size k j=true:=by kernel_rfl)
 (hw:∀vs,Region.wanted o (yielded ops (A vs).tmps)=true:=by exact fun _=>rfl)
 (hA:∀vs,(A vs).put o.dst (vs k)=A' vs:=by intro vs;simp only [Act.put,aput];with_reducible rfl):Obl P md ops W Fin (m+1) D A:=by
 refine mE k (ROwn size Pd xs) (ROwn.stays hF.keepsO xs) (fun vs l u' w hx hf K hK=>?_) h hk ho hw hA
 have hf:=hf j hjl hr (by rw [hj];rfl)
 rw [hj] at hf
 obtain ⟨g,hg1,hg2⟩:=hf
 obtain ⟨v',w',h1,h2,h3⟩:=copy_run (P:=P) (w:=w) hF hOne t o.type e i z bytes ht hi hz hsize hby hzs hsz g hg2 u xs lo hi' (hu.ext hF.keeps hx) hn hbytes
 unfold Oper.wp
 have hx2:=hx' vs
 have hs2:=(hs vs).trans hg1
 simp [execOp,hop,resolve,invoke,builtin,hs2,hx2,h1,Result.andThen]
 exact hK _ _ h3 h2
/-- A step: a call. -/
theorem mCall (k:Nat) (R:Value→Nat→Nat→World→Prop) (f:FuncId) (hs:Stays R) (args:(Nat→Value)→Array Value)
 (hc:∀(vs:Nat→Value) (l u:Nat→Nat) (w:World),Ext W w→Facts md ops D k vs l u w→Calls P f (args vs) w fun e w'=>∃v,e=.returned v∧R v w.heap.size w'.heap.size w'∧Ext w w')
 (h:Obl P md ops W Fin m (D++[obE R]) A') (hk:D.length=k:=by rfl) (ho:ops.toList[D.length]? = some o:=by rfl)
 (hrun:∀vs w,(execOp (A vs).eval o).run P w=.ok (.enter f (args vs)) w:=by intro vs w;go_simp;try with_reducible rfl)
 (hw:∀vs,Region.wanted o (yielded ops (A vs).tmps)=true:=by exact fun _=>rfl)
 (hA:∀vs,(A vs).put o.dst (vs k)=A' vs:=by intro vs;simp only [Act.put,aput];with_reducible rfl):Obl P md ops W Fin (m+1) D A:=by
 refine mE k R hs (fun vs l u w hx hf K hK=>?_) h hk ho hw hA
 unfold Oper.wp
 rw [hrun]
 refine (hc vs l u w hx hf).mono ?_
 rintro e w' ⟨v,rfl,h1,h2⟩
 exact hK _ _ h1 h2
/-- A new cell, or a boxed value. -/
def RBox (cs:List Value):Value→Nat→Nat→World→Prop:=fun v l u w=>∃b,v=.pointer (some ⟨b,0,none⟩)∧l≤b∧b<u∧BoxAt w b cs
theorem RBox.stays (cs:List Value):Stays (RBox cs):=fun v l u w w' ⟨b,h1,h2,h3,h4⟩ hx=>⟨b,h1,h2,h3,h4.ext hx⟩
theorem mBox (k:Nat) (cs:List Value) {ty:TypeId} (h:Obl P md ops W Fin m (D++[obE (RBox cs)]) A') (hk:D.length=k:=by rfl) (ho:ops.toList[D.length]? = some o:=by rfl)
 (hrun:∀vs w,(execOp (A vs).eval o).run P w=.ok (.value (.pointer (some ⟨w.heap.size,0,none⟩))) (w.alloc (.cells cs.toArray ty)):=by intro vs w;go_simp;try with_reducible rfl)
 (hw:∀vs,Region.wanted o (yielded ops (A vs).tmps)=true:=by exact fun _=>rfl)
 (hA:∀vs,(A vs).put o.dst (vs k)=A' vs:=by intro vs;simp only [Act.put,aput];with_reducible rfl):Obl P md ops W Fin (m+1) D A:=by
 refine mE k (RBox cs) (RBox.stays cs) (fun vs l u w hx hf K hK=>?_) h hk ho hw hA
 unfold Oper.wp
 rw [hrun]
 exact hK _ _ ⟨_,rfl,Nat.le_refl _,by simp,BoxAt.new w ty cs _ rfl⟩ ((Ext.refl w).alloc _)
/-- A made row. -/
def RMade (base:Nat) (e:TypeId) (size n:Nat):Value→Nat→Nat→World→Prop:=fun v l u w=>∃g cells,v=.slice (some ⟨g,0,none⟩) n n∧l≤g∧g<u∧w.ownsRow base e size v n cells
theorem RMade.stays (base:Nat) (e:TypeId) (size n:Nat):Stays (RMade base e size n):=fun v l u w w' ⟨g,cells,h1,h2,h3,h4⟩ hx=>⟨g,cells,h1,h2,h3,ownsRow_ext h4 hx⟩
theorem mMake (k:Nat) (t e:TypeId) (x:Operand) (i:TypeInfo) (z:Value) (size n:Nat) (hi:P.info? e=some i) (hz:i.zero=some z) (hsize:i.size=size) (hb:i.bytes * n≤281474976710656) (h63:n≤maxLen)
 (h:Obl P md ops W Fin m (D++[obE (RMade W.heap.size e size n)]) A') (ht:P.underlying t=some (.slice e):=by rfl) (hk:D.length=k:=by rfl) (ho:ops.toList[D.length]? = some o:=by rfl) (hop:o.op=.makeSlice t x x:=by rfl)
 (hx':∀vs,(A vs).eval x=.int .i64 n:=by intro vs;go_simp)
 (hw:∀vs,Region.wanted o (yielded ops (A vs).tmps)=true:=by exact fun _=>rfl)
 (hA:∀vs,(A vs).put o.dst (vs k)=A' vs:=by intro vs;simp only [Act.put,aput];with_reducible rfl):Obl P md ops W Fin (m+1) D A:=by
 refine mE k (RMade W.heap.size e size n) (RMade.stays _ _ _ _) (fun vs l u w hx hf K hK=>?_) h hk ho hw hA
 obtain ⟨w',h1,h2,h3⟩:=run_make_full (P:=P) w W.heap.size t e i z size ht hi hz hsize .i64 .i64 n hb h63 (Below.size hx)
 unfold Oper.wp
 have hx2:=hx' vs
 simp [execOp,hop,hx2,h1,Result.andThen]
 exact hK _ _ ⟨_,_,rfl,Nat.le_refl _,(own_lt h2).2,h2⟩ ⟨h3.os,h3.tape,h3.output,h3.size,fun k hk=>h3.block k hk (by simp)⟩
/-- A step: a value that hangs on what is known of earlier steps. -/
theorem mF (k:Nat) (c:(Nat→Value)→Value)
 (hy:∀(vs:Nat→Value) (l u:Nat→Nat) (w:World),Ext W w→Facts md ops D k vs l u w→(execOp (A vs).eval o).run P w=.ok (.value (c vs)) w)
 (h:Obl P md ops W Fin m (D++[obP c]) A') (hk:D.length=k:=by rfl) (ho:ops.toList[D.length]? = some o:=by rfl)
 (hw:∀vs,Region.wanted o (yielded ops (A vs).tmps)=true:=by exact fun _=>rfl)
 (hA:∀vs,(A vs).put o.dst (c vs)=A' vs:=by intro vs;simp only [Act.put,aput];with_reducible rfl):Obl P md ops W Fin (m+1) D A:=
 ⟨o,obP c,A',toList_at ho,fun _ _ _ _ _ _ _=>trivial,fun vs l u w hx hf=>.inr ⟨rfl,.inl ⟨hw vs,hy vs l u w hx (by rw [← hk];exact hf)⟩⟩,hA,h⟩
/-- A step that is struck. -/
theorem mN (h:Obl P md ops W Fin m (D++[obP fun _=>undef]) A') (ho:ops.toList[D.length]? = some o:=by rfl)
 (hw:∀vs,Region.wanted o (yielded ops (A vs).tmps)=false:=by exact fun _=>rfl)
 (hA:∀vs,(A vs).put o.dst undef=A' vs:=by intro vs;simp only [Act.put,aput];with_reducible rfl):Obl P md ops W Fin (m+1) D A:=
 ⟨o,obP fun _=>undef,A',toList_at ho,fun _ _ _ _ _ _ _=>trivial,fun vs l u w _ _=>.inr ⟨rfl,.inr ⟨hw vs,rfl⟩⟩,hA,h⟩
end
end Go.Proofs.YtccjepndhlobpaaGreatDoor
