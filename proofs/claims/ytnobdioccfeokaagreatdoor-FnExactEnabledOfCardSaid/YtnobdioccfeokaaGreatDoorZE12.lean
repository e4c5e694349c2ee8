/-
  Proved facts that the law leans on.
-/
import Derived.Test.YtnobdioccfeokaaGreatDoorZE10
import Derived.Test.YtnobdioccfeokaaGreatDoorZE11
import Derived.ArgAppend
import Derived.Deep.Onto
namespace Go.Proofs.YtnobdioccfeokaaGreatDoor
open Go.RowKit
set_option linter.unusedVariables false
set_option linter.unusedSimpArgs false
theorem aE.upd3 {W0:cz} {N:Nat} {σ:Env} {a:Act} {w w':World} {c:Cx} (h:aE W0 N σ a w c) {i:Nat} {t u:Tk} {F' S':BS} (hi:al σ i=some (.tk t)) (hg:Chg (c.T i) w w') (hF:∀b,c.F b→F' b) (hF':∀b,F' b→(c.F b∨c.T i b∨w.heap.size≤b)∧b<w'.heap.size) (hS':∀b,S' b→(c.T i b∨w.heap.size≤b)∧b<w'.heap.size∧¬F' b) (hu:fR c.F w w'→u.ok { c with F:=F' } w' (c.ρ i) S') :
 aE W0 N ((i,.tk u) :: σ) a w' { c with F:=F',T:=fun j=>if j=i then S' else c.T j }:=by
 obtain ⟨hAi,_,hti⟩:=h.tok i t hi
 have hag:=h.agF hg (fun b hb=>(hti b hb).1)
 have hle:c.Le { c with F:=F',T:=fun j=>if j=i then S' else c.T j }:=⟨hF,fun _ h=>⟨h,rfl⟩⟩
 have hle2:({ c with F:=F' }:Cx).Le { c with F:=F',T:=fun j=>if j=i then S' else c.T j }:=⟨fun _ h=>h,fun _ h=>⟨h,rfl⟩⟩
 have T1:(if i=i then S' else c.T i)=S':=if_pos rfl
 have T2:∀j,i≠j→(if j=i then S' else c.T j)=c.T j:=fun j hj=>if_neg (Ne.symm hj)
 refine ⟨h.ext' hg (fun b hb=>(hti b hb).2.2),fun b hb=>?_,fun b hb=>(hF' b hb).2,h.size,h.defers,fun j hj=>?_,fun j x hj=>?_,fun j k x y hj hk hne b=>?_,fun t' s ht'=>?_⟩
 ·rcases (hF' b hb).1 with h1|h1|h1
  ·exact h.old b h1
  ·exact .inr ((hti b h1).2.2)
  ·exact .inr (.inr (Nat.le_trans h.ext.size h1))
 ·rw [ab];split
  ·simp
  ·exact h.all j hj
 ·rw [ab] at hj
  by_cases e:i=j
  ·subst e
   rw [if_pos rfl] at hj;cases hj
   dsimp only
   rw [T1]
   refine ⟨hAi,Tk.keep hle2 (Nat.le_refl _) (fun _ _ _=>rfl) (fun _ _ _=>rfl) u _ (hu hag),fun b hb=>⟨(hS' b hb).2.2,(hS' b hb).2.1,?_⟩⟩
   rcases (hS' b hb).1 with h1|h1
   ·exact (hti b h1).2.2
   ·exact .inr (Nat.le_trans h.ext.size h1)
  ·rw [if_neg e] at hj
   obtain ⟨k1,k2,k3⟩:=h.tok j x hj
   dsimp only
   rw [T2 j e]
   refine ⟨k1,Tk.keep hle hg.size hag (fun b hb hl=>hg.block b hl (fun hs=>h.off i j t x hi hj e b hs hb)) x _ k2,fun b hb=>⟨fun hf=>?_,Nat.lt_of_lt_of_le (k3 b hb).2.1 hg.size,(k3 b hb).2.2⟩⟩
   rcases (hF' b hf).1 with h1|h1|h1
   ·exact (k3 b hb).1 h1
   ·exact h.off i j t x hi hj e b h1 hb
   ·have:=(k3 b hb).2.1;omega
 ·have key:∀j x,al σ j=some (.tk x)→i≠j→∀b,S' b→¬c.T j b:=fun j x hj e b hb hT=>by
   rcases (hS' b hb).1 with h1|h1
   ·exact h.off i j t x hi hj e b h1 hT
   ·have:=((h.tok j x hj).2.2 b hT).2.1;omega
  rw [ab] at hj hk
  dsimp only
  by_cases e1:i=j
  ·subst e1
   rw [if_neg hne] at hk
   rw [T1,T2 k hne]
   exact key k y hk hne b
  ·rw [if_neg e1] at hj
   rw [T2 j e1]
   by_cases e2:i=k
   ·subst e2
    rw [T1]
    exact fun h1 h2=>key j x hj e1 b h2 h1
   ·rw [if_neg e2] at hk
    rw [T2 k e2]
    exact h.off j k x y hj hk hne b
 ·rw [ab] at ht'
  split at ht'
  ·cases ht'
  ·obtain ⟨x,h1,h2⟩:=h.tmp t' s ht'
   exact ⟨x,h1,Sy.keep hle hag s x h2⟩
theorem aE.slot {W0:cz} {N:Nat} {σ:Env} {a:Act} {w:World} {c:Cx} (h:aE W0 N σ a w c) {t:Nat} {s s':Sy} (ht:al σ t=some (.sy s)) (hs:∀v,s.ok c w v→s'.ok c w v):aE W0 N ((t,.sy s') :: σ) a w c:=by
 have hne:∀i x,al ((t,.sy s') :: σ) i=some (.tk x)→al σ i=some (.tk x):=fun i x hi=>by
  rw [ab] at hi
  split at hi
  ·cases hi
  ·exact hi
 refine ⟨h.ext,h.old,h.lt,h.size,h.defers,fun i hi=>?_,fun i x hi=>h.tok i x (hne i x hi),fun i j x u hi hj=>h.off i j x u (hne i x hi) (hne j u hj),fun t' s0 ht'=>?_⟩
 ·rw [ab]
  split
  ·simp
  ·exact h.all i hi
 ·rw [ab] at ht'
  split at ht'
  ·rename_i e
   cases ht';subst e
   obtain ⟨v,h1,h2⟩:=h.tmp _ _ ht
   exact ⟨v,h1,hs v h2⟩
  ·exact h.tmp t' s0 ht'
abbrev WP:=World→BS→Value→BS→Prop
def frF (w w':World) (F S S':BS):BS:=fun b=>(F b∨S b∨w.heap.size≤b)∧¬S' b∧b<w'.heap.size
def vT (w:World) (F S:BS) (v:Value) (p':WP) (w':World):Prop:=Chg S w w'∧∃S':BS,(∀b,S' b→(S b∨w.heap.size≤b)∧b<w'.heap.size)∧(Tk.abs p' none).ok (Cx.of (frF w w' F S S')) w' v S'
structure FnY (P:Program) (f:FuncId) (ds:List D) (p p':WP) (b:Bool):Prop where
 enter:∀args w,(callFunc f args).run P w=.ok (.enter f args) w
 calls:∀(F S:BS) (w:World) (v:Value) (vs:List Value),(Tk.abs p none).ok (Cx.of F) w v S→DVs w F ds vs→(∀b,F b→b<w.heap.size)→(∀b,S b→¬F b∧b<w.heap.size) →
  Calls P f (vs++[v]).toArray w fun en w'=>en=.returned (.bool b)∧vT w F S v p' w'
theorem FnY.arg {P:Program} {f:FuncId} {ds ds':List D} {p p':WP} {b:Bool} (h:FnY P f ds p p' b) (ha:∀(w:World) (F:BS) (vs:List Value),DVs w F ds' vs→DVs w F ds vs):FnY P f ds' p p' b:=⟨h.enter,fun F S w v vs hp hv hF hS=>h.calls F S w v vs hp (ha w F vs hv) hF hS⟩
theorem aE.abs {W0:cz} {N:Nat} {σ:Env} {a:Act} {w w':World} {c:Cx} {p p':WP} {tag:Option Value} {i:Nat} (h:aE W0 N σ a w c) (hi:al σ i=some (.tk (.abs p tag))) (hp:vT w c.F (c.T i) (c.ρ i) p' w'):∃c',aE W0 N ((i,.tk (.abs p' tag)) :: σ) a w' c':=by
 obtain ⟨hA,⟨_,ht⟩,hti⟩:=h.tok i _ hi
 obtain ⟨hg,S',h1,h2,_⟩:=hp
 refine ⟨_,h.upd3 (F':=frF w w' c.F (c.T i) S') hi hg (fun b hb=>⟨.inl hb,fun hs=>?_,Nat.lt_of_lt_of_le (h.lt b hb) hg.size⟩) (fun b hb=>⟨hb.1,hb.2.2⟩) (fun b hb=>⟨(h1 b hb).1,(h1 b hb).2,fun hf=>hf.2.1 hb⟩) (fun _=>⟨h2,ht⟩)⟩
 rcases (h1 b hs).1 with h3|h3
 ·exact (hti b h3).1 hb
 ·exact absurd (h.lt b hb) (Nat.not_lt.2 h3)
def zH (f:Nat) (q:WP):WP:=fun w F v S=>∃pv,v=.func (.func f) #[] #[pv]∧q w F pv S
def zR (z e:Nat) (ds:List D):WP:=fun w F v S=>∃(b:Nat) (u:Value) (S2:BS),v=.pointer (some ⟨b,0,none⟩)∧S b∧(∀c,S2 c→S c∧c≠b)∧ey w b [u]∧(Tk.row z e ds).ok (Cx.of F) w u S2
theorem Dr {z e:Nat} {ds:List D} {c:Cx} {w:World} {v:Value} {S:BS} (h:zR z e ds w c.F v S):(Tk.abs (zR z e ds) none).ok c w v S:=by
 obtain ⟨b,u,S2,h1,h2,h3,h4,h5⟩:=h
 refine ⟨fun w' F' hF hsz hA hS=>⟨b,u,S2,h1,h2,h3,fun j x hj=>?_,?_⟩,fun u hu=>by cases hu⟩
 ·obtain ⟨k1,k2⟩:=h4 j x hj
  have hb:=hS b h2 (World.block_lt_of_cell? w ⟨b,j,none⟩ k1)
  exact ⟨(World.cell?_of_block hb).trans k1,(World.frozen?_of_block hb).trans k2⟩
 ·exact Tk.keep (c:=Cx.of c.F) (c':=Cx.of F') ⟨hF,fun i hi=>hi.elim⟩ hsz hA (fun b hb=>hS b (h3 b hb).1) _ _ h5
section
variable {P:Program} {ops:Array Oper} {W0:cz} {N:Nat} {Fin:Us→Env→Prop} {os:List Oper} {us:Us} {pk fk:List Nat} {σ:Env} {g:Option (Nat × Bool)} {gk:List Nat} {d ty ty' f:Nat} {pos:String} {after:Array Edge} {at':Array TypeId} {ds:List D} {p p' q q':WP} {tag:Option Value} {b:Bool} {i:Nat} {pv:Value}
theorem Fa {x1 x2 x3 t:Operand} (h:Der P ops W0 N Fin os (us++[((d :: (gk++(i :: (kx t++kxs [x1,x2,x3]))))++pk,([d,i])++fk)]) [] [] ((d,.sy (.d (.b b))) :: (i,.tk (.abs p' tag)) :: σ)) (ht:ev σ t=some (.k i):=by rfl) (hi:al σ i=some (.tk (.abs p tag)):=by rfl) (hr:evs σ [x1,x2,x3]=some ds:=by rfl) (hf:FnY P f ds p p' b:=by assumption) (hg:gst ops σ g=some (true,gk):=by rfl) (hN:Nat.blt d N=true:=by rfl) (hs:aF ((i,.tk (.abs p' tag)) :: σ) d=true:=by rfl) (hu:Nat.beq i d=false:=by rfl):Der P ops W0 N Fin (⟨some d,.call { callee:=.value (.func f),args:=[x1,x2,x3,t].toArray,argTypes:=at' },ty,pos,after,g⟩ :: os) us pk fk σ:=
 jy (.d (.b b)) (i :: (kx t++kxs [x1,x2,x3])) [(i,.tk (.abs p' tag))] (fun σ' c a w hk hc=>by
  have hi':=(hk i (List.mem_cons_self ..)).trans hi
  obtain ⟨hA,hT,hti⟩:=hc.tok i _ hi'
  obtain ⟨_,hv⟩:=ap hc (ah ht (fun κ hκ=>hk κ (List.mem_cons_of_mem _ (List.mem_append_left _ hκ))))
  unfold Oper.wp
  rw [cw hf.enter rfl]
  refine (hf.calls c.F (c.T i) w (a.eval t) ([x1,x2,x3].map a.eval) (by rw [hv];exact ⟨hT.1,fun u hu=>by cases hu⟩) (kR hc [x1,x2,x3] ds hr (fun κ hκ=>hk κ (List.mem_cons_of_mem _ (List.mem_append_right _ hκ)))) hc.lt (fun b hb=>⟨(hti b hb).1,(hti b hb).2.1⟩)).mono ?_
  rintro en w' ⟨rfl,hp⟩
  rw [hv] at hp
  obtain ⟨c',hc'⟩:=hc.abs hi' hp
  exact ⟨_,c',rfl,hc',rfl⟩) h hg hN hs (by simp [hu])
theorem F8 {x1 x2 x3 t:Operand} {g0:Nat} (i:Nat) (hr:∀(σ':Env) (a:Act) (w:World) (c:Cx),aE W0 N σ' a w c→(∀κ∈kxs [x1,x2,x3],al σ' κ=al σ κ)→DVs w c.F ds ([x1,x2,x3].map a.eval)) (h:Der P ops W0 N Fin os (us++[((d :: (gk++(i :: (kx t++kxs [x1,x2,x3]))))++pk,([d,i])++fk)]) [] [] ((d,.sy (.d (.b b))) :: (i,.tk (.abs q' (some pv))) :: σ)) (ht:ev σ t=some (.v (.func (.func g0) #[] #[pv])):=by rfl) (hi:al σ i=some (.tk (.abs q (some pv))):=by rfl) (hf:FnY P f ds (zH g0 q) (zH g0 q') b:=by assumption) (hg:gst ops σ g=some (true,gk):=by rfl) (hN:Nat.blt d N=true:=by rfl) (hs:aF ((i,.tk (.abs q' (some pv))) :: σ) d=true:=by rfl) (hu:Nat.beq i d=false:=by rfl):Der P ops W0 N Fin (⟨some d,.call { callee:=.value (.func f),args:=[x1,x2,x3,t].toArray,argTypes:=at' },ty,pos,after,g⟩ :: os) us pk fk σ:=
 jy (.d (.b b)) (i :: (kx t++kxs [x1,x2,x3])) [(i,.tk (.abs q' (some pv)))] (fun σ' c a w hk hc=>by
  have hi':=(hk i (List.mem_cons_self ..)).trans hi
  obtain ⟨hA,hT,hti⟩:=hc.tok i _ hi'
  have hv:a.eval t=.func (.func g0) #[] #[pv]:=ap hc (ah ht (fun κ hκ=>hk κ (List.mem_cons_of_mem _ (List.mem_append_left _ hκ))))
  have hpv:=hT.2 pv rfl
  unfold Oper.wp
  rw [cw hf.enter rfl]
  refine (hf.calls c.F (c.T i) w (a.eval t) ([x1,x2,x3].map a.eval) (by rw [hv];exact ⟨fun w' F' e1 e2 e3 e4=>⟨pv,rfl,by have:=hT.1 w' F' e1 e2 e3 e4;rw [hpv] at this;exact this⟩,fun u hu=>by cases hu⟩) (hr σ' a w c hc (fun κ hκ=>hk κ (List.mem_cons_of_mem _ (List.mem_append_right _ hκ)))) hc.lt (fun b hb=>⟨(hti b hb).1,(hti b hb).2.1⟩)).mono ?_
  rintro en w' ⟨rfl,hp⟩
  rw [hv] at hp
  obtain ⟨hp1,S',hp2,hp3⟩:=hp
  obtain ⟨c',hc'⟩:=hc.abs (p':=q') hi' ⟨hp1,S',hp2,fun w' F' e1 e2 e3 e4=>by
   obtain ⟨pv',e5,e6⟩:=hp3.1 w' F' e1 e2 e3 e4
   have e7 : #[pv] = #[pv']:=by injection e5
   have e8:pv=pv':=by simpa using e7
   rw [hpv,e8];exact e6,fun u hu=>by cases hu⟩
  exact ⟨_,c',rfl,hc',rfl⟩) h hg hN hs (by simp [hu])
theorem Ii {x t:Operand} {g0:Nat} (h:Der P ops W0 N Fin os (us++[((d :: (gk++(i :: (kx t++kxs [x]))))++pk,([d,i])++fk)]) [] [] ((d,.sy (.d (.b b))) :: (i,.tk (.abs (zH g0 q') tag)) :: σ)) (hr:evs σ [x]=some ds) (hf:FnY P g0 ds q q' b) (ht:ev σ t=some (.k i):=by rfl) (hi:al σ i=some (.tk (.abs (zH g0 q) tag)):=by rfl) (hg:gst ops σ g=some (true,gk):=by rfl) (hN:Nat.blt d N=true:=by rfl) (hs:aF ((i,.tk (.abs (zH g0 q') tag)) :: σ) d=true:=by rfl) (hu:Nat.beq i d=false:=by rfl):Der P ops W0 N Fin (⟨some d,.call { callee:=.value t,args:=[x].toArray,argTypes:=at' },ty,pos,after,g⟩ :: os) us pk fk σ:=
 jy (.d (.b b)) (i :: (kx t++kxs [x])) [(i,.tk (.abs (zH g0 q') tag))] (fun σ' c a w hk hc=>by
  have hi':=(hk i (List.mem_cons_self ..)).trans hi
  obtain ⟨hA,hT,hti⟩:=hc.tok i _ hi'
  obtain ⟨_,hv⟩:=ap hc (ah ht (fun κ hκ=>hk κ (List.mem_cons_of_mem _ (List.mem_append_left _ hκ))))
  obtain ⟨pv,hv2,_⟩:=hT.1 w c.F (fun _ h=>h) (Nat.le_refl _) (fun _ _ _=>rfl) (fun _ _ _=>rfl)
  have key:∀{w':World} {F':BS} {S:BS} {q:WP},zH g0 q w' F' (c.ρ i) S→q w' F' pv S:=fun hc=>by
   obtain ⟨pv',e1,e2⟩:=hc
   rw [hv2] at e1
   have e7 : #[pv] = #[pv']:=by injection e1
   have e8:pv=pv':=by simpa using e7
   rw [e8];exact e2
  unfold Oper.wp
  rw [oP hf.enter (cv:=[pv]) (by rw [hv,hv2])]
  refine (hf.calls c.F (c.T i) w pv ([x].map a.eval) ⟨fun w' F' e1 e2 e3 e4=>key (hT.1 w' F' e1 e2 e3 e4),fun u hu=>by cases hu⟩ (kR hc [x] ds hr (fun κ hκ=>hk κ (List.mem_cons_of_mem _ (List.mem_append_right _ hκ)))) hc.lt (fun b hb=>⟨(hti b hb).1,(hti b hb).2.1⟩)).mono ?_
  rintro en w' ⟨rfl,hp1,S',hp2,hp3⟩
  obtain ⟨c',hc'⟩:=hc.abs (p':=zH g0 q') hi' ⟨hp1,S',hp2,fun w' F' e1 e2 e3 e4=>⟨pv,hv2,hp3.1 w' F' e1 e2 e3 e4⟩,fun u hu=>by cases hu⟩
  exact ⟨_,c',rfl,hc',rfl⟩) h hg hN hs (by simp [hu])
theorem Ir {x:Operand} {g0:Nat} (h:Der P ops W0 N Fin os (us++[((d :: (gk++(i :: kx x)))++pk,([d])++fk)]) [] [] ((d,.sy (.v (.func (.func g0) #[] #[pv]))) :: σ)) (hx:ev σ x=some (.k i):=by rfl) (hi:al σ i=some (.tk (.abs q (some pv))):=by rfl) (hg:gst ops σ g=some (true,gk):=by rfl) (hN:Nat.blt d N=true:=by rfl) (hs:aF σ d=true:=by rfl):Der P ops W0 N Fin (⟨some d,.makeFunc (.func g0) #[] [x].toArray,ty,pos,after,g⟩ :: os) us pk fk σ:=
 cr (.v (.func (.func g0) #[] #[pv])) (i :: kx x) (fun σ' c a w hk hc=>by
  have hi':=(hk i (List.mem_cons_self ..)).trans hi
  obtain ⟨hA,hT,hti⟩:=hc.tok i _ hi'
  obtain ⟨_,hv⟩:=ap hc (ah hx (fun κ hκ=>hk κ (List.mem_cons_of_mem _ hκ)))
  have hpv:=hT.2 pv rfl
  refine ⟨.func (.func g0) #[] ([x].map a.eval).toArray,dl (X:=Instr.makeFunc (.func g0) (#[].map a.eval) ([x].toArray.map a.eval)) (by simp [Instr.makeFunc,go_sem]),?_⟩
  show Value.func (.func g0) #[] #[a.eval x]=_
  rw [hv,hpv]) h hg hN hs
theorem rT {x:Operand} {o:Nat} {cs:List Sy} {s:Sy} (h:Der P ops W0 N Fin os (us++[((d :: (gk++(i :: kx x)))++pk,([d])++fk)]) [] [] ((d,.sy s) :: σ)) (hx:ev σ x=some (.bx i o):=by rfl) (hi:al σ i=some (.tk (.bxt cs pv)):=by rfl) (hc:cs[o]? = some s:=by rfl) (hA:isAgg? P ty'=some false:=by rfl) (hg:gst ops σ g=some (true,gk):=by rfl) (hN:Nat.blt d N=true:=by rfl) (hs:aF σ d=true:=by rfl):Der P ops W0 N Fin (⟨some d,.load ty' x,ty,pos,after,g⟩ :: os) us pk fk σ:=
 cr s (i :: kx x) (fun σ' c a w hk hh=>by
  obtain ⟨hAi,b,h1,h2⟩:=ap hh (ah hx (fun κ hκ=>hk κ (by simp [hκ])))
  obtain ⟨_,⟨_,b',vs,h3,h4,h5,h6⟩,_⟩:=hh.tok i _ ((hk i (by simp)).trans hi)
  rw [h1] at h3;cases h3
  obtain ⟨v,h7,h8⟩:=qB cs vs o s h5 hc
  exact ⟨v,dl (X:=Instr.loadAt ty' (a.eval x)) (by rw [h2];exact gY hA (h6 o v h7).1),h8⟩) h hg hN hs
theorem C9 {x y:Operand} {j o:Nat} {cs:List Sy} (h:Der P ops W0 N Fin os (us++[((gk++(i :: ([j]++(kx x++kx y))))++pk,([i])++fk)]) [] [] ((i,.tk (.bxt (cs.set o (.k j)) pv)) :: σ)) (hx:ev σ x=some (.bx i o):=by rfl) (hi:al σ i=some (.tk (.bxt cs pv)):=by rfl) (hy:ev σ y=some (.k j):=by rfl) (h1:pu σ (.k j)=true:=by rfl) (ho:Nat.blt o cs.length=true:=by rfl) (hz:sizeOf? P ty'=some 1:=by rfl) (hg:gst ops σ g=some (true,gk):=by rfl):Der P ops W0 N Fin (⟨none,.store ty' x y,ty,pos,after,g⟩ :: os) us pk fk σ:=
 lq (i :: ([j]++(kx x++kx y))) [(i,.tk (.bxt (cs.set o (.k j)) pv))] (fun σ' c a w hk hc=>by
  obtain ⟨hAi,b,e1,e2⟩:=ap hc (ah hx (fun κ hκ=>hk κ (by simp [hκ])))
  have hi':=(hk i (by simp)).trans hi
  obtain ⟨_,⟨e0,b',vs,e3,e4,e5,e6⟩,hlt⟩:=hc.tok i _ hi'
  rw [e1] at e3;cases e3
  have hv:=ap hc (ah hy (fun κ hκ=>hk κ (by simp [hκ])))
  have hone:(a.eval y).oneCell'=true:=my hc hv ((kG (fun κ hκ=>hk κ (by simp [kSy] at hκ;simp [hκ]))).trans h1)
  have hol:o<vs.length:=by rw [cM _ _ e5];exact Nat.blt_eq.mp ho
  obtain ⟨q4,q5⟩:=e6 o _ (List.getElem?_eq_getElem hol)
  unfold Oper.wp
  rw [fu hz hone q4 q5 e2 rfl]
  have hch:Chg (c.T i) w (w.setCell ⟨b,o,none⟩ (a.eval y)):=Chg.grown (co b o _) (fun g hg=>by cases hg;exact e4)
  refine ⟨rfl,c,hc.upd hi' hch (by simp) (fun hag=>⟨e0,b,vs.set o (a.eval y),e1,e4,?_,e6.set o _⟩)⟩
  exact jY _ _ _ _ _ (Sy.keeps (Cx.Le.refl c) hag _ _ e5) (Sy.keep (Cx.Le.refl c) hag _ _ hv)) h hg
end
section
variable {P:Program} {W0:cz} {N:Nat} {σ:Env} {C:Code} {Q:Exit→Act→World→Prop} {i j t:Nat} {z e:Nat} {ds:List D} {u:Value} {cs:List Sy} {x:Exit}
theorem JJ (i:Nat) (h:∀u:Value,ar P W0 N C ((i,.tk (.bxt cs u)) :: σ) Q) (hi:al σ i=some (.tk (.bx cs)):=by rfl):ar P W0 N C σ Q:=by
 intro a w ⟨c,hc⟩
 obtain ⟨hA,⟨b,us,h1,h2,h3,h4⟩,hti⟩:=hc.tok i _ hi
 exact h (c.ρ i) a w ⟨c,hc.upd2 hi Chg.rfl' (fun _=>⟨rfl,b,us,h1,h2,h3,h4⟩)⟩
theorem Holds.abs {a:Act} {w:World} (hh:Holds W0 N σ a w) (ht:al σ t=some (.sy (.bx i 0))) (hi:al σ i=some (.tk (.bxt [.k j] u))) (hj:al σ j=some (.tk (.row z e ds))) (hne:(Nat.beq j i || Nat.beq i t || Nat.beq j t)=false):Holds W0 N ((t,.sy (.k i)) :: (i,.tk (.abs (zR z e ds) (some u))) :: (j,.no) :: σ) a w:=by
 simp only [Bool.or_eq_false_iff] at hne
 obtain ⟨⟨n1,n2⟩,n3⟩:=hne
 have n1:j≠i:=fun h=>by rw [h] at n1;simp at n1
 have n2:i≠t:=fun h=>by rw [h] at n2;simp at n2
 have n3:j≠t:=fun h=>by rw [h] at n3;simp at n3
 obtain ⟨c,hc⟩:=hh
 obtain ⟨hA,⟨h0,b,us,h1,h2,⟨y,t0,e1,⟨hAj,e2⟩,e3⟩,h4⟩,hti⟩:=hc.tok i _ hi
 cases (show t0 = [] from e3)
 obtain ⟨_,hTj,htj⟩:=hc.tok j _ hj
 have hS:(Tk.abs (zR z e ds) (some u)).ok c w (c.ρ i) (fun b=>c.T i b∨∃κ,κ∈[j]∧c.T κ b):=by
  have:=Dr (c:=c) (z:=z) (e:=e) (ds:=ds) (w:=w) (v:=c.ρ i) (S:=fun b=>c.T i b∨∃κ,κ∈[j]∧c.T κ b) ⟨b,c.ρ j,c.T j,h1,.inl h2,fun b' hb'=>⟨.inr ⟨j,by simp,hb'⟩,fun eb=>hc.off i j _ _ hi hj (Ne.symm n1) b h2 (eb ▸ hb')⟩,by rw [e1,e2] at h4;exact h4,AE hTj⟩
  exact ⟨this.1,fun u' hu'=>by cases hu';exact h0⟩
 have h5:=hc.eatM [j] hi (fun κ hκ=>by rw [List.mem_singleton.1 hκ];exact ⟨n1,_,hj⟩) Chg.rfl' (fun _=>hS)
 refine ⟨_,h5.slot (s:=.bx i 0) ?_ (fun v hv=>?_)⟩
 ·rw [List.cons_append,ab,if_neg n2,List.map_cons,List.cons_append,ab,if_neg n3];exact ht
 ·obtain ⟨q1,b',q2,q3⟩:=hv
  exact ⟨q1,by rw [q3];exact q2.symm⟩
theorem JO (t i j:Nat) (h:ar P W0 N C ((t,.sy (.k i)) :: (i,.tk (.abs (zR z e ds) (some u))) :: (j,.no) :: σ) Q) (ht:al σ t=some (.sy (.bx i 0)):=by rfl) (hi:al σ i=some (.tk (.bxt [.k j] u)):=by rfl) (hj:al σ j=some (.tk (.row z e ds)):=by rfl) (hne:(Nat.beq j i || Nat.beq i t || Nat.beq j t)=false:=by rfl):ar P W0 N C σ Q:=fun a w hh=>h a w (hh.abs ht hi hj hne)
theorem J2 (t i j:Nat) (h:At W0 N ((t,.sy (.k i)) :: (i,.tk (.abs (zR z e ds) (some u))) :: (j,.no) :: σ) x Q) (ht:al σ t=some (.sy (.bx i 0)):=by rfl) (hi:al σ i=some (.tk (.bxt [.k j] u)):=by rfl) (hj:al σ j=some (.tk (.row z e ds)):=by rfl) (hne:(Nat.beq j i || Nat.beq i t || Nat.beq j t)=false:=by rfl):At W0 N σ x Q:=fun a w hh=>h a w (hh.abs ht hi hj hne)
theorem Fb (t i j:Nat) (h:ar P W0 N C ((t,.sy (.bx i 0)) :: (i,.tk (.bxt [.k j] u)) :: (j,.tk (.row z e ds)) :: σ) Q) (ht:al σ t=some (.sy (.k i)):=by rfl) (hi:al σ i=some (.tk (.abs (zR z e ds) (some u))):=by rfl) (hj:al σ j=none:=by rfl) (hne:(Nat.beq j i || Nat.beq i t || Nat.beq j t)=false:=by rfl):ar P W0 N C σ Q:=by
 simp only [Bool.or_eq_false_iff] at hne
 obtain ⟨⟨n1,n2⟩,n3⟩:=hne
 have n1:j≠i:=fun h=>by rw [h] at n1;simp at n1
 have n2:i≠t:=fun h=>by rw [h] at n2;simp at n2
 have n3:j≠t:=fun h=>by rw [h] at n3;simp at n3
 intro a w ⟨c,hc⟩
 obtain ⟨hA,hT,hti⟩:=hc.tok i _ hi
 obtain ⟨b,v,S2,h1,h2,h3,h4,h5⟩:=hT.1 w c.F (fun _ h=>h) (Nat.le_refl _) (fun _ _ _=>rfl) (fun _ _ _=>rfl)
 have hu:=hT.2 u rfl
 have k1:=hc.upd3 (F':=c.F) (S':=fun b'=>b'=b) (u:=.bx [.v v]) hi Chg.rfl' (fun _ h=>h) (fun b' hb'=>⟨.inl hb',hc.lt b' hb'⟩) (fun b' hb'=>by subst hb';exact ⟨.inl h2,(hti _ h2).2.1,(hti _ h2).1⟩) (fun _=>⟨b,[v],h1,rfl,⟨v,[],rfl,rfl,rfl⟩,h4⟩)
 have k2:=k1.new (i:=j) (t:=.row z e ds) (v:=v) (S:=S2) (by rw [ab,if_neg (Ne.symm n1)];exact hj) (uM h5) (fun b' hb'=>⟨(hti b' (h3 b' hb').1).1,(hti b' (h3 b' hb').1).2.1,(hti b' (h3 b' hb').1).2.2⟩) (fun k x hk b' hb' hTk=>by
  rw [ab] at hk
  split at hk
  ·rename_i ek
   subst ek
   have hTk':(if i=i then (fun b'=>b'=b) else c.T i) b':=hTk
   rw [if_pos rfl] at hTk'
   exact (h3 b' hb').2 hTk'
  ·rename_i ek
   have hTk':(if k=i then (fun b'=>b'=b) else c.T k) b':=hTk
   rw [if_neg (Ne.symm ek)] at hTk'
   exact hc.off i k _ _ hi hk ek b' (h3 b' hb').1 hTk')
 have hi2:al ((j,In.tk (.row z e ds)) :: (i,.tk (.bx [.v v])) :: σ) i=some (.tk (.bx [.v v])):=by rw [ab,if_neg n1,ab,if_pos rfl]
 obtain ⟨hAj,_,_⟩:=k2.tok j _ (by rw [ab,if_pos rfl])
 obtain ⟨_,⟨b2,us2,m1,m2,⟨y2,t2,m3,m4,m5⟩,m6⟩,_⟩:=k2.tok i _ hi2
 cases (show t2 = [] from m5)
 have hρj:(Cx.add { c with F:=c.F,T:=fun k=>if k=i then (fun b'=>b'=b) else c.T k } j v S2).ρ j=v:=if_pos rfl
 have hρi:(Cx.add { c with F:=c.F,T:=fun k=>if k=i then (fun b'=>b'=b) else c.T k } j v S2).ρ i=c.ρ i:=if_neg (Ne.symm n1)
 have k3:=k2.upd2 (u:=.bxt [.k j] u) hi2 Chg.rfl' (fun _=>⟨hρi.trans hu,b2,us2,m1,m2,⟨y2,[],m3,⟨hAj,by rw [hρj];exact m4⟩,rfl⟩,m6⟩)
 have k4:=k3.slot (t:=t) (s:=.k i) (s':=.bx i 0) (by rw [ab,if_neg n2,ab,if_neg n3,ab,if_neg n2];exact ht) (fun v' hv'=>⟨hv'.1,b,hρi.trans h1,hv'.2.trans (hρi.trans h1)⟩)
 refine h a w (Holds.congr ⟨_,k4⟩ (fun κ=>?_))
 simp only [ab]
 by_cases e1:t=κ
 ·simp [e1]
 by_cases e2:i=κ
 ·simp [e1,e2]
 by_cases e3:j=κ
 ·simp [e1,e2,e3]
 ·simp [e1,e2,e3]
end
def GL (ds:List D) (p:WP) (v:Value):Env:=Fc 0 ds++[(ds.length,.sy (.k 20000)),(20000,.tk (.abs p (some v)))]
def GK (W0:cz) (v:Value) (p':WP) (b:Bool):Ending→World→Prop:=fun e w'=>e=.returned (.bool b)∧vT W0.w W0.F W0.M v p' w'
theorem Hi {P:Program} {W0:cz} {N:Nat} {σ:Env} {fn:Func} {rs:List ResultVar} {v:Value} {p':WP} {b:Bool} (hr:fn.results=rs.toArray:=by rfl) (hd:CT P σ rs=some [.b b]:=by rfl) (ht:al σ 20000=some (.tk (.abs p' (some v))):=by rfl):At W0 N σ .ret (bodyPost P fn (GK W0 v p' b)):=fun a w hh=>by
 obtain ⟨c,h⟩:=hh
 obtain ⟨vs,h1,u,t,rfl,h2,h3⟩:=pp h rs _ hd
 have:t = []:=h3
 subst this
 have h2':u=.bool b:=(List.cons.inj (show [u] = [Value.bool b] from h2)).1
 obtain ⟨hA,⟨hT,htag⟩,hti⟩:=h.tok _ _ ht
 have hv:=htag v rfl
 rw [hv] at hT
 refine bodyPost_ret (v:=u) ?_ h.defers ⟨by rw [h2'],h.ext,c.T 20000,fun b' hb'=>⟨(hti b' hb').2.2,(hti b' hb').2.1⟩,fun w2 F2 e1 e2 e3 e4=>?_,fun u hu=>by cases hu⟩
 ·rw [gM,hr,Array.mapM_eq_mapM_toList,show rs.toArray.toList=rs from rfl]
  simp only [Sem.run_bind,Sem.run_map,h1]
  simp [Result.andThen]
 ·have sub:∀b',c.F b'→frF W0.w w W0.F W0.M (c.T 20000) b':=fun b' hb'=>⟨h.old b' hb',fun hs=>(hti b' hs).1 hb',h.lt b' hb'⟩
  exact hT w2 F2 (fun b' hb'=>e1 b' (sub b' hb')) e2 (fun b' hb' hl=>e3 b' (sub b' hb') hl) e4
theorem AH {P:Program} {f:FuncId} {ds:List D} {p:WP} {fn:Func} {c:Code} {N:Nat} {Post:cz→Value→Ending→World→Prop} (hf:P.funcs[f]? = some fn) (h:WfL ds→∀(W0:cz) (v:Value),ar P W0 N c (GL ds p v) (bodyPost P fn (Post W0 v))) (hb:fn.body=some c) (hN:fn.ntmps=N) (hl:Nat.blt ds.length N=true) (hl2:Nat.blt ds.length 20000=true) (F S:BS) (w:World) (v:Value) (vs:List Value) (hp:(Tk.abs p none).ok (Cx.of F) w v S) (hv:DVs w F ds vs) (hF:∀b,F b→b<w.heap.size) (hS:∀b,S b→¬F b∧b<w.heap.size):Calls P f (vs++[v]).toArray w (Post ⟨w,F,S⟩ v):=by
 have hl':=Nat.blt_eq.mp hl
 have hl2':=Nat.blt_eq.mp hl2
 obtain ⟨hvl,hva⟩:=xV ds vs hv
 have lk:∀j i,al (GL ds p v) j=some i→(∃r,i=.sy (dsy r)∧ds[j]? = some r)∨(j=ds.length∧i=.sy (.k 20000))∨(j=20000∧i=.tk (.abs p (some v))):=fun j i hj=>by
  unfold GL at hj
  rw [eW] at hj
  cases hl3:al (Fc 0 ds) j with
  | some x=>
   rw [hl3] at hj
   obtain ⟨r,h1,h2,h3⟩:=gU ds 0 j x hl3
   cases (show x=i from Option.some.inj hj)
   exact .inl ⟨r,h1,h3⟩
  | none=>
   rw [hl3] at hj
   have hj':al [(ds.length,In.sy (.k 20000)),(20000,.tk (.abs p (some v)))] j=some i:=hj
   rw [ab,ab] at hj'
   split at hj'
   ·rename_i e;cases hj';exact .inr (.inl ⟨e.symm,rfl⟩)
   ·split at hj'
    ·rename_i e;cases hj';exact .inr (.inr ⟨e.symm,rfl⟩)
    ·cases hj'
 have key:∀(i:Nat) (t:Tk),al (GL ds p v) i=some (.tk t)→i=20000∧t=.abs p (some v):=fun i t hi=>by
  rcases lk i _ hi with ⟨r,h1,_⟩|⟨_,h1⟩|⟨h1,h2⟩
  ·cases r <;> cases h1
  ·cases h1
  ·cases h2;exact ⟨h1,rfl⟩
 have look20:al (GL ds p v) 20000≠none:=fun e=>by
  unfold GL at e
  rw [eW] at e
  cases hl3:al (Fc 0 ds) 20000 with
  | some x=>rw [hl3] at e;cases e
  | none=>
   rw [hl3] at e
   have e':al [(ds.length,In.sy (.k 20000)),(20000,.tk (.abs p (some v)))] 20000=none:=e
   rw [ab,if_neg (by omega),ab,if_pos rfl] at e'
   cases e'
 refine calls_of_wp hf hb (h hv.wf ⟨w,F,S⟩ v _ w ⟨⟨F,fun _=>v,fun _=>S,fun i=>i=20000⟩,Chg.rfl',fun b hb=>.inl hb,hF,?_,rfl,fun i hi=>by rw [show i=20000 from hi];exact look20,fun i t ht=>?_,fun i j t u hi hj hne=>absurd ((key i t hi).1.trans (key j u hj).1.symm) hne,fun t s ht=>?_⟩)
 ·simp [hN,hvl];omega
 ·obtain ⟨rfl,rfl⟩:=key i t ht
  exact ⟨rfl,⟨hp.1,fun u hu=>by cases hu;rfl⟩,fun b hb=>⟨(hS b hb).1,(hS b hb).2,.inl hb⟩⟩
 ·rcases lk t _ ht with ⟨r,h1,h2⟩|⟨h1,h2⟩|⟨h1,h2⟩
  ·cases h1
   obtain ⟨u,k1,k2⟩:=hva t r h2
   have ht':t<vs.length:=(List.getElem?_eq_some_iff.1 k1).1
   refine ⟨u,?_,?_⟩
   ·rw [Array.getElem?_append_left (by simp;omega)]
    simp [List.getElem?_append_left ht',k1]
   ·exact Cu k2
  ·cases h2
   subst h1
   refine ⟨v,?_,rfl,rfl⟩
   rw [Array.getElem?_append_left (by simp;omega)]
   simp [List.getElem?_append_right,hvl]
  ·cases h2
theorem CC {P : Program} {f : FuncId} {fn : Func} {c : Code} (hf : P.funcs[f]? = some fn) (hb : fn.body = some c) (hnm : (fn.name == "runtime.NumGoroutine") = false) (args : Array Value) (w : World) : (callFunc f args).run P w = .ok (.enter f args) w := by
 unfold callFunc
 simp only [Sem.run_bind,show (program).run P w=.ok P w from rfl,Result.andThen_ok,hf,hnm,hb]
 rfl
theorem Ac {P : Program} {f : FuncId} {ds : List D} {p p' : WP} {b : Bool} {fn : Func} {c : Code} {N : Nat} (hf : P.funcs[f]? = some fn) (h : WfL ds → ∀ (W0 : cz) (v : Value), ar P W0 N c (GL ds p v) (bodyPost P fn (GK W0 v p' b))) (hb : fn.body = some c := by rfl) (hN : fn.ntmps = N := by rfl) (hl : Nat.blt ds.length N = true := by rfl) (hl2 : Nat.blt ds.length 20000 = true := by rfl) (hnm : (fn.name == "runtime.NumGoroutine") = false := by kernel_rfl) : FnY P f ds p p' b :=
 ⟨CC hf hb hnm,fun F S w v vs hp hv hF hS=>AH (Post:=fun W0 v=>GK W0 v p' b) hf h hb hN hl hl2 F S w v vs hp hv hF hS⟩
theorem Dv {w:World} {S:BS} {sh ds es rs:List D} {vs:List Value} (hn:s5 sh ds=some (es,[])) (h:DVs w S (.t ds :: rs) vs):DVs w S (.t es :: rs) vs:=by
 obtain ⟨v,t,h1,⟨cs,h2,h3⟩,h4⟩:=h
 obtain ⟨us,xs,e1,e2,e3⟩:=nW sh ds es [] cs hn h3
 cases (show xs = [] from e3)
 rw [List.append_nil] at e1
 exact ⟨v,t,h1,⟨us,by rw [h2,e1],e2⟩,h4⟩
theorem FnD.nest {P:Program} {f:FuncId} {xs:List D} (sh ds:List D) {es rs:List D} (h:FnD P f xs (.tp (.t ds :: rs))) (hn:s5 sh ds=some (es,[]):=by rfl):FnD P f xs (.tp (.t es :: rs)):=⟨h.enter,fun F w vs hv hF=>(h.calls F w vs hv hF).mono fun e w' ⟨v,h1,h2,us,h3,h4⟩=>⟨v,h1,h2,us,h3,Dv hn h4⟩⟩
theorem dU {P:Program} {ops:Array Oper} {W0:cz} {N:Nat} {Fin:Us→Env→Prop} {os:List Oper} {us:Us} {pk fk:List Nat} {σ:Env} {d ty:Nat} {pos:String} {after:Array Edge} {op:Op} {j d':Nat} {want:Bool} (h:Der P ops W0 N Fin os (us++[((d :: [d'])++pk,([d])++fk)]) [] [] ((d,.sy (.v undef)) :: σ)) (hj:(ops[j]?).bind (·.dst)=some d':=by rfl) (hu:al σ d'=some (.sy (.v undef)):=by rfl) (hN:Nat.blt d N=true:=by rfl) (hs:aF σ d=true:=by rfl):Der P ops W0 N Fin (⟨some d,op,ty,pos,after,some (j,want)⟩ :: os) us pk fk σ:=by
 refine ⟨d :: [d'],[(d,.sy (.v undef))],fun σ' a w hk hh=>.inr ⟨?_,?_⟩,h⟩
 ·obtain ⟨c,hc⟩:=hh
  obtain ⟨v,h1,h2⟩:=hc.tmp d' _ ((hk d' (by simp)).trans hu)
  have:v=undef:=h2
  subst this
  show (yielded ops a.tmps j == some want)=false
  unfold yielded
  rw [hj]
  simp only [Option.bind_some,h1]
  rfl
 ·obtain ⟨c,hc⟩:=hh
  exact ⟨c,hc.put (Nat.blt_eq.mp hN) rfl (by rw [hk d (by simp)];exact i2 hs)⟩
structure JG (P:Program) (f:FuncId):Prop where
 enter:∀args w,(callFunc f args).run P w=.ok (.enter f args) w
 calls:∀(a:Option Addr) (n k:Nat) (w:World),n≤k→k≤maxLen→Calls P f #[.slice a n k] w fun en w'=>en=.returned (.slice a n n)∧w'=w
section
variable {P:Program} {ops:Array Oper} {W0:cz} {N:Nat} {Fin:Us→Env→Prop} {os:List Oper} {us:Us} {pk fk:List Nat} {σ:Env} {g:Option (Nat × Bool)} {gk:List Nat} {d ty ty' f:Nat} {pos:String} {after:Array Edge} {at':Array TypeId} {x y:Operand} {z e n:Nat} {xs ys:List D} {ti:TypeInfo}
theorem HR (hf:JG P f) (h:Der P ops W0 N Fin os (us++[((d :: (gk++kx x))++pk,([d])++fk)]) [] [] ((d,.sy (.cl z xs)) :: σ)) (hx:ev σ x=some (.d (.l z xs)):=by rfl) (hg:gst ops σ g=some (true,gk):=by rfl) (hN:Nat.blt d N=true:=by rfl) (hs:aF σ d=true:=by rfl):Der P ops W0 N Fin (⟨some d,.call { callee:=.value (.func f),args:=[x].toArray,argTypes:=at' },ty,pos,after,g⟩ :: os) us pk fk σ:=
 jy (.cl z xs) (kx x) [] (fun σ' c a w hk hc=>by
  obtain ⟨ad,k,h1,h2,h3,h4,h5⟩:=ap hc (ah hx hk)
  have h1':a.eval x=.slice ad xs.length k:=by simpa using h1
  unfold Oper.wp
  rw [cw hf.enter rfl]
  show Calls P f (#[a.eval x]) w _
  rw [h1']
  refine (hf.calls ad xs.length k w h2 h3).mono ?_
  rintro en w' ⟨rfl,rfl⟩
  refine ⟨_,c,rfl,hc,⟨ad,xs.length,rfl,Nat.le_refl _,Nat.le_trans h2 h3,fun h=>?_,h5⟩,ad,rfl⟩
  have:=h4 h
  omega) h hg hN hs rfl
theorem aU {z0:Value} (h:Der P ops W0 N Fin os (us++[((d :: (gk++((10000+d) :: (kx x++kx y))))++pk,([d,10000+d])++fk)]) [] [] ((d,.sy (.k (10000+d))) :: (10000+d,.tk (.row n e (xs++ys))) :: σ)) (hx:ev σ x=some (.cl n xs):=by rfl) (hy:ev σ y=some (.d (.l n ys)):=by rfl) (hf:al σ (10000+d)=none:=by rfl) (he:elem? P ty'=some e:=by rfl) (hti:P.info? e=some ti:=by rfl) (htz:ti.zero=some z0:=by rfl) (hsz:ti.size=n:=by rfl) (hzs:z0.cells.size=n:=by rfl) (hn:(Nat.blt 0 n && Nat.ble ti.bytes 1000)=true:=by rfl) (hb:xs.length+ys.length≤1000000:=by first|omega|(simp only [List.length_map,List.length_cons,List.length_nil,List.length_append,List.length_take,List.length_drop];omega)) (hy0:0<ys.length:=by first|exact Nat.succ_pos _|omega) (hg:gst ops σ g=some (true,gk):=by rfl) (hN:Nat.blt d N=true:=by rfl) (hs:aF ((10000+d,.tk (.row n e (xs++ys))) :: σ) d=true:=by rfl) (hu:Nat.beq (10000+d) d=false:=by rfl):Der P ops W0 N Fin (⟨some d,.call { callee:=.builtin .append,args:=#[x,y],argTypes:=#[ty',ty'] },ty,pos,after,g⟩ :: os) us pk fk σ:=by
 refine jy (.k (10000+d)) ((10000+d) :: (kx x++kx y)) [(10000+d,.tk (.row n e (xs++ys)))] (fun σ' c a w hk hc=>?_) h hg hN hs (by simp [hu])
 obtain ⟨hxv,ao,hxa⟩:=ap hc (ah hx (fun κ hκ=>hk κ (by simp [hκ])))
 have hyv:=ap hc (ah hy (fun κ hκ=>hk κ (by simp [hκ])))
 have hf':al σ' (10000+d)=none:=(hk _ (by simp)).trans hf
 have fin:∀v' w',(Builtin.append_ #[ty',ty'] ty #[a.eval x,a.eval y]).run P w=.ok v' w'→(execOp a.eval ⟨some d,.call { callee:=.builtin .append,args:=#[x,y],argTypes:=#[ty',ty'] },ty,pos,after,g⟩).run P w=.ok (.value v') w':=fun v' w' hr=>by
  generalize a.eval=ρ at *
  simp [execOp,resolve,invoke,builtin,hr,Result.andThen]
 unfold Oper.wp
 by_cases hx0:xs = []
 ·subst hx0
  obtain ⟨v',w',c',r1,r2,r3⟩:=hc.app0 (P:=P) (ty:=ty) he hti htz hsz hzs hn ao hyv (by simp at hb;exact hb) (id:=10000+d) hf'
  rw [fin v' w' (by rw [hxa];exact r1)]
  exact ⟨v',c',rfl,r2,r3⟩
 rw [Bool.and_eq_true] at hn
 have hn0:0<n:=Nat.blt_eq.mp hn.1
 obtain ⟨ad,k,h1,h2,h3,h4,h5⟩:=hxv
 have h1':a.eval x=.slice ad xs.length k:=by simpa using h1
 rw [hxa] at h1'
 have e1:=Value.slice.inj h1'
 rcases h5 with h5|⟨b,o,e2,hFb,hR⟩
 ·exact absurd h5 hx0
 obtain ⟨olds,o1,o2,o3,o4⟩:=RpR.news xs o hR
 obtain ⟨ad2,k2,hyv1,hk1,hk2,hk3,hk4⟩:=hyv
 have hyv':a.eval y=.slice ad2 ys.length k2:=by simpa using hyv1
 rcases hk4 with hk4|⟨b2,o2',rfl,_,hR2⟩
 ·rw [hk4] at hy0;exact absurd hy0 (Nat.lt_irrefl _)
 obtain ⟨news,n1,n2,n3,n4⟩:=RpR.news ys o2' hR2
 have hadd:∀(b o j:Nat),((⟨b,o,none⟩:Addr).add j)=⟨b,o+j,none⟩:=fun b o j=>by cases j <;> simp [Addr.add]
 have hmb:(xs.length+ys.length) * ti.bytes≤140737488355328:=by
  have:(xs.length+ys.length) * ti.bytes≤1000000 * 1000:=Nat.mul_le_mul hb (Nat.le_of_ble_eq_true hn.2)
  omega
 obtain ⟨v',w',r1,r2,r3⟩:=run_append_arg_grows (P:=P) w ty' ty e ti z0 n ti.bytes (dE he) hti htz hsz rfl hzs hn0 ⟨b,o,none⟩ xs.length xs.length olds o1 (fun j u hj=>by rw [hadd];exact o2 j u hj) ⟨b2,o2',none⟩ ys.length k2 news n1 (fun j u hj=>by rw [hadd];exact n2 j u hj) (by omega) (by unfold maxLen;omega) hmb
 rw [fin v' w' (by rw [hxa,e1.1,e2,hyv'];exact r1)]
 have hX:Ext w w':=⟨r3.os,r3.tape,r3.output,r3.size,fun j hj=>r3.block j hj (by simp)⟩
 have hc1:=hc.grow hX c.F (fun _ h=>h) (fun _ h=>.inl h) (fun b hb=>Nat.lt_of_lt_of_le (hc.lt b hb) (Below.size hX))
 have hge:∀b,v'.ownBlock=some b→w.heap.size≤b∧b<w'.heap.size:=fun b hb=>by
  rcases r2.2 with ⟨h6,h7⟩|⟨g',cap,cur,h6,h7,h8,_⟩
  ·omega
  ·rw [h6] at hb;cases hb;exact ⟨h7,(Array.getElem?_eq_some_iff.1 h8).1⟩
 refine ⟨v',_,rfl,hc1.new (i:=10000+d) (t:=.row n e (xs++ys)) (v:=v') (S:=fun b=>v'.ownBlock=some b) hf' (.inr ⟨olds++news,by rw [List.length_append];exact r2.mono (Nat.zero_le _),fun g hg=>hg,fun j hj=>?_⟩) (fun b hb=>⟨fun hF=>?_,(hge b hb).2,.inr (Nat.le_trans hc.ext.size (hge b hb).1)⟩) (fun j u hj b hb hT=>?_),.inr rfl,(if_pos rfl).symm⟩
 ·by_cases hjx:j<xs.length
  ·obtain ⟨cs,q1,q2,q3⟩:=o4 j hjx
   refine ⟨cs,q1,?_,fun t u ht=>?_⟩
   ·rw [List.getElem_append_left hjx]
    exact Rp.keep (fun _ h=>h) (fun b _ hl=>hX.block b hl) _ _ q2
   ·have h9:=q3 t u ht
    rw [List.getElem?_append_left (List.getElem?_eq_some_iff.1 h9).1];exact h9
  ·have hjy:j - xs.length<ys.length:=by rw [List.length_append] at hj;omega
   obtain ⟨cs,q1,q2,q3⟩:=n4 (j - xs.length) hjy
   refine ⟨cs,q1,?_,fun t u ht=>?_⟩
   ·rw [List.getElem_append_right (by omega)]
    exact Rp.keep (fun _ h=>h) (fun b _ hl=>hX.block b hl) _ _ q2
   ·have h9:=q3 t u ht
    have hj2:j * n+t=olds.length+((j - xs.length) * n+t):=by
     rw [o1]
     have:j=xs.length+(j - xs.length):=by omega
     rw [this,Nat.add_mul]
     simp only [Nat.add_sub_cancel_left]
     omega
    rw [hj2,List.getElem?_append_right (by omega),Nat.add_sub_cancel_left];exact h9
 ·exact absurd (hc.lt b hF) (Nat.not_lt.2 (hge b hb).1)
 ·exact absurd ((hc.tok j u hj).2.2 b hT).2.1 (Nat.not_lt.2 (hge b hb).1)
end
end Go.Proofs.YtnobdioccfeokaaGreatDoor
namespace Go.Proofs.YtnobdioccfeokaaGreatDoor
open Go.RowKit
set_option linter.unusedVariables false
set_option maxRecDepth 100000
set_option maxHeartbeats 4000000
attribute [local irreducible] ar Der At
def iH (r a:Big) (ns:List Int):Mat:=⟨ns,rtL r a ns r.roots.toNat⟩
def lD (r a:Big):Nat→List Int→List Mat
 | 0,ns=>if er r a (iH r a ns) then [iH r a ns] else []
 | n+1,ns=>(List.range a.nodes.length).flatMap fun i=>if s9 r a ns i then lD r a n (ns++[(i:Int)]) else []
def gv (r a:Big) (n:Nat) (ns:List Int) (k:Nat):List Mat:=(List.range k).flatMap fun i=>if s9 r a ns i then lD r a n (ns++[(i:Int)]) else []
theorem m8 (r a:Big) (n:Nat) (ns:List Int) (k:Nat):gv r a n ns (k+1)=gv r a n ns k++(if s9 r a ns k then lD r a n (ns++[(k:Int)]) else []):=by unfold gv;rw [List.range_succ,List.flatMap_append];simp
theorem t6 (r a:Big) (n:Nat) (ns:List Int) (k:Nat):∀j,∃t,gv r a n ns (k+j)=gv r a n ns k++t:=by
 intro j
 induction j with
 | zero=>exact ⟨[],by simp⟩
 | succ j ih=>
  obtain ⟨t,ht⟩:=ih
  rw [show k+(j+1)=k+j+1 by omega,m8,ht,List.append_assoc]
  exact ⟨_,rfl⟩
theorem AB {r a:Big} {n:Nat} {ns:List Int} {k K m:Nat} (hk:k≤K) (h:m<((gv r a n ns k).take (m+1)).length):(gv r a n ns K).take (m+1)=(gv r a n ns k).take (m+1):=by
 obtain ⟨t,ht⟩:=t6 r a n ns k (K - k)
 rw [show k+(K - k)=K by omega] at ht
 rw [List.length_take] at h
 rw [ht,List.take_append_of_le_length (by omega)]
theorem zf {r a:Big} {n:Nat} {ns:List Int} {k m:Nat} {l t:List Mat} (hl:l=(gv r a n ns k).take (m+1)) (h:l.length≤m) (ht:t=(if s9 r a ns k then lD r a n (ns++[(k:Int)]) else []).take (m - l.length+1)):l++t=(gv r a n ns (k+1)).take (m+1):=by
 have h1:(gv r a n ns k).length≤m:=by rw [hl,List.length_take] at h;omega
 have h2:l=gv r a n ns k:=by rw [hl,List.take_of_length_le (by omega)]
 rw [m8,ht,h2,List.take_append,List.take_of_length_le (l:=gv r a n ns k) (by omega),show m+1 - (gv r a n ns k).length=m - (gv r a n ns k).length+1 by omega]
theorem qb {b:Big} (h:cA b=true) (hr:0≤b.roots):∀n:Nat,(n:Int)<b.roots→0<(dJ b (-1 - (n:Int))).length:=fun n hn=>by
 unfold cA at h
 simp only [Bool.and_eq_true] at h
 have h2:=(aC _ _).1 h.2.1 n (by omega)
 unfold i4 at h2
 simp only [Bool.and_eq_true,Bool.not_eq_true',decide_eq_false_iff_not] at h2
 omega
theorem Cw (b:Big) (p:Int):∀x∈dJ b p,0≤x∧x<(b.nodes.length:Int):=fun x hx=>by
 obtain ⟨i,hi,_,rfl⟩:=bp.1 hx
 omega
theorem y6 {sig:List Ctl} {r a:Big} (hR:aH sig r=true) (hA:aH sig a=true) (hS:cA r=true):∀(n:Nat) (ns:List Int) (most:Nat),ns.length+n=r.nodes.length→(∀x∈ns,0≤x∧x<(a.nodes.length:Int))→most≤400 →
 FnD Tryz.prog 96 [r.D,a.D,DI ns,.i most] (.row 2 100 (((lD r a n ns).take (most+1)).map Mat.D)):=by
 have hd:=bw hR
 have hda:=(bw hA).nodes
 have hrn:=hd.nodes
 have hr0:=bl hR
 intro n
 induction n with
 | zero=>
  intro ns most hl hx hm
  have hnl:ns.length≤1000:=by omega
  have f1:=uX ns (by omega)
  have f2:=Cq (a:=a) hR ns (qb hS (by omega)) (fun p x hx=>by have:=Cw r p x hx;omega) hx
  have f3:=Bt (iH r a ns) hR hA (ii hS)
  have hdef:lD r a 0 ns=if er r a (iH r a ns) then [iH r a ns] else []:=rfl
  refine af Tryz.func96 (fun hw W0=>?_)
  refine kgo ?_
  refine aJ (fun h=>?_) (fun h=>?_)
  ·repeat (first|(refine ca ?_;first|refine aM ?_|refine b6 ?_|refine aR ?_|refine bh ?_|refine aL ?_|refine bg ?_|refine aX ?_|refine az ?_|refine aV ?_)|(refine eG ?_;first|refine bH ?_|refine eC ?_|refine bP ?_|refine cb ?_)|(refine eT ?_;first|refine cS (fun _=>?_)|refine cd ?_|refine bR ?_|refine b9 ?_|refine bu ?_|refine bJ ?_|refine b8 ?_)|(refine eR ?_;first|refine ch ?_|refine d7 ?_|refine b7 ?_|refine bD ?_|refine bN ?_|refine bX ?_|refine bS ?_)|(refine eK ?_;first|refine eF ?_|refine eA ?_|refine bU ?_|refine bG ?_|refine eH ?_|refine bd ?_|refine bc ?_)|(refine bV ?_;first|refine ba ?_|refine bT ?_)|(refine eV ?_;first|refine bI ?_|refine bQ ?_|refine eJ ?_)|(refine bL ?_;first|refine bO ?_|refine aS ?_|refine aN ?_|refine aW ?_|refine aQ ?_|refine aY ?_)|(refine eE ?_;first|refine bZ ?_|refine eB ?_|refine be ?_|refine aP ?_|refine aU ?_)|(refine aK ?_;first|refine aq _ ?_|refine bf ?_|refine aw ?_|refine au ?_|refine ax ?_)|(refine eP ?_;first|refine bW ?_|refine bE ?_|refine bM ?_)|(refine gOp ?_;first|refine eD ?_|refine eM ?_|refine aZ ?_|refine eU ?_|refine eN ?_|refine bK ?_|refine aO ?_|refine cf ?_|refine eO ?_|refine bC ?_|refine bY ?_|refine aT ?_|refine sFz 20 ?_|refine sFz 24 ?_|refine ay ?_|refine cg ?_|refine sNo ?_|refine dU ?_|refine av ?_)|refine dY ?_|refine dq ?_|refine fj ?_|refine bj ?_|refine ci ?_|refine br ?_|refine fm ?_|refine fl ?_|refine eX ?_|refine dB ?_|refine ck ?_|refine bo ?_|refine aA ?_|refine bk ?_|refine ct ?_|refine bt ?_|refine aBlkX ?_|refine cm ?_|refine sFz 20 ?_|refine sFz 24 ?_)
   cases h3:er r a (iH r a ns)
   ·rw [show (lD r a 0 ns).take (most+1) = [] by rw [hdef,h3];simp]
    refine kgo ?_
    exact pJ
   ·rw [show (lD r a 0 ns).take (most+1) = [iH r a ns] by rw [hdef,h3];simp]
    refine kgo ?_
    exact pJ
  ·omega
 | succ n ih=>
  intro ns most hl hx hm
  have hnl:ns.length≤1000:=by omega
  have f1:=uX ns (by omega)
  refine af Tryz.func96 (fun hw W0=>?_)
  refine kgo ?_
  refine aJ (fun h=>?_) (fun h=>?_)
  ·omega
  refine kgo ?_
  refine ai [2,3,4,5] (fun x:Nat × List Mat=>x.1≤a.nodes.length∧x.2=(gv r a n ns x.1).take (most+1)) (fun x=>a.nodes.length - x.1) (fun x=>[(11,.sy (.d (.i x.1))),(9,.sy (.k 20001)),(20001,.tk (.row 2 100 (x.2.map Mat.D)))]) (0,[]) ⟨Nat.zero_le _,by simp [gv]⟩ (fun x hx'=>?_)
  obtain ⟨i,l⟩:=x
  obtain ⟨hi,hxl⟩:=hx'
  dsimp only at hi hxl ⊢
  have hll:l.length≤most+1:=by rw [hxl,List.length_take];omega
  refine kgo ?_
  cases h1:decide ((i:Int)<a.nodes.length)
  ·have h1:=of_decide_eq_false h1
   obtain rfl:i=a.nodes.length:=by omega
   refine kgo ?_
   rw [show lD r a (n+1) ns=gv r a n ns a.nodes.length from rfl,← hxl]
   exact pJ
  have h1:=of_decide_eq_true h1
  have hlt:i<a.nodes.length:=by omega
  refine kgo ?_
  refine aJ (fun h2=>?_) (fun h2=>?_)
  ·rw [List.length_map] at h2
   have f2:=GC (a:=a) hR ns i hlt (by omega)
   have hmore:=fun t=>zf (t:=t) hxl (by omega)
   refine kgo ?_
   cases h3:s9 r a ns i
   ·rw [h3] at hmore
    have:=hmore [] (by simp)
    rw [List.append_nil] at this
    refine kgo ?_
    exact aa (i+1,l) ⟨hlt,this⟩ (by show _ - (i+1)<_ - i;omega)
   ·rw [h3,if_pos rfl] at hmore
    have f3:=ih (ns++[(i:Int)]) (most - l.length) (by rw [List.length_append,List.length_singleton];omega) (fun x hx'=>by
     rcases List.mem_append.1 hx' with h|h
     ·exact hx x h
     ·rw [List.mem_singleton.1 h];omega) (by omega)
    have hml:(List.map Mat.D l).length=l.length:=List.length_map ..
    rw [show ((most - l.length:Nat):Int)=(most:Int) - (List.map Mat.D l).length by omega] at f3
    rw [show DI (ns++[(i:Int)])=D.l 1 (ns.map D.i++[D.i i]) from congrArg (D.l 1) List.map_append] at f3
    have hm2:=hmore _ rfl
    have hlen:((lD r a n (ns++[(i:Int)])).take (most - l.length+1)).length≤1000:=by rw [List.length_take];omega
    repeat (first|(refine ca ?_;first|refine aM ?_|refine b6 ?_|refine aR ?_|refine bh ?_|refine aL ?_|refine bg ?_|refine aX ?_|refine az ?_|refine aV ?_)|(refine eG ?_;first|refine bH ?_|refine eC ?_|refine bP ?_|refine cb ?_)|(refine eT ?_;first|refine cS (fun _=>?_)|refine cd ?_|refine bR ?_|refine b9 ?_|refine bu ?_|refine bJ ?_|refine b8 ?_)|(refine eR ?_;first|refine ch ?_|refine d7 ?_|refine b7 ?_|refine bD ?_|refine bN ?_|refine bX ?_|refine bS ?_)|(refine eK ?_;first|refine eF ?_|refine eA ?_|refine bU ?_|refine bG ?_|refine eH ?_|refine bd ?_|refine bc ?_)|(refine bV ?_;first|refine ba ?_|refine bT ?_)|(refine eV ?_;first|refine bI ?_|refine bQ ?_|refine eJ ?_)|(refine bL ?_;first|refine bO ?_|refine aS ?_|refine aN ?_|refine aW ?_|refine aQ ?_|refine aY ?_)|(refine eE ?_;first|refine bZ ?_|refine eB ?_|refine be ?_|refine aP ?_|refine aU ?_)|(refine aK ?_;first|refine aq _ ?_|refine bf ?_|refine aw ?_|refine au ?_|refine ax ?_)|(refine eP ?_;first|refine bW ?_|refine bE ?_|refine bM ?_)|(refine gOp ?_;first|refine eD ?_|refine eM ?_|refine aZ ?_|refine eU ?_|refine eN ?_|refine bK ?_|refine aO ?_|refine cf ?_|refine eO ?_|refine bC ?_|refine bY ?_|refine aT ?_|refine sFz 60 ?_|refine sFz 65 ?_|refine ay ?_|refine cg ?_|refine sNo ?_|refine dU ?_|refine av ?_)|refine dY ?_|refine dq ?_|refine fj ?_|refine bj ?_|refine ci ?_|refine br ?_|refine fm ?_|refine fl ?_|refine eX ?_|refine dB ?_|refine ck ?_|refine bo ?_|refine aA ?_|refine bk ?_|refine ct ?_|refine bt ?_|refine aBlkX ?_|refine cm ?_|refine sFz 60 ?_|refine sFz 65 ?_)
    exact aa (i+1,l++(lD r a n (ns++[(i:Int)])).take (most - l.length+1)) ⟨hlt,hm2⟩ (by show _ - (i+1)<_ - i;omega)
  ·rw [List.length_map] at h2
   rw [show lD r a (n+1) ns=gv r a n ns a.nodes.length from rfl,AB hi (by rw [← hxl];omega),← hxl]
   refine kgo ?_
   exact pJ
def qK (r a:Big):List Mat:=(lD r a r.nodes.length []).take 401
theorem xr (r a:Big):(qK r a).length≤401:=by unfold qK;rw [List.length_take];omega
theorem zD {r a:Big}:∀(n:Nat) (ns:List Int),∀m∈lD r a n ns,er r a m=true:=by
 intro n
 induction n with
 | zero=>
  intro ns m hm
  unfold lD at hm
  split at hm
  ·rw [List.mem_singleton.1 hm];assumption
  ·cases hm
 | succ n ih=>
  intro ns m hm
  unfold lD at hm
  obtain ⟨i,_,hi⟩:=List.mem_flatMap.1 hm
  split at hi
  ·exact ih _ m hi
  ·cases hi
theorem qM {r a:Big}:∀m∈qK r a,er r a m=true:=fun m hm=>zD _ _ m (List.mem_of_mem_take hm)
theorem Gv {sig:List Ctl} {r a:Big} (hR:aH sig r=true) (hA:aH sig a=true) (hS:cA r=true):FnD Tryz.prog 50 [r.D,a.D] (.d (.l 2 ((qK r a).map Mat.D))):=by
 have f1:=y6 hR hA hS r.nodes.length [] 400 (by simp) (fun x hx=>by cases hx) (Nat.le_refl _)
 rw [show (lD r a r.nodes.length []).take (400+1)=qK r a from rfl] at f1
 have hl:=xr r a
 have hc:(qK r a).take 401=qK r a:=List.take_of_length_le hl
 refine af Tryz.func50 (fun hw W0=>?_)
 repeat (first|(refine ca ?_;first|refine aM ?_|refine b6 ?_|refine aR ?_|refine bh ?_|refine aL ?_|refine bg ?_|refine aX ?_|refine az ?_|refine aV ?_)|(refine eG ?_;first|refine bH ?_|refine eC ?_|refine bP ?_|refine cb ?_)|(refine eT ?_;first|refine cS (fun _=>?_)|refine cd ?_|refine bR ?_|refine b9 ?_|refine bu ?_|refine bJ ?_|refine b8 ?_)|(refine eR ?_;first|refine ch ?_|refine d7 ?_|refine b7 ?_|refine bD ?_|refine bN ?_|refine bX ?_|refine bS ?_)|(refine eK ?_;first|refine eF ?_|refine eA ?_|refine bU ?_|refine bG ?_|refine eH ?_|refine bd ?_|refine bc ?_)|(refine bV ?_;first|refine cD (d:=5) ?_|refine ba ?_|refine bT ?_)|(refine eV ?_;first|refine dL (d:=5) ?_|refine bI ?_|refine bQ ?_|refine eJ ?_)|(refine bL ?_;first|refine bO ?_|refine aS ?_|refine aN ?_|refine aW ?_|refine aQ ?_|refine aY ?_)|(refine eE ?_;first|refine bZ ?_|refine eB ?_|refine be ?_|refine aP ?_|refine aU ?_)|(refine aK ?_;first|refine aq _ ?_|refine bf ?_|refine aw ?_|refine au ?_|refine ax ?_)|(refine eP ?_;first|refine bW ?_|refine bE ?_|refine bM ?_)|(refine gOp ?_;first|refine eD ?_|refine eM ?_|refine aZ ?_|refine eU ?_|refine eN ?_|refine bK ?_|refine aO ?_|refine cf ?_|refine eO ?_|refine bC ?_|refine bY ?_|refine aT ?_|refine sFz 8 ?_|refine ay ?_|refine cg ?_|refine sNo ?_|refine dU ?_|refine av ?_)|refine dY ?_|refine dq ?_|refine fj ?_|refine bj ?_|refine ci ?_|refine br ?_|refine fm ?_|refine fl ?_|refine eX ?_|refine dB ?_|refine ck ?_|refine bo ?_|refine aA ?_|refine bk ?_|refine ct ?_|refine bt ?_|refine aBlkX ?_|refine cm ?_|refine sFz 8 ?_)
 refine aJ (fun h=>?_) (fun h=>?_)
 ·refine kgo ?_
  refine bE (n:=401) ?_ rfl rfl rfl (hn:=by omega)
  rw [hc]
  refine kgo ?_
  exact aj
 ·refine kgo ?_
  exact aj
structure Stp where
 rule:Int
 mat:Mat
 res:Big
abbrev Stp.D (s:Stp):D:=.t [.i s.rule,s.mat.D,s.res.D]
def jQ (sig:List Ctl) (r:Rul) (a:Big) (k:Int):List Mat→List Stp→Option (List Stp)
 | [],out=>some out
 | m :: ms,out=>if jV sig a m.roots then (if (fL sig r a m).2 then jQ sig r a k ms (out++[⟨k,m,(fL sig r a m).1⟩]) else none) else jQ sig r a k ms out
def de (sig:List Ctl) (a:Big):List Rul→Nat→List Stp→Option (List Stp)
 | [],_,out=>some out
 | r :: rs,k,out=>if 400<(qK r.redex a).length then none else (jQ sig r a k (qK r.redex a) out).bind (de sig a rs (k+1))
theorem sm {sig:List Ctl} {a:Big} {rs:List Rul} (i:Nat) (h:i<rs.length) (out:List Stp):de sig a (rs.drop i) i out=if 400<(qK (rs[i]).redex a).length then none else (jQ sig rs[i] a i (qK (rs[i]).redex a) out).bind (de sig a (rs.drop (i+1)) (i+1)):=by
 rw [List.drop_eq_getElem_cons h];rfl
theorem th {sig:List Ctl} {r:Rul} {a:Big} {k:Int} {ms:List Mat} (j:Nat) (h:j<ms.length) (out:List Stp):jQ sig r a k (ms.drop j) out=if jV sig a (ms[j]).roots then (if (fL sig r a ms[j]).2 then jQ sig r a k (ms.drop (j+1)) (out++[⟨k,ms[j],(fL sig r a ms[j]).1⟩]) else none) else jQ sig r a k (ms.drop (j+1)) out:=by
 rw [List.drop_eq_getElem_cons h];rfl
def cX:Option (List Stp)→List Stp × Bool
 | some l=>(l,true)
 | none=>([],false)
theorem Ai {sig:List Ctl} {rs:List Rul} {a:Big} (hr:dv sig rs=true) (ha:ft sig a=true):FnD Tryz.prog 19 [.l 3 (sig.map Ctl.D),.l 13 (rs.map Rul.D),a.D] (.tp [.l 9 ((cX (de sig a rs 0 [])).1.map Stp.D),.b (cX (de sig a rs 0 [])).2]):=by
 have hrs:=List.all_eq_true.1 (Bool.and_eq_true_iff.1 hr).2
 have hrl:=bB (Bool.and_eq_true_iff.1 hr).1
 have hA:=tn ha
 refine af Tryz.func19 (fun hw W0=>?_)
 refine kgo ?_
 refine ai [0,1,5] (fun x:Nat × List Stp=>x.1≤rs.length∧x.2.length≤400 * x.1∧de sig a rs 0 []=de sig a (rs.drop x.1) x.1 x.2) (fun x=>rs.length - x.1) (fun x=>[(9,.sy (.d (.i x.1))),(8,.sy (.k 20001)),(20001,.tk (.row 9 104 (x.2.map Stp.D)))]) (0,[]) ⟨Nat.zero_le _,Nat.zero_le _,rfl⟩ (fun x hx=>?_)
 obtain ⟨i,out⟩:=x
 obtain ⟨hi,hol,hst⟩:=hx
 dsimp only at hi hol hst ⊢
 rw [hst]
 refine kgo ?_
 refine aJ (fun h=>?_) (fun h=>?_)
 rotate_left
 ·obtain rfl:i=rs.length:=by omega
  rw [List.drop_eq_nil_of_le (Nat.le_refl _),show cX (de sig a [] rs.length out)=(out,true) from rfl]
  repeat (first|(refine ca ?_;first|refine aM ?_|refine b6 ?_|refine aR ?_|refine bh ?_|refine aL ?_|refine bg ?_|refine aX ?_|refine az ?_|refine aV ?_)|(refine eG ?_;first|refine bH ?_|refine eC ?_|refine bP ?_|refine cb ?_)|(refine eT ?_;first|refine cS (fun _=>?_)|refine cd ?_|refine bR ?_|refine b9 ?_|refine bu ?_|refine bJ ?_|refine b8 ?_)|(refine eR ?_;first|refine ch ?_|refine d7 ?_|refine b7 ?_|refine bD ?_|refine bN ?_|refine bX ?_|refine bS ?_)|(refine eK ?_;first|refine eF ?_|refine eA ?_|refine bU ?_|refine bG ?_|refine eH ?_|refine bd ?_|refine bc ?_)|(refine bV ?_;first|refine cD (d:=6) ?_|refine ba ?_|refine bT ?_)|(refine eV ?_;first|refine dL (d:=6) ?_|refine bI ?_|refine bQ ?_|refine eJ ?_)|(refine bL ?_;first|refine bO ?_|refine aS ?_|refine aN ?_|refine aW ?_|refine aQ ?_|refine aY ?_)|(refine eE ?_;first|refine bZ ?_|refine eB ?_|refine be ?_|refine aP ?_|refine aU ?_)|(refine aK ?_;first|refine aq _ ?_|refine bf ?_|refine aw ?_|refine au ?_|refine ax ?_)|(refine eP ?_;first|refine bW ?_|refine bE ?_|refine bM ?_)|(refine gOp ?_;first|refine eD ?_|refine eM ?_|refine aZ ?_|refine eU ?_|refine eN ?_|refine bK ?_|refine aO ?_|refine cf ?_|refine eO ?_|refine bC ?_|refine bY ?_|refine aT ?_|refine ay ?_|refine cg ?_|refine sNo ?_|refine dU ?_|refine av ?_)|refine dY ?_|refine dq ?_|refine fj ?_|refine bj ?_|refine ci ?_|refine br ?_|refine fm ?_|refine fl ?_|refine eX ?_|refine dB ?_|refine ck ?_|refine bo ?_|refine aA ?_|refine bk ?_|refine ct ?_|refine bt ?_|refine aBlkX ?_|refine cm ?_)
  exact iS
 have hlt:i<rs.length:=by omega
 rw [sm i hlt]
 obtain ⟨r1,r2,r3,r4,r5,r6,r7,r8⟩:=jc (hrs _ (List.getElem_mem hlt))
 have f1:=Gv r1 hA r3
 have hall:=qM (r:=(rs[i]).redex) (a:=a)
 refine kgo ?_
 refine aJ (fun h2=>?_) (fun h2=>?_)
 ·rw [if_pos (by omega)]
  repeat (first|(refine ca ?_;first|refine aM ?_|refine b6 ?_|refine aR ?_|refine bh ?_|refine aL ?_|refine bg ?_|refine aX ?_|refine az ?_|refine aV ?_)|(refine eG ?_;first|refine bH ?_|refine eC ?_|refine bP ?_|refine cb ?_)|(refine eT ?_;first|refine cS (fun _=>?_)|refine cd ?_|refine bR ?_|refine b9 ?_|refine bu ?_|refine bJ ?_|refine b8 ?_)|(refine eR ?_;first|refine ch ?_|refine d7 ?_|refine b7 ?_|refine bD ?_|refine bN ?_|refine bX ?_|refine bS ?_)|(refine eK ?_;first|refine eF ?_|refine eA ?_|refine bU ?_|refine bG ?_|refine eH ?_|refine bd ?_|refine bc ?_)|(refine bV ?_;first|refine cD (d:=6) ?_|refine ba ?_|refine bT ?_)|(refine eV ?_;first|refine dL (d:=6) ?_|refine bI ?_|refine bQ ?_|refine eJ ?_)|(refine bL ?_;first|refine bO ?_|refine aS ?_|refine aN ?_|refine aW ?_|refine aQ ?_|refine aY ?_)|(refine eE ?_;first|refine bZ ?_|refine eB ?_|refine be ?_|refine aP ?_|refine aU ?_)|(refine aK ?_;first|refine aq _ ?_|refine bf ?_|refine aw ?_|refine au ?_|refine ax ?_)|(refine eP ?_;first|refine bW ?_|refine bE ?_|refine bM ?_)|(refine gOp ?_;first|refine eD ?_|refine eM ?_|refine aZ ?_|refine eU ?_|refine eN ?_|refine bK ?_|refine aO ?_|refine cf ?_|refine eO ?_|refine bC ?_|refine bY ?_|refine aT ?_|refine ay ?_|refine cg ?_|refine sNo ?_|refine dU ?_|refine av ?_)|refine dY ?_|refine dq ?_|refine fj ?_|refine bj ?_|refine ci ?_|refine br ?_|refine fm ?_|refine fl ?_|refine eX ?_|refine dB ?_|refine ck ?_|refine bo ?_|refine aA ?_|refine bk ?_|refine ct ?_|refine bt ?_|refine aBlkX ?_|refine cm ?_)
  exact iS
 rw [if_neg (by omega)]
 generalize qK (rs[i]).redex a=ms at *
 refine kgo ?_
 refine ai [0,1,5,9,10] (fun x:Nat × List Stp=>x.1≤ms.length∧x.2.length≤400 * i+x.1∧(jQ sig rs[i] a i ms out).bind (de sig a (rs.drop (i+1)) (i+1))=(jQ sig rs[i] a i (ms.drop x.1) x.2).bind (de sig a (rs.drop (i+1)) (i+1))) (fun x=>ms.length - x.1) (fun x=>[(11,.sy (.d (.i x.1))),(8,.sy (.k 20001)),(20001,.tk (.row 9 104 (x.2.map Stp.D)))]) (0,out) ⟨Nat.zero_le _,hol,rfl⟩ (fun x hx=>?_)
 obtain ⟨j,o⟩:=x
 obtain ⟨hj,hoj,hsj⟩:=hx
 dsimp only at hj hoj hsj ⊢
 rw [hsj]
 refine kgo ?_
 refine aJ (fun h3=>?_) (fun h3=>?_)
 rotate_left
 ·obtain rfl:j=ms.length:=by omega
  rw [List.drop_eq_nil_of_le (Nat.le_refl _)] at hsj ⊢
  refine kgo ?_
  exact aa (i+1,o) ⟨hlt,by show o.length≤400 * (i+1);omega,rfl⟩ (by show _ - (i+1)<_ - i;omega)
 have hjl:j<ms.length:=by omega
 have hm:=hall _ (List.getElem_mem hjl)
 have f2:=zx hA ms[j] (fun p hp=>(mv (cW hm).2.1 p hp).2)
 have f3:=z6 (sig:=sig) ms[j] (hrs _ (List.getElem_mem hlt)) hA hm
 have hat:=th (sig:=sig) (r:=rs[i]) (a:=a) (k:=i) j hjl o
 refine kgo ?_
 refine cIf (fun h4=>?_) (fun h4=>?_)
 ·rw [Bool.not_eq_true'] at h4
  rw [hat,h4]
  refine kgo ?_
  exact aa (j+1,o) ⟨hjl,by show o.length≤400 * i+(j+1);omega,rfl⟩ (by show _ - (j+1)<_ - j;omega)
 rw [Bool.not_eq_false'] at h4
 rw [hat,h4,if_pos rfl]
 refine kgo ?_
 refine cIf (fun h5=>?_) (fun h5=>?_)
 ·rw [Bool.not_eq_true'] at h5
  rw [h5]
  repeat (first|(refine ca ?_;first|refine aM ?_|refine b6 ?_|refine aR ?_|refine bh ?_|refine aL ?_|refine bg ?_|refine aX ?_|refine az ?_|refine aV ?_)|(refine eG ?_;first|refine bH ?_|refine eC ?_|refine bP ?_|refine cb ?_)|(refine eT ?_;first|refine cS (fun _=>?_)|refine cd ?_|refine bR ?_|refine b9 ?_|refine bu ?_|refine bJ ?_|refine b8 ?_)|(refine eR ?_;first|refine ch ?_|refine d7 ?_|refine b7 ?_|refine bD ?_|refine bN ?_|refine bX ?_|refine bS ?_)|(refine eK ?_;first|refine eF ?_|refine eA ?_|refine bU ?_|refine bG ?_|refine eH ?_|refine bd ?_|refine bc ?_)|(refine bV ?_;first|refine cD (d:=6) ?_|refine ba ?_|refine bT ?_)|(refine eV ?_;first|refine dL (d:=6) ?_|refine bI ?_|refine bQ ?_|refine eJ ?_)|(refine bL ?_;first|refine bO ?_|refine aS ?_|refine aN ?_|refine aW ?_|refine aQ ?_|refine aY ?_)|(refine eE ?_;first|refine bZ ?_|refine eB ?_|refine be ?_|refine aP ?_|refine aU ?_)|(refine aK ?_;first|refine aq _ ?_|refine bf ?_|refine aw ?_|refine au ?_|refine ax ?_)|(refine eP ?_;first|refine bW ?_|refine bE ?_|refine bM ?_)|(refine gOp ?_;first|refine eD ?_|refine eM ?_|refine aZ ?_|refine eU ?_|refine eN ?_|refine bK ?_|refine aO ?_|refine cf ?_|refine eO ?_|refine bC ?_|refine bY ?_|refine aT ?_|refine ay ?_|refine cg ?_|refine sNo ?_|refine dU ?_|refine av ?_)|refine dY ?_|refine dq ?_|refine fj ?_|refine bj ?_|refine ci ?_|refine br ?_|refine fm ?_|refine fl ?_|refine eX ?_|refine dB ?_|refine ck ?_|refine bo ?_|refine aA ?_|refine bk ?_|refine ct ?_|refine bt ?_|refine aBlkX ?_|refine cm ?_)
  exact iS
 rw [Bool.not_eq_false'] at h5
 rw [h5,if_pos rfl]
 have hs:(o++[Stp.mk (i:Int) ms[j] (fL sig rs[i] a ms[j]).1]).map Stp.D=o.map Stp.D++[Stp.D (Stp.mk (i:Int) ms[j] (fL sig rs[i] a ms[j]).1)]:=List.map_append
 refine kgo ?_
 exact aa (j+1,o++[⟨i,ms[j],(fL sig rs[i] a ms[j]).1⟩]) ⟨hjl,by show (o++_).length≤400 * i+(j+1);rw [List.length_append,List.length_singleton];omega,rfl⟩ (by show _ - (j+1)<_ - j;omega)
end Go.Proofs.YtnobdioccfeokaaGreatDoor
namespace Go.Proofs.YtnobdioccfeokaaGreatDoor
open Go.RowKit
set_option linter.unusedVariables false
set_option maxRecDepth 100000
set_option maxHeartbeats 4000000
theorem He (i:Nat) {t t':Tk} {P:Program} {W0:cz} {N:Nat} {σ:Env} {Q:Exit→Act→World→Prop} {x:Code} (he:t=t') (h:ar P W0 N x ((i,.tk t') :: σ) Q) (hi:al σ i=some (.tk t):=by rfl):ar P W0 N x σ Q:=fun a w hh=>h a w (hh.congr (fun κ=>by
 subst he
 rw [ab]
 split
 ·rename_i e;subst e;exact hi.symm
 ·rfl))
section
variable {P:Program} {ops:Array Oper} {W0:cz} {N:Nat} {Fin:Us→Env→Prop} {os:List Oper} {us:Us} {pk fk:List Nat} {σ:Env} {g:Option (Nat × Bool)} {gk:List Nat} {d ty ty':Nat} {pos:String} {after:Array Edge}
theorem IJ {α:Type} {f:α→D} {l:List α} {x:Operand} {i z n e:Nat} {ds:List D} (h:Der P ops W0 N Fin os (us++[((d :: (gk++(i :: kx x)))++pk,([d])++fk)]) [] [] ((d,.sy (.d (.t ds))) :: σ)) (hx:ev σ x=some (.el i z n 0):=by rfl) (hi:al σ i=some (.tk (.row z e (l.map f))):=by rfl) (hlt:n<l.length:=by first|assumption|omega) (hq:f l[n]=.t ds:=by rfl) (hA:isAgg? P ty'=some true:=by rfl) (hz:sizeOf? P ty'=some z:=by rfl) (hg:gst ops σ g=some (true,gk):=by rfl) (hN:Nat.blt d N=true:=by rfl) (hs:aF σ d=true:=by rfl):Der P ops W0 N Fin (⟨some d,.load ty' x,ty,pos,after,g⟩ :: os) us pk fk σ:=
 cr (.d (.t ds)) (i :: kx x) (fun σ' c a w hk hc=>by
  obtain ⟨hA',b,m,cp,h1,h2⟩:=ap hc (ah hx (fun κ hκ=>hk κ (by simp [hκ])))
  obtain ⟨_,hT,_⟩:=hc.tok i _ ((hk i (by simp)).trans hi)
  rcases hT with ⟨hd,_⟩|⟨cells,own,hS,hel⟩
  ·rw [List.map_eq_nil_iff] at hd;subst hd;exact absurd hlt (Nat.not_lt_zero _)
  obtain ⟨cs,q1,q2,q3⟩:=hel n (by rw [List.length_map];exact hlt)
  rw [List.getElem_map,hq] at q2
  rw [h1] at own
  refine ⟨.agg cs.toArray,dl (X:=Instr.loadAt ty' (a.eval x)) ?_,cs,rfl,q2⟩
  rw [h2]
  refine eL hA (by rw [hz,q1]) (fun j u hj=>?_)
  have hjz:j<z:=by
   rcases Nat.lt_or_ge j z with h|h
   ·exact h
   ·rw [List.getElem?_eq_none (by omega)] at hj;cases hj
  have hin:n * z+j<(l.map f).length * z:=by
   rw [List.length_map]
   have:=Nat.mul_le_mul_right z (show n+1≤l.length from hlt)
   rw [Nat.add_mul] at this;omega
  rcases own.2 with ⟨hv0,_⟩|⟨gb,cap,cur,hv0,rest⟩
  ·cases hv0
  ·cases hv0
   rw [Nat.add_zero,World.ownsRow.cellAt (h:=own) (n * z+j) hin]
   exact q3 j u hj) h hg hN hs
end
attribute [local irreducible] ar Der At
def nN (E:Int) (ns:List ByteArray) (r:Int × ByteArray):Int:=if r.2=⟨#[]⟩ then r.1 else E+jo ns r.2
theorem vb (b:Big) (E:Int) (ns:List ByteArray) (g:Nat) (cs:List D) (l:Int) (r:Int × ByteArray) (hct:(cs.all fun r=>!isT r)=true) (h0:0≤b.edges∧b.edges≤1000) (h1:b.edges≤l→l - b.edges<b.outer.length) (ho:b.outer.length≤1000) (hE:0≤E∧E≤1000) (hn:ns.length≤1000) (hg:FnD Tryz.prog g ([s8 (iz b l)]++cs) (.d (s8 r))):FnD Tryz.prog 341 [.i l,.p (.f g cs),.p b.D,.p (.i E),.p (.t [.i b.roots,.any,.any,.i E,DS ns,.any])] (.d (.i (nN E ns r))):=by
 have f1:=AJ b l h0 h1 ho
 have f2:=nR ns r.2
 have hr:=mI ns r.2
 refine af Tryz.func341 (fun hw W0=>?_)
 refine kgo ?_
 refine cIf (fun h=>?_) (fun h=>?_)
 ·rw [show nN E ns r=r.1 from if_pos ((lV _).1 h)]
  refine kgo ?_
  exact aj
 ·have h:¬r.2=⟨#[]⟩:=fun e=>by rw [(lV _).2 e] at h;cases h
  rw [show nN E ns r=E+jo ns r.2 from if_neg h]
  refine kgo ?_
  exact aj
def zN (b:Big) (E:Int) (ns:List ByteArray) (turn:Int→Int):Big:=⟨b.roots,b.nodes.map fun x=>⟨x.control,x.parent,x.links.map turn⟩,b.sites,E,ns,b.inner.map fun w=>⟨w.name,turn w.link⟩⟩
def lB (turn:Int→Int) (l:List Nd) (i j:Nat):List Nd:=l.mapIdx fun k x=>⟨x.control,x.parent,if k<i then x.links.map turn else if k=i then (x.links.take j).map turn++x.links.drop j else x.links⟩
theorem xY (turn:Int→Int) (l:List Nd) (i j:Nat):(lB turn l i j).length=l.length:=by simp [lB]
theorem Ao (turn:Int→Int) (l:List Nd):lB turn l 0 0=l:=by
 refine List.ext_getElem (by simp [lB]) fun k h1 h2=>?_
 simp only [lB,List.getElem_mapIdx,List.take_zero,List.map_nil,List.nil_append,List.drop_zero,Nat.not_lt_zero,if_false,ite_self]
theorem EQ (turn:Int→Int) (l:List Nd) (i:Nat) (h:i<l.length):lB turn l i l[i].links.length=lB turn l (i+1) 0:=by
 refine List.ext_getElem (by simp [lB]) fun k h1 h2=>?_
 simp only [lB,List.getElem_mapIdx]
 rcases Nat.lt_trichotomy k i with hk|rfl|hk
 ·rw [if_pos hk,if_pos (by omega)]
 ·rw [if_neg (by omega),if_pos rfl,if_pos (by omega),List.take_length,List.drop_length,List.append_nil]
 ·rw [if_neg (by omega),if_neg (by omega),if_neg (by omega)]
  split
  ·simp
  ·rfl
theorem DJ (turn:Int→Int) (l:List Nd):lB turn l l.length 0=l.map fun x=>⟨x.control,x.parent,x.links.map turn⟩:=by
 refine List.ext_getElem (by simp [lB]) fun k h1 h2=>?_
 simp only [lB,List.getElem_mapIdx,List.getElem_map]
 rw [if_pos (by simpa using h2)]
theorem qO (turn:Int→Int) (l:List Nd) (i j:Nat) (h:i<l.length):(lB turn l i j).getD i ⟨0,0,[]⟩=⟨l[i].control,l[i].parent,(l[i].links.take j).map turn++l[i].links.drop j⟩:=by
 simp [lB,h]
theorem Cr (turn:Int→Int) (l:List Nd) (i j:Nat) (h:i<l.length) (hj:j<l[i].links.length):((lB turn l i j).getD i ⟨0,0,[]⟩).links.getD j 0=l[i].links[j]:=by
 rw [qO turn l i j h]
 show ((l[i].links.take j).map turn++l[i].links.drop j).getD j 0=_
 rw [List.getD_eq_getElem?_getD,List.getElem?_append_right (by simp;omega)]
 simp [Nat.min_eq_left (Nat.le_of_lt hj),hj]
theorem Cc (turn:Int→Int) (l:List Nd) (i j:Nat) (h:i<l.length) (hj:j≤l[i].links.length):((lB turn l i j).getD i ⟨0,0,[]⟩).links.length=l[i].links.length:=by
 rw [qO turn l i j h]
 simp
 omega
theorem D0 (turn:Int→Int) (l:List Nd) (i j:Nat) (h:i<l.length) (hj:j<l[i].links.length):uI (lB turn l i j) i j (turn l[i].links[j])=lB turn l i (j+1):=by
 unfold uI
 rw [qO turn l i j h]
 refine List.ext_getElem (by simp [lB]) fun k h1 h2=>?_
 rw [List.getElem_set]
 split
 ·rename_i e
  subst e
  simp only [lB,List.getElem_mapIdx,Nat.lt_irrefl,if_false,if_true]
  congr 1
  rw [List.set_append_right _ _ (by simp;omega)]
  have:j - ((l[i].links.take j).map turn).length=0:=by simp;omega
  rw [this,List.drop_eq_getElem_cons hj,List.set_cons_zero,List.take_succ_eq_append_getElem hj,List.map_append,List.append_assoc]
  rfl
 ·rename_i e
  simp only [lB,List.getElem_mapIdx]
  have hk:¬k=i:=fun e'=>e e'.symm
  simp only [if_neg hk]
def ne (turn:Int→Int) (l:List Wr) (i:Nat):List Wr:=l.mapIdx fun k x=>⟨x.name,if k<i then turn x.link else x.link⟩
abbrev JQ (b:Big):List Pt:=[.d (.i b.roots),.tk (.deep 3 153 (b.nodes.map Nd.D) []),.tk (.row 1 3 (b.sites.map .i)),.d (.i b.edges),.d (DS b.outer),.tk (.row 2 155 (b.inner.map Wr.D))]
theorem xC (turn:Int→Int) (l:List Wr) (i:Nat):(ne turn l i).length=l.length:=by simp [ne]
theorem Aw (turn:Int→Int) (l:List Wr):ne turn l 0=l:=by
 refine List.ext_getElem (by simp [ne]) fun k h1 h2=>?_
 simp [ne]
theorem CZ (turn:Int→Int) (l:List Wr):ne turn l l.length=l.map fun w=>⟨w.name,turn w.link⟩:=by
 refine List.ext_getElem (by simp [ne]) fun k h1 h2=>?_
 simp only [ne,List.getElem_mapIdx,List.getElem_map]
 rw [if_pos (by simpa using h2)]
theorem BR (turn:Int→Int) (l:List Wr) (i:Nat) (h:i<l.length):(ne turn l i)[i]'(by rw [xC];exact h)=l[i]:=by simp [ne]
theorem ES (turn:Int→Int) (l:List Wr) (i:Nat) (h:i<l.length):(ne turn l i).set i ⟨l[i].name,turn l[i].link⟩=ne turn l (i+1):=by
 refine List.ext_getElem (by simp [ne]) fun k h1 h2=>?_
 rw [List.getElem_set]
 simp only [ne,List.getElem_mapIdx]
 split
 ·rename_i e;subst e;rw [if_pos (by omega)]
 ·rename_i e
  congr 1
  by_cases hk:k<i
  ·rw [if_pos hk,if_pos (by omega)]
  ·rw [if_neg hk,if_neg (by omega)]
theorem m9 (b:Big) (E:Int) (names:List ByteArray) (g:Nat) (cs:List D) (F:Int × ByteArray→Int × ByteArray) (hct:(cs.all fun r=>!isT r)=true) (hd:wy b) (hi:b.inner.length≤1000) (h0:0≤b.edges∧b.edges≤1000) (hE:0≤E∧E≤1000) (hn:names.length≤1000) (hnl:∀x∈b.nodes,∀l∈x.links,(0≤l∧l<b.edges+b.outer.length)) (hil:∀x∈b.inner,(0≤x.link∧x.link<b.edges+b.outer.length))
 (hg:∀l,(0≤l∧l<b.edges+b.outer.length)→FnD Tryz.prog g ([s8 (iz b l)]++cs) (.d (s8 (F (iz b l))))):FnO Tryz.prog 319 [b.D,.i E,DS names,.f g cs] [6] (JQ (zN b E (cG names) fun l=>nN E (cG names) (F (iz b l)))):=by
 have f1:=nj b hd hi
 have f2:=kY names hn
 obtain ⟨_,_,hd3,_,hd5,_,hd7⟩:=hd
 have hsn:(cG names).length≤1000:=by have h:=jG names [];unfold cG;simp at h;omega
 generalize hturn:(fun l=>nN E (cG names) (F (iz b l)))=turn
 have f3:∀l,(0≤l∧l<b.edges+b.outer.length)→FnD Tryz.prog 341 [.i l,.p (.f g cs),.p b.D,.p (.i E),.p (.t [.i b.roots,.any,.any,.i E,DS (cG names),.any])] (.d (.i (turn l))):=fun l hl=>by
  rw [← hturn]
  exact vb b E (cG names) g cs l _ hct h0 (by omega) hd5 hE hsn (hg l hl)
 refine cT Tryz.func319 (fun hw W0=>?_)
 refine kgo ?_
 refine rY 7 (.f g cs) ?_
 refine rY 4 b.D ?_
 refine rY 5 (.i E) ?_
 refine JY 9 ?_
 refine kgo ?_
 refine He 31018 (t':=.deep 3 153 ((lB turn b.nodes 0 0).map Nd.D) []) (by rw [Ao]) ?_
 refine ai [8,9,10,26,27] (fun i:Nat=>i≤b.nodes.length) (fun i=>b.nodes.length - i) (fun i=>[(28,.sy (.d (.i i))),(31018,.tk (.deep 3 153 ((lB turn b.nodes i 0).map Nd.D) []))]) 0 (Nat.zero_le _) (fun i hi=>?_)
 refine kgo ?_
 refine aJ (fun h=>?_) (fun h=>?_)
 ·have hlt:i<b.nodes.length:=by simpa using h
  have hll:=xY turn b.nodes i 0
  have hln:((lB turn b.nodes i 0)[i]'(by omega)).links.length=b.nodes[i].links.length:=by
   have:=Cc turn b.nodes i 0 hlt (Nat.zero_le _)
   rwa [List.getD_eq_getElem?_getD,List.getElem?_eq_getElem (by omega),Option.getD_some] at this
  have hl7:=hd7 i hlt
  refine JP 31018 i (l:=lB turn b.nodes i 0) (by omega) (fun ad k hmx hsl=>?_)
  rw [hln]
  have hm2:b.nodes[i].links.length≤maxLen:=by rwa [hln] at hmx
  refine kgo ?_
  refine ai [8,9,10,12,26,27,28,33,34] (fun j:Nat=>j≤b.nodes[i].links.length) (fun j=>b.nodes[i].links.length - j) (fun j=>[(35,.sy (.d (.i j))),(31018,.tk (.deep 3 153 ((lB turn b.nodes i j).map Nd.D) [(i * 3+2,.slice ad b.nodes[i].links.length k)]))]) 0 (Nat.zero_le _) (fun j hj=>?_)
  refine kgo ?_
  refine aJ (fun h2=>?_) (fun h2=>?_)
  ·have hlj:j<b.nodes[i].links.length:=by omega
   have hmj:j<((lB turn b.nodes i j).getD i ⟨0,0,[]⟩).links.length:=by rw [Cc turn b.nodes i j hlt (by omega)];exact hlj
   have hli:=xY turn b.nodes i j
   have f4:=f3 (((lB turn b.nodes i j).getD i ⟨0,0,[]⟩).links.getD j 0) (by rw [Cr turn b.nodes i j hlt hlj];exact hnl _ (List.getElem_mem hlt) _ (List.getElem_mem hlj))
   have hset:((uI (lB turn b.nodes i j) i j (turn (((lB turn b.nodes i j).getD i ⟨0,0,[]⟩).links.getD j 0))).map Nd.D)=(lB turn b.nodes i (j+1)).map Nd.D:=by rw [Cr turn b.nodes i j hlt hlj,D0 turn b.nodes i j hlt hlj]
   rcases hsl with hsl|⟨b0,o0,rfl⟩
   ·rw [hsl] at hln;simp at hln;omega
   refine kgo ?_
   refine HJ 31018 ?_
   refine kgo ?_
   refine Gp 31018 ?_
   refine kgo ?_
   exact aa (j+1) hlj (by omega) (hs:=⟨⟨rfl,rfl⟩,⟨Bi rfl hset,rfl⟩,by repeat (first|exact trivial|refine ⟨⟨rfl,rfl⟩,?_⟩)⟩)
  obtain rfl:j=b.nodes[i].links.length:=by omega
  rw [EQ turn b.nodes i hlt]
  refine HI 31018 ?_
  refine kgo ?_
  exact aa (i+1) hlt (by omega) (hs:=⟨⟨rfl,rfl⟩,⟨rfl,rfl⟩,by repeat (first|exact trivial|refine ⟨⟨rfl,rfl⟩,?_⟩)⟩)
 obtain rfl:i=b.nodes.length:=by have:=h;simp at this;omega
 rw [DJ]
 refine kgo ?_
 refine He 35018 (t':=.row 2 155 ((ne turn b.inner 0).map Wr.D)) (by rw [Aw]) ?_
 refine ai [8,9,10,50,51] (fun i:Nat=>i≤b.inner.length) (fun i=>b.inner.length - i) (fun i=>[(52,.sy (.d (.i i))),(35018,.tk (.row 2 155 ((ne turn b.inner i).map Wr.D)))]) 0 (Nat.zero_le _) (fun i hi=>?_)
 refine kgo ?_
 refine aJ (fun h=>?_) (fun h=>?_)
 ·have hlt:i<b.inner.length:=by simpa using h
  have hli:=xC turn b.inner i
  have hlt':i<(ne turn b.inner i).length:=by omega
  have f4:=f3 ((ne turn b.inner i)[i].link) (by rw [BR turn b.inner i hlt];exact hil _ (List.getElem_mem hlt))
  have hs:((ne turn b.inner i).set i ⟨((ne turn b.inner i)[i]).name,turn ((ne turn b.inner i)[i]).link⟩).map Wr.D=(ne turn b.inner (i+1)).map Wr.D:=by rw [BR turn b.inner i hlt,ES turn b.inner i hlt]
  refine kgo ?_
  refine IJ (f:=Wr.D) (l:=ne turn b.inner i) ?_
  refine kgo ?_
  refine aq (f:=Wr.D) (l:=ne turn b.inner i) ⟨((ne turn b.inner i)[i]).name,turn ((ne turn b.inner i)[i]).link⟩ ?_
  refine kgo ?_
  exact aa (i+1) hlt (by omega)
 obtain rfl:i=b.inner.length:=by have:=h;simp at this;omega
 rw [CZ]
 refine kgo ?_
 exact ik (hp:=.cons (.d rfl) (.cons (.k rfl rfl) (.cons (.k rfl rfl) (.cons (.d rfl) (.cons (.d rfl) (.cons (.k rfl rfl) .nil))))))
end Go.Proofs.YtnobdioccfeokaaGreatDoor
namespace Go.Proofs.YtnobdioccfeokaaGreatDoor
open Go.RowKit
set_option linter.unusedVariables false
set_option maxRecDepth 100000
set_option maxHeartbeats 4000000
theorem FnD.arg {P:Program} {f:Nat} {ds ds':List D} {r:Ro} (h:FnD P f ds r) (hd:∀w F vs,DVs w F ds' vs→DVs w F ds vs):FnD P f ds' r:=⟨h.enter,fun F w vs hv hF=>h.calls F w vs (hd _ _ _ hv) hF⟩
theorem Cp {w:World} {F:BS} {z:Nat} {v:Value} (h:DV w F (.n z) v):DV w F (.l z []) v:=by
 obtain ⟨a,h⟩:=h
 exact ⟨a,0,h,Nat.le_refl _,by decide,fun _=>rfl,.inl rfl⟩
def G7 (σ:Env):List Operand→Option (List D)
 | []=>some []
 | x :: xs=>match (match x with | .const (.slice none 0 0)=>some (.n 1)|x=>(ev σ x).bind Sy.arg),G7 σ xs with
  | some r,some rs=>some (r :: rs)
  | _,_=>none
theorem q9 {W0:cz} {N:Nat} {a:Act} {w:World} {c:Cx} {σ σ':Env} (h:aE W0 N σ' a w c):∀(xs:List Operand) (ds:List D),G7 σ xs=some ds→(∀κ∈kxs xs,al σ' κ=al σ κ)→DVs w c.F ds (xs.map a.eval):=by
 intro xs
 induction xs with
 | nil=>intro ds he _;cases he;exact rfl
 | cons x xs ih=>
  intro ds he hk
  unfold G7 at he
  split at he
  ·rename_i r rs h1 h2
   cases he
   refine ⟨_,_,rfl,?_,ih rs h2 (fun κ hκ=>hk κ (by simp [kxs,hκ]))⟩
   split at h1
   ·cases h1;exact ⟨none,rfl⟩
   ·rw [Option.bind_eq_some_iff] at h1
    obtain ⟨s,h3,h4⟩:=h1
    exact Ax h4 (ap h (ah h3 (fun κ hκ=>hk κ (by simp [kxs,hκ]))))
  ·cases he
section
variable {P:Program} {ops:Array Oper} {W0:cz} {N:Nat} {Fin:Us→Env→Prop} {os:List Oper} {us:Us} {pk fk:List Nat} {σ:Env} {g:Option (Nat × Bool)} {gk:List Nat} {d ty f:Nat} {pos:String} {after:Array Edge} {at':Array TypeId} {xs:List Operand} {ds:List D}
theorem Hz {r:D} (h:Der P ops W0 N Fin os (us++[((d :: (gk++kxs xs))++pk,([d])++fk)]) [] [] ((d,.sy (.d r)) :: σ)) (hx:G7 σ xs=some ds:=by rfl) (hf:FnD P f ds (.d r):=by assumption) (hg:gst ops σ g=some (true,gk):=by rfl) (hN:Nat.blt d N=true:=by rfl) (hs:aF σ d=true:=by rfl):Der P ops W0 N Fin (⟨some d,.call { callee:=.value (.func f),args:=xs.toArray,argTypes:=at' },ty,pos,after,g⟩ :: os) us pk fk σ:=
 jy (.d r) (kxs xs) [] (fun σ' c a w hk hc=>by
  unfold Oper.wp
  rw [cw hf.enter rfl]
  refine (hf.calls c.F w _ (q9 hc xs ds hx hk) hc.lt).mono ?_
  rintro e w' ⟨v,rfl,hX,hv⟩
  exact ⟨v,_,rfl,hc.fresh hX,hv⟩) h hg hN hs rfl
end
attribute [local irreducible] ar Der At
theorem u9 (a:Big) (ns:List ByteArray) (s:ByteArray) (q:Nat) (hq:jo ns s=q) (hql:q<a.inner.length) (hi:a.inner.length≤1000) (h0:0≤a.edges∧a.edges≤1000) (h1:a.inner[q].link<a.edges+a.outer.length) (ho:a.outer.length≤1000):FnD Tryz.prog 286 [.s s,.p a.D,.p (DS ns)] (.d (s8 (iz a a.inner[q].link))):=by
 have f1:=nR ns s
 rw [hq] at f1
 have f2:=AJ a a.inner[q].link h0 (by omega) ho
 refine af Tryz.func286 (fun hw W0=>?_)
 refine kgo ?_
 exact aj
def zO (a:Big) (L:ByteArray→Int × ByteArray) (e:Int × ByteArray):Int × ByteArray:=if e.2=⟨#[]⟩ then (e.1+a.edges,⟨#[]⟩) else L e.2
def AD (a:Big) (Pl:Int→Int) (p:Int):Int:=if 0≤p then p+a.nodes.length else Pl p
def Fl (a:Big) (Pl:Int→Int) (x:Nd):Nd:=⟨x.control,AD a Pl x.parent,x.links⟩
theorem w6 {α β:Type} (f:α→β) (u:List β) (l:List α) (i:Nat) (h:i<l.length):u++(l.take (i+1)).map f=(u++(l.take i).map f)++[f l[i]]:=by rw [List.take_succ_eq_append_getElem h,List.map_append,List.append_assoc];rfl
def sr (a b:Big) (roots:Int) (sites:List Int) (ns:List ByteArray) (L:ByteArray→Int × ByteArray) (Pl:Int→Int):Big:=
 let A:=zN a (a.edges+b.edges) ns fun l=>nN (a.edges+b.edges) ns (id (iz a l))
 let R:=zN b (a.edges+b.edges) ns fun l=>nN (a.edges+b.edges) ns (zO a L (iz b l))
 ⟨roots,A.nodes++R.nodes.map (Fl a Pl),sites++b.sites.map (AD a Pl),a.edges+b.edges,ns,R.inner⟩
theorem xJ (a b:Big) (roots:Int) (sites:List Int) (names:List ByteArray) (gp gl:Nat) (cp cl:List D) (L:ByteArray→Int × ByteArray) (Pl:Int→Int) (hcp:(cp.all fun r=>!isT r)=true) (hcl:(cl.all fun r=>!isT r)=true) (da:wy a) (db:wy b) (ia:a.inner.length≤1000) (ib:b.inner.length≤1000) (ea:0≤a.edges∧a.edges≤500) (eb:0≤b.edges∧b.edges≤500) (hn:names.length≤1000) (hs:sites.length≤1000)
 (la:∀x∈a.nodes,∀l∈x.links,(0≤l∧l<a.edges+a.outer.length)) (wa:∀x∈a.inner,(0≤x.link∧x.link<a.edges+a.outer.length)) (lb:∀x∈b.nodes,∀l∈x.links,(0≤l∧l<b.edges+b.outer.length)) (wb:∀x∈b.inner,(0≤x.link∧x.link<b.edges+b.outer.length))
 (hpl:∀x∈b.nodes,x.parent≤1000∧(x.parent<0→FnD Tryz.prog gp ([.i x.parent]++cp) (.d (.i (Pl x.parent))))) (hps:∀p∈b.sites,p≤1000∧(p<0→FnD Tryz.prog gp ([.i p]++cp) (.d (.i (Pl p)))))
 (hL:∀l,(0≤l∧l<b.edges+b.outer.length)→FnD Tryz.prog 323 [s8 (iz b l),.p a.D,.p (.f gl cl)] (.d (s8 (zO a L (iz b l))))):FnD Tryz.prog 284 [a.D,b.D,.i roots,DI sites,DS names,.f gp cp,.f gl cl] (.d (sr a b roots sites (cG names) L Pl).D):=by
 have f1:=m9 a (a.edges+b.edges) names 322 [] id rfl da ia ⟨by omega,by omega⟩ ⟨by omega,by omega⟩ hn la wa (fun l _=>Bd _)
 have f2:=(m9 b (a.edges+b.edges) names 323 [.p a.D,.p (.f gl cl)] (zO a L) rfl db ib ⟨by omega,by omega⟩ ⟨by omega,by omega⟩ hn lb wb hL).toD
 have f3:=kB sites hs
 obtain ⟨R,hR⟩:∃R,R=zN b (a.edges+b.edges) (cG names) fun l=>nN (a.edges+b.edges) (cG names) (zO a L (iz b l)):=⟨_,rfl⟩
 rw [← hR] at f2
 have hRn:∀x∈R.nodes,x.parent≤1000∧(x.parent<0→FnD Tryz.prog gp ([.i x.parent]++cp) (.d (.i (Pl x.parent)))):=fun x hx=>by
  rw [hR] at hx
  obtain ⟨y,hy,rfl⟩:=List.mem_map.1 hx
  exact hpl y hy
 have hRl:R.nodes.length≤1000:=by rw [hR];simp [zN];exact db.nodes
 obtain ⟨A,hA⟩:∃A,A=zN a (a.edges+b.edges) (cG names) fun l=>nN (a.edges+b.edges) (cG names) (id (iz a l)):=⟨_,rfl⟩
 rw [← hA] at f1
 have hAl:A.nodes.length≤1000:=by rw [hA];simp [zN];exact da.nodes
 refine af Tryz.func284 (fun hw W0=>?_)
 refine kgo ?_
 refine rY 7 a.D ?_
 refine rY 13 (.f gl cl) ?_
 refine kgo ?_
 refine Jx 31031 ?_
 refine He 31031 (t':=.row 3 153 ((A.nodes++(R.nodes.take 0).map (Fl a Pl)).map Nd.D)) (by rw [List.take_zero,List.map_nil,List.append_nil]) ?_
 refine ai [5,7,8,14,18,49,50,10041] (fun i:Nat=>i≤R.nodes.length) (fun i=>R.nodes.length - i) (fun i=>[(51,.sy (.d (.i i))),(10018,.tk (.bx [.d (.i roots),.k 20001,.k 10041,.d (.i (a.edges+b.edges)),.d (DS A.outer),.d (.l 2 (R.inner.map Wr.D))])),(20001,.tk (.row 3 153 ((A.nodes++(R.nodes.take i).map (Fl a Pl)).map Nd.D)))]) 0 (Nat.zero_le _) (fun i hi=>?_)
 refine kgo ?_
 refine aJ (fun h=>?_) (fun h=>?_)
 ·have hlt:i<R.nodes.length:=by simpa using h
  have hx:=hRn _ (List.getElem_mem hlt)
  have f4:=B3 a R.nodes[i].parent (Pl R.nodes[i].parent) gp cp hcp hx.1 da.nodes hx.2
  have hs2:(A.nodes++(R.nodes.take (i+1)).map (Fl a Pl)).map Nd.D=(A.nodes++(R.nodes.take i).map (Fl a Pl)).map Nd.D++[(Fl a Pl R.nodes[i]).D]:=by rw [w6 _ _ _ _ hlt,List.map_append];rfl
  refine kgo ?_
  exact aa (i+1) hlt (by omega) (hs:=⟨⟨rfl,rfl⟩,⟨rfl,rfl⟩,⟨jz rfl hs2.symm,rfl⟩,by repeat (first|exact trivial|refine ⟨⟨rfl,rfl⟩,?_⟩)⟩)
 obtain rfl:i=R.nodes.length:=by have:=h;simp at this;omega
 rw [List.take_length]
 refine kgo ?_
 refine He 10041 (t':=.row 1 3 ((sites++(b.sites.take 0).map (AD a Pl)).map D.i)) (by rw [List.take_zero,List.map_nil,List.append_nil]) ?_
 refine ai [5,7,14,18,69,70,20001] (fun i:Nat=>i≤b.sites.length) (fun i=>b.sites.length - i) (fun i=>[(71,.sy (.d (.i i))),(10018,.tk (.bx [.d (.i roots),.k 20001,.k 20002,.d (.i (a.edges+b.edges)),.d (DS A.outer),.d (.l 2 (R.inner.map Wr.D))])),(20002,.tk (.row 1 3 ((sites++(b.sites.take i).map (AD a Pl)).map D.i)))]) 0 (Nat.zero_le _) (fun i hi=>?_)
 refine kgo ?_
 refine aJ (fun h=>?_) (fun h=>?_)
 ·have hlt:i<b.sites.length:=by simpa using h
  have hx:=hps _ (List.getElem_mem hlt)
  have hbl:=db.sites
  have f4:=B3 a b.sites[i] (Pl b.sites[i]) gp cp hcp hx.1 da.nodes hx.2
  have hs2:(sites++(b.sites.take (i+1)).map (AD a Pl)).map D.i=(sites++(b.sites.take i).map (AD a Pl)).map D.i++[.i (AD a Pl b.sites[i])]:=by rw [w6 _ _ _ _ hlt,List.map_append];rfl
  refine kgo ?_
  exact aa (i+1) hlt (by omega) (hs:=⟨⟨rfl,rfl⟩,⟨rfl,rfl⟩,⟨jz rfl hs2.symm,rfl⟩,by repeat (first|exact trivial|refine ⟨⟨rfl,rfl⟩,?_⟩)⟩)
 obtain rfl:i=b.sites.length:=by have:=h;simp at this;omega
 rw [List.take_length]
 refine br (aA (aA (bt (bo ?_))))
 refine pI 10018 1 ?_
 refine pI 10018 2 ?_
 refine kgo ?_
 rw [show sr a b roots sites (cG names) L Pl=⟨roots,A.nodes++R.nodes.map (Fl a Pl),sites++b.sites.map (AD a Pl),a.edges+b.edges,A.outer,R.inner⟩ from by rw [hA,hR];rfl]
 exact aj
theorem yX (a b:Big) (da:wy a) (db:wy b) (ia:a.inner.length≤1000) (ib:b.inner.length≤1000) (ea:0≤a.edges∧a.edges≤500) (eb:0≤b.edges∧b.edges≤500)
 (la:∀x∈a.nodes,∀l∈x.links,(0≤l∧l<a.edges+a.outer.length)) (wa:∀x∈a.inner,(0≤x.link∧x.link<a.edges+a.outer.length)) (lb:∀x∈b.nodes,∀l∈x.links,(0≤l∧l<b.edges+b.outer.length)) (wb:∀x∈b.inner,(0≤x.link∧x.link<b.edges+b.outer.length))
 (hpl:∀x∈b.nodes,x.parent≤1000∧(x.parent<0→0≤-1 - x.parent∧-1 - x.parent<a.sites.length)) (hps:∀p∈b.sites,p≤1000∧(p<0→0≤-1 - p∧-1 - p<a.sites.length))
 (hL:∀s∈b.outer,∃q:Nat,jo (a.inner.map Wr.name) s=q∧q<a.inner.length):FnD Tryz.prog 253 [a.D,b.D] (.d (sr a b a.roots [] (cG a.outer) (fun s=>iz a (a.inner.getD (jo (a.inner.map Wr.name) s).toNat ⟨⟨#[]⟩,0⟩).link) (fun p=>atI a.sites (-1 - p))).D):=by
 have f1:=(fP a ia).toL
 have hX:∀l,(0≤l∧l<b.edges+b.outer.length)→¬(iz b l).2=⟨#[]⟩→FnD Tryz.prog 286 ([.s (iz b l).2]++[.p a.D,.p (DS (a.inner.map Wr.name))]) (.d (s8 (iz a (a.inner.getD (jo (a.inner.map Wr.name) (iz b l).2).toNat ⟨⟨#[]⟩,0⟩).link))):=fun l hl hne=>by
  have hm:(iz b l).2∈b.outer:=by
   unfold iz at hne ⊢
   split at hne
   ·exact absurd rfl hne
   ·rename_i hge
    rw [if_neg hge]
    have hlt:(l - b.edges).toNat<b.outer.length:=by omega
    show b.outer.getD (l - b.edges).toNat ⟨#[]⟩∈b.outer
    rw [List.getD_eq_getElem?_getD,List.getElem?_eq_getElem hlt]
    exact List.getElem_mem hlt
  obtain ⟨q,hq,hql⟩:=hL _ hm
  have f:=u9 a (a.inner.map Wr.name) (iz b l).2 q hq hql ia ⟨ea.1,by omega⟩ (wa _ (List.getElem_mem hql)).2 da.outer
  rw [hq,Int.toNat_natCast,List.getD_eq_getElem?_getD,List.getElem?_eq_getElem hql]
  exact f
 have f2:=(xJ a b a.roots [] a.outer 285 286 [.p a.D] [.p a.D,.p (DS (a.inner.map Wr.name))] (fun s=>iz a (a.inner.getD (jo (a.inner.map Wr.name) s).toNat ⟨⟨#[]⟩,0⟩).link) (fun p=>atI a.sites (-1 - p)) rfl rfl da db ia ib ea eb da.outer (Nat.zero_le _) la wa lb wb
  (fun x hx=>⟨(hpl x hx).1,fun h=>oV a x.parent ((hpl x hx).2 h) da.sites⟩) (fun p hp=>⟨(hps p hp).1,fun h=>oV a p ((hps p hp).2 h) da.sites⟩)
  (fun l hl=>uo a _ _ (iz b l) _ rfl (by have h1:=hl.1;have h2:=eb.2;unfold iz;split <;> (constructor <;> dsimp only <;> omega)) ⟨ea.1,by omega⟩ (hX l hl))).arg (ds':=[a.D,b.D,.i a.roots,.n 1,DS a.outer,.f 285 [.p a.D],.f 286 [.p a.D,.p (DS (a.inner.map Wr.name))]]) (fun w F vs h=>by
   obtain ⟨v1,t1,rfl,h1,v2,t2,rfl,h2,v3,t3,rfl,h3,v4,t4,rfl,h4,h5⟩:=h
   exact ⟨_,_,rfl,h1,_,_,rfl,h2,_,_,rfl,h3,_,_,rfl,Cp h4,h5⟩)
 refine af Tryz.func253 (fun hw W0=>?_)
 refine kgo ?_
 refine rY 2 a.D ?_
 refine rY 5 (DS (a.inner.map Wr.name)) ?_
 refine kgo ?_
 refine Hz (hf:=f2) ?_
 refine kgo ?_
 exact aj
end Go.Proofs.YtnobdioccfeokaaGreatDoor
namespace Go.Proofs.YtnobdioccfeokaaGreatDoor
open Go.RowKit
set_option linter.unusedVariables false
set_option maxRecDepth 100000
set_option maxHeartbeats 4000000
attribute [local irreducible] ar Der At
def CS (a b:Big):Bool:=decide ((a.sites.length:Int)=b.roots) && eqS (a.inner.map Wr.name) b.outer
def Cd (a b:Big):Big:=sr a b a.roots [] (cG a.outer) (fun s=>iz a (a.inner.getD (jo (a.inner.map Wr.name) s).toNat ⟨⟨#[]⟩,0⟩).link) (fun p=>atI a.sites (-1 - p))
def mz (sig:List Ctl) (a b:Big):Bool:=aH sig a && (aH sig b && (CS a b && aH sig (Cd a b)))
theorem m7 (sig:List Ctl) (a b:Big) (ia:a.inner.length≤1000) (ib:b.inner.length≤1000) (hc:aH sig a=true→aH sig b=true→CS a b=true→(Cd a b).inner.length≤1000∧FnD Tryz.prog 253 [a.D,b.D] (.d (Cd a b).D)):FnO Tryz.prog 215 [.l 3 (sig.map Ctl.D),a.D,b.D] [6,0] (CV (zU (mz sig a b) (Cd a b))++[.d (.b (mz sig a b))]):=by
 have f1:=dW sig a (by omega)
 have f2:=dW sig b (by omega)
 have f3:FnD Tryz.prog 252 [a.D,b.D] (.d (.b (CS a b))):=Is a b ia
 refine cT Tryz.func215 (fun hw W0=>?_)
 refine kgo ?_
 cases ga:aH sig a
 ·rw [show mz sig a b=false from by simp [mz,ga]]
  refine kgo ?_
  exact ik (hp:=.cons (.d rfl) (.cons .m (.cons .n (.cons (.d rfl) (.cons .n (.cons .n (.cons (.d rfl) .nil)))))))
 refine kgo ?_
 cases gb:aH sig b
 ·rw [show mz sig a b=false from by simp [mz,gb]]
  refine kgo ?_
  exact ik (hp:=.cons (.d rfl) (.cons .m (.cons .n (.cons (.d rfl) (.cons .n (.cons .n (.cons (.d rfl) .nil)))))))
 refine kgo ?_
 cases gf:CS a b
 ·rw [show mz sig a b=false from by simp [mz,gf]]
  refine kgo ?_
  exact ik (hp:=.cons (.d rfl) (.cons .m (.cons .n (.cons (.d rfl) (.cons .n (.cons .n (.cons (.d rfl) .nil)))))))
 obtain ⟨h1,f4⟩:=hc ga gb gf
 have f5:=ox sig (Cd a b) h1
 rw [show mz sig a b=aH sig (Cd a b) from by simp [mz,ga,gb,gf]]
 refine kgo ?_
 exact ik (hp:=.cons (.d rfl) (.cons (.k rfl rfl) (.cons (.k rfl rfl) (.cons (.d rfl) (.cons (.k rfl rfl) (.cons (.k rfl rfl) (.cons (.d rfl) .nil)))))))
end Go.Proofs.YtnobdioccfeokaaGreatDoor
namespace Go.Proofs.YtnobdioccfeokaaGreatDoor
open Go.RowKit
set_option linter.unusedVariables false
set_option linter.unusedSimpArgs false
theorem E7 {a c:List ByteArray} (h:eqS a c=true):a=c:=by
 unfold eqS at h
 simp only [Bool.and_eq_true,decide_eq_true_eq] at h
 refine List.ext_getElem h.1 (fun i h1 h2=>?_)
 have:=(aC _ _).1 h.2 i h1
 rw [mn a c i h1 h2,beq_iff_eq] at this
 exact fN this
structure sj (b:Big):Prop where
 dims:wy b
 roots:0≤b.roots∧b.roots≤4
 edges:0≤b.edges∧b.edges≤8
 nodes:b.nodes.length≤8
 sitesN:b.sites.length≤4
 outer:b.outer.length≤16
 inner:b.inner.length≤16
 links:∀x∈b.nodes,∀l∈x.links,0≤l∧l<b.edges+b.outer.length
 wires:∀x∈b.inner,0≤x.link∧x.link<b.edges+b.outer.length
 pars:∀x∈b.nodes,-b.roots≤x.parent∧x.parent≤8
 sites:∀p∈b.sites,-b.roots≤p∧p≤8
 names:b.outer.Pairwise NLt
 inames:(b.inner.map Wr.name).Pairwise NLt
 full:∀s∈b.outer,s≠⟨#[]⟩
theorem yz {l:List ByteArray} (h:dg l=true):∀s∈l,s≠⟨#[]⟩:=fun s hs e=>by
 obtain ⟨i,hi,rfl⟩:=List.mem_iff_getElem.1 hs
 have h2:=(aC _ _).1 (Bool.and_eq_true_iff.1 h).1 i hi
 rw [rc l i hi] at h2
 have h3:=(Bool.and_eq_true_iff.1 h2).1
 unfold cJ at h3
 have h4:=bB (Bool.and_eq_true_iff.1 h3).1
 rw [e] at h4
 have:(ByteArray.mk #[]).size=0:=rfl
 omega
theorem dM {sig:List Ctl} {b:Big} (h:aH sig b=true):sj b:=by
 obtain ⟨h1,h2,h3,h4⟩:=dj h
 obtain ⟨_,_,_,_,_,ho,hi⟩:=eZ h1
 obtain ⟨r,n,s,e,o,i⟩:=bl h
 refine ⟨bw h,r,e,n,s,o,i,fun x hx l hl=>?_,fun x hx=>?_,fun x hx=>?_,fun p hp=>?_,uc ho,uc hi,yz ho⟩
 ·obtain ⟨k,hk,rfl⟩:=List.mem_iff_getElem.1 hx
  have:=bB ((e9 h k hk).2.2.2.2 l hl)
  omega
 ·have:=bB (List.all_eq_true.1 h4 x hx)
  omega
 ·obtain ⟨k,hk,rfl⟩:=List.mem_iff_getElem.1 hx
  have:=iE h k hk
  omega
 ·have:=List.all_eq_true.1 h3 p hp
  unfold fU dw at this
  split at this
  ·simp only [decide_eq_true_eq] at this;omega
  ·simp only [Bool.and_eq_true,decide_eq_true_eq] at this;omega
theorem uS (xs ys:List Int) (l:Int) (h0:0≤l):atI (xs++ys) l=if l<(xs.length:Int) then atI xs l else atI ys (l - xs.length):=by
 unfold atI
 rw [List.getD_eq_getElem?_getD,List.getD_eq_getElem?_getD,List.getD_eq_getElem?_getD,List.getElem?_append]
 by_cases h:l<(xs.length:Int)
 ·rw [if_pos h,if_pos (by omega)]
 ·rw [if_neg h,if_neg (by omega),show l.toNat - xs.length=(l - xs.length).toNat by omega]
theorem mE {α:Type} (f:α→Int) (l:List α) (i:Nat) (h:i<l.length):atI (l.map f) (i:Int)=f l[i]:=by
 rw [bF _ i (by simpa using h),List.getElem_map]
theorem oc (m:Int) (n:Nat) (l:Int) (h0:0≤l) (h1:l<n):atI (fb m n) l=m+l:=by
 obtain ⟨i,rfl⟩:=Int.eq_ofNat_of_zero_le h0
 unfold fb
 rw [mE _ _ i (by simp;omega),List.getElem_range]
theorem ui (m:Int) (n:Nat) (l:Int) (h0:0≤l) (h1:l<n):atI (cZ m n) l = -1 - m - l:=by
 obtain ⟨i,rfl⟩:=Int.eq_ofNat_of_zero_le h0
 unfold cZ
 rw [mE _ _ i (by simp;omega),List.getElem_range]
theorem Ff {r p:Int} (h0:0≤r) (h : -r≤p):upF 0 (cZ 0 r.toNat) p=p:=by
 unfold upF
 split
 ·rw [ui _ _ _ (by omega) (by omega)];omega
 ·omega
theorem xF {r:Int} {l:List Int} (h0:0≤r) (h:∀p∈l,-r≤p):du 0 (cZ 0 r.toNat) l=l:=by
 unfold du
 conv=>rhs;rw [← List.map_id l]
 exact List.map_congr_left fun p hp=>Ff h0 (h p hp)
theorem E1 {b:Big} (o:sj b) (m E:Int) (ns:List ByteArray) (l:Int) (h:0≤l∧l<b.edges+b.outer.length) :
 atI (fb m b.edges.toNat++dy b.outer E ns) l=if l<b.edges then m+l else E+jo ns (b.outer.getD (l - b.edges).toNat ⟨#[]⟩):=by
 have he:=o.edges
 rw [uS _ _ _ h.1,eI]
 by_cases hl:l<b.edges
 ·rw [if_pos (by omega),if_pos hl,oc _ _ _ h.1 (by omega)]
 ·rw [if_neg (by omega),if_neg hl]
  have hj:(l - b.edges).toNat<b.outer.length:=by omega
  rw [show l - ((b.edges.toNat:Nat):Int)=((l - b.edges).toNat:Nat) by omega]
  unfold dy
  rw [mE _ _ _ hj,List.getD_eq_getElem?_getD,List.getElem?_eq_getElem hj];rfl
theorem wo {b:Big} (o:sj b) {l:Int} (h:¬l<b.edges) (h1:l<b.edges+b.outer.length):∃hj:(l - b.edges).toNat<b.outer.length,b.outer.getD (l - b.edges).toNat ⟨#[]⟩=b.outer[(l - b.edges).toNat]∧b.outer[(l - b.edges).toNat]≠⟨#[]⟩:=by
 have hj:(l - b.edges).toNat<b.outer.length:=by omega
 exact ⟨hj,by rw [List.getD_eq_getElem?_getD,List.getElem?_eq_getElem hj];rfl,o.full _ (List.getElem_mem hj)⟩
theorem B5 {a:Big} (o:sj a) (E:Int) (ns:List ByteArray) (l:Int) (h:0≤l∧l<a.edges+a.outer.length) :
 nN E ns (id (iz a l))=atI (fb 0 a.edges.toNat++dy a.outer E ns) l:=by
 rw [E1 o 0 E ns l h]
 unfold iz
 by_cases hl:l<a.edges
 ·rw [if_pos hl,if_pos hl];simp [nN]
 ·rw [if_neg hl,if_neg hl]
  obtain ⟨hj,e1,e2⟩:=wo o hl h.2
  rw [e1]
  simp [nN,e2]
theorem wY {ps ks:List Int} {by':Int} {l:List Nd} {pf lf:Int→Int} (hp:∀x∈l,pf x.parent=upF by' ps x.parent) (hl:∀x∈l,∀k∈x.links,lf k=atI ks k):(l.map fun x=>(⟨x.control,pf x.parent,x.links.map lf⟩:Nd))=cU by' ps ks l:=by
 unfold cU ew
 refine List.map_congr_left fun x hx=>?_
 rw [hp x hx,List.map_congr_left (hl x hx)]
theorem xQ {ks:List Int} {l:List Wr} {lf:Int→Int} (h:∀x∈l,lf x.link=atI ks x.link):(l.map fun w=>(⟨w.name,lf w.link⟩:Wr))=dx ks l:=by
 unfold dx
 exact List.map_congr_left fun x hx=>by rw [h x hx]
theorem rF {l:List ByteArray} (h:l.Pairwise NLt) (j:Nat) (hj:j<l.length):jo l l[j]=j:=by
 refine vd hj (by simp) (fun k hk=>?_)
 have:=List.pairwise_iff_getElem.1 h k j (by omega) hj hk
 by_cases e:(l[k].toList == l[j].toList)=true
 ·rw [beq_iff_eq] at e
  rw [fN e] at this
  exact absurd this (NLt.irr _)
 ·simpa using e
theorem xG {a b:Big} (oa:sj a) (ob:sj b) (roots:Int) (sites ps ks:List Int) (ns:List ByteArray) (L:ByteArray→Int × ByteArray) (Pl:Int→Int)
 (hp:∀p,-b.roots≤p→p<0→Pl p=atI ps (-1 - p)) (hk:∀l,(0≤l∧l<b.edges+b.outer.length)→nN (a.edges+b.edges) ns (zO a L (iz b l))=atI ks l) :
 sr a b roots sites ns L Pl=⟨roots,cU 0 (cZ 0 a.roots.toNat) (fb 0 a.edges.toNat++dy a.outer (a.edges+b.edges) ns) a.nodes++cU a.nodes.length ps ks b.nodes,sites++du a.nodes.length ps b.sites,a.edges+b.edges,ns,dx ks b.inner⟩:=by
 have hm:∀p,-b.roots≤p→AD a Pl p=upF a.nodes.length ps p:=fun p h1=>by
  unfold AD upF
  by_cases h:p<0
  ·rw [if_neg (by omega),if_pos h,hp p h1 h]
  ·rw [if_pos (by omega),if_neg h]
 unfold sr zN
 dsimp only
 rw [wY (by':=0) (ps:=cZ 0 a.roots.toNat) (ks:=fb 0 a.edges.toNat++dy a.outer (a.edges+b.edges) ns) (pf:=fun p=>p) (lf:=fun l=>nN (a.edges+b.edges) ns (id (iz a l))) (fun x hx=>(Ff oa.roots.1 (oa.pars x hx).1).symm) (fun x hx k hk=>B5 oa _ _ k (oa.links x hx k hk)),
  xQ (ks:=ks) (lf:=fun l=>nN (a.edges+b.edges) ns (zO a L (iz b l))) (fun x hx=>hk _ (ob.wires x hx)),
  List.map_map,show b.nodes.map (Fl a Pl ∘ fun x=>(⟨x.control,x.parent,x.links.map fun l=>nN (a.edges+b.edges) ns (zO a L (iz b l))⟩:Nd))=b.nodes.map fun x=>(⟨x.control,AD a Pl x.parent,x.links.map fun l=>nN (a.edges+b.edges) ns (zO a L (iz b l))⟩:Nd) from rfl,
  wY (by':=(a.nodes.length:Int)) (ps:=ps) (ks:=ks) (fun x hx=>hm _ (ob.pars x hx).1) (fun x hx k hk'=>hk k (ob.links x hx k hk'))]
 congr 1
 exact congrArg (sites ++ ·) (List.map_congr_left fun p hp'=>hm p (ob.sites p hp').1)
theorem qC {a b:Big} (h:CS a b=true):(a.sites.length:Int)=b.roots∧a.inner.map Wr.name=b.outer:=by
 unfold CS at h
 simp only [Bool.and_eq_true,decide_eq_true_eq] at h
 exact ⟨h.1,E7 h.2⟩
theorem BD {a b:Big} (oa:sj a) (ob:sj b) (h:CS a b=true):Cd a b=vO a b:=by
 obtain ⟨hs,hn⟩:=qC h
 unfold Cd vO D6
 rw [lH oa.names,xG oa ob a.roots [] a.sites (fb a.edges b.edges.toNat++a.inner.map fun x=>atI (Bc a b) x.link) a.outer _ _ (fun p _ _=>rfl),xF oa.roots.1 (fun p hp=>(oa.sites p hp).1)]
 ·rfl
 intro l hl
 have he:=ob.edges
 rw [uS _ _ _ hl.1,eI]
 by_cases hlt:l<b.edges
 ·rw [show iz b l=(l,⟨#[]⟩) from if_pos hlt,if_pos (by omega),oc _ _ _ hl.1 (by omega)]
  simp [zO,nN];omega
 ·rw [show iz b l=(0,b.outer.getD (l - b.edges).toNat ⟨#[]⟩) from if_neg hlt,if_neg (by omega)]
  obtain ⟨hj,e1,e2⟩:=wo ob hlt hl.2
  have hj':(l - b.edges).toNat<a.inner.length:=by have:=congrArg List.length hn;simp at this;omega
  rw [e1]
  have hi:jo (a.inner.map Wr.name) b.outer[(l - b.edges).toNat]=(l - b.edges).toNat:=by
   rw [show b.outer[(l - b.edges).toNat]=(a.inner.map Wr.name)[(l - b.edges).toNat]'(by simpa using hj') from by simp only [hn]]
   exact rF oa.inames _ _
  rw [show l - ((b.edges.toNat:Nat):Int)=((l - b.edges).toNat:Nat) by omega,mE _ _ _ hj']
  unfold zO
  rw [if_neg e2]
  dsimp only
  rw [hi,Int.toNat_natCast,List.getD_eq_getElem?_getD,List.getElem?_eq_getElem hj',Option.getD_some]
  exact B5 oa _ _ _ (oa.wires _ (List.getElem_mem hj'))
theorem Hv {a b:Big} (oa:sj a) (ob:sj b) (h:CS a b=true):(Cd a b).inner.length≤1000∧FnD Tryz.prog 253 [a.D,b.D] (.d (Cd a b).D):=by
 obtain ⟨hs,hn⟩:=qC h
 have ha:=oa.inner
 have hb:=ob.inner
 have ea:=oa.edges
 have eb:=ob.edges
 refine ⟨by rw [BD oa ob h,rP];omega,yX a b oa.dims ob.dims (by omega) (by omega) ⟨ea.1,by omega⟩ ⟨eb.1,by omega⟩ oa.links oa.wires ob.links ob.wires (fun x hx=>?_) (fun p hp=>?_) (fun s hs=>?_)⟩
 ·have:=ob.pars x hx
  omega
 ·have:=ob.sites p hp
  omega
 ·rw [← hn] at hs
  obtain ⟨j,hj,rfl⟩:=List.mem_iff_getElem.1 hs
  exact ⟨j,rF oa.inames _ _,by simpa using hj⟩
def xN (l:List Wr):List Wr:=l.foldl (fT wLt) []
theorem yZ {α:Type} (lt:α→α→Bool) (x:α):∀l:List α,(∀y∈l,lt y x=true)→fT lt l x=l++[x]:=by
 intro l
 induction l with
 | nil=>intro _;rfl
 | cons y l ih=>intro h;unfold fT;rw [if_pos (h y (by simp)),ih (fun z hz=>h z (by simp [hz]))];rfl
theorem EJ {α:Type} {lt:α→α→Bool}:∀x a:List α,(a++x).Pairwise (fun u v=>lt u v=true)→x.foldl (fT lt) a=a++x:=by
 intro x
 induction x with
 | nil=>intro a _;simp
 | cons u x ih=>
  intro a h
  rw [List.foldl_cons,yZ _ _ _ (fun y hy=>(List.pairwise_append.1 h).2.2 y hy u (by simp)),ih _ (by rw [List.append_assoc];exact h),List.append_assoc];rfl
theorem xA {x y:List Wr} (h:(x.map Wr.name).Pairwise NLt):xN (x++y)=cu x y:=by
 unfold xN cu
 rw [List.foldl_append,EJ (lt:=wLt) x [] (List.pairwise_map.1 h)];rfl
theorem xi (l:List Wr):(xN l).length=l.length:=by
 have:∀(l a:List Wr),(l.foldl (fT wLt) a).length=a.length+l.length:=by
  intro l
  induction l with
  | nil=>simp
  | cons x l ih=>intro a;rw [List.foldl_cons,ih,pa,List.length_cons];omega
 have h:=this l []
 simpa [xN] using h
theorem AN (l:List Wr):∀a:List Wr,a.Pairwise (fun u v=>wLt u v=true)→((a++l).map Wr.name).Nodup→(l.foldl (fT wLt) a).Pairwise (fun u v=>wLt u v=true)∧∀z,z∈l.foldl (fT wLt) a↔z∈a++l:=by
 induction l with
 | nil=>intro a h _;exact ⟨h,fun z=>by simp⟩
 | cons x l ih=>
  intro a h hn
  have hx:∀y∈a,wLt y x=true∨wLt x y=true:=fun y hy=>NLt.total fun e=>by
   rw [List.map_append,List.nodup_append] at hn
   exact hn.2.2 _ (List.mem_map_of_mem hy) _ (List.mem_map_of_mem (show x∈x :: l by simp)) e
  have hm:=oS wLt x
  obtain ⟨h1,h2⟩:=ih (fT wLt a x) (tm (lt:=wLt) (fun u v w=>NLt.trans u.name v.name w.name) x a h hx) (by
   have hp:(fT wLt a x).Perm (x :: a):=by
    clear hn ih hx h
    induction a with
    | nil=>exact List.Perm.refl _
    | cons y a ih2=>unfold fT;split
                    ·exact (ih2.cons y).trans (List.Perm.swap x y a)
                    ·exact List.Perm.refl _
   have hq:(fT wLt a x++l).Perm (a++x :: l):=(hp.append_right l).trans (List.perm_middle.symm)
   exact (hq.map Wr.name).nodup_iff.2 hn)
  refine ⟨h1,fun z=>?_⟩
  rw [List.foldl_cons,h2,List.mem_append,hm,List.mem_append,List.mem_cons]
  constructor
  ·rintro ((h|h)|h) <;> simp [h]
  ·rintro (h|h|h) <;> simp [h]
theorem zY {l d:List Wr} (hn:(l.map Wr.name).Nodup) (hp:d.Perm l) (hs:d.Pairwise fun x y=>wLt y x=false):d=xN l:=by
 obtain ⟨h1,h2⟩:=AN l [] List.Pairwise.nil (by simpa using hn)
 have hd:(d.map Wr.name).Nodup:=(hp.map Wr.name).nodup_iff.2 hn
 have h3:d.Pairwise fun x y=>wLt x y=true:=by
  have h4:d.Pairwise fun x y=>x.name≠y.name:=List.pairwise_map.1 (List.nodup_iff_pairwise_ne.1 hd)
  refine (hs.and h4).imp fun {x y} h=>(NLt.total h.2).resolve_right fun e=>?_
  unfold NLt at e
  have:=h.1
  unfold wLt at this
  rw [e] at this;cases this
 refine A6 (lt:=fun x y=>wLt x y=true) (fun x=>NLt.irr _) (fun x y z=>NLt.trans _ _ _) d (xN l) h3 h1 (fun z=>?_)
 rw [hp.mem_iff]
 have:=h2 z
 simpa [xN] using this.symm
def rZ (a b:Big):Big:=sr a b (a.roots+b.roots) a.sites (js a b) (fun s=>(0,s)) (fun p=>p - a.roots)
def zP (a b:Big):List Wr:=(zN a (a.edges+b.edges) (js a b) fun l=>nN (a.edges+b.edges) (js a b) (id (iz a l))).inner++(rZ a b).inner
def Jr (a b:Big):Big:=⟨(rZ a b).roots,(rZ a b).nodes,(rZ a b).sites,(rZ a b).edges,(rZ a b).outer,xN (zP a b)⟩
theorem p7 (a b:Big):(zP a b).map Wr.name=a.inner.map Wr.name++b.inner.map Wr.name:=by
 unfold zP rZ sr zN
 simp only [List.map_append,List.map_map]
 rfl
theorem Bw {a b:Big} (oa:sj a) (ob:sj b):rZ a b=⟨a.roots+b.roots,cU 0 (cZ 0 a.roots.toNat) (gP a b a 0) a.nodes++cU a.nodes.length (cZ a.roots b.roots.toNat) (gP a b b a.edges) b.nodes,a.sites++du a.nodes.length (cZ a.roots b.roots.toNat) b.sites,a.edges+b.edges,js a b,dx (gP a b b a.edges) b.inner⟩:=by
 unfold rZ gP
 refine xG oa ob _ _ (cZ a.roots b.roots.toNat) _ _ _ _ (fun p h1 h2=>?_) (fun l hl=>?_)
 ·rw [ui _ _ _ (by omega) (by have:=ob.roots;omega)];omega
 ·rw [E1 ob _ _ _ l hl]
  unfold iz
  by_cases h:l<b.edges
  ·rw [if_pos h,if_pos h];simp [zO,nN];omega
  ·rw [if_neg h,if_neg h]
   obtain ⟨hj,e1,e2⟩:=wo ob h hl.2
   rw [e1]
   simp [zO,nN,e2]
theorem Gl {a b:Big} (oa:sj a) (ob:sj b):Jr a b=ip a b:=by
 unfold Jr ip
 rw [xF oa.roots.1 (fun p hp=>(oa.sites p hp).1)]
 have hw:zP a b=dx (gP a b a 0) a.inner++dx (gP a b b a.edges) b.inner:=by
  unfold zP
  rw [Bw oa ob]
  unfold zN
  dsimp only
  rw [xQ (ks:=gP a b a 0) (lf:=fun l=>nN (a.edges+b.edges) (js a b) (id (iz a l))) (fun x hx=>B5 oa _ _ _ (oa.wires x hx))]
 rw [hw,Bw oa ob,xA (by unfold dx;rw [List.map_map];exact oa.inames)]
theorem rI (l:List ByteArray) (s:ByteArray):qc l s=l.any fun x=>x.toList == s.toList:=lM l s
theorem td (a c:List ByteArray):a.any (qc c) = !iu a c:=by
 unfold iu
 rw [Bool.eq_iff_iff,Bool.not_eq_true',List.any_eq_true,List.all_eq_false]
 constructor
 ·rintro ⟨s,h1,h2⟩;exact ⟨s,h1,by rw [← rI,h2];simp⟩
 ·rintro ⟨s,h1,h2⟩;exact ⟨s,h1,by rw [rI];simpa using h2⟩
theorem vF {a c:List ByteArray} (h:iu a c=true) (ha:a.Pairwise NLt) (hc:c.Pairwise NLt):(a++c).Nodup:=by
 refine List.nodup_append.2 ⟨i1 NLt NLt.irr ha,i1 NLt NLt.irr hc,fun x hx y hy e=>?_⟩
 subst e
 have:=List.all_eq_true.1 h x hx
 rw [Bool.not_eq_true',List.any_eq_false] at this
 exact this x hy (by simp)
end Go.Proofs.YtnobdioccfeokaaGreatDoor
