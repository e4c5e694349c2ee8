/-
  Proved facts that the law leans on.
-/
import Derived.Test.YtclpbhoekmecjaaGreatDoorZP7
namespace Go.Proofs.YtclpbhoekmecjaaGreatDoor
open Go.RowKit
set_option linter.unusedVariables false
set_option linter.unusedSimpArgs false
theorem aL.updM {W0:cf} {N:Nat} {σ τ:Env} {a:Act} {w w':World} {c:Cx} {U:BS} (h:aL W0 N σ a w c) (hg:Chg U w w') (hU:∀b,U b→∃i x,au τ i=some x∧c.T i b) (hτ:∀i x,au τ i=some x→∃t u,x=.tk u∧au σ i=some (.tk t)∧u.ok c w' (c.ρ i) (c.T i)):aL W0 N (τ++σ) a w' c:=by
 have hUf:∀b,U b→¬c.F b∧(W0.M b∨W0.w.heap.size≤b):=fun b hb=>by
  obtain ⟨i,x,h1,h2⟩:=hU b hb
  obtain ⟨t,u,_,h4,_⟩:=hτ i x h1
  exact ⟨((h.tok i t h4).2.2 b h2).1,((h.tok i t h4).2.2 b h2).2.2⟩
 have hag:=h.agF hg (fun b hb=>(hUf b hb).1)
 have conv:∀j x,au (τ++σ) j=some (.tk x)→∃x',au σ j=some (.tk x'):=fun j x hj=>by
  rw [ii] at hj
  cases hl:au τ j with
  | none=>rw [hl] at hj;exact ⟨x,hj⟩
  | some y=>obtain ⟨t,_,_,h4,_⟩:=hτ j y hl;exact ⟨t,h4⟩
 refine ⟨h.ext' hg (fun b hb=>(hUf b hb).2),h.old,fun b hb=>Nat.lt_of_lt_of_le (h.lt b hb) hg.size,h.size,h.defers,fun j hj=>?_,fun j x hj=>?_,fun j k x y hj hk hne b=>?_,fun t' s ht'=>?_⟩
 ·rw [ii]
  cases hl:au τ j with
  | none=>exact h.all j hj
  | some y=>simp
 ·rw [ii] at hj
  cases hl:au τ j with
  | none=>
   rw [hl] at hj
   obtain ⟨k1,k2,k3⟩:=h.tok j x hj
   refine ⟨k1,Tk.keep (Cx.Le.refl c) hg.size hag (fun b hb hlt=>hg.block b hlt (fun hs=>?_)) x _ k2,fun b hb=>⟨(k3 b hb).1,Nat.lt_of_lt_of_le (k3 b hb).2.1 hg.size,(k3 b hb).2.2⟩⟩
   obtain ⟨i,y,h1,h2⟩:=hU b hs
   obtain ⟨t,u,_,h4,_⟩:=hτ i y h1
   have hij:i≠j:=fun e=>by subst e;rw [hl] at h1;cases h1
   exact h.off i j t x h4 hj hij b h2 hb
  | some y=>
   rw [hl] at hj
   obtain ⟨t,u,h3,h4,h5⟩:=hτ j y hl
   subst h3
   cases hj
   obtain ⟨k1,k2,k3⟩:=h.tok j t h4
   exact ⟨k1,h5,fun b hb=>⟨(k3 b hb).1,Nat.lt_of_lt_of_le (k3 b hb).2.1 hg.size,(k3 b hb).2.2⟩⟩
 ·obtain ⟨x',hx'⟩:=conv j x hj
  obtain ⟨y',hy'⟩:=conv k y hk
  exact h.off j k x' y' hx' hy' hne b
 ·rw [ii] at ht'
  cases hl:au τ t' with
  | none=>
   rw [hl] at ht'
   obtain ⟨x,h1,h2⟩:=h.tmp t' s ht'
   exact ⟨x,h1,Sy.keep (Cx.Le.refl c) hag s x h2⟩
  | some y=>
   rw [hl] at ht'
   obtain ⟨t,u,h3,_⟩:=hτ t' y hl
   subst h3
   cases ht'
structure GH (P:Program) (f:FuncId) (ds ds':List D) (k k':Int):Prop where
 enter:∀args w,(callFunc f args).run P w=.ok (.enter f args) w
 calls:∀(T:Nat→BS) (w:World) (cs:List Value),cs.length=ds.length→(∀(i:Nat) (d:D),ds[i]? = some d→∃u,cs[i]? = some u∧Ow w d (T i) [u])→(∀i j,i≠j→∀b,T i b→¬T j b)→(∀i b,T i b→b<w.heap.size) →
  Calls P f #[.agg cs.toArray,.int .i64 k] w fun e w'=>e=.returned (.int .i64 k')∧I64 k'∧Chg (fun b=>∃i,i<ds.length∧T i b) w w'∧∀(i z:Nat) (xs:List D),ds'[i]? = some (.l z xs)→∃u,cs[i]? = some u∧Ow w' (.l z xs) (T i) [u]
def nt (σ:Env):List Sy→Option (List D)
 | []=>some []
 | .k i :: ss=>match au σ i,nt σ ss with
  | some (.tk (.own (.l z xs) none _)),some ds=>some (.l z xs :: ds)
  | _,_=>none
 | .d r :: ss=>match Ft r,nt σ ss with
  | true,some ds=>some (r :: ds)
  | _,_=>none
 | _ :: _=>none
def rM (σ:Env):List Sy→List D→Env
 | .k i :: ss,d :: ds=>match au σ i with
  | some (.tk (.own _ _ tag))=>(i,.tk (.own d none tag)) :: rM σ ss ds
  | _=>rM σ ss ds
 | _ :: ss,_ :: ds=>rM σ ss ds
 | _,_=>[]
def y6:List D→List D→Bool
 | [],[]=>true
 | .l _ _ :: ds,.l _ _ :: ds'=>y6 ds ds'
 | .l _ _ :: _,_ :: _=>false
 | _ :: ds,_ :: ds'=>y6 ds ds'
 | _,_=>false
def tkT (c:Cx):Option Sy→BS
 | some (.k i)=>c.T i
 | _=>fun _=>False
theorem Fc {r:D} {c:Cx} {w:World} {v:Value} {T:BS} (h:Ft r=true) (hv:(Sy.d r).ok c w v):Ow w r T [v]:=by
 cases r with
 | i n=>exact hv
 | s n=>exact hv
 | b n=>exact hv
 | _=>cases h
theorem pW {σ σ':Env}:∀(ss:List Sy),(∀κ∈iw ss,au σ' κ=au σ κ)→nt σ' ss=nt σ ss:=by
 intro ss
 induction ss with
 | nil=>intro _;rfl
 | cons s ss ih=>
  intro h
  have h2:=ih (fun κ hκ=>h κ (by simp [iw,hκ]))
  cases s with
  | k i=>unfold nt;rw [h i (by simp [iw,kSy]),h2]
  | d r=>unfold nt;rw [h2]
  | _=>rfl
theorem yC {σ σ':Env}:∀(ss:List Sy) (ds:List D),(∀κ∈iw ss,au σ' κ=au σ κ)→rM σ' ss ds=rM σ ss ds:=by
 intro ss
 induction ss with
 | nil=>intro ds _;rfl
 | cons s ss ih=>
  intro ds h
  cases ds with
  | nil=>cases s <;> rfl
  | cons d ds=>
   have h2:=ih ds (fun κ hκ=>h κ (by simp [iw,hκ]))
   cases s with
   | k i=>unfold rM;rw [h i (by simp [iw,kSy]),h2]
   | _=>exact h2
theorem Ag {W0:cf} {N:Nat} {σ:Env} {a:Act} {w:World} {c:Cx} (h:aL W0 N σ a w c):∀(ss:List Sy) (ds:List D) (vs:List Value),nt σ ss=some ds→Sy.oks c w ss vs→vs.length=ds.length∧ss.length=ds.length∧∀(i:Nat) (d:D),ds[i]? = some d→∃u,vs[i]? = some u∧Ow w d (tkT c ss[i]?) [u]:=by
 intro ss
 induction ss with
 | nil=>intro ds vs h1 h2;cases h1;rw [show vs = [] from h2];exact ⟨rfl,rfl,fun i d hi=>by simp at hi⟩
 | cons s ss ih=>
  intro ds vs h1 ⟨v,t,e1,e2,e3⟩
  subst e1
  have fin:∀(d:D) (es:List D),ds=d :: es→nt σ ss=some es→Ow w d (tkT c (some s)) [v]→(v :: t).length=ds.length∧(s :: ss).length=ds.length∧∀(i:Nat) (d:D),ds[i]? = some d→∃u,(v :: t)[i]? = some u∧Ow w d (tkT c (s :: ss)[i]?) [u]:=fun d es hd he ho=>by
   subst hd
   obtain ⟨q1,q2,q3⟩:=ih es t he e3
   refine ⟨by simp [q1],by simp [q2],fun i d' hi=>?_⟩
   cases i with
   | zero=>simp at hi;subst hi;exact ⟨v,rfl,ho⟩
   | succ i=>exact q3 i d' (by simpa using hi)
  cases s with
  | k i=>
   unfold nt at h1
   split at h1
   ·rename_i z xs tag es q1 q2
    cases h1
    obtain ⟨_,⟨hO,_⟩,_⟩:=h.tok i _ q1
    exact fin _ _ rfl q2 (by rw [e2.2];exact hO)
   ·cases h1
  | d r=>
   unfold nt at h1
   split at h1
   ·rename_i es q1 q2
    cases h1
    exact fin _ _ rfl q2 (Fc q1 e2)
   ·cases h1
  | _=>cases h1
theorem sS {σ:Env}:∀(ss:List Sy) (ds ds':List D),nt σ ss=some ds→y6 ds ds'=true→Cj ss=true→∀(j:Nat) (x:In),au (rM σ ss ds') j=some x→∃(n:Nat) (z z':Nat) (xs xs':List D) (tag:Option (Value × BS)),ss[n]? = some (.k j)∧ds'[n]? = some (.l z' xs')∧au σ j=some (.tk (.own (.l z xs) none tag))∧x=.tk (.own (.l z' xs') none tag):=by
 intro ss
 induction ss with
 | nil=>intro ds ds' h1 h2 _ j x hj;cases h1;cases ds' <;> cases hj
 | cons s ss ih=>
  intro ds ds' h1 h2 h3 j x hj
  have up:∀(es es':List D) (d':D),ds'=d' :: es'→nt σ ss=some es→y6 es es'=true→au (rM σ ss es') j=some x→∃(n:Nat) (z z':Nat) (xs xs':List D) (tag:Option (Value × BS)),(s :: ss)[n]? = some (.k j)∧ds'[n]? = some (.l z' xs')∧au σ j=some (.tk (.own (.l z xs) none tag))∧x=.tk (.own (.l z' xs') none tag):=fun es es' d' e1 e2 e3 e4=>by
   obtain ⟨n,z,z',xs,xs',tag,q1,q2,q3,q4⟩:=ih es es' e2 e3 (rR h3) j x e4
   exact ⟨n+1,z,z',xs,xs',tag,by simpa using q1,by rw [e1];simpa using q2,q3,q4⟩
  cases s with
  | k i=>
   unfold nt at h1
   split at h1
   ·rename_i z xs tag es q1 q2
    cases h1
    cases ds' with
    | nil=>cases h2
    | cons d' es'=>
     cases d' with
     | l z' xs'=>
      unfold rM at hj
      rw [q1] at hj
      dsimp only at hj
      rw [ah] at hj
      split at hj
      ·rename_i e
       subst e
       cases hj
       exact ⟨0,z,z',xs,xs',tag,rfl,rfl,q1,rfl⟩
      ·exact up es es' _ rfl q2 h2 hj
     | _=>cases h2
   ·cases h1
  | d r=>
   unfold nt at h1
   split at h1
   ·rename_i es q1 q2
    cases h1
    cases ds' with
    | nil=>cases r <;> cases h2
    | cons d' es'=>
     refine up es es' _ rfl q2 ?_ hj
     cases r with
     | l z xs=>cases q1
     | _=>exact h2
   ·cases h1
  | _=>cases h1
theorem wG {σ:Env}:∀(ss:List Sy) (ds ds':List D),nt σ ss=some ds→ds.length=ds'.length→∀(n i:Nat),ss[n]? = some (.k i)→∃x,au (rM σ ss ds') i=some x:=by
 intro ss
 induction ss with
 | nil=>intro ds ds' _ _ n i h;simp at h
 | cons s ss ih=>
  intro ds ds' h1 h2 n i hn
  have go:∀(es es':List D) (d':D),ds'=d' :: es'→nt σ ss=some es→es.length=es'.length→(∀m,n=m+1→∃x,au (rM σ ss es') i=some x):=fun es es' d' e1 e2 e3 m em=>by
   subst em
   exact ih es es' e2 e3 m i (by simpa using hn)
  cases s with
  | k j=>
   unfold nt at h1
   split at h1
   ·rename_i z xs tag es q1 q2
    cases h1
    cases ds' with
    | nil=>cases h2
    | cons d' es'=>
     unfold rM
     rw [q1]
     dsimp only
     rw [ah]
     split
     ·exact ⟨_,rfl⟩
     ·cases n with
      | zero=>rename_i e;simp at hn;exact absurd hn e
      | succ m=>exact go es es' d' rfl q2 (by simpa using h2) m rfl
   ·cases h1
  | d r=>
   unfold nt at h1
   split at h1
   ·rename_i es q1 q2
    cases h1
    cases ds' with
    | nil=>cases h2
    | cons d' es'=>
     cases n with
     | zero=>simp at hn
     | succ m=>exact go es es' d' rfl q2 (by simpa using h2) m rfl
   ·cases h1
  | _=>cases h1
section
variable {P:Program} {ops:Array Oper} {W0:cf} {N:Nat} {Fin:Us→Env→Prop} {os:List Oper} {us:Us} {pk fk:List Nat} {σ:Env} {g:Option (Nat × Bool)} {gk:List Nat} {d ty ty' f:Nat} {pos:String} {after:Array Edge} {at':Array TypeId} {x y:Operand}
theorem mi {ss:List Sy} {ds ds':List D} {k k':Int} (h:Der P ops W0 N Fin os (us++[((d :: (gk++(iw ss++(kx x++kx y))))++pk,(d :: (rM σ ss ds').map Prod.fst)++fk)]) [] [] ((d,.sy (.d (.i k'))) :: (rM σ ss ds'++σ))) (hx:ev σ x=some (.ag ss):=by rfl) (ho:nt σ ss=some ds:=by rfl) (hy:ev σ y=some (.d (.i k)):=by rfl) (hf:GH P f ds ds' k k':=by assumption) (hr:y6 ds ds'=true:=by rfl) (hl:Nat.beq ds.length ds'.length=true:=by rfl) (hd:Cj ss=true:=by rfl) (hg:gst ops σ g=some (true,gk):=by rfl) (hN:Nat.blt d N=true:=by rfl) (hs:aM (rM σ ss ds'++σ) d=true:=by rfl) (hu:(rM σ ss ds').all (fun p=>!(Nat.beq p.1 d))=true:=by rfl):Der P ops W0 N Fin (⟨some d,.call { callee:=.value (.func f),args:=[x,y].toArray,argTypes:=at' },ty,pos,after,g⟩ :: os) us pk fk σ:=
 me (.d (.i k')) (iw ss++(kx x++kx y)) (rM σ ss ds') (fun σ' c a w hk hc=>by
  have hks:∀κ∈iw ss,au σ' κ=au σ κ:=fun κ hκ=>hk κ (by simp [hκ])
  have ho':=(pW ss hks).trans ho
  have hl':=Nat.eq_of_beq_eq_true hl
  obtain ⟨vs,hv,hoks⟩:=av hc (af hx (fun κ hκ=>hk κ (by simp [hκ])))
  obtain ⟨hyv,_⟩:=av hc (af hy (fun κ hκ=>hk κ (by simp [hκ])))
  obtain ⟨h1,h2,h3⟩:=Ag hc ss ds vs ho' hoks
  have tkLt:∀(n:Nat) (b:Nat),tkT c ss[n]? b→∃i t,ss[n]? = some (.k i)∧au σ' i=some (.tk t)∧c.T i b:=fun n b hb=>by
   cases hn:ss[n]? with
   | none=>rw [hn] at hb;exact hb.elim
   | some s=>
    rw [hn] at hb
    cases s with
    | k i=>
     obtain ⟨x',hx'⟩:=wG ss ds ds' ho' hl' n i hn
     obtain ⟨_,_,_,_,_,_,_,_,q3,_⟩:=sS ss ds ds' ho' hr hd i x' hx'
     exact ⟨i,_,rfl,q3,hb⟩
    | _=>exact hb.elim
  unfold Oper.wp
  rw [b9 hf.enter rfl]
  show Calls P f (#[a.eval x,a.eval y]) w _
  rw [hv,(List.cons.inj hyv).1]
  refine (hf.calls (fun n=>tkT c ss[n]?) w vs h1 h3 (fun n m hnm b hb hb'=>?_) (fun n b hb=>?_)).mono ?_
  ·obtain ⟨i,t,e1,e2,e3⟩:=tkLt n b hb
   obtain ⟨j,t',e4,e5,e6⟩:=tkLt m b hb'
   have hij:i≠j:=by
    rcases Nat.lt_or_ge n m with hlt|hge
    ·exact mL ss n m i j hd hlt e1 e4
    ·exact fun e=>mL ss m n j i hd (by omega) e4 e1 e.symm
   exact hc.off i j t t' e2 e5 hij b e3 e6
  ·obtain ⟨i,t,e1,e2,e3⟩:=tkLt n b hb
   exact ((hc.tok i t e2).2.2 b e3).2.1
  rintro en w' ⟨rfl,hk',hch,hok⟩
  rw [← yC ss ds' hks]
  refine ⟨_,c,rfl,hc.updM hch (fun b hb=>?_) (fun i x' hx'=>?_),rfl,hk'⟩
  ·obtain ⟨n,hn,hb⟩:=hb
   obtain ⟨i,t,e1,e2,e3⟩:=tkLt n b hb
   obtain ⟨x',hx'⟩:=wG ss ds ds' ho' hl' n i e1
   exact ⟨i,x',hx',e3⟩
  ·obtain ⟨n,z,z',xs,xs',tag,q1,q2,q3,q4⟩:=sS ss ds ds' ho' hr hd i x' hx'
   obtain ⟨hA,⟨_,_,htag⟩,_⟩:=hc.tok i _ q3
   obtain ⟨u,q5,q6⟩:=hok n z' xs' q2
   have q7:u=c.ρ i:=by
    have:∀(ss:List Sy) (vs:List Value) (n:Nat),Sy.oks c w ss vs→ss[n]? = some (.k i)→vs[n]? = some u→u=c.ρ i:=by
     intro ss
     induction ss with
     | nil=>intro vs n _ hn;simp at hn
     | cons s ss ih=>
      intro vs n ⟨v,t,e1,e2,e3⟩ hn hu
      subst e1
      cases n with
      | zero=>simp at hn hu;subst hn;rw [← hu];exact e2.2
      | succ n=>exact ih t n e3 (by simpa using hn) (by simpa using hu)
    exact this ss vs n hoks q1 q5
   rw [q7] at q6
   have q8:tkT c ss[n]? = c.T i:=by rw [q1];rfl
   refine ⟨_,_,q4,q3,?_,fun p hp=>(by cases hp),htag⟩
   rw [q8] at q6
   exact q6) h hg hN hs hu
theorem ER {ss:List Sy} (h:Der P ops W0 N Fin os (us++[((d :: (gk++((10000+d) :: (iw ss++kx x))))++pk,([d,10000+d])++fk)]) [] [] ((d,.sy (.bx (10000+d) 0)) :: (10000+d,.tk (.bx ss)) :: σ)) (hx:ev σ x=some (.ag ss):=by rfl) (h1:ss.all (sZ σ)=true:=by rfl) (hi:au σ (10000+d)=none:=by rfl) (hg:gst ops σ g=some (true,gk):=by rfl) (hN:Nat.blt d N=true:=by rfl) (hs:aM ((10000+d,.tk (.bx ss)) :: σ) d=true:=by rfl) (hu:Nat.beq (10000+d) d=false:=by rfl):Der P ops W0 N Fin (⟨some d,.box ty' x,ty,pos,after,g⟩ :: os) us pk fk σ:=
 me (.bx (10000+d) 0) ((10000+d) :: (iw ss++kx x)) [(10000+d,.tk (.bx ss))] (fun σ' c a w hk hc=>by
  obtain ⟨cs,hv,hok⟩:=av hc (af hx (fun κ hκ=>hk κ (by simp [hκ])))
  unfold Oper.wp
  rw [zw (cs:=cs) (by rw [hv];rfl)]
  have hX:Ext w (w.alloc (.cells cs.toArray ty')):=(Ext.refl w).alloc _
  have hc1:=hc.grow hX c.F (fun _ h=>h) (fun _ h=>.inl h) (fun b hb=>Nat.lt_of_lt_of_le (hc.lt b hb) (Below.size hX))
  refine ⟨_,_,rfl,hc1.new (i:=10000+d) (t:=.bx ss) (v:=.pointer (some ⟨w.heap.size,0,none⟩)) (S:=fun b=>b=w.heap.size) ((hk _ (by simp)).trans hi) ⟨w.heap.size,cs,rfl,rfl,Sy.keeps (Cx.Le.refl c) (fun b _ hl=>hX.block b hl) _ _ hok,dj.new w ty' cs _ rfl⟩ (fun b hb=>⟨fun hF=>?_,?_⟩) (fun j u hj b hb hT=>?_),?_⟩
  ·subst hb;exact absurd (hc.lt _ hF) (Nat.lt_irrefl _)
  ·subst hb;exact ⟨by simp,.inr hc.ext.size⟩
  ·subst hb;exact absurd ((hc.tok j u hj).2.2 _ hT).2.1 (Nat.lt_irrefl _)
  ·exact ⟨.inr rfl,w.heap.size,if_pos rfl,rfl⟩) h hg hN hs (by simp [hu])
end
def agS:Nat→List D→List Sy
 | _,[]=>[]
 | j,.l _ _ :: ds=>.k j :: agS (j+1) ds
 | j,d :: ds=>.d d :: agS (j+1) ds
def agT (V:Nat→Value) (T:Nat→BS):Nat→List D→Env
 | _,[]=>[]
 | j,.l z xs :: ds=>(j,.tk (.own (.l z xs) none (some (V j,T j)))) :: agT V T (j+1) ds
 | j,_ :: ds=>agT V T (j+1) ds
def vN (V:Nat→Value) (T:Nat→BS) (ds:List D) (k:Int):Env:=(0,.sy (.ag (agS 20000 ds))) :: (1,.sy (.d (.i k))) :: agT V T 20000 ds
def Du (W0:cf) (V:Nat→Value) (T:Nat→BS) (ds':List D) (k':Int):Ending→World→Prop:=fun e w'=>e=.returned (.int .i64 k')∧I64 k'∧Chg W0.M W0.w w'∧∀(i z:Nat) (xs:List D),ds'[i]? = some (.l z xs)→Ow w' (.l z xs) (T (20000+i)) [V (20000+i)]
theorem wk {V:Nat→Value} {T:Nat→BS}:∀(ds:List D) (j κ:Nat) (x:In),au (agT V T j ds) κ=some x→j≤κ∧∃z xs,ds[κ - j]? = some (.l z xs)∧x=.tk (.own (.l z xs) none (some (V κ,T κ))):=by
 intro ds
 induction ds with
 | nil=>intro j κ x h;cases h
 | cons d ds ih=>
  intro j κ x h
  have up:au (agT V T (j+1) ds) κ=some x→j≤κ∧∃z xs,(d :: ds)[κ - j]? = some (.l z xs)∧x=.tk (.own (.l z xs) none (some (V κ,T κ))):=fun h=>by
   obtain ⟨h1,z,xs,h2,h3⟩:=ih _ _ _ h
   refine ⟨by omega,z,xs,?_,h3⟩
   rw [show κ - j=(κ - (j+1))+1 by omega]
   simpa using h2
  cases d with
  | l z xs=>
   unfold agT at h
   rw [ah] at h
   split at h
   ·rename_i e
    subst e
    cases h
    exact ⟨Nat.le_refl _,z,xs,by simp,rfl⟩
   ·exact up h
  | _=>exact up h
theorem Gw {V:Nat→Value} {T:Nat→BS}:∀(ds:List D) (j i z:Nat) (xs:List D),ds[i]? = some (.l z xs)→au (agT V T j ds) (j+i)=some (.tk (.own (.l z xs) none (some (V (j+i),T (j+i))))):=by
 intro ds
 induction ds with
 | nil=>intro j i z xs h;simp at h
 | cons d ds ih=>
  intro j i z xs h
  cases i with
  | zero=>
   simp at h
   subst h
   have e:au (agT V T j (.l z xs :: ds)) j=some (.tk (.own (.l z xs) none (some (V j,T j)))):=by unfold agT;rw [ah,if_pos rfl]
   exact e
  | succ i=>
   have h1:=ih (j+1) i z xs (by simpa using h)
   rw [show j+1+i=j+(i+1) by omega] at h1
   cases d with
   | l z' xs'=>
    unfold agT
    rw [ah,if_neg (by omega)]
    exact h1
   | _=>exact h1
theorem Ff {V:Nat→Value} {T:Nat→BS} {w:World} {c:Cx}:∀(ds:List D) (j:Nat) (cs:List Value),cs.length=ds.length→(∀i d,ds[i]? = some d→cs[i]? = some (V (j+i))∧((∃z xs,d=.l z xs)∨∃S,Ft d=true∧Ow w d S [V (j+i)]))→(∀κ,c.ρ κ=V κ)→(∀i z xs,ds[i]? = some (.l z xs)→c.A (j+i))→Sy.oks c w (agS j ds) cs:=by
 intro ds
 induction ds with
 | nil=>intro j cs hl _ _ _;exact List.eq_nil_of_length_eq_zero hl
 | cons d ds ih=>
  intro j cs hl h hρ hA
  cases cs with
  | nil=>simp at hl
  | cons v cs=>
   obtain ⟨h1,h2⟩:=h 0 d (by simp)
   simp at h1
   have h3:=ih (j+1) cs (by simpa using hl) (fun i d' hi=>by
    have:=h (i+1) d' (by simpa using hi)
    rw [show j+(i+1)=j+1+i by omega] at this
    simpa using this) hρ (fun i z xs hi=>by
    have:=hA (i+1) z xs (by simpa using hi)
    rw [show j+(i+1)=j+1+i by omega] at this
    exact this)
   cases d with
   | l z xs=>exact ⟨v,cs,rfl,⟨hA 0 z xs (by simp),by rw [h1,hρ]⟩,h3⟩
   | _=>
    refine ⟨v,cs,rfl,?_,h3⟩
    rcases h2 with ⟨z,xs,e⟩|⟨S,e,h2⟩
    ·cases e
    ·first|(cases e;done)|(rw [h1];exact h2)
theorem Bq {P : Program} {f : FuncId} {ds ds' : List D} {k k' : Int} {fn : Func} {c : Code} {N : Nat} (hf : P.funcs[f]? = some fn) (hk : I64 k) (h : ∀ (W0 : cf) (V : Nat → Value) (T : Nat → BS), az P W0 N c (vN V T ds k) (bodyPost P fn (Du W0 V T ds' k'))) (hb : fn.body = some c := by rfl) (hN : fn.ntmps = N := by rfl) (hl : Nat.ble 2 N = true := by rfl) (hsc : (ds.all fun d => match d with | .l _ _ => true | d => Ft d) = true := by rfl) (hll : Nat.beq ds.length ds'.length = true := by rfl) (hnm : (fn.name == "runtime.NumGoroutine") = false := by kernel_rfl) : GH P f ds ds' k k' := by
 refine ⟨fun args w=>?_,fun T w cs hlen hv hoff hT=>?_⟩
 ·unfold callFunc
  simp only [Sem.run_bind,show (program).run P w=.ok P w from rfl,Result.andThen_ok,hf,hnm,hb]
  rfl
 ·have hl':=Nat.le_of_ble_eq_true hl
  have hle:=Nat.eq_of_beq_eq_true hll
  obtain ⟨V,hV⟩:∃V:Nat→Value,V=fun κ=>cs.getD (κ - 20000) undef:=⟨_,rfl⟩
  obtain ⟨T',hT'⟩:∃T':Nat→BS,T'=fun κ=>T (κ - 20000):=⟨_,rfl⟩
  have hVi:∀i u,cs[i]? = some u→V (20000+i)=u:=fun i u hi=>by rw [hV];simp [hi]
  have hTi:∀i,T' (20000+i)=T i:=fun i=>by rw [hT'];simp
  have key:∀(i:Nat) (t:Tk),au (vN V T' ds k) i=some (.tk t)→∃n z xs,i=20000+n∧ds[n]? = some (.l z xs)∧t=.own (.l z xs) none (some (V i,T' i)):=fun i t hi=>by
   unfold vN at hi
   rw [ah] at hi
   split at hi
   ·cases hi
   ·rw [ah] at hi
    split at hi
    ·cases hi
    ·obtain ⟨h1,z,xs,h2,h3⟩:=wk ds 20000 i _ hi
     cases h3
     exact ⟨i - 20000,z,xs,by omega,h2,rfl⟩
  have hat:∀(i z:Nat) (xs:List D),ds[i]? = some (.l z xs)→au (vN V T' ds k) (20000+i)=some (.tk (.own (.l z xs) none (some (V (20000+i),T' (20000+i))))):=fun i z xs hi=>by
   unfold vN
   rw [ah,if_neg (by omega),ah,if_neg (by omega)]
   exact Gw ds 20000 i z xs hi
  refine (calls_of_wp hf hb (h ⟨w,fun _=>False,fun b=>∃i,i<ds.length∧T i b⟩ V T' _ w ⟨⟨fun _=>False,V,T',fun i=>∃t,au (vN V T' ds k) i=some (.tk t)⟩,Chg.rfl',fun b hb=>hb.elim,fun b hb=>hb.elim,?_,rfl,fun i ⟨t,hi⟩=>by rw [hi];simp,fun i t ht=>?_,fun i j t u hi hj hne b hb hb'=>?_,fun t s ht=>?_⟩)).mono ?_
  ·simp [hN];omega
  ·obtain ⟨n,z,xs,rfl,h2,rfl⟩:=key i t ht
   obtain ⟨u,h3,h4⟩:=hv n _ h2
   have hn:n<ds.length:=(List.getElem?_eq_some_iff.1 h2).1
   refine ⟨⟨_,ht⟩,⟨?_,fun p hp=>(by cases hp),fun p hp=>by cases hp;exact ⟨rfl,rfl⟩⟩,fun b hb=>?_⟩
   ·show Ow w _ (T' (20000+n)) [V (20000+n)]
    rw [hVi n u h3,hTi];exact h4
   ·have hb':T n b:=by rw [← hTi];exact hb
    exact ⟨fun h=>h,hT n b hb',.inl ⟨n,hn,hb'⟩⟩
  ·obtain ⟨n,_,_,rfl,_,_⟩:=key i t hi
   obtain ⟨m,_,_,rfl,_,_⟩:=key j u hj
   have h1:T n b:=by rw [← hTi];exact hb
   have h2:T m b:=by rw [← hTi];exact hb'
   exact hoff n m (fun e=>hne (by rw [e])) b h1 h2
  ·unfold vN at ht
   rw [ah] at ht
   split at ht
   ·rename_i e
    cases ht;subst e
    refine ⟨.agg cs.toArray,by rw [Array.getElem?_append_left (by simp)];rfl,cs,rfl,Ff (V:=V) (T:=T') ds 20000 cs hlen (fun i d hi=>?_) (fun _=>rfl) (fun i z xs hi=>⟨_,hat i z xs hi⟩)⟩
    obtain ⟨u,h3,h4⟩:=hv i d hi
    rw [hVi i u h3]
    refine ⟨h3,?_⟩
    have:=List.all_eq_true.1 hsc d (List.mem_of_getElem? hi)
    cases d with
    | l z xs=>exact .inl ⟨z,xs,rfl⟩
    | _=>exact .inr ⟨_,this,h4⟩
   ·rw [ah] at ht
    split at ht
    ·rename_i e
     cases ht;subst e
     exact ⟨.int .i64 k,by rw [Array.getElem?_append_left (by simp)];rfl,rfl,hk⟩
    ·obtain ⟨_,_,_,_,h3⟩:=wk ds 20000 t _ ht
     cases h3
  ·rintro e w' ⟨rfl,h2,h3,h4⟩
   refine ⟨rfl,h2,h3,fun i z xs hi=>?_⟩
   have hi':i<cs.length:=by rw [hlen,hle];exact (List.getElem?_eq_some_iff.1 hi).1
   have h5:=h4 i z xs hi
   rw [hVi i _ (List.getElem?_eq_getElem hi'),hTi] at h5
   exact ⟨_,List.getElem?_eq_getElem hi',h5⟩
def zm (σ:Env) (V:Nat→Value) (T:Nat→BS):Nat→List D→Prop
 | _,[]=>True
 | j,.l z xs :: ds=>au σ j=some (.tk (.own (.l z xs) none (some (V j,T j))))∧zm σ V T (j+1) ds
 | j,_ :: ds=>zm σ V T (j+1) ds
theorem Cr {σ:Env} {V:Nat→Value} {T:Nat→BS}:∀(ds:List D) (j i z:Nat) (xs:List D),zm σ V T j ds→ds[i]? = some (.l z xs)→au σ (j+i)=some (.tk (.own (.l z xs) none (some (V (j+i),T (j+i))))):=by
 intro ds
 induction ds with
 | nil=>intro j i z xs _ h;simp at h
 | cons d ds ih=>
  intro j i z xs hr h
  cases i with
  | zero=>simp at h;subst h;exact hr.1
  | succ i=>
   have h1:zm σ V T (j+1) ds→au σ (j+(i+1))=some (.tk (.own (.l z xs) none (some (V (j+(i+1)),T (j+(i+1)))))):=fun hr'=>by
    have h1:=ih (j+1) i z xs hr' (by simpa using h)
    rw [show j+1+i=j+(i+1) by omega] at h1
    exact h1
   cases d with
   | l z' xs'=>exact h1 hr.2
   | _=>exact h1 hr
theorem F0 {P:Program} {W0:cf} {N:Nat} {σ:Env} {fn:Func} {rs:List ResultVar} {V:Nat→Value} {T:Nat→BS} {ds':List D} {k':Int} (hr:fn.results=rs.toArray:=by rfl) (hd:Cc P σ rs=some [.i k']:=by rfl) (ht:zm σ V T 20000 ds':=by repeat (first|exact trivial|exact ⟨rfl,trivial⟩|refine ⟨rfl,?_⟩)):At W0 N σ .ret (bodyPost P fn (Du W0 V T ds' k')):=fun a w hh=>by
 obtain ⟨c,h⟩:=hh
 obtain ⟨vs,h1,u,t,rfl,⟨h2,h2'⟩,h3⟩:=rB h rs _ hd
 have:t = []:=h3
 subst this
 refine bodyPost_ret (v:=u) ?_ h.defers ⟨by rw [(List.cons.inj h2).1],h2',h.ext,fun i z xs hi=>?_⟩
 ·rw [iM,hr,Array.mapM_eq_mapM_toList,show rs.toArray.toList=rs from rfl]
  simp only [Sem.run_bind,Sem.run_map,h1]
  simp [Result.andThen]
 ·obtain ⟨_,⟨hO,_,htag⟩,_⟩:=h.tok _ _ (Cr ds' 20000 i z xs ht hi)
  obtain ⟨e1,e2⟩:=htag _ rfl
  rw [e1,e2] at hO
  exact hO
end Go.Proofs.YtclpbhoekmecjaaGreatDoor
namespace Go.Proofs.YtclpbhoekmecjaaGreatDoor
open Go.RowKit
set_option linter.unusedVariables false
set_option maxRecDepth 100000
set_option maxHeartbeats 4000000
attribute [local irreducible] az Der At
theorem qo (n lo hi:Int):FnD Tryz.prog 58 [.i n,.i lo,.i hi] (.d (.b (inR n lo hi))):=by
 refine ai Tryz.func58 (fun hw W0=>?_)
 refine kgo ?_
 cases h:decide (lo≤n)
 ·refine kgo ?_
  rw [show inR n lo hi=false from by unfold inR;rw [h];rfl]
  exact ax
 ·refine kgo ?_
  rw [show inR n lo hi=decide (n≤hi) from by unfold inR;rw [h];rfl]
  exact ax
theorem Cf (b:Big) (n:Int) (hl:b.nodes.length≤1000):FnD Tryz.prog 106 [b.D,.i n] (.d (.b (inR n 0 (b.nodes.length - 1)))):=by
 refine ai Tryz.func106 (fun hw W0=>?_)
 have f1:=qo n 0 (b.nodes.length - 1)
 refine kgo ?_
 exact ax
def pe {α:Type} (p:α→Bool) (l:List α):Int:=if l.any p then (l.findIdx p:Int) else -1
theorem uI {α:Type} {p:α→Bool} {l:List α} {i:Nat} (h:i<l.length) (he:p l[i]=true) (hn:(l.take i).any p=false):pe p l=i:=by
 unfold pe
 rw [if_pos (List.any_eq_true.2 ⟨_,List.getElem_mem h,he⟩)]
 have:l.findIdx p=i:=(List.findIdx_eq h).2 ⟨he,fun j hj=>by
  have:=List.any_eq_false.1 hn (l[j]) (List.mem_iff_getElem.2 ⟨j,by rw [List.length_take];omega,by rw [List.getElem_take]⟩)
  simpa using this⟩
 rw [this]
theorem qC {α:Type} {p:α→Bool} {l:List α} (hn:l.any p=false):pe p l = -1:=by unfold pe;rw [hn];rfl
theorem ri {α:Type} (p:α→Bool) (l:List α):decide (0≤pe p l)=l.any p:=by
 unfold pe
 cases h:l.any p
 ·rfl
 ·simp
theorem gK {α:Type} (p:α→Bool) (l:List α) : -1≤pe p l∧pe p l<l.length:=by
 unfold pe
 split
 ·rename_i h
  have:=List.findIdx_lt_length_of_exists (List.any_eq_true.1 h)
  omega
 ·omega
theorem qw {α:Type} {p:α→Bool} {l:List α} {i:Nat} (h:i<l.length) (hi:(l.take i).any p=false) (hp:p l[i]=false):(l.take (i+1)).any p=false:=by
 rw [List.take_succ_eq_append_getElem h,List.any_append,hi,List.any_cons,hp];rfl
theorem vD {α:Type} {p:α→Bool} {l:List α} {i:Nat} (h:l.length≤i) (hi:(l.take i).any p=false):l.any p=false:=by rwa [List.take_of_length_le h] at hi
theorem iu (l:List Int) (n:Int):FnD Tryz.prog 153 [DI l,.i n] (.d (.i (pe (fun x=>x == n) l))):=by
 refine ai Tryz.func153 (fun hw W0=>?_)
 have hl:=(wfM hw.1).1
 refine kgo ?_
 refine ar [0,1,7] (fun i:Nat=>i≤l.length∧(l.take i).any (fun x=>x == n)=false) (fun i=>l.length - i) (fun i=>[(8,.sy (.d (.i i)))]) 0 ⟨Nat.zero_le _,rfl⟩ (fun i hi=>?_)
 refine kgo ?_
 refine aV (fun h=>?_) (fun h=>?_)
 ·have hlt:i<l.length:=by omega
  refine kgo ?_
  refine aV (fun h2=>?_) (fun h2=>?_)
  ·refine kgo ?_
   rw [uI hlt (by rw [← h2];exact beq_self_eq_true _) hi.2]
   exact ax
  ·refine kgo ?_
   exact ab (i+1) ⟨hlt,qw hlt hi.2 (by rw [beq_eq_false_iff_ne];exact fun e=>h2 e.symm)⟩ (by omega)
 refine kgo ?_
 rw [qC (vD (by omega) hi.2)]
 exact ax
theorem g6 (l:List Int) (n:Int):FnD Tryz.prog 107 [DI l,.i n] (.d (.b (fH l n))):=by
 refine ai Tryz.func107 (fun hw W0=>?_)
 have f1:=iu l n
 have hr:=gK (fun x=>x == n) l
 have hp:=ri (fun x=>x == n) l
 refine kgo ?_
 rw [show fH l n=l.any (fun x=>x == n) from rfl,← hp]
 exact ax
theorem sf (l:List Int) (g:Nat) (cs:List D) (p:Int→Bool) (hct:(cs.all fun r=>!isT r)=true) (hp:∀x∈l,FnD Tryz.prog g ([.i x]++cs) (.d (.b (p x)))):FnD Tryz.prog 154 [DI l,.f g cs] (.d (.i (pe p l))):=by
 refine ai Tryz.func154 (fun hw W0=>?_)
 have hl:=(wfM hw.1).1
 refine kgo ?_
 refine ar [0,1,7] (fun i:Nat=>i≤l.length∧(l.take i).any p=false) (fun i=>l.length - i) (fun i=>[(8,.sy (.d (.i i)))]) 0 ⟨Nat.zero_le _,rfl⟩ (fun i hi=>?_)
 refine kgo ?_
 refine aV (fun h=>?_) (fun h=>?_)
 ·have hlt:i<l.length:=by omega
  have f1:=hp _ (List.getElem_mem hlt)
  refine kgo ?_
  refine cIf (fun h2=>?_) (fun h2=>?_)
  ·refine kgo ?_
   rw [uI hlt h2 hi.2]
   exact ax
  ·refine kgo ?_
   exact ab (i+1) ⟨hlt,qw hlt hi.2 h2⟩ (by omega)
 refine kgo ?_
 rw [qC (vD (by omega) hi.2)]
 exact ax
theorem gX (l:List Int) (g:Nat) (cs:List D) (p:Int→Bool) (hct:(cs.all fun r=>!isT r)=true) (hp:∀x∈l,FnD Tryz.prog g ([.i x]++cs) (.d (.b (p x)))):FnD Tryz.prog 108 [DI l,.f g cs] (.d (.b (l.any p))):=by
 refine ai Tryz.func108 (fun hw W0=>?_)
 have f1:=sf l g cs p hct hp
 have hr:=gK p l
 have hq:=ri p l
 refine kgo ?_
 rw [← hq]
 exact ax
theorem lm {sig:List Ctl} {a:Big} (hB:ay sig a=true) (ns:List Int) (p0:Int) (hp:p0<a.nodes.length):FnD Tryz.prog 110 [a.D,.i p0,DI ns] (.d (.b (g9 a ns p0))):=by
 refine ai Tryz.func110 (fun hw W0=>?_)
 refine kgo ?_
 refine ar [2,3] (fun p:Int=>p<a.nodes.length∧g9 a ns p0=g9 a ns p) (fun p=>(p+1).toNat) (fun p=>[(1,.sy (.d (.i p)))]) p0 ⟨hp,rfl⟩ (fun p hi=>?_)
 refine kgo ?_
 refine aV (fun h=>?_) (fun h=>?_)
 ·obtain ⟨k,rfl⟩:=Int.eq_ofNat_of_zero_le h
  have hk:k<a.nodes.length:=by omega
  have hs:g9 a ns k=(fH ns k || g9 a ns (a.nodes[k]).parent):=eN hB _ k hk
  have hu:=iP hB k hk
  have f1:=g6 ns k
  refine kgo ?_
  refine cIf (fun h2=>?_) (fun h2=>?_)
  ·refine kgo ?_
   rw [hi.2,hs,h2]
   exact ax
  ·refine kgo ?_
   exact ab (a.nodes[k]).parent ⟨by omega,by rw [hi.2,hs,h2];rfl⟩ (by omega)
 refine kgo ?_
 rw [hi.2,show g9 a ns p=false from ew _ _ (by omega)]
 exact ax
theorem mT (b:Big) (p:Int) (hn:b.nodes.length≤1000) (hs:b.sites.length≤1000):FnD Tryz.prog 155 [b.D,.i p] (.tp [DI (eH b p),DI (ba b p)]):=by
 refine ai Tryz.func155 (fun hw W0=>?_)
 refine kgo ?_
 refine ar [1,2,7,15,16] (fun i:Nat=>i≤b.nodes.length) (fun i=>b.nodes.length - i) (fun i=>[(6,.sy (.k 20001)),(20001,.tk (.row 1 3 ((idxOf (ph b p) i).map .i))),(17,.sy (.d (.i i)))]) 0 (Nat.zero_le _) (fun i hi=>?_)
 refine kgo ?_
 refine aV (fun h=>?_) (fun h=>?_)
 ·have hlt:i<b.nodes.length:=by omega
  have hf:ph b p i=decide ((b.nodes[i]).parent=p):=by unfold ph;rw [List.getElem?_eq_getElem hlt]
  have hl:=dQ (ph b p) i
  refine kgo ?_
  refine aV (fun h2=>?_) (fun h2=>?_)
  ·have hs:(idxOf (ph b p) (i+1)).map D.i=(idxOf (ph b p) i).map D.i++[.i i]:=by rw [cY (hf.trans (decide_eq_true h2)),List.map_append];rfl
   refine kgo ?_
   exact ab (i+1) (by omega) (by omega)
  ·have hs:(idxOf (ph b p) (i+1)).map D.i=(idxOf (ph b p) i).map D.i:=by rw [dL (hf.trans (decide_eq_false h2))]
   refine kgo ?_
   exact ab (i+1) (by omega) (by omega)
 rw [show eH b p=idxOf (ph b p) i from by rw [show i=b.nodes.length by omega];rfl]
 generalize idxOf (ph b p) i=ks
 refine kgo ?_
 refine ar [1,6,32,33] (fun i:Nat=>i≤b.sites.length) (fun i=>b.sites.length - i) (fun i=>[(7,.sy (.k 20002)),(20002,.tk (.row 1 3 ((idxOf (g7 b p) i).map .i))),(34,.sy (.d (.i i)))]) 0 (Nat.zero_le _) (fun i hi=>?_)
 refine kgo ?_
 refine aV (fun h=>?_) (fun h=>?_)
 ·have hlt:i<b.sites.length:=by omega
  have hf:g7 b p i=decide (b.sites[i]=p):=by unfold g7;rw [List.getElem?_eq_getElem hlt]
  have hl:=dQ (g7 b p) i
  refine kgo ?_
  refine aV (fun h2=>?_) (fun h2=>?_)
  ·have hs:(idxOf (g7 b p) (i+1)).map D.i=(idxOf (g7 b p) i).map D.i++[.i i]:=by rw [cY (hf.trans (decide_eq_true h2)),List.map_append];rfl
   refine kgo ?_
   exact ab (i+1) (by omega) (by omega)
  ·have hs:(idxOf (g7 b p) (i+1)).map D.i=(idxOf (g7 b p) i).map D.i:=by rw [dL (hf.trans (decide_eq_false h2))]
   refine kgo ?_
   exact ab (i+1) (by omega) (by omega)
 rw [show ba b p=idxOf (g7 b p) i from by rw [show i=b.sites.length by omega];rfl]
 repeat (first|(refine ck ?_;first|refine bd ?_|refine cC ?_|refine bo ?_|refine bl ?_|refine aY ?_|refine br ?_|refine bw ?_|refine aK ?_|refine bp ?_)|(refine gv ?_;first|refine cd ?_|refine gg ?_|refine ct ?_|refine cz ?_)|(refine gj ?_;first|refine eV (fun _=>?_)|refine cu ?_|refine cq ?_|refine bT ?_|refine ci ?_|refine cw ?_)|(refine gu ?_;first|refine cK ?_|refine fy ?_|refine cH ?_|refine bY ?_|refine cF ?_|refine cE ?_)|(refine fV ?_;first|refine gq ?_|refine fQ ?_|refine ch ?_|refine cb ?_|refine fZ ?_|refine bf ?_|refine bm ?_)|(refine cm ?_;first|refine be ?_|refine cI ?_)|(refine fY ?_;first|refine iY (d:=4) ?_|refine iY (d:=5) ?_|refine cG ?_|refine cA ?_|refine gm ?_)|(refine cj ?_;first|refine cr ?_|refine bj ?_|refine bc ?_|refine bk ?_|refine aX ?_|refine bu ?_)|(refine gr ?_;first|refine cB ?_|refine fS ?_|refine bq ?_)|(refine aW ?_;first|refine aC _ ?_|refine bt ?_|refine aG ?_|refine aE ?_|refine aJ ?_)|(refine gh ?_;first|refine co ?_|refine b7 ?_|refine cy ?_)|(refine gOp ?_;first|refine gx ?_|refine gd ?_|refine bh ?_|refine fX ?_|refine fW ?_|refine cJ ?_|refine aZ ?_|refine cg ?_|refine gw ?_|refine b8 ?_|refine cL ?_|refine bg ?_|refine aH ?_|refine cD ?_|refine sNo ?_)|refine gC ?_|refine fa ?_|refine gG ?_|refine bA ?_|refine cM ?_|refine bP ?_|refine gL ?_|refine gF ?_|refine gA ?_|refine fm ?_|refine cQ ?_|refine bD ?_|refine aB ?_|refine bB ?_|refine cO ?_|refine bN ?_|refine aBlkX ?_|refine cP ?_)
 exact iN
theorem pK (b:Big) (l:Int) (hn:b.nodes.length≤1000) (hl:∀i (h:i<b.nodes.length),(b.nodes[i]).links.length≤1000) (hin:b.inner.length≤1000):FnD Tryz.prog 158 [b.D,.i l] (.tp [.l 2 ((aw b l).map mw),DS (mP b l)]):=by
 refine ai Tryz.func158 (fun hw W0=>?_)
 refine kgo ?_
 refine ar [1,2,7,17,18] (fun i:Nat=>i≤b.nodes.length) (fun i=>b.nodes.length - i) (fun i=>[(6,.sy (.k 20001)),(20001,.tk (.row 2 219 ((aQ b l i 0).map mw))),(19,.sy (.d (.i i)))]) 0 (Nat.zero_le _) (fun i hi=>?_)
 refine kgo ?_
 refine aV (fun h=>?_) (fun h=>?_)
 ·have hlt:i<b.nodes.length:=by omega
  have hll:=hl i hlt
  refine kgo ?_
  refine ar [1,2,7,8,17,18,19,25,26] (fun j:Nat=>j≤(b.nodes[i]).links.length) (fun j=>(b.nodes[i]).links.length - j) (fun j=>[(6,.sy (.k 20001)),(20001,.tk (.row 2 219 ((aQ b l i j).map mw))),(27,.sy (.d (.i j)))]) 0 (Nat.zero_le _) (fun j hj=>?_)
  refine kgo ?_
  refine aV (fun h2=>?_) (fun h2=>?_)
  ·have hjl:j<(b.nodes[i]).links.length:=by omega
   have hpl:(aQ b l i j).length≤1000000:=by
    obtain ⟨t,ht⟩:=jl b l i j hlt hj
    have:=eY b l hn hl
    rw [ht,List.length_append] at this;omega
   refine kgo ?_
   refine aV (fun h3=>?_) (fun h3=>?_)
   ·have hpl:(aQ b l i j).length+1≤1000000:=by
     obtain ⟨t,ht⟩:=jl b l i (j+1) hlt hjl
     have:=eY b l hn hl
     rw [ht,List.length_append,jm b l i j hlt hjl h3,List.length_append] at this
     simp only [List.length_cons,List.length_nil] at this;omega
    have hs:(aQ b l i (j+1)).map mw=(aQ b l i j).map mw++[mw ((i:Int),(j:Int))]:=by rw [jm b l i j hlt hjl h3,List.map_append];rfl
    refine kgo ?_
    exact ab (j+1) hjl (by omega)
   ·have hs:(aQ b l i (j+1)).map mw=(aQ b l i j).map mw:=by rw [pG b l i j hlt hjl h3]
    refine kgo ?_
    exact ab (j+1) hjl (by omega)
  have hs:(aQ b l (i+1) 0).map mw=(aQ b l i j).map mw:=by rw [jL b l i hlt,show j=(b.nodes[i]).links.length by omega]
  refine kgo ?_
  exact ab (i+1) hlt (by omega)
 rw [show aw b l=aQ b l i 0 from by rw [show i=b.nodes.length by omega,js]]
 generalize aQ b l i 0=ps
 refine kgo ?_
 refine ar [1,6,44,45] (fun i:Nat=>i≤b.inner.length) (fun i=>b.inner.length - i) (fun i=>[(7,.sy (.k 20002)),(20002,.tk (.row 1 9 ((dY b l i).map .s))),(46,.sy (.d (.i i)))]) 0 (Nat.zero_le _) (fun i hi=>?_)
 refine kgo ?_
 refine aV (fun h=>?_) (fun h=>?_)
 ·have hlt:i<b.inner.length:=by omega
  have hq:=iO b l i
  refine kgo ?_
  refine aV (fun h2=>?_) (fun h2=>?_)
  ·have hs:(dY b l (i+1)).map D.s=(dY b l i).map D.s++[.s (b.inner[i]).name]:=by rw [mC hlt h2,List.map_append];rfl
   refine kgo ?_
   exact ab (i+1) hlt (by omega)
  ·have hs:(dY b l (i+1)).map D.s=(dY b l i).map D.s:=by rw [nT hlt h2]
   refine kgo ?_
   exact ab (i+1) hlt (by omega)
 rw [show mP b l=dY b l i from by rw [show i=b.inner.length by omega];rfl]
 repeat (first|(refine ck ?_;first|refine bd ?_|refine cC ?_|refine bo ?_|refine bl ?_|refine aY ?_|refine br ?_|refine bw ?_|refine aK ?_|refine bp ?_)|(refine gv ?_;first|refine cd ?_|refine gg ?_|refine ct ?_|refine cz ?_)|(refine gj ?_;first|refine eV (fun _=>?_)|refine cu ?_|refine cq ?_|refine bT ?_|refine ci ?_|refine cw ?_)|(refine gu ?_;first|refine cK ?_|refine fy ?_|refine cH ?_|refine bY ?_|refine cF ?_|refine cE ?_)|(refine fV ?_;first|refine gq ?_|refine fQ ?_|refine ch ?_|refine cb ?_|refine fZ ?_|refine bf ?_|refine bm ?_)|(refine cm ?_;first|refine be ?_|refine cI ?_)|(refine fY ?_;first|refine iY (d:=4) ?_|refine iY (d:=5) ?_|refine cG ?_|refine cA ?_|refine gm ?_)|(refine cj ?_;first|refine cr ?_|refine bj ?_|refine bc ?_|refine bk ?_|refine aX ?_|refine bu ?_)|(refine gr ?_;first|refine cB ?_|refine fS ?_|refine bq ?_)|(refine aW ?_;first|refine aC _ ?_|refine bt ?_|refine aG ?_|refine aE ?_|refine aJ ?_)|(refine gh ?_;first|refine co ?_|refine b7 ?_|refine cy ?_)|(refine gOp ?_;first|refine gx ?_|refine gd ?_|refine bh ?_|refine fX ?_|refine fW ?_|refine cJ ?_|refine aZ ?_|refine cg ?_|refine gw ?_|refine b8 ?_|refine cL ?_|refine bg ?_|refine aH ?_|refine cD ?_|refine sNo ?_)|refine gC ?_|refine fa ?_|refine gG ?_|refine bA ?_|refine cM ?_|refine bP ?_|refine gL ?_|refine gF ?_|refine gA ?_|refine fm ?_|refine cQ ?_|refine bD ?_|refine aB ?_|refine bB ?_|refine cO ?_|refine bN ?_|refine aBlkX ?_|refine cP ?_)
 exact iN
end Go.Proofs.YtclpbhoekmecjaaGreatDoor
namespace Go.Proofs.YtclpbhoekmecjaaGreatDoor
open Go.RowKit
set_option linter.unusedVariables false
set_option maxRecDepth 100000
set_option maxHeartbeats 4000000
attribute [local irreducible] az Der At
theorem tD (m:Mat) (x:Int):FnD Tryz.prog 156 [.i x,.p m.D] (.d (.b (!fH m.nodes x))):=by
 refine ai Tryz.func156 (fun hw W0=>?_)
 have f1:=g6 m.nodes x
 refine kgo ?_
 exact ax
theorem yn (r a:Big) (m:Mat) (i:Nat) (h:i<m.nodes.length) (hr:i<r.nodes.length) (k:Nat) (hk:m.nodes[i]=(k:Int)) (hka:k<a.nodes.length):fU r a m i=(decide ((a.nodes[k]).control=(r.nodes[i]).control) && (decide ((a.nodes[k]).parent=if 0≤(r.nodes[i]).parent then atI m.nodes (r.nodes[i]).parent else atI m.roots (-1 - (r.nodes[i]).parent)) && (!(decide ((ba r i).length=0)) || (eH a m.nodes[i]).all (fH m.nodes)))):=by
 unfold fU sV ky
 rw [vY r a m i h hr k hk hka,bJ _ i h,hk,aA a k hka,aA r i hr]
theorem uZ {sig:List Ctl} {r a:Big} (m:Mat) (hbr:ay sig r=true) (dr:uz r) (da:uz a) (hid:(List.range m.nodes.length).all (tL a m.nodes)=true) (hlen:m.nodes.length=r.nodes.length) (hrs:(m.roots.length:Int)=r.roots):FnD Tryz.prog 111 [r.D,a.D,m.D] (.d (.b ((List.range m.nodes.length).all (fU r a m)))):=by
 have hdr:=aU hbr
 refine ai Tryz.func111 (fun hw W0=>?_)
 refine kgo ?_
 refine FK 5 m.D ?_
 refine ar [3,4,5,16,17] (fun i:Nat=>i≤m.nodes.length∧(List.range i).all (fU r a m)=true) (fun i=>m.nodes.length - i) (fun i=>[(18,.sy (.d (.i i)))]) 0 ⟨Nat.zero_le _,rfl⟩ (fun i hi=>?_)
 refine kgo ?_
 refine aV (fun h2=>?_) (fun h2=>?_)
 ·have hlr:i<r.nodes.length:=by omega
  have hlt:i<m.nodes.length:=by omega
  obtain ⟨k,hka,hk0⟩:=FA hid i hlt
  rw [bJ _ i hlt] at hk0
  have hok:=yn r a m i hlt hlr k hk0 hka
  have hup:=iP hbr i hlr
  have f1:=mT r i dr.3 dr.4
  have f2:=mT a m.nodes[i] da.3 da.4
  have f3:=gX (eH a m.nodes[i]) 156 [.p m.D] (fun x=>!fH m.nodes x) rfl (fun x _=>tD m x)
  have hk1:=lO r i
  have hk2:=qy a m.nodes[i]
  have hrn:=dr.4
  have bad:fU r a m i=false→(List.range m.nodes.length).all (fU r a m)=false:=fun h=>aT _ _ i hlt h
  have good:fU r a m i=true→(List.range (i+1)).all (fU r a m)=true:=fun h=>by rw [cW,hi.2,h];rfl
  refine kgo ?_
  refine eV (n:=k) (fun _=>?_) rfl rfl (congrArg some hk0)
  refine kgo ?_
  refine aV (fun h3=>?_) (fun h3=>?_)
  ·rw [if_pos h3] at hok
   have hx:(r.nodes[i]).parent<m.nodes.length:=by omega
   refine kgo ?_
   cases h4:decide ((a.nodes[k]).control=(r.nodes[i]).control)
   ·rw [h4] at hok
    refine kgo ?_
    rw [bad hok]
    exact ax
   rw [h4,Bool.true_and] at hok
   refine kgo ?_
   refine lL (fun h5=>?_) (fun h5=>?_)
   ·rw [decide_eq_false h5] at hok
    refine kgo ?_
    rw [bad hok]
    exact ax
   rw [decide_eq_true h5,Bool.true_and] at hok
   refine kgo ?_
   refine aV (fun h6=>?_) (fun h6=>?_)
   ·rw [decide_eq_false (by omega)] at hok
    refine kgo ?_
    exact ab (i+1) ⟨hlt,good hok⟩ (by omega)
   rw [decide_eq_true (by omega),Bool.not_true,Bool.false_or] at hok
   refine kgo ?_
   refine cIf (fun h7=>?_) (fun h7=>?_)
   ·rw [iG,Bool.not_eq_true'] at h7
    rw [h7] at hok
    refine kgo ?_
    rw [bad hok]
    exact ax
   ·rw [iG,Bool.not_eq_false'] at h7
    rw [h7] at hok
    refine kgo ?_
    exact ab (i+1) ⟨hlt,good hok⟩ (by omega)
  ·rw [if_neg h3] at hok
   have hx : -1 - (r.nodes[i]).parent<m.roots.length:=by omega
   refine kgo ?_
   cases h4:decide ((a.nodes[k]).control=(r.nodes[i]).control)
   ·rw [h4] at hok
    refine kgo ?_
    rw [bad hok]
    exact ax
   rw [h4,Bool.true_and] at hok
   refine kgo ?_
   refine lL (fun h5=>?_) (fun h5=>?_)
   ·rw [decide_eq_false h5] at hok
    refine kgo ?_
    rw [bad hok]
    exact ax
   rw [decide_eq_true h5,Bool.true_and] at hok
   refine kgo ?_
   refine aV (fun h6=>?_) (fun h6=>?_)
   ·rw [decide_eq_false (by omega)] at hok
    refine kgo ?_
    exact ab (i+1) ⟨hlt,good hok⟩ (by omega)
   rw [decide_eq_true (by omega),Bool.not_true,Bool.false_or] at hok
   refine kgo ?_
   refine cIf (fun h7=>?_) (fun h7=>?_)
   ·rw [iG,Bool.not_eq_true'] at h7
    rw [h7] at hok
    refine kgo ?_
    rw [bad hok]
    exact ax
   ·rw [iG,Bool.not_eq_false'] at h7
    rw [h7] at hok
    refine kgo ?_
    exact ab (i+1) ⟨hlt,good hok⟩ (by omega)
 refine kgo ?_
 rw [ff _ _ i (by omega) hi.1 hi.2]
 exact ax
theorem CU (x:Int) (n:Nat) (hn:n≤1000) (hx:I64 x):FnD Tryz.prog 157 [DI [x],.i n] (.row 1 3 ((List.replicate n x).map .i)):=⟨bX Tryz.func157,fun F w vs hv hF=>by
 obtain ⟨v1,t,rfl,h1,v2,t2,rfl,h2,h3⟩:=hv
 cases (show t2 = [] from h3)
 cases (show v2=.int .i64 n from by simpa [DV,Rp] using h2.1)
 refine (jk _ _ _ x n w (yG.toV (by decide) h1) hn).mono ?_
 rintro e w' ⟨g,rfl,hg,hr,hX⟩
 refine ⟨_,rfl,hX,.inr ⟨(List.replicate n x).map (Value.int .i64),?_,fun j hj=>⟨[.int .i64 x],rfl,?_,fun t u ht=>?_⟩⟩⟩
 ·refine ⟨by simp,.inr ⟨g,n,((List.replicate n x).map (Value.int .i64)).toArray,by simp,hg,hr,by simp,?_,by simp,by simp⟩⟩
  unfold maxLen;omega
 ·rw [List.getElem_map,List.getElem_replicate];exact ⟨rfl,hx⟩
 ·simp only [List.length_map,List.length_replicate] at hj
  rcases t with _|t
  ·simp at ht
   subst ht
   simp [hj]
  ·simp at ht⟩
theorem mX {sig:List Ctl} {r a:Big} (ns:List Int) (hbr:ay sig r=true) (hba:ay sig a=true) (him:mf r a ns):FnD Tryz.prog 112 [r.D,a.D,DI ns] (.tp [DI (ly r a ns),.b (dO r a ns)]):=by
 have hdr:=aU hbr
 have hda:=aU hba
 have dr:=bG hbr
 have da:=bG hba
 have hlr:r.edges+(r.outer.length:Int)=(ap r:Nat):=by unfold ap;omega
 have hlb:ap r≤1000:=by unfold ap;omega
 obtain ⟨E,hE⟩:=Int.eq_ofNat_of_zero_le hdr.2.2.2.1.1
 have f0:FnD Tryz.prog 157 [DI [-1],.i (r.edges+(r.outer.length:Int))] (.row 1 3 ((List.replicate (ap r) (-1)).map .i)):=by rw [hlr];exact CU (-1) _ hlb (by unfold I64;omega)
 have hz:(List.replicate (ap r) (-1)).map D.i=(iA r a ns 0 0).map D.i:=by rw [xa]
 have hlen:=him.len
 refine ai Tryz.func112 (fun hw W0=>?_)
 repeat (first|(refine ck ?_;first|refine bd ?_|refine cC ?_|refine bo ?_|refine bl ?_|refine aY ?_|refine br ?_|refine bw ?_|refine aK ?_|refine bp ?_)|(refine gv ?_;first|refine cd ?_|refine gg ?_|refine ct ?_|refine cz ?_)|(refine gj ?_;first|refine eV (fun _=>?_)|refine cu ?_|refine cq ?_|refine bT ?_|refine ci ?_|refine cw ?_)|(refine gu ?_;first|refine cK ?_|refine fy ?_|refine cH ?_|refine bY ?_|refine cF ?_|refine cE ?_)|(refine fV ?_;first|refine gq ?_|refine fQ ?_|refine ch ?_|refine cb ?_|refine fZ ?_|refine bf ?_|refine bm ?_)|(refine cm ?_;first|refine be ?_|refine cI ?_)|(refine fY ?_;first|refine cG ?_|refine cA ?_|refine gm ?_)|(refine cj ?_;first|refine cr ?_|refine bj ?_|refine bc ?_|refine bk ?_|refine aX ?_|refine bu ?_)|(refine gr ?_;first|refine cB ?_|refine fS ?_|refine bq ?_)|(refine aW ?_;first|refine aC _ ?_|refine bt ?_|refine aG ?_|refine aE ?_|refine aJ ?_)|(refine gh ?_;first|refine co ?_|refine b7 ?_|refine cy ?_)|(refine gOp ?_;first|refine gx ?_|refine gd ?_|refine bh ?_|refine fX ?_|refine fW ?_|refine cJ ?_|refine aZ ?_|refine cg ?_|refine gw ?_|refine b8 ?_|refine cL ?_|refine bg ?_|refine sFz 19 ?_|refine aH ?_|refine cD ?_|refine sNo ?_)|refine gC ?_|refine fa ?_|refine gG ?_|refine bA ?_|refine cM ?_|refine bP ?_|refine gL ?_|refine gF ?_|refine gA ?_|refine fm ?_|refine cQ ?_|refine bD ?_|refine aB ?_|refine bB ?_|refine cO ?_|refine bN ?_|refine aBlkX ?_|refine cP ?_|refine sFz 19 ?_)
 refine ar [2,3,4,8,28,29] (fun k:Nat=>k≤r.nodes.length∧gQ r a ns k 0) (fun k=>r.nodes.length - k) (fun k=>[(10026,.tk (.row 1 3 ((iA r a ns k 0).map .i))),(30,.sy (.d (.i k)))]) 0 ⟨Nat.zero_le _,xk r a ns⟩ (fun k hk=>?_)
 refine kgo ?_
 refine aV (fun h=>?_) (fun h=>?_)
 ·have hkr:k<r.nodes.length:=by omega
  have hkn:k<ns.length:=by omega
  have hlinks:=(eB hbr k hkr).2.2.2.2
  have hll:=dr.7 k hkr
  refine kgo ?_
  refine ar [2,3,4,8,9,28,29,30,36,37] (fun i:Nat=>i≤(r.nodes[k]).links.length∧gQ r a ns k i) (fun i=>(r.nodes[k]).links.length - i) (fun i=>[(10026,.tk (.row 1 3 ((iA r a ns k i).map .i))),(38,.sy (.d (.i i)))]) 0 ⟨Nat.zero_le _,hk.2⟩ (fun i hi=>?_)
  refine kgo ?_
  refine aV (fun h2=>?_) (fun h2=>?_)
  ·have hil:i<(r.nodes[k]).links.length:=by omega
   obtain ⟨mm,hmm,hml,e1,e2⟩:=him.img hbr hba hkr hil
   rw [bJ _ k hkn] at e1
   obtain ⟨ll,hl,hlN⟩:=gz (hlinks _ (List.getElem_mem hil))
   have hol:=Bh r a ns k i
   have hlo:ll<(iA r a ns k i).length:=by omega
   have hat:=nD r a ns k i ll hlo
   have hpos:=him.up_pos hbr hba (l:=ll) hkr (show i≤(r.nodes[k]).links.length by omega)
   refine kgo ?_
   refine eV (n:=mm) (fun _=>?_) rfl rfl (congrArg some e1)
   rw [hl]
   refine kgo ?_
   rw [hat,← e2]
   have stp:=xK (ns:=ns) hkr hil hl hlN hi.2
   cases h3:decide (0≤jD a ns (aQ r ll k i))
   ·have h3:=of_decide_eq_false h3
    obtain ⟨q1,q2⟩:=stp (.inl (by omega)) hpos
    refine kgo ?_
    rw [← q1]
    exact ab (i+1) ⟨hil,q2⟩ (by omega)
   have h3:=of_decide_eq_true h3
   refine kgo ?_
   rw [hat]
   refine lL (fun h4=>?_) (fun h4=>?_)
   ·have hb:=kj hlN (xm hkr hil hl h3 h4)
    rw [jM hb,hb]
    refine kgo ?_
    exact iN
   ·obtain ⟨q1,q2⟩:=stp (.inr h4) hpos
    refine kgo ?_
    rw [← q1]
    exact ab (i+1) ⟨hil,q2⟩ (by omega)
  have hie:i=(r.nodes[k]).links.length:=by omega
  have hs:(iA r a ns (k+1) 0).map D.i=(iA r a ns k i).map D.i:=by rw [xD r a ns k hkr,hie]
  refine kgo ?_
  exact ab (k+1) ⟨hkr,xu hkr (by rw [← hie];exact hi.2)⟩ (by omega)
 have hke:k=r.nodes.length:=by omega
 have hag:gQ r a ns r.nodes.length 0:=by rw [← hke];exact hk.2
 rw [hke,Aw]
 have hil:(aF r a ns).length=ap r:=by unfold aF;simp
 refine kgo ?_
 refine ar [3,4,8,75] (fun e:Nat=>e≤E∧(List.range e).all (dZ r a ns)=true) (fun e=>E - e) (fun e=>[(76,.sy (.d (.i e)))]) 0 ⟨Nat.zero_le _,rfl⟩ (fun e he=>?_)
 refine kgo ?_
 refine aV (fun h2=>?_) (fun h2=>?_)
 ·have heE:e<E:=by omega
  have hel:e<ap r:=by omega
  have hei:e<(aF r a ns).length:=by omega
  have hia:(aF r a ns)[e]=jd r a ns e:=by simp [aF]
  have f1:=pK r e dr.3 dr.7 (by omega)
  have f2:=pK a (aF r a ns)[e] da.3 da.7 (by omega)
  have hla:=CJ hag e hel (by omega)
  have hp1:=eY r e dr.3 dr.7
  have hp2:=eY a (aF r a ns)[e] da.3 da.7
  rw [← hia] at hla
  refine kgo ?_
  cases h3:decide (a.edges≤(aF r a ns)[e])
  ·have h3:=of_decide_eq_false h3
   rw [decide_eq_true (show (aF r a ns)[e]<a.edges by omega),Bool.true_and] at hla
   refine kgo ?_
   refine lL (fun h4=>?_) (fun h4=>?_)
   ·rw [decide_eq_false (by omega)] at hla
    have hb:=kj hel hla
    rw [jM hb,hb]
    refine kgo ?_
    exact iN
   ·rw [decide_eq_true (by omega)] at hla
    refine kgo ?_
    exact ab (e+1) ⟨heE,by rw [cW,he.2,hla];rfl⟩ (by omega)
  ·have h3:=of_decide_eq_true h3
   rw [decide_eq_false (show ¬(aF r a ns)[e]<a.edges by omega),Bool.false_and] at hla
   have hb:=kj hel hla
   rw [jM hb,hb]
   refine kgo ?_
   exact iN
 have hb:dO r a ns=true:=zz hag (fun l h1 _=>(aD _ _).1 he.2 l (by omega))
 rw [iT hb,hb]
 repeat (first|(refine ck ?_;first|refine bd ?_|refine cC ?_|refine bo ?_|refine bl ?_|refine aY ?_|refine br ?_|refine bw ?_|refine aK ?_|refine bp ?_)|(refine gv ?_;first|refine cd ?_|refine gg ?_|refine ct ?_|refine cz ?_)|(refine gj ?_;first|refine eV (fun _=>?_)|refine cu ?_|refine cq ?_|refine bT ?_|refine ci ?_|refine cw ?_)|(refine gu ?_;first|refine cK ?_|refine fy ?_|refine cH ?_|refine bY ?_|refine cF ?_|refine cE ?_)|(refine fV ?_;first|refine gq ?_|refine fQ ?_|refine ch ?_|refine cb ?_|refine fZ ?_|refine bf ?_|refine bm ?_)|(refine cm ?_;first|refine be ?_|refine cI ?_)|(refine fY ?_;first|refine iY (d:=6) ?_|refine cG ?_|refine cA ?_|refine gm ?_)|(refine cj ?_;first|refine cr ?_|refine bj ?_|refine bc ?_|refine bk ?_|refine aX ?_|refine bu ?_)|(refine gr ?_;first|refine cB ?_|refine fS ?_|refine bq ?_)|(refine aW ?_;first|refine aC _ ?_|refine bt ?_|refine aG ?_|refine aE ?_|refine aJ ?_)|(refine gh ?_;first|refine co ?_|refine b7 ?_|refine cy ?_)|(refine gOp ?_;first|refine gx ?_|refine gd ?_|refine bh ?_|refine fX ?_|refine fW ?_|refine cJ ?_|refine aZ ?_|refine cg ?_|refine gw ?_|refine b8 ?_|refine cL ?_|refine bg ?_|refine aH ?_|refine cD ?_|refine sNo ?_)|refine gC ?_|refine fa ?_|refine gG ?_|refine bA ?_|refine cM ?_|refine bP ?_|refine gL ?_|refine gF ?_|refine gA ?_|refine fm ?_|refine cQ ?_|refine bD ?_|refine aB ?_|refine bB ?_|refine cO ?_|refine bN ?_|refine aBlkX ?_|refine cP ?_)
 exact iN
theorem xT {sig:List Ctl} {a:Big} (hba:ay sig a=true) (m:Mat) (x:Int):FnD Tryz.prog 109 [.i x,.p a.D,.p m.D] (.d (.b (!jA a m.nodes x))):=by
 have hda:=aU hba
 have da:=bG hba
 have hok:jA a m.nodes x=(inR x (-a.roots) (a.nodes.length - 1) && !g9 a m.nodes x):=rfl
 refine ai Tryz.func109 (fun hw W0=>?_)
 have f1:=qo x (-a.roots) (a.nodes.length - 1)
 rw [hok]
 refine kgo ?_
 cases h:inR x (-a.roots) (a.nodes.length - 1)
 ·refine kgo ?_
  exact ax
 have f2:=lm hba m.nodes x (by have:=bL h;omega)
 rw [Bool.true_and,Bool.not_not]
 refine kgo ?_
 exact ax
theorem AK {sig:List Ctl} {r a:Big} (m:Mat) (hbr:ay sig r=true) (hba:ay sig a=true):FnD Tryz.prog 59 [r.D,a.D,m.D] (.d (.b (eW r a m))):=by
 have dr:=bG hbr
 have da:=bG hba
 have hrn:=dr.3
 have hr:=bL dr.1
 have hm:=yd r a m
 refine ai Tryz.func59 (fun hw W0=>?_)
 have hmr:=(wfM hw.2.2.1.2.1).1
 refine kgo ?_
 cases h1:decide ((m.nodes.length:Int)=r.nodes.length)
 ·have h1:=of_decide_eq_false h1
  rw [decide_eq_false (show ¬m.nodes.length=r.nodes.length by omega)] at hm
  rw [hm]
  refine kgo ?_
  exact ax
 have h1:=of_decide_eq_true h1
 have hlen:m.nodes.length=r.nodes.length:=by omega
 refine kgo ?_
 refine lL (fun h2=>?_) (fun h2=>?_)
 ·rw [decide_eq_false h2,Bool.and_false] at hm
  rw [hm]
  refine kgo ?_
  exact ax
 rw [decide_eq_true hlen,decide_eq_true h2,Bool.true_and,Bool.true_and] at hm
 refine kgo ?_
 refine FK 4 a.D ?_
 refine FK 5 m.D ?_
 refine ar [3,4,5,27,28] (fun i:Nat=>i≤m.nodes.length∧(List.range i).all (tL a m.nodes)=true) (fun i=>m.nodes.length - i) (fun i=>[(29,.sy (.d (.i i)))]) 0 ⟨Nat.zero_le _,rfl⟩ (fun i hi=>?_)
 refine kgo ?_
 refine aV (fun h3=>?_) (fun h3=>?_)
 ·have hlt:i<m.nodes.length:=by omega
  have f1:=Cf a m.nodes[i] da.3
  have f2:=g6 (m.nodes.take i) m.nodes[i]
  have hok:tL a m.nodes i=(inR m.nodes[i] 0 (a.nodes.length - 1) && !fH (m.nodes.take i) m.nodes[i]):=by unfold tL;rw [bJ _ i hlt]
  have bad:tL a m.nodes i=false→eW r a m=false:=fun h=>by rw [hm,aT _ _ i hlt h];rfl
  refine kgo ?_
  cases h4:inR m.nodes[i] 0 (a.nodes.length - 1)
  ·rw [h4] at hok
   refine kgo ?_
   rw [bad hok]
   exact ax
  rw [h4] at hok
  refine kgo ?_
  refine cIf (fun h5=>?_) (fun h5=>?_)
  ·rw [h5] at hok
   refine kgo ?_
   rw [bad hok]
   exact ax
  ·rw [h5] at hok
   refine kgo ?_
   exact ab (i+1) ⟨hlt,by rw [cW,hi.2,hok];rfl⟩ (by omega)
 have hid:(List.range m.nodes.length).all (tL a m.nodes)=true:=ff _ _ i (by omega) hi.1 hi.2
 rw [hid,Bool.true_and] at hm
 have f1:=gX m.roots 109 [.p a.D,.p m.D] (fun x=>!jA a m.nodes x) rfl (fun x _=>xT hba m x)
 rw [iG] at f1
 refine kgo ?_
 refine cIf (fun h4=>?_) (fun h4=>?_)
 ·rw [Bool.not_eq_true'] at h4
  rw [h4] at hm
  rw [hm]
  refine kgo ?_
  exact ax
 rw [Bool.not_eq_false'] at h4
 rw [h4,Bool.true_and] at hm
 have f2:=uZ m hbr dr da hid hlen h2
 refine kgo ?_
 refine cIf (fun h5=>?_) (fun h5=>?_)
 ·rw [Bool.not_eq_true'] at h5
  rw [h5] at hm
  rw [hm]
  refine kgo ?_
  exact ax
 rw [Bool.not_eq_false'] at h5
 rw [h5,Bool.true_and] at hm
 have f3:=mX m.nodes hbr hba (BW hid h5 hlen)
 refine kgo ?_
 rw [hm]
 exact ax
theorem vB {sig:List Ctl} {a:Big} (hba:ay sig a=true) (ps:List Int) (x:Int) (hx:x<a.nodes.length):FnD Tryz.prog 113 [.i x,.p a.D,.p (DI ps)] (.d (.b (g9 a ps x))):=by
 refine ai Tryz.func113 (fun hw W0=>?_)
 have f1:=lm hba ps x hx
 refine kgo ?_
 exact ax
theorem yw {sig:List Ctl} {a:Big} (hba:ay sig a=true) (m:Mat) (hx:∀p∈m.roots,p<(a.nodes.length:Int)):FnD Tryz.prog 60 [.l 3 (sig.map Ctl.D),a.D,m.D] (.d (.b (iD sig a m.roots))):=by
 have da:=bG hba
 have hn:=da.3
 refine ai Tryz.func60 (fun hw W0=>?_)
 refine kgo ?_
 refine ar [0,4,5,7,12,13] (fun i:Nat=>i≤a.nodes.length) (fun i=>a.nodes.length - i) (fun i=>[(10007,.tk (.bx [.k 20001])),(20001,.tk (.row 1 3 ((idxOf (fun i=>rE sig a i) i).map .i))),(14,.sy (.d (.i i)))]) 0 (Nat.zero_le _) (fun i hi=>?_)
 refine kgo ?_
 refine aV (fun h=>?_) (fun h=>?_)
 ·have hlt:i<a.nodes.length:=by omega
  obtain ⟨c0,c1,_⟩:=eB hba i hlt
  obtain ⟨j,hj⟩:=Int.eq_ofNat_of_zero_le c0
  have hjl:j<sig.length:=by omega
  have hpf:rE sig a i=decide ((sig[j]).kind=1):=by unfold rE;rw [aA a i hlt,hj,i8 sig j hjl]
  have hl:=dQ (fun i=>rE sig a i) i
  refine kgo ?_
  refine eV (n:=j) (fun _=>?_) rfl rfl (congrArg some hj)
  refine kgo ?_
  refine aV (fun h2=>?_) (fun h2=>?_)
  ·have hs:(idxOf (fun i=>rE sig a i) (i+1)).map D.i=(idxOf (fun i=>rE sig a i) i).map D.i++[.i i]:=by rw [cY (hpf.trans (decide_eq_true h2)),List.map_append];rfl
   refine kgo ?_
   exact ab (i+1) (by omega) (by omega)
  ·have hs:(idxOf (fun i=>rE sig a i) (i+1)).map D.i=(idxOf (fun i=>rE sig a i) i).map D.i:=by rw [dL (hpf.trans (decide_eq_false h2))]
   refine kgo ?_
   exact ab (i+1) (by omega) (by omega)
 have hin:∀p∈m.roots,g9 a (idxOf (fun i=>rE sig a i) i) p=kO sig a p:=fun p hp=>by
  rw [show i=a.nodes.length by omega];exact CD hba (hx p hp)
 have f1:=gX m.roots 113 [.p a.D,.p (DI (idxOf (fun i=>rE sig a i) i))] (fun x=>g9 a (idxOf (fun i=>rE sig a i) i) x) rfl (fun x hxm=>vB hba _ x (hx x hxm))
 have hE:(!(m.roots.any fun x=>g9 a (idxOf (fun i=>rE sig a i) i) x))=iD sig a m.roots:=by
  unfold iD
  rw [Bool.eq_iff_iff]
  simp only [Bool.not_eq_true',List.any_eq_false,List.all_eq_true]
  exact ⟨fun h p hp=>by rw [← hin p hp];simpa using h p hp,fun h p hp=>by rw [hin p hp];have:=h p hp;simpa using this⟩
 rw [← hE]
 refine bP (aB (aB (bN (bD ?_))))
 refine FK 4 a.D ?_
 refine nK 10007 0 ?_
 refine FK 7 (DI (idxOf (fun i=>rE sig a i) i)) ?_
 refine kgo ?_
 exact ax
end Go.Proofs.YtclpbhoekmecjaaGreatDoor
namespace Go.Proofs.YtclpbhoekmecjaaGreatDoor
open Go.RowKit
set_option linter.unusedVariables false
set_option maxRecDepth 100000
set_option maxHeartbeats 4000000
attribute [local irreducible] az Der At
theorem Cg {sig:List Ctl} {a:Big} (m:Mat) (hba:ay sig a=true):FnD Tryz.prog 160 [a.D,m.D] (.d (DI (mR a m.nodes))):=by
 have da:=bG hba
 have hn:=da.3
 refine ai Tryz.func160 (fun hw W0=>?_)
 refine kgo ?_
 refine ar [2,3,10] (fun i:Nat=>i≤a.nodes.length) (fun i=>a.nodes.length - i) (fun i=>[(5,.sy (.k 20001)),(20001,.tk (.row 1 3 ((idxOf (fun i=>!g9 a m.nodes i) i).map .i))),(11,.sy (.d (.i i)))]) 0 (Nat.zero_le _) (fun i hi=>?_)
 refine kgo ?_
 refine aV (fun h=>?_) (fun h=>?_)
 ·have hlt:i<a.nodes.length:=by omega
  have f1:=lm hba m.nodes i (by omega)
  have hl:=dQ (fun i=>!g9 a m.nodes i) i
  refine kgo ?_
  refine cIf (fun h2=>?_) (fun h2=>?_)
  ·have hs:(idxOf (fun i=>!g9 a m.nodes i) (i+1)).map D.i=(idxOf (fun i=>!g9 a m.nodes i) i).map D.i++[.i i]:=by rw [cY h2,List.map_append];rfl
   refine kgo ?_
   exact ab (i+1) (by omega) (by omega)
  ·have hs:(idxOf (fun i=>!g9 a m.nodes i) (i+1)).map D.i=(idxOf (fun i=>!g9 a m.nodes i) i).map D.i:=by rw [dL h2]
   refine kgo ?_
   exact ab (i+1) (by omega) (by omega)
 rw [show mR a m.nodes=idxOf (fun i=>!g9 a m.nodes i) i from by rw [show i=a.nodes.length by omega];rfl]
 repeat (first|(refine ck ?_;first|refine bd ?_|refine cC ?_|refine bo ?_|refine bl ?_|refine aY ?_|refine br ?_|refine bw ?_|refine aK ?_|refine bp ?_)|(refine gv ?_;first|refine cd ?_|refine gg ?_|refine ct ?_|refine cz ?_)|(refine gj ?_;first|refine eV (fun _=>?_)|refine cu ?_|refine cq ?_|refine bT ?_|refine ci ?_|refine cw ?_)|(refine gu ?_;first|refine cK ?_|refine fy ?_|refine cH ?_|refine bY ?_|refine cF ?_|refine cE ?_)|(refine fV ?_;first|refine gq ?_|refine fQ ?_|refine ch ?_|refine cb ?_|refine fZ ?_|refine bf ?_|refine bm ?_)|(refine cm ?_;first|refine be ?_|refine cI ?_)|(refine fY ?_;first|refine iY (d:=4) ?_|refine cG ?_|refine cA ?_|refine gm ?_)|(refine cj ?_;first|refine cr ?_|refine bj ?_|refine bc ?_|refine bk ?_|refine aX ?_|refine bu ?_)|(refine gr ?_;first|refine cB ?_|refine fS ?_|refine bq ?_)|(refine aW ?_;first|refine aC _ ?_|refine bt ?_|refine aG ?_|refine aE ?_|refine aJ ?_)|(refine gh ?_;first|refine co ?_|refine b7 ?_|refine cy ?_)|(refine gOp ?_;first|refine gx ?_|refine gd ?_|refine bh ?_|refine fX ?_|refine fW ?_|refine cJ ?_|refine aZ ?_|refine cg ?_|refine gw ?_|refine b8 ?_|refine cL ?_|refine bg ?_|refine aH ?_|refine cD ?_|refine sNo ?_)|refine gC ?_|refine fa ?_|refine gG ?_|refine bA ?_|refine cM ?_|refine bP ?_|refine gL ?_|refine gF ?_|refine gA ?_|refine fm ?_|refine cQ ?_|refine bD ?_|refine aB ?_|refine bB ?_|refine cO ?_|refine bN ?_|refine aBlkX ?_|refine cP ?_)
 exact ax
theorem lB {sig:List Ctl} {a:Big} (m:Mat) (hba:ay sig a=true):FnD Tryz.prog 167 [a.D,m.D] (.d (DI (bC a m.nodes))):=by
 have da:=bG hba
 have hn:=da.3
 refine ai Tryz.func167 (fun hw W0=>?_)
 refine kgo ?_
 refine ar [2,3,10] (fun i:Nat=>i≤a.nodes.length) (fun i=>a.nodes.length - i) (fun i=>[(5,.sy (.k 20001)),(20001,.tk (.row 1 3 ((idxOf (mI a m.nodes) i).map .i))),(11,.sy (.d (.i i)))]) 0 (Nat.zero_le _) (fun i hi=>?_)
 refine kgo ?_
 refine aV (fun h=>?_) (fun h=>?_)
 ·have hlt:i<a.nodes.length:=by omega
  have f1:=lm hba m.nodes i (by omega)
  have f2:=g6 m.nodes i
  have hl:=dQ (mI a m.nodes) i
  have hp:mI a m.nodes i=(g9 a m.nodes i && !fH m.nodes i):=rfl
  refine kgo ?_
  cases h3:g9 a m.nodes i
  ·rw [h3] at hp
   have hs:(idxOf (mI a m.nodes) (i+1)).map D.i=(idxOf (mI a m.nodes) i).map D.i:=by rw [dL hp]
   refine kgo ?_
   exact ab (i+1) (by omega) (by omega)
  rw [h3,Bool.true_and] at hp
  refine kgo ?_
  refine cIf (fun h2=>?_) (fun h2=>?_)
  ·have hs:(idxOf (mI a m.nodes) (i+1)).map D.i=(idxOf (mI a m.nodes) i).map D.i++[.i i]:=by rw [cY (hp.trans h2),List.map_append];rfl
   refine kgo ?_
   exact ab (i+1) (by omega) (by omega)
  ·have hs:(idxOf (mI a m.nodes) (i+1)).map D.i=(idxOf (mI a m.nodes) i).map D.i:=by rw [dL (hp.trans h2)]
   refine kgo ?_
   exact ab (i+1) (by omega) (by omega)
 rw [show bC a m.nodes=idxOf (mI a m.nodes) i from by rw [show i=a.nodes.length by omega];rfl]
 repeat (first|(refine ck ?_;first|refine bd ?_|refine cC ?_|refine bo ?_|refine bl ?_|refine aY ?_|refine br ?_|refine bw ?_|refine aK ?_|refine bp ?_)|(refine gv ?_;first|refine cd ?_|refine gg ?_|refine ct ?_|refine cz ?_)|(refine gj ?_;first|refine eV (fun _=>?_)|refine cu ?_|refine cq ?_|refine bT ?_|refine ci ?_|refine cw ?_)|(refine gu ?_;first|refine cK ?_|refine fy ?_|refine cH ?_|refine bY ?_|refine cF ?_|refine cE ?_)|(refine fV ?_;first|refine gq ?_|refine fQ ?_|refine ch ?_|refine cb ?_|refine fZ ?_|refine bf ?_|refine bm ?_)|(refine cm ?_;first|refine be ?_|refine cI ?_)|(refine fY ?_;first|refine iY (d:=4) ?_|refine cG ?_|refine cA ?_|refine gm ?_)|(refine cj ?_;first|refine cr ?_|refine bj ?_|refine bc ?_|refine bk ?_|refine aX ?_|refine bu ?_)|(refine gr ?_;first|refine cB ?_|refine fS ?_|refine bq ?_)|(refine aW ?_;first|refine aC _ ?_|refine bt ?_|refine aG ?_|refine aE ?_|refine aJ ?_)|(refine gh ?_;first|refine co ?_|refine b7 ?_|refine cy ?_)|(refine gOp ?_;first|refine gx ?_|refine gd ?_|refine bh ?_|refine fX ?_|refine fW ?_|refine cJ ?_|refine aZ ?_|refine cg ?_|refine gw ?_|refine b8 ?_|refine cL ?_|refine bg ?_|refine aH ?_|refine cD ?_|refine sNo ?_)|refine gC ?_|refine fa ?_|refine gG ?_|refine bA ?_|refine cM ?_|refine bP ?_|refine gL ?_|refine gF ?_|refine gA ?_|refine fm ?_|refine cQ ?_|refine bD ?_|refine aB ?_|refine bB ?_|refine cO ?_|refine bN ?_|refine aBlkX ?_|refine cP ?_)
 exact ax
theorem nH (l:List ByteArray) (s:ByteArray):FnD Tryz.prog 218 [DS l,.s s] (.d (.i (jC l s))):=by
 refine ai Tryz.func218 (fun hw W0=>?_)
 have hl:=(wfM hw.1).1
 refine kgo ?_
 refine ar [0,1,7] (fun i:Nat=>i≤l.length∧∀j (h:j<l.length),j<i→(l[j].toList == s.toList)=false) (fun i=>l.length - i) (fun i=>[(8,.sy (.d (.i i)))]) 0 ⟨Nat.zero_le _,fun j _ h=>absurd h (Nat.not_lt_zero _)⟩ (fun i hi=>?_)
 refine kgo ?_
 refine aV (fun h=>?_) (fun h=>?_)
 ·have hlt:i<l.length:=by omega
  refine kgo ?_
  refine cIf (fun h2=>?_) (fun h2=>?_)
  ·rw [Bool.beq_comm] at h2
   refine kgo ?_
   rw [uj hlt h2 (fun j hj=>hi.2 j (by omega) hj)]
   exact ax
  ·rw [Bool.beq_comm] at h2
   refine kgo ?_
   exact ab (i+1) ⟨hlt,fun j h1 h3=>by
    rcases Nat.lt_or_ge j i with h4|h4
    ·exact hi.2 j h1 h4
    ·rw [show l[j]=l[i] from by congr 1;omega];exact h2⟩ (by omega)
 refine kgo ?_
 rw [Az (fun j h1=>hi.2 j h1 (by omega))]
 exact ax
def rC (l:List ByteArray) (s:ByteArray):Bool:=decide (0≤jC l s)
theorem o9 (l:List ByteArray) (s:ByteArray):FnD Tryz.prog 172 [DS l,.s s] (.d (.b (rC l s))):=by
 refine ai Tryz.func172 (fun hw W0=>?_)
 have f1:=nH l s
 refine kgo ?_
 exact ax
def kG (es:List Int) (outer:List ByteArray) (name:Int→ByteArray) (l:Int):Int:=if 0≤di es l then di es l else es.length+jC (ca outer) (name l)
def lW (b:Big) (es:List Int) (outer:List ByteArray) (place:Int→Int) (name:Int→ByteArray) (k:Int):Nd:=⟨(eA b k).control,place (eA b k).parent,(eA b k).links.map (kG es outer name)⟩
def pr (b:Big) (ns es:List Int) (outer:List ByteArray) (place:Int→Int) (name:Int→ByteArray):Big:=⟨b.roots,ns.map (lW b es outer place name),[],es.length,ca outer,[]⟩
theorem rQ (rest:List Int) (p:Int):FnD Tryz.prog 161 [.i p,.p (DI rest)] (.d (.i (if 0≤p then di rest p else p))):=by
 refine ai Tryz.func161 (fun hw W0=>?_)
 have f1:=iu rest p
 refine kgo ?_
 refine aV (fun h=>?_) (fun h=>?_)
 ·rw [if_pos h]
  refine kgo ?_
  exact ax
 ·rw [if_neg h]
  refine kgo ?_
  exact ax
theorem sE (a:Big) (l:Int) (h0:0≤l - a.edges) (h1:l - a.edges<a.outer.length) (he:0≤a.edges∧a.edges≤1000) (hol:a.outer.length≤1000):FnD Tryz.prog 163 [.i l,.p a.D] (.d (.s (a.outer.getD (l - a.edges).toNat ⟨#[]⟩))):=by
 obtain ⟨q,hq⟩:=Int.eq_ofNat_of_zero_le h0
 have hql:q<a.outer.length:=by omega
 refine ai Tryz.func163 (fun hw W0=>?_)
 refine kgo ?_
 refine eV (n:=q) (fun _=>?_) rfl rfl (congrArg some hq)
 rw [show a.outer.getD (l - a.edges).toNat ⟨#[]⟩=a.outer[q] from by rw [hq,Int.toNat_natCast];simp [hql]]
 refine kgo ?_
 exact ax
theorem sg (a:Big) (es:List Int) (l:Int) (h0:0≤l∧l≤1000) (he:0≤a.edges∧a.edges≤1000) (hes:es.length≤1000):FnD Tryz.prog 164 [.i l,.p a.D,.p (DI es)] (.d (.i (if l<a.edges then di es l else es.length+(l - a.edges)))):=by
 refine ai Tryz.func164 (fun hw W0=>?_)
 have f1:=iu es l
 refine kgo ?_
 refine aV (fun h=>?_) (fun h=>?_)
 ·rw [if_pos h]
  refine kgo ?_
  exact ax
 ·rw [if_neg h,show (es.length:Int)+(l - a.edges)=(es.length:Int)+l - a.edges by omega]
  refine kgo ?_
  exact ax
end Go.Proofs.YtclpbhoekmecjaaGreatDoor
