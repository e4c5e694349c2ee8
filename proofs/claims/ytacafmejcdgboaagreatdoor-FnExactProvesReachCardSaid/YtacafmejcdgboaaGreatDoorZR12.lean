/-
  Proved facts that the law leans on.
-/
import Derived.Test.YtacafmejcdgboaaGreatDoorZR9
import Derived.Test.YtacafmejcdgboaaGreatDoorZR10
import Derived.Test.YtacafmejcdgboaaGreatDoorZR11
namespace Go.Proofs.YtacafmejcdgboaaGreatDoor
open Go.RowKit
set_option linter.unusedVariables false
set_option maxRecDepth 100000
set_option maxHeartbeats 4000000
theorem FnD.arg {P:Program} {f:Nat} {ds ds':List D} {r:Ro} (h:FnD P f ds r) (hd:∀w F vs,DVs w F ds' vs→DVs w F ds vs):FnD P f ds' r:=⟨h.enter,fun F w vs hv hF=>h.calls F w vs (hd _ _ _ hv) hF⟩
theorem Ad {w:World} {F:BS} {z:Nat} {v:Value} (h:DV w F (.n z) v):DV w F (.l z []) v:=by
 obtain ⟨a,h⟩:=h
 exact ⟨a,0,h,Nat.le_refl _,by decide,fun _=>rfl,.inl rfl⟩
def EZ (σ:Env):List Operand→Option (List D)
 | []=>some []
 | x :: xs=>match (match x with | .const (.slice none 0 0)=>some (.n 1)|x=>(ev σ x).bind Sy.arg),EZ σ xs with
  | some r,some rs=>some (r :: rs)
  | _,_=>none
theorem pu {W0:cE} {N:Nat} {a:Act} {w:World} {c:Cx} {σ σ':Env} (h:aF W0 N σ' a w c):∀(xs:List Operand) (ds:List D),EZ σ xs=some ds→(∀κ∈kxs xs,am σ' κ=am σ κ)→DVs w c.F ds (xs.map a.eval):=by
 intro xs
 induction xs with
 | nil=>intro ds he _;cases he;exact rfl
 | cons x xs ih=>
  intro ds he hk
  unfold EZ at he
  split at he
  ·rename_i r rs h1 h2
   cases he
   refine ⟨_,_,rfl,?_,ih rs h2 (fun κ hκ=>hk κ (by simp [kxs,hκ]))⟩
   split at h1
   ·cases h1;exact ⟨none,rfl⟩
   ·rw [Option.bind_eq_some_iff] at h1
    obtain ⟨s,h3,h4⟩:=h1
    exact zn h4 (aq h (af h3 (fun κ hκ=>hk κ (by simp [kxs,hκ]))))
  ·cases he
section
variable {P:Program} {ops:Array Oper} {W0:cE} {N:Nat} {Fin:Us→Env→Prop} {os:List Oper} {us:Us} {pk fk:List Nat} {σ:Env} {g:Option (Nat × Bool)} {gk:List Nat} {d ty f:Nat} {pos:String} {after:Array Edge} {at':Array TypeId} {xs:List Operand} {ds:List D}
theorem FG {r:D} (h:Der P ops W0 N Fin os (us++[((d :: (gk++kxs xs))++pk,([d])++fk)]) [] [] ((d,.sy (.d r)) :: σ)) (hx:EZ σ xs=some ds:=by rfl) (hf:FnD P f ds (.d r):=by assumption) (hg:gst ops σ g=some (true,gk):=by rfl) (hN:Nat.blt d N=true:=by rfl) (hs:aI σ d=true:=by rfl):Der P ops W0 N Fin (⟨some d,.call { callee:=.value (.func f),args:=xs.toArray,argTypes:=at' },ty,pos,after,g⟩ :: os) us pk fk σ:=
 ko (.d r) (kxs xs) [] (fun σ' c a w hk hc=>by
  unfold Oper.wp
  rw [cB hf.enter rfl]
  refine (hf.calls c.F w _ (pu hc xs ds hx hk) hc.lt).mono ?_
  rintro e w' ⟨v,rfl,hX,hv⟩
  exact ⟨v,_,rfl,hc.fresh hX,hv⟩) h hg hN hs rfl
end
attribute [local irreducible] aD Der At
theorem tm (a:Big) (ns:List ByteArray) (s:ByteArray) (q:Nat) (hq:jg ns s=q) (hql:q<a.inner.length) (hi:a.inner.length≤1000) (h0:0≤a.edges∧a.edges≤1000) (h1:a.inner[q].link<a.edges+a.outer.length) (ho:a.outer.length≤1000):FnD Tryz.prog 305 [.s s,.p a.D,.p (DS ns)] (.d (sk (g6 a a.inner[q].link))):=by
 have f1:=mN ns s
 rw [hq] at f1
 have f2:=zX a a.inner[q].link h0 (by omega) ho
 refine ah Tryz.func305 (fun hw W0=>?_)
 refine kgo ?_
 exact ar
def xB (a:Big) (L:ByteArray→Int × ByteArray) (e:Int × ByteArray):Int × ByteArray:=if e.2=⟨#[]⟩ then (e.1+a.edges,⟨#[]⟩) else L e.2
def zB (a:Big) (Pl:Int→Int) (p:Int):Int:=if 0≤p then p+a.nodes.length else Pl p
def CX (a:Big) (Pl:Int→Int) (x:Nd):Nd:=⟨x.control,zB a Pl x.parent,x.links⟩
theorem uW {α β:Type} (f:α→β) (u:List β) (l:List α) (i:Nat) (h:i<l.length):u++(l.take (i+1)).map f=(u++(l.take i).map f)++[f l[i]]:=by rw [List.take_succ_eq_append_getElem h,List.map_append,List.append_assoc];rfl
def rB (a b:Big) (roots:Int) (sites:List Int) (ns:List ByteArray) (L:ByteArray→Int × ByteArray) (Pl:Int→Int):Big:=
 let A:=wd a (a.edges+b.edges) ns fun l=>mS (a.edges+b.edges) ns (id (g6 a l))
 let R:=wd b (a.edges+b.edges) ns fun l=>mS (a.edges+b.edges) ns (xB a L (g6 b l))
 ⟨roots,A.nodes++R.nodes.map (CX a Pl),sites++b.sites.map (zB a Pl),a.edges+b.edges,ns,R.inner⟩
theorem uN (a b:Big) (roots:Int) (sites:List Int) (names:List ByteArray) (gp gl:Nat) (cp cl:List D) (L:ByteArray→Int × ByteArray) (Pl:Int→Int) (hcp:(cp.all fun r=>!isT r)=true) (hcl:(cl.all fun r=>!isT r)=true) (da:qK a) (db:qK b) (ia:a.inner.length≤1000) (ib:b.inner.length≤1000) (ea:0≤a.edges∧a.edges≤500) (eb:0≤b.edges∧b.edges≤500) (hn:names.length≤1000) (hs:sites.length≤1000)
 (la:∀x∈a.nodes,∀l∈x.links,(0≤l∧l<a.edges+a.outer.length)) (wa:∀x∈a.inner,(0≤x.link∧x.link<a.edges+a.outer.length)) (lb:∀x∈b.nodes,∀l∈x.links,(0≤l∧l<b.edges+b.outer.length)) (wb:∀x∈b.inner,(0≤x.link∧x.link<b.edges+b.outer.length))
 (hpl:∀x∈b.nodes,x.parent≤1000∧(x.parent<0→FnD Tryz.prog gp ([.i x.parent]++cp) (.d (.i (Pl x.parent))))) (hps:∀p∈b.sites,p≤1000∧(p<0→FnD Tryz.prog gp ([.i p]++cp) (.d (.i (Pl p)))))
 (hL:∀l,(0≤l∧l<b.edges+b.outer.length)→FnD Tryz.prog 342 [sk (g6 b l),.p a.D,.p (.f gl cl)] (.d (sk (xB a L (g6 b l))))):FnD Tryz.prog 303 [a.D,b.D,.i roots,DI sites,DS names,.f gp cp,.f gl cl] (.d (rB a b roots sites (cG names) L Pl).D):=by
 have f1:=lZ a (a.edges+b.edges) names 341 [] id rfl da ia ⟨by omega,by omega⟩ ⟨by omega,by omega⟩ hn la wa (fun l _=>yd _)
 have f2:=(lZ b (a.edges+b.edges) names 342 [.p a.D,.p (.f gl cl)] (xB a L) rfl db ib ⟨by omega,by omega⟩ ⟨by omega,by omega⟩ hn lb wb hL).toD
 have f3:=jR sites hs
 obtain ⟨R,hR⟩:∃R,R=wd b (a.edges+b.edges) (cG names) fun l=>mS (a.edges+b.edges) (cG names) (xB a L (g6 b l)):=⟨_,rfl⟩
 rw [← hR] at f2
 have hRn:∀x∈R.nodes,x.parent≤1000∧(x.parent<0→FnD Tryz.prog gp ([.i x.parent]++cp) (.d (.i (Pl x.parent)))):=fun x hx=>by
  rw [hR] at hx
  obtain ⟨y,hy,rfl⟩:=List.mem_map.1 hx
  exact hpl y hy
 have hRl:R.nodes.length≤1000:=by rw [hR];simp [wd];exact db.nodes
 obtain ⟨A,hA⟩:∃A,A=wd a (a.edges+b.edges) (cG names) fun l=>mS (a.edges+b.edges) (cG names) (id (g6 a l)):=⟨_,rfl⟩
 rw [← hA] at f1
 have hAl:A.nodes.length≤1000:=by rw [hA];simp [wd];exact da.nodes
 refine ah Tryz.func303 (fun hw W0=>?_)
 refine kgo ?_
 refine qJ 7 a.D ?_
 refine qJ 13 (.f gl cl) ?_
 refine kgo ?_
 refine Gm 31031 ?_
 refine ER 31031 (t':=.row 3 151 ((A.nodes++(R.nodes.take 0).map (CX a Pl)).map Nd.D)) (by rw [List.take_zero,List.map_nil,List.append_nil]) ?_
 refine aj [5,7,8,14,18,49,50,10041] (fun i:Nat=>i≤R.nodes.length) (fun i=>R.nodes.length - i) (fun i=>[(51,.sy (.d (.i i))),(10018,.tk (.bx [.d (.i roots),.k 20001,.k 10041,.d (.i (a.edges+b.edges)),.d (DS A.outer),.d (.l 2 (R.inner.map Wr.D))])),(20001,.tk (.row 3 151 ((A.nodes++(R.nodes.take i).map (CX a Pl)).map Nd.D)))]) 0 (Nat.zero_le _) (fun i hi=>?_)
 refine kgo ?_
 refine bo (fun h=>?_) (fun h=>?_)
 ·have hlt:i<R.nodes.length:=by simpa using h
  have hx:=hRn _ (List.getElem_mem hlt)
  have f4:=xL a R.nodes[i].parent (Pl R.nodes[i].parent) gp cp hcp hx.1 da.nodes hx.2
  have hs2:(A.nodes++(R.nodes.take (i+1)).map (CX a Pl)).map Nd.D=(A.nodes++(R.nodes.take i).map (CX a Pl)).map Nd.D++[(CX a Pl R.nodes[i]).D]:=by rw [uW _ _ _ _ hlt,List.map_append];rfl
  refine kgo ?_
  exact ab (i+1) hlt (by omega) (hs:=⟨⟨rfl,rfl⟩,⟨rfl,rfl⟩,⟨jo rfl hs2.symm,rfl⟩,by repeat (first|exact trivial|refine ⟨⟨rfl,rfl⟩,?_⟩)⟩)
 obtain rfl:i=R.nodes.length:=by have:=h;simp at this;omega
 rw [List.take_length]
 refine kgo ?_
 refine ER 10041 (t':=.row 1 3 ((sites++(b.sites.take 0).map (zB a Pl)).map D.i)) (by rw [List.take_zero,List.map_nil,List.append_nil]) ?_
 refine aj [5,7,14,18,69,70,20001] (fun i:Nat=>i≤b.sites.length) (fun i=>b.sites.length - i) (fun i=>[(71,.sy (.d (.i i))),(10018,.tk (.bx [.d (.i roots),.k 20001,.k 20002,.d (.i (a.edges+b.edges)),.d (DS A.outer),.d (.l 2 (R.inner.map Wr.D))])),(20002,.tk (.row 1 3 ((sites++(b.sites.take i).map (zB a Pl)).map D.i)))]) 0 (Nat.zero_le _) (fun i hi=>?_)
 refine kgo ?_
 refine bo (fun h=>?_) (fun h=>?_)
 ·have hlt:i<b.sites.length:=by simpa using h
  have hx:=hps _ (List.getElem_mem hlt)
  have hbl:=db.sites
  have f4:=xL a b.sites[i] (Pl b.sites[i]) gp cp hcp hx.1 da.nodes hx.2
  have hs2:(sites++(b.sites.take (i+1)).map (zB a Pl)).map D.i=(sites++(b.sites.take i).map (zB a Pl)).map D.i++[.i (zB a Pl b.sites[i])]:=by rw [uW _ _ _ _ hlt,List.map_append];rfl
  refine kgo ?_
  exact ab (i+1) hlt (by omega) (hs:=⟨⟨rfl,rfl⟩,⟨rfl,rfl⟩,⟨jo rfl hs2.symm,rfl⟩,by repeat (first|exact trivial|refine ⟨⟨rfl,rfl⟩,?_⟩)⟩)
 obtain rfl:i=b.sites.length:=by have:=h;simp at this;omega
 rw [List.take_length]
 refine bz (au (au (bA (bp ?_))))
 refine mY 10018 1 ?_
 refine mY 10018 2 ?_
 refine kgo ?_
 rw [show rB a b roots sites (cG names) L Pl=⟨roots,A.nodes++R.nodes.map (CX a Pl),sites++b.sites.map (zB a Pl),a.edges+b.edges,A.outer,R.inner⟩ from by rw [hA,hR];rfl]
 exact ar
theorem xj (a b:Big) (da:qK a) (db:qK b) (ia:a.inner.length≤1000) (ib:b.inner.length≤1000) (ea:0≤a.edges∧a.edges≤500) (eb:0≤b.edges∧b.edges≤500)
 (la:∀x∈a.nodes,∀l∈x.links,(0≤l∧l<a.edges+a.outer.length)) (wa:∀x∈a.inner,(0≤x.link∧x.link<a.edges+a.outer.length)) (lb:∀x∈b.nodes,∀l∈x.links,(0≤l∧l<b.edges+b.outer.length)) (wb:∀x∈b.inner,(0≤x.link∧x.link<b.edges+b.outer.length))
 (hpl:∀x∈b.nodes,x.parent≤1000∧(x.parent<0→0≤-1 - x.parent∧-1 - x.parent<a.sites.length)) (hps:∀p∈b.sites,p≤1000∧(p<0→0≤-1 - p∧-1 - p<a.sites.length))
 (hL:∀s∈b.outer,∃q:Nat,jg (a.inner.map Wr.name) s=q∧q<a.inner.length):FnD Tryz.prog 272 [a.D,b.D] (.d (rB a b a.roots [] (cG a.outer) (fun s=>g6 a (a.inner.getD (jg (a.inner.map Wr.name) s).toNat ⟨⟨#[]⟩,0⟩).link) (fun p=>atI a.sites (-1 - p))).D):=by
 have f1:=(dM a ia).toL
 have hX:∀l,(0≤l∧l<b.edges+b.outer.length)→¬(g6 b l).2=⟨#[]⟩→FnD Tryz.prog 305 ([.s (g6 b l).2]++[.p a.D,.p (DS (a.inner.map Wr.name))]) (.d (sk (g6 a (a.inner.getD (jg (a.inner.map Wr.name) (g6 b l).2).toNat ⟨⟨#[]⟩,0⟩).link))):=fun l hl hne=>by
  have hm:(g6 b l).2∈b.outer:=by
   unfold g6 at hne ⊢
   split at hne
   ·exact absurd rfl hne
   ·rename_i hge
    rw [if_neg hge]
    have hlt:(l - b.edges).toNat<b.outer.length:=by omega
    show b.outer.getD (l - b.edges).toNat ⟨#[]⟩∈b.outer
    rw [List.getD_eq_getElem?_getD,List.getElem?_eq_getElem hlt]
    exact List.getElem_mem hlt
  obtain ⟨q,hq,hql⟩:=hL _ hm
  have f:=tm a (a.inner.map Wr.name) (g6 b l).2 q hq hql ia ⟨ea.1,by omega⟩ (wa _ (List.getElem_mem hql)).2 da.outer
  rw [hq,Int.toNat_natCast,List.getD_eq_getElem?_getD,List.getElem?_eq_getElem hql]
  exact f
 have f2:=(uN a b a.roots [] a.outer 304 305 [.p a.D] [.p a.D,.p (DS (a.inner.map Wr.name))] (fun s=>g6 a (a.inner.getD (jg (a.inner.map Wr.name) s).toNat ⟨⟨#[]⟩,0⟩).link) (fun p=>atI a.sites (-1 - p)) rfl rfl da db ia ib ea eb da.outer (Nat.zero_le _) la wa lb wb
  (fun x hx=>⟨(hpl x hx).1,fun h=>nL a x.parent ((hpl x hx).2 h) da.sites⟩) (fun p hp=>⟨(hps p hp).1,fun h=>nL a p ((hps p hp).2 h) da.sites⟩)
  (fun l hl=>qW a _ _ (g6 b l) _ rfl (by have h1:=hl.1;have h2:=eb.2;unfold g6;split <;> (constructor <;> dsimp only <;> omega)) ⟨ea.1,by omega⟩ (hX l hl))).arg (ds':=[a.D,b.D,.i a.roots,.n 1,DS a.outer,.f 304 [.p a.D],.f 305 [.p a.D,.p (DS (a.inner.map Wr.name))]]) (fun w F vs h=>by
   obtain ⟨v1,t1,rfl,h1,v2,t2,rfl,h2,v3,t3,rfl,h3,v4,t4,rfl,h4,h5⟩:=h
   exact ⟨_,_,rfl,h1,_,_,rfl,h2,_,_,rfl,h3,_,_,rfl,Ad h4,h5⟩)
 refine ah Tryz.func272 (fun hw W0=>?_)
 refine kgo ?_
 refine qJ 2 a.D ?_
 refine qJ 5 (DS (a.inner.map Wr.name)) ?_
 refine kgo ?_
 refine FG (hf:=f2) ?_
 refine kgo ?_
 exact ar
end Go.Proofs.YtacafmejcdgboaaGreatDoor
namespace Go.Proofs.YtacafmejcdgboaaGreatDoor
open Go.RowKit
set_option linter.unusedVariables false
set_option maxRecDepth 100000
set_option maxHeartbeats 4000000
attribute [local irreducible] aD Der At
def AI (a b:Big):Bool:=decide ((a.sites.length:Int)=b.roots) && eqS (a.inner.map Wr.name) b.outer
def yx (a b:Big):Big:=rB a b a.roots [] (cG a.outer) (fun s=>g6 a (a.inner.getD (jg (a.inner.map Wr.name) s).toNat ⟨⟨#[]⟩,0⟩).link) (fun p=>atI a.sites (-1 - p))
def mn (sig:List Ctl) (a b:Big):Bool:=aw sig a && (aw sig b && (AI a b && aw sig (yx a b)))
theorem lR (sig:List Ctl) (a b:Big) (ia:a.inner.length≤1000) (ib:b.inner.length≤1000) (hc:aw sig a=true→aw sig b=true→AI a b=true→(yx a b).inner.length≤1000∧FnD Tryz.prog 272 [a.D,b.D] (.d (yx a b).D)):FnO Tryz.prog 240 [.l 3 (sig.map Ctl.D),a.D,b.D] [6,0] (xG (xE (mn sig a b) (yx a b))++[.d (.b (mn sig a b))]):=by
 have f1:=gH sig a (by omega)
 have f2:=gH sig b (by omega)
 have f3:FnD Tryz.prog 271 [a.D,b.D] (.d (.b (AI a b))):=Fb a b ia
 refine dp Tryz.func240 (fun hw W0=>?_)
 refine kgo ?_
 cases ga:aw sig a
 ·rw [show mn sig a b=false from by simp [mn,ga]]
  refine kgo ?_
  exact gK (hp:=.cons (.d rfl) (.cons .m (.cons .n (.cons (.d rfl) (.cons .n (.cons .n (.cons (.d rfl) .nil)))))))
 refine kgo ?_
 cases gb:aw sig b
 ·rw [show mn sig a b=false from by simp [mn,gb]]
  refine kgo ?_
  exact gK (hp:=.cons (.d rfl) (.cons .m (.cons .n (.cons (.d rfl) (.cons .n (.cons .n (.cons (.d rfl) .nil)))))))
 refine kgo ?_
 cases gf:AI a b
 ·rw [show mn sig a b=false from by simp [mn,gf]]
  refine kgo ?_
  exact gK (hp:=.cons (.d rfl) (.cons .m (.cons .n (.cons (.d rfl) (.cons .n (.cons .n (.cons (.d rfl) .nil)))))))
 obtain ⟨h1,f4⟩:=hc ga gb gf
 have f5:=nC sig (yx a b) h1
 rw [show mn sig a b=aw sig (yx a b) from by simp [mn,ga,gb,gf]]
 refine kgo ?_
 exact gK (hp:=.cons (.d rfl) (.cons (.k rfl rfl) (.cons (.k rfl rfl) (.cons (.d rfl) (.cons (.k rfl rfl) (.cons (.k rfl rfl) (.cons (.d rfl) .nil)))))))
end Go.Proofs.YtacafmejcdgboaaGreatDoor
namespace Go.Proofs.YtacafmejcdgboaaGreatDoor
open Go.RowKit
set_option linter.unusedVariables false
set_option linter.unusedSimpArgs false
theorem CO {a c:List ByteArray} (h:eqS a c=true):a=c:=by
 unfold eqS at h
 simp only [Bool.and_eq_true,decide_eq_true_eq] at h
 refine List.ext_getElem h.1 (fun i h1 h2=>?_)
 have:=(aG _ _).1 h.2 i h1
 rw [jr a c i h1 h2,beq_iff_eq] at this
 exact fJ this
structure qO (b:Big):Prop where
 dims:qK b
 roots:0≤b.roots∧b.roots≤4
 edges:0≤b.edges∧b.edges≤8
 nodes:b.nodes.length≤8
 sitesN:b.sites.length≤4
 outer:b.outer.length≤16
 inner:b.inner.length≤16
 links:∀x∈b.nodes,∀l∈x.links,0≤l∧l<b.edges+b.outer.length
 wires:∀x∈b.inner,0≤x.link∧x.link<b.edges+b.outer.length
 pars:∀x∈b.nodes,-b.roots≤x.parent∧x.parent≤8
 sites:∀p∈b.sites,-b.roots≤p∧p≤8
 names:b.outer.Pairwise NLt
 inames:(b.inner.map Wr.name).Pairwise NLt
 full:∀s∈b.outer,s≠⟨#[]⟩
theorem xg {l:List ByteArray} (h:de l=true):∀s∈l,s≠⟨#[]⟩:=fun s hs e=>by
 obtain ⟨i,hi,rfl⟩:=List.mem_iff_getElem.1 hs
 have h2:=(aG _ _).1 (Bool.and_eq_true_iff.1 h).1 i hi
 rw [pq l i hi] at h2
 have h3:=(Bool.and_eq_true_iff.1 h2).1
 unfold di at h3
 have h4:=cA (Bool.and_eq_true_iff.1 h3).1
 rw [e] at h4
 have:(ByteArray.mk #[]).size=0:=rfl
 omega
theorem cM {sig:List Ctl} {b:Big} (h:aw sig b=true):qO b:=by
 obtain ⟨h1,h2,h3,h4⟩:=cZ h
 obtain ⟨_,_,_,_,_,ho,hi⟩:=eM h1
 obtain ⟨r,n,s,e,o,i⟩:=aC h
 refine ⟨bw h,r,e,n,s,o,i,fun x hx l hl=>?_,fun x hx=>?_,fun x hx=>?_,fun p hp=>?_,sn ho,sn hi,xg ho⟩
 ·obtain ⟨k,hk,rfl⟩:=List.mem_iff_getElem.1 hx
  have:=cA ((dc h k hk).2.2.2.2 l hl)
  omega
 ·have:=cA (List.all_eq_true.1 h4 x hx)
  omega
 ·obtain ⟨k,hk,rfl⟩:=List.mem_iff_getElem.1 hx
  have:=gN h k hk
  omega
 ·have:=List.all_eq_true.1 h3 p hp
  unfold eT cR at this
  split at this
  ·simp only [decide_eq_true_eq] at this;omega
  ·simp only [Bool.and_eq_true,decide_eq_true_eq] at this;omega
theorem sQ (xs ys:List Int) (l:Int) (h0:0≤l):atI (xs++ys) l=if l<(xs.length:Int) then atI xs l else atI ys (l - xs.length):=by
 unfold atI
 rw [List.getD_eq_getElem?_getD,List.getD_eq_getElem?_getD,List.getD_eq_getElem?_getD,List.getElem?_append]
 by_cases h:l<(xs.length:Int)
 ·rw [if_pos h,if_pos (by omega)]
 ·rw [if_neg h,if_neg (by omega),show l.toNat - xs.length=(l - xs.length).toNat by omega]
theorem lQ {α:Type} (f:α→Int) (l:List α) (i:Nat) (h:i<l.length):atI (l.map f) (i:Int)=f l[i]:=by
 rw [br _ i (by simpa using h),List.getElem_map]
theorem nN (m:Int) (n:Nat) (l:Int) (h0:0≤l) (h1:l<n):atI (eL m n) l=m+l:=by
 obtain ⟨i,rfl⟩:=Int.eq_ofNat_of_zero_le h0
 unfold eL
 rw [lQ _ _ i (by simp;omega),List.getElem_range]
theorem rq (m:Int) (n:Nat) (l:Int) (h0:0≤l) (h1:l<n):atI (cV m n) l = -1 - m - l:=by
 obtain ⟨i,rfl⟩:=Int.eq_ofNat_of_zero_le h0
 unfold cV
 rw [lQ _ _ i (by simp;omega),List.getElem_range]
theorem CQ {r p:Int} (h0:0≤r) (h : -r≤p):upF 0 (cV 0 r.toNat) p=p:=by
 unfold upF
 split
 ·rw [rq _ _ _ (by omega) (by omega)];omega
 ·omega
theorem vu {r:Int} {l:List Int} (h0:0≤r) (h:∀p∈l,-r≤p):dq 0 (cV 0 r.toNat) l=l:=by
 unfold dq
 conv=>rhs;rw [← List.map_id l]
 exact List.map_congr_left fun p hp=>CQ h0 (h p hp)
theorem CI {b:Big} (o:qO b) (m E:Int) (ns:List ByteArray) (l:Int) (h:0≤l∧l<b.edges+b.outer.length) :
 atI (eL m b.edges.toNat++dm b.outer E ns) l=if l<b.edges then m+l else E+jg ns (b.outer.getD (l - b.edges).toNat ⟨#[]⟩):=by
 have he:=o.edges
 rw [sQ _ _ _ h.1,ey]
 by_cases hl:l<b.edges
 ·rw [if_pos (by omega),if_pos hl,nN _ _ _ h.1 (by omega)]
 ·rw [if_neg (by omega),if_neg hl]
  have hj:(l - b.edges).toNat<b.outer.length:=by omega
  rw [show l - ((b.edges.toNat:Nat):Int)=((l - b.edges).toNat:Nat) by omega]
  unfold dm
  rw [lQ _ _ _ hj,List.getD_eq_getElem?_getD,List.getElem?_eq_getElem hj];rfl
theorem sW {b:Big} (o:qO b) {l:Int} (h:¬l<b.edges) (h1:l<b.edges+b.outer.length):∃hj:(l - b.edges).toNat<b.outer.length,b.outer.getD (l - b.edges).toNat ⟨#[]⟩=b.outer[(l - b.edges).toNat]∧b.outer[(l - b.edges).toNat]≠⟨#[]⟩:=by
 have hj:(l - b.edges).toNat<b.outer.length:=by omega
 exact ⟨hj,by rw [List.getD_eq_getElem?_getD,List.getElem?_eq_getElem hj];rfl,o.full _ (List.getElem_mem hj)⟩
theorem zy {a:Big} (o:qO a) (E:Int) (ns:List ByteArray) (l:Int) (h:0≤l∧l<a.edges+a.outer.length) :
 mS E ns (id (g6 a l))=atI (eL 0 a.edges.toNat++dm a.outer E ns) l:=by
 rw [CI o 0 E ns l h]
 unfold g6
 by_cases hl:l<a.edges
 ·rw [if_pos hl,if_pos hl];simp [mS]
 ·rw [if_neg hl,if_neg hl]
  obtain ⟨hj,e1,e2⟩:=sW o hl h.2
  rw [e1]
  simp [mS,e2]
theorem vB {ps ks:List Int} {by':Int} {l:List Nd} {pf lf:Int→Int} (hp:∀x∈l,pf x.parent=upF by' ps x.parent) (hl:∀x∈l,∀k∈x.links,lf k=atI ks k):(l.map fun x=>(⟨x.control,pf x.parent,x.links.map lf⟩:Nd))=cO by' ps ks l:=by
 unfold cO ef
 refine List.map_congr_left fun x hx=>?_
 rw [hp x hx,List.map_congr_left (hl x hx)]
theorem uV {ks:List Int} {l:List Wr} {lf:Int→Int} (h:∀x∈l,lf x.link=atI ks x.link):(l.map fun w=>(⟨w.name,lf w.link⟩:Wr))=dj ks l:=by
 unfold dj
 exact List.map_congr_left fun x hx=>by rw [h x hx]
theorem pR {l:List ByteArray} (h:l.Pairwise NLt) (j:Nat) (hj:j<l.length):jg l l[j]=j:=by
 refine sS hj (by simp) (fun k hk=>?_)
 have:=List.pairwise_iff_getElem.1 h k j (by omega) hj hk
 by_cases e:(l[k].toList == l[j].toList)=true
 ·rw [beq_iff_eq] at e
  rw [fJ e] at this
  exact absurd this (NLt.irr _)
 ·simpa using e
theorem vC {a b:Big} (oa:qO a) (ob:qO b) (roots:Int) (sites ps ks:List Int) (ns:List ByteArray) (L:ByteArray→Int × ByteArray) (Pl:Int→Int)
 (hp:∀p,-b.roots≤p→p<0→Pl p=atI ps (-1 - p)) (hk:∀l,(0≤l∧l<b.edges+b.outer.length)→mS (a.edges+b.edges) ns (xB a L (g6 b l))=atI ks l) :
 rB a b roots sites ns L Pl=⟨roots,cO 0 (cV 0 a.roots.toNat) (eL 0 a.edges.toNat++dm a.outer (a.edges+b.edges) ns) a.nodes++cO a.nodes.length ps ks b.nodes,sites++dq a.nodes.length ps b.sites,a.edges+b.edges,ns,dj ks b.inner⟩:=by
 have hm:∀p,-b.roots≤p→zB a Pl p=upF a.nodes.length ps p:=fun p h1=>by
  unfold zB upF
  by_cases h:p<0
  ·rw [if_neg (by omega),if_pos h,hp p h1 h]
  ·rw [if_pos (by omega),if_neg h]
 unfold rB wd
 dsimp only
 rw [vB (by':=0) (ps:=cV 0 a.roots.toNat) (ks:=eL 0 a.edges.toNat++dm a.outer (a.edges+b.edges) ns) (pf:=fun p=>p) (lf:=fun l=>mS (a.edges+b.edges) ns (id (g6 a l))) (fun x hx=>(CQ oa.roots.1 (oa.pars x hx).1).symm) (fun x hx k hk=>zy oa _ _ k (oa.links x hx k hk)),
  uV (ks:=ks) (lf:=fun l=>mS (a.edges+b.edges) ns (xB a L (g6 b l))) (fun x hx=>hk _ (ob.wires x hx)),
  List.map_map,show b.nodes.map (CX a Pl ∘ fun x=>(⟨x.control,x.parent,x.links.map fun l=>mS (a.edges+b.edges) ns (xB a L (g6 b l))⟩:Nd))=b.nodes.map fun x=>(⟨x.control,zB a Pl x.parent,x.links.map fun l=>mS (a.edges+b.edges) ns (xB a L (g6 b l))⟩:Nd) from rfl,
  vB (by':=(a.nodes.length:Int)) (ps:=ps) (ks:=ks) (fun x hx=>hm _ (ob.pars x hx).1) (fun x hx k hk'=>hk k (ob.links x hx k hk'))]
 congr 1
 exact congrArg (sites ++ ·) (List.map_congr_left fun p hp'=>hm p (ob.sites p hp').1)
theorem o7 {a b:Big} (h:AI a b=true):(a.sites.length:Int)=b.roots∧a.inner.map Wr.name=b.outer:=by
 unfold AI at h
 simp only [Bool.and_eq_true,decide_eq_true_eq] at h
 exact ⟨h.1,CO h.2⟩
theorem xV {a b:Big} (oa:qO a) (ob:qO b) (h:AI a b=true):yx a b=rm a b:=by
 obtain ⟨hs,hn⟩:=o7 h
 unfold yx rm Cw
 rw [ld oa.names,vC oa ob a.roots [] a.sites (eL a.edges b.edges.toNat++a.inner.map fun x=>atI (zp a b) x.link) a.outer _ _ (fun p _ _=>rfl),vu oa.roots.1 (fun p hp=>(oa.sites p hp).1)]
 ·rfl
 intro l hl
 have he:=ob.edges
 rw [sQ _ _ _ hl.1,ey]
 by_cases hlt:l<b.edges
 ·rw [show g6 b l=(l,⟨#[]⟩) from if_pos hlt,if_pos (by omega),nN _ _ _ hl.1 (by omega)]
  simp [xB,mS];omega
 ·rw [show g6 b l=(0,b.outer.getD (l - b.edges).toNat ⟨#[]⟩) from if_neg hlt,if_neg (by omega)]
  obtain ⟨hj,e1,e2⟩:=sW ob hlt hl.2
  have hj':(l - b.edges).toNat<a.inner.length:=by have:=congrArg List.length hn;simp at this;omega
  rw [e1]
  have hi:jg (a.inner.map Wr.name) b.outer[(l - b.edges).toNat]=(l - b.edges).toNat:=by
   rw [show b.outer[(l - b.edges).toNat]=(a.inner.map Wr.name)[(l - b.edges).toNat]'(by simpa using hj') from by simp only [hn]]
   exact pR oa.inames _ _
  rw [show l - ((b.edges.toNat:Nat):Int)=((l - b.edges).toNat:Nat) by omega,lQ _ _ _ hj']
  unfold xB
  rw [if_neg e2]
  dsimp only
  rw [hi,Int.toNat_natCast,List.getD_eq_getElem?_getD,List.getElem?_eq_getElem hj',Option.getD_some]
  exact zy oa _ _ _ (oa.wires _ (List.getElem_mem hj'))
theorem FQ {a b:Big} (oa:qO a) (ob:qO b) (h:AI a b=true):(yx a b).inner.length≤1000∧FnD Tryz.prog 272 [a.D,b.D] (.d (yx a b).D):=by
 obtain ⟨hs,hn⟩:=o7 h
 have ha:=oa.inner
 have hb:=ob.inner
 have ea:=oa.edges
 have eb:=ob.edges
 refine ⟨by rw [xV oa ob h,qf];omega,xj a b oa.dims ob.dims (by omega) (by omega) ⟨ea.1,by omega⟩ ⟨eb.1,by omega⟩ oa.links oa.wires ob.links ob.wires (fun x hx=>?_) (fun p hp=>?_) (fun s hs=>?_)⟩
 ·have:=ob.pars x hx
  omega
 ·have:=ob.sites p hp
  omega
 ·rw [← hn] at hs
  obtain ⟨j,hj,rfl⟩:=List.mem_iff_getElem.1 hs
  exact ⟨j,pR oa.inames _ _,by simpa using hj⟩
def vg (l:List Wr):List Wr:=l.foldl (fR wLt) []
theorem xy {α:Type} (lt:α→α→Bool) (x:α):∀l:List α,(∀y∈l,lt y x=true)→fR lt l x=l++[x]:=by
 intro l
 induction l with
 | nil=>intro _;rfl
 | cons y l ih=>intro h;unfold fR;rw [if_pos (h y (by simp)),ih (fun z hz=>h z (by simp [hz]))];rfl
theorem CA {α:Type} {lt:α→α→Bool}:∀x a:List α,(a++x).Pairwise (fun u v=>lt u v=true)→x.foldl (fR lt) a=a++x:=by
 intro x
 induction x with
 | nil=>intro a _;simp
 | cons u x ih=>
  intro a h
  rw [List.foldl_cons,xy _ _ _ (fun y hy=>(List.pairwise_append.1 h).2.2 y hy u (by simp)),ih _ (by rw [List.append_assoc];exact h),List.append_assoc];rfl
theorem vf {x y:List Wr} (h:(x.map Wr.name).Pairwise NLt):vg (x++y)=bG x y:=by
 unfold vg bG
 rw [List.foldl_append,CA (lt:=wLt) x [] (List.pairwise_map.1 h)];rfl
theorem vJ (l:List Wr):(vg l).length=l.length:=by
 have:∀(l a:List Wr),(l.foldl (fR wLt) a).length=a.length+l.length:=by
  intro l
  induction l with
  | nil=>simp
  | cons x l ih=>intro a;rw [List.foldl_cons,ih,ou,List.length_cons];omega
 have h:=this l []
 simpa [vg] using h
theorem zr (l:List Wr):∀a:List Wr,a.Pairwise (fun u v=>wLt u v=true)→((a++l).map Wr.name).Nodup→(l.foldl (fR wLt) a).Pairwise (fun u v=>wLt u v=true)∧∀z,z∈l.foldl (fR wLt) a↔z∈a++l:=by
 induction l with
 | nil=>intro a h _;exact ⟨h,fun z=>by simp⟩
 | cons x l ih=>
  intro a h hn
  have hx:∀y∈a,wLt y x=true∨wLt x y=true:=fun y hy=>NLt.total fun e=>by
   rw [List.map_append,List.nodup_append] at hn
   exact hn.2.2 _ (List.mem_map_of_mem hy) _ (List.mem_map_of_mem (show x∈x :: l by simp)) e
  have hm:=nz wLt x
  obtain ⟨h1,h2⟩:=ih (fR wLt a x) (rU (lt:=wLt) (fun u v w=>NLt.trans u.name v.name w.name) x a h hx) (by
   have hp:(fR wLt a x).Perm (x :: a):=by
    clear hn ih hx h
    induction a with
    | nil=>exact List.Perm.refl _
    | cons y a ih2=>unfold fR;split
                    ·exact (ih2.cons y).trans (List.Perm.swap x y a)
                    ·exact List.Perm.refl _
   have hq:(fR wLt a x++l).Perm (a++x :: l):=(hp.append_right l).trans (List.perm_middle.symm)
   exact (hq.map Wr.name).nodup_iff.2 hn)
  refine ⟨h1,fun z=>?_⟩
  rw [List.foldl_cons,h2,List.mem_append,hm,List.mem_append,List.mem_cons]
  constructor
  ·rintro ((h|h)|h) <;> simp [h]
  ·rintro (h|h|h) <;> simp [h]
theorem xM {l d:List Wr} (hn:(l.map Wr.name).Nodup) (hp:d.Perm l) (hs:d.Pairwise fun x y=>wLt y x=false):d=vg l:=by
 obtain ⟨h1,h2⟩:=zr l [] List.Pairwise.nil (by simpa using hn)
 have hd:(d.map Wr.name).Nodup:=(hp.map Wr.name).nodup_iff.2 hn
 have h3:d.Pairwise fun x y=>wLt x y=true:=by
  have h4:d.Pairwise fun x y=>x.name≠y.name:=List.pairwise_map.1 (List.nodup_iff_pairwise_ne.1 hd)
  refine (hs.and h4).imp fun {x y} h=>(NLt.total h.2).resolve_right fun e=>?_
  unfold NLt at e
  have:=h.1
  unfold wLt at this
  rw [e] at this;cases this
 refine AA (lt:=fun x y=>wLt x y=true) (fun x=>NLt.irr _) (fun x y z=>NLt.trans _ _ _) d (vg l) h3 h1 (fun z=>?_)
 rw [hp.mem_iff]
 have:=h2 z
 simpa [vg] using this.symm
def qF (a b:Big):Big:=rB a b (a.roots+b.roots) a.sites (jj a b) (fun s=>(0,s)) (fun p=>p - a.roots)
def xD (a b:Big):List Wr:=(wd a (a.edges+b.edges) (jj a b) fun l=>mS (a.edges+b.edges) (jj a b) (id (g6 a l))).inner++(qF a b).inner
def Gj (a b:Big):Big:=⟨(qF a b).roots,(qF a b).nodes,(qF a b).sites,(qF a b).edges,(qF a b).outer,vg (xD a b)⟩
theorem pd (a b:Big):(xD a b).map Wr.name=a.inner.map Wr.name++b.inner.map Wr.name:=by
 unfold xD qF rB wd
 simp only [List.map_append,List.map_map]
 rfl
theorem yY {a b:Big} (oa:qO a) (ob:qO b):qF a b=⟨a.roots+b.roots,cO 0 (cV 0 a.roots.toNat) (gL a b a 0) a.nodes++cO a.nodes.length (cV a.roots b.roots.toNat) (gL a b b a.edges) b.nodes,a.sites++dq a.nodes.length (cV a.roots b.roots.toNat) b.sites,a.edges+b.edges,jj a b,dj (gL a b b a.edges) b.inner⟩:=by
 unfold qF gL
 refine vC oa ob _ _ (cV a.roots b.roots.toNat) _ _ _ _ (fun p h1 h2=>?_) (fun l hl=>?_)
 ·rw [rq _ _ _ (by omega) (by have:=ob.roots;omega)];omega
 ·rw [CI ob _ _ _ l hl]
  unfold g6
  by_cases h:l<b.edges
  ·rw [if_pos h,if_pos h];simp [xB,mS];omega
  ·rw [if_neg h,if_neg h]
   obtain ⟨hj,e1,e2⟩:=sW ob h hl.2
   rw [e1]
   simp [xB,mS,e2]
theorem Ef {a b:Big} (oa:qO a) (ob:qO b):Gj a b=gW a b:=by
 unfold Gj gW
 rw [vu oa.roots.1 (fun p hp=>(oa.sites p hp).1)]
 have hw:xD a b=dj (gL a b a 0) a.inner++dj (gL a b b a.edges) b.inner:=by
  unfold xD
  rw [yY oa ob]
  unfold wd
  dsimp only
  rw [uV (ks:=gL a b a 0) (lf:=fun l=>mS (a.edges+b.edges) (jj a b) (id (g6 a l))) (fun x hx=>zy oa _ _ _ (oa.wires x hx))]
 rw [hw,yY oa ob,vf (by unfold dj;rw [List.map_map];exact oa.inames)]
theorem pS (l:List ByteArray) (s:ByteArray):qz l s=l.any fun x=>x.toList == s.toList:=qi l s
theorem rE (a c:List ByteArray):a.any (qz c) = !hM a c:=by
 unfold hM
 rw [Bool.eq_iff_iff,Bool.not_eq_true',List.any_eq_true,List.all_eq_false]
 constructor
 ·rintro ⟨s,h1,h2⟩;exact ⟨s,h1,by rw [← pS,h2];simp⟩
 ·rintro ⟨s,h1,h2⟩;exact ⟨s,h1,by rw [pS];simpa using h2⟩
theorem um {a c:List ByteArray} (h:hM a c=true) (ha:a.Pairwise NLt) (hc:c.Pairwise NLt):(a++c).Nodup:=by
 refine List.nodup_append.2 ⟨iA NLt NLt.irr ha,iA NLt NLt.irr hc,fun x hx y hy e=>?_⟩
 subst e
 have:=List.all_eq_true.1 h x hx
 rw [Bool.not_eq_true',List.any_eq_false] at this
 exact this x hy (by simp)
end Go.Proofs.YtacafmejcdgboaaGreatDoor
namespace Go.Proofs.YtacafmejcdgboaaGreatDoor
open Go.RowKit
set_option linter.unusedVariables false
set_option linter.unusedSimpArgs false
theorem xX {l m:List Int} (hn:l.Nodup) (h:∀x∈l,x∈m):l.length≤m.length:=by
 induction l generalizing m with
 | nil=>exact Nat.zero_le _
 | cons x l ih=>
  have hx:=h x (List.mem_cons_self ..)
  obtain ⟨h1,h2⟩:=List.nodup_cons.1 hn
  have:=ih (m:=m.erase x) h2 (fun y hy=>(List.mem_erase_of_ne (fun e=>h1 (by rw [← e];exact hy))).2 (h y (List.mem_cons_of_mem _ hy)))
  rw [List.length_erase_of_mem hx] at this
  have:=List.length_pos_of_mem hx
  rw [List.length_cons];omega
def upL (n:Nat):List Int:=(List.range n).map fun i:Nat=>(i:Int)
theorem oq {n:Nat} {x:Int}:x∈upL n↔0≤x∧x<n:=by
 unfold upL
 simp only [List.mem_map,List.mem_range]
 constructor
 ·rintro ⟨i,h,rfl⟩;omega
 ·rintro ⟨h1,h2⟩;exact ⟨x.toNat,by omega,by omega⟩
theorem rx (n:Nat):(upL n).Nodup:=by
 unfold upL List.Nodup
 rw [List.pairwise_map]
 exact (List.pairwise_lt_range (n:=n)).imp (fun h=>by omega)
theorem uf (n:Nat):(upL n).length=n:=by unfold upL;rw [List.length_map,List.length_range]
theorem C3 {n:Nat} {ns:List Int} (hn:ns.Nodup) (hl:ns.length=n) (hr:∀x∈ns,0≤x∧x<(n:Int)) (k:Nat) (hk:k<n):(k:Int)∈ns:=by
 by_cases h:(k:Int)∈ns
 ·exact h
 ·have:=xX (m:=upL n) (List.nodup_cons.2 ⟨h,hn⟩) (fun x hx=>oq.2 (by
   rcases List.mem_cons.1 hx with rfl|hx
   ·omega
   ·exact hr x hx))
  rw [List.length_cons,uf] at this;omega
def tyE (E:Int) (es:List Int) (x y:Int):List Int × Bool:=
 if E≤x∨E≤y then (es,decide (x=y)) else if 0≤atI es x∨eq es y=true then (es,decide (atI es x=y)) else (es.set x.toNat y,true)
def jd (E:Int):List Int→List Int→List Int→List Int × Bool
 | es,x :: xs,y :: ys=>if (tyE E es x y).2 then jd E (tyE E es x y).1 xs ys else (es,false)
 | es,_,_=>(es,true)
theorem uD (E:Int) {xs ys es:List Int} (j:Nat) (hx:j<xs.length) (hy:j<ys.length):jd E es (xs.drop j) (ys.drop j)=if (tyE E es xs[j] ys[j]).2 then jd E (tyE E es xs[j] ys[j]).1 (xs.drop (j+1)) (ys.drop (j+1)) else (es,false):=by
 rw [List.drop_eq_getElem_cons hx,List.drop_eq_getElem_cons hy];rfl
theorem pB (E:Int) {xs ys es:List Int} (j:Nat) (hx:xs.length≤j):jd E es (xs.drop j) (ys.drop j)=(es,true):=by
 rw [List.drop_eq_nil_of_le hx];cases ys.drop j <;> rfl
structure kS (E:Int) (es:List Int):Prop where
 len:(es.length:Int)=E
 inn:∀e∈es,-1≤e∧e<E
theorem kS.at {E:Int} {es:List Int} (h:kS E es) (x:Int) (h0:0≤x) (h1:x<E) : -1≤atI es x∧atI es x<E:=by
 have hl:x.toNat<es.length:=by have:=h.len;omega
 unfold atI
 rw [List.getD_eq_getElem?_getD,List.getElem?_eq_getElem hl]
 exact h.inn _ (List.getElem_mem hl)
theorem kS.ty {E:Int} {es:List Int} (h:kS E es) (x y:Int) (hy:0≤y):kS E (tyE E es x y).1:=by
 unfold tyE
 split
 ·exact h
 split
 ·exact h
 ·rename_i h1 h2
  refine ⟨by rw [List.length_set];exact h.len,fun e he=>?_⟩
  rcases List.mem_or_eq_of_mem_set he with h3|h3
  ·exact h.inn e h3
  ·omega
theorem kS.tys {E:Int}:∀(xs ys es:List Int),kS E es→(∀y∈ys,0≤y)→kS E (jd E es xs ys).1:=by
 intro xs
 induction xs with
 | nil=>intro ys es h _;exact h
 | cons x xs ih=>
  intro ys es h hy
  cases ys with
  | nil=>exact h
  | cons y ys=>
   unfold jd
   split
   ·exact ih ys _ (h.ty x y (hy y (List.mem_cons_self ..))) (fun z hz=>hy z (List.mem_cons_of_mem _ hz))
   ·exact h
theorem kS.none (E:Int) (h:0≤E):kS E (List.replicate E.toNat (-1)):=⟨by rw [List.length_replicate];omega,fun e he=>by rw [List.eq_of_mem_replicate he];omega⟩
theorem zM {es:List Int} {p:Nat} {y z:Int} (h:z∈es) (hp:es.getD p 0≠z):z∈es.set p y:=by
 obtain ⟨i,hi,rfl⟩:=List.mem_iff_getElem.1 h
 refine List.mem_iff_getElem.2 ⟨i,by rw [List.length_set];exact hi,?_⟩
 rw [List.getElem_set,if_neg]
 rintro rfl
 exact hp (by simp [hi])
theorem yq {es:List Int} {x:Int} (h0:0≤x) (h1:x<es.length):atI es x∈es:=by
 have hl:x.toNat<es.length:=by omega
 unfold atI
 rw [List.getD_eq_getElem?_getD,List.getElem?_eq_getElem hl]
 exact List.getElem_mem hl
theorem AP {E:Int} {es:List Int} {x y z:Int} (hz:0≤z) (h:z∈es):z∈(tyE E es x y).1:=by
 unfold tyE
 split
 ·exact h
 split
 ·exact h
 ·rename_i h1 h2
  exact zM h (fun e=>by have:atI es x=z:=e;omega)
theorem EG {E:Int} {es:List Int} (hE:kS E es) {x y:Int} (hx:0≤x) (hy:0≤y∧y<E) (h:(tyE E es x y).2=true):y∈(tyE E es x y).1:=by
 have hl:=hE.len
 unfold tyE at h ⊢
 split at h
 ·have:=of_decide_eq_true h;omega
 split at h
 ·rename_i h1 h2
  rw [if_neg h1,if_pos h2]
  have h3:=of_decide_eq_true h
  have h4:=yq (es:=es) (x:=x) hx (by omega)
  rw [h3] at h4;exact h4
 ·rename_i h1 h2
  rw [if_neg h1,if_neg h2]
  exact List.mem_iff_getElem.2 ⟨x.toNat,by rw [List.length_set];omega,by simp⟩
theorem nh {E:Int} {z:Int} (hz:0≤z):∀(xs ys es:List Int),z∈es→z∈(jd E es xs ys).1:=by
 intro xs
 induction xs with
 | nil=>intro ys es h;exact h
 | cons x xs ih=>
  intro ys es h
  cases ys with
  | nil=>exact h
  | cons y ys=>
   unfold jd
   split
   ·exact ih ys _ (AP hz h)
   ·exact h
theorem vr {E:Int}:∀(xs ys es:List Int),kS E es→xs.length=ys.length→(∀x∈xs,0≤x)→(∀y∈ys,0≤y)→(jd E es xs ys).2=true→∀y∈ys,y<E→y∈(jd E es xs ys).1:=by
 intro xs
 induction xs with
 | nil=>
  intro ys es hE hl _ _ _ y hy
  rw [List.eq_nil_of_length_eq_zero hl.symm] at hy;cases hy
 | cons x xs ih=>
  intro ys es hE hl hx hy h z hz hzE
  cases ys with
  | nil=>cases hz
  | cons y ys=>
   unfold jd at h ⊢
   split at h
   ·rename_i h1
    rw [if_pos h1]
    have hE2:=hE.ty x y (hy y (List.mem_cons_self ..))
    rcases List.mem_cons.1 hz with rfl|hz
    ·exact nh (hy z (List.mem_cons_self ..)) xs ys _ (EG hE (hx x (List.mem_cons_self ..)) ⟨hy z (List.mem_cons_self ..),hzE⟩ h1)
    ·exact ih ys _ hE2 (by simpa using hl) (fun z hz=>hx z (List.mem_cons_of_mem _ hz)) (fun z hz=>hy z (List.mem_cons_of_mem _ hz)) h z hz hzE
   ·cases h
def eh (a b:Big):Bool:=decide (a.roots=b.roots) && (decide (a.edges=b.edges) && (decide ((a.nodes.length:Int)=b.nodes.length) && (decide ((a.sites.length:Int)=b.sites.length) && (eqS a.outer b.outer && eqS (a.inner.map Wr.name) (b.inner.map Wr.name)))))
def qu (a b:Big) (ns:List Int) (m:Nat):Bool:=!eq ns m && (decide ((cI a ns.length).control=(cI b m).control) && decide (iw ns (cI a ns.length).parent=(cI b m).parent))
def kE (a b:Big) (ns:List Int) (i:Nat):Bool:=decide (iw ns (atI a.sites i)=atI b.sites i)
def gV (a b:Big) (ns es:List Int):List Int × Bool:=if (List.range a.sites.length).all (kE a b ns) then jd a.edges es (a.inner.map Wr.link) (b.inner.map Wr.link) else (es,false)
def oC (a b:Big):Nat→List Int→List (List Int)
 | 0,ns=>[ns]
 | n+1,ns=>(List.range b.nodes.length).flatMap fun m=>if qu a b ns m then oC a b n (ns++[(m:Int)]) else []
def ke (a b:Big):Nat→List Int→List Int→List (List Int)
 | 0,ns,es=>if (gV a b ns es).2 then [ns] else []
 | n+1,ns,es=>(List.range b.nodes.length).flatMap fun m=>if qu a b ns m && (jd a.edges es (cI a ns.length).links (cI b m).links).2 then ke a b n (ns++[(m:Int)]) (jd a.edges es (cI a ns.length).links (cI b m).links).1 else []
def me (a b:Big) (ns:List Int):Nat→Nat→List Int→List Int × Bool
 | 0,_,es=>gV a b ns es
 | n+1,i,es=>if (jd a.edges es (cI a i).links (cI b (atI ns i)).links).2 then me a b ns n (i+1) (jd a.edges es (cI a i).links (cI b (atI ns i)).links).1 else (es,false)
theorem rQ (a b:Big) (ns:List Int) (n i:Nat) (es:List Int):me a b ns (n+1) i es=if (jd a.edges es (cI a i).links (cI b (atI ns i)).links).2 then me a b ns n (i+1) (jd a.edges es (cI a i).links (cI b (atI ns i)).links).1 else (es,false):=rfl
theorem zi {a b:Big}:∀(n:Nat) (ns:List Int),∀xs∈oC a b n ns,∃t,xs=ns++t:=by
 intro n
 induction n with
 | zero=>intro ns xs hx;rw [List.mem_singleton.1 hx];exact ⟨[],by simp⟩
 | succ n ih=>
  intro ns xs hx
  unfold oC at hx
  obtain ⟨m,_,hm⟩:=List.mem_flatMap.1 hx
  split at hm
  ·obtain ⟨t,rfl⟩:=ih _ xs hm
   exact ⟨[(m:Int)]++t,by simp⟩
  ·cases hm
theorem nq {α β:Type} (p:β→Bool) (f g:α→List β):∀(l:List α),(∀x∈l,(f x).filter p=g x)→(l.flatMap f).filter p=l.flatMap g:=by
 intro l
 induction l with
 | nil=>intro _;rfl
 | cons x l ih=>
  intro h
  rw [List.flatMap_cons,List.flatMap_cons,List.filter_append,h x (List.mem_cons_self ..),ih (fun y hy=>h y (List.mem_cons_of_mem _ hy))]
theorem zm {a b:Big}:∀(n:Nat) (ns es:List Int),ke a b n ns es=(oC a b n ns).filter fun xs=>(me a b xs n ns.length es).2:=by
 intro n
 induction n with
 | zero=>
  intro ns es
  show (if (gV a b ns es).2 then [ns] else [])=List.filter _ [ns]
  by_cases h:(gV a b ns es).2=true
  ·rw [if_pos h,List.filter_cons_of_pos (by exact h)];rfl
  ·rw [if_neg h,List.filter_cons_of_neg (by exact h)];rfl
 | succ n ih=>
  intro ns es
  unfold ke oC
  symm
  refine nq _ _ _ _ (fun m _=>?_)
  by_cases hf:qu a b ns m=true
  ·rw [if_pos hf,hf,Bool.true_and]
   have key:∀xs∈oC a b n (ns++[(m:Int)]),(me a b xs (n+1) ns.length es).2=(if (jd a.edges es (cI a ns.length).links (cI b m).links).2 then me a b xs n (ns.length+1) (jd a.edges es (cI a ns.length).links (cI b m).links).1 else (es,false)).2:=fun xs hx=>by
    obtain ⟨t,rfl⟩:=zi n _ xs hx
    rw [rQ,show atI (ns++[(m:Int)]++t) (ns.length:Int)=m from by unfold atI;simp]
   by_cases h2:(jd a.edges es (cI a ns.length).links (cI b m).links).2=true
   ·rw [if_pos h2,ih]
    refine List.filter_congr (fun xs hx=>?_)
    rw [key xs hx,if_pos h2,List.length_append,List.length_singleton]
   ·rw [if_neg h2]
    refine List.filter_eq_nil_iff.2 (fun xs hx=>?_)
    rw [key xs hx,if_neg h2];exact Bool.false_ne_true
  ·rw [if_neg hf,Bool.eq_false_iff.2 hf,Bool.false_and];rfl
structure C6 (a b:Big) (ns:List Int):Prop where
 inn:∀x∈ns,0≤x∧x<(b.nodes.length:Int)
 dif:ns.Nodup
 fit:∀i:Nat,i<ns.length→(cI a i).control=(cI b (atI ns i)).control∧iw (ns.take i) (cI a i).parent=(cI b (atI ns i)).parent
theorem C6.nil (a b:Big):C6 a b []:=⟨fun x hx=>(by cases hx),List.nodup_nil,fun i hi=>absurd hi (Nat.not_lt_zero _)⟩
theorem C6.snoc {a b:Big} {ns:List Int} (h:C6 a b ns) {m:Nat} (hm:m<b.nodes.length) (hf:qu a b ns m=true):C6 a b (ns++[(m:Int)]):=by
 unfold qu at hf
 simp only [Bool.and_eq_true,Bool.not_eq_true',decide_eq_true_eq] at hf
 obtain ⟨h1,h2,h3⟩:=hf
 have hno:¬(m:Int)∈ns:=fun e=>by rw [cz.2 e] at h1;cases h1
 refine ⟨fun x hx=>?_,?_,fun i hi=>?_⟩
 ·rcases List.mem_append.1 hx with hx|hx
  ·exact h.inn x hx
  ·rw [List.mem_singleton.1 hx];omega
 ·refine List.nodup_append.2 ⟨h.dif,by simp,fun x hx y hy e=>?_⟩
  rw [List.mem_singleton.1 hy] at e
  exact hno (e ▸ hx)
 ·rw [List.length_append,List.length_singleton] at hi
  by_cases e:i=ns.length
  ·subst e
   rw [show atI (ns++[(m:Int)]) (ns.length:Int)=m from by unfold atI;simp,List.take_left]
   exact ⟨h2,h3⟩
  ·have hi':i<ns.length:=by omega
   have h4:=h.fit i hi'
   rw [show atI (ns++[(m:Int)]) (i:Int)=atI ns i from by unfold atI;simp [hi',List.getElem?_append_left hi'],List.take_append_of_le_length (by omega)]
   exact h4
theorem yT {a b:Big} {ns es:List Int} {z:Int} (hz:0≤z) (h:z∈es):z∈(gV a b ns es).1:=by
 unfold gV
 split
 ·exact nh hz _ _ _ h
 ·exact h
theorem zA {a b:Big} {ns:List Int} {z:Int} (hz:0≤z):∀(n i:Nat) (es:List Int),z∈es→z∈(me a b ns n i es).1:=by
 intro n
 induction n with
 | zero=>intro i es h;exact yT hz h
 | succ n ih=>
  intro i es h
  unfold me
  split
  ·exact ih _ _ (nh hz _ _ _ h)
  ·exact h
structure D0 (sig:List Ctl) (a b:Big) (ns:List Int):Prop where
 ha:aw sig a=true
 hb:aw sig b=true
 nodes:a.nodes.length=b.nodes.length
 leaf:C6 a b ns
 len:ns.length=a.nodes.length
theorem D0.img {sig:List Ctl} {a b:Big} {ns:List Int} (h:D0 sig a b ns) {i:Nat} (hi:i<a.nodes.length):∃j:Nat,∃hj:j<b.nodes.length,atI ns i=(j:Int)∧(a.nodes[i]).control=(b.nodes[j]).control∧(a.nodes[i]).links.length=(b.nodes[j]).links.length∧iw (ns.take i) (a.nodes[i]).parent=(b.nodes[j]).parent:=by
 have hl:=h.len
 have hm:=h.leaf.inn _ (yq (es:=ns) (x:=(i:Int)) (by omega) (by omega))
 obtain ⟨j,hj⟩:=Int.eq_ofNat_of_zero_le hm.1
 have hjl:j<b.nodes.length:=by omega
 obtain ⟨h1,h2⟩:=h.leaf.fit i (by omega)
 rw [hj,al a i hi,al b j hjl] at h1 h2
 obtain ⟨_,_,_,e1,_⟩:=dc h.ha i hi
 obtain ⟨_,_,_,e2,_⟩:=dc h.hb j hjl
 rw [h1] at e1
 exact ⟨j,hjl,hj,h1,by omega,h2⟩
theorem C2 {sig:List Ctl} {b:Big} (h:aw sig b=true) {i:Nat} (hi:i<b.nodes.length):∀l∈(b.nodes[i]).links,0≤l∧l<b.edges+b.outer.length:=(cM h).links _ (List.getElem_mem hi)
theorem EY {sig:List Ctl} {b:Big} (h:aw sig b=true):∀l∈b.inner.map Wr.link,0≤l∧l<b.edges+b.outer.length:=fun l hl=>by
 obtain ⟨x,hx,rfl⟩:=List.mem_map.1 hl
 exact (cM h).wires x hx
theorem yI {sig:List Ctl} {b:Big} (h:aw sig b=true) (p:Int) (hp:p∈b.sites):p<b.nodes.length:=by
 have h1:=List.all_eq_true.1 (cZ h).2.2.1 p hp
 unfold eT cR at h1
 split at h1
 ·omega
 ·rw [Bool.and_eq_true,decide_eq_true_eq] at h1;exact h1.1
theorem zj {sig:List Ctl} {a b:Big} {ns:List Int} (h:D0 sig a b ns) (hin:a.inner.length=b.inner.length):∀(n i:Nat) (es:List Int),i+n=a.nodes.length→kS a.edges es→(me a b ns n i es).2=true→∀y∈b.inner.map Wr.link,y<a.edges→y∈(me a b ns n i es).1:=by
 intro n
 induction n with
 | zero=>
  intro i es _ hE h2 y hy hyE
  change (gV a b ns es).2=true at h2
  show y∈(gV a b ns es).1
  unfold gV at h2 ⊢
  split at h2
  ·rename_i h3
   rw [if_pos h3]
   exact vr _ _ _ hE (by rw [List.length_map,List.length_map,hin]) (fun x hx=>(EY h.ha x hx).1) (fun x hx=>(EY h.hb x hx).1) h2 y hy hyE
  ·cases h2
 | succ n ih=>
  intro i es hi hE h2 y hy hyE
  obtain ⟨j,hj,e1,_,e3,_⟩:=h.img (i:=i) (by omega)
  unfold me at h2 ⊢
  split at h2
  ·rename_i h3
   rw [if_pos h3]
   refine ih _ _ (by omega) (hE.tys _ _ _ (fun y hy=>?_)) h2 y hy hyE
   rw [e1,al b j hj] at hy
   exact (C2 h.hb hj y hy).1
  ·cases h2
theorem yH {sig:List Ctl} {a b:Big} {ns:List Int} (h:D0 sig a b ns):∀(n i:Nat) (es:List Int),i+n=a.nodes.length→kS a.edges es→(me a b ns n i es).2=true→∀k:Nat,i≤k→k<a.nodes.length→∀y∈(cI b (atI ns k)).links,y<a.edges→y∈(me a b ns n i es).1:=by
 intro n
 induction n with
 | zero=>intro i es hi hE h2 k h3 h4;omega
 | succ n ih=>
  intro i es hi hE h2 k h3 h4 y hy hyE
  obtain ⟨j,hj,e1,_,e3,_⟩:=h.img (i:=i) (by omega)
  have hl:i<a.nodes.length:=by omega
  unfold me at h2 ⊢
  split at h2
  ·rename_i h5
   rw [if_pos h5]
   have h0:∀y∈(cI b (atI ns i)).links,0≤y:=fun y hy=>by
    rw [e1,al b j hj] at hy
    exact (C2 h.hb hj y hy).1
   by_cases e:k=i
   ·subst e
    refine zA (h0 y hy) _ _ _ (vr _ _ _ hE ?_ (fun x hx=>?_) h0 h5 y hy hyE)
    ·rw [e1,al a k hl,al b j hj];exact e3
    ·rw [al a k hl] at hx;exact (C2 h.ha hl x hx).1
   ·exact ih _ _ (by omega) (hE.tys _ _ _ h0) h2 k (by omega) h4 y hy hyE
  ·cases h2
theorem BE {sig:List Ctl} {a b:Big} {ns:List Int} (h:D0 sig a b ns) (hin:a.inner.length=b.inner.length) (hed:a.edges=b.edges) {es:List Int} (hE:kS a.edges es) (h2:(me a b ns a.nodes.length 0 es).2=true) (l:Int) (hl:l<a.edges) (hno:¬l∈(me a b ns a.nodes.length 0 es).1):jf b l=true:=by
 unfold jf
 have hlen:=h.len
 have hnd:=h.nodes
 rw [Bool.and_eq_true]
 constructor
 ·rw [List.isEmpty_iff]
  cases hp:aE b l with
  | nil=>rfl
  | cons q t=>
   exfalso
   obtain ⟨i,j,hi,hj,e1,_⟩:=dz.1 (show q∈aE b l by rw [hp];exact List.mem_cons_self ..)
   have hm:=C3 h.leaf.dif (by rw [h.len,h.nodes]) h.leaf.inn i hi
   obtain ⟨k,hk,e2⟩:=List.mem_iff_getElem.1 hm
   refine hno (yH h _ 0 es (by omega) hE h2 k (Nat.zero_le _) (by omega) l ?_ hl)
   rw [show atI ns (k:Int)=i from by rw [← e2];unfold atI;simp [hk],al b i hi,← e1]
   exact List.getElem_mem hj
 ·rw [List.isEmpty_iff]
  cases hp:iP b l with
  | nil=>rfl
  | cons q t=>
   exfalso
   obtain ⟨x,hx,e1⟩:∃x∈b.inner,x.link=l:=by
    have:q∈iP b l:=by rw [hp];exact List.mem_cons_self ..
    unfold iP dJ at this
    obtain ⟨x,hx,_⟩:=List.mem_map.1 this
    obtain ⟨h3,h4⟩:=List.mem_filter.1 hx
    exact ⟨x,List.mem_of_mem_take h3,of_decide_eq_true h4⟩
   exact hno (zj h hin _ 0 es (by omega) hE h2 l (List.mem_map.2 ⟨x,hx,e1⟩) hl)
def DF:Nat→List Int→Nat→Nat
 | 0,_,m=>m
 | n+1,es,m=>if eq es (m:Int) then DF n es (m+1) else m
def EQ (es:List Int):Nat:=DF es.length es 0
theorem zq {es:List Int} {m:Nat} (h:∀k:Nat,k<m→(k:Int)∈es) (hn:∃x∈es,x<0):m<es.length:=by
 obtain ⟨x,hx,h0⟩:=hn
 have:=xX (l:=x :: upL m) (m:=es) (List.nodup_cons.2 ⟨fun e=>by have:=(oq.1 e).1;omega,rx m⟩) (fun y hy=>by
  rcases List.mem_cons.1 hy with rfl|hy
  ·exact hx
  ·obtain ⟨h1,h2⟩:=oq.1 hy
   have:=h y.toNat (by omega)
   rwa [show ((y.toNat:Nat):Int)=y by omega] at this)
 rw [List.length_cons,uf] at this;exact this
theorem EJ {es:List Int} (hn:∃x∈es,x<0):∀(n m:Nat),n+m=es.length→(∀k:Nat,k<m→(k:Int)∈es)→eq es (DF n es m:Nat)=false∧DF n es m<es.length:=by
 intro n
 induction n with
 | zero=>intro m hm h;have:=zq h hn;omega
 | succ n ih=>
  intro m hm h
  unfold DF
  by_cases hc:eq es (m:Int)=true
  ·rw [if_pos hc]
   refine ih (m+1) (by omega) (fun k hk=>?_)
   by_cases e:k=m
   ·subst e;exact cz.1 hc
   ·exact h k (by omega)
  ·rw [if_neg hc]
   exact ⟨Bool.eq_false_iff.2 hc,zq h hn⟩
theorem zN {es:List Int} (hn:∃x∈es,x<0):eq es (EQ es:Nat)=false∧EQ es<es.length:=EJ hn _ 0 rfl (fun k hk=>absurd hk (Nat.not_lt_zero _))
def fY (es:List Int):Nat→List Int
 | 0=>es
 | l+1=>if 0≤atI (fY es l) l then fY es l else (fY es l).set l (EQ (fY es l))
theorem yl {E:Int} {es:List Int} (h:kS E es):∀k:Nat,(k:Int)≤E→kS E (fY es k):=by
 intro k
 induction k with
 | zero=>intro _;exact h
 | succ k ih=>
  intro hk
  have h1:=ih (by omega)
  unfold fY
  split
  ·exact h1
  ·rename_i h2
   have hl:=h1.len
   have h3:=zN ⟨_,yq (es:=fY es k) (x:=(k:Int)) (by omega) (by omega),by omega⟩
   refine ⟨by rw [List.length_set];exact hl,fun e he=>?_⟩
   rcases List.mem_or_eq_of_mem_set he with h4|h4
   ·exact h1.inn e h4
   ·omega
theorem pb {es:List Int} {z:Int} (hz:0≤z) (h:z∈es):∀k:Nat,z∈fY es k:=by
 intro k
 induction k with
 | zero=>exact h
 | succ k ih=>
  unfold fY
  split
  ·exact ih
  ·rename_i h2
   exact zM ih (fun e=>h2 (by have e2:atI (fY es k) (k:Int)=z:=(by unfold atI;simpa using e);omega))
def gm (a b:Big) (ns:List Int):List Int × Bool:=if eh a b && (me a b ns a.nodes.length 0 (List.replicate a.edges.toNat (-1))).2 then (fY (me a b ns a.nodes.length 0 (List.replicate a.edges.toNat (-1))).1 a.edges.toNat,true) else ([],false)
def xR (a b:Big):Bool:=eh a b && !(ke a b a.nodes.length [] (List.replicate a.edges.toNat (-1))).isEmpty
theorem wc {a b:Big} (h:eh a b=true):(oC a b a.nodes.length []).filter (fun xs=>(gm a b xs).2)=ke a b a.nodes.length [] (List.replicate a.edges.toNat (-1)):=by
 rw [zm]
 refine List.filter_congr (fun xs _=>?_)
 unfold gm
 rw [h,Bool.true_and]
 show _=(me a b xs a.nodes.length 0 _).2
 cases (me a b xs a.nodes.length 0 (List.replicate a.edges.toNat (-1))).2 <;> rfl
theorem BI (a b:Big):xR a b = !((oC a b a.nodes.length []).filter fun xs=>(gm a b xs).2).isEmpty:=by
 unfold xR
 by_cases h:eh a b=true
 ·rw [wc h,h,Bool.true_and]
 ·have h:=Bool.eq_false_iff.2 h
  rw [h,Bool.false_and,List.filter_eq_nil_iff.2 (fun xs _=>by unfold gm;rw [h];exact Bool.false_ne_true)];rfl
end Go.Proofs.YtacafmejcdgboaaGreatDoor
namespace Go.Proofs.YtacafmejcdgboaaGreatDoor
open Go.RowKit
set_option linter.unusedVariables false
set_option maxRecDepth 100000
set_option maxHeartbeats 4000000
attribute [local irreducible] aD Der At
theorem Bl (E:Int) (hE:0≤E∧E≤1000):FnD Tryz.prog 148 [.i E] (.row 1 3 ((List.replicate E.toNat (-1)).map .i)):=by
 refine ah Tryz.func148 (fun hw W0=>?_)
 refine kgo ?_
 refine aj [0] (fun i:Nat=>i≤E.toNat) (fun i=>E.toNat - i) (fun i=>[(4,.sy (.d (.i i))),(3,.sy (.k 20001)),(20001,.tk (.row 1 3 ((List.replicate i (-1:Int)).map .i)))]) 0 (Nat.zero_le _) (fun i hi=>?_)
 refine kgo ?_
 refine bo (fun h=>?_) (fun h=>?_)
 ·have hs:(List.replicate (i+1) (-1:Int)).map D.i=(List.replicate i (-1:Int)).map D.i++[.i (-1)]:=by rw [List.replicate_succ',List.map_append];rfl
  have hln:(List.replicate i (-1:Int)).length≤1000:=by rw [List.length_replicate];omega
  refine kgo ?_
  exact ab (i+1) (by omega) (by omega)
 ·obtain rfl:i=E.toNat:=by omega
  refine kgo ?_
  exact qI
theorem DZ {a b:Big} {es:List Int} (x y:Int) (hab:a.edges=b.edges) (hE:kS a.edges es) (he:0≤a.edges∧a.edges≤1000) (hx:0≤x∧x≤10000) (hy:0≤y∧y≤10000):FnD Tryz.prog 260 [a.D,b.D,DI es,.i x,.i y] (.tp [DI (tyE a.edges es x y).1,.b (tyE a.edges es x y).2]):=by
 have hl:=hE.len
 obtain ⟨n,rfl⟩:=Int.eq_ofNat_of_zero_le hx.1
 have f1:=js es y
 have f2:=pW es (by omega)
 refine ah Tryz.func260 (fun hw W0=>?_)
 refine kgo ?_
 cases h1:decide (a.edges≤(n:Int))
 rotate_left
 ·have h1:=of_decide_eq_true h1
  rw [show tyE a.edges es n y=(es,decide ((n:Int) - a.edges=y - b.edges)) by unfold tyE;rw [if_pos (.inl h1),hab];congr 1;exact decide_eq_decide.2 (by omega)]
  refine kgo ?_
  exact em
 refine kgo ?_
 cases h2:decide (b.edges≤y)
 rotate_left
 ·have h2:=of_decide_eq_true h2
  rw [show tyE a.edges es n y=(es,decide ((n:Int) - a.edges=y - b.edges)) by unfold tyE;rw [if_pos (.inr (by omega)),hab];congr 1;exact decide_eq_decide.2 (by omega)]
  refine kgo ?_
  exact em
 have h1:=of_decide_eq_false h1
 have h2:=of_decide_eq_false h2
 have hlt:n<es.length:=by omega
 have hat:atI es (n:Int)=es[n]:=br es n hlt
 have hno:¬(a.edges≤(n:Int)∨a.edges≤y):=by omega
 refine kgo ?_
 cases h3:decide (0≤es[n])
 rotate_left
 ·have h3:=of_decide_eq_true h3
  rw [show tyE a.edges es n y=(es,decide (es[n]=y)) by unfold tyE;rw [if_neg hno,if_pos (.inl (by rw [hat];exact h3)),hat]]
  refine kgo ?_
  exact em
 refine kgo ?_
 cases h4:eq es y
 rotate_left
 ·rw [show tyE a.edges es n y=(es,decide (es[n]=y)) by unfold tyE;rw [if_neg hno,if_pos (.inr h4),hat]]
  refine kgo ?_
  exact em
 have h3:=of_decide_eq_false h3
 rw [show tyE a.edges es n y=(es.set n y,true) by unfold tyE;rw [if_neg hno,if_neg (by rw [hat,h4];simp;omega)];rfl]
 repeat (first|(refine bZ ?_;first|refine aO ?_|refine b9 ?_|refine bf ?_|refine aX ?_|refine aQ ?_|refine aW ?_|refine aV ?_|refine aA ?_|refine bc ?_)|(refine fb ?_;first|refine bO ?_|refine fg ?_|refine bU ?_|refine cd ?_)|(refine fp ?_;first|refine dv (fun _=>?_)|refine ci ?_|refine cr ?_|refine bE ?_|refine bR ?_|refine bX ?_)|(refine ft ?_;first|refine b8 ?_|refine eG ?_|refine ca ?_|refine bI ?_|refine cb ?_|refine b7 ?_)|(refine fx ?_;first|refine fq ?_|refine eZ ?_|refine cm ?_|refine bQ ?_|refine fu ?_|refine aR ?_|refine bd ?_)|(refine bS ?_;first|refine bh ?_|refine bW ?_)|(refine fc ?_;first|refine fA (d:=10) ?_|refine cf ?_|refine ck ?_|refine fj ?_)|(refine bY ?_;first|refine cg ?_|refine be ?_|refine aZ ?_|refine bj ?_|refine aP ?_|refine aY ?_)|(refine fm ?_;first|refine co ?_|refine eX ?_|refine aU ?_|refine bg ?_)|(refine aS ?_;first|refine av _ ?_|refine ba ?_|refine aB ?_|refine ax ?_|refine az ?_)|(refine ff ?_;first|refine cq ?_|refine bJ ?_|refine cj ?_)|(refine gOp ?_;first|refine fd ?_|refine fa ?_|refine aT ?_|refine fl ?_|refine fh ?_|refine b6 ?_|refine aN ?_|refine bT ?_|refine fw ?_|refine bK ?_|refine ct ?_|refine bk ?_|refine ay ?_|refine ch ?_|refine sNo ?_|refine eS ?_)|refine eA ?_|refine eR ?_|refine fe ?_|refine bl ?_|refine bM ?_|refine bz ?_|refine fC ?_|refine fB ?_|refine fo ?_|refine eH ?_|refine bV ?_|refine bp ?_|refine au ?_|refine bm ?_|refine cw ?_|refine bA ?_|refine aBlkX ?_|refine cy ?_)
 exact em
theorem vq {a b:Big} {es:List Int} (xs ys:List Int) (hab:a.edges=b.edges) (hE:kS a.edges es) (he:0≤a.edges∧a.edges≤1000) (hx:∀x∈xs,0≤x∧x≤10000) (hy:∀y∈ys,0≤y∧y≤10000) (hl:xs.length=ys.length) (hl2:xs.length≤1000):FnD Tryz.prog 219 [a.D,b.D,DI es,DI xs,DI ys] (.tp [DI (jd a.edges es xs ys).1,.b (jd a.edges es xs ys).2]):=by
 refine ah Tryz.func219 (fun hw W0=>?_)
 refine kgo ?_
 refine aj [3,4,5,6] (fun x:Nat × List Int=>x.1≤xs.length∧kS a.edges x.2∧jd a.edges es xs ys=jd a.edges x.2 (xs.drop x.1) (ys.drop x.1)) (fun x=>xs.length - x.1) (fun x=>[(12,.sy (.d (.i x.1))),(2,.sy (.d (DI x.2)))]) (0,es) ⟨Nat.zero_le _,hE,rfl⟩ (fun x hx'=>?_)
 obtain ⟨i,cur⟩:=x
 obtain ⟨hi,hEc,hst⟩:=hx'
 dsimp only at hi hEc hst ⊢
 rw [hst]
 refine kgo ?_
 refine bo (fun h=>?_) (fun h=>?_)
 rotate_left
 ·rw [pB _ i (by omega)]
  refine kgo ?_
  exact em
 have hlt:i<xs.length:=by omega
 have hlt2:i<ys.length:=by omega
 have f1:=DZ xs[i] ys[i] hab hEc he (hx _ (List.getElem_mem hlt)) (hy _ (List.getElem_mem hlt2))
 have hE2:=hEc.ty xs[i] ys[i] (hy _ (List.getElem_mem hlt2)).1
 rw [uD _ i hlt hlt2] at hst ⊢
 generalize tyE a.edges cur xs[i] ys[i]=q at *
 obtain ⟨q1,q2⟩:=q
 refine kgo ?_
 cases q2
 ·refine kgo ?_
  exact em
 refine kgo ?_
 exact ab (i+1,q1) ⟨hlt,hE2,rfl⟩ (by show _ - (i+1)<_ - i;omega)
theorem Av (a b:Big) (da:qK a) (db:qK b) (ia:a.inner.length≤1000) (ib:b.inner.length≤1000):FnD Tryz.prog 146 [a.D,b.D] (.d (.b (eh a b))):=by
 have f1:=iZ a.outer b.outer
 have f2:=gQ a ia
 have f3:=gQ b ib
 have f4:=iZ (a.inner.map Wr.name) (b.inner.map Wr.name)
 refine ah Tryz.func146 (fun hw W0=>?_)
 unfold eh
 refine kgo ?_
 cases h1:decide (a.roots=b.roots)
 ·refine kgo ?_
  exact ar
 refine kgo ?_
 cases h2:decide (a.edges=b.edges)
 ·refine kgo ?_
  exact ar
 refine kgo ?_
 cases h3:decide ((a.nodes.length:Int)=b.nodes.length)
 ·refine kgo ?_
  exact ar
 refine kgo ?_
 cases h4:decide ((a.sites.length:Int)=b.sites.length)
 ·refine kgo ?_
  exact ar
 refine kgo ?_
 cases h5:eqS a.outer b.outer
 ·refine kgo ?_
  exact ar
 refine kgo ?_
 exact ar
theorem A1 {sig:List Ctl} {a b:Big} (ha:aw sig a=true) (hb:aw sig b=true) (ns:List Int) (m:Nat) (hm:m<b.nodes.length) (hl:ns.length<a.nodes.length):FnD Tryz.prog 218 [a.D,b.D,DI ns,.i m] (.d (.b (qu a b ns m))):=by
 have hup:=gN ha ns.length hl
 have f1:=js ns m
 have f2:=lh (a.nodes[ns.length]).parent ns hup.2
 refine ah Tryz.func218 (fun hw W0=>?_)
 unfold qu
 rw [al a ns.length hl,al b m hm]
 refine kgo ?_
 cases h1:eq ns m
 rotate_left
 ·refine kgo ?_
  exact ar
 refine kgo ?_
 cases h2:decide ((a.nodes[ns.length]).control=(b.nodes[m]).control)
 ·refine kgo ?_
  exact ar
 refine kgo ?_
 exact ar
theorem BH {sig:List Ctl} {a b:Big} (ha:aw sig a=true) (hb:aw sig b=true) (hab:a.edges=b.edges) (hs:a.sites.length=b.sites.length) (hi:a.inner.length=b.inner.length) (ns es:List Int) (hE:kS a.edges es) (hl:ns.length=a.nodes.length):FnD Tryz.prog 217 [a.D,b.D,DI ns,DI es] (.tp [DI (gV a b ns es).1,.b (gV a b ns es).2]):=by
 have h0:=aC ha
 have oa:=cM ha
 refine ah Tryz.func217 (fun hw W0=>?_)
 refine kgo ?_
 refine aj [2,3,4,5] (fun i:Nat=>i≤a.sites.length∧(List.range i).all (kE a b ns)=true) (fun i=>a.sites.length - i) (fun i=>[(10,.sy (.d (.i i)))]) 0 ⟨Nat.zero_le _,rfl⟩ (fun i hx=>?_)
 obtain ⟨hil,hal⟩:=hx
 refine kgo ?_
 refine bo (fun h=>?_) (fun h=>?_)
 ·have hlt:i<a.sites.length:=by omega
  have hlt2:i<b.sites.length:=by omega
  have hp:=yI ha a.sites[i] (List.getElem_mem hlt)
  have f1:=lh a.sites[i] ns (by omega)
  have hat:kE a b ns i=decide (iw ns a.sites[i]=b.sites[i]):=by unfold kE;rw [br _ i hlt,br _ i hlt2]
  refine kgo ?_
  refine kR (fun h2=>?_) (fun h2=>?_)
  ·rw [show gV a b ns es=(es,false) by unfold gV;rw [aK _ _ i hlt (by rw [hat];exact decide_eq_false h2)];rfl]
   refine kgo ?_
   exact em
  ·refine kgo ?_
   exact ab (i+1) ⟨hlt,by rw [cJ,hal,hat,decide_eq_true h2];rfl⟩ (by omega)
 rw [show gV a b ns es=jd a.edges es (a.inner.map Wr.link) (b.inner.map Wr.link) by unfold gV;rw [show a.sites.length=i by omega,hal];rfl]
 refine kgo ?_
 refine aj [3,4,5] (fun i:Nat=>i≤a.inner.length) (fun i=>a.inner.length - i) (fun i=>[(13,.sy (.d (.i i))),(11,.sy (.k 20001)),(20001,.tk (.row 1 3 (((a.inner.map Wr.link).take i).map .i))),(12,.sy (.k 20002)),(20002,.tk (.row 1 3 (((b.inner.map Wr.link).take i).map .i)))]) 0 (Nat.zero_le _) (fun i hx=>?_)
 refine kgo ?_
 refine bo (fun h=>?_) (fun h=>?_)
 ·have hlt:i<a.inner.length:=by omega
  have hlt2:i<b.inner.length:=by omega
  have e1:((a.inner.map Wr.link).take (i+1)).map D.i=((a.inner.map Wr.link).take i).map D.i++[.i (a.inner[i]).link]:=by rw [List.take_succ_eq_append_getElem (by simpa using hlt),List.map_append];simp
  have e2:((b.inner.map Wr.link).take (i+1)).map D.i=((b.inner.map Wr.link).take i).map D.i++[.i (b.inner[i]).link]:=by rw [List.take_succ_eq_append_getElem (by simpa using hlt2),List.map_append];simp
  have l1:((a.inner.map Wr.link).take i).length≤1000:=by rw [List.length_take];omega
  have l2:((b.inner.map Wr.link).take i).length≤1000:=by rw [List.length_take];omega
  refine kgo ?_
  exact ab (i+1) hlt (by omega)
 rw [List.take_of_length_le (by rw [List.length_map];omega),List.take_of_length_le (by rw [List.length_map];omega)]
 have f2:=vq (a:=a) (b:=b) (a.inner.map Wr.link) (b.inner.map Wr.link) hab hE (by omega) (fun x hx=>by have:=EY ha x hx;omega) (fun x hx=>by have:=EY hb x hx;have:=aC hb;omega) (by rw [List.length_map,List.length_map,hi]) (by rw [List.length_map];omega)
 repeat (first|(refine bZ ?_;first|refine aO ?_|refine b9 ?_|refine bf ?_|refine aX ?_|refine aQ ?_|refine aW ?_|refine aV ?_|refine aA ?_|refine bc ?_)|(refine fb ?_;first|refine bO ?_|refine fg ?_|refine bU ?_|refine cd ?_)|(refine fp ?_;first|refine dv (fun _=>?_)|refine ci ?_|refine cr ?_|refine bE ?_|refine bR ?_|refine bX ?_)|(refine ft ?_;first|refine b8 ?_|refine eG ?_|refine ca ?_|refine bI ?_|refine cb ?_|refine b7 ?_)|(refine fx ?_;first|refine fq ?_|refine eZ ?_|refine cm ?_|refine bQ ?_|refine fu ?_|refine aR ?_|refine bd ?_)|(refine bS ?_;first|refine bh ?_|refine bW ?_)|(refine fc ?_;first|refine cf ?_|refine ck ?_|refine fj ?_)|(refine bY ?_;first|refine cg ?_|refine be ?_|refine aZ ?_|refine bj ?_|refine aP ?_|refine aY ?_)|(refine fm ?_;first|refine co ?_|refine eX ?_|refine aU ?_|refine bg ?_)|(refine aS ?_;first|refine av _ ?_|refine ba ?_|refine aB ?_|refine ax ?_|refine az ?_)|(refine ff ?_;first|refine cq ?_|refine bJ ?_|refine cj ?_)|(refine gOp ?_;first|refine fd ?_|refine fa ?_|refine aT ?_|refine fl ?_|refine fh ?_|refine b6 ?_|refine aN ?_|refine bT ?_|refine fw ?_|refine bK ?_|refine ct ?_|refine bk ?_|refine sFz 66 ?_|refine sFz 65 ?_|refine ay ?_|refine ch ?_|refine sNo ?_|refine eS ?_)|refine eA ?_|refine eR ?_|refine fe ?_|refine bl ?_|refine bM ?_|refine bz ?_|refine fC ?_|refine fB ?_|refine fo ?_|refine eH ?_|refine bV ?_|refine bp ?_|refine au ?_|refine bm ?_|refine cw ?_|refine bA ?_|refine aBlkX ?_|refine cy ?_|refine sFz 66 ?_|refine sFz 65 ?_)
 exact em
theorem Ed {α:Type} {l A B t:List α} {m:Nat} (hl:l=A.take m) (h:l.length<m) (ht:t=B.take (m - l.length)):l++t=(A++B).take m:=by
 have h1:A.length<m:=by rw [hl,List.length_take] at h;omega
 have h2:l=A:=by rw [hl,List.take_of_length_le (by omega)]
 rw [ht,h2,List.take_append,List.take_of_length_le (l:=A) (by omega)]
theorem E4 {α:Type} {A C:List α} {m:Nat} (h:¬(A.take m).length<m):(A++C).take m=A.take m:=
 List.take_append_of_le_length (by rw [List.length_take] at h;omega)
def pc (a b:Big) (n:Nat) (ns es:List Int) (m:Nat):List (List Int):=if qu a b ns m && (jd a.edges es (cI a ns.length).links (cI b m).links).2 then ke a b n (ns++[(m:Int)]) (jd a.edges es (cI a ns.length).links (cI b m).links).1 else []
def kq (a b:Big) (n:Nat) (ns es:List Int) (k:Nat):List (List Int):=(List.range k).flatMap (pc a b n ns es)
theorem tZ (a b:Big) (n:Nat) (ns es:List Int) (k:Nat):kq a b n ns es (k+1)=kq a b n ns es k++pc a b n ns es k:=by unfold kq;rw [List.range_succ,List.flatMap_append];simp
theorem vt {α:Type} (f:Nat→List α) (k:Nat):∀j,∃t,(List.range (k+j)).flatMap f=(List.range k).flatMap f++t:=by
 intro j
 induction j with
 | zero=>exact ⟨[],by simp⟩
 | succ j ih=>
  obtain ⟨t,ht⟩:=ih
  rw [show k+(j+1)=k+j+1 by omega,List.range_succ,List.flatMap_append,ht,List.append_assoc]
  exact ⟨_,rfl⟩
theorem w0 {a b:Big} {n:Nat} {ns es:List Int} {k K m:Nat} (hk:k≤K) (h:¬((kq a b n ns es k).take m).length<m):(kq a b n ns es K).take m=(kq a b n ns es k).take m:=by
 obtain ⟨t,ht⟩:=vt (pc a b n ns es) k (K - k)
 rw [show k+(K - k)=K by omega] at ht
 unfold kq at *
 rw [ht,E4 h]
structure Alk (sig:List Ctl) (a b:Big):Prop where
 ha:aw sig a=true
 hb:aw sig b=true
 edges:a.edges=b.edges
 nodes:a.nodes.length=b.nodes.length
 sites:a.sites.length=b.sites.length
 inner:a.inner.length=b.inner.length
theorem Bb {sig:List Ctl} {a b:Big} (H:Alk sig a b):∀(n:Nat) (ns es:List Int) (most:Nat),ns.length+n=a.nodes.length→kS a.edges es→1≤most→most≤50000 →
 FnD Tryz.prog 147 [a.D,b.D,DI ns,DI es,.i most] (.d (.l 1 (((ke a b n ns es).take most).map DI))):=by
 have h0:=aC H.ha
 have g0:=aC H.hb
 intro n
 induction n with
 | zero=>
  intro ns es most hl hE hm hm2
  have f1:=BH H.ha H.hb H.edges H.sites H.inner ns es hE (by omega)
  have f2:=pW ns (by omega)
  have hdef:ke a b 0 ns es=if (gV a b ns es).2 then [ns] else []:=rfl
  refine ah Tryz.func147 (fun hw W0=>?_)
  refine kgo ?_
  refine bo (fun h=>?_) (fun h=>?_)
  rotate_left
  ·omega
  refine kgo ?_
  cases h3:(gV a b ns es).2
  ·rw [show (ke a b 0 ns es).take most = [] by rw [hdef,h3];simp]
   repeat (first|(refine bZ ?_;first|refine aO ?_|refine b9 ?_|refine bf ?_|refine aX ?_|refine aQ ?_|refine aW ?_|refine aV ?_|refine aA ?_|refine bc ?_)|(refine fb ?_;first|refine bO ?_|refine fg ?_|refine bU ?_|refine cd ?_)|(refine fp ?_;first|refine dv (fun _=>?_)|refine ci ?_|refine cr ?_|refine bE ?_|refine bR ?_|refine bX ?_)|(refine ft ?_;first|refine b8 ?_|refine eG ?_|refine ca ?_|refine bI ?_|refine cb ?_|refine b7 ?_)|(refine fx ?_;first|refine fq ?_|refine eZ ?_|refine cm ?_|refine bQ ?_|refine fu ?_|refine aR ?_|refine bd ?_)|(refine bS ?_;first|refine bh ?_|refine bW ?_)|(refine fc ?_;first|refine fA (d:=10) ?_|refine cf ?_|refine ck ?_|refine fj ?_)|(refine bY ?_;first|refine cg ?_|refine be ?_|refine aZ ?_|refine bj ?_|refine aP ?_|refine aY ?_)|(refine fm ?_;first|refine co ?_|refine eX ?_|refine aU ?_|refine bg ?_)|(refine aS ?_;first|refine av _ ?_|refine ba ?_|refine aB ?_|refine ax ?_|refine az ?_)|(refine ff ?_;first|refine cq ?_|refine bJ ?_|refine cj ?_)|(refine gOp ?_;first|refine fd ?_|refine fa ?_|refine aT ?_|refine fl ?_|refine fh ?_|refine b6 ?_|refine aN ?_|refine bT ?_|refine fw ?_|refine bK ?_|refine ct ?_|refine bk ?_|refine ay ?_|refine ch ?_|refine sNo ?_|refine eS ?_)|refine eA ?_|refine eR ?_|refine fe ?_|refine bl ?_|refine bM ?_|refine bz ?_|refine fC ?_|refine fB ?_|refine fo ?_|refine eH ?_|refine bV ?_|refine bp ?_|refine au ?_|refine bm ?_|refine cw ?_|refine bA ?_|refine aBlkX ?_|refine cy ?_)
   exact ar
  ·rw [show (ke a b 0 ns es).take most = [ns] by rw [hdef,h3,if_pos rfl,List.take_of_length_le (by simpa using hm)]]
   repeat (first|(refine bZ ?_;first|refine aO ?_|refine b9 ?_|refine bf ?_|refine aX ?_|refine aQ ?_|refine aW ?_|refine aV ?_|refine aA ?_|refine bc ?_)|(refine fb ?_;first|refine bO ?_|refine fg ?_|refine bU ?_|refine cd ?_)|(refine fp ?_;first|refine dv (fun _=>?_)|refine ci ?_|refine cr ?_|refine bE ?_|refine bR ?_|refine bX ?_)|(refine ft ?_;first|refine b8 ?_|refine eG ?_|refine ca ?_|refine bI ?_|refine cb ?_|refine b7 ?_)|(refine fx ?_;first|refine fq ?_|refine eZ ?_|refine cm ?_|refine bQ ?_|refine fu ?_|refine aR ?_|refine bd ?_)|(refine bS ?_;first|refine bh ?_|refine bW ?_)|(refine fc ?_;first|refine cf ?_|refine ck ?_|refine fj ?_)|(refine bY ?_;first|refine cg ?_|refine be ?_|refine aZ ?_|refine bj ?_|refine aP ?_|refine aY ?_)|(refine fm ?_;first|refine co ?_|refine eX ?_|refine aU ?_|refine bg ?_)|(refine aS ?_;first|refine av _ ?_|refine ba ?_|refine aB ?_|refine ax ?_|refine az ?_)|(refine ff ?_;first|refine cq ?_|refine bJ ?_|refine cj ?_)|(refine gOp ?_;first|refine fd ?_|refine fa ?_|refine aT ?_|refine fl ?_|refine fh ?_|refine b6 ?_|refine aN ?_|refine bT ?_|refine fw ?_|refine bK ?_|refine ct ?_|refine bk ?_|refine sFz 33 ?_|refine ay ?_|refine ch ?_|refine sNo ?_|refine eS ?_)|refine eA ?_|refine eR ?_|refine fe ?_|refine bl ?_|refine bM ?_|refine bz ?_|refine fC ?_|refine fB ?_|refine fo ?_|refine eH ?_|refine bV ?_|refine bp ?_|refine au ?_|refine bm ?_|refine cw ?_|refine bA ?_|refine aBlkX ?_|refine cy ?_|refine sFz 33 ?_)
   exact ar
 | succ n ih=>
  intro ns es most hl hE hm hm2
  have hrl:ns.length<a.nodes.length:=by omega
  have f1:=pW ns (by omega)
  have hall:ke a b (n+1) ns es=kq a b n ns es b.nodes.length:=rfl
  refine ah Tryz.func147 (fun hw W0=>?_)
  refine kgo ?_
  refine bo (fun h=>?_) (fun h=>?_)
  ·omega
  refine kgo ?_
  refine aj [2,3,4,5,6] (fun x:Nat × List (List Int)=>x.1≤b.nodes.length∧x.2=(kq a b n ns es x.1).take most) (fun x=>b.nodes.length - x.1) (fun x=>[(14,.sy (.d (.i x.1))),(13,.sy (.k 20001)),(20001,.tk (.row 1 25 (x.2.map DI)))]) (0,[]) ⟨Nat.zero_le _,by simp [kq]⟩ (fun x hx'=>?_)
  obtain ⟨i,l⟩:=x
  obtain ⟨hi,hxl⟩:=hx'
  dsimp only at hi hxl ⊢
  have hll:l.length≤most:=by rw [hxl,List.length_take];omega
  refine kgo ?_
  cases h1:decide ((i:Int)<b.nodes.length)
  ·have h1:=of_decide_eq_false h1
   obtain rfl:i=b.nodes.length:=by omega
   rw [hall,← hxl]
   repeat (first|(refine bZ ?_;first|refine aO ?_|refine b9 ?_|refine bf ?_|refine aX ?_|refine aQ ?_|refine aW ?_|refine aV ?_|refine aA ?_|refine bc ?_)|(refine fb ?_;first|refine bO ?_|refine fg ?_|refine bU ?_|refine cd ?_)|(refine fp ?_;first|refine dv (fun _=>?_)|refine ci ?_|refine cr ?_|refine bE ?_|refine bR ?_|refine bX ?_)|(refine ft ?_;first|refine b8 ?_|refine eG ?_|refine ca ?_|refine bI ?_|refine cb ?_|refine b7 ?_)|(refine fx ?_;first|refine fq ?_|refine eZ ?_|refine cm ?_|refine bQ ?_|refine fu ?_|refine aR ?_|refine bd ?_)|(refine bS ?_;first|refine bh ?_|refine bW ?_)|(refine fc ?_;first|refine fA (d:=10) ?_|refine cf ?_|refine ck ?_|refine fj ?_)|(refine bY ?_;first|refine cg ?_|refine be ?_|refine aZ ?_|refine bj ?_|refine aP ?_|refine aY ?_)|(refine fm ?_;first|refine co ?_|refine eX ?_|refine aU ?_|refine bg ?_)|(refine aS ?_;first|refine av _ ?_|refine ba ?_|refine aB ?_|refine ax ?_|refine az ?_)|(refine ff ?_;first|refine cq ?_|refine bJ ?_|refine cj ?_)|(refine gOp ?_;first|refine fd ?_|refine fa ?_|refine aT ?_|refine fl ?_|refine fh ?_|refine b6 ?_|refine aN ?_|refine bT ?_|refine fw ?_|refine bK ?_|refine ct ?_|refine bk ?_|refine ay ?_|refine ch ?_|refine sNo ?_|refine eS ?_)|refine eA ?_|refine eR ?_|refine fe ?_|refine bl ?_|refine bM ?_|refine bz ?_|refine fC ?_|refine fB ?_|refine fo ?_|refine eH ?_|refine bV ?_|refine bp ?_|refine au ?_|refine bm ?_|refine cw ?_|refine bA ?_|refine aBlkX ?_|refine cy ?_)
   exact ar
  have h1:=of_decide_eq_true h1
  have hlt:i<b.nodes.length:=by omega
  refine kgo ?_
  refine bo (fun h2=>?_) (fun h2=>?_)
  rotate_left
  ·rw [List.length_map] at h2
   rw [hall,w0 hi (by rw [← hxl];omega),← hxl]
   repeat (first|(refine bZ ?_;first|refine aO ?_|refine b9 ?_|refine bf ?_|refine aX ?_|refine aQ ?_|refine aW ?_|refine aV ?_|refine aA ?_|refine bc ?_)|(refine fb ?_;first|refine bO ?_|refine fg ?_|refine bU ?_|refine cd ?_)|(refine fp ?_;first|refine dv (fun _=>?_)|refine ci ?_|refine cr ?_|refine bE ?_|refine bR ?_|refine bX ?_)|(refine ft ?_;first|refine b8 ?_|refine eG ?_|refine ca ?_|refine bI ?_|refine cb ?_|refine b7 ?_)|(refine fx ?_;first|refine fq ?_|refine eZ ?_|refine cm ?_|refine bQ ?_|refine fu ?_|refine aR ?_|refine bd ?_)|(refine bS ?_;first|refine bh ?_|refine bW ?_)|(refine fc ?_;first|refine fA (d:=10) ?_|refine cf ?_|refine ck ?_|refine fj ?_)|(refine bY ?_;first|refine cg ?_|refine be ?_|refine aZ ?_|refine bj ?_|refine aP ?_|refine aY ?_)|(refine fm ?_;first|refine co ?_|refine eX ?_|refine aU ?_|refine bg ?_)|(refine aS ?_;first|refine av _ ?_|refine ba ?_|refine aB ?_|refine ax ?_|refine az ?_)|(refine ff ?_;first|refine cq ?_|refine bJ ?_|refine cj ?_)|(refine gOp ?_;first|refine fd ?_|refine fa ?_|refine aT ?_|refine fl ?_|refine fh ?_|refine b6 ?_|refine aN ?_|refine bT ?_|refine fw ?_|refine bK ?_|refine ct ?_|refine bk ?_|refine ay ?_|refine ch ?_|refine sNo ?_|refine eS ?_)|refine eA ?_|refine eR ?_|refine fe ?_|refine bl ?_|refine bM ?_|refine bz ?_|refine fC ?_|refine fB ?_|refine fo ?_|refine eH ?_|refine bV ?_|refine bp ?_|refine au ?_|refine bm ?_|refine cw ?_|refine bA ?_|refine aBlkX ?_|refine cy ?_)
   exact ar
  rw [List.length_map] at h2
  have f2:=A1 H.ha H.hb ns i hlt hrl
  have hmore:=fun t=>Ed (B:=pc a b n ns es i) (t:=t) hxl (by omega)
  rw [← tZ] at hmore
  have hat:pc a b n ns es i=if qu a b ns i && (jd a.edges es (a.nodes[ns.length]).links (b.nodes[i]).links).2 then ke a b n (ns++[(i:Int)]) (jd a.edges es (a.nodes[ns.length]).links (b.nodes[i]).links).1 else []:=by unfold pc;rw [al a _ hrl,al b i hlt]
  refine kgo ?_
  cases h3:qu a b ns i
  ·rw [h3] at hat
   have h4:=hmore [] (by rw [hat];simp)
   rw [List.append_nil] at h4
   refine kgo ?_
   exact ab (i+1,l) ⟨hlt,h4⟩ (by show _ - (i+1)<_ - i;omega)
  rw [h3,Bool.true_and] at hat
  have hcl:(a.nodes[ns.length]).links.length=(b.nodes[i]).links.length:=by
   unfold qu at h3
   rw [al a _ hrl,al b i hlt] at h3
   simp only [Bool.and_eq_true,decide_eq_true_eq] at h3
   obtain ⟨_,_,_,e1,_⟩:=dc H.ha _ hrl
   obtain ⟨_,_,_,e2,_⟩:=dc H.hb i hlt
   rw [h3.2.1] at e1;omega
  have f3:=vq (a:=a) (b:=b) (a.nodes[ns.length]).links (b.nodes[i]).links H.edges hE (by omega) (fun x hx=>by have:=C2 H.ha hrl x hx;omega) (fun x hx=>by have:=C2 H.hb hlt x hx;omega) hcl ((bw H.ha).links _ hrl)
  have hE2:=hE.tys (a.nodes[ns.length]).links (b.nodes[i]).links es (fun x hx=>(C2 H.hb hlt x hx).1)
  generalize jd a.edges es (a.nodes[ns.length]).links (b.nodes[i]).links=q at *
  obtain ⟨q1,q2⟩:=q
  refine kgo ?_
  cases q2
  ·have h4:=hmore [] (by rw [hat];simp)
   rw [List.append_nil] at h4
   refine kgo ?_
   exact ab (i+1,l) ⟨hlt,h4⟩ (by show _ - (i+1)<_ - i;omega)
  have f4:=ih (ns++[(i:Int)]) q1 (most - l.length) (by rw [List.length_append,List.length_singleton];omega) hE2 (by omega) (by omega)
  have hml:(List.map DI l).length=l.length:=List.length_map ..
  rw [show ((most - l.length:Nat):Int)=(most:Int) - (List.map DI l).length by omega] at f4
  rw [show DI (ns++[(i:Int)])=D.l 1 (ns.map D.i++[D.i i]) from congrArg (D.l 1) List.map_append] at f4
  have hm2':=hmore _ (by rw [hat])
  have hlen:((ke a b n (ns++[(i:Int)]) q1).take (most - l.length)).length≤50000:=by rw [List.length_take];omega
  repeat (first|(refine bZ ?_;first|refine aO ?_|refine b9 ?_|refine bf ?_|refine aX ?_|refine aQ ?_|refine aW ?_|refine aV ?_|refine aA ?_|refine bc ?_)|(refine fb ?_;first|refine bO ?_|refine fg ?_|refine bU ?_|refine cd ?_)|(refine fp ?_;first|refine dv (fun _=>?_)|refine ci ?_|refine cr ?_|refine bE ?_|refine bR ?_|refine bX ?_)|(refine ft ?_;first|refine b8 ?_|refine eG ?_|refine ca ?_|refine bI ?_|refine cb ?_|refine b7 ?_)|(refine fx ?_;first|refine fq ?_|refine eZ ?_|refine cm ?_|refine bQ ?_|refine fu ?_|refine aR ?_|refine bd ?_)|(refine bS ?_;first|refine bh ?_|refine bW ?_)|(refine fc ?_;first|refine cf ?_|refine ck ?_|refine fj ?_)|(refine bY ?_;first|refine cg ?_|refine be ?_|refine aZ ?_|refine bj ?_|refine aP ?_|refine aY ?_)|(refine fm ?_;first|refine co ?_|refine eX ?_|refine aU ?_|refine bg ?_)|(refine aS ?_;first|refine av _ ?_|refine ba ?_|refine aB ?_|refine ax ?_|refine az ?_)|(refine ff ?_;first|refine cq ?_|refine bJ ?_|refine cj ?_)|(refine gOp ?_;first|refine fd ?_|refine fa ?_|refine aT ?_|refine fl ?_|refine fh ?_|refine b6 ?_|refine aN ?_|refine bT ?_|refine fw ?_|refine bK ?_|refine ct ?_|refine bk ?_|refine sFz 84 ?_|refine ay ?_|refine ch ?_|refine sNo ?_|refine eS ?_)|refine eA ?_|refine eR ?_|refine fe ?_|refine bl ?_|refine bM ?_|refine bz ?_|refine fC ?_|refine fB ?_|refine fo ?_|refine eH ?_|refine bV ?_|refine bp ?_|refine au ?_|refine bm ?_|refine cw ?_|refine bA ?_|refine aBlkX ?_|refine cy ?_|refine sFz 84 ?_)
  exact ab (i+1,l++(ke a b n (ns++[(i:Int)]) q1).take (most - l.length)) ⟨hlt,hm2'⟩ (by show _ - (i+1)<_ - i;omega)
def uI (a b:Big):List (List Int):=if eh a b then (ke a b a.nodes.length [] (List.replicate a.edges.toNat (-1))).take 1 else []
theorem FA {x y:List ByteArray} (h:eqS x y=true):x.length=y.length:=by
 unfold eqS at h
 exact of_decide_eq_true (Bool.and_eq_true_iff.1 h).1
theorem Ff {sig:List Ctl} {a b:Big} (ha:aw sig a=true) (hb:aw sig b=true) (h:eh a b=true):Alk sig a b:=by
 unfold eh at h
 simp only [Bool.and_eq_true,decide_eq_true_eq] at h
 obtain ⟨_,h2,h3,h4,_,h5⟩:=h
 have:=FA h5
 rw [List.length_map,List.length_map] at this
 exact ⟨ha,hb,h2,by omega,by omega,this⟩
theorem zw {sig:List Ctl} {a b:Big} (ha:aw sig a=true) (hb:aw sig b=true):FnD Tryz.prog 94 [a.D,b.D] (.d (.l 1 ((uI a b).map DI))):=by
 have h0:=aC ha
 have g0:=aC hb
 have f1:=Av a b (bw ha) (bw hb) (by omega) (by omega)
 have f2:=Bl a.edges (by omega)
 refine ah Tryz.func94 (fun hw W0=>?_)
 unfold uI
 refine kgo ?_
 cases h1:eh a b
 ·repeat (first|(refine bZ ?_;first|refine aO ?_|refine b9 ?_|refine bf ?_|refine aX ?_|refine aQ ?_|refine aW ?_|refine aV ?_|refine aA ?_|refine bc ?_)|(refine fb ?_;first|refine bO ?_|refine fg ?_|refine bU ?_|refine cd ?_)|(refine fp ?_;first|refine dv (fun _=>?_)|refine ci ?_|refine cr ?_|refine bE ?_|refine bR ?_|refine bX ?_)|(refine ft ?_;first|refine b8 ?_|refine eG ?_|refine ca ?_|refine bI ?_|refine cb ?_|refine b7 ?_)|(refine fx ?_;first|refine fq ?_|refine eZ ?_|refine cm ?_|refine bQ ?_|refine fu ?_|refine aR ?_|refine bd ?_)|(refine bS ?_;first|refine bh ?_|refine bW ?_)|(refine fc ?_;first|refine fA (d:=4) ?_|refine cf ?_|refine ck ?_|refine fj ?_)|(refine bY ?_;first|refine cg ?_|refine be ?_|refine aZ ?_|refine bj ?_|refine aP ?_|refine aY ?_)|(refine fm ?_;first|refine co ?_|refine eX ?_|refine aU ?_|refine bg ?_)|(refine aS ?_;first|refine av _ ?_|refine ba ?_|refine aB ?_|refine ax ?_|refine az ?_)|(refine ff ?_;first|refine cq ?_|refine bJ ?_|refine cj ?_)|(refine gOp ?_;first|refine fd ?_|refine fa ?_|refine aT ?_|refine fl ?_|refine fh ?_|refine b6 ?_|refine aN ?_|refine bT ?_|refine fw ?_|refine bK ?_|refine ct ?_|refine bk ?_|refine ay ?_|refine ch ?_|refine sNo ?_|refine eS ?_)|refine eA ?_|refine eR ?_|refine fe ?_|refine bl ?_|refine bM ?_|refine bz ?_|refine fC ?_|refine fB ?_|refine fo ?_|refine eH ?_|refine bV ?_|refine bp ?_|refine au ?_|refine bm ?_|refine cw ?_|refine bA ?_|refine aBlkX ?_|refine cy ?_)
  exact ar
 have f3:=Bb (Ff ha hb h1) a.nodes.length [] (List.replicate a.edges.toNat (-1)) 1 (by simp) (kS.none _ (by omega)) (Nat.le_refl _) (by omega)
 repeat (first|(refine bZ ?_;first|refine aO ?_|refine b9 ?_|refine bf ?_|refine aX ?_|refine aQ ?_|refine aW ?_|refine aV ?_|refine aA ?_|refine bc ?_)|(refine fb ?_;first|refine bO ?_|refine fg ?_|refine bU ?_|refine cd ?_)|(refine fp ?_;first|refine dv (fun _=>?_)|refine ci ?_|refine cr ?_|refine bE ?_|refine bR ?_|refine bX ?_)|(refine ft ?_;first|refine b8 ?_|refine eG ?_|refine ca ?_|refine bI ?_|refine cb ?_|refine b7 ?_)|(refine fx ?_;first|refine fq ?_|refine eZ ?_|refine cm ?_|refine bQ ?_|refine fu ?_|refine aR ?_|refine bd ?_)|(refine bS ?_;first|refine bh ?_|refine bW ?_)|(refine fc ?_;first|refine fA (d:=4) ?_|refine cf ?_|refine ck ?_|refine fj ?_)|(refine bY ?_;first|refine cg ?_|refine be ?_|refine aZ ?_|refine bj ?_|refine aP ?_|refine aY ?_)|(refine fm ?_;first|refine co ?_|refine eX ?_|refine aU ?_|refine bg ?_)|(refine aS ?_;first|refine av _ ?_|refine ba ?_|refine aB ?_|refine ax ?_|refine az ?_)|(refine ff ?_;first|refine cq ?_|refine bJ ?_|refine cj ?_)|(refine gOp ?_;first|refine fd ?_|refine fa ?_|refine aT ?_|refine fl ?_|refine fh ?_|refine b6 ?_|refine aN ?_|refine bT ?_|refine fw ?_|refine bK ?_|refine ct ?_|refine bk ?_|refine sFz 12 ?_|refine sFz 15 ?_|refine ay ?_|refine ch ?_|refine sNo ?_|refine eS ?_)|refine eA ?_|refine eR ?_|refine fe ?_|refine bl ?_|refine bM ?_|refine bz ?_|refine fC ?_|refine fB ?_|refine fo ?_|refine eH ?_|refine bV ?_|refine bp ?_|refine au ?_|refine bm ?_|refine cw ?_|refine bA ?_|refine aBlkX ?_|refine cy ?_|refine sFz 12 ?_|refine sFz 15 ?_)
 exact ar
theorem wG (a b:Big):xR a b=decide (0<((uI a b).length:Int)):=by
 unfold xR uI
 cases eh a b
 ·rfl
 ·rw [Bool.true_and,if_pos rfl]
  cases ke a b a.nodes.length [] (List.replicate a.edges.toNat (-1)) with
  | nil=>rfl
  | cons x t=>rfl
theorem Es {sig:List Ctl} {a b:Big} (ha:aw sig a=true) (hb:aw sig b=true):FnD Tryz.prog 40 [a.D,b.D] (.d (.b (xR a b))):=by
 have f1:=zw ha hb
 refine ah Tryz.func40 (fun hw W0=>?_)
 rw [wG]
 refine kgo ?_
 exact ar
end Go.Proofs.YtacafmejcdgboaaGreatDoor
