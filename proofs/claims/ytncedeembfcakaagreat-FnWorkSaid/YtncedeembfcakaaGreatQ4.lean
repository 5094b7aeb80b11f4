/-
  PROVED: general facts on pure values, contracts of functions, steps of programs and loops over lists, over any program. No condition beyond those that each theorem names.
-/
import Derived.Shelf.SlSortCmp.InsertionK
import Derived.Test.YtncedeembfcakaaGreatQ3
namespace Go.Px
set_option linter.unusedSimpArgs false
set_option linter.unusedVariables false
section
variable {P:Program}{N:Nat}{w0:Base P}{pub0:Nat→Nat→Prop}{all:Array Oper}{k:List Item}{Q:St→Prop}
def heirs (all:Array Oper)(i:Nat):List Nat:=
 (List.range all.size).foldl (fun D j=>bif ((all[j]?).map fun o=>o.after.any fun e=>Region.binds .any e && (Nat.beq e.on i || D.contains e.on)).getD false then j::D else D) []
def D1z (all:Array Oper)(i:Nat)(listed:Array Bool)(D:List Nat):Bool:=
 D.all fun j=>!(listed.getD j true) && ((all[j]?).map fun o=>o.after.any fun e=>Region.binds .any e && (Nat.beq e.on i || D.contains e.on)).getD false
def Z0r (all:Array Oper)(i:Nat)(listed:Array Bool)(D:List Nat):Prop:=
 ∀ d∈D,listed.getD d true=false∧∃ o,all[d]? = some o∧∃ e∈o.after,Region.binds .any e=true∧(e.on=i∨e.on∈D)
theorem A1i {i:Nat}{listed:Array Bool}{D:List Nat}(h:D1z all i listed D=true):Z0r all i listed D:=fun d hd=>by
 have h1:=List.all_eq_true.1 h d hd
 simp only [Bool.and_eq_true,Bool.not_eq_true'] at h1
 refine ⟨h1.1,?_⟩
 cases ho:all[d]? with
 | none=>rw [ho] at h1;simp at h1
 | some o=>
  rw [ho] at h1
  simp only [Option.map_some,Option.getD_some,Array.any_eq_true,Bool.and_eq_true,Bool.or_eq_true] at h1
  obtain ⟨x,hx,hb,he⟩:=h1.2
  refine ⟨o,rfl,_,Array.getElem_mem hx,hb,?_⟩
  rcases he with he | he
  ·exact .inl (Nat.eq_of_beq_eq_true he)
  exact .inr (by simpa using he)
theorem AAny.first2 {F:Nat→Foot}{K:St→Prop}{i:Nat}{oi:Oper}{D:List Nat}(hi:all[i]? = some oi):∀(fuel:Nat)(listed:Array Bool)(s s1:St),
  Z0r all i listed D →
  (∀ j oj,all[j]? = some oj→j≠i→listed.getD j true=false→(∀ e∈oj.after,Region.binds .any e=true→e.on≠i)→j∉D→oi.apart all oj=true∧disjB (F i) (F j)=true) →
  i∈Region.ready .any all listed→AStep P N all (F i) oi s s1→AAny P N all F K fuel (listed.setIfInBounds i true) s1→AAny P N all F K (fuel+1) listed s:=by
 intro fuel
 induction fuel with
 | zero=>
  intro listed s s1 _ _ hr hy H
  refine ⟨fun h=>(by rw [h] at hr;cases hr),fun j hj=>?_⟩
  by_cases hji:j=i
  ·subst hji;exact ⟨oi,s1,hi,hy,H⟩
  have:=ready_mono hj hji
  rw [H.1] at this
  cases this
 | succ fuel ih=>
  intro listed s s1 hD hfree hr hy H
  refine ⟨fun h=>(by rw [h] at hr;cases hr),fun j hj=>?_⟩
  by_cases hji:j=i
  ·subst hji;exact ⟨oi,s1,hi,hy,H⟩
  obtain ⟨oj,s2,hoj,hs2,H2⟩:=H.2 j (ready_mono hj hji)
  obtain ⟨hjun,oj',hoj',hall⟩:=mem_ready.1 hj
  rw [hoj] at hoj';cases hoj'
  have hunl:∀ q,listed.getD q true=false→∀ e∈oj.after,Region.binds .any e=true→e.on≠q:=fun q h0 e he hb heq=>by
   have h1:=hall e he hb
   rw [heq] at h1
   rcases Nat.lt_or_ge q listed.size with h' | h'
   ·simp [h'] at h0 h1;rw [h0] at h1;cases h1
   simp [Array.getElem?_eq_none h'] at h1
  have hnot:∀ e∈oj.after,Region.binds .any e=true→e.on≠i:=hunl i (mem_ready.1 hr).1
  have hjD:j∉D:=fun hmem=>by
   obtain ⟨_,o,ho,e,he,hb,hc⟩:=hD j hmem
   rw [hoj] at ho;cases ho
   rcases hc with hc | hc
   ·exact hnot e he hb hc
   exact hunl e.on (hD e.on hc).1 e he hb rfl
  obtain ⟨ha,hd⟩:=hfree j oj hoj hji hjun hnot hjD
  obtain ⟨s',hj',hi'⟩:=AStep.swap ha hd hy hs2
  have hun2:∀ q,q≠j→listed.getD q true=false→(listed.setIfInBounds j true).getD q true=false:=fun q hq h=>by
   rw [getD_set_ne true (fun e=>hq e.symm)];exact h
  have hD':Z0r all i (listed.setIfInBounds j true) D:=fun d hd=>by
   obtain ⟨h1,h2⟩:=hD d hd
   exact ⟨hun2 d (fun e=>hjD (e ▸ hd)) h1,h2⟩
  have hfree':∀ k ok,all[k]? = some ok→k≠i→(listed.setIfInBounds j true).getD k true=false→(∀ e∈ok.after,Region.binds .any e=true→e.on≠i)→k∉D→oi.apart all ok=true∧disjB (F i) (F k)=true:=fun k ok hk hki hun hno hkD=>by
   refine hfree k ok hk hki ?_ hno hkD
   by_cases hjk:j=k
   ·subst hjk;exact hjun
   rw [getD_set_ne true hjk] at hun;exact hun
  refine ⟨oj,s',hoj,hj',ih (listed.setIfInBounds j true) s' s2 hD' hfree' (ready_mono hr (Ne.symm hji)) hi' ?_⟩
  rw [Array.setIfInBounds_comm _ _ hji]
  exact H2
def T0c (all:Array Oper)(F:Nat→Foot):Nat→Nat→Array Bool→Bool
 | 0,_,_=>true
 | fuel+1,k,listed=>
  D1z all k listed (heirs all k) && ((List.range all.size).all fun j=>j == k || listed.getD j true || (heirs all k).contains j || disjB (F k) (F j)) && T0c all F fuel (k+1) (listed.setIfInBounds k true)
theorem AAny.lex2 {F:Nat→Foot}{K:St→Prop}:∀(l:List Oper)(i:Nat)(listed:Array Bool)(s:St),(∀ j,l[j]? = all[i+j]?)→Region.lexFrom .any all l.length i listed=true→T0c all F l.length i listed=true→SLx P N all F i l s K→AAny P N all F K l.length listed s
 | [],_,_,s,_,hB,_,h=>⟨by simpa [Region.lexFrom] using hB,h⟩
 | o::l,i,listed,s,hl,hB,hF,h=>by
  have h0:all[i]? = some o:=by simpa using (hl 0).symm
  simp only [List.length_cons,Region.lexFrom,Bool.and_eq_true] at hB
  simp only [List.length_cons,T0c,Bool.and_eq_true,List.all_eq_true] at hF
  obtain ⟨⟨hr,hf⟩,hB'⟩:=hB
  obtain ⟨s',hs,hK⟩:=h
  refine AAny.first2 (D:=heirs all i) h0 l.length listed s s' (A1i hF.1.1) (fun j oj hj hji hun hno hjD=>⟨Region.free_spec h0 hf j oj hj hji hun hno,?_⟩) (by simpa using hr) hs
   (AAny.lex2 l (i+1) _ _ (fun j=>by have:=hl (j+1);simpa [Nat.add_assoc,Nat.add_comm 1 j] using this) hB' hF.2 hK)
  have hlt:j<all.size:=(Array.getElem?_eq_some_iff.1 hj).1
  have:=hF.1.2 j (List.mem_range.2 hlt)
  simp only [Bool.or_eq_true,beq_iff_eq] at this
  rcases this with ((h1 | h1) | h1) | h1
  ·exact absurd h1 hji
  ·rw [hun] at h1;cases h1
  ·exact absurd (by simpa using h1) hjD
  exact h1
theorem Run.draw2 {id:Nat}{l:List Oper}{s:St}(F:Nat→Foot)(hm:P.follows .mixedOrders=true)(hB:Region.lexB .any l.toArray=true)(hF:T0c l.toArray F l.length 0 (Array.replicate l.length false)=true)
  (h:SLx P N l.toArray F 0 l s (Run P N Q k)):Run P N Q (.code (.region id l.toArray true)::k) s:=fun w0 pub0 a w hR=>by
 simp only [Region.lexB,Bool.and_eq_true] at hB
 refine wp_region_any hm ?_
 obtain ⟨pub,V,c1,c2,hrel⟩:=hR
 have hR':Rel N w0 pub0 s a { w with drawn:=w.drawn+1 }:=⟨pub,V,c1,c2,hrel.world ((E0f.refl _ _).drew)⟩
 refine AAny.sound (F:=F) (K:=Run P N Q k) (fun s a w hs hR=>hs w0 pub0 a w hR) _ _ s a _ ?_ hR'
 have:=AAny.lex2 (all:=l.toArray) l 0 (Array.replicate l.length false) s (by simp) (by simpa using hB.2) hF h
 simpa using this
end
end Go.Px
namespace Go.Px
set_option linter.unusedSimpArgs false
set_option linter.unusedVariables false
open Go.RowKit Go.Proofs Go.Sort
end Go.Px
namespace Go.Px
set_option linter.unusedSimpArgs false
set_option linter.unusedVariables false
open Go.RowKit Go.Sort Go.Proofs
section
variable {pub:Nat→Nat→Prop}{w w':World}{V:Nat→Value}{m:Nat→PV}{B:Nat→Prop}{v:Value}{e k:Nat}
end
def F1e {α:Type}(cf:α→α→Int)(zs:List α):Option (List α):=if zs.length<4611686018427387904 then some (zs.mergeSort fun x y=>!decide (cf y x<0)) else none
end Go.Px
namespace Go.Px
set_option linter.unusedSimpArgs false
set_option linter.unusedVariables false
open Go.RowKit
inductive Q0f (M:List (Nat×PV)):List PV→List PV→List Nat→Prop where
 | nil:Q0f M [] [] []
 | lit (u:Value) (cs qs:List PV) (G:List Nat) (h:Q0f M cs qs G):Q0f M (.lit u::cs) (.lit u::qs) G
 | nils (cs qs:List PV) (G:List Nat) (h:Q0f M cs qs G):Q0f M (.nils::cs) (.nils::qs) G
 | own (m k e sz:Nat) (l cs qs:List PV) (G:List Nat) (hm:look M m=some (.obj true e sz l)) (hk:k=l.length) (hl:∀ c∈flat l,litC c) (hn:m∉G) (h:Q0f M cs qs G):Q0f M (.own m k::cs) (.obj true e sz l::qs) (m::G)
theorem Q0f.length {M:List (Nat×PV)}{cs qs:List PV}{G:List Nat}(h:Q0f M cs qs G):qs.length=cs.length:=by
 induction h <;> simp_all
def hOf:PV→Value→Value
 | .obj _ _ _ _,v=>v
 | _,_=>Go.undef
section
variable {P:Program}{N:Nat}{w0:Base P}{w w':World}{pub pub':Nat→Nat→Prop}{V:Nat→Value}{s:St}{a:Act}{S M S' M':List (Nat×PV)}
theorem MemOk.rowOk {B:Nat→Prop}{m:Nat→PV}{v:Value}{e sz:Nat}{l:List PV}(h:MemOk pub w V m B v (.obj true e sz l))(hl:∀ c∈flat l,litC c):RowOk w B v e sz l:=by
 cases h with
 | obj _ _ _ _ xs hsz hmx hll how hp hq hc=>
  refine ⟨xs,hsz,hmx,hll,how,fun i c hi=>?_⟩
  have h1:=hl c (List.mem_of_getElem? hi)
  obtain ⟨h2,h3⟩:=hc i c hi
  cases c with
  | lit x=>cases h3 with | lit _ h4=>exact ⟨_,rfl,h4,rfl⟩
  | _=>exact h1.elim
theorem Q0f.ok (hR:Rel0 N w0 pub V (St.of S M) a w){cs qs:List PV}{G:List Nat}(h:Q0f M cs qs G):∀(vs:List Value),vs.length=cs.length→(∀(j:Nat) c v,cs[j]? = some c→vs[j]? = some v→RV pub w V (St.of S M).mem c v) →
  (∀(j:Nat) q v,qs[j]? = some q→vs[j]? = some v→TCell w w0.O q v (hOf q v)∧v.oneCell'=true)∧((List.zipWith hOf qs vs).flatMap fun u=>u.ownBlock.toList).Nodup ∧
  ∀ g∈(List.zipWith hOf qs vs).flatMap fun u=>u.ownBlock.toList,∃ m∈G,(St.of S M).mem m≠.undef∧inB (V m) g∧∀ o,¬ pub g o:=by
 induction h with
 | nil=>intro vs hv _;exact ⟨fun j q v h=>by simp at h,by simp,fun g hg=>by simp at hg⟩
 | lit u cs qs G _ ih=>
  intro vs hv hrv
  match vs,hv with
  | v::vs,hv=>
   obtain ⟨h1,h2,h3⟩:=ih vs (by simpa using hv) (fun j c v a1 a2=>hrv (j+1) c v (by simpa using a1) (by simpa using a2))
   have h0:=(hrv 0 _ v rfl rfl).lit_inv
   refine ⟨fun j q x a1 a2=>?_,by rw [List.zipWith_cons_cons,List.flatMap_cons];exact h2,fun g hg=>h3 g (by rw [List.zipWith_cons_cons,List.flatMap_cons] at hg;exact hg)⟩
   cases j with
   | zero=>
    simp at a1 a2;subst a1;subst a2
    exact ⟨.inl ⟨by rw [h0.1],by rw [h0.1];exact h0.2,rfl⟩,by rw [h0.1];exact h0.2⟩
   | succ j=>exact h1 j q x (by simpa using a1) (by simpa using a2)
 | nils cs qs G _ ih=>
  intro vs hv hrv
  match vs,hv with
  | v::vs,hv=>
   obtain ⟨h1,h2,h3⟩:=ih vs (by simpa using hv) (fun j c v a1 a2=>hrv (j+1) c v (by simpa using a1) (by simpa using a2))
   have h0:=(hrv 0 _ v rfl rfl).nils_inv
   refine ⟨fun j q x a1 a2=>?_,by rw [List.zipWith_cons_cons,List.flatMap_cons];exact h2,fun g hg=>h3 g (by rw [List.zipWith_cons_cons,List.flatMap_cons] at hg;exact hg)⟩
   cases j with
   | zero=>
    simp at a1 a2;subst a1;subst a2
    exact ⟨.inr (.inl ⟨rfl,h0,rfl⟩),by rw [h0];rfl⟩
   | succ j=>exact h1 j q x (by simpa using a1) (by simpa using a2)
 | own m k e sz l cs qs G hm hk hl hn _ ih=>
  intro vs hv hrv
  match vs,hv with
  | v::vs,hv=>
   obtain ⟨h1,h2,h3⟩:=ih vs (by simpa using hv) (fun j c v a1 a2=>hrv (j+1) c v (by simpa using a1) (by simpa using a2))
   obtain ⟨x',e',sz',l',hm',_,hv'⟩:=(hrv 0 _ v rfl rfl).own_inv (by intro eg;first | (rw [hm] at eg;cases eg;done) | (rw [A0h hm] at eg;cases eg;done) | (rw [hk] at eg;cases eg;done) | (simp_all;done))
   rw [A0h hm] at hm';cases hm'
   have hvV:=hv' hk
   have hmn:=hR.mem m
   rw [A0h hm,← hvV] at hmn
   have hne:(St.of S M).mem m≠.undef:=by rw [A0h hm];intro e;cases e
   have hob:=hmn.obj_block
   have hinB:∀ g,v.ownBlock=some g→inB (V m) g:=fun g hg=>.inl (by rw [← hvV,hob.1];exact hg)
   have hnp:∀ g o,v.ownBlock=some g→¬ pub g o:=fun g o hg=>hmn.excl (.inl ⟨_,_,_,rfl⟩) (.inl (by rw [hob.1];exact hg))
   refine ⟨fun j q x a1 a2=>?_,?_,fun g hg=>?_⟩
   ·cases j with
    | zero=>
     simp at a1 a2;subst a1;subst a2
     exact ⟨.inr (.inr ⟨e,sz,l,rfl,rfl,hmn.rowOk hl⟩),hmn.slice_val.1⟩
    | succ j=>exact h1 j q x (by simpa using a1) (by simpa using a2)
   ·rw [List.zipWith_cons_cons,List.flatMap_cons]
    refine List.nodup_append.2 ⟨by show (v.ownBlock.toList).Nodup;cases v.ownBlock <;> simp,h2,fun g1 hg1 g2 hg2 e=>?_⟩
    subst e
    obtain ⟨m2,hm2,hu2,hb2,_⟩:=h3 g1 hg2
    have hg1':v.ownBlock=some g1:=by simpa [hOf] using hg1
    have:=hR.apart m m2 g1 hne hu2 (hinB g1 hg1') hb2
    subst this
    exact hn hm2
   rw [List.zipWith_cons_cons,List.flatMap_cons,List.mem_append] at hg
   rcases hg with hg | hg
   ·have hg':v.ownBlock=some g:=by simpa [hOf] using hg
    exact ⟨m,List.mem_cons_self ..,hne,hinB g hg',fun o=>hnp g o hg'⟩
   obtain ⟨m2,hm2,r⟩:=h3 g hg
   exact ⟨m2,List.mem_cons_of_mem _ hm2,r⟩
end
section
variable {P:Program}{N:Nat}{Q:St→Prop}{k:List Item}{S M S' M':List (Nat×PV)}{all:Array Oper}{rest:List Oper}{d:Nat}{ty:TypeId}{pos:String}{after:Array Edge}
end
end Go.Px
namespace Go.Px
set_option linter.unusedSimpArgs false
set_option linter.unusedVariables false
open Go.RowKit
section
variable {P:Program}{N:Nat}{Q:St→Prop}{k:List Item}{S M S' M':List (Nat×PV)}{all:Array Oper}{rest:List Oper}{d:Nat}{ty:TypeId}{pos:String}{after:Array Edge}
end
end Go.Px
namespace Go.Px
set_option linter.unusedSimpArgs false
set_option linter.unusedVariables false
open Go.RowKit
section
variable {P:Program}{N:Nat}{w0:Base P}{w w':World}{pub pub':Nat→Nat→Prop}{V:Nat→Value}{s:St}{a:Act}
end
section
variable {P:Program}{N:Nat}{Q:St→Prop}{k:List Item}{S M S' M':List (Nat×PV)}{all:Array Oper}{rest:List Oper}{d:Nat}{ty:TypeId}{pos:String}{after:Array Edge}
end
end Go.Px
namespace Go.Px
set_option linter.unusedSimpArgs false
set_option linter.unusedVariables false
open Go.RowKit
theorem Y0t {w:World}{g q T:Nat}{cur:Array Value}{fr:Nat×Nat}{v:Value}(hh:w.heap[g]? = some (.cells cur T fr)):(w.setCell ⟨g,q,none⟩ v).heap[g]? = some (.cells (cur.setIfInBounds q v) T fr):=by
 simp [World.setCell,Array.getElem?_modify,hh]
section
variable {w w':World}{pub pub':Nat→Nat→Prop}{V:Nat→Value}{m:Nat→PV}{B:Nat→Prop}
end
section
variable {P:Program}{N:Nat}{Q:St→Prop}{k:List Item}{S M S' M':List (Nat×PV)}{all:Array Oper}{rest:List Oper}{d:Nat}{ty:TypeId}{pos:String}{after:Array Edge}
end
end Go.Px
namespace Go.Px
set_option linter.unusedSimpArgs false
set_option linter.unusedVariables false
open Go.RowKit
section
variable {P:Program}{N:Nat}{Q:St→Prop}{k:List Item}{S M:List (Nat×PV)}
end
def relT1 (n j:Nat):PV→PV
 | .tref m k .out=>bif Nat.beq m n then .tref m j .out else .tref m k .out
 | p=>p
def relT (n j:Nat)(S:List (Nat×PV)):List (Nat×PV):=S.map fun q=>(q.1,relT1 n j q.2)
def E1z (n:Nat):PV→List Nat
 | .tref m k .out=>bif Nat.beq m n then [k] else []
 | _=>[]
def lensT (n:Nat)(S:List (Nat×PV)):List Nat:=S.flatMap fun q=>E1z n q.2
def C1c (j:Nat):List Nat→Prop
 | []=>True
 | k::ks=>k=j∧C1c j ks
theorem C1c.mem {j:Nat}:∀{ks:List Nat},C1c j ks→∀ k∈ks,k=j
 | [],_,k,hk=>by cases hk
 | x::ks,h,k,hk=>by
  rcases List.mem_cons.1 hk with e | e
  ·rw [e];exact h.1
  exact h.2.mem k e
section
variable {P:Program}{N:Nat}{S M:List (Nat×PV)}{all:Array Oper}{F:Nat→Foot}{i:Nat}{rest:List Oper}{K:St→Prop}{d:Nat}{ty:TypeId}{pos:String}{after:Array Edge}
end
section
variable {P:Program}{N:Nat}{Q:St→Prop}{k:List Item}{S M:List (Nat×PV)}{all:Array Oper}{rest:List Oper}{d:Nat}{ty:TypeId}{pos:String}{after:Array Edge}
end
end Go.Px
namespace Go.Px
set_option linter.unusedSimpArgs false
set_option linter.unusedVariables false
open Go.RowKit
section
variable {w w':World}{pub pub':Nat→Nat→Prop}{V:Nat→Value}{m:Nat→PV}{B:Nat→Prop}
theorem RowOk.cell {u:Value}{e sz:Nat}{l:List PV}(h:RowOk w B u e sz l){i:Nat}{x:Value}(hi:(flat l)[i]? = some (.lit x)) :
  ∃ g cap,u=.slice (some ⟨g,0,none⟩) l.length cap∧w.cell? ⟨g,i,none⟩=some x∧x.oneCell'=true∧w.frozen? ⟨g,i,none⟩=false:=by
 obtain ⟨ys,hsz,hmx,hl,how,hc⟩:=h
 have hfl:=D0e hl
 have hil:i<(flat l).length:=(List.getElem?_eq_some_iff.1 hi).1
 have hpos:0<l.length:=by
  rcases Nat.eq_zero_or_pos l.length with h | h
  ·rw [h] at hfl;omega
  exact h
 obtain ⟨g,cap,cur,k1,_,⟨fr,k2,hfr⟩,k3,k4,k5,k6⟩:=how.1.2.resolve_left (fun h=>by have:=h.2;omega)
 have hxs:=how.1.1
 have hlt2:i<l.length*sz:=by omega
 have h7:cur.toList[i]? = ys[i]?:=by rw [← k6,List.getElem?_take_of_lt hlt2]
 have hcl:w.cell? ⟨g,i,none⟩=some (ys.getD i Go.undef):=by
  simp only [World.cell?,k2,Option.isSome_none,Bool.false_eq_true,if_false]
  rw [← Array.getElem?_toList,h7]
  have:i<ys.length:=by omega
  simp [this]
 obtain ⟨x',e1,e2,e3⟩:=hc i _ hi
 cases e1
 refine ⟨g,cap,k1,by rw [hcl,e3],e2,Q0o k2 hfr ?_⟩
 have hle:l.length*sz≤cap*sz:=Nat.mul_le_mul_right _ k3
 omega
theorem RowOk.set {u u1:Value}{e sz g cap i:Nat}{l l2:List PV}(h:RowOk w B u e sz l)(hu:u=.slice (some ⟨g,0,none⟩) l.length cap)(hi:i<(flat l).length)(h1:u1.oneCell'=true)(hlen:l2.length=l.length)(hl2:∀ p∈l2,p.cells.length=sz)(hfl:flat l2=(flat l).set i (.lit u1)) :
  RowOk (w.setCell ⟨g,i,none⟩ u1) B u e sz l2:=by
 obtain ⟨ys,hsz,hmx,hl,how,hc⟩:=h
 have hfll:=D0e hl
 rcases how.1.2 with ⟨k1,k2⟩ | ⟨g',cap',cur,k1,k0,⟨fr,k2,hfr⟩,k3,k4,k5,k6⟩
 ·rw [hu] at k1;cases k1
 rw [hu] at k1
 simp only [Value.slice.injEq,Option.some.injEq,Addr.mk.injEq,and_true,true_and] at k1
 obtain ⟨rfl,rfl⟩:=k1
 have hxs:=how.1.1
 refine ⟨ys.set i u1,hsz,by omega,hl2,⟨⟨by rw [List.length_set,hlen];exact hxs,.inr ⟨g,cap,_,by rw [hlen];exact hu,k0,⟨fr,Y0t k2,hfr.size (by simp)⟩,by omega,k4,by simpa using k5,?_⟩⟩,how.2⟩,fun j c hj=>?_⟩
 ·rw [hlen,Array.toList_setIfInBounds,List.take_set,k6]
 rw [hfl,List.getElem?_set] at hj
 by_cases hij:i=j
 ·subst hij
  rw [if_pos rfl,if_pos hi] at hj
  cases hj
  exact ⟨u1,rfl,h1,by rw [List.getD_eq_getElem?_getD,List.getElem?_set_self (by omega)];rfl⟩
 rw [if_neg hij] at hj
 obtain ⟨x,e1,e2,e3⟩:=hc j c hj
 exact ⟨x,e1,e2,by rw [List.getD_eq_getElem?_getD,List.getElem?_set_ne hij,← List.getD_eq_getElem?_getD];exact e3⟩
end
section
variable {P:Program}{N:Nat}{w0:Base P}{pub:Nat→Nat→Prop}{V:Nat→Value}{s:St}{a:Act}{w:World}
theorem AOp.val {σ:Operand→PV}{m:Nat→PV}{d:Nat}{op:Op}{p:PV}{R:List Nat}(h:∀(N:Nat)(w0:Base P)(pub:Nat→Nat→Prop)(V:Nat→Value)(s:St)(a:Act)(w:World),(∀ x∈op.operands,s.ev x=σ x)→(∀ n∈R,s.mem n=m n)→Rel0 N w0 pub V s a w →
  ∃ v,(∀ dst ty pos after guard,(execOp a.eval ⟨dst,op,ty,pos,after,guard⟩).run P w=.ok (.value v) w)∧RV pub w V s.mem p v):AOp P σ m d op p [] R:=
 .sem op p [] R fun N w0 pub0 s a w e1 e2 hR=>by
  obtain ⟨pub,V,c1,c2,h0⟩:=hR
  obtain ⟨v,h1,h2⟩:=h N w0 pub V s a w e1 e2 h0
  exact .of_same c1 c2 h0 v h2 h1
end
section
variable {P:Program}{σ:Operand→PV}{m:Nat→PV}{d:Nat}
end
section
variable {P:Program}{N:Nat}{all:Array Oper}{F:Nat→Foot}{i:Nat}{rest:List Oper}{S M:List (Nat×PV)}{K:St→Prop}{d:Nat}{ty:TypeId}{pos:String}{after:Array Edge}
end
end Go.Px
namespace Go.Px
set_option linter.unusedSimpArgs false
set_option linter.unusedVariables false
open Go.RowKit
def nilsV:List PV→PV
 | []=>.nils
 | c::l=>.slice (c::l)
def neL {α:Type}(l:List α):Option (List α):=bif l.isEmpty then none else some l
section
variable {P:Program}{N:Nat}{all:Array Oper}{F:Nat→Foot}{i:Nat}{rest:List Oper}{S M:List (Nat×PV)}{K:St→Prop}{d:Nat}{ty:TypeId}{pos:String}{after:Array Edge}
end
end Go.Px
namespace Go.Px
set_option linter.unusedSimpArgs false
set_option linter.unusedVariables false
open Go.RowKit
section
variable {P:Program}{N:Nat}{w0:Base P}{w w':World}{pub pub':Nat→Nat→Prop}{V:Nat→Value}{s:St}{a:Act}{m':Nat→PV}
theorem Rel0.turnS (h:Rel0 N w0 pub V s a w){T:Nat→Prop}(hT:∀ k,¬ T k→m' k=s.mem k)(hTu:∀ k,T k→s.mem k≠.undef)(hTy:∀ k s' own,T k→s.mem k≠.yreg s' own∧m' k≠.yreg s' own)(refs:∀ q u,RefOk V s.mem q u→RefOk V m' q u)
  (hbk:∀ k g,T k→inB (V k) g→(w0.O g∧g<w.heap.size)∧∀ o,¬ pub g o) (hsize:w.heap.size≤w'.heap.size) (hos:w'.os=w.os) (htape:w'.tape=w.tape) (hout:w'.output=w.output) (hdr:w.drawn≤w'.drawn)
  (hblocks:∀ g,g<w.heap.size→(∀ k,T k→¬ inB (V k) g)→w'.heap[g]? = w.heap[g]?) (p1:∀ b o,pub b o→pub' b o) (p2:∀ b o,pub' b o→pub b o∨w.heap.size≤b) (p3:∀ b o,pub' b o→b<w'.heap.size∧(w.heap.size≤b→w'.frozen? ⟨b,o,none⟩=false))
  (hok:∀ k,T k→MemOk pub' w' V m' w0.O (V k) (m' k)):Rel0 N w0 pub' V { s with mem:=m' } a w':=by
 have hnpub:∀ g o,pub g o→∀ k,T k→¬ inB (V k) g:=fun g o ho k hk hg=>(hbk k g hk hg).2 o ho
 have t:Tr pub w V s.mem pub' w' V m' T:=
  ⟨p1,fun b o ho=>cellOB' (hblocks b (h.pubLt b o ho) (hnpub b o ho)),refs,fun _ _ _=>rfl,fun k hk=>hT k hk,
  fun k g hk hu' hg=>⟨hblocks g ((h.mem k).block_lt hu' hg) (fun j hj e=>hk (by rw [h.apart k j g hu' (hTu j hj) hg e];exact hj)),fun o ho=>(p2 g o ho).resolve_right (by have:=(h.mem k).block_lt hu' hg;omega)⟩,fun c s' own hTc hm'=>absurd hm' (hTy c s' own hTc).1⟩
 have hbel:F0a w0 w w':=⟨hos,htape,hout,hsize,fun k hk=>hblocks k (by
  have h1:¬ w0.w.heap.size≤k:=fun e=>hk (.inl e)
  have h2:w0.w.heap.size≤w.heap.size:=h.below.size
  omega) (fun j hj e=>hk (hbk j k hj e).1.1),hdr⟩
 refine h.turn t hbel (fun _ _=>rfl) (fun b o ho=>(p3 b o ho).1) hok (fun i k g hne h1 h2 h3 h4=>?_) (fun i own _ hmi=>?_) (fun b o ho hb0=>?_)
 ·have f:∀ j,m' j≠.undef→s.mem j≠.undef:=fun j hj=>by
   by_cases e:T j
   ·exact hTu j e
   rwa [hT j e] at hj
  exact hne (h.apart i k g (f i h1) (f k h2) h3 h4)
 ·by_cases hi:T i
  ·exact absurd hmi (hTy i true own hi).2
  rwa [hT i hi] at hmi
 by_cases hn:w.heap.size≤b
 ·exact (p3 b o ho).2 hn
 have ho1:=(p2 b o ho).resolve_right hn
 rw [frozenOB' (hblocks b (by omega) (hnpub b o ho1))]
 exact h.soft b o ho1 hb0
theorem RefOk.lptr_pt {mem:Nat→PV}{c:Nat}{y:Value}(h:RefOk V mem (.lptr c 0) y):∃ b,y=.pointer (some ⟨b,0,none⟩)∧V c=.pointer (some ⟨b,0,none⟩):=by
 cases h with
 | lptr _ _ x cs b hm hv=>exact ⟨b,rfl,hv⟩
end
theorem RR.unit {pub:Nat→Nat→Prop}{w:World}{B:Nat→Prop}{v:Value}{gs:List Nat}(h:RR pub w B (.tuple []) v gs):v=.tuple #[]:=by
 obtain ⟨arr,gs2,hv,hs,_⟩:=h.tuple_inv
 have h0:arr.size=0:=hs
 rw [hv,Array.eq_empty_of_size_eq_zero h0]
def clo2 (e1 sz1 e2 sz2:Nat)(l1 l2:List PV)(k1 k2:Nat):List (Nat×PV):=[(63,.blk true [.tref 191 k1 .out]),(127,.blk true [.tref 255 k2 .out]),(191,.tre e1 sz1 l1),(255,.tre e2 sz2 l2)]
def clo2V (a b c d:Value)(k:Nat):Value:=if k=63 then a else if k=127 then b else if k=191 then c else if k=255 then d else Go.undef
theorem L0n {e1 sz1 e2 sz2:Nat}{l1 l2:List PV}{k1 k2 k:Nat}(h:memOf (clo2 e1 sz1 e2 sz2 l1 l2 k1 k2) k≠.undef):k=63∨k=127∨k=191∨k=255:=by
 unfold clo2 at h
 simp only [D0g,M0i] at h
 by_cases h1:k=63
 ·exact .inl h1
 by_cases h2:k=127
 ·exact .inr (.inl h2)
 by_cases h3:k=191
 ·exact .inr (.inr (.inl h3))
 by_cases h4:k=255
 ·exact .inr (.inr (.inr h4))
 simp [h1,h2,h3,h4] at h
section
variable {P:Program}{σ:Operand→PV}{m:Nat→PV}{d:Nat}
end
section
variable {P:Program}{N:Nat}{all:Array Oper}{F:Nat→Foot}{i:Nat}{rest:List Oper}{S M:List (Nat×PV)}{K:St→Prop}{d:Nat}{ty:TypeId}{pos:String}{after:Array Edge}
set_option maxHeartbeats 2000000 in
/-- A CALL of a closure with two variables of the caller's,each of which holds a slice with slices in it. -/
theorem X.callClo2 {fo:Operand}{args:Array Operand}{ats:Array TypeId}{f:FuncId}{xs:List PV}{n1 n2 m1 m2 j1 j2 e1 sz1 e2 sz2:Nat}{l1 l2 l1' l2':List PV}
  (hc:PCM P f (xs ++ [.lptr 63 0,.lptr 127 0]) (clo2 e1 sz1 e2 sz2 l1 l2 l1.length l2.length) (.tuple []) (clo2 e1 sz1 e2 sz2 l1' l2' l1'.length l2'.length))
  (hf:evO S fo=some (.tref n1 0 (.clo f [n2]))) (hxs:evL S args.toList=some xs) (hpl:xs.all PV.plain=true) (hn1:look M n1=some (.blk true [.tref m1 j1 .out])) (hn2:look M n2=some (.blk true [.tref m2 j2 .out])) (hm1:look M m1=some (.tre e1 sz1 l1)) (hm2:look M m2=some (.tre e2 sz2 l2))
  (hj1:j1=l1.length) (hj2:j2=l2.length) (hnn:Nat.beq n1 n2=false) (hmm:Nat.beq m1 m2=false) (hl1:l1'.length=l1.length) (hl2:l2'.length=l2.length) (hs1:A1o l1 l1') (hs2:A1o l2 l2') (hd:Nat.ble (d+1) N=true) (hF:(F i).okB [n1,n2,m1,m2] [m1,m2]=true)
  (h:SLx P N all F (i+1) rest (St.of ((d,.tuple [])::S) ((m2,.tre e2 sz2 l2')::(m1,.tre e1 sz1 l1')::M)) K) :
  SLx P N all F i (⟨some d,.call { callee:=.value fo,args:=args,argTypes:=ats },ty,pos,after,none⟩::rest) (St.of S M) K:=by
 refine ⟨_,.semC _ d _ ty pos after none (.tuple []) [(m1,.tre e1 sz1 l1'),(m2,.tre e2 sz2 l2')] [n1,n2,m1,m2] (fun g want e=>by cases e) (fun s a1 a2 w0 pub0 a w hR K Q' hK gd=>?_) (Nat.le_of_ble_eq_true hd) (Q0p hF),?_⟩
 rotate_left
 ·rw [P0w,R0o S [(m1,.tre e1 sz1 l1'),(m2,.tre e2 sz2 l2')] M]
  exact h
 have hnn':n1≠n2:=fun e=>by rw [e,Nat.beq_refl] at hnn;cases hnn
 have hmm':m1≠m2:=fun e=>by rw [e,Nat.beq_refl] at hmm;cases hmm
 obtain ⟨pub,V,c1,c2,hrel⟩:=hR
 obtain ⟨hok,hcall⟩:=hc
 have mn1:s.mem n1=.blk true [.tref m1 j1 .out]:=(a2 n1 (by simp)).trans (A0h hn1)
 have mn2:s.mem n2=.blk true [.tref m2 j2 .out]:=(a2 n2 (by simp)).trans (A0h hn2)
 have mm1:s.mem m1=.tre e1 sz1 l1:=(a2 m1 (by simp)).trans (A0h hm1)
 have mm2:s.mem m2=.tre e2 sz2 l2:=(a2 m2 (by simp)).trans (A0h hm2)
 have hfo:s.ev fo=.tref n1 0 (.clo f [n2]):=(a1 fo (by simp [Op.operands,Call.operands])).trans (A0s hf)
 have hfe:=hrel.ev fo
 rw [hfo] at hfe
 obtain ⟨arr,hfv,hsz,hca⟩:=hfe.clo_inv rfl (fun e sz l h=>by rw [mn1] at h;cases h)
 obtain ⟨b1,hb1,hv1⟩:=(hca 0 n1 rfl).lptr_pt
 obtain ⟨b2,hb2,hv2⟩:=(hca 1 n2 rfl).lptr_pt
 have harr:arr.toList=[V n1,V n2]:=by
  have hs2:arr.size=2:=hsz
  apply List.ext_getElem?
  intro j
  have hg:∀ j,arr.getD j Go.undef=(arr.toList[j]?).getD Go.undef:=fun j=>by simp
  match j with
  | 0=>
   have h0:arr.toList[0]? = some (arr.getD 0 Go.undef):=by rw [hg];simp [hs2]
   rw [h0,hb1,← hv1];rfl
  | 1=>
   have h0:arr.toList[1]? = some (arr.getD 1 Go.undef):=by rw [hg];simp [hs2]
   rw [h0,hb2,← hv2];rfl
  | j+2=>simp [hs2]
 have kn1:=hrel.mem n1
 have kn2:=hrel.mem n2
 have km1:=hrel.mem m1
 have km2:=hrel.mem m2
 rw [mn1] at kn1;rw [mn2] at kn2;rw [mm1] at km1;rw [mm2] at km2
 have hn1m1:n1≠m1:=fun e=>by rw [e,mm1] at mn1;cases mn1
 have hn1m2:n1≠m2:=fun e=>by rw [e,mm2] at mn1;cases mn1
 have hn2m1:n2≠m1:=fun e=>by rw [e,mm1] at mn2;cases mn2
 have hn2m2:n2≠m2:=fun e=>by rw [e,mm2] at mn2;cases mn2
 let V':=clo2V (V n1) (V n2) (V m1) (V m2)
 let M0:=clo2 e1 sz1 e2 sz2 l1 l2 l1.length l2.length
 have v63:V' 63=V n1:=rfl
 have v127:V' 127=V n2:=rfl
 have v191:V' 191=V m1:=rfl
 have v255:V' 255=V m2:=rfl
 -- blocks of a variable of one's own
 have blkB:∀{c:Nat}{cs:List PV}{g:Nat},MemOk pub w V s.mem w0.O (V c) (.blk true cs)→inB (V c) g→(w0.O g∧g<w.heap.size)∧∀ o,¬ pub g o:=fun {c cs g} hk hg=>by
  generalize V c=vc at hk hg
  cases hk with
  | blk _ _ g' arr T hv hB hgg hs hp hq hcc hr=>
   subst hv
   have e:B0d (.pointer (some ⟨g',0,none⟩))=some g:=L0x hg
   have e:g'=g:=by simpa [B0d] using e
   subst e
   exact ⟨⟨hB,(Array.getElem?_eq_some_iff.1 hgg).1⟩,fun o ho=>by have:=hp o ho;cases this⟩
 have allB:∀ k g,(k=n1∨k=n2∨k=m1∨k=m2)→inB (V k) g→(w0.O g∧g<w.heap.size)∧∀ o,¬ pub g o:=fun k g hk hg=>by
  rcases hk with rfl | rfl | rfl | rfl
  ·exact blkB kn1 hg
  ·exact blkB kn2 hg
  ·exact km1.tre_block hg
  exact km2.tre_block hg
 -- what the variables hold,told under the callee's names and back
 have blkTo:∀{pub pub2:Nat→Nat→Prop}{w:World}{V1 V2:Nat→Value}{ma mb:Nat→PV}{B B2:Nat→Prop}{v:Value}{x y k k2 ee sz:Nat}{l:List PV},MemOk pub w V1 ma B v (.blk true [.tref x k .out])→ma x=.tre ee sz l→k=l.length→mb y=.tre ee sz l→k2=l.length→V2 y=V1 x→(∀ g,inB v g→B2 g)→MemOk pub w V2 mb B2 v (.blk true [.tref y k2 .out]):=by
  intro pub pub2 w V1 V2 ma mb B B2 v x y k k2 ee sz l hk hx hkl hy hk2 hV hB2
  cases hk with
  | blk _ _ g arr T hv hB hgg hs hp hq hcc hr=>
   refine .blk true _ g arr T hv (hB2 g (by rw [hv];exact .inl rfl)) hgg hs hp (fun e=>by cases e) (fun j c hj=>?_) (fun e=>by cases e)
   match j,hj with
   | 0,hj=>
    cases hj
    obtain ⟨o1,o2⟩:=hcc 0 _ rfl
    obtain ⟨ee',sz',l',hm',_,htv⟩:=o2.tref_inv
    rw [hx] at hm';cases hm'
    exact ⟨o1,.ref (.tref y k2 .out _ ee sz l hy (Nat.le_of_eq hk2) (fun _=>by rw [hV];exact htv hkl))⟩
   | j+1,hj=>simp at hj
 have memv:∀(x1 x2:List PV)(q1 q2:Nat),memOf (clo2 e1 sz1 e2 sz2 x1 x2 q1 q2) 63=.blk true [.tref 191 q1 .out]∧memOf (clo2 e1 sz1 e2 sz2 x1 x2 q1 q2) 127=.blk true [.tref 255 q2 .out]∧memOf (clo2 e1 sz1 e2 sz2 x1 x2 q1 q2) 191=.tre e1 sz1 x1∧memOf (clo2 e1 sz1 e2 sz2 x1 x2 q1 q2) 255=.tre e2 sz2 x2:=fun x1 x2 q1 q2=>by
  unfold clo2
  simp only [D0g]
  refine ⟨?_,?_,?_,?_⟩ <;> rfl
 obtain ⟨z1,z2,z3,z4⟩:=memv l1 l2 l1.length l2.length
 have bl4:∀ g,H0u V' M0 g→inB (V n1) g∨inB (V n2) g∨inB (V m1) g∨inB (V m2) g:=fun g hg=>by
  obtain ⟨k,hk,_,hin⟩:=hg
  rcases L0n hk with rfl | rfl | rfl | rfl
  ·exact .inl hin
  ·exact .inr (.inl hin)
  ·exact .inr (.inr (.inl hin))
  exact .inr (.inr (.inr hin))
 have bl4O:∀ g,(inB (V n1) g∨inB (V n2) g∨inB (V m1) g∨inB (V m2) g)→w0.O g∧g<w.heap.size:=fun g hg=>by
  rcases hg with h | h | h | h
  ·exact (allB n1 g (.inl rfl) h).1
  ·exact (allB n2 g (.inr (.inl rfl)) h).1
  ·exact (allB m1 g (.inr (.inr (.inl rfl))) h).1
  exact (allB m2 g (.inr (.inr (.inr rfl))) h).1
 have hO:∀ b,Base0.O ⟨w,H0u V' M0,V'⟩ b→w.heap.size≤b∨(inB (V n1) b∨inB (V n2) b∨inB (V m1) b∨inB (V m2) b):=fun b hb=>hb.imp id (bl4 b)
 have hxse:=M0k (M:=M) hxs
 have hlx:args.size=xs.length:=by
  have:=congrArg List.length hxse
  simpa using this
 unfold Oper.wp
 have hrun:(execOp a.eval ⟨some d,.call { callee:=.value fo,args:=args,argTypes:=ats },ty,pos,after,gd⟩).run P w=.ok (.enter f (args.map a.eval ++ arr)) w:=by
  simp [execOp,resolve,hfv,Deferred.ofValue,invoke,R0x hok]
 rw [hrun,Oper.upon_enter]
 have hvals:(args.map a.eval ++ arr)=((args.map a.eval).toList ++ [V n1,V n2]).toArray:=by
  rw [← harr];simp
 rw [hvals]
 refine (hcall w pub V' ((args.map a.eval).toList ++ [V n1,V n2]) (fun w' hw=>w0.good w' fun b hb=>(hw b fun ho=>hb ?_).trans (hrel.below.block b hb)) hrel.pubLt (by simp [hlx]) (fun k=>?_) (fun k1 k2 g h1 h2 h3 h4=>?_) (fun j p v q1 q2=>?_)).mono ?_
 ·rcases hO b ho with h | h
  ·exact .inl (Nat.le_trans hrel.below.size h)
  exact (bl4O b h).1
 ·by_cases hu:memOf (clo2 e1 sz1 e2 sz2 l1 l2 l1.length l2.length) k=.undef
  ·rw [hu];exact .undef
  rcases L0n hu with rfl | rfl | rfl | rfl
  ·rw [z1];exact blkTo (pub2:=pub) kn1 mm1 hj1 z3 rfl rfl (fun _ _=>trivial)
  ·rw [z2];exact blkTo (pub2:=pub) kn2 mm2 hj2 z4 rfl rfl (fun _ _=>trivial)
  ·rw [z3];exact km1.tre_rebase fun _ _=>trivial
  rw [z4];exact km2.tre_rebase fun _ _=>trivial
 ·have un:∀ c p,s.mem c=p→p≠.undef→s.mem c≠.undef:=fun c p h1 h2=>h1 ▸ h2
  have u1:=un n1 _ mn1 (fun e=>by cases e)
  have u2:=un n2 _ mn2 (fun e=>by cases e)
  have u3:=un m1 _ mm1 (fun e=>by cases e)
  have u4:=un m2 _ mm2 (fun e=>by cases e)
  rcases L0n h1 with rfl | rfl | rfl | rfl <;> rcases L0n h2 with rfl | rfl | rfl | rfl <;> first
   | rfl
   | exact absurd (hrel.apart _ _ g u1 u2 h3 h4) hnn'
   | exact absurd (hrel.apart _ _ g u1 u3 h3 h4) hn1m1
   | exact absurd (hrel.apart _ _ g u1 u4 h3 h4) hn1m2
   | exact absurd (hrel.apart _ _ g u2 u1 h3 h4).symm hnn'
   | exact absurd (hrel.apart _ _ g u2 u3 h3 h4) hn2m1
   | exact absurd (hrel.apart _ _ g u2 u4 h3 h4) hn2m2
   | exact absurd (hrel.apart _ _ g u3 u1 h3 h4).symm hn1m1
   | exact absurd (hrel.apart _ _ g u3 u2 h3 h4).symm hn2m1
   | exact absurd (hrel.apart _ _ g u3 u4 h3 h4) hmm'
   | exact absurd (hrel.apart _ _ g u4 u1 h3 h4).symm hn1m2
   | exact absurd (hrel.apart _ _ g u4 u2 h3 h4).symm hn2m2
   | exact absurd (hrel.apart _ _ g u4 u3 h3 h4).symm hmm'
 ·by_cases hj:j<xs.length
  ·rw [List.getElem?_append_left hj] at q1
   rw [List.getElem?_append_left (by simp;omega)] at q2
   simp only [Array.toList_map,List.getElem?_map,Option.map_eq_some_iff] at q2
   obtain ⟨o,ho,rfl⟩:=q2
   have h4:(args.toList.map (St.of S M).ev)[j]? = some p:=by rw [hxse];exact q1
   rw [List.getElem?_map,ho] at h4
   have hp:s.ev o=p:=(a1 o (by simp [Op.operands,Call.operands];exact .inr (Array.mem_def.2 (List.mem_of_getElem? ho)))).trans (Option.some.inj h4)
   have hr2:=hrel.ev o
   rw [hp] at hr2
   exact .pure (hr2.plain (List.all_eq_true.1 hpl p (List.mem_of_getElem? q1)))
  rw [List.getElem?_append_right (by omega)] at q1
  rw [List.getElem?_append_right (by simp;omega)] at q2
  have hje:j - (args.map a.eval).toList.length=j - xs.length:=by simp [hlx]
  rw [hje] at q2
  generalize j - xs.length=jj at q1 q2
  match jj,q1,q2 with
  | 0,q1,q2=>cases q1;cases q2;rw [hv1];exact .ref (.lptr 63 0 true _ b1 z1 (v63.trans hv1))
  | 1,q1,q2=>cases q1;cases q2;rw [hv2];exact .ref (.lptr 127 0 true _ b2 z2 (v127.trans hv2))
  | jj+2,q1,q2=>simp at q1
 rintro en w' ⟨v,rfl,hbel,pub',p1,p2,p3,hmem,_,gs,hRR,_⟩
 obtain ⟨y1,y2,y3,y4⟩:=memv l1' l2' l1'.length l2'.length
 have h63:=hmem 63 (by rw [y1];intro e;cases e)
 have h127:=hmem 127 (by rw [y2];intro e;cases e)
 have h191:=hmem 191 (by rw [y3];intro e;cases e)
 have h255:=hmem 255 (by rw [y4];intro e;cases e)
 rw [y1] at h63;rw [y2] at h127;rw [y3] at h191;rw [y4] at h255
 obtain ⟨_,sh1⟩:=km1.lenT h191 hs1
 obtain ⟨_,sh2⟩:=km2.lenT h255 hs2
 let m':=upds s.mem [(m1,.tre e1 sz1 l1'),(m2,.tre e2 sz2 l2')]
 have hm'1:m' m1=.tre e1 sz1 l1':=(A0k _ _ hmm').trans (B0b _ _ _)
 have hm'2:m' m2=.tre e2 sz2 l2':=B0b _ _ _
 have hm'o:∀ k,k≠m1→k≠m2→m' k=s.mem k:=fun k h1 h2=>(A0k _ _ h2).trans (A0k _ _ h1)
 have hrel1:Rel0 N w0 pub' V { s with mem:=m' } a w':=by
  refine hrel.turnS (T:=fun k=>k=n1∨k=n2∨k=m1∨k=m2) (fun k hk=>hm'o k (fun e=>hk (.inr (.inr (.inl e)))) (fun e=>hk (.inr (.inr (.inr e))))) (fun k hk=>?_) (fun k s' own hk=>?_) (fun q u hq=>?_) allB hbel.size hbel.os hbel.tape hbel.output hbel.drawn (fun g hg hno=>hbel.block g fun ho=>?_) p1 p2 p3 (fun k hk=>?_)
  ·rcases hk with rfl | rfl | rfl | rfl
   ·rw [mn1];intro e;cases e
   ·rw [mn2];intro e;cases e
   ·rw [mm1];intro e;cases e
   rw [mm2];intro e;cases e
  ·rcases hk with rfl | rfl | rfl | rfl
   ·rw [hm'o _ hn1m1 hn1m2,mn1];exact ⟨(fun e=>by cases e),(fun e=>by cases e)⟩
   ·rw [hm'o _ hn2m1 hn2m2,mn2];exact ⟨(fun e=>by cases e),(fun e=>by cases e)⟩
   ·rw [mm1,hm'1];exact ⟨(fun e=>by cases e),(fun e=>by cases e)⟩
   rw [mm2,hm'2];exact ⟨(fun e=>by cases e),(fun e=>by cases e)⟩
  ·have nz:∀ k p,s.mem k=p→(∀ e sz l,p≠.tre e sz l)→m' k=s.mem k:=fun k p hp hne=>hm'o k (fun e=>by rw [e,mm1] at hp;exact hne _ _ _ hp.symm) (fun e=>by rw [e,mm2] at hp;exact hne _ _ _ hp.symm)
   cases hq with
   | own k j _ x e sz l hm hk hh=>exact .own k j u x e sz l ((nz k _ hm (fun _ _ _ e=>by cases e)).trans hm) hk hh
   | gone k _ _ hm=>
    exact .gone k _ _ ((nz k _ hm (fun _ _ _ e=>by cases e)).trans hm)
   | goneE k _ _ _ _ hm=>
    exact .goneE k _ _ _ _ ((nz k _ hm (fun _ _ _ e=>by cases e)).trans hm)
   | goneO k _ _ _ _ hm=>
    exact .goneO k _ _ _ _ ((nz k _ hm (fun _ _ _ e=>by cases e)).trans hm)
   | lptr k off x cs b hm hv=>exact .lptr k off x cs b ((nz k _ hm (fun _ _ _ e=>by cases e)).trans hm) hv
   | eptr k j i off _ x e sz l hm hk hh=>exact .eptr k j i off u x e sz l ((nz k _ hm (fun _ _ _ e=>by cases e)).trans hm) hk hh
   | osl k j i i2 _ x e sz l hm hk hij hh=>exact .osl k j i i2 u x e sz l ((nz k _ hm (fun _ _ _ e=>by cases e)).trans hm) hk hij hh
   | clo k1 f1 ns1 arr1 hs1 hc1=>
    refine .clo k1 f1 ns1 arr1 hs1 (fun j1 c1 hj1=>?_)
    have h0:=hc1 j1 c1 hj1
    generalize arr1.getD j1 Go.undef=y1 at h0 ⊢
    cases h0 with
    | lptr _ _ x cs b hm hv=>exact .lptr c1 0 x cs b ((nz c1 _ hm (fun _ _ _ e=>by cases e)).trans hm) hv
   | tref k j tp _ e sz l hm hk hh=>
    by_cases e1':k=m1
    ·subst e1'
     rw [mm1] at hm;cases hm
     exact .tref k j tp u e1 sz1 l1' hm'1 (by omega) (fun e=>(hh (by omega)).shape hl1 sh1)
    by_cases e2':k=m2
    ·subst e2'
     rw [mm2] at hm;cases hm
     exact .tref k j tp u e2 sz2 l2' hm'2 (by omega) (fun e=>(hh (by omega)).shape hl2 sh2)
    exact .tref k j tp u e sz l ((hm'o k e1' e2').trans hm) hk hh
  ·rcases hO g ho with h | h | h | h | h
   ·omega
   ·exact hno n1 (.inl rfl) h
   ·exact hno n2 (.inr (.inl rfl)) h
   ·exact hno m1 (.inr (.inr (.inl rfl))) h
   exact hno m2 (.inr (.inr (.inr rfl))) h
  rcases hk with rfl | rfl | rfl | rfl
  ·rw [hm'o _ hn1m1 hn1m2,mn1]
   exact blkTo (pub2:=pub) h63 y3 rfl hm'1 (hj1.trans hl1.symm) v191.symm (fun g hg=>(allB _ g (.inl rfl) hg).1.1)
  ·rw [hm'o _ hn2m1 hn2m2,mn2]
   exact blkTo (pub2:=pub) h127 y4 rfl hm'2 (hj2.trans hl2.symm) v255.symm (fun g hg=>(allB _ g (.inr (.inl rfl)) hg).1.1)
  ·rw [hm'1]
   exact (h191.rebase (B':=w0.O) fun g _ _ hg=>(allB _ g (.inr (.inr (.inl rfl))) hg).1.1).tre_rebase fun _ h=>h
  rw [hm'2]
  exact (h255.rebase (B':=w0.O) fun g _ _ hg=>(allB _ g (.inr (.inr (.inr rfl))) hg).1.1).tre_rebase fun _ h=>h
 obtain rfl:=hRR.unit
 exact hK _ _ ⟨pub',V,fun b o ho=>p1 b o (c1 b o ho),fun b o ho=>(p2 b o ho).elim (c2 b o) (fun h=>.inr (.inl (Nat.le_trans hrel.below.size h))),hrel1.put d (Nat.le_of_ble_eq_true hd) (.pure (.tuple [] #[] rfl (fun j c hj=>by simp at hj)))⟩
end
end Go.Px
namespace Go.Px
set_option linter.unusedSimpArgs false
set_option linter.unusedVariables false
open Go.RowKit
section
variable {P:Program}{σ:Operand→PV}{m:Nat→PV}{d:Nat}
end
end Go.Px
namespace Go.Px
set_option linter.unusedSimpArgs false
set_option linter.unusedVariables false
open Go.RowKit
section
variable {w w':World}{pub pub':Nat→Nat→Prop}{V:Nat→Value}{m:Nat→PV}{B:Nat→Prop}
end
section
variable {P:Program}{σ:Operand→PV}{m:Nat→PV}{d:Nat}
end

section
variable {P:Program}{σ:Operand→PV}{m:Nat→PV}{d:Nat}
end
def rowN (e sz:Nat):List PV→PV
 | []=>.nils
 | l=>.obj true e sz l
def nilL {α:Type}(l:List α):Option Unit:=bif l.isEmpty then some () else none
def sameN {α:Type}(a b:List (List α)):Option Unit:=bif a.map List.isEmpty == b.map List.isEmpty then some () else none
def allNe {α:Type}(l:List (List α)):Option (List (List α)):=bif l.any List.isEmpty then none else some l
section
variable {P:Program}{N:Nat}{all:Array Oper}{F:Nat→Foot}{i:Nat}{rest:List Oper}{S M:List (Nat×PV)}{K:St→Prop}{d:Nat}{ty:TypeId}{pos:String}{after:Array Edge}
end
set_option maxHeartbeats 1000000 in
/-- From code to the contract of a closure with two variables of the caller's. -/
theorem PCM.startClo {P:Program}{f:FuncId}{fn:Func}{N:Nat}{c:Code}{args:List PV}{e1 sz1 e2 sz2 k1 k2 k1' k2':Nat}{l1 l2 l1' l2':List PV}{r:PV}(hf:P.funcs[f]? = some fn)(hN:fn.ntmps=N)(hb:fn.body=some c)(hok:okFn P f=true)(hn:Nat.ble args.length N=true)
  (h:Run P N (FinM P fn r (clo2 e1 sz1 e2 sz2 l1' l2' k1' k2')) [.code c] (St.of (J0x 0 args) (clo2 e1 sz1 e2 sz2 l1 l2 k1 k2))):PCM P f args (clo2 e1 sz1 e2 sz2 l1 l2 k1 k2) r (clo2 e1 sz1 e2 sz2 l1' l2' k1' k2'):=by
 subst hN
 have hn:=Nat.le_of_ble_eq_true hn
 have e:(⟨C0z args,memOf (clo2 e1 sz1 e2 sz2 l1 l2 k1 k2)⟩:St)=St.of (J0x 0 args) (clo2 e1 sz1 e2 sz2 l1 l2 k1 k2):=by
  unfold memOf St.of
  congr 1
  funext t
  rw [D0x,J0e];simp
 rw [← e] at h
 generalize hM0:clo2 e1 sz1 e2 sz2 l1 l2 k1 k2=M0 at h ⊢
 generalize hM1:clo2 e1 sz1 e2 sz2 l1' l2' k1' k2'=M1 at h ⊢
 have memv:∀(x1 x2:List PV)(q1 q2:Nat),memOf (clo2 e1 sz1 e2 sz2 x1 x2 q1 q2) 63=.blk true [.tref 191 q1 .out]∧memOf (clo2 e1 sz1 e2 sz2 x1 x2 q1 q2) 127=.blk true [.tref 255 q2 .out]∧memOf (clo2 e1 sz1 e2 sz2 x1 x2 q1 q2) 191=.tre e1 sz1 x1∧memOf (clo2 e1 sz1 e2 sz2 x1 x2 q1 q2) 255=.tre e2 sz2 x2:=fun x1 x2 q1 q2=>by
  unfold clo2
  simp only [D0g]
  refine ⟨?_,?_,?_,?_⟩ <;> rfl
 obtain ⟨y1,y2,y3,y4⟩:=memv l1 l2 k1 k2
 obtain ⟨z1,z2,z3,z4⟩:=memv l1' l2' k1' k2'
 have c0:∀ k,memOf M0 k≠.undef→k=63∨k=127∨k=191∨k=255:=fun k hk=>by rw [← hM0] at hk;exact L0n hk
 have c1:∀ k,memOf M1 k≠.undef→k=63∨k=127∨k=191∨k=255:=fun k hk=>by rw [← hM1] at hk;exact L0n hk
 rw [hM0] at y1 y2 y3 y4
 rw [hM1] at z1 z2 z3 z4
 have c63:∀ k,(k=63∨k=127∨k=191∨k=255)→k % 64=63:=fun k hk=>by rcases hk with rfl | rfl | rfl | rfl <;> rfl
 have u1:∀ k,(k=63∨k=127∨k=191∨k=255)→memOf M1 k≠.undef:=fun k hk=>by
  rcases hk with rfl | rfl | rfl | rfl
  ·rw [z1];intro e;cases e
  ·rw [z2];intro e;cases e
  ·rw [z3];intro e;cases e
  rw [z4];intro e;cases e
 have nr:∀ k s own,memOf M0 k≠.yreg s own:=fun k s own e=>by
  have hk:memOf M0 k≠.undef:=by rw [e];intro e;cases e
  rcases c0 k hk with rfl | rfl | rfl | rfl
  ·rw [y1] at e;cases e
  ·rw [y2] at e;cases e
  ·rw [y3] at e;cases e
  rw [y4] at e;cases e
 refine ⟨hok,fun w pub V vals hgp hpub hlen hmem hap hrep=>?_⟩
 refine calls_of_wp hf hb ?_
 have hrel:Rel fn.ntmps (⟨⟨w,H0u V M0,V⟩,hgp⟩:Base P) pub ⟨C0z args,memOf M0⟩ { tmps:=vals.toArray ++ Array.replicate (fn.ntmps - vals.toArray.size) undef,defers:=[] } w:=by
  refine ⟨pub,V,fun _ _ h=>h,fun _ _ h=>.inl h,⟨rfl,by simp;omega,F0a.refl _ _,fun _ _=>rfl,hpub,fun t=>?_,fun n=>(hmem n).rebase fun g hu hs hg=>.inr ⟨n,hu,fun own e=>nr _ _ _ e,hg⟩,hap,fun b o ho hb0=>absurd (hpub b o ho) (by show ¬ _;have:w.heap.size≤b:=hb0;omega),fun n own _ _=>.refl _ _⟩⟩
  have hsl:=D0x args t
  show RV pub w _ _ (C0z args t) _
  rw [hsl]
  by_cases ht:t<args.length
  ·have h1:args[t]? = some args[t]:=List.getElem?_eq_getElem ht
   have h2:vals[t]? = some (vals[t]'(by omega)):=List.getElem?_eq_getElem (by omega)
   have:=hrep t _ _ h1 h2
   have h3:(vals.toArray ++ Array.replicate (fn.ntmps - vals.toArray.size) undef).getD t Go.undef=vals[t]'(by omega):=by
    simp [Array.getElem?_append_left (show t<vals.toArray.size by simp;omega),show t<vals.length by omega]
   simp only [h1,Option.getD_some]
   rw [h3];exact this
  have h1:args[t]? = none:=List.getElem?_eq_none (by omega)
  simp only [h1,Option.getD_none]
  exact .undef _
 refine Code.wp_mono (fun e a w' q=>?_) (h _ pub _ _ hrel)
 have fin:(∃ s,FinM P fn r M1 s∧Rel fn.ntmps (⟨⟨w,H0u V M0,V⟩,hgp⟩:Base P) pub s a w')→a.defers=[]∧∃ v,(results fn a.tmps).run P w'=.ok v w'∧∃ v_1,Ending.returned v=.returned v_1∧F0a ⟨w,H0u V M0,V⟩ w w'∧∃ pub',(∀ b o,pub b o→pub' b o)∧(∀ b o,pub' b o→pub b o∨w.heap.size≤b)∧(∀ b o,pub' b o→b<w'.heap.size∧(w.heap.size≤b→w'.frozen? ⟨b,o,none⟩=false)) ∧
   (∀ n,memOf M1 n≠.undef→MemOk pub' w' V (memOf M1) (fun _=>True) (V n) (memOf M1 n))∧(∀ n own,memOf M0 n=.yreg true own→SkW (regB (V n)) w w')∧∃ gs,RR pub' w' (fun b=>w.heap.size≤b) r v_1 gs∧gs.Nodup:=by
  rintro ⟨s,⟨⟨ps,ps',G,hat,hres,hrr,hG⟩,hM⟩,pub',V',d1,d2,hrel'⟩
  obtain ⟨vs,g1,g2,g3⟩:=L0q hrel' hat
  obtain ⟨gss,g4,g5',g6,g7⟩:=hres.sound hrel' vs g2 g3
  have hl:=hres.length
  have hV:∀ n,(n=63∨n=127∨n=191∨n=255)→V' n=V n:=fun n hn=>hrel'.fixed n (c63 n hn)
  have hS:∀ n,(n=63∨n=127∨n=191∨n=255)→s.mem n=memOf M1 n:=fun n hn=>hM n (u1 n hn)
  have s191:s.mem 191=.tre e1 sz1 l1':=(hS 191 (by simp)).trans z3
  have s255:s.mem 255=.tre e2 sz2 l2':=(hS 255 (by simp)).trans z4
  have blkTo:∀{B:Nat→Prop}{v:Value}{x k ee sz:Nat}{l:List PV},MemOk pub' w' V' s.mem B v (.blk true [.tref x k .out])→s.mem x=.tre ee sz l→memOf M1 x=.tre ee sz l→V' x=V x→MemOk pub' w' V (memOf M1) (fun _=>True) v (.blk true [.tref x k .out]):=by
   intro B v x k ee sz l hk hx hy hVx
   cases hk with
   | blk _ _ g arr T hv hB hgg hs hp hq hcc hr=>
    refine .blk true _ g arr T hv trivial hgg hs hp (fun e=>by cases e) (fun j c hj=>?_) (fun e=>by cases e)
    match j,hj with
    | 0,hj=>
     cases hj
     obtain ⟨o1,o2⟩:=hcc 0 _ rfl
     obtain ⟨ee',sz',l',hm',hkl,htv⟩:=o2.tref_inv
     rw [hx] at hm';cases hm'
     exact ⟨o1,.ref (.tref x k .out _ ee sz l hy hkl (fun e=>by rw [← hVx];exact htv e))⟩
    | j+1,hj=>simp at hj
  have hmo:∀ n,memOf M1 n≠.undef→MemOk pub' w' V (memOf M1) (fun _=>True) (V n) (memOf M1 n):=fun n hu=>by
   have hn:=c1 n hu
   have h0:=hrel'.mem n
   rw [hM n hu,hV n hn] at h0
   rcases hn with rfl | rfl | rfl | rfl
   ·rw [z1] at h0 ⊢;exact blkTo h0 s191 z3 (hV 191 (by simp))
   ·rw [z2] at h0 ⊢;exact blkTo h0 s255 z4 (hV 255 (by simp))
   ·rw [z3] at h0 ⊢;exact h0.tre_rebase fun _ _=>trivial
   rw [z4] at h0 ⊢;exact h0.tre_rebase fun _ _=>trivial
  have hnp:∀ n,memOf M1 n≠.undef→∀ b,inB (V n) b→∀ o,¬ pub' b o:=fun n hu b hb o=>by
   have h2:=hmo n hu
   rcases c1 n hu with rfl | rfl | rfl | rfl
   ·rw [z1] at h2;exact h2.excl (.inr (.inl ⟨_,rfl⟩)) hb
   ·rw [z2] at h2;exact h2.excl (.inr (.inl ⟨_,rfl⟩)) hb
   ·rw [z3] at h2;exact (h2.tre_block hb).2 o
   rw [z4] at h2;exact (h2.tre_block hb).2 o
  have hnew:∀ g∈gss.flatten,w.heap.size≤g:=fun g hg=>by
   obtain ⟨n,hn,hu,hb,hO⟩:=g7 g hg
   rcases hO with h | ⟨m,hum,_,hbm⟩
   ·exact h
   have hm:=c0 m hum
   have:=hrel'.apart n m g hu (by rw [hM m (u1 m hm)];exact u1 m hm) hb (by rw [hV m hm];exact hbm)
   subst this
   exact absurd (c63 _ hm) (hG _ hn)
  have g5:∀(i:Nat) p v g,ps'[i]? = some p→vs[i]? = some v→gss[i]? = some g→RR pub' w' (fun b=>w.heap.size≤b) p v g:=fun i p v g a1 a2 a3=>
   (g5' i p v g a1 a2 a3).narrow fun b hb=>hnew b (List.mem_flatten.2 ⟨g,List.mem_of_getElem? a3,hb⟩)
  refine ⟨hrel'.defers,(if h:vs.length=1 then vs[0] else .tuple vs.toArray),g1,_,rfl,hrel'.below,pub',d1,fun b o ho=>?_,fun b o ho=>⟨hrel'.pubLt b o ho,hrel'.soft b o ho⟩,hmo,fun n own hn=>absurd hn (nr _ _ _),?_⟩
  ·rcases d2 b o ho with h | h | ⟨n,hu,_,hb⟩
   ·exact .inl h
   ·exact .inr h
   exact absurd ho (hnp n (u1 n (c0 n hu)) b hb o)
  refine ⟨gss.flatten,?_,g6⟩
  subst hrr
  match ps',vs,gss,g4,(show vs.length=ps'.length by omega),g5 with
  | [p],[v],[g],_,_,h5=>simpa [resOf] using h5 0 p v g rfl rfl rfl
  | [],[],[],_,_,h5=>simpa [resOf] using RR.tuple [] #[] [] rfl rfl (fun j c g h=>by simp at h)
  | p::q::ps',v::u::vs,gss,h4,hvl,h5=>
   have:¬ ((v::u::vs).length=1):=by simp
   rw [dif_neg this]
   refine .tuple _ _ gss (by simpa using hvl) (by simpa using h4) (fun j c g hj hg=>?_)
   have hjl:j<(v::u::vs).length:=by rw [hvl];exact (List.getElem?_eq_some_iff.1 hj).1
   have hget:∀(L:List Value)(h:j<L.length),L.toArray.getD j Go.undef=L[j]:=fun L h=>by simp [h]
   rw [hget _ hjl]
   exact h5 j c _ g hj (List.getElem?_eq_getElem hjl) hg
 cases e with
 | normal=>exact fin q
 | ret=>exact fin q
 | _=>exact q.elim
end Go.Px
namespace Go.Px
set_option linter.unusedSimpArgs false
set_option linter.unusedVariables false
open Go.RowKit
def PCx (P:Program)(f:FuncId)(args caps:List PV)(r:PV):Prop:=bif Nat.ble f 1099511627775 then PC P f (args ++ caps) r else PC P (f - 1099511627776) (caps ++ args) r
theorem PCx.of {P:Program}{f:FuncId}{args caps ps:List PV}{r:PV}(h:PC P f ps r)(e:args ++ caps=ps:=by rfl):PCx P f args caps r:=by
 subst e
 unfold PCx
 rw [W0d h.1];exact h
section
variable {P:Program}{σ:Operand→PV}{m:Nat→PV}{d:Nat}
end
section
variable {P:Program}{N:Nat}{all:Array Oper}{F:Nat→Foot}{i:Nat}{rest:List Oper}{S M:List (Nat×PV)}{K:St→Prop}{d:Nat}{ty:TypeId}{pos:String}{after:Array Edge}
end
end Go.Px
namespace Go.Px
set_option linter.unusedSimpArgs false
set_option linter.unusedVariables false
open Go.RowKit
def BlkR (pub:Nat→Nat→Prop)(w:World)(B:Nat)(cs:List PV)(v:Value):Prop:=
 ∃ g arr T,v=.pointer (some ⟨g,0,none⟩)∧B≤g∧w.heap[g]? = some (.cells arr T (0,0))∧arr.size=cs.length∧(∀ o,¬ pub g o)∧∀(j:Nat) c,cs[j]? = some c→(arr.getD j Go.undef).oneCell'=true∧Rep pub w c (arr.getD j Go.undef)
def PCB (P:Program)(f:FuncId)(args cs:List PV):Prop:=
 okFn P f=true∧∀(w:World)(pub:Nat→Nat→Prop)(vals:List Value),GP P w→(∀ b o,pub b o→b<w.heap.size)→vals.length=args.length→(∀(i:Nat) p v,args[i]? = some p→vals[i]? = some v→Rep pub w p v) →
  Calls P f vals.toArray w fun e w'=>∃ v,e=.returned v∧E0f w.heap.size w w'∧∃ pub',(∀ b o,pub b o→pub' b o)∧(∀ b o,pub' b o→pub b o∨w.heap.size≤b)∧(∀ b o,pub' b o→b<w'.heap.size∧(w.heap.size≤b→w'.frozen? ⟨b,o,none⟩=false))∧BlkR pub' w' w.heap.size cs v
def FinB (P:Program)(fn:Func)(cs:List PV)(s:St):Prop:=∃ t n,fn.results=#[.tmp t]∧s.slot t=.lptr n 0∧s.mem n=.blk true cs
section
variable {P:Program}{N:Nat}{w0:Base P}{w:World}{pub:Nat→Nat→Prop}{V:Nat→Value}{s:St}{a:Act}
theorem Rel0.adoptB (h:Rel0 N w0 pub V s a w)(n:Nat)(hn63:n % 64≠63)(hn:s.mem n=.undef){g0:Nat}{cs:List PV}(hm:∀ V' m',MemOk pub w V' m' w0.O (.pointer (some ⟨g0,0,none⟩)) (.blk true cs))
  (hap:∀ k g,s.mem k≠.undef→inB (V k) g→g=g0→False) :
  Rel0 N w0 pub (updV V n ((.pointer (some ⟨g0,0,none⟩)))) { s with mem:=upd s.mem n (.blk true cs) } a w∧∀ p u,RV pub w V s.mem p u→RV pub w (updV V n ((.pointer (some ⟨g0,0,none⟩)))) (upd s.mem n (.blk true cs)) p u:=by
 have refs:∀ q u,RefOk V s.mem q u→RefOk (updV V n ((.pointer (some ⟨g0,0,none⟩)))) (upd s.mem n (.blk true cs)) q u:=by
  intro q u hq
  cases hq with
  | own k j _ x e sz l hm hk hh=>
   have hne:k≠n:=fun e=>by rw [e,hn] at hm;cases hm
   exact .own k j u x e sz l ((A0k _ _ hne).trans hm) hk (fun e=>(hh e).trans (A0n _ _ hne).symm)
  | gone k _ _ hm=>
   have hne:k≠n:=fun e=>by rw [e,hn] at hm;cases hm
   exact .gone k _ _ ((A0k _ _ hne).trans hm)
  | goneE k _ _ _ _ hm=>
   have hne:k≠n:=fun e=>by rw [e,hn] at hm;cases hm
   exact .goneE k _ _ _ _ ((A0k _ _ hne).trans hm)
  | goneO k _ _ _ _ hm=>
   have hne:k≠n:=fun e=>by rw [e,hn] at hm;cases hm
   exact .goneO k _ _ _ _ ((A0k _ _ hne).trans hm)
  | lptr k off x cs b hm hv=>
   have hne:k≠n:=fun e=>by rw [e,hn] at hm;cases hm
   exact .lptr k off x cs b ((A0k _ _ hne).trans hm) ((A0n _ _ hne).trans hv)
  | eptr k j i off _ x e sz l hm hk hh=>
   have hne:k≠n:=fun e=>by rw [e,hn] at hm;cases hm
   exact .eptr k j i off u x e sz l ((A0k _ _ hne).trans hm) hk (fun e=>by rw [A0n _ _ hne];exact hh e)
  | clo k1 f1 ns1 arr1 hs1 hc1=>
   refine .clo k1 f1 ns1 arr1 hs1 (fun j1 c1 hj1=>?_)
   have h0:=hc1 j1 c1 hj1
   generalize arr1.getD j1 Go.undef=y1 at h0 ⊢
   cases h0 with
   | lptr _ _ x cs b hm hv=>
    have hne:c1≠n:=fun e=>by rw [e,hn] at hm;cases hm
    exact .lptr c1 0 x cs b ((A0k _ _ hne).trans hm) ((A0n _ _ hne).trans hv)
  | tref k j tp _ e sz l hm hk hh=>
   have hne:k≠n:=fun e=>by rw [e,hn] at hm;cases hm
   exact .tref k j tp u e sz l ((A0k _ _ hne).trans hm) hk (fun e=>by rw [A0n _ _ hne];exact hh e)
  | osl k j i i2 _ x e sz l hm hk hij hh=>
   have hne:k≠n:=fun e=>by rw [e,hn] at hm;cases hm
   exact .osl k j i i2 u x e sz l ((A0k _ _ hne).trans hm) hk hij (fun e=>by rw [A0n _ _ hne];exact hh e)
 have t:Tr pub w V s.mem pub w (updV V n ((.pointer (some ⟨g0,0,none⟩)))) (upd s.mem n (.blk true cs)) (fun k=>k=n):=
  ⟨fun _ _ h=>h,fun _ _ _=>rfl,refs,fun k hk _=>A0n _ _ hk,fun k hk=>A0k _ _ hk,fun k g _ hu hg=>⟨rfl,fun _ ho=>ho⟩,fun c s' own hT hmc=>by subst hT;rw [hn] at hmc;cases hmc⟩
 refine ⟨h.turn t (F0a.refl _ _) (fun k hk=>A0n _ _ (fun e=>hn63 (e ▸ hk))) h.pubLt (fun k hk=>?_) (fun i k g hne h1 h2 h3 h4=>?_) (fun i own _ hmi=>by
  by_cases hi:i=n
  ·subst hi;rw [B0b] at hmi;cases hmi
  rwa [A0k _ _ hi] at hmi) h.soft,fun p u hu=>t.rv hu⟩
 ·subst hk
  rw [B0a,B0b]
  exact hm _ _
 by_cases hi:i=n
 ·subst hi
  rw [B0a] at h3
  rw [A0n _ _ (Ne.symm hne)] at h4
  rw [A0k _ _ (Ne.symm hne)] at h2
  exact hap k g h2 h4 (by have:=L0x h3;simpa [B0d] using this.symm)
 by_cases hk:k=n
 ·subst hk
  rw [B0a] at h4
  rw [A0n _ _ hne] at h3
  rw [A0k _ _ hne] at h1
  exact hap i g h1 h3 (by have:=L0x h4;simpa [B0d] using this.symm)
 rw [A0n _ _ hi] at h3
 rw [A0n _ _ hk] at h4
 rw [A0k _ _ hi] at h1
 rw [A0k _ _ hk] at h2
 exact hne (h.apart i k g h1 h2 h3 h4)
end
section
variable {P:Program}
theorem PCB.intro {f:FuncId}{fn:Func}{c:Code}{args:List PV}{cs:List PV}(hpl:cs.all PV.plain=true)(hf:P.funcs[f]? = some fn)(hb:fn.body=some c)(hok:okFn P f=true)(hn:args.length≤fn.ntmps)
  (h:Run P fn.ntmps (FinB P fn cs) [.code c] ⟨C0z args,fun _=>.undef⟩):PCB P f args cs:=by
 refine ⟨hok,fun w pub vals hgp hpub hlen hrep=>?_⟩
 have good:∀ w':World,(∀ k,¬ Base0.O ⟨w,fun _=>False,fun _=>Go.undef⟩ k→w'.heap[k]? = w.heap[k]?)→GP P w':=fun w' hw=>hgp.same fun k hk=>hw k (fun ho=>ho.elim (fun h=>absurd hk (Nat.not_lt.2 h)) id)
 refine calls_of_wp hf hb ?_
 have hO:Base0.O ⟨w,fun _=>False,fun _=>Go.undef⟩=fun b=>w.heap.size≤b:=by funext b;simp [Base0.O]
 have hrel:Rel fn.ntmps (⟨⟨w,fun _=>False,fun _=>Go.undef⟩,good⟩:Base P) pub ⟨C0z args,fun _=>.undef⟩ { tmps:=vals.toArray ++ Array.replicate (fn.ntmps - vals.toArray.size) undef,defers:=[] } w:=by
  refine ⟨pub,fun _=>Go.undef,fun _ _ h=>h,fun _ _ h=>.inl h,⟨rfl,by simp;omega,F0a.refl _ _,fun _ _=>rfl,hpub,fun t=>?_,fun n=>.undef,fun n m g h=>absurd rfl h,fun b o ho hb0=>absurd (hpub b o ho) (by show ¬ _;have:w.heap.size≤b:=hb0;omega),fun n own _ h=>by cases h⟩⟩
  have hsl:=D0x args t
  show RV pub w _ _ (C0z args t) _
  rw [hsl]
  by_cases ht:t<args.length
  ·have h1:args[t]? = some args[t]:=List.getElem?_eq_getElem ht
   have h2:vals[t]? = some (vals[t]'(by omega)):=List.getElem?_eq_getElem (by omega)
   have:=hrep t _ _ h1 h2
   have h3:(vals.toArray ++ Array.replicate (fn.ntmps - vals.toArray.size) undef).getD t Go.undef=vals[t]'(by omega):=by
    simp [Array.getElem?_append_left (show t<vals.toArray.size by simp;omega),show t<vals.length by omega]
   simp only [h1,Option.getD_some]
   rw [h3];exact .pure this
  have h1:args[t]? = none:=List.getElem?_eq_none (by omega)
  simp only [h1,Option.getD_none]
  exact .undef _
 refine Code.wp_mono (fun e a w' q=>?_) (h _ pub _ _ hrel)
 have fin:(∃ s,FinB P fn cs s∧Rel fn.ntmps (⟨⟨w,fun _=>False,fun _=>Go.undef⟩,good⟩:Base P) pub s a w')→a.defers=[]∧∃ v,(results fn a.tmps).run P w'=.ok v w'∧∃ v_1,Ending.returned v=.returned v_1∧E0f w.heap.size w w'∧∃ pub',(∀ b o,pub b o→pub' b o)∧(∀ b o,pub' b o→pub b o∨w.heap.size≤b)∧(∀ b o,pub' b o→b<w'.heap.size∧(w.heap.size≤b→w'.frozen? ⟨b,o,none⟩=false))∧BlkR pub' w' w.heap.size cs v_1:=by
  rintro ⟨s,⟨t,n,hres,hsl,hmn⟩,pub',V,c1,c2,hrel'⟩
  have hat:ResAt P s fn.results.toList [.lptr n 0]:=by rw [hres];exact .tmp t _ [] [] hsl .nil
  obtain ⟨vs,h1,h2,h3⟩:=L0q hrel' hat
  simp only [hO] at c2
  have hbel:E0f w.heap.size w w':=⟨⟨hrel'.below.os,hrel'.below.tape,hrel'.below.output,hrel'.below.size,fun k hk=>hrel'.below.block k (by rw [hO];omega)⟩,hrel'.below.drawn⟩
  match vs,h2 with
  | [v],_=>
   refine ⟨hrel'.defers,v,by simpa using h1,_,rfl,hbel,pub',c1,c2,fun b o ho=>⟨hrel'.pubLt b o ho,hrel'.soft b o ho⟩,?_⟩
   obtain ⟨x',cs',b,hm',hb,hv⟩:=(h3 0 _ v rfl rfl).lptr_inv
   rw [hmn] at hm';cases hm'
   have hk:=hrel'.mem n
   rw [hmn,hb] at hk
   cases hk with
   | blk _ _ g arr T hvv hB hgg hs hp hq hcc hr=>
    simp only [Value.pointer.injEq,Option.some.injEq,Addr.mk.injEq,and_true] at hvv
    subst hvv
    refine ⟨b,arr,T,hv,?_,hgg,hs,fun o ho=>(by have:=hp o ho;cases this),fun j c hj=>⟨(hcc j c hj).1,(hcc j c hj).2.plain (List.all_eq_true.1 hpl c (List.mem_of_getElem? hj))⟩⟩
    rw [hO] at hB;exact hB
 cases e with
 | normal=>exact fin q
 | ret=>exact fin q
 | _=>exact q.elim
theorem PCB.start {f:FuncId}{fn:Func}{N:Nat}{c:Code}{args cs:List PV}(hf:P.funcs[f]? = some fn)(hN:fn.ntmps=N)(hb:fn.body=some c)(hok:okFn P f=true)(hn:Nat.ble args.length N=true)(hpl:cs.all PV.plain=true)(h:Run P N (FinB P fn cs) [.code c] (St.of (J0x 0 args) [])):PCB P f args cs:=by
 subst hN
 refine PCB.intro hpl hf hb hok (Nat.le_of_ble_eq_true hn) ?_
 have e:(⟨C0z args,fun _=>.undef⟩:St)=St.of (J0x 0 args) []:=by
  unfold St.of
  congr 1
  funext t
  rw [D0x,J0e];simp
 rw [e];exact h
theorem R.finB {N:Nat}{fn:Func}{k:List Item}{S M:List (Nat×PV)}{t n:Nat}{cs:List PV}(hres:fn.results=#[.tmp t])(hv:look S t=some (.lptr n 0))(hm:look M n=some (.blk true cs)):Run P N (FinB P fn cs) (.code .ret::k) (St.of S M):=
 Run.ret ⟨t,n,hres,C0e hv,A0h hm⟩
end
section
variable {P:Program}{N:Nat}{all:Array Oper}{F:Nat→Foot}{i:Nat}{rest:List Oper}{S M:List (Nat×PV)}{K:St→Prop}{d:Nat}{ty:TypeId}{pos:String}{after:Array Edge}
theorem X.callB {fo:Operand}{args:Array Operand}{ats:Array TypeId}{f:FuncId}{xs cs:List PV}(hc:PCB P f xs cs)(hf:evO S fo=some (.fn f []))(hxs:evL S args.toList=some xs)(hpl:xs.all PV.plain=true)(hm:look M (64*d)=none)(hd:Nat.ble (d+1) N=true)(hF:(F i).okB [64*d] [64*d]=true)
  (h:SLx P N all F (i+1) rest (St.of ((d,.lptr (64*d) 0)::S) ((64*d,.blk true cs)::M)) K) :
  SLx P N all F i (⟨some d,.call { callee:=.value fo,args:=args,argTypes:=ats },ty,pos,after,none⟩::rest) (St.of S M) K:=by
 refine ⟨_,.semC _ d _ ty pos after none (.lptr (64*d) 0) [(64*d,.blk true cs)] [64*d] (fun g want e=>by cases e) (fun s a1 a2 w0 pub0 a w hR K Q' hK gd=>?_) (Nat.le_of_ble_eq_true hd) (Q0p hF),?_⟩
 rotate_left
 ·rw [P0w,R0o S [(64*d,.blk true cs)] M]
  exact h
 have hfo:s.ev fo=.fn f []:=(a1 fo (by simp [Op.operands,Call.operands])).trans (A0s hf)
 have hargs:args.toList.map s.ev=xs:=by
  rw [← M0k (M:=M) hxs]
  refine List.map_congr_left fun q hq=>a1 q ?_
  simp only [Op.operands,Call.operands]
  simp
  exact .inr (Array.mem_def.2 hq)
 have hundef:s.mem (64*d)=.undef:=(a2 _ (by simp)).trans (G0a hm)
 obtain ⟨pub,V,c1,c2,hrel⟩:=hR
 obtain ⟨hok,hcall⟩:=hc
 obtain ⟨arr,hfv,hsz,hcaps⟩:=(hfo ▸ hrel.ev fo).fn_inv
 rw [Q0j (W0d hok)] at hfv
 have harr:arr=#[]:=by cases arr;simp_all
 subst harr
 unfold Oper.wp
 have hrun:(execOp a.eval ⟨some d,.call { callee:=.value fo,args:=args,argTypes:=ats },ty,pos,after,gd⟩).run P w=.ok (.enter f (args.map a.eval)) w:=by
  simp [execOp,resolve,hfv,Deferred.ofValue,invoke,R0x hok]
 rw [hrun,Oper.upon_enter]
 have hlx:xs.length=args.size:=by
  have:=congrArg List.length hargs
  simpa using this.symm
 have hvals:(args.map a.eval)=((args.map a.eval).toList).toArray:=(Array.toArray_toList ..).symm
 rw [hvals]
 refine (hcall w pub ((args.map a.eval).toList) (Base.gp hrel.below) hrel.pubLt ?_ ?_).mono ?_
 ·simp [hlx]
 ·intro j q v h1 h2
  obtain ⟨x,hx,hrv⟩:=hrel.at_op args.toList j q (by rw [hargs];exact h1)
  have hv:v=a.eval x:=by
   have hx':args[j]? = some x:=by simpa using hx
   simp [hx'] at h2;exact h2.symm
  subst hv
  exact hrv.plain (List.all_eq_true.1 hpl q (List.mem_of_getElem? h1))
 rintro e w' ⟨v,rfl,hbel,pub',p1,p2,p3,g,arr,T,hv,hge,hgg,hs,hnp,hcc⟩
 obtain ⟨hrel2,hmono⟩:=hrel.worldPub hbel p1 p2 p3
 have hs0:w0.w.heap.size≤w.heap.size:=hrel.below.size
 obtain ⟨h3,_⟩:=hrel2.adoptB (64*d) (by omega) hundef (g0:=g) (cs:=cs) (fun V' m'=>.blk true cs g arr T rfl (.inl (by omega)) hgg hs (fun o ho=>absurd ho (hnp o)) (fun e=>by cases e) (fun j c hj=>⟨(hcc j c hj).1,.pure (hcc j c hj).2⟩) (fun e=>by cases e)) (fun k b hk hb hbg=>by
  have:=(hrel.mem k).block_lt hk hb
  omega)
 have hput:=h3.put d (Nat.le_of_ble_eq_true hd) (p:=.lptr (64*d) 0) (v:=v) (by rw [hv];exact .ref (.lptr (64*d) 0 true cs g (B0b _ _ _) (B0a _ _ _)))
 exact hK _ _ ⟨pub',_,fun b o ho=>p1 b o (c1 b o ho),fun b o ho=>(p2 b o ho).elim (c2 b o) (fun h=>.inr (.inl (by omega))),hput⟩
end

def fldAt (P:Program)(t:TypeId)(f:Nat):Option (TypeId×Nat):=
 match P.underlying t with
 | some (.struct fs)=>fs[f]?.map fun q=>(q.type,q.offset)
 | _=>none
section
variable {P:Program}{σ:Operand→PV}{m:Nat→PV}{d:Nat}
theorem AOp.fldV (t:TypeId)(x:Operand)(f ft off:Nat)(cs:List PV)(c:PV)(ht:fldAt P t f=some (ft,off))(hs:shp P ft=some (false,1))(hx:σ x=.agg cs)(hc:cs[off]? = some c):AOp P σ m d (.field t x f) c [] []:=
 .val fun N w0 pub V s a w e1 e2 hR=>by
  have hxe:=hR.ev x
  rw [(e1 x (by simp [Op.operands])).trans hx] at hxe
  have hagg:∃ arr:Array Value,a.eval x=.agg arr∧arr.size=cs.length∧∀(j:Nat) c,cs[j]? = some c→RV pub w V s.mem c (arr.getD j Go.undef):=by
   generalize a.eval x=v at hxe
   cases hxe with
   | pure h=>cases h with
    | agg _ arr hs hd hc=>exact ⟨arr,rfl,hs,fun j c hj=>.pure (hc j c hj)⟩
   | ref h=>cases h
   | agg _ arr hs hd hc=>exact ⟨arr,rfl,hs,hc⟩
  obtain ⟨arr,h1,h2,h3⟩:=hagg
  have hlt:off<arr.size:=by rw [h2];exact (List.getElem?_eq_some_iff.1 hc).1
  have hrv:=h3 off c hc
  refine ⟨arr.getD off Go.undef,fun _ _ _ _ _=>C0c ?_,hrv⟩
  unfold fldAt at ht
  split at ht <;> try cases ht
  rename_i fs hu
  cases hf:fs[f]? with
  | none=>rw [hf] at ht;cases ht
  | some q=>
   rw [hf] at ht
   simp only [Option.map_some,Option.some.injEq,Prod.mk.injEq] at ht
   obtain ⟨rfl,rfl⟩:=ht
   have hia:=X0w hs w
   have hg:arr[q.offset]? = some (arr.getD q.offset Go.undef):=by simp [hlt]
   rw [h1]
   simp [Instr.field,run_underlying hu,hf,part,asAgg,hia,hg,hlt,Result.andThen]
end
section
variable {P:Program}{N:Nat}{all:Array Oper}{F:Nat→Foot}{i:Nat}{rest:List Oper}{S M:List (Nat×PV)}{K:St→Prop}{d:Nat}{ty:TypeId}{pos:String}{after:Array Edge}
theorem X.fldV {t:TypeId}{x:Operand}{f ft off:Nat}{cs:List PV}{c:PV}(ht:fldAt P t f=some (ft,off))(hs:shp P ft=some (false,1))(hx:evO S x=some (.agg cs))(hc:cs[off]? = some c)(hd:Nat.ble (d+1) N=true)(h:SLx P N all F (i+1) rest (St.of ((d,c)::S) M) K) :
  SLx P N all F i (⟨some d,.field t x f,ty,pos,after,none⟩::rest) (St.of S M) K:=
 X.ofOp (U:=[]) (R:=[]) (.fldV t x f ft off cs c ht hs (A0s hx) hc) hd (D0q _) h
end

def nzI (b:Int):Option Unit:=bif b == 0 then none else some ()
theorem D1h {b:Int}{u:Unit}(h:nzI b=some u):b≠0:=fun e=>by subst e;cases h
section
variable {P:Program}{N:Nat}{all:Array Oper}{F:Nat→Foot}{i:Nat}{rest:List Oper}{S M:List (Nat×PV)}{K:St→Prop}{d:Nat}{ty:TypeId}{pos:String}{after:Array Edge}
theorem X.remN {t t':TypeId}{x y:Operand}{a b:Int}{u:Unit}(hb:nzI b=some u)(hx:evO S x=some (.lit (.int .i64 a)))(hy:evO S y=some (.lit (.int .i64 b)))(hd:Nat.ble (d+1) N=true)(h:SLx P N all F (i+1) rest (St.of ((d,.lit (.int .i64 (a.tmod b)))::S) M) K) :
  SLx P N all F i (⟨some d,.binOp .rem t x y t',ty,pos,after,none⟩::rest) (St.of S M) K:=
 X.bin hx hy rfl (if_neg (D1h hb)) (fun h=>by cases h) hd h
end
section
variable {P:Program}{N:Nat}{all:Array Oper}{F:Nat→Foot}{i:Nat}{rest:List Oper}{S M:List (Nat×PV)}{K:St→Prop}{d:Nat}{ty:TypeId}{pos:String}{after:Array Edge}
theorem X.assignU {x:Operand}(hd:Nat.ble (d+1) N=true)(h:SLx P N all F (i+1) rest (St.of ((d,.undef)::S) M) K) :
  SLx P N all F i (⟨some d,.assign x,ty,pos,after,none⟩::rest) (St.of S M) K:=
 X.ofOp (v:=.undef) (U:=[]) (R:=[]) (.val fun N w0 pub V s a w e1 e2 hR=>⟨a.eval x,fun _ _ _ _ _=>(by rfl),.undef _⟩) hd (D0q _) h
end
end Go.Px
namespace Go.Px
set_option linter.unusedSimpArgs false
set_option linter.unusedVariables false

theorem P0t {α:Type}{l:List α}{z:Int}{y:α}{ys:List α}(h0:0≤z)(h:l.drop z.toNat=y::ys):idxL l z=some y∧l.drop (z+1).toNat=ys:=by
 have hlt:z.toNat<l.length:=by
  have:=congrArg List.length h
  simp only [List.length_drop,List.length_cons] at this;omega
 rw [List.drop_eq_getElem_cons hlt] at h
 injection h with h1 h2
 refine ⟨?_,?_⟩
 ·simp [idxL,h0,hlt,h1]
 rw [show (z+1).toNat=z.toNat+1 by omega];exact h2
theorem K0r {α:Type}{l:List α}{z:Int}(h0:0≤z)(h:z<l.length):∃ y,idxL l z=some y∧y∈l:=by
 have hlt:z.toNat<l.length:=by omega
 exact ⟨l[z.toNat],by simp [idxL,h0,hlt],List.getElem_mem _⟩
theorem F0_gt:9223372036854775808<F0:=Nat.le_of_ble_eq_true rfl
theorem D0y {α:Type}(c:Bool)(x y:α):(bif c then some x else some y)=some (bif c then x else y):=by cases c <;> rfl
theorem D1a (a b:Bool):(bif a then b else false)=(a && b):=by cases a <;> rfl
theorem E1b (a b:Bool):(bif a then true else b)=(a || b):=by cases a <;> rfl

theorem T0k (a b:Int):(a != b) = !decide (a=b):=by by_cases h:a=b <;> simp [h]
theorem K0y (a b:Int):(a == b)=decide (a=b):=by by_cases h:a=b <;> simp [h]
theorem E1x (a b:ByteArray):(a == b)=decide (a=b):=by
 show (a.data == b.data)=_
 by_cases h:a=b
 ·subst h;simp
 have:a.data≠b.data:=fun e=>h (by cases a;cases b;simp at e;simp [e])
 simp [h,this]
theorem W_of {n:Int}(h:-9223372036854775808≤n∧n≤9223372036854775807):W n=n:=by
 show IntKind.i64.wrap n=n
 rw [IntKind.wrap_i64];omega
def SzOk {α:Type}(sz:α→Int→Option Int)(Q:α→Prop)(x:α):Prop:=∀ n,0≤n→n≤1048576→∃ m,sz x n=some m∧(m<0∨(m≤n∧Q x))
/-! ### Arguments -/
theorem B1e {xs:List PV}(h:Vals [] xs):xs=[]:=by cases xs with | nil=>rfl | cons _ _=>exact h.elim
theorem Y0s {T:Ty}{Ts:List Ty}{xs:List PV}(h:Vals (T::Ts) xs):∃ x ys,xs=x::ys∧Val T x∧Vals Ts ys:=by
 cases xs with
 | nil=>exact h.elim
 | cons x ys=>exact ⟨x,ys,rfl,h.1,h.2⟩
theorem B1y {T:Ty}{α:Type}{f:α→PV}{B:α→Prop}(hf:∀ p,Val T p→∃ x,p=f x∧B x){p:PV}(h:Val (.slice T) p):∃ l:List α,p=.slice (l.map f)∧l.length≤9223372036854775807∧∀ x∈l,B x:=by
 obtain ⟨l,rfl,h1,h2⟩:=h
 have:∃ k:List α,l=k.map f∧∀ x∈k,B x:=by
  clear h1
  induction l with
  | nil=>exact ⟨[],rfl,by simp⟩
  | cons x l ih=>
   obtain ⟨k,h3,h4⟩:=ih fun y hy=>h2 y (List.mem_cons_of_mem _ hy)
   obtain ⟨y,h5,h6⟩:=hf x (h2 x (List.mem_cons_self ..))
   exact ⟨y::k,by simp [h3,h5],fun z hz=>by
    rcases List.mem_cons.1 hz with rfl | hz
    ·exact h6
    exact h4 z hz⟩
 obtain ⟨k,rfl,h4⟩:=this
 exact ⟨k,rfl,by simpa using h1,h4⟩
end Go.Px
namespace Go.Px
set_option linter.unusedSimpArgs false
set_option linter.unusedVariables false

def mkL {α:Type}(c:Nat)(up:Int→α→α):Int→List α→List α
 | _,[]=>[]
 | k,x::xs=>up k x::mkL c up (k+c) xs
def MkOk {α:Type}(f:α→Int→Option Int)(B:Nat)(x:α):Prop:=∀ k:Int,0≤k→k+B≤9223372036854775807→∃ k',f x k=some k'∧k≤k'∧k'≤k+B
end Go.Px
namespace Go.Px
set_option linter.unusedSimpArgs false
set_option linter.unusedVariables false
end Go.Px
