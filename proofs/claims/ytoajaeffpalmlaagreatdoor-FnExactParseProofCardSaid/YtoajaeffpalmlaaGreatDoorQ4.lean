/-
  PROVED: general facts on pure values, contracts of functions, steps of programs and loops over lists, over any program. No condition beyond those that each theorem names.
-/
import Derived.Test.YtoajaeffpalmlaaGreatDoorQ3
namespace Go.Px
set_option linter.unusedSimpArgs false
set_option linter.unusedVariables false
open Go.RowKit
theorem run_buildSliceV {P:Program}{t len e sz by':Nat}(ht:eltOf P t=some (e,sz,by'))(hsz0:0<sz)(hlen:len*sz≤65536){z:List PV}(hz:zeroPV P e=some z)(hzl:z.length=sz)(us:List Value)(hus:us.length=len)(husz:∀ u∈us,u.cells.size=sz)(w:World) :
  ∃ arr:Array Value,(Instr.buildSlice t len ((List.range len).zip us).toArray).run P w=.ok (.slice (some ⟨w.heap.size,0,none⟩) len len) (w.alloc (.cells arr e))∧arr.toList=us.flatMap fun u=>u.cells.toList:=by
 obtain ⟨hu,x,hx,hx1,hx2⟩:=eltOf_spec ht
 subst hx1
 obtain ⟨zv,hzv,hzs,hzc⟩:=zeroPV_spec (P:=P) (w:=w) (pub:=fun _ _=>False) (V:=fun _=>Go.undef) hz
 let Q:PV→Value→Prop:=fun c u=>c=.undef∨c=.lit u
 let ps:List PV:=us.map fun u=>PV.agg (u.cells.toList.map PV.lit)
 have hsz:∀ p∈ps,p.cells.length=x.size:=fun p hp=>by
  obtain ⟨u,hu,rfl⟩:=List.mem_map.1 hp
  show (u.cells.toList.map PV.lit).length=_
  rw [List.length_map,Array.length_toList];exact husz u hu
 have hpl:ps.length=len:=by simp [ps,hus]
 have hfs:=fillPV_seq (sz:=x.size) ps 0 (List.replicate (len*x.size) .undef) hsz (by simp [hpl])
 have hflat:=flat_length hsz
 have hfs2:fillPV (fun i=>some (i*x.size,x.size)) (List.replicate (len*x.size) .undef) ((List.range len).zip ps)=some (flat ps):=by
  rw [List.range_eq_range',← hpl]
  rw [hpl] at hfs ⊢
  rw [hfs];simp
 have hfill:=fill_sound (Q:=Q) (place:=fun i=>some (i*x.size,x.size)) ((List.range len).zip us) ((List.range len).zip ps) ((Array.range (len*x.size)).map (zv.cells[· % zv.cells.size]!)) (List.replicate (len*x.size) .undef) (flat ps)
  (by rw [List.map_fst_zip (by rw [List.length_range,hus];exact Nat.le_refl _),List.map_fst_zip (by rw [List.length_range,hpl];exact Nat.le_refl _)]) (fun k iv ip h1 h2=>by
   rw [List.getElem?_zip_eq_some] at h1 h2
   have h3:ps[k]? = some ip.2:=h2.2
   have h4:us[k]? = some iv.2:=h1.2
   have h5:ip.2=PV.agg (iv.2.cells.toList.map PV.lit):=by
    simp only [ps,List.getElem?_map,h4,Option.map_some,Option.some.injEq] at h3
    exact h3.symm
   rw [h5]
   refine ⟨by show _=(iv.2.cells.toList.map PV.lit).length;simp,fun j c hj=>.inr ?_⟩
   have hj:(iv.2.cells.toList.map PV.lit)[j]? = some c:=hj
   rw [List.getElem?_map] at hj
   obtain ⟨u,hu,rfl⟩:=Option.map_eq_some_iff.1 hj
   rw [Array.getElem?_toList] at hu
   simp [hu]) ⟨by simp,fun j c hj=>.inl (by
    simp only [List.getElem?_replicate] at hj
    split at hj <;> simp_all)⟩ hfs2
 obtain ⟨arr,h1,h2⟩:=hfill
 have harr:arr.toList=us.flatMap fun u=>u.cells.toList:=by
  have hfl:flat ps=(us.flatMap fun u=>u.cells.toList).map PV.lit:=by
   have:∀ us:List Value,flat (us.map fun u=>PV.agg (u.cells.toList.map PV.lit))=(us.flatMap fun u=>u.cells.toList).map PV.lit:=by
    intro us
    induction us with
    | nil=>rfl
    | cons u us ih=>rw [List.map_cons,flat_cons,ih,List.flatMap_cons,List.map_append];rfl
   exact this us
  have hlen:arr.toList.length=(us.flatMap fun u=>u.cells.toList).length:=by
   have:=h2.1
   rw [hfl,List.length_map] at this
   simpa using this
  refine List.ext_getElem hlen fun j a1 a2=>?_
  have h3:(flat ps)[j]? = some (.lit ((us.flatMap fun u=>u.cells.toList)[j])):=by
   rw [hfl,List.getElem?_map,List.getElem?_eq_getElem a2];rfl
  rcases h2.2 j _ h3 with h4 | h4
  ·cases h4
  injection h4 with h4
  rw [h4]
  have:j<arr.size:=by simpa using a1
  simp [this]
 refine ⟨arr,?_,harr⟩
 have hin:(((List.range len).zip us).toArray).toList=(List.range len).zip us:=by simp
 have hgt:¬ (len*x.size > 2 ^ 24):=by
  have:(65536:Nat)≤2 ^ 24:=by decide
  omega
 unfold Instr.buildSlice
 rw [hin]
 simp only [Sem.run_bind,run_underlying hu,Result.andThen_ok]
 by_cases h0:len*x.size=0
 ·have h1':Instr.fill (fun i=>some (i*x.size,x.size)) ((Array.range (len*x.size)).map ((#[]:Array Value)[· % (#[]:Array Value).size]!)) ((List.range len).zip us)=some arr:=by
   rw [← h1];congr 1;rw [h0];simp
  simp [sizeOf,typeInfo,hx,h0]
  rw [h0] at h1'
  simp at h1'
  simp [h1',newRow]
 simp [sizeOf,typeInfo,hx,hgt,h0,hzv,h1,newRow]
inductive CellsT (M:List (Nat×PV)):List PV→List PV→List Nat→Prop where
 | nil:CellsT M [] [] []
 | lit (u:Value) (cs qs:List PV) (G:List Nat) (h:CellsT M cs qs G):CellsT M (.lit u::cs) (.lit u::qs) G
 | nils (cs qs:List PV) (G:List Nat) (h:CellsT M cs qs G):CellsT M (.nils::cs) (.nils::qs) G
 | own (m k e sz:Nat) (l cs qs:List PV) (G:List Nat) (hm:look M m=some (.obj true e sz l)) (hk:k=l.length) (hl:∀ c∈flat l,litC c) (hn:m∉G) (h:CellsT M cs qs G):CellsT M (.own m k::cs) (.obj true e sz l::qs) (m::G)
theorem CellsT.length {M:List (Nat×PV)}{cs qs:List PV}{G:List Nat}(h:CellsT M cs qs G):qs.length=cs.length:=by
 induction h <;> simp_all
def hOf:PV→Value→Value
 | .obj _ _ _ _,v=>v
 | _,_=>Go.undef
section
variable {P:Program}{N:Nat}{w0:Base P}{w w':World}{pub pub':Nat→Nat→Prop}{V:Nat→Value}{s:St}{a:Act}{S M S' M':List (Nat×PV)}
theorem MemOk.rowOk {B:Nat→Prop}{m:Nat→PV}{v:Value}{e sz:Nat}{l:List PV}(h:MemOk pub w V m B v (.obj true e sz l))(hl:∀ c∈flat l,litC c):RowOk w B v e sz l:=by
 cases h with
 | obj _ _ _ _ xs hsz hmx hll how hp hq hc=>
  refine ⟨xs,hsz,hmx,hll,how,fun i c hi=>?_⟩
  have h1:=hl c (List.mem_of_getElem? hi)
  obtain ⟨h2,h3⟩:=hc i c hi
  cases c with
  | lit x=>cases h3 with | lit _ h4=>exact ⟨_,rfl,h4,rfl⟩
  | _=>exact h1.elim
theorem CellsT.ok (hR:Rel0 N w0 pub V (St.of S M) a w){cs qs:List PV}{G:List Nat}(h:CellsT M cs qs G):∀(vs:List Value),vs.length=cs.length→(∀(j:Nat) c v,cs[j]? = some c→vs[j]? = some v→RV pub w V (St.of S M).mem c v) →
  (∀(j:Nat) q v,qs[j]? = some q→vs[j]? = some v→TCell w w0.O q v (hOf q v)∧v.oneCell'=true)∧((List.zipWith hOf qs vs).flatMap fun u=>u.ownBlock.toList).Nodup ∧
  ∀ g∈(List.zipWith hOf qs vs).flatMap fun u=>u.ownBlock.toList,∃ m∈G,(St.of S M).mem m≠.undef∧inB (V m) g∧∀ o,¬ pub g o:=by
 induction h with
 | nil=>intro vs hv _;exact ⟨fun j q v h=>by simp at h,by simp,fun g hg=>by simp at hg⟩
 | lit u cs qs G _ ih=>
  intro vs hv hrv
  match vs,hv with
  | v::vs,hv=>
   obtain ⟨h1,h2,h3⟩:=ih vs (by simpa using hv) (fun j c v a1 a2=>hrv (j+1) c v (by simpa using a1) (by simpa using a2))
   have h0:=(hrv 0 _ v rfl rfl).lit_inv
   refine ⟨fun j q x a1 a2=>?_,by rw [List.zipWith_cons_cons,List.flatMap_cons];exact h2,fun g hg=>h3 g (by rw [List.zipWith_cons_cons,List.flatMap_cons] at hg;exact hg)⟩
   cases j with
   | zero=>
    simp at a1 a2;subst a1;subst a2
    exact ⟨.inl ⟨by rw [h0.1],by rw [h0.1];exact h0.2,rfl⟩,by rw [h0.1];exact h0.2⟩
   | succ j=>exact h1 j q x (by simpa using a1) (by simpa using a2)
 | nils cs qs G _ ih=>
  intro vs hv hrv
  match vs,hv with
  | v::vs,hv=>
   obtain ⟨h1,h2,h3⟩:=ih vs (by simpa using hv) (fun j c v a1 a2=>hrv (j+1) c v (by simpa using a1) (by simpa using a2))
   have h0:=(hrv 0 _ v rfl rfl).nils_inv
   refine ⟨fun j q x a1 a2=>?_,by rw [List.zipWith_cons_cons,List.flatMap_cons];exact h2,fun g hg=>h3 g (by rw [List.zipWith_cons_cons,List.flatMap_cons] at hg;exact hg)⟩
   cases j with
   | zero=>
    simp at a1 a2;subst a1;subst a2
    exact ⟨.inr (.inl ⟨rfl,h0,rfl⟩),by rw [h0];rfl⟩
   | succ j=>exact h1 j q x (by simpa using a1) (by simpa using a2)
 | own m k e sz l cs qs G hm hk hl hn _ ih=>
  intro vs hv hrv
  match vs,hv with
  | v::vs,hv=>
   obtain ⟨h1,h2,h3⟩:=ih vs (by simpa using hv) (fun j c v a1 a2=>hrv (j+1) c v (by simpa using a1) (by simpa using a2))
   obtain ⟨x',e',sz',l',hm',_,hv'⟩:=(hrv 0 _ v rfl rfl).own_inv
   rw [look_mem hm] at hm';cases hm'
   have hvV:=hv' hk
   have hmn:=hR.mem m
   rw [look_mem hm,← hvV] at hmn
   have hne:(St.of S M).mem m≠.undef:=by rw [look_mem hm];intro e;cases e
   have hob:=hmn.obj_block
   have hinB:∀ g,v.ownBlock=some g→inB (V m) g:=fun g hg=>.inl (by rw [← hvV,hob.1];exact hg)
   have hnp:∀ g o,v.ownBlock=some g→¬ pub g o:=fun g o hg=>hmn.excl (.inl ⟨_,_,_,rfl⟩) (.inl (by rw [hob.1];exact hg))
   refine ⟨fun j q x a1 a2=>?_,?_,fun g hg=>?_⟩
   ·cases j with
    | zero=>
     simp at a1 a2;subst a1;subst a2
     exact ⟨.inr (.inr ⟨e,sz,l,rfl,rfl,hmn.rowOk hl⟩),hmn.slice_val.1⟩
    | succ j=>exact h1 j q x (by simpa using a1) (by simpa using a2)
   ·rw [List.zipWith_cons_cons,List.flatMap_cons]
    refine List.nodup_append.2 ⟨by show (v.ownBlock.toList).Nodup;cases v.ownBlock <;> simp,h2,fun g1 hg1 g2 hg2 e=>?_⟩
    subst e
    obtain ⟨m2,hm2,hu2,hb2,_⟩:=h3 g1 hg2
    have hg1':v.ownBlock=some g1:=by simpa [hOf] using hg1
    have:=hR.apart m m2 g1 hne hu2 (hinB g1 hg1') hb2
    subst this
    exact hn hm2
   rw [List.zipWith_cons_cons,List.flatMap_cons,List.mem_append] at hg
   rcases hg with hg | hg
   ·have hg':v.ownBlock=some g:=by simpa [hOf] using hg
    exact ⟨m,List.mem_cons_self ..,hne,hinB g hg',fun o=>hnp g o hg'⟩
   obtain ⟨m2,hm2,r⟩:=h3 g hg
   exact ⟨m2,List.mem_cons_of_mem _ hm2,r⟩
theorem CellsT.values {p:PV}{u:Value}{qs:List PV}{G:List Nat}(hR:Rel0 N w0 pub V (St.of S M) a w)(h:CellsT M p.cells qs G)(hv:RV pub w V (St.of S M).mem p u):u.cells.size=p.cells.length∧∀(j:Nat) c v,p.cells[j]? = some c→u.cells.toList[j]? = some v→RV pub w V (St.of S M).mem c v:=by
 have one:∀(hp:p.cells=[p])(h1:u.cells=#[u]),u.cells.size=p.cells.length∧∀(j:Nat) c v,p.cells[j]? = some c→u.cells.toList[j]? = some v→RV pub w V (St.of S M).mem c v:=fun hp h1=>by
  rw [hp,h1]
  refine ⟨rfl,fun j c v a1 a2=>?_⟩
  have hj:j=0:=by have:=(List.getElem?_eq_some_iff.1 a1).1;simpa using this
  subst hj
  simp at a1 a2
  subst a1;subst a2;exact hv
 cases p with
 | agg cs=>
  obtain ⟨arr,rfl,hs,hc⟩:=hv.agg_inv
  refine ⟨hs,fun j c v a1 a2=>?_⟩
  have:arr.getD j Go.undef=v:=by
   have a2:arr.toList[j]? = some v:=a2
   rw [Array.getElem?_toList] at a2;simp [a2]
  rw [← this]
  exact (hc j c a1).2
 | lit x=>
  refine one rfl ?_
  have:=hv.lit_inv
  rw [this.1]
  have h1:=this.2
  cases x <;> first | rfl | cases h1
 | nils=>exact one rfl (by rw [hv.nils_inv];rfl)
 | own m k=>
  refine one rfl ?_
  have h:CellsT M [.own m k] qs G:=h
  cases h with
  | own _ _ e sz l _ qs G hm hk hl hn h=>
   obtain ⟨x',e',sz',l',hm',_,hv'⟩:=hv.own_inv
   rw [look_mem hm] at hm';cases hm'
   have hmn:=hR.mem m
   rw [look_mem hm,← hv' hk] at hmn
   have h2:=hmn.slice_val.2
   cases u <;> first | rfl | exact absurd rfl (h2 _)
 | _=>
  exfalso
  have h2:=h
  simp only [PV.cells] at h2
  cases h2
theorem memB_false {n:Nat}:∀{L:List (Nat×PV)},memB n (L.map (·.1))=false→look L n=none
 | [],_=>rfl
 | (m,p)::L,h=>by
  have h:(bif Nat.beq m n then true else memB n (L.map (·.1)))=false:=h
  show (bif Nat.beq m n then some p else look L n)=none
  cases hb:Nat.beq m n with
  | true=>rw [hb] at h;cases h
  | false=>rw [hb] at h;exact memB_false h
theorem look_ne {n k:Nat}{L:List (Nat×PV)}(hn:memB n (L.map (·.1))=false)(hk:(St.of S L).mem k≠.undef):k≠n:=fun e=>by
 subst e
 exact hk (look_none (memB_false hn))
theorem Rel0.unnamed (h:Rel0 N w0 pub V s a w)(hb:BelowB w0 w w')(h1:∀ k g,s.mem k≠.undef→inB (V k) g→w'.heap[g]? = w.heap[g]?)(h2:∀ g o,pub g o→w'.heap[g]? = w.heap[g]?):Rel0 N w0 pub V s a w':=by
 have t:Tr pub w V s.mem pub w' V s.mem (fun _=>False):=
  ⟨fun _ _ h=>h,fun b o ho=>cellOB' (h2 b o ho),fun _ _ h=>h,fun _ _ _=>rfl,fun _ _=>rfl,fun n g _ hu hg=>⟨h1 n g hu hg,fun _ ho=>ho⟩,fun _ _ _ hT=>hT.elim⟩
 exact h.turn t hb (fun _ _=>rfl) (fun b o ho=>Nat.lt_of_lt_of_le (h.pubLt b o ho) hb.size) (fun _ hn=>hn.elim) (fun n k g hne h1 h2 h3 h4=>hne (h.apart n k g h1 h2 h3 h4)) (fun _ _ _ h=>h) (fun b o ho hb0=>by rw [frozenOB' (h2 b o ho)];exact h.soft b o ho hb0)
end
section
variable {P:Program}{N:Nat}{Q:St→Prop}{k:List Item}{S M S' M':List (Nat×PV)}{all:Array Oper}{rest:List Oper}{d:Nat}{ty:TypeId}{pos:String}{after:Array Edge}
theorem notIn_names {G:List Nat}(hG:(G.all fun n=>!memB n (M'.map (·.1)))=true){n:Nat}(hn:n∈G):memB n (M'.map (·.1))=false:=by
 have:=List.all_eq_true.1 hG n hn
 simpa using this
theorem Run.buildT1 {t e sz by':Nat}{y:Operand}{p q:PV}{z:List PV}{G:List Nat}(ht:eltOf P t=some (e,sz,by'))(hsz0:Nat.ble 1 sz=true)(hsz1:Nat.ble sz 65536=true)(hz:zeroPV P e=some z)(hzl:z.length=sz)(hy:evO S y=some p)(hc:CellsT M p.cells q.cells G)(hql:q.cells.length=sz)
  (hS:AllLook S S') (hM:AllLook M M') (hG:(G.all fun n=>!memB n (M'.map (·.1)))=true) (hd0:look M' (64*d)=none) (hr:(S'.all fun q=>refsB 3 (M'.map (·.1)) q.2)=true) (hrm:(M'.all fun q=>refsM (M'.map (·.1)) q.2)=true) (hd:Nat.ble (d+1) N=true)
  (h:Run P N Q (.ops all rest::k) (St.of ((d,.tref (64*d) 1 .out)::S') ((64*d,.tre e sz [q])::M'))) :
  Run P N Q (.ops all (⟨some d,.buildSlice t 1 #[(0,y)],ty,pos,after,none⟩::rest)::k) (St.of S M):=fun w0 pub0 a w hR=>by
 obtain ⟨pub,V,c1,c2,hrel⟩:=hR
 have hye:=hrel.ev y
 rw [evO_spec (M:=M) hy] at hye
 obtain ⟨hv1,hv2⟩:=hc.values hrel hye
 have hql':=hc.length
 have hus:(a.eval y).cells.size=sz:=by rw [hv1,← hql',hql]
 have hsz0':0<sz:=Nat.le_of_ble_eq_true hsz0
 have hsz1':sz≤65536:=Nat.le_of_ble_eq_true hsz1
 obtain ⟨arr,hrun,harr⟩:=run_buildSliceV (P:=P) ht hsz0' (len:=1) (by omega) hz hzl [a.eval y] rfl (fun u hu=>by simp at hu;subst hu;exact hus) w
 have harr:arr.toList=(a.eval y).cells.toList:=by simpa using harr
 obtain ⟨k1,k2,k3⟩:=hc.ok hrel (a.eval y).cells.toList (by rw [Array.length_toList,hv1]) hv2
 have hrel1:=hrel.world ((BelowD.refl _ _).alloc (Nat.le_refl _) (.cells arr e))
 have hrel2:=hrel1.sub hS hM hr hrm
 have hnew:∀ g,g<w.heap.size→(w.alloc (.cells arr e)).heap[g]? = w.heap[g]?:=fun g hg=>by
  show (w.heap.push _)[g]? = _
  rw [Array.getElem?_push_lt hg]
  exact (Array.getElem?_eq_getElem hg).symm
 let hs:=List.zipWith hOf q.cells arr.toList
 have hhs:hs.length=sz:=by
  show (List.zipWith hOf q.cells arr.toList).length=sz
  rw [List.length_zipWith,hql,harr,Array.length_toList,hus];exact Nat.min_self _
 have hin:∀ g,g∈hs.flatMap (fun u=>u.ownBlock.toList)→g<w.heap.size∧w0.O g∧(∀ o,¬ pub g o)∧∃ m∈G,(St.of S M).mem m≠.undef∧inB (V m) g:=fun g hg=>by
  have hg':g∈(List.zipWith hOf q.cells (a.eval y).cells.toList).flatMap fun u=>u.ownBlock.toList:=by rw [← harr];exact hg
  obtain ⟨m,hm,hu,hb,hp⟩:=k3 g hg'
  refine ⟨(hrel.mem m).block_lt hu hb,?_,hp,m,hm,hu,hb⟩
  obtain ⟨i,hi,hgi⟩:=hs_cell hg'
  have hi1:i<q.cells.length:=by rw [List.length_zipWith] at hi;omega
  have hi2:i<(a.eval y).cells.toList.length:=by rw [List.length_zipWith] at hi;omega
  have htc:=(k1 i _ _ (List.getElem?_eq_getElem hi1) (List.getElem?_eq_getElem hi2)).1
  have e1:(List.zipWith hOf q.cells (a.eval y).cells.toList).getD i Go.undef=hOf q.cells[i] (a.eval y).cells.toList[i]:=by
   rw [List.getD_eq_getElem?_getD,List.getElem?_eq_getElem hi];simp
  rw [e1] at hgi
  rcases htc with ⟨_,_,e⟩ | ⟨_,_,e⟩ | ⟨e2,sz2,l2,_,e,ys,_,_,_,h4,_⟩
  ·rw [e] at hgi;cases hgi
  ·rw [e] at hgi;cases hgi
  rw [e] at hgi;exact h4.2 g hgi
 have hflq:flat [q]=q.cells:=by rw [flat_cons,flat_nil,List.append_nil]
 have hmem:MemOk pub (w.alloc (.cells arr e)) (fun _=>Go.undef) (fun _=>.undef) w0.O (treV (.slice (some ⟨w.heap.size,0,none⟩) 1 1) hs) (.tre e sz [q]):=by
  refine .tre e sz [q] _ hs arr.toList rfl hsz0' (by simp) (fun p hp=>by simp at hp;subst hp;exact hql) ⟨rowG.of (base:=0) ⟨by rw [harr,Array.length_toList,hus];simp,.inr ⟨w.heap.size,1,arr,rfl,Nat.zero_le _,heap_alloc_new w _,Nat.le_refl _,by decide,?_,?_⟩⟩ (eltOf_lt ht),fun g hg=>?_⟩ (by rw [hhs];simp) ?_ (fun g o hg=>?_) (fun i c hi=>?_)
  ·have:arr.size=arr.toList.length:=by simp
   rw [this,harr,Array.length_toList,hus];simp
  ·rw [List.take_of_length_le]
   have:arr.toList.length=sz:=by rw [harr,Array.length_toList,hus]
   simp only [List.length_singleton];omega
  ·simp [Value.ownBlock] at hg;subst hg;exact .inl hrel.below.size
  ·refine List.nodup_append.2 ⟨by simp [Value.ownBlock],by show (hs.flatMap _).Nodup;rw [show hs=List.zipWith hOf q.cells (a.eval y).cells.toList from by rw [← harr]];exact k2,fun g1 h1 g2 h2 e=>?_⟩
   simp [Value.ownBlock] at h1
   have:=(hin g2 h2).1
   omega
  ·rcases List.mem_append.1 hg with h1 | h1
   ·simp [Value.ownBlock] at h1
    intro ho
    have:=hrel.pubLt g o ho
    omega
   exact (hin g h1).2.2.1 o
  rw [hflq] at hi
  have hi1:i<q.cells.length:=(List.getElem?_eq_some_iff.1 hi).1
  have hi2:i<(a.eval y).cells.toList.length:=by rw [Array.length_toList,hus];omega
  have htc:=(k1 i c _ hi (List.getElem?_eq_getElem hi2)).1
  have e0:arr.toList.getD i Go.undef=(a.eval y).cells.toList[i]:=by
   rw [harr,List.getD_eq_getElem?_getD,List.getElem?_eq_getElem hi2];rfl
  have e1:hs.getD i Go.undef=hOf c (a.eval y).cells.toList[i]:=by
   have h3:hs[i]? = some (hOf c (a.eval y).cells.toList[i]):=by
    show (List.zipWith hOf q.cells arr.toList)[i]? = _
    rw [List.getElem?_zipWith,hi,harr,List.getElem?_eq_getElem hi2]
   rw [List.getD_eq_getElem?_getD,h3];rfl
  rw [e0,e1]
  exact htc.of_block fun g hg=>hnew g (hin g (by
   have h3:hs[i]? = some (hOf c (a.eval y).cells.toList[i]):=by
    show (List.zipWith hOf q.cells arr.toList)[i]? = _
    rw [List.getElem?_zipWith,hi,harr,List.getElem?_eq_getElem hi2]
   exact List.mem_flatMap.2 ⟨_,List.mem_of_getElem? h3,by simpa using hg⟩)).1
 have h0:(St.of S' M').mem (64*d)=.undef:=look_none hd0
 obtain ⟨h3,_⟩:=hrel2.adoptT (64*d) (by omega) h0 (fun _ h=>h) hmem (fun j g hj hg hgt=>by
  have hj1:(St.of S M).mem j≠.undef:=by
   cases hk':look M' j with
   | none=>exact absurd (look_none hk') hj
   | some p=>
    rw [look_mem (hM.at hk')]
    rw [look_mem hk'] at hj;exact hj
  rcases List.mem_append.1 hgt with h1 | h1
  ·simp [Value.ownBlock] at h1
   have:=(hrel.mem j).block_lt hj1 hg
   omega
  obtain ⟨_,_,_,m,hm,hu,hb⟩:=hin g h1
  have:=hrel.apart j m g hj1 hu hg hb
  exact look_ne (notIn_names hG hm) hj this)
 have e3:(⟨(St.of S' M').slot,upd (St.of S' M').mem (64*d) (.tre e sz [q])⟩:St)=St.of S' ((64*d,.tre e sz [q])::M'):=congrArg (fun m=>St.mk (St.of S' M').slot m) (look_upd M' (64*d) _)
 rw [e3] at h3
 have hl0:look ((64*d,PV.tre e sz [q])::M') (64*d)=some (.tre e sz [q]):=by
  show (bif Nat.beq (64*d) (64*d) then _ else _)=_
  rw [Nat.beq_refl];rfl
 have h5:=h3.put d (Nat.le_of_ble_eq_true hd) (p:=.tref (64*d) 1 .out) (v:=.slice (some ⟨w.heap.size,0,none⟩) 1 1) (.ref (.tref (64*d) 1 .out _ e sz [q] (look_mem hl0) (Nat.le_refl _) (fun _=>by rw [updV_same];exact ⟨_,hs,rfl,rfl⟩)))
 have e4:(⟨upd (St.of S' ((64*d,.tre e sz [q])::M')).slot d (.tref (64*d) 1 .out),(St.of S' ((64*d,.tre e sz [q])::M')).mem⟩:St)=St.of ((d,.tref (64*d) 1 .out)::S') ((64*d,.tre e sz [q])::M'):=congrArg (fun m=>St.mk m (St.of S' ((64*d,.tre e sz [q])::M')).mem) (look_upd S' d _)
 rw [e4] at h5
 refine wpList_plain rfl fun K hK=>?_
 unfold Oper.wp
 have hrun':(execOp a.eval ⟨some d,.buildSlice t 1 #[(0,y)],ty,pos,after,none⟩).run P w=.ok (.value (.slice (some ⟨w.heap.size,0,none⟩) 1 1)) (w.alloc (.cells arr e)):=by
  have:((List.range 1).zip [a.eval y]).toArray=#[(0,a.eval y)]:=rfl
  rw [this] at hrun
  have e5:(#[(0,y)]:Array (Nat×Operand)).map (fun (i,y)=>(i,a.eval y))=#[(0,a.eval y)]:=by simp
  have:=run_value (P:=P) hrun
  rw [← e5] at this
  exact this
 rw [hrun']
 exact hK _ _ (h w0 pub0 _ _ ⟨pub,_,c1,c2,h5⟩)
end
end Go.Px
namespace Go.Px
set_option linter.unusedSimpArgs false
set_option linter.unusedVariables false
open Go.RowKit
section
variable {P:Program}{N:Nat}{Q:St→Prop}{k:List Item}{S M S' M':List (Nat×PV)}{all:Array Oper}{rest:List Oper}{d:Nat}{ty:TypeId}{pos:String}{after:Array Edge}
theorem Rel0.takeT {w0:Base P}{w:World}{pub:Nat→Nat→Prop}{V V':Nat→Value}{m':Nat→PV}{a:Act}{n e sz:Nat}{l:List PV}{v0:Value}{hs:List Value}(h:Rel0 N w0 pub V (St.of S M) a w)(hn63:n % 64≠63)(hn:look M n=none)(hm:MemOk pub w V' m' w0.O (treV v0 hs) (.tre e sz l))(hap:∀ k g,(St.of S M).mem k≠.undef→inB (V k) g→g∈treBs v0 hs→False)(d:Nat)(hd:d<N) :
  Rel0 N w0 pub (updV V n (treV v0 hs)) (St.of ((d,.tref n l.length .out)::S) ((n,.tre e sz l)::M)) (a.put (some d) v0) w:=by
 have h3:=(h.adoptT n hn63 (look_none hn) (fun _ h=>h) hm hap).1
 have e3:(⟨(St.of S M).slot,upd (St.of S M).mem n (.tre e sz l)⟩:St)=St.of S ((n,.tre e sz l)::M):=congrArg (fun m=>St.mk (St.of S M).slot m) (look_upd M n _)
 rw [e3] at h3
 have hl0:look ((n,PV.tre e sz l)::M) n=some (.tre e sz l):=by
  show (bif Nat.beq n n then _ else _)=_
  rw [Nat.beq_refl];rfl
 have h5:=h3.put d hd (p:=.tref n l.length .out) (v:=v0) (.ref (.tref n _ .out _ e sz l (look_mem hl0) (Nat.le_refl _) (fun _=>by rw [updV_same];exact ⟨_,hs,rfl,rfl⟩)))
 have e4:(⟨upd (St.of S ((n,.tre e sz l)::M)).slot d (.tref n l.length .out),(St.of S ((n,.tre e sz l)::M)).mem⟩:St)=St.of ((d,.tref n l.length .out)::S) ((n,.tre e sz l)::M):=congrArg (fun m=>St.mk m (St.of S ((n,.tre e sz l)::M)).mem) (look_upd S d _)
 rw [e4] at h5
 exact h5
theorem Run.buildT0 {t e sz by':Nat}{z:List PV}(ht:eltOf P t=some (e,sz,by'))(hsz0:Nat.ble 1 sz=true)(hz:zeroPV P e=some z)(hzl:z.length=sz)(hd0:look M (64*d)=none)(hd:Nat.ble (d+1) N=true)
  (h:Run P N Q (.ops all rest::k) (St.of ((d,.tref (64*d) 0 .out)::S) ((64*d,.tre e sz [])::M))) :
  Run P N Q (.ops all (⟨some d,.buildSlice t 0 #[],ty,pos,after,none⟩::rest)::k) (St.of S M):=fun w0 pub0 a w hR=>by
 obtain ⟨pub,V,c1,c2,hrel⟩:=hR
 have hsz0':0<sz:=Nat.le_of_ble_eq_true hsz0
 obtain ⟨arr,hrun,harr⟩:=run_buildSliceV (P:=P) ht hsz0' (len:=0) (by omega) hz hzl [] rfl (fun u hu=>by cases hu) w
 have harr:arr.toList=[]:=by simpa using harr
 have hrel1:=hrel.world ((BelowD.refl _ _).alloc (Nat.le_refl _) (.cells arr e))
 have hmem:MemOk pub (w.alloc (.cells arr e)) (fun _=>Go.undef) (fun _=>.undef) w0.O (treV (.slice (some ⟨w.heap.size,0,none⟩) 0 0) []) (.tre e sz []):=by
  refine .tre e sz [] _ [] [] rfl hsz0' (by simp) (fun p hp=>by cases hp) ⟨rowG.of (base:=0) ⟨by simp,.inr ⟨w.heap.size,0,arr,rfl,Nat.zero_le _,heap_alloc_new w _,Nat.le_refl _,by decide,?_,by simp⟩⟩ (eltOf_lt ht),fun g hg=>?_⟩ (by simp) (by simp [treBs,Value.ownBlock]) (fun g o hg ho=>?_) (fun i c hi=>by simp at hi)
  ·have:arr.size=arr.toList.length:=by simp
   rw [this,harr];simp
  ·simp [Value.ownBlock] at hg;subst hg;exact .inl hrel.below.size
  simp [treBs,Value.ownBlock] at hg
  have:=hrel.pubLt g o ho
  omega
 have h5:=hrel1.takeT (n:=64*d) (by omega) hd0 hmem (fun j g hj hg hgt=>by
  simp [treBs,Value.ownBlock] at hgt
  have:=(hrel.mem j).block_lt hj hg
  omega) d (Nat.le_of_ble_eq_true hd)
 refine wpList_plain rfl fun K hK=>?_
 unfold Oper.wp
 have hrun':(execOp a.eval ⟨some d,.buildSlice t 0 #[],ty,pos,after,none⟩).run P w=.ok (.value (.slice (some ⟨w.heap.size,0,none⟩) 0 0)) (w.alloc (.cells arr e)):=by
  have e5:(#[]:Array (Nat×Operand)).map (fun (i,y)=>(i,a.eval y))=((List.range 0).zip ([]:List Value)).toArray:=by simp
  have:=run_value (P:=P) hrun
  rw [← e5] at this
  exact this
 rw [hrun']
 exact hK _ _ (h w0 pub0 _ _ ⟨pub,_,c1,c2,h5⟩)
theorem Run.appT {t e sz by' n n2 j j2:Nat}{x y:Operand}{z l l2 lr:List PV}(hlr:l ++ l2=lr)(ht:eltOf P t=some (e,sz,by'))(hby:Nat.ble by' 128=true)(hz:zeroPV P e=some z)(hzl:z.length=sz)(hx:evO S x=some (.tref n j .out))(hm:look M n=some (.tre e sz l))(hj:j=l.length)(hy:evO S y=some (.tref n2 j2 .out))(hm2:look M n2=some (.tre e sz l2))(hj2:j2=l2.length)(hne:Nat.beq n n2=false)(hl2:Nat.ble 1 l2.length=true)(hbd:l.length+l2.length≤1099511627776)(hn63:Nat.beq (n % 64) 63=false)
  (hS:AllLook S S') (hM:AllLook M M') (hn:memB n (M'.map (·.1))=false) (hn2:memB n2 (M'.map (·.1))=false) (hr:(S'.all fun q=>refsB 3 (M'.map (·.1)) q.2)=true) (hrm:(M'.all fun q=>refsM (M'.map (·.1)) q.2)=true) (hd:Nat.ble (d+1) N=true)
  (h:Run P N Q (.ops all rest::k) (St.of ((d,.tref n lr.length .out)::S') ((n,.tre e sz lr)::M'))) :
  Run P N Q (.ops all (⟨some d,.call { callee:=.builtin .append,args:=#[x,y],argTypes:=#[t,t] },ty,pos,after,none⟩::rest)::k) (St.of S M):=fun w0 pub0 a w hR=>by
 subst hlr
 obtain ⟨pub,V,c1,c2,hrel⟩:=hR
 have hn63':n % 64≠63:=fun e=>by rw [e] at hn63;cases hn63
 have hnn:n≠n2:=fun e=>by subst e;rw [Nat.beq_refl] at hne;cases hne
 have hl2':1≤l2.length:=Nat.le_of_ble_eq_true hl2
 have hxe:=hrel.ev x
 rw [evO_spec (M:=M) hx] at hxe
 obtain ⟨e1,sz1,l1,hm1,_,hv⟩:=hxe.tref_inv
 rw [look_mem hm] at hm1;cases hm1
 obtain ⟨v0,hs,hV,hvx⟩:=hv hj
 have hye:=hrel.ev y
 rw [evO_spec (M:=M) hy] at hye
 obtain ⟨e1,sz1,l1,hm1,_,hv2⟩:=hye.tref_inv
 rw [look_mem hm2] at hm1;cases hm1
 obtain ⟨u0,ks,hV2,hvy⟩:=hv2 hj2
 have hmn:=hrel.mem n
 have hmn2:=hrel.mem n2
 rw [look_mem hm,hV] at hmn
 rw [look_mem hm2,hV2] at hmn2
 have hu1:(St.of S M).mem n≠.undef:=by rw [look_mem hm];intro e;cases e
 have hu2:(St.of S M).mem n2≠.undef:=by rw [look_mem hm2];intro e;cases e
 have hap:∀ g,g∈treBs v0 hs→g∈treBs u0 ks→False:=fun g h1 h2=>hnn (hrel.apart n n2 g hu1 hu2 (by rw [hV];exact inB_tre.2 h1) (by rw [hV2];exact inB_tre.2 h2))
 have hblk1:=fun g (hg:g∈treBs v0 hs)=>hmn.tre_block (inB_tre.2 hg)
 have hblk2:=fun g (hg:g∈treBs u0 ks)=>hmn2.tre_block (inB_tre.2 hg)
 obtain ⟨hu,i,hi,hi1,hi2⟩:=eltOf_spec ht
 obtain ⟨zv,hzv,hzs,_⟩:=zeroPV_spec (P:=P) (w:=w) (pub:=pub) (V:=V) hz
 have hiz:i.zero=some zv:=by
  simp only [zeroValue,typeInfo,Sem.run_bind,run_program,Result.andThen_ok,hi,Sem.run_pure] at hzv
  cases hzz:i.zero with
  | none=>simp [hzz] at hzv
  | some z'=>simp [hzz] at hzv;rw [hzv]
 cases hmn with
 | tre _ _ _ v1 hs1 xs hv1 hsz hmx hl how hhl hnd hp hc=>
  obtain ⟨rfl,rfl⟩:=treV_inj hv1
  cases hmn2 with
  | tre _ _ _ v2 ks1 xs2 hv2' hsz2 hmx2 hll2 how2 hhl2 hnd2 hp2 hc2=>
   obtain ⟨rfl,rfl⟩:=treV_inj hv2'
   have hxs2:=how2.1.1
   obtain ⟨g2,cap2,cur2,hu0,_,⟨fr2,hh2,hfr2⟩,hn2c,hcm2,hcs2,htk2⟩:=how2.1.2.resolve_left (fun h=>by have:=h.2;omega)
   have hnews:∀(j:Nat) u,xs2[j]? = some u→w.cell? ((⟨g2,0,none⟩:Addr).add j)=some u:=how2.1.cells (g:=g2) (by rw [hu0];rfl)
   have hone2:∀ u∈xs2,u.oneCell'=true:=fun u hu=>by
    obtain ⟨i,hi,rfl⟩:=List.mem_iff_getElem.1 hu
    have hfl:i<(flat l2).length:=by rw [flat_length hll2];omega
    have e:xs2.getD i Go.undef=xs2[i]:=by rw [List.getD_eq_getElem?_getD,List.getElem?_eq_getElem hi];rfl
    rcases hc2 i _ (List.getElem?_eq_getElem hfl) with ⟨_,h,_⟩ | ⟨_,h,_⟩ | ⟨e2,sz2,rl,_,_,ys,_,_,_,h4,_⟩
    ·rw [← e];exact h
    ·rw [← e,h];rfl
    rw [← e]
    rcases h4.1.2 with ⟨h,_⟩ | ⟨_,_,_,h,_⟩ <;> rw [h] <;> rfl
   have hmax:l.length+l2.length≤maxLen:=by simp only [maxLen];omega
   have hbd2:(l.length+l2.length)*by'≤140737488355328:=Nat.le_trans (Nat.mul_le_mul hbd (Nat.le_of_ble_eq_true hby)) (by decide)
   obtain ⟨v',w',hrun,ho,hg,hm0,hblk,hpre,hfro⟩:=run_append_own2 (P:=P) (ty:=0) hu hi hiz hi1 hi2 (hzs.trans hzl) hsz (how.1.plain (eltOf_lt ht)) (ad:=⟨g2,0,none⟩) (c:=cap2) hxs2 hnews hone2 hmax hbd2 (Nat.zero_le _)
   have hoB:∀ g,v'.ownBlock=some g→w0.O g:=fun g hg'=>by
    rcases hblk with hbb | hbb
    ·exact how.2 g (hbb ▸ hg')
    exact .inl (Nat.le_trans hrel.below.size (hbb g hg'))
   have hdr:(0:Nat)≤0:=Nat.le_refl 0
   have hbel:BelowB w0 w w':=⟨hg.os,hg.tape,hg.output,hg.size,fun q hq=>hg.block q (by
    have h1:¬ w0.w.heap.size≤q:=fun e=>hq (.inl e)
    have h2:w0.w.heap.size≤w.heap.size:=hrel.below.size
    omega) (fun e=>hq (how.2 q e.symm)),hdr⟩
   have hkey:∀ j,(St.of S' M').mem j≠.undef→(St.of S M).mem j≠.undef∧j≠n∧j≠n2:=fun j hj=>⟨by
    cases hk':look M' j with
    | none=>exact absurd (look_none hk') hj
    | some p=>
     rw [look_mem (hM.at hk')]
     rw [look_mem hk'] at hj;exact hj,look_ne hn hj,look_ne hn2 hj⟩
   have hst:∀ g,g<w.heap.size→v0.ownBlock≠some g→w'.heap[g]? = w.heap[g]?:=fun g h1 h2=>hg.block g h1 (fun e=>h2 e.symm)
   have hrel2:=(hrel.sub hS hM hr hrm).unnamed hbel (fun j g hj hgj=>by
    obtain ⟨a1,a2,_⟩:=hkey j hj
    exact hst g ((hrel.mem j).block_lt a1 hgj) (fun e=>a2 (hrel.apart j n g a1 hu1 hgj (by rw [hV];exact inB_tre.2 (treBs_mem0 e))))) (fun g o hpo=>hst g (hrel.pubLt g o hpo) (fun e=>hp g o (treBs_mem0 e) hpo))
   have hrow1:∀ g,g∈hs.flatMap (fun u=>u.ownBlock.toList)→g<w.heap.size∧v0.ownBlock≠some g:=fun g hgr=>⟨(hblk1 g (List.mem_append.2 (.inr hgr))).1.2,fun e=>(List.nodup_append.1 hnd).2.2 g (by simp [e]) g hgr rfl⟩
   have hrow2:∀ g,g∈ks.flatMap (fun u=>u.ownBlock.toList)→g<w.heap.size∧v0.ownBlock≠some g:=fun g hgr=>⟨(hblk2 g (List.mem_append.2 (.inr hgr))).1.2,fun e=>hap g (treBs_mem0 e) (List.mem_append.2 (.inr hgr))⟩
   have hv'r:∀ g,v'.ownBlock=some g→g∈hs.flatMap (fun u=>u.ownBlock.toList)∨g∈ks.flatMap (fun u=>u.ownBlock.toList)→False:=fun g hg' hin=>by
    rcases hblk with hbb | hbb
    ·rw [hbb] at hg'
     rcases hin with h | h
     ·exact (hrow1 g h).2 hg'
     exact (hrow2 g h).2 hg'
    have:=hbb g hg'
    rcases hin with h | h
    ·have:=(hrow1 g h).1;omega
    have:=(hrow2 g h).1;omega
   have hbs:treBs v' (hs ++ ks)=v'.ownBlock.toList ++ (hs.flatMap (fun u=>u.ownBlock.toList) ++ ks.flatMap fun u=>u.ownBlock.toList):=by
    unfold treBs;rw [List.flatMap_append]
   have hfl:=flat_length hl
   have hmem:MemOk pub w' (fun _=>Go.undef) (fun _=>.undef) w0.O (treV v' (hs ++ ks)) (.tre e sz (l ++ l2)):=by
    refine .tre e sz _ v' (hs ++ ks) (xs ++ xs2) rfl hsz (by rw [List.length_append];exact hmax) (fun q hq=>?_) ⟨by rw [List.length_append];exact .of ho (eltOf_lt ht),hoB⟩ (by rw [List.length_append,List.length_append,hhl,hhl2,Nat.add_mul]) ?_ (fun g o hgt=>?_) (fun i c hi=>?_)
    ·rcases List.mem_append.1 hq with h1 | h1
     ·exact hl q h1
     exact hll2 q h1
    ·rw [hbs]
     refine List.nodup_append.2 ⟨by cases v'.ownBlock <;> simp,List.nodup_append.2 ⟨(List.nodup_append.1 hnd).2.1,(List.nodup_append.1 hnd2).2.1,fun g1 h1 g2 h2 e=>?_⟩,fun g1 h1 g2 h2 e=>?_⟩
     ·subst e
      exact hap g1 (List.mem_append.2 (.inr h1)) (List.mem_append.2 (.inr h2))
     subst e
     exact hv'r g1 (by simpa using h1) (List.mem_append.1 h2)
    ·rw [hbs] at hgt
     rcases List.mem_append.1 hgt with h1 | h1
     ·have h1:v'.ownBlock=some g:=by simpa using h1
      rcases hblk with hbb | hbb
      ·exact hp g o (treBs_mem0 (hbb ▸ h1))
      intro hpo
      have:=hbb g h1
      have:=hrel.pubLt g o hpo
      omega
     rcases List.mem_append.1 h1 with h1 | h1
     ·exact hp g o (List.mem_append.2 (.inr h1))
     exact hp2 g o (List.mem_append.2 (.inr h1))
    rw [flat_append] at hi
    have hxs:=how.1.1
    by_cases hlt:i<(flat l).length
    ·rw [List.getElem?_append_left hlt] at hi
     have h1:=hc i c hi
     have h2:(xs ++ xs2).getD i Go.undef=xs.getD i Go.undef:=by
      simp [List.getElem?_append_left (show i<xs.length by omega)]
     have h3:(hs ++ ks).getD i Go.undef=hs.getD i Go.undef:=by
      simp [List.getElem?_append_left (show i<hs.length by omega)]
     rw [h2,h3]
     refine h1.of_block fun g hgr=>?_
     have h4:g∈hs.flatMap (fun u=>u.ownBlock.toList):=by
      have hil:i<hs.length:=by omega
      refine List.mem_flatMap.2 ⟨hs[i],List.getElem_mem hil,?_⟩
      rw [List.getD_eq_getElem?_getD,List.getElem?_eq_getElem hil] at hgr
      simpa using hgr
     exact hst g (hrow1 g h4).1 (hrow1 g h4).2
    rw [List.getElem?_append_right (by omega)] at hi
    have h1:=hc2 _ c hi
    have h2:(xs ++ xs2).getD i Go.undef=xs2.getD (i - (flat l).length) Go.undef:=by
     simp [List.getElem?_append_right (show xs.length≤i by omega),hxs,hfl]
    have h3:(hs ++ ks).getD i Go.undef=ks.getD (i - (flat l).length) Go.undef:=by
     simp [List.getElem?_append_right (show hs.length≤i by omega),hhl,hfl]
    rw [h2,h3]
    refine h1.of_block fun g hgr=>?_
    have hil:i - (flat l).length<ks.length:=by
     have:=(List.getElem?_eq_some_iff.1 hi).1
     rw [flat_length hll2] at this
     omega
    have h4:g∈ks.flatMap (fun u=>u.ownBlock.toList):=by
     refine List.mem_flatMap.2 ⟨ks[i - (flat l).length],List.getElem_mem hil,?_⟩
     rw [List.getD_eq_getElem?_getD,List.getElem?_eq_getElem hil] at hgr
     simpa using hgr
    exact hst g (hrow2 g h4).1 (hrow2 g h4).2
   have h5:=hrel2.takeT (n:=n) hn63' (memB_false hn) hmem (fun j g hj hgj hgt=>by
    obtain ⟨a1,a2,a3⟩:=hkey j hj
    rw [hbs] at hgt
    rcases List.mem_append.1 hgt with h1 | h1
    ·have h1:v'.ownBlock=some g:=by simpa using h1
     rcases hblk with hbb | hbb
     ·exact a2 (hrel.apart j n g a1 hu1 hgj (by rw [hV];exact inB_tre.2 (treBs_mem0 (hbb ▸ h1))))
     have:=hbb g h1
     have:=(hrel.mem j).block_lt a1 hgj
     omega
    rcases List.mem_append.1 h1 with h1 | h1
    ·exact a2 (hrel.apart j n g a1 hu1 hgj (by rw [hV];exact inB_tre.2 (List.mem_append.2 (.inr h1))))
    exact a3 (hrel.apart j n2 g a1 hu2 hgj (by rw [hV2];exact inB_tre.2 (List.mem_append.2 (.inr h1))))) d (Nat.le_of_ble_eq_true hd)
   refine wpList_plain rfl fun K hK=>?_
   unfold Oper.wp
   have hrun':(execOp a.eval ⟨some d,.call { callee:=.builtin .append,args:=#[x,y],argTypes:=#[t,t] },ty,pos,after,none⟩).run P w=.ok (.value v') w':=by
    have hr':(Builtin.append_ #[t,t] ty #[a.eval x,a.eval y]).run P w=.ok v' w':=by rw [hvx,hvy,hu0];exact hrun
    simp [execOp,resolve,invoke,builtin,hr']
   rw [hrun']
   exact hK _ _ (h w0 pub0 _ _ ⟨pub,_,c1,c2,h5⟩)
end
end Go.Px
namespace Go.Px
set_option linter.unusedSimpArgs false
set_option linter.unusedVariables false
open Go.RowKit
section
variable {P:Program}{N:Nat}{w0:Base P}{w w':World}{pub pub':Nat→Nat→Prop}{V:Nat→Value}{s:St}{a:Act}
theorem MemOk.tre_cell {B:Nat→Prop}{m:Nat→PV}{v0:Value}{hs:List Value}{e sz:Nat}{l:List PV}(h:MemOk pub w V m B (treV v0 hs) (.tre e sz l)){i:Nat}{c:PV}(hi:(flat l)[i]? = some c) :
  ∃ g cap x,v0=.slice (some ⟨g,0,none⟩) l.length cap∧w.cell? ⟨g,i,none⟩=some x∧x.oneCell'=true∧TCell w B c x (hs.getD i Go.undef)∧w.frozen? ⟨g,i,none⟩=false∧i<hs.length:=by
 cases h with
 | tre _ _ _ v1 ks xs hv hsz hmx hl how hhl hnd hp hc=>
  obtain ⟨rfl,rfl⟩:=treV_inj hv
  have hfl:=flat_length hl
  have hil:i<(flat l).length:=(List.getElem?_eq_some_iff.1 hi).1
  have hpos:0<l.length:=by
   rcases Nat.eq_zero_or_pos l.length with h | h
   ·rw [h] at hfl;omega
   exact h
  obtain ⟨g,cap,cur,k1,_,⟨fr,k2,hfr⟩,k3,k4,k5,k6⟩:=how.1.2.resolve_left (fun h=>by have:=h.2;omega)
  have hxs:=how.1.1
  have hlt2:i<l.length*sz:=by omega
  have h7:cur.toList[i]? = xs[i]?:=by rw [← k6,List.getElem?_take_of_lt hlt2]
  have hcl:w.cell? ⟨g,i,none⟩=some (xs.getD i Go.undef):=by
   simp only [World.cell?,k2,Option.isSome_none,Bool.false_eq_true,if_false]
   rw [← Array.getElem?_toList,h7]
   have:i<xs.length:=by omega
   simp [this]
  have htc:=hc i c hi
  refine ⟨g,cap,_,k1,hcl,?_,htc,not_frozen k2 hfr ?_,by omega⟩
  ·rcases htc with ⟨_,h,_⟩ | ⟨_,h,_⟩ | ⟨e2,sz2,rl,_,_,ys,_,_,_,h4,_⟩
   ·exact h
   ·rw [h];rfl
   rcases h4.1.2 with ⟨h,_⟩ | ⟨_,_,_,h,_⟩ <;> rw [h] <;> rfl
  have hle:l.length*sz≤cap*sz:=Nat.mul_le_mul_right _ k3
  omega
theorem Rel0.turnTre (h:Rel0 N w0 pub V s a w){n e sz:Nat}{l l2:List PV}{v0:Value}{hs:List Value}(hm:s.mem n=.tre e sz l)(hV:V n=treV v0 hs)(hlen:l2.length=l.length)(hsh:ShapeL l l2)(hsize:w.heap.size≤w'.heap.size)(hos:w'.os=w.os)(htape:w'.tape=w.tape)(hout:w'.output=w.output)(hdr:(0:Nat)≤0)
  (hblocks:∀ g,g<w.heap.size→g∉treBs v0 hs→w'.heap[g]? = w.heap[g]?) (p1:∀ b o,pub b o→pub' b o) (p2:∀ b o,pub' b o→pub b o∨w.heap.size≤b) (p3:∀ b o,pub' b o→b<w'.heap.size∧(w.heap.size≤b→w'.frozen? ⟨b,o,none⟩=false))
  (hok:MemOk pub' w' (fun _=>Go.undef) (fun _=>.undef) w0.O (treV v0 hs) (.tre e sz l2)) :
  Rel0 N w0 pub' V { s with mem:=upd s.mem n (.tre e sz l2) } a w'∧∀ p v,RV pub w V s.mem p v→RV pub' w' V (upd s.mem n (.tre e sz l2)) p v:=by
 have hmn:=h.mem n
 rw [hm,hV] at hmn
 have hu:s.mem n≠.undef:=by rw [hm];intro e;cases e
 have hbk:=fun g (hg:g∈treBs v0 hs)=>hmn.tre_block (inB_tre.2 hg)
 have refs:∀ q u,RefOk V s.mem q u→RefOk V (upd s.mem n (.tre e sz l2)) q u:=by
  intro q u hq
  cases hq with
  | own k j _ x e sz l hm' hk hh=>
   have hne:k≠n:=fun e=>by rw [e,hm] at hm';cases hm'
   exact .own k j u x e sz l ((upd_ne _ _ hne).trans hm') hk hh
  | lptr k off x cs b hm' hv=>
   have hne:k≠n:=fun e=>by rw [e,hm] at hm';cases hm'
   exact .lptr k off x cs b ((upd_ne _ _ hne).trans hm') hv
  | eptr k j i off _ x e sz l hm' hk hh=>
   have hne:k≠n:=fun e=>by rw [e,hm] at hm';cases hm'
   exact .eptr k j i off u x e sz l ((upd_ne _ _ hne).trans hm') hk hh
  | osl k j i i2 _ x e sz l hm' hk hij hh=>
   have hne:k≠n:=fun e=>by rw [e,hm] at hm';cases hm'
   exact .osl k j i i2 u x e sz l ((upd_ne _ _ hne).trans hm') hk hij hh
  | tref k j tp _ e' sz' l' hm' hk hh=>
   by_cases hne:k=n
   ·subst hne
    rw [hm] at hm';cases hm'
    exact .tref k j tp u e sz l2 (upd_same _ _ _) (by omega) (fun e=>(hh (by omega)).shape hlen hsh)
   exact .tref k j tp u e' sz' l' ((upd_ne _ _ hne).trans hm') hk hh
 have hnpub:∀ g o,pub g o→g∉treBs v0 hs:=fun g o ho hg=>(hbk g hg).2 o ho
 have t:Tr pub w V s.mem pub' w' V (upd s.mem n (.tre e sz l2)) (fun k=>k=n):=
  ⟨p1,fun b o ho=>cellOB' (hblocks b (h.pubLt b o ho) (hnpub b o ho)),refs,fun _ _ _=>rfl,fun k hk=>upd_ne _ _ hk,
  fun k g hk hu' hg=>⟨hblocks g ((h.mem k).block_lt hu' hg) (fun e=>hk (h.apart k n g hu' hu hg (by rw [hV];exact inB_tre.2 e))),fun o ho=>(p2 g o ho).resolve_right (by have:=(h.mem k).block_lt hu' hg;omega)⟩,fun c s' own hT hm'=>by subst hT;rw [hm] at hm';cases hm'⟩
 have hbel:BelowB w0 w w':=⟨hos,htape,hout,hsize,fun k hk=>hblocks k (by
  have h1:¬ w0.w.heap.size≤k:=fun e=>hk (.inl e)
  have h2:w0.w.heap.size≤w.heap.size:=h.below.size
  omega) (fun e=>hk (hbk k e).1.1),hdr⟩
 refine ⟨h.turn t hbel (fun _ _=>rfl) (fun b o ho=>(p3 b o ho).1) (fun k hk=>?_) (fun i k g hne h1 h2 h3 h4=>?_) (fun i own _ hmi=>by
  by_cases hi:i=n
  ·subst hi;rw [upd_same] at hmi;cases hmi
  ·rwa [upd_ne _ _ hi] at hmi) (fun b o ho hb0=>by
  by_cases hn:w.heap.size≤b
  ·exact (p3 b o ho).2 hn
  have ho1:=(p2 b o ho).resolve_right hn
  rw [frozenOB' (hblocks b (by omega) (hnpub b o ho1))]
  exact h.soft b o ho1 hb0),fun p u hu=>t.rv hu⟩
 ·subst hk
  rw [upd_same,hV]
  exact hok.tre_rebase fun _ h=>h
 ·have f:∀ j,upd s.mem n (.tre e sz l2) j≠.undef→s.mem j≠.undef:=fun j hj=>by
   by_cases e:j=n
   ·rw [e];exact hu
   rwa [upd_ne _ _ e] at hj
  exact hne (h.apart i k g (f i h1) (f k h2) h3 h4)
theorem flat_setC {sz:Nat}:∀{l:List PV}(hl:∀ q∈l,q.cells.length=sz){i off:Nat}{el ne c:PV},l[i]? = some el→ne.cells=el.cells.set off c→off<sz→flat (l.set i ne)=(flat l).set (i*sz+off) c
 | [],_,i,off,el,ne,c,h,_,_=>by simp at h
 | x::l,hl,0,off,el,ne,c,h,hc,ho=>by
  simp at h;subst h
  have hx:=hl x (List.mem_cons_self ..)
  rw [List.set_cons_zero,flat_cons,flat_cons,hc,Nat.zero_mul,Nat.zero_add,List.set_append,if_pos (by omega)]
 | x::l,hl,i+1,off,el,ne,c,h,hc,ho=>by
  have hx:=hl x (List.mem_cons_self ..)
  rw [List.set_cons_succ,flat_cons,flat_cons,flat_setC (fun q hq=>hl q (List.mem_cons_of_mem _ hq)) (by simpa using h) hc ho,List.set_append,if_neg (by rw [hx,Nat.add_mul];omega),hx]
  congr 2
  rw [Nat.add_mul];omega
theorem flat_at2 {sz:Nat}{l:List PV}(hl:∀ q∈l,q.cells.length=sz){i off:Nat}{el c:PV}(hi:l[i]? = some el)(hc:el.cells[off]? = some c):(flat l)[i*sz+off]? = some c:=flat_get hl hi hc
end
section
variable {P:Program}{N:Nat}{Q:St→Prop}{k:List Item}{S M S' M':List (Nat×PV)}{all:Array Oper}{rest:List Oper}{d:Nat}{ty:TypeId}{pos:String}{after:Array Edge}
theorem Run.val {op:Op}{p:PV}(hd:Nat.ble (d+1) N=true)(hrun:∀(w0:Base P) pub V a w,Rel0 N w0 pub V (St.of S M) a w→∃ v,(execOp a.eval ⟨some d,op,ty,pos,after,none⟩).run P w=.ok (.value v) w∧RV pub w V (St.of S M).mem p v)
  (h:Run P N Q (.ops all rest::k) (St.of ((d,p)::S) M)):Run P N Q (.ops all (⟨some d,op,ty,pos,after,none⟩::rest)::k) (St.of S M):=fun w0 pub0 a w hR=>by
 obtain ⟨pub,V,c1,c2,hrel⟩:=hR
 obtain ⟨v,h1,h2⟩:=hrun w0 pub V a w hrel
 have h5:=hrel.put d (Nat.le_of_ble_eq_true hd) h2
 have e4:(⟨upd (St.of S M).slot d p,(St.of S M).mem⟩:St)=St.of ((d,p)::S) M:=congrArg (fun m=>St.mk m (St.of S M).mem) (look_upd S d _)
 rw [e4] at h5
 refine wpList_plain rfl fun K hK=>?_
 unfold Oper.wp
 rw [h1]
 exact hK _ _ (h w0 pub0 _ _ ⟨pub,V,c1,c2,h5⟩)
theorem Rel0.treAt {w0:Base P}{w:World}{pub:Nat→Nat→Prop}{V:Nat→Value}{a:Act}(hR:Rel0 N w0 pub V (St.of S M) a w){x:Operand}{n j e sz:Nat}{l:List PV}{p:TP}(hx:evO S x=some (.tref n j p))(hm:look M n=some (.tre e sz l))(hj:j=l.length) :
  ∃ v0 hs,V n=treV v0 hs∧MemOk pub w V (St.of S M).mem w0.O (treV v0 hs) (.tre e sz l)∧TVal (V n) sz l p (a.eval x):=by
 have hxe:=hR.ev x
 rw [evO_spec (M:=M) hx] at hxe
 obtain ⟨e1,sz1,l1,hm1,_,hv⟩:=hxe.tref_inv
 rw [look_mem hm] at hm1;cases hm1
 have hmn:=hR.mem n
 rw [look_mem hm] at hmn
 have hv:=hv hj
 generalize hV:V n=vn at *
 cases hmn with
 | tre _ _ _ v0 hs xs hv1 hsz hmx hl how hhl hnd hp hc=>exact ⟨v0,hs,hv1,hv1 ▸ .tre e sz l v0 hs xs hv1 hsz hmx hl how hhl hnd hp hc,hv⟩
theorem Run.idxT {t e sz by':Nat}{x y:Operand}{n j:Nat}{l:List PV}{kk:IntKind}{i:Int}{m:Nat}(ht:eltOf P t=some (e,sz,by'))(hx:evO S x=some (.tref n j .out))(hm:look M n=some (.tre e sz l))(hj:j=l.length)(hy:evO S y=some (.lit (.int kk i)))(hi:0≤i∧i<l.length)(hmi:m=i.toNat)(hd:Nat.ble (d+1) N=true)
  (h:Run P N Q (.ops all rest::k) (St.of ((d,.tref n j (.cell m 0))::S) M)):Run P N Q (.ops all (⟨some d,.indexAddr t x y,ty,pos,after,none⟩::rest)::k) (St.of S M):=
 Run.val hd (fun w0 pub V a w hR=>by
  obtain ⟨v0,hs,hV,hmn,v1,ks,h1,h2⟩:=hR.treAt hx hm hj
  rw [hV] at h1
  obtain ⟨rfl,rfl⟩:=treV_inj h1
  have hye:=hR.ev y
  rw [evO_spec (M:=M) hy] at hye
  have h4:=hye.lit_inv.1
  have h3:∃ g cap,v0=.slice (some ⟨g,0,none⟩) l.length cap:=by
   cases hmn with
   | tre _ _ _ v1 ks xs hv1 hsz hmx hl how hhl hnd hp hc=>
    obtain ⟨rfl,rfl⟩:=treV_inj hv1
    obtain ⟨g,cap,cur,h,_⟩:=how.1.2.resolve_left (fun h=>by have:=h.2;omega)
    exact ⟨g,cap,h⟩
  obtain ⟨g,cap,h3⟩:=h3
  subst hmi
  refine ⟨.pointer (some ⟨g,i.toNat*sz+0,none⟩),run_value ?_,.ref (.tref n j _ _ e sz l (look_mem hm) (Nat.le_of_eq hj) (fun _=>⟨v0,hs,g,cap,hV,h3,rfl⟩))⟩
  rw [h2,h3,h4]
  have:=run_indexAt (P:=P) (w:=w) ht kk i g 0 l.length cap hi.1 (by omega)
  rw [Nat.zero_add] at this;exact this) h
theorem Run.fldT {t f o':Nat}{x:Operand}{n j i off e sz:Nat}{l:List PV}(ht:fldOff P t f=some o')(hx:evO S x=some (.tref n j (.cell i off)))(hm:look M n=some (.tre e sz l))(hj:j=l.length)(hd:Nat.ble (d+1) N=true)
  (h:Run P N Q (.ops all rest::k) (St.of ((d,.tref n j (.cell i (off+o')))::S) M)):Run P N Q (.ops all (⟨some d,.fieldAddr t x f,ty,pos,after,none⟩::rest)::k) (St.of S M):=
 Run.val hd (fun w0 pub V a w hR=>by
  obtain ⟨v0,hs,hV,hmn,v1,ks,g,cap,h1,h2,h3⟩:=hR.treAt hx hm hj
  refine ⟨.pointer (some ⟨g,i*sz+(off+o'),none⟩),run_value ?_,.ref (.tref n j _ _ e sz l (look_mem hm) (Nat.le_of_eq hj) (fun _=>⟨v1,ks,g,cap,h1,h2,rfl⟩))⟩
  rw [h3,← Nat.add_assoc]
  exact run_fieldAt ht g _) h
theorem Run.ldT {t:TypeId}{x:Operand}{n j i off e sz e2 sz2 q:Nat}{l rl:List PV}(ht:shp P t=some (false,1))(hx:evO S x=some (.tref n j (.cell i off)))(hm:look M n=some (.tre e sz l))(hj:j=l.length)(hq:q=i*sz+off)(hc:(flat l)[q]? = some (.obj true e2 sz2 rl))(hd:Nat.ble (d+1) N=true)
  (h:Run P N Q (.ops all rest::k) (St.of ((d,.tref n j (.row q))::S) M)):Run P N Q (.ops all (⟨some d,.load t x,ty,pos,after,none⟩::rest)::k) (St.of S M):=
 Run.val hd (fun w0 pub V a w hR=>by
  obtain ⟨v0,hs,hV,hmn,v1,ks,g,cap,h1,h2,h3⟩:=hR.treAt hx hm hj
  rw [hV] at h1
  obtain ⟨rfl,rfl⟩:=treV_inj h1
  obtain ⟨g',cap',u,h4,h5,h6,h7,h8,h9⟩:=hmn.tre_cell hc
  rw [h2] at h4
  simp only [Value.slice.injEq,Option.some.injEq,Addr.mk.injEq,and_true,true_and] at h4
  obtain ⟨rfl,rfl⟩:=h4
  subst hq
  have hrun:(loadVar t ⟨g,i*sz+off,none⟩).run P w=.ok u w:=by
   obtain ⟨u',hu,hru⟩:=run_loadPV (P:=P) (w:=w) (m:=(St.of S M).mem) (V:=V) (pub:=pub) ht (.inr rfl) g (i*sz+off) 0 [.lit u] (fun _=>u) (fun j c hj=>by
    have hj0:j=0:=by have:=(List.getElem?_eq_some_iff.1 hj).1;simpa using this
    subst hj0
    simp at hj;subst hj
    exact ⟨by rw [Nat.add_zero];exact h5,h6,.pure (.lit u h6)⟩) (r:=.lit u) (by simp [loadPV])
   rw [hru.lit_inv.1] at hu
   exact hu
  refine ⟨u,run_value (by rw [h3];exact hrun),.ref (.tref n j _ _ e sz l (look_mem hm) (Nat.le_of_eq hj) (fun _=>⟨v0,hs,e2,sz2,rl,hV,hc,?_⟩))⟩
  rcases h7 with ⟨h,_⟩ | ⟨h,_⟩ | ⟨_,_,_,_,h,_⟩
  ·cases h
  ·cases h
  exact h.symm) h
end
end Go.Px
namespace Go.Px
set_option linter.unusedSimpArgs false
set_option linter.unusedVariables false
open Go.RowKit
theorem setCell_heap {w:World}{g q T:Nat}{cur:Array Value}{fr:Nat×Nat}{v:Value}(hh:w.heap[g]? = some (.cells cur T fr)):(w.setCell ⟨g,q,none⟩ v).heap[g]? = some (.cells (cur.setIfInBounds q v) T fr):=by
 simp [World.setCell,Array.getElem?_modify,hh]
theorem setCell_other {w:World}{g q k:Nat}{v:Value}(h:k≠g):(w.setCell ⟨g,q,none⟩ v).heap[k]? = w.heap[k]?:=by
 simp [World.setCell,Array.getElem?_modify,Ne.symm h]
section
variable {w w':World}{pub pub':Nat→Nat→Prop}{V:Nat→Value}{m:Nat→PV}{B:Nat→Prop}
theorem hs_block {hs:List Value}{i g:Nat}(hi:i<hs.length)(hg:(hs.getD i Go.undef).ownBlock=some g):g∈hs.flatMap fun u=>u.ownBlock.toList:=by
 refine List.mem_flatMap.2 ⟨hs[i],List.getElem_mem hi,?_⟩
 rw [List.getD_eq_getElem?_getD,List.getElem?_eq_getElem hi] at hg
 simpa using hg
theorem flatMap_nodup_ne:∀{hs:List Value}{i j g:Nat},(hs.flatMap fun u=>u.ownBlock.toList).Nodup→i<hs.length→j<hs.length→i≠j→(hs.getD i Go.undef).ownBlock=some g→(hs.getD j Go.undef).ownBlock=some g→False
 | [],i,j,g,_,hi,_,_,_,_=>by simp at hi
 | x::hs,0,0,g,_,_,_,h,_,_=>h rfl
 | x::hs,0,j+1,g,hn,_,hj,_,h1,h2=>by
  rw [List.flatMap_cons] at hn
  exact (List.nodup_append.1 hn).2.2 g (by simpa using h1) g (hs_block (hs:=hs) (i:=j) (by simpa using hj) (by simpa using h2)) rfl
 | x::hs,i+1,0,g,hn,hi,_,_,h1,h2=>by
  rw [List.flatMap_cons] at hn
  exact (List.nodup_append.1 hn).2.2 g (by simpa using h2) g (hs_block (hs:=hs) (i:=i) (by simpa using hi) (by simpa using h1)) rfl
 | x::hs,i+1,j+1,g,hn,hi,hj,h,h1,h2=>by
  rw [List.flatMap_cons] at hn
  exact flatMap_nodup_ne (List.nodup_append.1 hn).2.1 (by simpa using hi) (by simpa using hj) (by omega) (by simpa using h1) (by simpa using h2)
theorem MemOk.tre_set {v0:Value}{hs:List Value}{e sz g cap q:Nat}{l l2:List PV}{u0 u1:Value}(h:MemOk pub w V m B (treV v0 hs) (.tre e sz l))(hv0:v0=.slice (some ⟨g,0,none⟩) l.length cap)(hq:(flat l)[q]? = some (.lit u0))(h1:u1.oneCell'=true)(hlen:l2.length=l.length)(hl2:∀ p∈l2,p.cells.length=sz)(hfl:flat l2=(flat l).set q (.lit u1)) :
  MemOk pub (w.setCell ⟨g,q,none⟩ u1) V m B (treV v0 hs) (.tre e sz l2):=by
 cases h with
 | tre _ _ _ v1 ks xs hv hsz hmx hl how hhl hnd hp hc=>
  obtain ⟨rfl,rfl⟩:=treV_inj hv
  have hfll:=flat_length hl
  have hql:q<(flat l).length:=(List.getElem?_eq_some_iff.1 hq).1
  rcases how.1.2 with ⟨k1,k2⟩ | ⟨g',cap',cur,k1,k0,⟨fr,k2,hfr⟩,k3,k4,k5,k6⟩
  ·rw [hv0] at k1;cases k1
  rw [hv0] at k1
  simp only [Value.slice.injEq,Option.some.injEq,Addr.mk.injEq,and_true,true_and] at k1
  obtain ⟨rfl,rfl⟩:=k1
  have hxs:=how.1.1
  have hg0:v0.ownBlock=some g:=by rw [hv0];rfl
  have hrow:∀ b,b∈hs.flatMap (fun u=>u.ownBlock.toList)→b≠g:=fun b hb e=>(List.nodup_append.1 hnd).2.2 g (by simp [hg0]) b hb e.symm
  refine .tre e sz l2 v0 hs (xs.set q u1) rfl hsz (by omega) hl2 ⟨⟨by rw [List.length_set,hlen];exact hxs,.inr ⟨g,cap,_,by rw [hlen];exact hv0,k0,⟨fr,setCell_heap k2,hfr.size (by simp)⟩,by omega,k4,by simpa using k5,?_⟩⟩,how.2⟩ (by rw [hlen];exact hhl) hnd hp (fun i c hi=>?_)
  ·rw [hlen,Array.toList_setIfInBounds,List.take_set,k6]
  rw [hfl,List.getElem?_set] at hi
  by_cases hqi:q=i
  ·subst hqi
   rw [if_pos rfl,if_pos hql] at hi
   cases hi
   have e1:(xs.set q u1).getD q Go.undef=u1:=by
    rw [List.getD_eq_getElem?_getD,List.getElem?_set_self (by omega)];rfl
   rw [e1]
   refine .inl ⟨rfl,h1,?_⟩
   rcases hc q _ hq with ⟨_,_,h⟩ | ⟨h,_⟩ | ⟨_,_,_,h,_⟩
   ·exact h
   ·cases h
   cases h
  rw [if_neg hqi] at hi
  have e1:(xs.set q u1).getD i Go.undef=xs.getD i Go.undef:=by
   rw [List.getD_eq_getElem?_getD,List.getElem?_set_ne hqi,← List.getD_eq_getElem?_getD]
  rw [e1]
  have hil:i<hs.length:=by
   have:=(List.getElem?_eq_some_iff.1 hi).1;omega
  exact (hc i c hi).of_block fun b hb=>setCell_other (hrow b (hs_block hil hb))
theorem shapeL_set {l l2:List PV}{q:Nat}{c d:PV}(hq:(flat l)[q]? = some c)(hfl:flat l2=(flat l).set q d)(hcd:∀ e sz rl,c=.obj true e sz rl→∃ rl',d=.obj true e sz rl'∧rl'.length=rl.length):ShapeL l l2:=fun i e sz rl hi=>by
 have hql:q<(flat l).length:=(List.getElem?_eq_some_iff.1 hq).1
 rw [hfl,List.getElem?_set]
 by_cases hqi:q=i
 ·subst hqi
  rw [if_pos rfl,if_pos hql]
  rw [hq] at hi
  cases hi
  obtain ⟨rl',rfl,h⟩:=hcd e sz rl rfl
  exact ⟨rl',rfl,h⟩
 rw [if_neg hqi]
 exact ⟨rl,hi,rfl⟩
end
section
variable {P:Program}{N:Nat}{Q:St→Prop}{k:List Item}{S M S' M':List (Nat×PV)}{all:Array Oper}{rest:List Oper}{d:Nat}{ty:TypeId}{pos:String}{after:Array Edge}
theorem Run.stT {t:TypeId}{x y:Operand}{n j i off e sz q:Nat}{l l2:List PV}{u0 u1:Value}(ht:shp P t=some (false,1))(hx:evO S x=some (.tref n j (.cell i off)))(hm:look M n=some (.tre e sz l))(hj:j=l.length)(hy:evO S y=some (.lit u1))(hq:q=i*sz+off)(hc:(flat l)[q]? = some (.lit u0))(hlen:l2.length=l.length)(hl2:∀ p∈l2,p.cells.length=sz)(hfl:flat l2=(flat l).set q (.lit u1))
  (h:Run P N Q (.ops all rest::k) (St.of S ((n,.tre e sz l2)::M))):Run P N Q (.ops all (⟨none,.store t x y,ty,pos,after,none⟩::rest)::k) (St.of S M):=fun w0 pub0 a w hR=>by
 obtain ⟨pub,V,c1,c2,hrel⟩:=hR
 obtain ⟨v0,hs,hV,hmn,v1,ks,g,cap,h1,h2,h3⟩:=hrel.treAt hx hm hj
 rw [hV] at h1
 obtain ⟨rfl,rfl⟩:=treV_inj h1
 have hye:=hrel.ev y
 rw [evO_spec (M:=M) hy] at hye
 obtain ⟨h4,h5⟩:=hye.lit_inv
 subst hq
 obtain ⟨g',cap',u,h6,h7,h8,h9,h10,_⟩:=hmn.tre_cell hc
 rw [h2] at h6
 simp only [Value.slice.injEq,Option.some.injEq,Addr.mk.injEq,and_true,true_and] at h6
 obtain ⟨rfl,rfl⟩:=h6
 have hrun:=run_storeVar_at (P:=P) ht h5 h7 h10
 have hgb:g∈treBs v0 hs:=treBs_mem0 (by rw [h2];rfl)
 have hnp:=fun o=>(hmn.tre_block (inB_tre.2 hgb)).2 o
 have hlook:(St.of S M).mem n=.tre e sz l:=look_mem hm
 obtain ⟨hrel1,_⟩:=hrel.turnTre (pub':=pub) (w':=w.setCell ⟨g,i*sz+off,none⟩ u1) hlook hV hlen (shapeL_set hc hfl (fun _ _ _ h=>by cases h)) (by simp [World.setCell]) rfl rfl rfl (Nat.le_refl _) (fun b _ hb=>setCell_other (fun e=>hb (e ▸ hgb))) (fun _ _ h=>h) (fun _ _ h=>.inl h)
  (fun b o hb=>⟨by simp [World.setCell];exact hrel.pubLt b o hb,fun hn=>absurd (hrel.pubLt b o hb) (by omega)⟩) ((hmn.tre_set h2 hc h5 hlen hl2 hfl).tre_rebase fun _ h=>h)
 have e3:(⟨(St.of S M).slot,upd (St.of S M).mem n (.tre e sz l2)⟩:St)=St.of S ((n,.tre e sz l2)::M):=congrArg (fun m=>St.mk (St.of S M).slot m) (look_upd M n _)
 rw [e3] at hrel1
 refine wpList_plain rfl fun K hK=>?_
 unfold Oper.wp
 have hrun':(execOp a.eval ⟨none,.store t x y,ty,pos,after,none⟩).run P w=.ok .skip (w.setCell ⟨g,i*sz+off,none⟩ u1):=by
  refine run_skip ?_
  rw [h3,h4];exact hrun
 rw [hrun']
 exact hK _ _ (h w0 pub0 _ _ ⟨pub,V,c1,c2,hrel1⟩)
theorem Run.callRow {fo x:Operand}{args:Array Operand}{ys:List Operand}{xs:List PV}{ats:Array TypeId}{f:FuncId}{n j e sz q e2 sz2:Nat}{l l2 rl rl':List PV}{r:PV}(hc:PCM P f (.own 63 rl.length::xs) [(63,.obj true e2 sz2 rl)] r [(63,.obj true e2 sz2 rl')])(hf:evO S fo=some (.fn f []))(hargs:args.toList=x::ys)(hx:evO S x=some (.tref n j (.row q)))(hy:evL S ys=some xs)(hpl:xs.all PV.plain=true)(hm:look M n=some (.tre e sz l))(hj:j=l.length)
  (hq:(flat l)[q]? = some (.obj true e2 sz2 rl)) (hlit:∀ c∈flat rl',litC c) (hr:r.plain=true) (hlen:l2.length=l.length) (hl2:∀ p∈l2,p.cells.length=sz) (hfl:flat l2=(flat l).set q (.obj true e2 sz2 rl')) (hd:Nat.ble (d+1) N=true)
  (h:Run P N Q (.ops all rest::k) (St.of ((d,r)::S) ((n,.tre e sz l2)::M))) :
  Run P N Q (.ops all (⟨some d,.call { callee:=.value fo,args:=args,argTypes:=ats },ty,pos,after,none⟩::rest)::k) (St.of S M):=fun w0 pub0 a w hR=>by
 obtain ⟨pub,V,c1,c2,hrel⟩:=hR
 obtain ⟨hok,hcall⟩:=hc
 obtain ⟨v0,hs,hV,hmn,v1,ks,e3,sz3,rl3,h1,h2,h3⟩:=hrel.treAt hx hm hj
 rw [hV] at h1
 obtain ⟨rfl,rfl⟩:=treV_inj h1
 rw [hq] at h2;cases h2
 obtain ⟨arr,hfv,hsz,_⟩:=((evO_spec (M:=M) hf) ▸ hrel.ev fo).fn_inv
 have harr:arr=#[]:=by cases arr;simp_all
 subst harr
 have hev:args=(x::ys).toArray:=by rw [← hargs]
 have hys:=evL_spec (M:=M) hy
 have hbk:=fun g (hg:g∈treBs v0 hs)=>hmn.tre_block (inB_tre.2 hg)
 obtain ⟨g0,cap0,x0,hv0,_,_,htc,_,hqh⟩:=hmn.tre_cell hq
 obtain ⟨u,hu⟩:∃ u,u=hs.getD q Go.undef:=⟨_,rfl⟩
 rw [← hu] at h3 htc
 have hrow:RowOk w w0.O u e2 sz2 rl:=by
  rcases htc with ⟨h,_⟩ | ⟨h,_⟩ | ⟨_,_,_,h,e,hr⟩
  ·cases h
  ·cases h
  cases h
  rw [← e] at hr;exact hr
 have hub:∀ g,u.ownBlock=some g→g∈treBs v0 hs:=fun g hg=>treBs_mem hqh (by rw [← hu];exact hg)
 have hnp:∀ g o,u.ownBlock=some g→¬ pub g o:=fun g o hg=>(hbk g (hub g hg)).2 o
 have hm63:MemOk pub w (fun _=>u) (memOf [(63,.obj true e2 sz2 rl)]) (fun _=>True) u (.obj true e2 sz2 rl):=(hrow.memOk (V:=fun _=>u) (m:=memOf [(63,.obj true e2 sz2 rl)]) hnp).rebase fun _ _ _ _=>trivial
 have m63:∀ p:PV,memOf [(63,p)] 63=p:=fun p=>by rw [memOf_cons];rfl
 have mne:∀(p:PV) n,n≠63→memOf [(63,p)] n=.undef:=fun p n hn=>by rw [memOf_cons,if_neg hn];rfl
 have hob:=hm63.obj_block
 have hO:∀ b,Base0.O ⟨w,blocksOf (fun _=>u) [(63,.obj true e2 sz2 rl)],fun _=>u⟩ b→w.heap.size≤b∨u.ownBlock=some b:=fun b hb=>by
  rcases hb with hb | ⟨n',hn',_,hb⟩
  ·exact .inl hb
  exact .inr (by rw [← hob.1];exact hm63.one (fun e=>by cases e) (fun s o e=>by cases e) hb)
 have hlen1:(a.eval x::ys.map a.eval).length=(PV.own 63 rl.length::xs).length:=by
  have:(ys.map (St.of S M).ev).length=xs.length:=by rw [hys]
  simp at this ⊢;exact this
 refine wpList_plain rfl fun K hK=>?_
 unfold Oper.wp
 have hrun:(execOp a.eval ⟨some d,.call { callee:=.value fo,args:=args,argTypes:=ats },ty,pos,after,none⟩).run P w=.ok (.enter f (a.eval x::ys.map a.eval).toArray) w:=by
  subst hev
  simp [execOp,resolve,hfv,Deferred.ofValue,invoke,okFn_run hok]
 rw [hrun,Oper.upon_enter]
 refine (hcall w pub (fun _=>u) (a.eval x::ys.map a.eval) (fun w' hw=>w0.good w' fun b hb=>(hw b fun ho=>hb ?_).trans (hrel.below.block b hb)) hrel.pubLt hlen1 (fun n'=>?_) (fun n1 n2 g h1 h2 _ _=>?_) (fun i p v a1 a2=>?_)).mono ?_
 ·rcases hO b ho with h | h
  ·exact .inl (Nat.le_trans hrel.below.size h)
  exact (hbk b (hub b h)).1.1
 ·by_cases e:n'=63
  ·subst e;rw [m63];exact hm63
  rw [mne _ _ e];exact .undef
 ·by_cases e1:n1=63
  ·by_cases e2:n2=63
   ·rw [e1,e2]
   exact absurd (mne _ _ e2) h2
  exact absurd (mne _ _ e1) h1
 ·cases i with
  | zero=>
   simp at a1 a2;subst a1;subst a2
   exact .ref (.own 63 _ _ true e2 sz2 rl (m63 _) (Nat.le_refl _) (fun _=>h3))
  | succ i=>
   simp at a1 a2
   obtain ⟨o,ho,rfl⟩:=a2
   have h4:(ys.map (St.of S M).ev)[i]? = some p:=by rw [hys];exact a1
   rw [List.getElem?_map,ho] at h4
   have hp:(St.of S M).ev o=p:=Option.some.inj h4
   have hr2:=hrel.ev o
   rw [hp] at hr2
   exact .pure (hr2.plain (List.all_eq_true.1 hpl p (List.mem_of_getElem? a1)))
 rintro en w' ⟨v,rfl,hbel,pub',p1,p2,p3,hmem,_,gs,hRR,_⟩
 have h63:=hmem 63 (by rw [m63];intro e;cases e)
 rw [m63] at h63
 have hrl:=hm63.len h63
 have hrow':RowOk w' w0.O u e2 sz2 rl':=(h63.rowOk hlit).rebase fun g hg=>(hbk g (hub g hg)).1.1
 have hst:∀ b,b<w.heap.size→u.ownBlock≠some b→w'.heap[b]? = w.heap[b]?:=fun b hb hne=>hbel.block b fun ho=>by
  rcases hO b ho with h | h
  ·omega
  exact hne h
 have hlook:(St.of S M).mem n=.tre e sz l:=look_mem hm
 have hok2:MemOk pub' w' (fun _=>Go.undef) (fun _=>.undef) w0.O (treV v0 hs) (.tre e sz l2):=by
  cases hmn with
  | tre _ _ _ v1 ks xs' hv hsz' hmx hl how hhl hnd hp hcc=>
   obtain ⟨rfl,rfl⟩:=treV_inj hv
   have hql:q<(flat l).length:=(List.getElem?_eq_some_iff.1 hq).1
   have hne0:∀ b,v0.ownBlock=some b→u.ownBlock≠some b:=fun b hb hub'=>(List.nodup_append.1 hnd).2.2 b (by simp [hb]) b (hs_block hqh (by rw [← hu];exact hub')) rfl
   have hfll:=flat_length hl
   refine .tre e sz l2 v0 hs xs' rfl hsz' (by omega) hl2 ?_ (by rw [hlen];exact hhl) hnd (fun b o hb hpo=>?_) (fun i c hi=>?_)
   ·rw [hlen]
    exact ownsRow_of_block how fun b hb=>hst b (hbk b (treBs_mem0 hb)).1.2 (hne0 b hb)
   ·rcases p2 b o hpo with h | h
    ·exact hp b o hb h
    have:=(hbk b hb).1.2;omega
   rw [hfl,List.getElem?_set] at hi
   by_cases hqi:q=i
   ·subst hqi
    rw [if_pos rfl,if_pos hql] at hi
    cases hi
    refine .inr (.inr ⟨e2,sz2,rl',rfl,?_,?_⟩)
    ·rcases hcc q _ hq with ⟨h,_⟩ | ⟨h,_⟩ | ⟨_,_,_,_,h,_⟩
     ·cases h
     ·cases h
     exact h
    rcases hcc q _ hq with ⟨h,_⟩ | ⟨h,_⟩ | ⟨_,_,_,_,h,_⟩
    ·cases h
    ·cases h
    rw [← h,← hu];exact hrow'
   rw [if_neg hqi] at hi
   have hil:i<hs.length:=by
    have:=(List.getElem?_eq_some_iff.1 hi).1;omega
   refine (hcc i c hi).of_block fun b hb=>hst b (hbk b (treBs_mem hil hb)).1.2 fun hub'=>?_
   -- two places of one list of blocks
   have hnd2:=(List.nodup_append.1 hnd).2.1
   exact flatMap_nodup_ne hnd2 hqh hil hqi (by rw [← hu];exact hub') hb
 obtain ⟨hrel1,hmv⟩:=hrel.turnTre (pub':=pub') (w':=w') hlook hV hlen (shapeL_set hq hfl (fun _ _ _ h=>by cases h;exact ⟨rl',rfl,hrl⟩)) hbel.size hbel.os hbel.tape hbel.output hbel.drawn (fun b hb hnb=>hst b hb (fun e=>hnb (hub b e))) p1 p2 p3 hok2
 have e3:(⟨(St.of S M).slot,upd (St.of S M).mem n (.tre e sz l2)⟩:St)=St.of S ((n,.tre e sz l2)::M):=congrArg (fun m=>St.mk (St.of S M).slot m) (look_upd M n _)
 rw [e3] at hrel1
 have h5:=hrel1.put d (Nat.le_of_ble_eq_true hd) (p:=r) (v:=v) (.pure (hRR.plain_inv hr))
 have e4:(⟨upd (St.of S ((n,.tre e sz l2)::M)).slot d r,(St.of S ((n,.tre e sz l2)::M)).mem⟩:St)=St.of ((d,r)::S) ((n,.tre e sz l2)::M):=congrArg (fun m=>St.mk m (St.of S ((n,.tre e sz l2)::M)).mem) (look_upd S d _)
 rw [e4] at h5
 exact hK _ _ (h w0 pub0 _ _ ⟨pub',V,fun b o ho=>p1 b o (c1 b o ho),fun b o ho=>(p2 b o ho).elim (c2 b o) (fun h=>.inr (.inl (Nat.le_trans hrel.below.size h))),h5⟩)
end
end Go.Px
namespace Go.Px
set_option linter.unusedSimpArgs false
set_option linter.unusedVariables false
open Go.RowKit
section
variable {P:Program}{N:Nat}{Q:St→Prop}{k:List Item}{S M:List (Nat×PV)}
theorem R.fin2t {fn:Func}{t u n j e sz:Nat}{l:List PV}{q r:PV}(hres:fn.results=#[.tmp t,.tmp u])(hv:look S t=some (.tref n j .out))(hm:look M n=some (.tre e sz l))(hj:j=l.length)(hu:look S u=some q)(hq:q.plain=true)(hr:.tuple [.tre e sz l,q]=r):Run P N (Fin P fn r) (.code .ret::k) (St.of S M):=
 Run.ret ⟨[.tref n j .out,q],[.tre e sz l,q],[n],by rw [hres];exact .tmp t _ _ _ (look_slot hv) (.tmp u _ [] [] (look_slot hu) .nil),.tre n j e sz l _ _ _ (look_mem hm) hj (by simp) (.plain q [] [] [] hq .nil),hr⟩
theorem R.fin2tn {fn:Func}{t u e sz:Nat}{q r:PV}(hres:fn.results=#[.tmp t,.tmp u])(hv:look S t=some .nils)(hsz:0<sz)(hu:look S u=some q)(hq:q.plain=true)(hr:.tuple [.tre e sz [],q]=r):Run P N (Fin P fn r) (.code .ret::k) (St.of S M):=
 Run.ret ⟨[.nils,q],[.tre e sz [],q],[],by rw [hres];exact .tmp t _ _ _ (look_slot hv) (.tmp u _ [] [] (look_slot hu) .nil),.nilsT e sz _ _ _ hsz (.plain q [] [] [] hq .nil),hr⟩
end
def relT1 (n j:Nat):PV→PV
 | .tref m k .out=>bif Nat.beq m n then .tref m j .out else .tref m k .out
 | p=>p
def relT (n j:Nat)(S:List (Nat×PV)):List (Nat×PV):=S.map fun q=>(q.1,relT1 n j q.2)
def lensT1 (n:Nat):PV→List Nat
 | .tref m k .out=>bif Nat.beq m n then [k] else []
 | _=>[]
def lensT (n:Nat)(S:List (Nat×PV)):List Nat:=S.flatMap fun q=>lensT1 n q.2
def AllLen (j:Nat):List Nat→Prop
 | []=>True
 | k::ks=>k=j∧AllLen j ks
theorem AllLen.mem {j:Nat}:∀{ks:List Nat},AllLen j ks→∀ k∈ks,k=j
 | [],_,k,hk=>by cases hk
 | x::ks,h,k,hk=>by
  rcases List.mem_cons.1 hk with e | e
  ·rw [e];exact h.1
  exact h.2.mem k e
theorem relT_look (n j:Nat):∀(S:List (Nat×PV))(t:Nat),look (relT n j S) t=(look S t).map (relT1 n j)
 | [],t=>rfl
 | (u,p)::S,t=>by
  show (bif Nat.beq u t then some (relT1 n j p) else look (relT n j S) t)=(bif Nat.beq u t then some p else look S t).map (relT1 n j)
  cases Nat.beq u t with
  | true=>rfl
  | false=>exact relT_look n j S t
theorem MemOk.lenT0 {pub pub':Nat→Nat→Prop}{w w':World}{V V':Nat→Value}{m m':Nat→PV}{B B':Nat→Prop}{v:Value}{e sz:Nat}{l l':List PV}(h:MemOk pub w V m B v (.tre e sz l))(h':MemOk pub' w' V' m' B' v (.tre e sz l')):l'.length=l.length:=by
 cases h with
 | tre _ _ _ v0 hs xs hv hsz hmx hl how hhl hnd hp hc=>
  cases h' with
  | tre _ _ _ v0' hs' xs' hv' hsz' hmx' hl' how' hhl' hnd' hp' hc'=>
   rw [hv] at hv'
   obtain ⟨rfl,rfl⟩:=treV_inj hv'
   exact how.1.len how'.1
section
variable {P:Program}{N:Nat}{S M:List (Nat×PV)}{all:Array Oper}{F:Nat→Foot}{i:Nat}{rest:List Oper}{K:St→Prop}{d:Nat}{ty:TypeId}{pos:String}{after:Array Edge}
theorem X.lenT {t e' sz' by':Nat}{x:Operand}{n k e sz:Nat}{l:List PV}{z:Int}(ht:eltOf P t=some (e',sz',by'))(hx:evO S x=some (.tref n k .out))(hm:look M n=some (.tre e sz l))(hk:k=l.length)(hz:(l.length:Int)=z)(hd:Nat.ble (d+1) N=true)(hF:(F i).okB [n] []=true)(h:SLx P N all F (i+1) rest (St.of ((d,.lit (.int .i64 z))::S) M) K) :
  SLx P N all F i (⟨some d,.call { callee:=.builtin .len,args:=#[x],argTypes:=#[t] },ty,pos,after,none⟩::rest) (St.of S M) K:=by
 subst hz
 exact X.ofOp (U:=[]) (R:=[n]) (.lenT t x n k e' sz' by' e sz l ht (evO_spec hx) (look_mem hm) hk) hd hF h
theorem HandL.trefB {Hs:List (Nat×Nat)}(n:Nat){c j e sz:Nat}{l ps ps':List PV}{p:TP}{R:List Nat}(hm:look M c=some (.tre e sz l))(hn:nameOf Hs n=some c)(h:HandL Hs (St.of S M).mem ps ps' R):HandL Hs (St.of S M).mem (.tref c j p::ps) (.tref n j p::ps') (c::R):=
 .tref n c j e sz l p ps ps' R hn (look_mem hm) h
end
section
variable {P:Program}{N:Nat}{Q:St→Prop}{k:List Item}{S M:List (Nat×PV)}{all:Array Oper}{rest:List Oper}{d:Nat}{ty:TypeId}{pos:String}{after:Array Edge}
theorem Run.callTre {fo x:Operand}{args:Array Operand}{ys:List Operand}{xs:List PV}{ats:Array TypeId}{f:FuncId}{n j e sz:Nat}{l l2:List PV}{r:PV}(hc:PCM P f (.tref 63 l.length .out::xs) [(63,.tre e sz l)] r [(63,.tre e sz l2)])(hf:evO S fo=some (.fn f []))(hargs:args.toList=x::ys)(hx:evO S x=some (.tref n j .out))(hy:evL S ys=some xs)(hpl:xs.all PV.plain=true)(hm:look M n=some (.tre e sz l))(hj:j=l.length)
  (hsh:l2.length=l.length→ShapeT l l2) (hr:r.plain=true) (hS:AllLen l.length (lensT n S)) (hd:Nat.ble (d+1) N=true)
  (h:Run P N Q (.ops all rest::k) (St.of ((d,r)::relT n l2.length S) ((n,.tre e sz l2)::M))) :
  Run P N Q (.ops all (⟨some d,.call { callee:=.value fo,args:=args,argTypes:=ats },ty,pos,after,none⟩::rest)::k) (St.of S M):=fun w0 pub0 a w hR=>by
 obtain ⟨pub,V,c1,c2,hrel⟩:=hR
 obtain ⟨hok,hcall⟩:=hc
 obtain ⟨v0,hs,hV,hmn,v1,ks,h1,h3⟩:=hrel.treAt hx hm hj
 rw [hV] at h1
 obtain ⟨rfl,rfl⟩:=treV_inj h1
 obtain ⟨arr,hfv,hsz,_⟩:=((evO_spec (M:=M) hf) ▸ hrel.ev fo).fn_inv
 have harr:arr=#[]:=by cases arr;simp_all
 subst harr
 have hev:args=(x::ys).toArray:=by rw [← hargs]
 have hys:=evL_spec (M:=M) hy
 have hbk:=fun g (hg:g∈treBs v0 hs)=>hmn.tre_block (inB_tre.2 hg)
 have hm63:MemOk pub w (fun _=>treV v0 hs) (memOf [(63,.tre e sz l)]) (fun _=>True) (treV v0 hs) (.tre e sz l):=hmn.tre_rebase fun _ _=>trivial
 have m63:∀ p:PV,memOf [(63,p)] 63=p:=fun p=>by rw [memOf_cons];rfl
 have mne:∀(p:PV) n,n≠63→memOf [(63,p)] n=.undef:=fun p n hn=>by rw [memOf_cons,if_neg hn];rfl
 have hO:∀ b,Base0.O ⟨w,blocksOf (fun _=>treV v0 hs) [(63,.tre e sz l)],fun _=>treV v0 hs⟩ b→w.heap.size≤b∨b∈treBs v0 hs:=fun b hb=>by
  rcases hb with hb | ⟨n',hn',_,hb⟩
  ·exact .inl hb
  exact .inr (inB_tre.1 hb)
 have hlen1:(a.eval x::ys.map a.eval).length=(PV.tref 63 l.length .out::xs).length:=by
  have:(ys.map (St.of S M).ev).length=xs.length:=by rw [hys]
  simp at this ⊢;exact this
 refine wpList_plain rfl fun K hK=>?_
 unfold Oper.wp
 have hrun:(execOp a.eval ⟨some d,.call { callee:=.value fo,args:=args,argTypes:=ats },ty,pos,after,none⟩).run P w=.ok (.enter f (a.eval x::ys.map a.eval).toArray) w:=by
  subst hev
  simp [execOp,resolve,hfv,Deferred.ofValue,invoke,okFn_run hok]
 rw [hrun,Oper.upon_enter]
 refine (hcall w pub (fun _=>treV v0 hs) (a.eval x::ys.map a.eval) (fun w' hw=>w0.good w' fun b hb=>(hw b fun ho=>hb ?_).trans (hrel.below.block b hb)) hrel.pubLt hlen1 (fun n'=>?_) (fun n1 n2 g h1 h2 _ _=>?_) (fun i p v a1 a2=>?_)).mono ?_
 ·rcases hO b ho with h | h
  ·exact .inl (Nat.le_trans hrel.below.size h)
  exact (hbk b h).1.1
 ·by_cases e:n'=63
  ·subst e;rw [m63];exact hm63
  rw [mne _ _ e];exact .undef
 ·by_cases e1:n1=63
  ·by_cases e2:n2=63
   ·rw [e1,e2]
   exact absurd (mne _ _ e2) h2
  exact absurd (mne _ _ e1) h1
 ·cases i with
  | zero=>
   simp at a1 a2;subst a1;subst a2
   exact .ref (.tref 63 _ .out _ e sz l (m63 _) (Nat.le_refl _) (fun _=>⟨v0,hs,rfl,h3⟩))
  | succ i=>
   simp at a1 a2
   obtain ⟨o,ho,rfl⟩:=a2
   have h4:(ys.map (St.of S M).ev)[i]? = some p:=by rw [hys];exact a1
   rw [List.getElem?_map,ho] at h4
   have hp:(St.of S M).ev o=p:=Option.some.inj h4
   have hr2:=hrel.ev o
   rw [hp] at hr2
   exact .pure (hr2.plain (List.all_eq_true.1 hpl p (List.mem_of_getElem? a1)))
 rintro en w' ⟨v,rfl,hbel,pub',p1,p2,p3,hmem,_,gs,hRR,_⟩
 have h63:=hmem 63 (by rw [m63];intro e;cases e)
 rw [m63] at h63
 obtain ⟨hlen,hshl⟩:=hm63.lenT h63 (hsh (hm63.lenT0 h63))
 have hst:∀ b,b<w.heap.size→b∉treBs v0 hs→w'.heap[b]? = w.heap[b]?:=fun b hb hne=>hbel.block b fun ho=>by
  rcases hO b ho with h | h
  ·omega
  exact hne h
 have hlook:(St.of S M).mem n=.tre e sz l:=look_mem hm
 have hok2:MemOk pub' w' (fun _=>Go.undef) (fun _=>.undef) w0.O (treV v0 hs) (.tre e sz l2):=by
  have h64:=h63.rebase (B':=w0.O) fun g _ _ hg=>(hbk g (inB_tre.1 hg)).1.1
  exact h64.tre_rebase fun _ h=>h
 obtain ⟨hrel1,hmv⟩:=hrel.turnTre (pub':=pub') (w':=w') hlook hV hlen hshl hbel.size hbel.os hbel.tape hbel.output hbel.drawn hst p1 p2 p3 hok2
 have e3:(⟨(St.of S M).slot,upd (St.of S M).mem n (.tre e sz l2)⟩:St)=St.of S ((n,.tre e sz l2)::M):=congrArg (fun m=>St.mk (St.of S M).slot m) (look_upd M n _)
 rw [e3] at hrel1
 have hl0:look ((n,PV.tre e sz l2)::M) n=some (.tre e sz l2):=by
  show (bif Nat.beq n n then _ else _)=_
  rw [Nat.beq_refl];rfl
 have hrel2:Rel0 N w0 pub' V (St.of (relT n l2.length S) ((n,.tre e sz l2)::M)) a w':=by
  refine ⟨hrel1.defers,hrel1.size,hrel1.below,hrel1.fixed,hrel1.pubLt,fun t=>?_,hrel1.mem,hrel1.apart,hrel1.soft,hrel1.skel⟩
  have h1:=hrel1.slots t
  cases hlk:look S t with
  | none=>
   have:look (relT n l2.length S) t=none:=by rw [relT_look,hlk];rfl
   simp only [St.of,this];exact .undef _
  | some p=>
   rw [look_slot hlk] at h1
   rw [look_slot (show look (relT n l2.length S) t=some (relT1 n l2.length p) by rw [relT_look,hlk];rfl)]
   unfold relT1
   split
   ·rename_i m2 k2
    cases hb:Nat.beq m2 n with
    | false=>exact h1
    | true=>
     have hb':=Nat.eq_of_beq_eq_true hb
     subst hb'
     have hk2:k2=l.length:=hS.mem k2 (by
      refine List.mem_flatMap.2 ⟨(t,.tref m2 k2 .out),look_mem_key hlk,?_⟩
      show k2∈(bif Nat.beq m2 m2 then [k2] else [])
      rw [Nat.beq_refl];exact List.mem_singleton.2 rfl)
     obtain ⟨e1,sz1,l1,hm1,_,hv1⟩:=h1.tref_inv
     rw [look_mem hl0] at hm1;cases hm1
     exact .ref (.tref m2 _ .out _ e sz l2 (look_mem hl0) (Nat.le_refl _) (fun _=>by
      obtain ⟨v2,ks2,k1,k2'⟩:=hv1 (by omega)
      exact ⟨v2,ks2,k1,k2'⟩))
   exact h1
 have h5:=hrel2.put d (Nat.le_of_ble_eq_true hd) (p:=r) (v:=v) (.pure (hRR.plain_inv hr))
 have e4:(⟨upd (St.of (relT n l2.length S) ((n,.tre e sz l2)::M)).slot d r,(St.of (relT n l2.length S) ((n,.tre e sz l2)::M)).mem⟩:St)=St.of ((d,r)::relT n l2.length S) ((n,.tre e sz l2)::M):=congrArg (fun m=>St.mk m (St.of (relT n l2.length S) ((n,.tre e sz l2)::M)).mem) (look_upd (relT n l2.length S) d _)
 rw [e4] at h5
 exact hK _ _ (h w0 pub0 _ _ ⟨pub',V,fun b o ho=>p1 b o (c1 b o ho),fun b o ho=>(p2 b o ho).elim (c2 b o) (fun h=>.inr (.inl (Nat.le_trans hrel.below.size h))),h5⟩)
theorem shapeT_refl (l:List PV):ShapeT l l:=fun i e sz rl h=>⟨rl,h⟩
theorem shapeT_map {α:Type}{f:α→PV}(hf:∀(x y:α) (i e sz:Nat) (rl:List PV),(f x).cells[i]? = some (.obj true e sz rl)→∃ rl',(f y).cells[i]? = some (.obj true e sz rl'))(hn:∀ x y:α,(f x).cells.length=(f y).cells.length):∀(a b:List α),b.length=a.length→ShapeT (a.map f) (b.map f)
 | [],[],_=>fun i e sz rl h=>by simp at h
 | [],_::_,h=>by simp at h
 | _::_,[],h=>by simp at h
 | x::a,y::b,h=>fun i e sz rl hi=>by
  rw [List.map_cons,flat_cons] at hi ⊢
  by_cases hlt:i<(f x).cells.length
  ·rw [List.getElem?_append_left hlt] at hi
   rw [List.getElem?_append_left (by rw [hn y x];exact hlt)]
   exact hf x y i e sz rl hi
  rw [List.getElem?_append_right (by omega)] at hi
  rw [List.getElem?_append_right (by rw [hn y x];omega),hn y x]
  exact shapeT_map hf hn a b (by simpa using h) _ e sz rl hi
end
end Go.Px
namespace Go.Px
set_option linter.unusedSimpArgs false
set_option linter.unusedVariables false

theorem idxL_drop {α:Type}{l:List α}{z:Int}{y:α}{ys:List α}(h0:0≤z)(h:l.drop z.toNat=y::ys):idxL l z=some y∧l.drop (z+1).toNat=ys:=by
 have hlt:z.toNat<l.length:=by
  have:=congrArg List.length h
  simp only [List.length_drop,List.length_cons] at this;omega
 rw [List.drop_eq_getElem_cons hlt] at h
 injection h with h1 h2
 refine ⟨?_,?_⟩
 ·simp [idxL,h0,hlt,h1]
 rw [show (z+1).toNat=z.toNat+1 by omega];exact h2
theorem idxL_some {α:Type}{l:List α}{z:Int}(h0:0≤z)(h:z<l.length):∃ y,idxL l z=some y∧y∈l:=by
 have hlt:z.toNat<l.length:=by omega
 exact ⟨l[z.toNat],by simp [idxL,h0,hlt],List.getElem_mem _⟩
theorem F0_gt:9223372036854775808<F0:=Nat.le_of_ble_eq_true rfl
theorem cond_some {α:Type}(c:Bool)(x y:α):(bif c then some x else some y)=some (bif c then x else y):=by cases c <;> rfl
theorem cond_and (a b:Bool):(bif a then b else false)=(a && b):=by cases a <;> rfl
theorem int_bne (a b:Int):(a != b) = !decide (a=b):=by by_cases h:a=b <;> simp [h]
theorem int_beq (a b:Int):(a == b)=decide (a=b):=by by_cases h:a=b <;> simp [h]
theorem bool_bne (a b:Bool):(a != b) = !decide (a=b):=by by_cases h:a=b <;> simp [h]
theorem ba_beq (a b:ByteArray):(a == b)=decide (a=b):=by
 show (a.data == b.data)=_
 by_cases h:a=b
 ·subst h;simp
 have:a.data≠b.data:=fun e=>h (by cases a;cases b;simp at e;simp [e])
 simp [h,this]
theorem ba_bne (a b:ByteArray):(a != b) = !decide (a=b):=by rw [bne,ba_beq]

theorem eqLoop {α:Type}[DecidableEq α] {F:List α→Int→Option (Unit ⊕ Bool)} {b:List α} (h0:∀ z,F [] z=some (.inl ()))
  (h1:∀ x xs z y,idxL b z=some y→F (x::xs) z=if x=y then F xs (z+1) else some (.inr false)) :
  ∀(xs:List α)(z:Int),0≤z→xs.length=(b.drop z.toNat).length→F xs z=some (if xs=b.drop z.toNat then .inl () else .inr false)
 | [],z,hz,hl=>by
  have:b.drop z.toNat=[]:=List.eq_nil_of_length_eq_zero hl.symm
  rw [h0,this];simp
 | x::xs,z,hz,hl=>by
  match hd:b.drop z.toNat with
  | []=>rw [hd] at hl;simp at hl
  | y::ys=>
   obtain ⟨h2,h3⟩:=idxL_drop hz hd
   rw [h1 x xs z y h2]
   rw [hd] at hl
   by_cases hxy:x=y
   ·rw [if_pos hxy,eqLoop h0 h1 xs (z+1) (by omega) (by rw [h3];simpa using hl),h3]
    simp [hxy]
   rw [if_neg hxy];simp [hxy]
theorem eqList {α:Type}[DecidableEq α] {F:List α→Int→Option (Unit ⊕ Bool)} {a b:List α} {G:Option Bool} (h0:∀ z,F [] z=some (.inl ()))
  (h1:∀ x xs z y,idxL b z=some y→F (x::xs) z=if x=y then F xs (z+1) else some (.inr false))
  (hG:G=bif ((a.length:Int) != (b.length:Int)) then some false else sumBind (F a 0) (fun q=>some q) fun _=>some true):G=some (decide (a=b)):=by
 rw [hG]
 by_cases hl:a.length=b.length
 ·have e:((a.length:Int) != (b.length:Int))=false:=by simp [hl]
  rw [e,cond_false,sumBind,eqLoop h0 h1 a 0 (Int.le_refl _) (by simpa using hl)]
  by_cases hab:a=b <;> simp [hab]
 have e:((a.length:Int) != (b.length:Int))=true:=by simp;omega
 have hab:a≠b:=fun e=>hl (by rw [e])
 rw [e,cond_true];simp [hab]

theorem fillLoop {α:Type}{F:List α→Int→List α→Option (List α)}{Q:α→Prop}(h0:∀ z a,F [] z a=some a)
  (h1:∀ x xs z a y,Q x→idxL a z=some y→F (x::xs) z a=F xs (z+1) (setL a z x)) :
  ∀(xs:List α)(z:Int)(a:List α),0≤z→a.length=z.toNat+xs.length→(∀ x∈xs,Q x)→F xs z a=some (a.take z.toNat ++ xs)
 | [],z,a,hz,hl,_=>by rw [h0];simp at hl;simp [List.take_of_length_le (Nat.le_of_eq hl)]
 | x::xs,z,a,hz,hl,hQ=>by
  have hlt:z<a.length:=by simp at hl;omega
  obtain ⟨y,hy,_⟩:=idxL_some hz hlt
  rw [h1 x xs z a y (hQ x (List.mem_cons_self ..)) hy,fillLoop h0 h1 xs (z+1) _ (by omega) (by simp [setL] at hl ⊢;omega) (fun x hx=>hQ x (List.mem_cons_of_mem _ hx))]
  congr 1
  have e:(z+1).toNat=z.toNat+1:=by omega
  have hn:z.toNat<a.length:=by omega
  rw [e,setL,List.take_add_one,List.getElem?_set_self hn,List.take_set_of_le (Nat.le_refl _)]
  simp
theorem fillList {α:Type}{F:List α→Int→List α→Option (List α)}{Q:α→Prop}{b:List α}{zv:α}{G:Option (List α)}(h0:∀ z a,F [] z a=some a)
  (h1:∀ x xs z a y,Q x→idxL a z=some y→F (x::xs) z a=F xs (z+1) (setL a z x)) (hb:b.length≤1048576) (hQ:∀ x∈b,Q x)
  (hG:G=(makeL zv (b.length:Int)).bind fun v=>Option.bind (F b 0 v) fun p=>some p):G=some b:=by
 rw [hG]
 have:makeL zv (b.length:Int)=some (List.replicate b.length zv):=by
  unfold makeL
  rw [if_pos (by omega)];simp
 rw [this,Option.bind_some,fillLoop h0 h1 b 0 _ (Int.le_refl _) (by simp) hQ]
 simp

theorem W_of {n:Int}(h:-9223372036854775808≤n∧n≤9223372036854775807):W n=n:=by
 show IntKind.i64.wrap n=n
 rw [IntKind.wrap_i64];omega
def SzOk {α:Type}(sz:α→Int→Option Int)(Q:α→Prop)(x:α):Prop:=∀ n,0≤n→n≤1048576→∃ m,sz x n=some m∧(m<0∨(m≤n∧Q x))
theorem szLoop {α:Type}{F:List α→Int→Int→Option (Int ⊕ Int)}{sz:α→Int→Option Int}{Q:α→Prop}(h0:∀ z n,F [] z n=some (.inl n))
  (h1:∀ x xs z n,F (x::xs) z n=(sz x n).bind fun v=>bif decide (v<0) then some (.inr (-1)) else F xs (z+1) v) :
  ∀(xs:List α)(z n:Int),(∀ x∈xs,SzOk sz Q x)→0≤n→n≤1048576→F xs z n=some (.inr (-1))∨∃ m,F xs z n=some (.inl m)∧0≤m∧m≤n∧∀ x∈xs,Q x
 | [],z,n,_,hn,hn2=>.inr ⟨n,h0 z n,hn,Int.le_refl _,by simp⟩
 | x::xs,z,n,hs,hn,hn2=>by
  obtain ⟨m,hm,hq⟩:=hs x (List.mem_cons_self ..) n hn hn2
  rw [h1,hm,Option.bind_some]
  by_cases hneg:m<0
  ·left;simp [hneg]
  have hq:=hq.resolve_left hneg
  have e:decide (m<0)=false:=by simpa using hneg
  rw [e,cond_false]
  rcases szLoop h0 h1 xs (z+1) m (fun x hx=>hs x (List.mem_cons_of_mem _ hx)) (by omega) (by omega) with h | ⟨k,hk,hk0,hkm,hQ⟩
  ·exact .inl h
  ·exact .inr ⟨k,hk,hk0,by omega,fun y hy=>by
    rcases List.mem_cons.1 hy with rfl | hy
    ·exact hq.2
    exact hQ y hy⟩
theorem szList {α:Type}{F:List α→Int→Int→Option (Int ⊕ Int)}{sz:α→Int→Option Int}{G:List α→Int→Option Int}{Q:α→Prop}(b:List α)(h0:∀ z n,F [] z n=some (.inl n))
  (h1:∀ x xs z n,F (x::xs) z n=(sz x n).bind fun v=>bif decide (v<0) then some (.inr (-1)) else F xs (z+1) v)
  (hG:∀ n,G b n=bif (decide ((W (n - (b.length:Int)))<0)) then some (-1) else sumBind (F b 0 (W (n - (b.length:Int)))) (fun q=>some q) fun p=>some p)
  (hb:b.length≤9223372036854775807) (hs:∀ x∈b,SzOk sz Q x):SzOk G (fun b=>b.length≤1048576∧∀ x∈b,Q x) b:=by
 intro n hn hn2
 rw [hG,W_of (by omega)]
 by_cases hneg:n - (b.length:Int)<0
 ·exact ⟨-1,by simp [hneg],.inl (by omega)⟩
 have e:decide (n - (b.length:Int)<0)=false:=by simpa using hneg
 rw [e,cond_false]
 rcases szLoop h0 h1 b 0 (n - b.length) hs (by omega) (by omega) with h | ⟨m,hm,hm0,hmn,hQ⟩
 ·exact ⟨-1,by rw [h];rfl,.inl (by omega)⟩
 exact ⟨m,by rw [hm];rfl,.inr ⟨by omega,by omega,hQ⟩⟩
theorem szFlat {α:Type}{G:List α→Int→Option Int}(b:List α)(hG:∀ n,G b n=bif (decide ((W (n - (b.length:Int)))<0)) then some (-1) else some (W (n - (b.length:Int))))(hb:b.length≤9223372036854775807) :
  SzOk G (fun b=>b.length≤1048576) b:=by
 intro n hn hn2
 rw [hG,W_of (by omega)]
 by_cases hneg:n - (b.length:Int)<0
 ·exact ⟨-1,by simp [hneg],.inl (by omega)⟩
 have e:decide (n - (b.length:Int)<0)=false:=by simpa using hneg
 rw [e,cond_false]
 exact ⟨_,rfl,.inr ⟨by omega,by omega⟩⟩
theorem szThen {α:Type}{sz:α→Int→Option Int}{Q:α→Prop}{x:α}(h:SzOk sz Q x){n:Int}(h0:0≤n)(h1:n≤1048576){K:Int→Option Int}{R:Prop}
  (hk:∀ m,0≤m→m≤n→Q x→∃ k,K m=some k∧(k<0∨(k≤m∧R))) :
  ∃ k,((sz x n).bind fun v=>bif (decide (v<0)) then some (-1) else K v)=some k∧(k<0∨(k≤n∧Q x∧R)):=by
 obtain ⟨m,hm,hq⟩:=h n h0 h1
 rw [hm,Option.bind_some]
 by_cases hneg:m<0
 ·exact ⟨-1,by simp [hneg],.inl (by omega)⟩
 have hq:=hq.resolve_left hneg
 have e:decide (m<0)=false:=by simpa using hneg
 rw [e,cond_false]
 obtain ⟨k,hk1,hk2⟩:=hk m (by omega) hq.1 hq.2
 exact ⟨k,hk1,hk2.imp id fun ⟨a,b⟩=>⟨by omega,hq.2,b⟩⟩
theorem szEnd {m:Int}(h:0≤m):∃ k,some m=some k∧(k<0∨(k≤m∧True)):=⟨m,rfl,.inr ⟨Int.le_refl _,trivial⟩⟩
theorem szStr {s:ByteArray}(hs:s.size≤9223372036854775807){n:Int}(h0:0≤n)(h1:n≤1048576){K:Int→Option Int}{R:Prop}
  (hk:∀ m,0≤m→m≤n→s.size≤1048576→∃ k,K m=some k∧(k<0∨(k≤m∧R))) :
  ∃ k,(bif (decide ((W (n - (s.size:Int)))<0)) then some (-1) else K (W (n - (s.size:Int))))=some k∧(k<0∨(k≤n∧s.size≤1048576∧R)):=by
 rw [W_of (by omega)]
 by_cases hneg:n - (s.size:Int)<0
 ·exact ⟨-1,by simp [hneg],.inl (by omega)⟩
 have e:decide (n - (s.size:Int)<0)=false:=by simpa using hneg
 rw [e,cond_false]
 obtain ⟨k,hk1,hk2⟩:=hk (n - (s.size:Int)) (by omega) (by omega) (by omega)
 exact ⟨k,hk1,hk2.imp id fun ⟨a,b⟩=>⟨by omega,by omega,b⟩⟩

/-! ### Arguments -/
theorem vals_nil {xs:List PV}(h:Vals [] xs):xs=[]:=by cases xs with | nil=>rfl | cons _ _=>exact h.elim
theorem vals_cons {T:Ty}{Ts:List Ty}{xs:List PV}(h:Vals (T::Ts) xs):∃ x ys,xs=x::ys∧Val T x∧Vals Ts ys:=by
 cases xs with
 | nil=>exact h.elim
 | cons x ys=>exact ⟨x,ys,rfl,h.1,h.2⟩
theorem dec_int {p:PV}(h:Val .int p):∃ n:Int,p=int n:=by obtain ⟨n,e,_⟩:=h;exact ⟨n,e⟩
theorem dec_bool {p:PV}(h:Val .bool p):∃ n:Bool,p=bool n:=h
theorem dec_str {p:PV}(h:Val .str p):∃ n:ByteArray,p=str n∧n.size≤9223372036854775807:=h
theorem dec_slice {T:Ty}{α:Type}{f:α→PV}{B:α→Prop}(hf:∀ p,Val T p→∃ x,p=f x∧B x){p:PV}(h:Val (.slice T) p):∃ l:List α,p=.slice (l.map f)∧l.length≤9223372036854775807∧∀ x∈l,B x:=by
 obtain ⟨l,rfl,h1,h2⟩:=h
 have:∃ k:List α,l=k.map f∧∀ x∈k,B x:=by
  clear h1
  induction l with
  | nil=>exact ⟨[],rfl,by simp⟩
  | cons x l ih=>
   obtain ⟨k,h3,h4⟩:=ih fun y hy=>h2 y (List.mem_cons_of_mem _ hy)
   obtain ⟨y,h5,h6⟩:=hf x (h2 x (List.mem_cons_self ..))
   exact ⟨y::k,by simp [h3,h5],fun z hz=>by
    rcases List.mem_cons.1 hz with rfl | hz
    ·exact h6
    exact h4 z hz⟩
 obtain ⟨k,rfl,h4⟩:=this
 exact ⟨k,rfl,by simpa using h1,h4⟩
end Go.Px
namespace Go.Px
set_option linter.unusedSimpArgs false
set_option linter.unusedVariables false

def mkL {α:Type}(c:Nat)(up:Int→α→α):Int→List α→List α
 | _,[]=>[]
 | k,x::xs=>up k x::mkL c up (k+c) xs
theorem markFlat {α:Type}{G:Nat→Int→Int→List α→Option (Int×List α)}{c:Nat}{up:Int→α→α}(hc:c≤64)
  (hs:∀(fuel:Nat)(k i:Int)(l:List α)(x:α),0≤i→i<l.length→l.length≤4194304→0≤k→k≤1152921504606846976→l[i.toNat]? = some x→G (fuel+1) k i l=G fuel (k+c) (i+1) (l.set i.toNat (up k x)))
  (he:∀(fuel:Nat)(k i:Int)(l:List α),(l.length:Int)≤i→G (fuel+1) k i l=some (k,l)) {l:List α} (hl:l.length≤4194304) {k:Int} (hk:0≤k) (hk2:k≤1125899906842624) :
  G F0 k 0 l=some (k+c*l.length,mkL c up k l):=by
 have key:∀(rest done:List α)(k:Int)(fuel:Nat),done.length+rest.length≤4194304→0≤k→k+c*rest.length≤1152921504606846976→rest.length<fuel→G fuel k done.length (done ++ rest)=some (k+c*rest.length,done ++ mkL c up k rest):=by
  intro rest
  induction rest with
  | nil=>
   intro done k fuel hd h0 h1 hf
   obtain _ | fuel:=fuel
   ·omega
   rw [he fuel k _ _ (by simp)];simp [mkL]
  | cons x xs ih=>
   intro done k fuel hd h0 h1 hf
   obtain _ | fuel:=fuel
   ·omega
   simp only [List.length_cons] at hd h1 hf
   have hm:(c:Int)*((xs.length+1:Nat):Int)=c*xs.length+c:=by rw [Int.natCast_add,Int.mul_add];simp
   have hm0:(0:Int)≤(c:Int)*(xs.length:Int):=Int.mul_nonneg (by omega) (by omega)
   rw [hs fuel k _ _ x (by omega) (by simp;omega) (by simp;omega) h0 (by omega) (by simp)]
   have e1:((done ++ x::xs).set ((done.length:Int)).toNat (up k x))=(done ++ [up k x]) ++ xs:=by simp
   have e2:((done.length:Int)+1)=((done ++ [up k x]).length:Int):=by simp
   rw [e1,e2,ih (done ++ [up k x]) (k+c) fuel (by simp;omega) (by omega) (by omega) (by omega)]
   simp only [mkL,List.append_assoc,List.singleton_append,List.length_cons,hm]
   rw [show k+(c:Int)+c*xs.length=k+(c*xs.length+c) by omega]
 have hb:(c:Int)*(l.length:Int)≤64*4194304:=by
  have:=Int.mul_le_mul (show (c:Int)≤64 by omega) (show (l.length:Int)≤4194304 by omega) (by omega) (by omega)
  omega
 have:=key l [] k F0 (by simpa using hl) hk (by omega) (by have:=F0_gt;omega)
 simpa using this
theorem heldFlat {α:Type}{H:List α→Int→Int→Option (Int ⊕ Int)}{c:Nat}{up:Int→α→α}(hc:c≤64)
  (hs:∀(x:α)(xs:List α)(z k:Int),0≤k→k≤1152921504606846976→H (up k x::xs) z k=H xs (z+1) (k+c)) (he:∀ z k:Int,H [] z k=some (Sum.inl k)) :
  ∀(l:List α)(z k:Int),0≤k→k+c*l.length≤1152921504606846976→H (mkL c up k l) z k=some (Sum.inl (k+c*l.length))
 | [],z,k,_,_=>by simp [mkL,he]
 | x::xs,z,k,h0,h1=>by
  have hm:(c:Int)*((xs.length+1:Nat):Int)=c*xs.length+c:=by rw [Int.natCast_add,Int.mul_add];simp
  have hm0:(0:Int)≤(c:Int)*(xs.length:Int):=Int.mul_nonneg (by omega) (by omega)
  simp only [List.length_cons] at h1 ⊢
  rw [hm] at h1 ⊢
  rw [mkL,hs x _ z k h0 (by omega),heldFlat hc hs he xs (z+1) (k+c) (by omega) (by omega)]
  rw [show k+(c:Int)+c*xs.length=k+(c*xs.length+c) by omega]

theorem markNest {α:Type}{G:Nat→Int→Int→List α→Option (Int×List α)}{H:List α→Int→Int→Option (Int ⊕ Int)}{B:Nat}{Q:α→Prop}
  (hs:∀(fuel:Nat)(k i:Int)(l:List α)(x:α),0≤i→i<l.length→l.length≤4194304→0≤k→k+B≤1125899906842624→l[i.toNat]? = some x→Q x→∃ k' y,k≤k'∧k'≤k+B∧G (fuel+1) k i l=G fuel k' (i+1) (l.set i.toNat y)∧∀ ys z,H (y::ys) z k=H ys (z+1) k')
  (he:∀(fuel:Nat)(k i:Int)(l:List α),(l.length:Int)≤i→G (fuel+1) k i l=some (k,l)) (hn:∀ z k:Int,H [] z k=some (Sum.inl k)) {l:List α} (hl:l.length≤1048576) (hq:∀ x∈l,Q x) {k:Int} (hk:0≤k) {B2:Nat} (hB:B2=B*1048576) (hk2:k+B2≤1125899906842624) :
  ∃ k' ys,G F0 k 0 l=some (k',ys)∧H ys 0 k=some (Sum.inl k')∧k≤k'∧k'≤k+B2:=by
 have key:∀(rest done:List α)(k:Int)(fuel:Nat),(∀ x∈rest,Q x)→done.length+rest.length≤4194304→0≤k→k+B*rest.length≤1125899906842624→rest.length<fuel →
   ∃ k' ys,G fuel k done.length (done ++ rest)=some (k',done ++ ys)∧(∀ z,H ys z k=some (Sum.inl k'))∧k≤k'∧k'≤k+B*rest.length:=by
  intro rest
  induction rest with
  | nil=>
   intro done k fuel _ hd h0 h1 hf
   obtain _ | fuel:=fuel
   ·omega
   exact ⟨k,[],by rw [he fuel k _ _ (by simp)],fun z=>hn z k,by omega,by simp⟩
  | cons x xs ih=>
   intro done k fuel hq hd h0 h1 hf
   obtain _ | fuel:=fuel
   ·omega
   simp only [List.length_cons] at hd h1 hf
   have hm:(B:Int)*((xs.length+1:Nat):Int)=B*xs.length+B:=by rw [Int.natCast_add,Int.mul_add];simp
   have hm0:(0:Int)≤(B:Int)*(xs.length:Int):=Int.mul_nonneg (by omega) (by omega)
   rw [hm] at h1
   obtain ⟨k1,y,a1,a2,a3,a4⟩:=hs fuel k (done.length:Int) (done ++ x::xs) x (by omega) (by simp;omega) (by simp;omega) h0 (by omega) (by simp) (hq x (List.mem_cons_self ..))
   have e1:((done ++ x::xs).set ((done.length:Int)).toNat y)=(done ++ [y]) ++ xs:=by simp
   have e2:((done.length:Int)+1)=((done ++ [y]).length:Int):=by simp
   obtain ⟨k2,ys,b1,b2,b3,b4⟩:=ih (done ++ [y]) k1 fuel (fun z hz=>hq z (List.mem_cons_of_mem _ hz)) (by simp;omega) (by omega) (by omega) (by omega)
   refine ⟨k2,y::ys,by rw [a3,e1,e2,b1];simp,fun z=>by rw [a4,b2],by omega,?_⟩
   simp only [List.length_cons];rw [hm];omega
 subst hB
 have hle:(B:Int)*(l.length:Int)≤B*1048576:=Int.mul_le_mul_of_nonneg_left (by omega) (by omega)
 rw [Int.natCast_mul] at hk2 ⊢
 have h20:((1048576:Nat):Int)=1048576:=rfl
 rw [h20] at hk2 ⊢
 obtain ⟨k',ys,a1,a2,a3,a4⟩:=key l [] k F0 hq (by simp;omega) hk (by omega) (by have:=F0_gt;omega)
 exact ⟨k',ys,by simpa using a1,a2 0,a3,by omega⟩

def MkOk {α:Type}(f:α→Int→Option Int)(B:Nat)(x:α):Prop:=∀ k:Int,0≤k→k+B≤9223372036854775807→∃ k',f x k=some k'∧k≤k'∧k'≤k+B
theorem markK {α:Type}{L1:List α→Int→Int→Option Int}{e:Nat}{Q:α→Prop}(h0:∀ z k:Int,L1 [] z k=some k)
  (hs:∀(x:α)(xs:List α)(z k:Int),Q x→0≤k→k+e≤9223372036854775807→∃ k',k≤k'∧k'≤k+e∧L1 (x::xs) z k=L1 xs (z+1) k') :
  ∀(l:List α)(z k:Int),(∀ x∈l,Q x)→0≤k→k+e*l.length≤9223372036854775807→∃ k',L1 l z k=some k'∧k≤k'∧k'≤k+e*l.length
 | [],z,k,_,_,_=>⟨k,h0 z k,by omega,by simp⟩
 | x::xs,z,k,hq,hk,hb=>by
  have hm:(e:Int)*((xs.length+1:Nat):Int)=e*xs.length+e:=by rw [Int.natCast_add,Int.mul_add];simp
  have hm0:(0:Int)≤(e:Int)*(xs.length:Int):=Int.mul_nonneg (by omega) (by omega)
  simp only [List.length_cons] at hb ⊢
  rw [hm] at hb ⊢
  obtain ⟨k1,h1,h2,h3⟩:=hs x xs z k (hq x (List.mem_cons_self ..)) hk (by omega)
  obtain ⟨k2,h4,h5,h6⟩:=markK h0 hs xs (z+1) k1 (fun y hy=>hq y (List.mem_cons_of_mem _ hy)) (by omega) (by omega)
  exact ⟨k2,by rw [h3,h4],by omega,by omega⟩
theorem MkOk.list {α:Type}{L1:List α→Int→Int→Option Int}{f:List α→Int→Option Int}{e B:Nat}{Q:α→Prop}(h0:∀ z k:Int,L1 [] z k=some k)
  (hs:∀(x:α)(xs:List α)(z k:Int),Q x→0≤k→k+e≤9223372036854775807→∃ k',k≤k'∧k'≤k+e∧L1 (x::xs) z k=L1 xs (z+1) k')
  (hf:∀ l k,f l k=L1 l 0 k) {l:List α} (hl:l.length≤1048576) (hq:∀ x∈l,Q x) (hB:B=e*1048576):MkOk f B l:=fun k hk hb=>by
 subst hB
 have hle:(e:Int)*(l.length:Int)≤e*1048576:=Int.mul_le_mul_of_nonneg_left (by omega) (by omega)
 rw [Int.natCast_mul] at hb ⊢
 have h20:((1048576:Nat):Int)=1048576:=rfl
 rw [h20] at hb ⊢
 obtain ⟨k',h1,h2,h3⟩:=markK h0 hs l 0 k hq hk (by omega)
 exact ⟨k',by rw [hf,h1],h2,by omega⟩
theorem markText {L1:Nat→Int→ByteArray→Option ByteArray}(hs:∀(fuel:Nat) (k:Int) (s:ByteArray),0<k→k≤9223372036854775807→s.size≤100→∃ s',s'.size=s.size+1∧L1 (fuel+1) k s=L1 fuel (k.tdiv 10) s')(he:∀(fuel:Nat)(k:Int)(s:ByteArray),k≤0→L1 (fuel+1) k s=some s) :
  ∀(m fuel:Nat)(k:Int)(s:ByteArray),m<fuel→k<10 ^ m→k≤9223372036854775807→s.size+m≤100→∃ s',L1 fuel k s=some s'∧s'.size≤s.size+m
 | m,0,k,s,h,_,_,_=>by omega
 | 0,fuel+1,k,s,_,hk,_,_=>⟨s,he fuel k s (by simp at hk;omega),by omega⟩
 | m+1,fuel+1,k,s,hf,hk,hk3,hsz=>by
  by_cases h0:0<k
  ·obtain ⟨s1,e1,e2⟩:=hs fuel k s h0 hk3 (by omega)
   have hk':k.tdiv 10<10 ^ m:=by
    rw [Int.tdiv_eq_ediv_of_nonneg (by omega)]
    rw [Int.pow_succ] at hk
    omega
   obtain ⟨s2,e3,e4⟩:=markText hs he m fuel (k.tdiv 10) s1 (by omega) hk' (by rw [Int.tdiv_eq_ediv_of_nonneg (by omega)];omega) (by omega)
   exact ⟨s2,by rw [e2,e3],by omega⟩
  exact ⟨s,he fuel k s (by omega),by omega⟩
end Go.Px
namespace Go.Px
set_option linter.unusedSimpArgs false
set_option linter.unusedVariables false
end Go.Px
