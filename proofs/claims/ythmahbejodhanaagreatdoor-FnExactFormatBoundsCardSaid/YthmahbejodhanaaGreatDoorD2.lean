/-
  PROVED: definitions that say what functions of the program compute. No condition.
-/
import Derived.Test.YthmahbejodhanaaGreatDoorD1
namespace Go.Px.YthmahbejodhanaaGreatDoor
set_option linter.unusedSimpArgs false
set_option linter.unusedVariables false
open Go.Px
theorem H1f {p:A0b}{b:A0r}{r:Int}{K:Int→Int}{q:Int→Bool}:∀(xs:List A0f)(z:Int)(a:List Int),(∀ x∈idxs xs z,idxL b.MinStart x=some (K x)∧∃ v,E0j p b r x=some v∧(v == 0) = !q x)→(∀ x∈a,idxL b.MinStart x=some (K x))→a.length+xs.length≤900 →
  D0r p b r xs z a=some (W0g K a ((idxs xs z).filter q))
 | [],z,a,_,_,_=>rfl
 | x::xs,z,a,h,ha,hl=>by
  simp only [List.length_cons] at hl
  obtain ⟨hk,v,hv,hq⟩:=h z (by simp [idxs])
  have h':=fun y hy=>h y (by simp only [idxs,List.mem_cons];exact .inr hy)
  simp only [D0r,hv,hq,Option.bind_some]
  cases hqz:q z with
  | false=>
   simp only [Bool.not_false,cond_true]
   rw [H1f xs (z+1) a h' ha (by omega)]
   simp [idxs,List.filter_cons,hqz]
  | true=>
   simp only [Bool.not_true,cond_false]
   have h1:=M1p hk a.reverse [] F0 (fun x hx=>ha x (by simpa using hx)) (by simp;omega) (by have:=F0_gt;simp;omega)
   rw [List.length_reverse,List.reverse_reverse,List.append_nil] at h1
   have hp:posB K z a.reverse≤a.length:=by have:=P1r K z a.reverse;simpa using this
   have s1:=Q1j a 0 (posB K z a.reverse) (Nat.zero_le _) hp
   have s2:=Q1j a (posB K z a.reverse) a.length hp (Nat.le_refl _)
   rw [show ((0:Nat):Int)=0 from rfl] at s1
   rw [h1,Option.bind_some,s1,Option.bind_some,W0x (by simp;omega),Option.bind_some,W0x (by simp;omega),Option.bind_some,s2,Option.bind_some,W0x (by simp;omega),Option.bind_some]
   have e:=M1o K z a.reverse []
   rw [List.reverse_reverse,List.append_nil] at e
   have e2:[] ++ List.drop 0 (List.take (posB K z a.reverse) a) ++ [z] ++ List.drop (posB K z a.reverse) (List.take a.length a)=insB K z a.reverse []:=by
    rw [← e];simp
   rw [e2]
   have hm:=Y0z K z a.reverse []
   have hlen:(insB K z a.reverse []).length=a.length+1:=by rw [hm.length_eq];simp
   rw [H1f xs (z+1) _ h' (fun x hx=>by
    have:=hm.mem_iff.1 hx
    simp at this
    rcases this with rfl | e
    ·exact hk
    exact ha x e) (by omega)]
   simp [idxs,List.filter_cons,hqz,W0g]
theorem E1o {f:TMode→Option Int}:∀(xs:List TMode)(a:Int)(has:Bool),(∀ x∈xs,∀ v,f x=some v→0≤v)→0≤a→0≤Sum.elim id id (S0i f xs a has)
 | [],a,has,_,h=>h
 | x::xs,a,has,hx,h=>by
  unfold S0i
  have h':=fun y hy=>hx y (List.mem_cons_of_mem _ hy)
  cases hf:f x with
  | none=>exact Int.le_refl _
  | some v=>
   have hv:=hx x (List.mem_cons_self ..) v hf
   show 0≤Sum.elim id id (bif (!has || decide (v<a)) then S0i f xs v true else S0i f xs a true)
   cases (!has || decide (v<a)) with
   | true=>exact E1o xs v true h' hv
   | false=>exact E1o xs a true h' h
theorem T1j {p:A0b}{b:A0r}(h:DomF p b){a:Int}{x:A0f}(hx:idxL p.Activities a=some x)(res:Int):∃ v,E0j p b res a=some v∧0≤v:=by
 obtain ⟨m1,m2,ms,h1,h2,h3,_⟩:=h.at_ a x hx
 have hact:=h.proj.acts x (C0u hx).2
 refine ⟨_,by simp only [E0j,hx,h3,Option.bind_some,R0b,Q0m];rfl,E1o _ 0 false (fun y hy v hv=>?_) (Int.le_refl _)⟩
 have hm:=hact.2.2 y (U0c _ _ _ _ hy)
 simp only [amtO,cond_false,Option.map_eq_some_iff] at hv
 obtain ⟨w,hw,rfl⟩:=hv
 unfold eltO at hw
 cases hr:inR res 0 (W ((y.Usage.length:Int) - 1)) with
 | false=>rw [hr] at hw;cases hw
 | true=>
  rw [hr,cond_true] at hw
  exact (hm.2.1.2 w (C0u hw).2).1
theorem G1b {α:Type}:∀(l:List α)(z:Int),0≤z→(idxs l z).Nodup
 | [],z,_=>List.nodup_nil
 | x::xs,z,hz=>by
  unfold idxs
  refine List.nodup_cons.2 ⟨fun h=>?_,G1b xs (z+1) (by omega)⟩
  have:=G1q xs (z+1) (by omega) z h
  omega
theorem T1r (x y:Int):∃ c,L0e x y=some c∧(c<0 ↔ x<y):=by
 have e:∀ x:Int,(x != x)=false:=fun x=>by simp
 simp only [L0e,N0e,Option.bind_some,e,cond_false]
 by_cases h:x<y
 ·exact ⟨-1,by rw [decide_eq_true h];rfl,by omega⟩
 by_cases h2:y<x
 ·exact ⟨1,by rw [decide_eq_false h,decide_eq_true h2];rfl,by omega⟩
 exact ⟨0,by rw [decide_eq_false h,decide_eq_false h2];rfl,by omega⟩
structure S1l (p:A0b)(b:A0r)(r:Int)(v:List Int):Prop where
 use:UseF p b
 ok:N0d p b=some true
 mach:G0e p r=some true
 nd:v.Nodup
 len:v.length≤6
 ins:∀ x∈v,inR x 0 (W ((p.Activities.length:Int) - 1))=true
theorem R1s (p:A0b)(b:A0r)(r:Int)(hp:D0a 1048576 p)(hb:S0a 1048576 b):∃ v,L0w p b r=some v∧L0z p b r=some v∧(v=[]∨S1l p b r v):=by
 obtain ⟨v,hv,hf⟩:=N1r p (U0h hp (by omega)) b
 obtain ⟨m,hm,hg⟩:=W0o p r
 simp only [L0w,L0z,T0z,M1f p b (N1e hb),B1e,hv,hm,Option.bind_some]
 cases v with
 | false=>exact ⟨[],rfl,rfl,.inl rfl⟩
 | true=>
  cases m with
  | false=>exact ⟨[],rfl,rfl,.inl rfl⟩
  | true=>
   have U:=hf rfl
   have hn:=U.dom.proj.nact
   have hat:∀ a∈idxs p.Activities 0,idxL b.MinStart a=some ((idxL b.MinStart a).getD 0)∧inR a 0 (W ((p.Activities.length:Int) - 1))=true∧∃ v,E0j p b r a=some v∧0≤v:=by
    intro a ha
    have h1:=G1q p.Activities 0 (Int.le_refl _) a ha
    obtain ⟨x,hx,_⟩:=K0g (l:=p.Activities) (z:=a) h1.1 (by omega)
    obtain ⟨m1,m2,ms,k1,k2,k3,_⟩:=U.dom.at_ a x hx
    refine ⟨by rw [k1];rfl,?_,T1j U.dom hx r⟩
    rw [W_of ⟨by omega,by omega⟩]
    exact G0b.2 ⟨h1.1,by omega⟩
   have hq:∀ a∈idxs p.Activities 0,D0l a p b r=some (!((E0j p b r a).getD 0 == 0)):=by
    intro a ha
    obtain ⟨_,h2,v,h3,h4⟩:=hat a ha
    simp only [D0l,R1v hp hb hv hm h2,h3,Option.bind_some,Option.getD_some]
    congr 1
    by_cases h0:v=0
    ·subst h0;rfl
    rw [decide_eq_true (by omega)];simp [h0]
   have hr:P0a (p.Activities.length:Int)=some (idxs p.Activities 0):=by rw [D1y,Z0g _ (by omega),L1g]
   have hk:K1e (idxs p.Activities 0) (fun x0=>D0l x0 p b r)=some ((idxs p.Activities 0).filter fun a=>!((E0j p b r a).getD 0 == 0)):=by
    have:=K1n (g:=fun x0=>D0l x0 p b r) (idxs p.Activities 0) 0 [] hq (by rw [H1g];simp;omega)
    simp only [K1e,this,Option.bind_some,List.nil_append]
   have hlen:((idxs p.Activities 0).filter fun a=>!((E0j p b r a).getD 0 == 0)).length≤6:=by
    have:=List.length_filter_le (fun a=>!((E0j p b r a).getD 0 == 0)) (idxs p.Activities 0)
    rw [H1g] at this
    omega
   have hs:=N1u (g:=fun x0 x1=>G0s x0 x1 b) (K:=fun a=>(idxL b.MinStart a).getD 0) (V:=fun a=>idxL b.MinStart a=some ((idxL b.MinStart a).getD 0)) (fun x y hx hy=>by
    obtain ⟨c,hc,hi⟩:=T1r ((idxL b.MinStart x).getD 0) ((idxL b.MinStart y).getD 0)
    refine ⟨c,?_,hi⟩
    simp only [G0s]
    rw [hx,hy]
    simp only [Option.bind_some,Option.getD_some,hc]) _ (fun x hx=>(hat x ((List.mem_filter.1 hx).1)).1) (Nat.lt_of_le_of_lt hlen (by omega))
   have hc:=H1f (p:=p) (b:=b) (r:=r) (K:=fun a=>(idxL b.MinStart a).getD 0) (q:=fun a=>!((E0j p b r a).getD 0 == 0)) p.Activities 0 [] (fun x hx=>by
    obtain ⟨h1,h2,v,h3,h4⟩:=hat x hx
    exact ⟨h1,v,h3,by simp [h3]⟩) (fun x hx=>by cases hx) (by simp;omega)
   have hperm:=C1g (fun a=>(idxL b.MinStart a).getD 0) ((idxs p.Activities 0).filter fun a=>!((E0j p b r a).getD 0 == 0)) []
   rw [List.nil_append] at hperm
   refine ⟨_,by simp only [Bool.not_true,cond_false,hc,Option.bind_some];rfl,by simp only [Bool.not_true,cond_true,cond_false,hr,hk,hs,Option.bind_some],.inr ⟨U,hv,hm,?_,?_,?_⟩⟩
   ·exact hperm.nodup_iff.2 (List.Nodup.sublist List.filter_sublist (G1b _ 0 (Int.le_refl _)))
   ·rw [hperm.length_eq];exact hlen
   intro x hx
   exact (hat x ((List.mem_filter.1 (hperm.mem_iff.1 hx)).1)).2.1
theorem G1x {p:A0b}{b:A0r}{r:Int}(U:UseF p b)(ho:N0d p b=some true)(hmc:G0e p r=some true)(hs:∀ x∈p.Activities,x.Name.size≤9223372036854775807){x y:Int}(hx0:inR x 0 (W ((p.Activities.length:Int) - 1))=true)(hy0:inR y 0 (W ((p.Activities.length:Int) - 1))=true) :
  ∃ rs ax ay row v,idxL p.Resources r=some rs∧idxL p.Activities x=some ax∧idxL p.Activities y=some ay∧idxL rs.Setup ax.Family=some row∧idxL row ay.Family=some v∧R0u p r x y=some v∧0≤v∧v≤12:=by
 obtain ⟨m,hm,hg⟩:=W0o p r
 have e:=hmc
 rw [hm] at e;cases e
 obtain ⟨rs,hr,hl⟩:=hg rfl
 obtain ⟨ax,hx,mx⟩:=N0v hx0
 obtain ⟨ay,hy,my⟩:=N0v hy0
 have fr:=U.dom.proj.ress rs (C0u hr).2
 have l4:rs.Setup.length=4:=by have:=fr.2.2.1;omega
 have fx:=(U.dom.proj.acts ax mx).1
 have fy:=(U.dom.proj.acts ay my).1
 obtain ⟨row,k1,k2⟩:=K0g (l:=rs.Setup) fx.1 (by omega)
 obtain ⟨v,k3,k4⟩:=K0g (l:=row) fy.1 (by have:=(fr.2.2.2 row k2).1;omega)
 have hb:=(fr.2.2.2 row k2).2 v k4
 refine ⟨rs,ax,ay,row,v,hr,hx,hy,k1,k3,?_,hb.1,hb.2⟩
 simp only [R0u,B1e,hmc,F0r,K1u hs ho,S0s,hx0,hy0,hr,hx,hy,k1,k3,Option.bind_some,Bool.not_true,cond_false]
section
variable {p:A0b}{b:A0r}{r:Int}(U:UseF p b)(ho:N0d p b=some true)(hmc:G0e p r=some true)(hs:∀ x∈p.Activities,x.Name.size≤9223372036854775807){y:Int}(hy0:inR y 0 (W ((p.Activities.length:Int) - 1))=true)
include U ho hmc hs hy0
theorem mb_t:∀(xs:List Int)(z z' a:Int),(∀ x∈xs,inR x 0 (W ((p.Activities.length:Int) - 1))=true)→0≤a→∃ w,B0r p r y xs z a=some w∧B0q p r y xs z' a true=some w∧0≤w
 | [],z,z',a,_,ha=>⟨a,rfl,rfl,ha⟩
 | x::xs,z,z',a,h,ha=>by
  obtain ⟨rs,ax,ay,row,v,h1,h2,h3,h4,h5,h6,h7,h8⟩:=G1x U ho hmc hs (h x (List.mem_cons_self ..)) hy0
  have h':=fun k hk=>h k (List.mem_cons_of_mem _ hk)
  simp only [B0r,B0q,h1,h2,h3,h4,h5,h6,Option.bind_some,D1w,Bool.not_true,cond_false]
  cases hxy:(x != y) with
  | false=>simp only [cond_false,Option.bind_some];exact mb_t xs (z+1) (z'+1) a h' ha
  | true=>
   simp only [cond_true,Option.bind_some]
   by_cases hva:v<a
   ·rw [decide_eq_true hva,cond_true,show min a v=v by omega];exact mb_t xs (z+1) (z'+1) v h' h7
   rw [decide_eq_false hva,cond_false,show min a v=a by omega];exact mb_t xs (z+1) (z'+1) a h' ha
theorem mb_f:∀(xs:List Int)(z z':Int),(∀ x∈xs,inR x 0 (W ((p.Activities.length:Int) - 1))=true) →
  (∃ w,B0r p r y xs z 12=some w∧B0q p r y xs z' 0 false=some w∧0≤w)∨((∀ x∈xs,x=y)∧B0r p r y xs z 12=some 12∧B0q p r y xs z' 0 false=some 0)
 | [],z,z',_=>.inr ⟨fun _ h=>(List.not_mem_nil h).elim,rfl,rfl⟩
 | x::xs,z,z',h=>by
  obtain ⟨rs,ax,ay,row,v,h1,h2,h3,h4,h5,h6,h7,h8⟩:=G1x U ho hmc hs (h x (List.mem_cons_self ..)) hy0
  have h':=fun k hk=>h k (List.mem_cons_of_mem _ hk)
  simp only [B0r,B0q,h1,h2,h3,h4,h5,h6,Option.bind_some,D1w,Bool.not_false,cond_true]
  cases hxy:(x != y) with
  | false=>
   simp only [cond_false,Option.bind_some]
   have hxe:x=y:=by simpa using hxy
   rcases mb_f xs (z+1) (z'+1) h' with h | ⟨h,e1,e2⟩
   ·exact .inl h
   exact .inr ⟨fun k hk=>(List.mem_cons.1 hk).elim (fun e=>e.trans hxe) (h k),e1,e2⟩
  | true=>
   simp only [cond_true,Option.bind_some]
   rw [show min 12 v=v by omega]
   exact .inl (mb_t U ho hmc hs hy0 xs (z+1) (z'+1) v h' h7)
end
theorem U1a (a b c:Int):W (W (a+b)+c)=W (a+W (b+c)):=by
 show IntKind.i64.wrap (IntKind.i64.wrap (a+b)+c)=IntKind.i64.wrap (a+IntKind.i64.wrap (b+c))
 simp only [IntKind.wrap_i64]
 omega
theorem T1z (a:Int)(b:Int):W (a+W (b+0))=W (a+b):=by
 show IntKind.i64.wrap (a+IntKind.i64.wrap (b+0))=IntKind.i64.wrap (a+b)
 simp only [IntKind.wrap_i64]
 omega
theorem mb_L1 {p:A0b}{b:A0r}{r:Int}{v:List Int}(C:S1l p b r v)(hp:D0a 1048576 p):∀(xs:List Int)(z z' a c:Int),(∀ x∈xs,x∈v)→0≤c→∃ w,D0j p b r v xs z a c=some w∧E0z p b r v xs z' a c=some w
 | [],z,z',a,c,_,_=>⟨_,rfl,rfl⟩
 | x::xs,z,z',a,c,h,hc=>by
  have hxv:=h x (List.mem_cons_self ..)
  have h':=fun k hk=>h k (List.mem_cons_of_mem _ hk)
  have hx0:=C.ins x hxv
  obtain ⟨ax,hx,_⟩:=N0v hx0
  obtain ⟨u,hu⟩:=G1z C.use.dom hx
  simp only [D0j,E0z,L1y p b x (P1m hp),hu,L0c,Option.bind_some]
  have hnd:=C.nd
  by_cases h1:1<v.length
  ·rcases mb_f C.use C.ok C.mach (U0h hp (by omega)) hx0 v 0 0 C.ins with ⟨w,e1,e2,e3⟩ | ⟨e,_,_⟩
   ·rw [e1,e2,Option.bind_some,Option.bind_some,decide_eq_true (show (1:Int)<(v.length:Int) by omega),cond_true,U1a]
    exact mb_L1 C hp xs (z+1) (z'+1) _ _ h' (by omega)
   exfalso
   match v,h1,e,hnd with
   | k1::k2::ks,_,e,hnd=>
    have a1:=e k1 (by simp)
    have a2:=e k2 (by simp)
    subst a1
    simp [a2] at hnd
  ·have hv1:v=[x]:=by
    match v,h1,hxv with
    | [k],_,hxv=>simp at hxv;rw [hxv]
    | k1::k2::ks,h1,_=>simp at h1
   rcases mb_f C.use C.ok C.mach (U0h hp (by omega)) hx0 v 0 0 C.ins with ⟨w,e1,e2,e3⟩ | ⟨e,e1,e2⟩
   ·exfalso
    obtain ⟨rs,ax',ay,row,q,g1,g2,g3,g4,g5,g6,_,_⟩:=G1x C.use C.ok C.mach (U0h hp (by omega)) hx0 hx0
    rw [hv1] at e1 e2
    simp [B0r] at e1
    simp [B0q,g6] at e2
    omega
   rw [e1,e2,Option.bind_some,Option.bind_some,decide_eq_false (show ¬ (1:Int)<(v.length:Int) by omega),cond_false,T1z,show max c 0=c by omega]
   exact mb_L1 C hp xs (z+1) (z'+1) _ _ h' hc
theorem A1m (p:A0b)(b:A0r)(r:Int)(hp:D0a 1048576 p)(hb:S0a 1048576 b):∃ v,M0b p b r=some v∧L0x p b r=some v:=by
 obtain ⟨v,h1,h2,h3⟩:=R1s p b r hp hb
 simp only [M0b,L0x,h1,h2,Option.bind_some]
 rcases h3 with rfl | C
 ·exact ⟨0,rfl,rfl⟩
 by_cases h0:v.length=0
 ·rw [show ((v.length:Int) == 0)=true by simp [h0]];exact ⟨0,rfl,rfl⟩
 rw [show ((v.length:Int) == 0)=false by simpa using h0,cond_false,cond_false]
 obtain ⟨x,hx,hxm⟩:=K0g (l:=v) (z:=0) (by omega) (by omega)
 obtain ⟨ax,hax,_⟩:=N0v (C.ins x hxm)
 obtain ⟨m1,m2,ms,k1,k2,k3,_⟩:=C.use.dom.at_ x ax hax
 obtain ⟨w,e1,e2⟩:=mb_L1 C hp v 0 0 m1 0 (fun x hx=>hx) (by omega)
 simp only [hx,k1,e1,e2,Option.bind_some]
 exact ⟨_,rfl,rfl⟩
theorem P1u (p:A0b):∀(xs:List A0f)(z:Int)(a c:List Int)(d:List (List Int)),E0i p xs z a c d=L0m p xs z a c d
 | [],z,a,c,d=>rfl
 | x::xs,z,a,c,d=>by simp only [E0i,L0m,K0m,P1u p xs]
theorem Q1n (p:A0b):∀(xs:List A0f)(z:Int)(a c:List Int)(d:List (List Int)),(∀ x∈xs,x.Modes.length≤3)→a.length+xs.length≤900→c.length+xs.length≤900→d.length+xs.length≤900→(∀ m∈d,m.length≤3) →
  ∃ v,L0m p xs z a c d=some v∧v.1.length≤900∧v.2.1.length≤900∧v.2.2.length≤900∧∀ m∈v.2.2,m.length≤3
 | [],z,a,c,d,_,h1,h2,h3,h4=>⟨_,rfl,by simpa using h1,by simpa using h2,by simpa using h3,h4⟩
 | x::xs,z,a,c,d,hx,h1,h2,h3,h4=>by
  simp only [List.length_cons] at h1 h2 h3
  have hm:=hx x (List.mem_cons_self ..)
  simp only [L0m,K0h x (by omega)]
  rw [W0x (by simp;omega),Option.bind_some,W0x (by simp;omega),Option.bind_some,Option.bind_some,W0x (by simp;omega),Option.bind_some]
  refine Q1n p xs (z+1) _ _ _ (fun y hy=>hx y (List.mem_cons_of_mem _ hy)) (by simp;omega) (by simp;omega) (by simp;omega) (fun m hmm=>?_)
  rcases List.mem_append.1 hmm with e | e
  ·exact h4 m e
  simp at e;subst e;simpa [M0c] using hm
theorem M1v (p:A0b)(hp:D0a 1048576 p)(D:A0r)(hD:S0a 1048576 D)(e1:A1j p=some D)(e2:J0i p=some D):∀(xs:List A0q)(z a:Int),∃ v,C0k p xs z a=some v∧C0i p xs z a=some v
 | [],z,a=>⟨a,rfl,rfl⟩
 | x::xs,z,a=>by
  obtain ⟨v,h1,h2⟩:=A1m p D z hp hD
  simp only [C0k,C0i,e1,e2,h1,h2,L0c,Option.bind_some]
  exact M1v p hp D hD e1 e2 xs (z+1) _
theorem N0o (p:A0b)(hp:D0a 1048576 p):∃ v,E0x p=some v∧E0v p=some v:=by
 obtain ⟨v,hv,hf⟩:=G0m p (U0h hp (by omega))
 simp only [E0x,E0v,F0r,hv,Option.bind_some]
 cases v with
 | false=>exact ⟨0,rfl,rfl⟩
 | true=>
  have F:=hf rfl
  have hn:=F.nact
  obtain ⟨w,h1,h2,h3,h4,h5⟩:=Q1n p p.Activities 0 [] [] [] (fun x hx=>(F.acts x hx).2.1.2) (by simp;omega) (by simp;omega) (by simp;omega) (fun m hm=>by cases hm)
  have e1:A1j p=some (A0r.mk w.1 w.2.1 w.2.2):=by simp only [A1j,h1,Option.bind_some]
  have e2:J0i p=some (A0r.mk w.1 w.2.1 w.2.2):=by simp only [J0i,F0r,hv,Option.bind_some,Bool.not_true,cond_false,P1u,h1]
  have hD:S0a 1048576 (A0r.mk w.1 w.2.1 w.2.2):=by
   refine ⟨?_,?_,⟨?_,fun m hm=>?_⟩,trivial⟩
   ·show w.1.length≤1048576;omega
   ·show w.2.1.length≤1048576;omega
   ·show w.2.2.length≤1048576;omega
   show m.length≤1048576;have:=h5 m hm;omega
  obtain ⟨v,k1,k2⟩:=M1v p hp _ hD e1 e2 p.Resources 0 0
  simp only [k1,k2,Option.bind_some,Bool.not_true,cond_false]
  exact ⟨v,rfl,rfl⟩
theorem C1w (p:A0b)(hp:D0a 1048576 p):∃ v,P0v p=some v∧P0j p=some v:=by
 have hs:=U0h hp (by omega)
 obtain ⟨b,hb,_⟩:=G0m p hs
 obtain ⟨v,v1,v2⟩:=U0z hs
 obtain ⟨w,w1,w2⟩:=A1o hs
 obtain ⟨m,m1,m2⟩:=N0o p hp
 simp only [P0v,P0j,F0r,hb,v1,v2,w1,w2,m1,m2,L0c,Option.bind_some]
 cases b
 ·exact ⟨_,rfl,rfl⟩
 refine ⟨_,rfl,?_⟩
 simp only [Bool.not_true,cond_false]
 congr 1
 omega
theorem A1l {a b:ByteArray}(h:a.size+b.size≤9223372036854775807):catS a b=some (a ++ b):=by
 unfold catS;rw [if_pos h]
theorem N1b {a b:ByteArray}(h:a.data.toList=b.data.toList):a=b:=by
 cases a;cases b
 simp at h
 subst h;rfl
theorem R0r (a b:ByteArray):(a ++ b).data.toList=a.data.toList ++ b.data.toList:=by simp
theorem L0r (a:ByteArray):a.size=a.data.toList.length:=(Array.length_toList (xs:=a.data)).symm
theorem N1j (n:Int):(strB [n]).data.toList=[UInt8.ofNat n.toNat]:=rfl
theorem R1j {n:Int}(h0:9<n):Lib.decDigits n.toNat=Lib.decDigits (n / 10).toNat ++ [UInt8.ofNat (48+n % 10).toNat]:=by
 rw [Lib.decDigits,dif_neg (by omega)]
 have e1:n.toNat / 10=(n / 10).toNat:=by omega
 have e2:48+n.toNat % 10=(48+n % 10).toNat:=by omega
 rw [e1,e2]
theorem R1k {n:Int}(h0:0≤n)(h1:n≤9):Lib.decDigits n.toNat=[UInt8.ofNat (48+n).toNat]:=by
 rw [Lib.decDigits,dif_pos (by omega)]
 have e2:48+n.toNat=(48+n).toNat:=by omega
 rw [e2]
theorem R1x {n:Int}(h0:0≤n)(h1:n≤9):IntKind.u8.wrap (W (48+n))=48+n:=by
 rw [W_of ⟨by omega,by omega⟩,IntKind.wrap_u8]
 omega
theorem R1z:∀(fuel:Nat)(n:Int)(s:ByteArray),n.toNat<fuel→0≤n→s.size+n.toNat≤1000000000 →
  ∃ m t,H0r fuel n s=some (m,t)∧0≤m∧m≤9∧UInt8.ofNat (48+m).toNat::t.data.toList=Lib.decDigits n.toNat ++ s.data.toList∧t.size≤s.size+n.toNat
 | 0,n,s,h,_,_=>absurd h (Nat.not_lt_zero _)
 | fuel+1,n,s,hf,h0,hs=>by
  simp only [H0r]
  by_cases h:9<n
  ·have e1:n.tmod 10=n % 10:=Int.tmod_eq_emod_of_nonneg h0
   have e2:n.tdiv 10=n / 10:=Int.tdiv_eq_ediv_of_nonneg h0
   have h1:=N1j (48+n % 10)
   have hsz:(strB [48+n % 10]).size=1:=by rw [L0r,h1];rfl
   rw [decide_eq_true h,cond_true,e1,e2,R1x (by omega) (by omega),A1l (by omega),Option.bind_some,W_of ⟨by omega,by omega⟩]
   have hsz2:(strB [48+n % 10] ++ s).size=1+s.size:=by rw [L0r,R0r,List.length_append,← L0r,← L0r,hsz]
   obtain ⟨m,t,k1,k2,k3,k4,k5⟩:=R1z fuel (n / 10) (strB [48+n % 10] ++ s) (by omega) (by omega) (by omega)
   refine ⟨m,t,k1,k2,k3,?_,by omega⟩
   rw [k4,R1j h,R0r,h1]
   simp
  rw [decide_eq_false h,cond_false]
  exact ⟨n,s,rfl,h0,by omega,by rw [R1k h0 (by omega)];rfl,by omega⟩
theorem D1k (rec:Int→Option ByteArray)(n:Int)(h0:0≤n)(h1:n≤100000):F0k rec n=some ⟨(Lib.decDigits n.toNat).toArray⟩∧(Lib.decDigits n.toNat).length≤100001:=by
 obtain ⟨m,t,k1,k2,k3,k4,k5⟩:=R1z F0 n ByteArray.empty (by have:=F0_gt;omega) h0 (by simp;omega)
 have hin:inR n (-100000) 100000=true:=G0b.2 ⟨by omega,h1⟩
 have hs:=N1j (48+m)
 have hsz:(strB [48+m]).size=1:=by rw [L0r,hs];rfl
 have h5:t.size≤n.toNat:=by simpa using k5
 have e:strB [48+m] ++ t=⟨(Lib.decDigits n.toNat).toArray⟩:=by
  apply N1b
  rw [R0r,hs]
  have:(ByteArray.empty).data.toList=[]:=rfl
  rw [this,List.append_nil] at k4
  simpa using k4
 refine ⟨?_,?_⟩
 ·simp only [F0k,A0v,hin,Option.bind_some,Bool.not_true,cond_false,show decide (n<0)=false from decide_eq_false (by omega),k1,R1x k2 k3]
  rw [A1l (by omega),Option.bind_some,e]
 have:(Lib.decDigits n.toNat).length=(strB [48+m] ++ t).size:=by rw [e];rfl
 rw [this,L0r,R0r,List.length_append,← L0r,← L0r,hsz]
 omega
theorem S1e:∃ k,F0=k+2:=⟨F0 - 2,by have:=F0_gt;omega⟩
theorem T1m (n:Int)(h0:-100000≤n)(h1:n≤100000):∃ s,H0w n=some s∧K0v n=some s∧s.size≤100002:=by
 have hin:inR n (-100000) 100000=true:=G0b.2 ⟨by omega,h1⟩
 obtain ⟨k,hk⟩:=S1e
 have hi:K0v n=some ⟨(Lib.itoa n).toArray⟩:=by
  simp only [K0v,C0r,hin,strconv_Itoa,itoaL,Option.bind_some,Bool.not_true,cond_false]
  rw [if_pos ⟨by omega,by omega⟩,Option.bind_some]
 refine ⟨⟨(Lib.itoa n).toArray⟩,?_,hi,?_⟩
 ·unfold H0w
  rw [hk]
  by_cases h:n<0
  ·have hr:D0z (k+1) (W (0 - n))=some ⟨(Lib.decDigits (0 - n).toNat).toArray⟩:=by
    rw [W_of ⟨by omega,by omega⟩]
    exact (D1k _ (0 - n) (by omega) (by omega)).1
   show F0k (D0z (k+1)) n=_
   simp only [F0k,A0v,hin,Option.bind_some,Bool.not_true,cond_false,cond_true,show decide (n<0)=true from decide_eq_true h,hr]
   have hl:=(D1k (D0z k) (0 - n) (by omega) (by omega)).2
   rw [Int.zero_sub] at hl
   rw [A1l (by simp [ByteArray.size];omega),Option.bind_some]
   congr 1
   apply N1b
   rw [R0r]
   unfold Lib.itoa
   rw [if_pos h,show n.natAbs=(0 - n).toNat by omega]
   rfl
  show F0k (D0z (k+1)) n=_
  rw [(D1k _ n (by omega) h1).1]
  unfold Lib.itoa
  rw [if_neg h]
 unfold Lib.itoa
 split
 ·have hl:=(D1k (D0z 0) (0 - n) (by omega) (by omega)).2
  rw [Int.zero_sub] at hl
  rw [show n.natAbs=(-n).toNat by omega]
  simp [ByteArray.size];omega
 have hl:=(D1k (D0z 0) n (by omega) h1).2
 simp [ByteArray.size];omega
theorem P1l (by_:ByteArray):∀(xs:List ByteArray)(z:Int)(s:ByteArray)(B:Nat),0<z→(∀ x∈xs,x.size≤10000000)→by_.size≤10→s.size+20000000*xs.length≤B→B≤1000000000000 →
  ∃ t,N0f by_ xs z s=some t∧t.data.toList=s.data.toList ++ Lib.joinTail by_.data.toList (xs.map (·.data.toList))∧t.size≤B
 | [],z,s,B,_,_,_,hs,_=>⟨s,rfl,by simp [Lib.joinTail],by simpa using hs⟩
 | x::xs,z,s,B,hz,hx,hb,hs,hB=>by
  simp only [List.length_cons] at hs
  have hx0:=hx x (List.mem_cons_self ..)
  have e1:(s ++ by_).size=s.size+by_.size:=by rw [L0r,R0r,List.length_append,← L0r,← L0r]
  have e2:(s ++ by_ ++ x).size=s.size+by_.size+x.size:=by rw [L0r,R0r,List.length_append,← L0r,← L0r,e1]
  obtain ⟨t,h1,h2,h3⟩:=P1l by_ xs (z+1) (s ++ by_ ++ x) B (by omega) (fun y hy=>hx y (List.mem_cons_of_mem _ hy)) hb (by omega) hB
  refine ⟨t,?_,?_,h3⟩
  ·simp only [N0f,show decide (0<z)=true from decide_eq_true hz,cond_true]
   rw [A1l (by omega),Option.bind_some,A1l (by omega),Option.bind_some,h1]
  rw [h2,R0r,R0r]
  simp [Lib.joinTail]
theorem T1h (xs:List ByteArray)(by_:ByteArray)(hx:∀ x∈xs,x.size≤10000000)(hb:by_.size≤10)(hl:xs.length≤30):∃ s,F1r xs by_=some s∧strings_Join xs by_=some s:=by
 have key:∃ s,F1r xs by_=some s∧s=joinB xs by_∧s.size≤100000000000:=by
  cases xs with
  | nil=>exact ⟨ByteArray.empty,rfl,by apply N1b;simp [joinB,Lib.join_nil],by simp⟩
  | cons x xs=>
   simp only [List.length_cons] at hl
   have hx0:=hx x (List.mem_cons_self ..)
   have e0:(ByteArray.empty ++ x).size=x.size:=by rw [L0r,R0r,L0r x];rfl
   obtain ⟨t,h1,h2,h3⟩:=P1l by_ xs (0+1) (ByteArray.empty ++ x) 1000000000 (by omega) (fun y hy=>hx y (List.mem_cons_of_mem _ hy)) hb (by omega) (by omega)
   refine ⟨t,?_,?_,by omega⟩
   ·simp only [F1r,N0f,show decide ((0:Int)<0)=false from rfl,cond_false]
    rw [A1l (by simp;omega),Option.bind_some,h1,Option.bind_some]
   apply N1b
   rw [h2,R0r]
   simp [joinB,Lib.join_cons]
 obtain ⟨s,h1,h2,h3⟩:=key
 refine ⟨s,h1,?_⟩
 unfold strings_Join joinL
 rw [if_pos ⟨by omega,by rw [← h2];omega⟩,h2]
theorem S1w (n:Int):∃ s,H0w n=some s∧K0v n=some s∧s.size≤100002:=by
 by_cases h:-100000≤n∧n≤100000
 ·exact T1m n h.1 h.2
 ·have hin:inR n (-100000) 100000=false:=by
   cases hq:inR n (-100000) 100000 with
   | false=>rfl
   | true=>exact absurd (G0b.1 hq) h
  obtain ⟨k,hk⟩:=S1e
  refine ⟨ByteArray.empty,?_,?_,by decide⟩
  ·unfold H0w
   rw [hk]
   show F0k (D0z (k+1)) n=_
   simp only [F0k,A0v,hin,Option.bind_some,Bool.not_false,cond_true]
  simp only [K0v,C0r,hin,Option.bind_some,Bool.not_false,cond_true]
theorem J1o:∀(xs:List Int)(z:Int)(acc:List ByteArray),acc.length+xs.length≤20→∃ ws,ws.length=xs.length∧(∀ w∈ws,w.size≤100002)∧E0y xs z acc=some (acc ++ ws)∧∀(i:Nat) x w,xs[i]? = some x→ws[i]? = some w→H0w x=some w
 | [],z,acc,_=>⟨[],rfl,(fun w h=>by cases h),by rw [List.append_nil];rfl,fun i x w h=>by simp at h⟩
 | x::xs,z,acc,h=>by
  simp only [List.length_cons] at h
  obtain ⟨s,h1,h2,h3⟩:=S1w x
  obtain ⟨ws,k1,k2,k3,k4⟩:=J1o xs (z+1) (acc ++ [s]) (by simp;omega)
  refine ⟨s::ws,by simp [k1],fun w hw=>?_,?_,fun i y w hy hw=>?_⟩
  ·rcases List.mem_cons.1 hw with h | h
   ·rw [h];exact h3
   exact k2 w h
  ·rw [E0y]
   simp only [h2,Option.bind_some,X0p s (by omega:acc.length≤1000),k3]
   simp
  cases i with
  | zero=>simp at hy hw;subst hy;subst hw;exact h1
  | succ i=>exact k4 i y w (by simpa using hy) (by simpa using hw)
theorem A1k (p:A0b)(hp:D0a 1048576 p):∃ v,M0d p=some v∧L0u p=some v:=by
 have hs:=U0h hp (by omega)
 obtain ⟨b,hb,_⟩:=G0m p hs
 obtain ⟨v,v1,v2⟩:=U0z hs
 obtain ⟨w,w1,w2⟩:=A1o hs
 obtain ⟨m,m1,m2⟩:=N0o p hp
 obtain ⟨l,l1,l2⟩:=C1w p hp
 simp only [M0d,L0u,F0r,hb,v1,v2,w1,w2,m1,m2,l1,l2,Option.bind_some]
 cases b with
 | false=>exact ⟨_,rfl,rfl⟩
 | true=>
  obtain ⟨ws,k1,k2,k3,k4⟩:=J1o [v,w,m,l] 0 [] (by simp)
  match ws,k1 with
  | [a,c,d,e],_=>
   have e1:=k4 0 _ _ rfl rfl
   have e2:=k4 1 _ _ rfl rfl
   have e3:=k4 2 _ _ rfl rfl
   have e4:=k4 3 _ _ rfl rfl
   obtain ⟨s,j1,j2⟩:=T1h [a,c,d,e] ⟨#[32]⟩ (fun x hx=>by have:=k2 x hx;omega) (by decide) (by simp)
   refine ⟨s,?_,?_⟩
   ·simp only [Bool.not_true,cond_false,e1,e2,e3,e4,Option.bind_some,j1]
   simp only [Bool.not_true,cond_false,k3,Option.bind_some,List.nil_append,j2]
end Go.Px.YthmahbejodhanaaGreatDoor
