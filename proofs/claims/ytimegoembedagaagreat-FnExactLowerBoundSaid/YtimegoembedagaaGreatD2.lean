/-
  PROVED: definitions that say what functions of the program compute. No condition.
-/
import Derived.Test.YtimegoembedagaaGreatD1
namespace Go.Px.YtimegoembedagaaGreat
set_option linter.unusedSimpArgs false
set_option linter.unusedVariables false
open Go.Px
theorem S1b {p:A0b}{b:A0q}(h:DomF p b){a:Int}{x:A0f}(hx:idxL p.Activities a=some x)(res:Int):∃ v,E0c p b res a=some v∧0≤v:=by
 obtain ⟨m1,m2,ms,h1,h2,h3,_⟩:=h.at_ a x hx
 have hact:=h.proj.acts x (C0r hx).2
 refine ⟨_,by simp only [E0c,hx,h3,Option.bind_some,Q0h,Q0c];rfl,B1y _ 0 false (fun y hy v hv=>?_) (Int.le_refl _)⟩
 have hm:=hact.2.2 y (T0k _ _ _ _ hy)
 simp only [amtO,cond_false,Option.map_eq_some_iff] at hv
 obtain ⟨w,hw,rfl⟩:=hv
 unfold eltO at hw
 cases hr:inR res 0 (W ((y.Usage.length:Int) - 1)) with
 | false=>rw [hr] at hw;cases hw
 | true=>
  rw [hr,cond_true] at hw
  exact (hm.2.1.2 w (C0r hw).2).1
theorem F1a {α:Type}:∀(l:List α)(z:Int),0≤z→(idxs l z).Nodup
 | [],z,_=>List.nodup_nil
 | x::xs,z,hz=>by
  unfold idxs
  refine List.nodup_cons.2 ⟨fun h=>?_,F1a xs (z+1) (by omega)⟩
  have:=F1x xs (z+1) (by omega) z h
  omega
theorem S1r (x y:Int):∃ c,K0y x y=some c∧(c<0 ↔ x<y):=by
 have e:∀ x:Int,(x != x)=false:=fun x=>by simp
 simp only [K0y,N0a,Option.bind_some,e,cond_false]
 by_cases h:x<y
 ·exact ⟨-1,by rw [decide_eq_true h];rfl,by omega⟩
 by_cases h2:y<x
 ·exact ⟨1,by rw [decide_eq_false h,decide_eq_true h2];rfl,by omega⟩
 exact ⟨0,by rw [decide_eq_false h,decide_eq_false h2];rfl,by omega⟩
structure R1e (p:A0b)(b:A0q)(r:Int)(v:List Int):Prop where
 use:UseF p b
 ok:M0w p b=some true
 mach:F0r p r=some true
 nd:v.Nodup
 len:v.length≤6
 ins:∀ x∈v,inR x 0 (W ((p.Activities.length:Int) - 1))=true
theorem Q1p (p:A0b)(b:A0q)(r:Int)(hp:D0m 1048576 p)(hb:R0n 1048576 b):∃ v,L0u p b r=some v∧L0s p b r=some v∧(v=[]∨R1e p b r v):=by
 obtain ⟨v,hv,hf⟩:=M1u p (V0c hp (by omega)) b
 obtain ⟨m,hm,hg⟩:=V0s p r
 simp only [L0u,L0s,S0x,L1n p b (M1f hb),A1j,hv,hm,Option.bind_some]
 cases v with
 | false=>exact ⟨[],rfl,rfl,.inl rfl⟩
 | true=>
  cases m with
  | false=>exact ⟨[],rfl,rfl,.inl rfl⟩
  | true=>
   have U:=hf rfl
   have hn:=U.dom.proj.nact
   have hat:∀ a∈idxs p.Activities 0,idxL b.MinStart a=some ((idxL b.MinStart a).getD 0)∧inR a 0 (W ((p.Activities.length:Int) - 1))=true∧∃ v,E0c p b r a=some v∧0≤v:=by
    intro a ha
    have h1:=F1x p.Activities 0 (Int.le_refl _) a ha
    obtain ⟨x,hx,_⟩:=K0b (l:=p.Activities) (z:=a) h1.1 (by omega)
    obtain ⟨m1,m2,ms,k1,k2,k3,_⟩:=U.dom.at_ a x hx
    refine ⟨by rw [k1];rfl,?_,S1b U.dom hx r⟩
    rw [W_of ⟨by omega,by omega⟩]
    exact G0u.2 ⟨h1.1,by omega⟩
   have hq:∀ a∈idxs p.Activities 0,D0l a p b r=some (!((E0c p b r a).getD 0 == 0)):=by
    intro a ha
    obtain ⟨_,h2,v,h3,h4⟩:=hat a ha
    simp only [D0l,Q1x hp hb hv hm h2,h3,Option.bind_some,Option.getD_some]
    congr 1
    by_cases h0:v=0
    ·subst h0;rfl
    rw [decide_eq_true (by omega)];simp [h0]
   have hr:N0n (p.Activities.length:Int)=some (idxs p.Activities 0):=by rw [C1n,X0y _ (by omega),K1b]
   have hk:H1y (idxs p.Activities 0) (fun x0=>D0l x0 p b r)=some ((idxs p.Activities 0).filter fun a=>!((E0c p b r a).getD 0 == 0)):=by
    have:=K1o (g:=fun x0=>D0l x0 p b r) (idxs p.Activities 0) 0 [] hq (by rw [G1i];simp;omega)
    simp only [H1y,this,Option.bind_some,List.nil_append]
   have hlen:((idxs p.Activities 0).filter fun a=>!((E0c p b r a).getD 0 == 0)).length≤6:=by
    have:=List.length_filter_le (fun a=>!((E0c p b r a).getD 0 == 0)) (idxs p.Activities 0)
    rw [G1i] at this
    omega
   have hs:=M1z (g:=fun x0 x1=>G0k x0 x1 b) (K:=fun a=>(idxL b.MinStart a).getD 0) (V:=fun a=>idxL b.MinStart a=some ((idxL b.MinStart a).getD 0)) (fun x y hx hy=>by
    obtain ⟨c,hc,hi⟩:=S1r ((idxL b.MinStart x).getD 0) ((idxL b.MinStart y).getD 0)
    refine ⟨c,?_,hi⟩
    simp only [G0k]
    rw [hx,hy]
    simp only [Option.bind_some,Option.getD_some,hc]) _ (fun x hx=>(hat x ((List.mem_filter.1 hx).1)).1) (Nat.lt_of_le_of_lt hlen (by omega))
   have hc:=F1o (p:=p) (b:=b) (r:=r) (K:=fun a=>(idxL b.MinStart a).getD 0) (q:=fun a=>!((E0c p b r a).getD 0 == 0)) p.Activities 0 [] (fun x hx=>by
    obtain ⟨h1,h2,v,h3,h4⟩:=hat x hx
    exact ⟨h1,v,h3,by simp [h3]⟩) (fun x hx=>by cases hx) (by simp;omega)
   have hperm:=D1o (fun a=>(idxL b.MinStart a).getD 0) ((idxs p.Activities 0).filter fun a=>!((E0c p b r a).getD 0 == 0)) []
   rw [List.nil_append] at hperm
   refine ⟨_,by simp only [Bool.not_true,cond_false,hc,Option.bind_some];rfl,by simp only [Bool.not_true,cond_true,cond_false,hr,hk,hs,Option.bind_some],.inr ⟨U,hv,hm,?_,?_,?_⟩⟩
   ·exact hperm.nodup_iff.2 (List.Nodup.sublist List.filter_sublist (F1a _ 0 (Int.le_refl _)))
   ·rw [hperm.length_eq];exact hlen
   intro x hx
   exact (hat x ((List.mem_filter.1 (hperm.mem_iff.1 hx)).1)).2.1
theorem F1q {p:A0b}{b:A0q}{r:Int}(U:UseF p b)(ho:M0w p b=some true)(hmc:F0r p r=some true)(hs:∀ x∈p.Activities,x.Name.size≤9223372036854775807){x y:Int}(hx0:inR x 0 (W ((p.Activities.length:Int) - 1))=true)(hy0:inR y 0 (W ((p.Activities.length:Int) - 1))=true) :
  ∃ rs ax ay row v,idxL p.Resources r=some rs∧idxL p.Activities x=some ax∧idxL p.Activities y=some ay∧idxL rs.Setup ax.Family=some row∧idxL row ay.Family=some v∧Q0v p r x y=some v∧0≤v∧v≤12:=by
 obtain ⟨m,hm,hg⟩:=V0s p r
 have e:=hmc
 rw [hm] at e;cases e
 obtain ⟨rs,hr,hl⟩:=hg rfl
 obtain ⟨ax,hx,mx⟩:=N0i hx0
 obtain ⟨ay,hy,my⟩:=N0i hy0
 have fr:=U.dom.proj.ress rs (C0r hr).2
 have l4:rs.Setup.length=4:=by have:=fr.2.2.1;omega
 have fx:=(U.dom.proj.acts ax mx).1
 have fy:=(U.dom.proj.acts ay my).1
 obtain ⟨row,k1,k2⟩:=K0b (l:=rs.Setup) fx.1 (by omega)
 obtain ⟨v,k3,k4⟩:=K0b (l:=row) fy.1 (by have:=(fr.2.2.2 row k2).1;omega)
 have hb:=(fr.2.2.2 row k2).2 v k4
 refine ⟨rs,ax,ay,row,v,hr,hx,hy,k1,k3,?_,hb.1,hb.2⟩
 simp only [Q0v,A1j,hmc,G0j,K1z hs ho,R0y,hx0,hy0,hr,hx,hy,k1,k3,Option.bind_some,Bool.not_true,cond_false]
section
variable {p:A0b}{b:A0q}{r:Int}(U:UseF p b)(ho:M0w p b=some true)(hmc:F0r p r=some true)(hs:∀ x∈p.Activities,x.Name.size≤9223372036854775807){y:Int}(hy0:inR y 0 (W ((p.Activities.length:Int) - 1))=true)
include U ho hmc hs hy0
theorem mb_t:∀(xs:List Int)(z z' a:Int),(∀ x∈xs,inR x 0 (W ((p.Activities.length:Int) - 1))=true)→0≤a→∃ w,B0q p r y xs z a=some w∧B0p p r y xs z' a true=some w∧0≤w
 | [],z,z',a,_,ha=>⟨a,rfl,rfl,ha⟩
 | x::xs,z,z',a,h,ha=>by
  obtain ⟨rs,ax,ay,row,v,h1,h2,h3,h4,h5,h6,h7,h8⟩:=F1q U ho hmc hs (h x (List.mem_cons_self ..)) hy0
  have h':=fun k hk=>h k (List.mem_cons_of_mem _ hk)
  simp only [B0q,B0p,h1,h2,h3,h4,h5,h6,Option.bind_some,C1b,Bool.not_true,cond_false]
  cases hxy:(x != y) with
  | false=>simp only [cond_false,Option.bind_some];exact mb_t xs (z+1) (z'+1) a h' ha
  | true=>
   simp only [cond_true,Option.bind_some]
   by_cases hva:v<a
   ·rw [decide_eq_true hva,cond_true,show min a v=v by omega];exact mb_t xs (z+1) (z'+1) v h' h7
   rw [decide_eq_false hva,cond_false,show min a v=a by omega];exact mb_t xs (z+1) (z'+1) a h' ha
theorem mb_f:∀(xs:List Int)(z z':Int),(∀ x∈xs,inR x 0 (W ((p.Activities.length:Int) - 1))=true) →
  (∃ w,B0q p r y xs z 12=some w∧B0p p r y xs z' 0 false=some w∧0≤w)∨((∀ x∈xs,x=y)∧B0q p r y xs z 12=some 12∧B0p p r y xs z' 0 false=some 0)
 | [],z,z',_=>.inr ⟨fun _ h=>(List.not_mem_nil h).elim,rfl,rfl⟩
 | x::xs,z,z',h=>by
  obtain ⟨rs,ax,ay,row,v,h1,h2,h3,h4,h5,h6,h7,h8⟩:=F1q U ho hmc hs (h x (List.mem_cons_self ..)) hy0
  have h':=fun k hk=>h k (List.mem_cons_of_mem _ hk)
  simp only [B0q,B0p,h1,h2,h3,h4,h5,h6,Option.bind_some,C1b,Bool.not_false,cond_true]
  cases hxy:(x != y) with
  | false=>
   simp only [cond_false,Option.bind_some]
   have hxe:x=y:=by simpa using hxy
   rcases mb_f xs (z+1) (z'+1) h' with h | ⟨h,e1,e2⟩
   ·exact .inl h
   exact .inr ⟨fun k hk=>(List.mem_cons.1 hk).elim (fun e=>e.trans hxe) (h k),e1,e2⟩
  | true=>
   simp only [cond_true,Option.bind_some]
   rw [show min 12 v=v by omega]
   exact .inl (mb_t U ho hmc hs hy0 xs (z+1) (z'+1) v h' h7)
end
theorem S1q (a b c:Int):W (W (a+b)+c)=W (a+W (b+c)):=by
 show IntKind.i64.wrap (IntKind.i64.wrap (a+b)+c)=IntKind.i64.wrap (a+IntKind.i64.wrap (b+c))
 simp only [IntKind.wrap_i64]
 omega
theorem S1s (a:Int)(b:Int):W (a+W (b+0))=W (a+b):=by
 show IntKind.i64.wrap (a+IntKind.i64.wrap (b+0))=IntKind.i64.wrap (a+b)
 simp only [IntKind.wrap_i64]
 omega
theorem mb_L1 {p:A0b}{b:A0q}{r:Int}{v:List Int}(C:R1e p b r v)(hp:D0m 1048576 p):∀(xs:List Int)(z z' a c:Int),(∀ x∈xs,x∈v)→0≤c→∃ w,D0o p b r v xs z a c=some w∧E0t p b r v xs z' a c=some w
 | [],z,z',a,c,_,_=>⟨_,rfl,rfl⟩
 | x::xs,z,z',a,c,h,hc=>by
  have hxv:=h x (List.mem_cons_self ..)
  have h':=fun k hk=>h k (List.mem_cons_of_mem _ hk)
  have hx0:=C.ins x hxv
  obtain ⟨ax,hx,_⟩:=N0i hx0
  obtain ⟨u,hu⟩:=F1z C.use.dom hx
  simp only [D0o,E0t,L1d p b x (P1s hp),hu,L0c,Option.bind_some]
  have hnd:=C.nd
  by_cases h1:1<v.length
  ·rcases mb_f C.use C.ok C.mach (V0c hp (by omega)) hx0 v 0 0 C.ins with ⟨w,e1,e2,e3⟩ | ⟨e,_,_⟩
   ·rw [e1,e2,Option.bind_some,Option.bind_some,decide_eq_true (show (1:Int)<(v.length:Int) by omega),cond_true,S1q]
    exact mb_L1 C hp xs (z+1) (z'+1) _ _ h' (by omega)
   exfalso
   match v,h1,e,hnd with
   | k1::k2::ks,_,e,hnd=>
    have a1:=e k1 (by simp)
    have a2:=e k2 (by simp)
    subst a1
    simp [a2] at hnd
  ·have hv1:v=[x]:=by
    match v,h1,hxv with
    | [k],_,hxv=>simp at hxv;rw [hxv]
    | k1::k2::ks,h1,_=>simp at h1
   rcases mb_f C.use C.ok C.mach (V0c hp (by omega)) hx0 v 0 0 C.ins with ⟨w,e1,e2,e3⟩ | ⟨e,e1,e2⟩
   ·exfalso
    obtain ⟨rs,ax',ay,row,q,g1,g2,g3,g4,g5,g6,_,_⟩:=F1q C.use C.ok C.mach (V0c hp (by omega)) hx0 hx0
    rw [hv1] at e1 e2
    simp [B0q] at e1
    simp [B0p,g6] at e2
    omega
   rw [e1,e2,Option.bind_some,Option.bind_some,decide_eq_false (show ¬ (1:Int)<(v.length:Int) by omega),cond_false,S1s,show max c 0=c by omega]
   exact mb_L1 C hp xs (z+1) (z'+1) _ _ h' hc
theorem Z0p (p:A0b)(b:A0q)(r:Int)(hp:D0m 1048576 p)(hb:R0n 1048576 b):∃ v,L0t p b r=some v∧L0o p b r=some v:=by
 obtain ⟨v,h1,h2,h3⟩:=Q1p p b r hp hb
 simp only [L0t,L0o,h1,h2,Option.bind_some]
 rcases h3 with rfl | C
 ·exact ⟨0,rfl,rfl⟩
 by_cases h0:v.length=0
 ·rw [show ((v.length:Int) == 0)=true by simp [h0]];exact ⟨0,rfl,rfl⟩
 rw [show ((v.length:Int) == 0)=false by simpa using h0,cond_false,cond_false]
 obtain ⟨x,hx,hxm⟩:=K0b (l:=v) (z:=0) (by omega) (by omega)
 obtain ⟨ax,hax,_⟩:=N0i (C.ins x hxm)
 obtain ⟨m1,m2,ms,k1,k2,k3,_⟩:=C.use.dom.at_ x ax hax
 obtain ⟨w,e1,e2⟩:=mb_L1 C hp v 0 0 m1 0 (fun x hx=>hx) (by omega)
 simp only [hx,k1,e1,e2,Option.bind_some]
 exact ⟨_,rfl,rfl⟩
theorem N1x (p:A0b):∀(xs:List A0f)(z:Int)(a c:List Int)(d:List (List Int)),E0e p xs z a c d=L0h p xs z a c d
 | [],z,a,c,d=>rfl
 | x::xs,z,a,c,d=>by simp only [E0e,L0h,K0j,N1x p xs]
theorem N1s (p:A0b):∀(xs:List A0f)(z:Int)(a c:List Int)(d:List (List Int)),(∀ x∈xs,x.Modes.length≤3)→a.length+xs.length≤900→c.length+xs.length≤900→d.length+xs.length≤900→(∀ m∈d,m.length≤3) →
  ∃ v,L0h p xs z a c d=some v∧v.1.length≤900∧v.2.1.length≤900∧v.2.2.length≤900∧∀ m∈v.2.2,m.length≤3
 | [],z,a,c,d,_,h1,h2,h3,h4=>⟨_,rfl,by simpa using h1,by simpa using h2,by simpa using h3,h4⟩
 | x::xs,z,a,c,d,hx,h1,h2,h3,h4=>by
  simp only [List.length_cons] at h1 h2 h3
  have hm:=hx x (List.mem_cons_self ..)
  simp only [L0h,J0z x (by omega)]
  rw [W0t (by simp;omega),Option.bind_some,W0t (by simp;omega),Option.bind_some,Option.bind_some,W0t (by simp;omega),Option.bind_some]
  refine N1s p xs (z+1) _ _ _ (fun y hy=>hx y (List.mem_cons_of_mem _ hy)) (by simp;omega) (by simp;omega) (by simp;omega) (fun m hmm=>?_)
  rcases List.mem_append.1 hmm with e | e
  ·exact h4 m e
  simp at e;subst e;simpa [L0p] using hm
theorem L1x (p:A0b)(hp:D0m 1048576 p)(D:A0q)(hD:R0n 1048576 D)(e1:Z0m p=some D)(e2:J0b p=some D):∀(xs:List A0p)(z a:Int),∃ v,C0j p xs z a=some v∧C0i p xs z a=some v
 | [],z,a=>⟨a,rfl,rfl⟩
 | x::xs,z,a=>by
  obtain ⟨v,h1,h2⟩:=Z0p p D z hp hD
  simp only [C0j,C0i,e1,e2,h1,h2,L0c,Option.bind_some]
  exact L1x p hp D hD e1 e2 xs (z+1) _
theorem U0e (p:A0b)(hp:D0m 1048576 p):∃ v,G0l p=some v∧G0p p=some v:=by
 obtain ⟨v,hv,hf⟩:=H0q p (V0c hp (by omega))
 simp only [G0l,G0p,G0j,hv,Option.bind_some]
 cases v with
 | false=>exact ⟨0,rfl,rfl⟩
 | true=>
  have F:=hf rfl
  have hn:=F.nact
  obtain ⟨w,h1,h2,h3,h4,h5⟩:=N1s p p.Activities 0 [] [] [] (fun x hx=>(F.acts x hx).2.1.2) (by simp;omega) (by simp;omega) (by simp;omega) (fun m hm=>by cases hm)
  have e1:Z0m p=some (A0q.mk w.1 w.2.1 w.2.2):=by simp only [Z0m,h1,Option.bind_some]
  have e2:J0b p=some (A0q.mk w.1 w.2.1 w.2.2):=by simp only [J0b,G0j,hv,Option.bind_some,Bool.not_true,cond_false,N1x,h1]
  have hD:R0n 1048576 (A0q.mk w.1 w.2.1 w.2.2):=by
   refine ⟨?_,?_,⟨?_,fun m hm=>?_⟩,trivial⟩
   ·show w.1.length≤1048576;omega
   ·show w.2.1.length≤1048576;omega
   ·show w.2.2.length≤1048576;omega
   show m.length≤1048576;have:=h5 m hm;omega
  obtain ⟨v,k1,k2⟩:=L1x p hp _ hD e1 e2 p.Resources 0 0
  simp only [k1,k2,Option.bind_some,Bool.not_true,cond_false]
  exact ⟨v,rfl,rfl⟩
theorem D1y (p:A0b)(hp:D0m 1048576 p):∃ v,N0x p=some v∧N0u p=some v:=by
 have hs:=V0c hp (by omega)
 obtain ⟨b,hb,_⟩:=H0q p hs
 obtain ⟨v,v1,v2⟩:=A1k hs
 obtain ⟨w,w1,w2⟩:=H1c hs
 obtain ⟨m,m1,m2⟩:=U0e p hp
 simp only [N0x,N0u,G0j,hb,v1,v2,w1,w2,m1,m2,L0c,Option.bind_some]
 cases b
 ·exact ⟨_,rfl,rfl⟩
 refine ⟨_,rfl,?_⟩
 simp only [Bool.not_true,cond_false]
 congr 1
 omega
end Go.Px.YtimegoembedagaaGreat
