/- The law FnCoverConj holds for every input. -/
import Derived.Test.YtmegggomhjgehaaPFnCoverConjx20
import Derived.Test.YtmegggomhjgehaaQFnCoverConj
namespace Go.Proofs.Ytmegggomhjgehaa.Pure
open Go.RowKit Go.Proofs.Ytmegggomhjgehaa.PFnCoverConj Go.Proofs.YtmegggomhjgehaaW.PrintWords Go.Proofs.YtmegggomhjgehaaW.PrintLast Go.Proofs.Ytmegggomhjgehaa.M
theorem impl_PermValid_eq (p:List Int):i8_.f p=some (dec (POK p)):=by
  show some (decide _)=_
  congr 1
  refine dec_of (and_congr_right fun _=>⟨fun h=>⟨⟨rfl,fun i hi=>(h i hi).1⟩,fun i j hi hj e => ?_⟩,fun h j hj=>⟨h.1.2 j hj,fun k hk e => ?_⟩⟩)
  · have h1:=(h i hi).1
    have h2:=(h j hj).1
    unfold fn at e
    have e':rd p (i:Int)=rd p (j:Int):=by omega
    rcases Nat.lt_trichotomy i j with q|q|q
    · exact absurd e' ((h j hj).2 i q)
    · exact q
    · exact absurd e'.symm ((h i hi).2 j q)
  · have:=h.2 k j (by omega) hj (by unfold fn;rw [e])
    omega
theorem slices_Max_up (o:List Int) (m:Int) : ∀ i:Nat,m≤su_.go o m i∧(∀ j:Nat,j<i→rd o (j:Int)≤su_.go o m i)∧(su_.go o m i=m ∨ ∃ j:Nat,j<i∧su_.go o m i=rd o (j:Int))
  | 0=>⟨Int.le_refl _,fun j hj=>by omega,.inl rfl⟩
  | i+1=>by
    obtain⟨h1,h2,h3⟩:=slices_Max_up o m i
    simp only [su_.go]
    generalize su_.go o m i=v at *
    split
    · next hlt =>
      refine⟨by omega,fun j hj => ?_,.inr ⟨i,by omega,rfl⟩⟩
      by_cases e:j=i
      · subst e;exact Int.le_refl _
      · have:=h2 j (by omega);omega
    · next hlt =>
      refine⟨h1,fun j hj => ?_,?_⟩
      · by_cases e:j=i
        · subst e;omega
        · exact h2 j (by omega)
      · rcases h3 with h3|⟨j,hj,h3⟩
        · exact .inl h3
        · exact .inr ⟨j,by omega,h3⟩
theorem slices_Max_zero (o:List Int) (h:0<o.length) (h0 : ∀ i:Nat,i<o.length→0≤rd o (i:Int)) : ∃ v,su_.f o=some v∧(v=0 ↔ ∀ i:Nat,i<o.length→rd o (i:Int)=0):=by
  refine⟨_,by unfold su_.f;rw [if_pos h],?_⟩
  unfold su_.up
  obtain⟨h1,h2,h3⟩:=slices_Max_up o (rd o 0) o.length
  constructor
  · intro e i hi
    have:=h2 i hi
    have:=h0 i hi
    omega
  · intro ha
    rcases h3 with h3|⟨j,hj,h3⟩
    · rw [h3];exact ha 0 h
    · rw [h3];exact ha j hj
theorem impl_still_ev (n:Nat) (hn:n≤4194304):Ev (fun k=>in_.f k (n:Nat)) (idL n):=by
  have key : ∀ d i,n - i=d→i≤n → ∀ x3:List Int,x3.length=n→(∀ q:Nat,q<i→rd x3 (q:Int)=(q:Int))→Ev (fun k=>in_.l0 k x3 (n:Nat) (i:Nat)) (idL n):=by
    intro d
    induction d with
    | zero =>
      intro i hd hi x3 h3 hq
      obtain rfl:i=n:=by omega
      refine Ev.step (fun k=>by rw [in_.l0]) ?_
      refine Ev.neg (by omega) (Ev.const ?_)
      congr 1
      exact list_ext_rd (by rw [h3,idL_length]) (fun q hq'=>by rw [hq q (by omega),rd_idL i q (by omega)])
    | succ d ih =>
      intro i hd hi x3 h3 hq
      refine Ev.step (fun k=>by rw [in_.l0]) (Ev.pos (by omega) (Ev.pos (by omega) (Ev.pos (by omega) ?_)))
      rw [wrap64_id (by omega) (by omega)]
      refine ih (i+1) (by omega) (by omega) (x3.set i (i:Int)) (by simp [h3]) (fun q hqi => ?_)
      by_cases e:i=q
      · subst e;exact rd_set_self _ _ _ (by omega)
      · rw [rd_set_ne _ _ _ _ e];exact hq q (by omega)
  unfold in_.f
  refine Ev.pos (by omega) (Ev.pos (by omega) (Ev.bindc rfl ?_))
  have:=key n 0 (by omega) (by omega) (List.replicate n 0) (by simp) (fun q hq=>by omega)
  rw [List.length_replicate]
  exact this
def orbSum (o:List Int):Nat:=o.foldr (fun x s=>x.toNat+s) 0
theorem orbSum_set (o:List Int) : ∀ (i:Nat) (x:Int),i<o.length→0≤x→x<rd o (i:Int)→orbSum (o.set i x)<orbSum o:=by
  induction o with
  | nil=>intro i x h;simp at h
  | cons y l ih =>
    intro i x h h0 hx
    cases i with
    | zero =>
      have:rd (y :: l) ((0:Nat):Int)=y:=rfl
      rw [this] at hx
      simp only [List.set_cons_zero,orbSum,List.foldr_cons]
      omega
    | succ i =>
      have:rd (y :: l) ((i+1:Nat):Int)=rd l (i:Int):=by
        simp only [rd,List.getD_eq_getElem?_getD,Int.toNat_natCast,List.getElem?_cons_succ]
      rw [this] at hx
      have:=ih i x (by simpa using h) h0 hx
      simp only [List.set_cons_succ,orbSum,List.foldr_cons] at *
      omega
theorem orbSum_set_le (o:List Int) (i:Nat) (x:Int) (h:i<o.length) (h0:0≤x) (hx:x≤rd o (i:Int)):orbSum (o.set i x)≤orbSum o:=by
  by_cases e:x=rd o (i:Int)
  · have:o.set i x=o:=by
      refine list_ext_rd (by simp) (fun q hq => ?_)
      by_cases eq:i=q
      · subst eq;rw [rd_set_self _ _ _ h,e]
      · rw [rd_set_ne _ _ _ _ eq]
    rw [this];exact Nat.le_refl _
  · exact Nat.le_of_lt (orbSum_set o i x h h0 (by omega))
theorem impl_orbits_l2_ev {n : Nat} (hn : n ≤ 4194304) {a b : List Int} (ha : Pts n a) (hb : Pts n b) (p : List Int) (hp : Pts n p)
    (hpc : ∀ i,i<n→Con n a b i (fn p i)) (L:List (List Int)) (o0:List Int) (x17 x18:Int) (r:List Int) (pre:Prop)
    (hr : ∀ o g,OrbPre n a b o→(g=true→orbSum o<orbSum o0)→(g=false→o=o0∧pre ∧ ∀ i,i<n→rd o (fn p i:Int)=rd o (i:Int))→Ev (fun k=>il_.l1 k L o g L x17 (wrap64 (x18+1))) r) :
    ∀ d i,n - i=d→i≤n → ∀ o g,OrbPre n a b o→(g=true→orbSum o<orbSum o0)→(g=false→o=o0∧pre ∧ ∀ q,q<i→rd o (fn p q:Int)=rd o (q:Int)) →
      Ev (fun k=>il_.l2 k L o g L x17 x18 p (n:Nat) (i:Nat)) r:=by
  intro d
  induction d with
  | zero =>
    intro i hd hi o g h hg hf
    obtain rfl:i=n:=by omega
    refine Ev.step (fun k=>by rw [il_.l2]) ?_
    refine Ev.neg (by omega) ?_
    exact hr o g h hg hf
  | succ d ih =>
    intro i hd hi o g h hg hf
    have hi':i<n:=by omega
    have ep:=hp.fn hi'
    have lp:=hp.1
    have lo:=h.1
    have gi:=h.2 i hi'
    have gp:=h.2 _ ep.2
    refine Ev.step (fun k=>by rw [il_.l2]) ?_
    rw [ep.1,wrap64_id (x:=(i:Int)+1) (by omega) (by omega)]
    simp only [toNat_nat]
    refine Ev.pos (by omega) (Ev.pos (by omega) (Ev.pos (by omega) (Ev.pos (by omega) (Ev.pos (by omega) (Ev.pos (by omega) ?_)))))
    -- what a change does
    have hch : ¬ (rd o (i:Int)=rd o (fn p i:Int))→Ev (fun k=>il_.l2 k L ((o.set i (mn (rd o (i:Int)) (rd o (fn p i:Int)))).set (fn p i) (mn (rd o (i:Int)) (rd o (fn p i:Int)))) true L x17 x18 p (n:Nat) ((i:Int)+1)) r:=by
      intro hne
      have hx:mn (rd o (i:Int)) (rd o (fn p i:Int))≤rd o (i:Int)∧mn (rd o (i:Int)) (rd o (fn p i:Int))≤rd o (fn p i:Int)∧(mn (rd o (i:Int)) (rd o (fn p i:Int))<rd o (i:Int)∨mn (rd o (i:Int)) (rd o (fn p i:Int))<rd o (fn p i:Int))∧0≤mn (rd o (i:Int)) (rd o (fn p i:Int)) ∧
          (mn (rd o (i:Int)) (rd o (fn p i:Int))=rd o (i:Int)∨mn (rd o (i:Int)) (rd o (fn p i:Int))=rd o (fn p i:Int)):=by unfold mn;omega
      generalize mn (rd o (i:Int)) (rd o (fn p i:Int))=x at *
      obtain⟨x1,x2,x3,x4,x5⟩:=hx
      have hcx:Con n a b i x.toNat:=by
        rcases x5 with e|e
        · rw [e];exact gi.2.2
        · rw [e];exact(hpc i hi').trans gp.2.2
      have p1:=h.put hi' x x4 (by omega) hcx
      have p2:=p1.put ep.2 x x4 (by omega) ((hpc i hi').symm.trans hcx)
      have hs:orbSum ((o.set i x).set (fn p i) x)<orbSum o:=by
        have l1:=orbSum_set_le o i x (by omega) x4 x1
        by_cases e:i=fn p i
        · rw [← e] at hne;exact absurd rfl hne
        · have e2:rd (o.set i x) (fn p i:Int)=rd o (fn p i:Int):=rd_set_ne _ _ _ _ e
          have l2:=orbSum_set_le (o.set i x) (fn p i) x (by simp;omega) x4 (by omega)
          rcases x3 with q|q
          · have:=orbSum_set o i x (by omega) x4 q;omega
          · have:=orbSum_set (o.set i x) (fn p i) x (by simp;omega) x4 (by omega);omega
      have hs0:orbSum o≤orbSum o0:=by
        cases g with
        | true=>exact Nat.le_of_lt (hg rfl)
        | false=>rw [(hf rfl).1];exact Nat.le_refl _
      exact ih (i+1) (by omega) (by omega) _ true p2 (fun _=>by omega) (fun q=>by cases q)
    refine Ev.ite (fun e1=>Ev.ite (fun e2 => ?_) (fun e2=>hch (fun e=>e2 ?_))) (fun e1=>hch (fun e=>e1 ?_))
    · refine ih (i+1) (by omega) (by omega) o g h hg (fun hgf => ?_)
      obtain⟨f1,f2,f3⟩:=hf hgf
      refine⟨f1,f2,fun q hq => ?_⟩
      by_cases e:q=i
      · subst e;omega
      · exact f3 q (by omega)
    · unfold mn at *;omega
    · unfold mn;omega
theorem impl_orbits_ev (n:Nat) (hn:n≤4194304) (a b:List Int) (ha:Pts n a) (hb:Pts n b):Ev (fun k=>il_.f k [a,b]) (orbL a b):=by
  have la:=ha.1
  have lb:=hb.1
  have r0:rd_L1 [a,b] ((0:Nat):Int)=a:=rfl
  have r1:rd_L1 [a,b] ((1:Nat):Int)=b:=rfl
  have main : ∀ m o,orbSum o≤m→OrbPre n a b o→Ev (fun k=>il_.l0 k [a,b] o true) (orbL a b):=by
    intro m
    induction m using Nat.strongRecOn with
    | _ m ih =>
      intro o hm h
      refine Ev.step (fun k=>by rw [il_.l0]) ?_
      refine Ev.pos rfl ?_
      have last : ∀ o' g,OrbPre n a b o'→(g=true→orbSum o'<orbSum o)→(g=false→o'=o∧(∀ i,i<n→rd o' (fn a i:Int)=rd o' (i:Int)) ∧ ∀ i,i<n→rd o' (fn b i:Int)=rd o' (i:Int)) →
          Ev (fun k=>il_.l1 k [a,b] o' g [a,b] ((2:Nat):Int) ((2:Nat):Int)) (orbL a b):=by
        intro o' g h' hg hf
        refine Ev.step (fun k=>by rw [il_.l1]) ?_
        refine Ev.neg (by omega) ?_
        cases g with
        | true=>exact ih (orbSum o') (by have:=hg rfl;omega) o' (Nat.le_refl _) h'
        | false =>
          obtain⟨f1,f2,f3⟩:=hf rfl
          refine Ev.step (fun k=>by rw [il_.l0]) ?_
          refine Ev.neg (by simp) (Ev.const ?_)
          congr 1
          exact IsOrb.eq ha hb ⟨h',fun i hi=>⟨f2 i hi,f3 i hi⟩⟩
      have second : ∀ o' g,OrbPre n a b o'→(g=true→orbSum o'<orbSum o)→(g=false→o'=o∧True ∧ ∀ i,i<n→rd o' (fn a i:Int)=rd o' (i:Int)) →
          Ev (fun k=>il_.l1 k [a,b] o' g [a,b] ((2:Nat):Int) ((1:Nat):Int)) (orbL a b):=by
        intro o' g h' hg hf
        refine Ev.step (fun k=>by rw [il_.l1]) ?_
        refine Ev.pos (by omega) (Ev.pos (by omega) (Ev.pos (by simp) ?_))
        rw [r1,lb]
        refine impl_orbits_l2_ev hn ha hb b hb (fun i hi=>Con.fb hi) [a,b] o _ _ _ (∀ i,i<n→rd o (fn a i:Int)=rd o (i:Int)) (fun o2 g2 h2 hg2 hf2 => ?_) n 0 (by omega) (by omega) o' g h' hg (fun q => ?_)
        · have e:wrap64 (((1:Nat):Int)+1)=((2:Nat):Int):=by rw [wrap64_id (by omega) (by omega)];rfl
          rw [e]
          exact last o2 g2 h2 hg2 (fun q=>by obtain⟨z1,z2,z3⟩:=hf2 q;refine⟨z1,?_,z3⟩;rw [z1];exact z2)
        · obtain⟨z1,_,z3⟩:=hf q
          exact⟨z1,by rw [z1] at z3;exact z3,fun q hq=>by omega⟩
      refine Ev.step (fun k=>by rw [il_.l1]) ?_
      refine Ev.pos (by simp) (Ev.pos (by omega) (Ev.pos (by simp) ?_))
      have r0':rd_L1 [a,b] 0=a:=rfl
      rw [r0',la]
      refine impl_orbits_l2_ev hn ha hb a ha (fun i hi=>Con.fa hi) [a,b] o _ _ _ True (fun o2 g2 h2 hg2 hf2 => ?_) n 0 (by omega) (by omega) o false h (fun q=>by cases q) (fun _=>⟨rfl,trivial,fun q hq=>by omega⟩)
      have e1:wrap64 (0+1)=((1:Nat):Int):=by rw [wrap64_id (by omega) (by omega)];rfl
      rw [e1]
      exact second o2 g2 h2 hg2 hf2
  unfold il_.f
  have r0':rd_L1 [a,b] 0=a:=rfl
  refine Ev.pos (by simp) ?_
  rw [r0',la]
  refine Ev.bind (impl_still_ev n hn) ?_
  exact main _ _ (Nat.le_refl _) (OrbPre.start n a b)
theorem impl_MapValid_ev (t f:List Int):Ev (fun k=>i6_.f k t f) (dec (MOK t f)):=by
  have hno : ¬ MOK t f→Ev (fun k=>i6_.j0 k true t f) (dec (MOK t f)):=fun h=>by
    rw [dec_f h]
    exact Ev.step (fun k=>by rw [i6_.j0]) (Ev.pos rfl (Ev.const rfl))
  unfold i6_.f
  refine Ev.bindc (impl_PermValid_eq t) ?_
  refine Ev.ite (fun h1 => ?_) (fun h1=>hno (fun w=>h1 (dec_t w.1)))
  refine Ev.bindc (impl_PermValid_eq f) ?_
  refine Ev.ite (fun h2 => ?_) (fun h2=>hno (fun w=>h2 (dec_t w.2.1)))
  have pt:=dec_iff.1 h1
  have pf:=dec_iff.1 h2
  by_cases hl:t.length=f.length
  · rw [show((t.length:Int) != (f.length:Int))=false by simp [hl]]
    refine Ev.step (fun k=>by rw [i6_.j0]) ?_
    refine Ev.neg (by simp) ?_
    obtain⟨⟨t1,t2⟩,t3⟩:=pt
    obtain⟨⟨f1,f2⟩,f3⟩:=pf
    have ft:=f3.1
    have tt:=t3.1
    rw [hl] at tt
    have key : ∀ d i,f.length - i=d→i≤f.length→(∀ q,q<i→fn f q≠q∧fn f (fn f q)=q)→Ev (fun k=>i6_.l0 k f (f.length:Nat) (i:Nat) t f) (dec (MOK t f)):=by
      intro d
      induction d with
      | zero =>
        intro i hd hi hq
        obtain rfl:i=f.length:=by omega
        refine Ev.step (fun k=>by rw [i6_.l0]) ?_
        refine Ev.neg (by omega) ?_
        have ho:=(orbL_isOrb tt ft)
        have hol:=ho.1.1
        obtain⟨v,v1,v2⟩:=slices_Max_zero (orbL t f) (by omega) (fun i hi=>(ho.1.2 i (by omega)).1)
        refine Ev.bind (impl_orbits_ev f.length (by omega) t f tt ft) ?_
        refine Ev.bindc v1 ?_
        refine Ev.const ?_
        congr 1
        by_cases hv:v=0
        · rw [dec_t,hv];· rfl
          exact⟨⟨⟨t1,t2⟩,t3⟩,⟨⟨f1,f2⟩,f3⟩,hl,hq,fun i hi=>v2.1 hv i (by omega)⟩
        · rw [dec_f,beq_eq_false_iff_ne];· exact hv
          exact fun w=>hv (v2.2 (fun i hi=>w.2.2.2.2 i (by omega)))
      | succ d ih =>
        intro i hd hi hq
        have hi':i<f.length:=by omega
        have e1:=ft.fn hi'
        have e2:=ft.fn e1.2
        refine Ev.step (fun k=>by rw [i6_.l0]) ?_
        rw [e1.1,e2.1,wrap64_id (x:=(i:Int)+1) (by omega) (by omega)]
        refine Ev.pos (by omega) (Ev.pos (by omega) (Ev.pos (by omega) ?_))
        refine Ev.ite (fun n1 => ?_) (fun n1 => ?_)
        · rw [dec_f (fun w=>(w.2.2.2.1 i hi').1 (by omega))];exact Ev.const rfl
        refine Ev.pos (by omega) (Ev.pos (by omega) ?_)
        refine Ev.ite (fun n2 => ?_) (fun n2 => ?_)
        · refine ih (i+1) (by omega) (by omega) (fun q hqi => ?_)
          by_cases e:q=i
          · subst e;exact⟨by omega,by omega⟩
          · exact hq q (by omega)
        · rw [dec_f (fun w=>n2 (by have:=(w.2.2.2.1 i hi').2;omega))];exact Ev.const rfl
    exact key f.length 0 (by omega) (by omega) (fun q hq=>by omega)
  · rw [show((t.length:Int) != (f.length:Int))=true by simp;omega]
    exact hno (fun w=>hl w.2.2.1)
theorem impl_VoltageValid_ev (t f:List Int) (k:Int) (v:List (List Int)) (hl:v.length≤1048576):Ev (fun n=>i9_.f n t f k v) (dec (VOK t f k v)):=by
  have eL : ∀ (xs:List (List Int)) (i:Int),rd_L1 xs i=rdL xs i:=fun _ _=>rfl
  have hno : ¬ VOK t f k v→Ev (fun n=>i9_.j0 n k v true) (dec (VOK t f k v)):=fun h=>by
    rw [dec_f h]
    exact Ev.step (fun n=>by rw [i9_.j0]) (Ev.pos rfl (Ev.const rfl))
  unfold i9_.f
  refine Ev.bind (impl_MapValid_ev t f) ?_
  refine Ev.ite (fun h1 => ?_) (fun h1=>hno (fun w=>h1 (dec_t w.1)))
  have hM:=dec_iff.1 h1
  have hz:=hM.size
  refine Ev.ite (fun h2=>hno (fun w=>by have:=w.2.1.1;omega)) (fun h2 => ?_)
  refine Ev.ite (fun h2'=>hno (fun w=>by have:=w.2.1.2;omega)) (fun h2' => ?_)
  have hb:0≤(t.length:Int)*k∧(t.length:Int)*k≤72:=by
    have h3:=Int.mul_le_mul (show(t.length:Int)≤12 by omega) (show k≤6 by omega) (by omega) (by omega)
    have h4:0≤(t.length:Int)*k:=Int.mul_nonneg (by omega) (by omega)
    omega
  rw [wrap64_id (x:=(t.length:Int)*k) (by omega) (by omega)]
  refine Ev.ite (fun h3=>hno (fun w=>by have:=w.2.2.1;omega)) (fun h3 => ?_)
  rw [show((f.length:Int) / 2)=((f.length / 2:Nat):Int) from rfl,wrap64_id (x:=((f.length / 2:Nat):Int)) (by omega) (by omega)]
  by_cases h4:v.length=f.length / 2
  · rw [show((v.length:Int) != ((f.length / 2:Nat):Int))=false by simp;omega]
    refine Ev.step (fun n=>by rw [i9_.j0]) ?_
    refine Ev.neg (by simp) ?_
    have key : ∀ d i,v.length - i=d→i≤v.length→(∀ e:Nat,e<i→POK (rdL v (e:Int))∧((rdL v (e:Int)).length:Int)=k)→Ev (fun n=>i9_.l0 n k v (v.length:Nat) (i:Nat)) (dec (VOK t f k v)):=by
      intro d
      induction d with
      | zero =>
        intro i hd hi hq
        obtain rfl:i=v.length:=by omega
        refine Ev.step (fun n=>by rw [i9_.l0]) ?_
        refine Ev.neg (by omega) ?_
        rw [dec_t]
        · exact Ev.const rfl
        · exact⟨hM,by omega,by omega,h4,hq⟩
      | succ d ih =>
        intro i hd hi hq
        have hi':i<v.length:=by omega
        refine Ev.step (fun n=>by rw [i9_.l0]) ?_
        rw [wrap64_id (x:=(i:Int)+1) (by omega) (by omega)]
        simp only [eL]
        refine Ev.pos (by omega) (Ev.pos (by omega) (Ev.pos (by omega) (Ev.bindc (impl_PermValid_eq _) ?_)))
        refine Ev.ite (fun q1 => ?_) (fun q1 => ?_)
        · refine Ev.ite (fun q2 => ?_) (fun q2 => ?_)
          · refine ih (i+1) (by omega) (by omega) (fun e he => ?_)
            by_cases z:e=i
            · subst z;exact⟨dec_iff.1 q1,q2⟩
            · exact hq e (by omega)
          · rw [dec_f (fun w=>q2 (w.2.2.2.2 i hi').2)];exact Ev.const rfl
        · rw [dec_f (fun w=>q1 (dec_t (w.2.2.2.2 i hi').1))];exact Ev.const rfl
    exact key v.length 0 (by omega) (by omega) (fun e he=>by omega)
  · rw [show((v.length:Int) != ((f.length / 2:Nat):Int))=true by simp;omega]
    exact hno (fun w=>h4 w.2.2.2.1)
theorem back_ext' {n:Nat} {p x:List Int} (hp:PermL n p) (hx:x.length=n) (hq : ∀ q:Nat,q<n→rd x (fn p q:Int)=(q:Int)):x=backL p:=by
  have h:=hp.perm
  refine list_ext_rd (by rw [hx,backL_length,hp.1.1]) (fun j hj => ?_)
  rw [rd_backL p j (by rw [hp.1.1];omega),hp.1.1]
  have:=hq (bck n (fn p) j) (h.gl j (by omega))
  rw [h.fg j (by omega)] at this
  exact this
theorem back_set' {n:Nat} {p x:List Int} (hp:PermL n p) (hx:x.length=n) {i:Nat} (hi:i<n) (hq : ∀ q:Nat,q<i→rd x (fn p q:Int)=(q:Int)) : ∀ q:Nat,q<i+1→rd (x.set (fn p i) (i:Int)) (fn p q:Int)=(q:Int):=by
  intro q hqi
  by_cases e:q=i
  · subst e;exact rd_set_self _ _ _ (by rw [hx];exact(hp.1.fn hi).2)
  · rw [rd_set_ne _ _ _ _ (fun w=>e (hp.2 q i (by omega) hi w.symm))];exact hq q (by omega)
theorem impl_back_ev (n:Nat) (hn:n≤4194304) (p:List Int) (hp:PermL n p):Ev (fun k=>ib_.f k p) (backL p):=by
  have hl:=hp.1.1
  have key : ∀ d i,n - i=d→i≤n → ∀ x:List Int,x.length=n→(∀ q:Nat,q<i→rd x (fn p q:Int)=(q:Int))→Ev (fun k=>ib_.l0 k x p (n:Nat) (i:Nat)) (backL p):=by
    intro d
    induction d with
    | zero =>
      intro i hd hi x hx hq
      refine Ev.step (fun k=>by rw [ib_.l0]) ?_
      refine Ev.neg (by omega) (Ev.const ?_)
      rw [back_ext' hp hx (fun q hq'=>hq q (by omega))]
    | succ d ih =>
      intro i hd hi x hx hq
      have e1:=hp.1.fn (show i<n by omega)
      refine Ev.step (fun k=>by rw [ib_.l0]) ?_
      rw [e1.1,wrap64_id (x:=(i:Int)+1) (by omega) (by omega)]
      simp only [toNat_nat]
      refine Ev.pos (by omega) (Ev.pos (by omega) (Ev.pos (by omega) (Ev.pos (by omega) (Ev.pos (by omega) ?_))))
      exact ih (i+1) (by omega) (by omega) _ (by simp [hx]) (back_set' hp hx (by omega) hq)
  unfold ib_.f
  rw [hl]
  refine Ev.pos (by omega) (Ev.pos (by omega) ?_)
  exact key n 0 (by omega) (by omega) _ (by simp) (fun q hq=>by omega)
def lowsL (f:List Int) (i:Nat):List Int:=((List.range i).filter (lowD f)).map (fun d:Nat=>(d:Int))
theorem lowsL_length (f:List Int) (i:Nat):(lowsL f i).length=cntP (lowD f) i:=by
  unfold lowsL;rw [List.length_map,filter_cntP]
theorem lowsL_at (f:List Int) : ∀ (i e:Nat),e<cntP (lowD f) i → ∃ d:Nat,rd (lowsL f i) (e:Int)=(d:Int)∧d<i∧lowD f d=true∧cntP (lowD f) d=e
  | 0,e,h=>by simp [cntP] at h
  | i+1,e,h=>by
    have hl:=lowsL_length f i
    by_cases q:lowD f i=true
    · have hs:lowsL f (i+1)=lowsL f i ++ [(i:Int)]:=by
        unfold lowsL;rw [List.range_succ,List.filter_append,List.map_append];simp [q]
      have hc:cntP (lowD f) (i+1)=cntP (lowD f) i+1:=by simp only [cntP];rw [if_pos q]
      by_cases z:e<cntP (lowD f) i
      · obtain⟨d,d1,d2,d3,d4⟩:=lowsL_at f i e z
        refine⟨d,?_,by omega,d3,d4⟩
        rw [hs,rd_nat _ _ (by rw [List.length_append];omega),List.getElem_append_left (by omega),← rd_nat _ _ (by omega),d1]
      · refine⟨i,?_,by omega,q,by omega⟩
        rw [hs,rd_nat _ _ (by rw [List.length_append,hl];simp;omega),List.getElem_append_right (by omega)]
        simp
    · have hs:lowsL f (i+1)=lowsL f i:=by
        unfold lowsL;rw [List.range_succ,List.filter_append,List.map_append];simp [q]
      have hc:cntP (lowD f) (i+1)=cntP (lowD f) i:=by simp only [cntP];rw [if_neg q];rfl
      obtain⟨d,d1,d2,d3,d4⟩:=lowsL_at f i e (by omega)
      exact⟨d,by rw [hs];exact d1,by omega,d3,d4⟩
theorem impl_edgesOf_ev (n:Nat) (hn:n≤4194304) (t f:List Int) (hf:Pts n f):Ev (fun k=>ih_.f k t f) (lowsL f n):=by
  have hl:=hf.1
  have key : ∀ d i,n - i=d→i≤n→Ev (fun k=>ih_.l0 k (lowsL f i) f (n:Nat) (i:Nat)) (lowsL f n):=by
    intro d
    induction d with
    | zero =>
      intro i hd hi
      obtain rfl:i=n:=by omega
      refine Ev.step (fun k=>by rw [ih_.l0]) ?_
      exact Ev.neg (by omega) (Ev.const rfl)
    | succ d ih =>
      intro i hd hi
      have e1:=hf.fn (show i<n by omega)
      have hc:=cntP_le (lowD f) i
      have hll:=lowsL_length f i
      refine Ev.step (fun k=>by rw [ih_.l0]) ?_
      rw [e1.1,wrap64_id (x:=(i:Int)+1) (by omega) (by omega)]
      refine Ev.pos (by omega) (Ev.pos (by omega) (Ev.pos (by omega) ?_))
      have:=ih (i+1) (by omega) (by omega)
      refine Ev.ite (fun q => ?_) (fun q => ?_)
      · refine Ev.pos (by omega) ?_
        have hs:lowsL f (i+1)=lowsL f i ++ [(i:Int)]:=by
          have:lowD f i=true:=decide_eq_true (by omega)
          unfold lowsL;rw [List.range_succ,List.filter_append,List.map_append];simp [this]
        rw [hs] at this
        exact this
      · have hs:lowsL f (i+1)=lowsL f i:=by
          have:lowD f i=false:=decide_eq_false (by omega)
          unfold lowsL;rw [List.range_succ,List.filter_append,List.map_append];simp [this]
        rw [hs] at this
        exact this
  unfold ih_.f
  rw [hl]
  exact key n 0 (by omega) (by omega)
theorem impl_edgeOf_ev (n:Nat) (hn:n≤4194304) (t f:List Int) (hf:PairL n f):Ev (fun k=>ig_.f k t f) (edgL f):=by
  have hl:=hf.pts.1
  have hL:=lowsL_length f n
  have hc:=cntP_le (lowD f) n
  have key : ∀ d e,cntP (lowD f) n - e=d→e≤cntP (lowD f) n → ∀ x:List Int,x.length=n→(∀ j:Nat,j<n→edgeN f j<e→rd x (j:Int)=edgeN f j)→Ev (fun k=>ig_.l0 k x (lowsL f n) ((lowsL f n).length:Int) (e:Nat) t f) (edgL f):=by
    intro d
    induction d with
    | zero =>
      intro e hd he x hx hq
      refine Ev.step (fun k=>by rw [ig_.l0]) ?_
      refine Ev.neg (by omega) (Ev.const ?_)
      congr 1
      refine list_ext_rd (by rw [hx,edgL_length,hl]) (fun j hj => ?_)
      have h1:=hf.edge_lt (show j<n by omega)
      have h2:=hf.half
      rw [hq j (by omega) (by omega),rd_edgL f j (by omega)]
    | succ d ih =>
      intro e hd he x hx hq
      obtain⟨a,a1,a2,a3,a4⟩:=lowsL_at f n e (by omega)
      have e1:=hf.pts.fn a2
      obtain⟨g1,g2⟩:=hf.edge_of a2 a3
      refine Ev.step (fun k=>by rw [ig_.l0]) ?_
      rw [a1,e1.1,wrap64_id (x:=(e:Int)+1) (by omega) (by omega)]
      simp only [toNat_nat]
      refine Ev.pos (by omega) (Ev.pos (by omega) (Ev.pos (by omega) (Ev.pos (by omega) (Ev.pos (by omega) (Ev.pos (by omega) (Ev.pos (by omega) (Ev.pos (by omega) ?_)))))))
      refine ih (e+1) (by omega) (by omega) _ (by simp [hx]) (fun j hj hje => ?_)
      by_cases b:j=fn f a
      · subst b
        rw [rd_set_self _ _ _ (by simp [hx];omega),g2,a4]
      · rw [rd_set_ne _ _ _ _ (fun w=>b w.symm)]
        by_cases c:j=a
        · subst c
          rw [rd_set_self _ _ _ (by omega),g1,a4]
        · rw [rd_set_ne _ _ _ _ (fun w=>c w.symm)]
          refine hq j hj ?_
          by_cases z:edgeN f j=e
          · obtain⟨b',b1,b2,b3,b4⟩:=hf.low hj
            have:b'=a:=by
              rcases Nat.lt_trichotomy b' a with q|q|q
              · have:=cntP_step (lowD f) b2 q;omega
              · exact q
              · have:=cntP_step (lowD f) a3 q;omega
            subst this
            rcases b4 with b4|b4
            · exact absurd b4 c
            · exact absurd b4 b
          · omega
  unfold ig_.f
  rw [hl]
  refine Ev.pos (by omega) (Ev.pos (by omega) (Ev.bind (impl_edgesOf_ev n hn t f hf.pts) ?_))
  exact key (cntP (lowD f) n) 0 (by omega) (by omega) _ (by simp) (fun j hj hje=>by omega)
theorem impl_along_ev {n κ:Nat} {t f:List Int} {v:List (List Int)} (h:VN n κ t f v) {d:Nat} (hd:d<n):Ev (fun k=>ia_.f k t f v (d:Nat)) (voltL f v d):=by
  have eL : ∀ (xs:List (List Int)) (i:Int),rd_L1 xs i=rdL xs i:=fun _ _=>rfl
  have hn:=h.n1
  have hl:=h.pr.pts.1
  have hel:=h.pr.edge_lt hd
  have hvl:=h.vl
  have e1:=h.pr.pts.fn hd
  have hne:=h.pr.ne d hd
  unfold ia_.f
  refine Ev.bind (impl_edgeOf_ev n (by omega) t f h.pr) ?_
  rw [rd_edgL f d (by omega),edgL_length,e1.1]
  simp only [eL]
  refine Ev.pos (by omega) (Ev.pos (by omega) (Ev.pos (by omega) (Ev.pos (by omega) (Ev.pos (by omega) ?_))))
  unfold voltL
  refine Ev.ite (fun q => ?_) (fun q => ?_)
  · rw [if_neg (show ¬ d<fn f d by omega)]
    have hk:=h.k1
    exact Ev.bind (impl_back_ev κ (by omega) _ (h.vp (edgeN f d) (by omega))) (Ev.const rfl)
  · rw [if_pos (show d<fn f d by omega)]
    exact Ev.const rfl
theorem impl_cover_ev {n κ:Nat} {t f:List Int} {v:List (List Int)} (h:VN n κ t f v):Ev (fun k=>ie_.f k t f (κ:Nat) v) (covT n κ t (κ*n),covF κ f v (κ*n)):=by
  have hn:=h.n1
  have hk:=h.k1
  have hnk:=h.nk
  have hl:=h.pr.pts.1
  have tl:=h.tp.1.1
  have key : ∀ e d,n - d=e→d≤n → ∀ x y:List Int,x.length=κ*n→y.length=κ*n→(∀ q:Nat,q<κ*d→rd x (q:Int)=rd (covT n κ t (κ*n)) (q:Int)∧rd y (q:Int)=rd (covF κ f v (κ*n)) (q:Int)) →
      Ev (fun k=>ie_.l0 k (κ:Nat) v f (n:Nat) (d:Nat) t f x y) (covT n κ t (κ*n),covF κ f v (κ*n)):=by
    intro e
    induction e with
    | zero =>
      intro d he hd x y hx hy hq
      obtain rfl:d=n:=by omega
      refine Ev.step (fun k=>by rw [ie_.l0]) ?_
      refine Ev.neg (by omega) (Ev.const ?_)
      rw [list_ext_rd (l:=x) (by rw [hx,covT_length]) (fun q hq'=>(hq q (by omega)).1),list_ext_rd (l:=y) (by rw [hy,covF_length]) (fun q hq'=>(hq q (by omega)).2)]
    | succ e ih =>
      intro d he hd x y hx hy hq
      have hd':d<n:=by omega
      have hv:=h.volt hd'
      have e1:=h.tp.1.fn hd'
      have e2:=h.pr.pts.fn hd'
      have inner : ∀ z s,κ - s=z→s≤κ → ∀ x y:List Int,x.length=κ*n→y.length=κ*n→(∀ q:Nat,q<κ*d+s→rd x (q:Int)=rd (covT n κ t (κ*n)) (q:Int)∧rd y (q:Int)=rd (covF κ f v (κ*n)) (q:Int)) →
          Ev (fun k=>ie_.l1 k (κ:Nat) v (d:Nat) (fn f d:Nat) (voltL f v d) f (n:Nat) (d:Nat) (κ:Nat) (s:Nat) t f x y) (covT n κ t (κ*n),covF κ f v (κ*n)):=by
        intro z
        induction z with
        | zero =>
          intro s hz hs x y hx hy hq
          obtain rfl:s=κ:=by omega
          refine Ev.step (fun k=>by rw [ie_.l1]) ?_
          refine Ev.neg (by omega) ?_
          rw [wrap64_id (x:=(d:Int)+1) (by omega) (by omega)]
          exact ih (d+1) (by omega) (by omega) x y hx hy (fun q hq'=>hq q (by rw [Nat.mul_succ] at hq';exact hq'))
        | succ z ihz =>
          intro s hz hs x y hx hy hq
          have hs':s<κ:=by omega
          have e3:=hv.1.fn hs'
          have vl:=hv.1.1
          have hlt:=sheet_lt hd' hs'
          obtain⟨m1,m2⟩:=sheet_num (d:=d) hs'
          refine Ev.step (fun k=>by rw [ie_.l1]) ?_
          rw [e1.1,e3.1,wrap64_id (x:=(s:Int)+1) (by omega) (by omega),mul_nums hk (by omega) (by omega),mul_nums hk (by omega) (by omega),mul_nums hk (by omega) (by omega)]
          simp only [toNat_nat]
          refine Ev.pos (by omega) (Ev.pos (by omega) (Ev.pos (by omega) (Ev.pos (by omega) (Ev.pos (by omega) (Ev.pos (by omega) (Ev.pos (by omega) (Ev.pos (by omega) ?_)))))))
          refine ihz (s+1) (by omega) (by omega) _ _ (by simp [hx]) (by simp [hy]) (fun q hq' => ?_)
          by_cases w:κ*d+s=q
          · rw [← w,rd_set_self _ _ _ (by omega),rd_set_self _ _ _ (by omega),rd_covT _ _ _ _ _ hlt,rd_covF _ _ _ _ _ hlt,m1,m2]
            exact⟨rfl,rfl⟩
          · rw [rd_set_ne _ _ _ _ w,rd_set_ne _ _ _ _ w]
            exact hq q (by omega)
      refine Ev.step (fun k=>by rw [ie_.l0]) ?_
      rw [e2.1]
      refine Ev.pos (by omega) (Ev.pos (by omega) (Ev.pos (by omega) (Ev.bind (impl_along_ev h hd') ?_)))
      exact inner κ 0 (by omega) (by omega) x y hx hy hq
  unfold ie_.f
  have hm:=mul_nums (b:=0) hk (show n≤12 by omega) (by omega)
  have hm':wrap64 ((κ:Int)*(n:Int))=((κ*n:Nat):Int):=by
    have h2:(κ:Int)*(n:Int)=((κ*n:Nat):Int):=(Int.natCast_mul _ _).symm
    rw [h2,wrap64_id (by omega) (by omega)]
  rw [tl,hl,hm']
  refine Ev.pos (by omega) (Ev.pos (by omega) ?_)
  exact key n 0 (by omega) (by omega) _ _ (by rw [List.length_replicate,Int.toNat_natCast]) (by rw [List.length_replicate,Int.toNat_natCast]) (fun q hq=>by omega)
theorem impl_CoverMap_ev (t f:List Int) (k:Int) (v:List (List Int)) (hv:v.length≤1048576):Ev (fun n=>i4_.f n t f k v) (cmV t f k v):=by
  unfold i4_.f
  refine Ev.bind (impl_VoltageValid_ev t f k v hv) ?_
  refine Ev.ite (fun h => ?_) (fun h => ?_)
  · have hV:=dec_iff.1 h
    obtain⟨κ,rfl,hN⟩:=hV.vn
    refine Ev.bind (impl_cover_ev hN) ?_
    refine Ev.bind (impl_MapValid_ev _ _) ?_
    refine Ev.ite (fun h1 => ?_) (fun h1 => ?_)
    · have eV:cmV t f (κ:Int) v=(covT t.length κ t (κ*t.length),covF κ f v (κ*t.length),true):=by unfold cmV;rw [if_pos (dec_t ⟨hV,dec_iff.1 h1⟩)];rfl
      rw [eV]
      exact Ev.const rfl
    · unfold cmV;rw [if_neg (fun w=>h1 (dec_t (dec_iff.1 w).2))];exact Ev.const rfl
  · unfold cmV;rw [if_neg (fun w=>h (dec_t (dec_iff.1 w).1))];exact Ev.const rfl
theorem impl_cyclesOf_l1 {n : Nat} (hn : n ≤ 4194304) {p : List Int} (hp : PermL n p) {i : Nat} (hi : i < n) (hl : lstB (EF n (fn p)) i = true) (out : List (List Int)) (hout : out.length ≤ i) (r : List (List Int))
    (hr : ∀ b,SeenAt n (fn p) (i+1) b→Ev (fun k=>if_.l0 k p (out ++ [cycOf (fn p) i]) b (n:Nat) (i+1:Nat)) r) :
    ∀ d t,per (fn p) i - t=d→t≤per (fn p) i → ∀ b,SeenIn n (fn p) i t b→Ev (fun k=>if_.l1 k p out b ((List.range t).map (fun k=>(itr (fn p) k i:Int))) (itr (fn p) t i:Int) (n:Nat) (i:Nat)) r:=by
  have hpm:=hp.perm
  obtain⟨q1,q2,q3,q4⟩:=per_spec hpm hi
  intro d
  induction d with
  | zero =>
    intro t hd ht b hb
    obtain rfl:t=per (fn p) i:=by omega
    obtain⟨c1,c2⟩:=hb.closed hpm hi
    have hlt:=itr_lt hpm hi (per (fn p) i)
    have hbl:=hb.1
    refine Ev.step (fun k=>by rw [if_.l1]) ?_
    rw [wrap64_id (x:=(i:Int)+1) (by omega) (by omega)]
    refine Ev.pos (by omega) (Ev.pos (by omega) (Ev.pos c1 (Ev.pos (by simp;omega) (Ev.pos (by omega) ?_))))
    exact hr b c2
  | succ d ih =>
    intro t hd ht b hb
    have hlt:=itr_lt hpm hi t
    have hf:=hb.fresh hpm hi hl (by omega)
    have hbl:=hb.1
    have hpl:=hp.1.1
    refine Ev.step (fun k=>by rw [if_.l1]) ?_
    refine Ev.pos (by omega) (Ev.pos (by omega) (Ev.neg (by rw [hf];simp) (Ev.pos (by simp;omega) (Ev.pos (by omega) ?_))))
    rw [(hp.1.fn hlt).1,← cycOf_take]
    exact ih (t+1) (by omega) (by omega) _ (hb.next hpm hi)
theorem impl_cyclesOf_ev (n:Nat) (hn:n≤4194304) (p:List Int) (hp:PermL n p):Ev (fun k=>if_.f k p) (cycL n (fn p)):=by
  have hpm:=hp.perm
  have hpl:=hp.1.1
  have key : ∀ d i,n - i=d→i≤n → ∀ b,SeenAt n (fn p) i b→Ev (fun k=>if_.l0 k p (cycUp n (fn p) i) b (n:Nat) (i:Nat)) (cycL n (fn p)):=by
    intro d
    induction d with
    | zero =>
      intro i hd hi b hb
      obtain rfl:i=n:=by omega
      refine Ev.step (fun k=>by rw [if_.l0]) ?_
      exact Ev.neg (by omega) (Ev.const rfl)
    | succ d ih =>
      intro i hd hi b hb
      have hi':i<n:=by omega
      have hbl:=hb.1
      have hls:=hb.least hi'
      refine Ev.step (fun k=>by rw [if_.l0]) (Ev.pos (by omega) ?_)
      cases q:rdOf false b (i:Int) with
      | true =>
        rw [q] at hls
        refine Ev.step (fun k=>by rw [if_.l1]) ?_
        rw [wrap64_id (x:=(i:Int)+1) (by omega) (by omega)]
        refine Ev.pos (by omega) (Ev.pos (by omega) (Ev.pos q (Ev.neg (by simp) ?_)))
        have:=ih (i+1) (by omega) (by omega) b (hb.skip hi' q)
        rw [cycUp_neg hls] at this
        exact this
      | false =>
        rw [q] at hls
        refine impl_cyclesOf_l1 hn hp hi' hls (cycUp n (fn p) i) (cycUp_length_le _ _ _) _ (fun b' hb' => ?_) (per (fn p) i) 0 (by omega) (by omega) b hb.into
        have:=ih (i+1) (by omega) (by omega) b' hb'
        rw [cycUp_pos hls] at this
        exact this
  unfold if_.f
  rw [hpl]
  refine Ev.pos (by omega) (Ev.pos (by omega) ?_)
  exact key n 0 (by omega) (by omega) _ (SeenAt.start n _)
theorem impl_mul_ev (a b:List Int) (hn:a.length≤4194304) (h : ∀ i:Nat,i<a.length→0≤rd a (i:Int)∧rd a (i:Int)<b.length):Ev (fun k=>ij_.f k a b) (mulL a b):=by
  have key : ∀ d i,a.length - i=d→i≤a.length → ∀ x:List Int,x.length=a.length→(∀ q:Nat,q<i→rd x (q:Int)=rd b (rd a (q:Int))) →
      Ev (fun k=>ij_.l0 k b x a (a.length:Nat) (i:Nat)) (mulL a b):=by
    intro d
    induction d with
    | zero =>
      intro i hd hi x hx hq
      refine Ev.step (fun k=>by rw [ij_.l0]) (Ev.neg (by omega) (Ev.const ?_))
      congr 1
      refine list_ext_rd (by rw [hx,mulL_length]) (fun j hj => ?_)
      rw [hq j (by omega),rd_mulL a b j (by omega)]
    | succ d ih =>
      intro i hd hi x hx hq
      have e1:=h i (by omega)
      refine Ev.step (fun k=>by rw [ij_.l0]) ?_
      rw [wrap64_id (x:=(i:Int)+1) (by omega) (by omega)]
      simp only [toNat_nat]
      refine Ev.pos (by omega) (Ev.pos (by omega) (Ev.pos (by omega) (Ev.pos (by omega) (Ev.pos (by omega) (Ev.pos (by omega) ?_)))))
      refine ih (i+1) (by omega) (by omega) _ (by simp [hx]) (fun q hqi => ?_)
      by_cases e:i=q
      · subst e;exact rd_set_self _ _ _ (by omega)
      · rw [rd_set_ne _ _ _ _ e];exact hq q (by omega)
  unfold ij_.f
  refine Ev.pos (by omega) (Ev.pos (by omega) ?_)
  exact key a.length 0 (by omega) (by omega) _ (by simp) (fun q hq=>by omega)
theorem impl_winding_ev {n κ:Nat} {t f:List Int} {v:List (List Int)} (h:VN n κ t f v) {face:List Int} (hF:Face n face):Ev (fun k=>ip_.f k t f (κ:Nat) v face) (windL κ f v face):=by
  have hn:=h.n1
  have hk:=h.k1
  have hfl:=hF.1
  have key : ∀ d i,face.length - i=d→i≤face.length→Ev (fun k=>ip_.l0 k v (windUp κ f v face i) face (face.length:Int) (i:Nat) t f) (windL κ f v face):=by
    intro d
    induction d with
    | zero =>
      intro i hd hi
      obtain rfl:i=face.length:=by omega
      refine Ev.step (fun k=>by rw [ip_.l0]) ?_
      exact Ev.neg (by omega) (Ev.const rfl)
    | succ d ih =>
      intro i hd hi
      have e1:=hF.fn (show i<face.length by omega)
      have hw:=windUp_perm h hF i hi
      have hv:=h.volt e1.2
      refine Ev.step (fun k=>by rw [ip_.l0]) ?_
      rw [e1.1,wrap64_id (x:=(i:Int)+1) (by omega) (by omega)]
      refine Ev.pos (by omega) (Ev.pos (by omega) (Ev.pos (by omega) (Ev.bind (impl_along_ev h e1.2) ?_)))
      refine Ev.bind (impl_mul_ev _ _ (by rw [hw.1.1];omega) (fun j hj=>by rw [hv.1.1];exact hw.1.2 j (by rw [hw.1.1] at hj;exact hj))) ?_
      exact ih (i+1) (by omega) (by omega)
  unfold ip_.f
  refine Ev.bind (impl_still_ev κ (by omega)) ?_
  exact key face.length 0 (by omega) (by omega)
theorem impl_CoverBranch_ev (t f:List Int) (k:Int) (v:List (List Int)) (hv:v.length≤1048576):Ev (fun n=>i2_.f n t f k v) (if dec (VOK t f k v)=true then branchZ t f k v else -1):=by
  have eL : ∀ (xs:List (List Int)) (i:Int),rd_L1 xs i=rdL xs i:=fun _ _=>rfl
  unfold i2_.f
  refine Ev.bind (impl_VoltageValid_ev t f k v hv) ?_
  refine Ev.ite (fun h => ?_) (fun h=>by rw [if_neg h];exact Ev.const rfl)
  rw [if_pos h]
  obtain⟨κ,rfl,hN⟩:=(dec_iff.1 h).vn
  have hn:=hN.n1
  have hk:=hN.k1
  have hm:=mulL_perm hN.fp hN.tp
  have lf:=hN.fp.1.1
  have lt:=hN.tp.1.1
  refine Ev.bind (impl_mul_ev f t (by omega) (fun i hi=>by rw [lt];exact hN.fp.1.2 i (by omega))) ?_
  refine Ev.bind (impl_cyclesOf_ev t.length (by omega) _ hm) ?_
  show Ev (fun n=>i2_.l0 n (κ:Nat) v 0 (facesL t f) ((facesL t f).length:Int) 0 t f) _
  have hfl:(facesL t f).length≤12:=by
    unfold facesL;rw [cycL_length];have:=cyc_le t.length (fn (mulL f t));omega
  have key : ∀ d i,(facesL t f).length - i=d→i≤(facesL t f).length→Ev (fun n=>i2_.l0 n (κ:Nat) v (brUp κ f v (facesL t f) i) (facesL t f) ((facesL t f).length:Int) (i:Nat) t f) (branchZ t f (κ:Nat) v):=by
    intro d
    induction d with
    | zero =>
      intro i hd hi
      obtain rfl:i=(facesL t f).length:=by omega
      refine Ev.step (fun n=>by rw [i2_.l0]) ?_
      exact Ev.neg (by omega) (Ev.const rfl)
    | succ d ih =>
      intro i hd hi
      have hF:Face t.length (rdL (facesL t f) (i:Int)):=cycL_face hm.perm (by show i<(facesL t f).length;omega)
      have hw:=windUp_perm hN hF _ (Nat.le_refl _)
      have hb:=brUp_bd κ f v (facesL t f) hk i
      have hc:=cyc_le κ (fn (windL κ f v (rdL (facesL t f) (i:Int))))
      refine Ev.step (fun n=>by rw [i2_.l0]) ?_
      rw [wrap64_id (x:=(i:Int)+1) (by omega) (by omega)]
      simp only [eL]
      refine Ev.pos (by omega) (Ev.pos (by omega) (Ev.pos (by omega) (Ev.bind (impl_winding_ev hN hF) (Ev.bind (impl_cyclesOf_ev κ (by omega) _ hw) ?_))))
      show Ev (fun n=>i2_.l0 n (κ:Nat) v (wrap64 (brUp κ f v (facesL t f) i+wrap64 ((κ:Nat) - ((cycL κ (fn (windL κ f v (rdL (facesL t f) (i:Int))))).length:Int)))) (facesL t f) ((facesL t f).length:Int) ((i:Int)+1) t f) _
      rw [cycL_length,wrap64_id (x:=((κ:Nat):Int) - (cyc κ (fn (windL κ f v (rdL (facesL t f) (i:Int)))):Int)) (by omega) (by omega),wrap64_id (by omega) (by omega)]
      exact ih (i+1) (by omega) (by omega)
  exact key (facesL t f).length 0 (by omega) (by omega)
theorem spec_l6Rd_pick_ex (l:List Int) (hb:Bytes l) (hn:l.length≤2000) (p a:Int) (hp0:0≤p) (hp1:p≤1099511627776) : ∃ x,Ev (fun k=>s1a_.f k l p a) (x,p+1)∧0≤x∧(1≤a→x<a):=by
  have hw:wrap64 (p+1)=p+1:=wrap64_id (by omega) (by omega)
  have ht:Ev (fun k=>s1a_.j0 k a true l (p+1)) (0,p+1):=by
    refine Ev.step (fun k=>by rw [s1a_.j0]) ?_
    exact Ev.pos rfl (Ev.const rfl)
  by_cases ha:a<1
  · refine⟨0,?_,Int.le_refl _,fun h=>by omega⟩
    unfold s1a_.f
    rw [hw]
    exact Ev.pos ha ht
  · by_cases hl:(l.length:Int)=0
    · refine⟨0,?_,Int.le_refl _,fun h=>by omega⟩
      unfold s1a_.f
      rw [hw]
      refine Ev.neg ha ?_
      rw [show((l.length:Int) == 0)=true from beq_iff_eq.2 hl]
      exact ht
    · have hw2:wrap64 (p+1 - 1)=p:=by rw [wrap64_id (by omega) (by omega)];omega
      by_cases hlt:p<l.length
      · obtain⟨b0,b1⟩:=hb.at p hp0 hlt
        have hx:=tmod_bd (rd l p) a b0 (by omega)
        refine⟨Int.tmod (rd l p) a,?_,hx.1,fun _=>hx.2⟩
        unfold s1a_.f
        rw [hw,show((l.length:Int) == 0)=false from beq_eq_false_iff_ne.2 hl]
        refine Ev.neg ha ?_
        refine Ev.step (fun k=>by rw [s1a_.j0]) ?_
        rw [hw2,wrap64_id (x:=rd l p) (by omega) (by omega)]
        refine Ev.neg (by simp) ?_
        refine Ev.pos hlt ?_
        refine Ev.pos hp0 ?_
        refine Ev.neg (by omega) ?_
        exact Ev.const rfl
      · obtain⟨m0,m1⟩:=tmod_bd p (l.length:Int) hp0 (by omega)
        have e1:wrap64 (p*7)=p*7:=wrap64_id (by omega) (by omega)
        have e2:wrap64 (p*7+3)=p*7+3:=wrap64_id (by omega) (by omega)
        obtain⟨n0,n1⟩:=tmod_bd (p*7+3) (l.length:Int) (by omega) (by omega)
        have d0:0≤Int.tdiv p (l.length:Int):=Int.tdiv_nonneg hp0 (by omega)
        have d1:Int.tdiv p (l.length:Int)≤p:=by
          rw [Int.tdiv_eq_ediv_of_nonneg hp0];exact Int.ediv_le_self _ hp0
        obtain⟨b0,b1⟩:=hb.at _ m0 m1
        obtain⟨c0,c1⟩:=hb.at _ n0 n1
        suffices hs : ∃ x,Ev (fun k=>s1a_.j0 k a false l (p+1)) (x,p+1)∧0≤x∧(1≤a→x<a) by
          obtain⟨x,h1,h2⟩:=hs
          refine⟨x,?_,h2⟩
          unfold s1a_.f
          rw [hw,show((l.length:Int) == 0)=false from beq_eq_false_iff_ne.2 hl]
          exact Ev.neg ha h1
        have hun : ∀ r,(∃ x,Ev (fun _:Nat=>r) (x,p+1)∧0≤x∧(1≤a→x<a)) →
            (∀ k,s1a_.j0 (k+1) a false l (p+1)=r) → ∃ x,Ev (fun k=>s1a_.j0 k a false l (p+1)) (x,p+1)∧0≤x∧(1≤a→x<a):=by
          rintro r ⟨x,h1,h2⟩ h3
          exact⟨x,Ev.step h3 h1,h2⟩
        refine hun _ ?_ (fun k=>by
          rw [s1a_.j0,if_neg (by simp),hw2,if_neg hlt,if_neg hl,if_pos m0,if_pos m1,e1,e2,if_pos n0,if_pos n1,if_neg (by omega)])
        generalize rd l (Int.tmod p (l.length:Int))=u at *
        generalize rd l (Int.tmod (p*7+3) (l.length:Int))=v at *
        generalize Int.tdiv p (l.length:Int)=w at *
        rw [wrap64_id (x:=u) (by omega) (by omega),wrap64_id (x:=v) (by omega) (by omega),wrap64_id (x:=w) (by omega) (by omega),
          wrap64_id (x:=u*131) (by omega) (by omega),wrap64_id (x:=v*1117) (by omega) (by omega),wrap64_id (x:=p*29) (by omega) (by omega),wrap64_id (x:=w*53) (by omega) (by omega),
          wrap64_id (x:=u*131+v*1117) (by omega) (by omega),wrap64_id (x:=u*131+v*1117+p*29) (by omega) (by omega),wrap64_id (x:=u*131+v*1117+p*29+w*53) (by omega) (by omega)]
        have hX0:0≤u*131+v*1117+p*29+w*53:=by omega
        have hX1:u*131+v*1117+p*29+w*53<4611686018427387904:=by omega
        generalize u*131+v*1117+p*29+w*53=X at *
        have hq:Int.tdiv X 64=X / 64:=Int.tdiv_eq_ediv_of_nonneg hX0
        rw [hq,wrap64_id (x:=X / 64) (by omega) (by omega)]
        have hxor:=xor_nonneg X (X / 64) hX0 (by omega) hX1 (by omega)
        obtain⟨r0,r1⟩:=tmod_bd _ a hxor (by omega)
        exact⟨_,Ev.const rfl,r0,fun _=>r1⟩
theorem spec_l6In_eq (a b c:Int):s18_.f a b c=some (decide (b≤a∧a≤c)):=by
  unfold s18_.f
  by_cases h:a≥b
  · rw [if_pos h]
    congr 1
    rw [decide_eq_decide]
    omega
  · rw [if_neg h,decide_eq_false (by omega)]
theorem spec_PermValid_ev (p:List Int) (hl:p.length≤1048576):Ev (fun k=>sy_.f k p) (dec (POK p)):=by
  have key : ∀ d i,p.length - i=d→i≤p.length→(∀ a,a<i→0≤rd p (a:Int)∧rd p (a:Int)<p.length)→(∀ a b,a<i→b<a→rd p (b:Int)≠rd p (a:Int))→Ev (fun k=>sy_.l0 k p (i:Nat)) (dec (POK p)):=by
    intro d
    induction d with
    | zero =>
      intro i hd hi h1 h2
      obtain rfl:i=p.length:=by omega
      have hp:PermL p.length p:=⟨⟨rfl,h1⟩,fun i j hi hj e=>by
        have e1:=h1 i hi
        have e2:=h1 j hj
        unfold fn at e
        rcases Nat.lt_trichotomy i j with q|q|q
        · exact absurd (by omega) (h2 j i hj q)
        · exact q
        · exact absurd (by omega) (h2 i j hi q)⟩
      refine Ev.step (fun k=>by rw [sy_.l0]) ?_
      refine Ev.neg (by omega) (Ev.bindc (spec_l6In_eq _ _ _) (Ev.const ?_))
      congr 1
      exact dec_of ⟨fun q=>⟨by omega,hp⟩,fun q=>by have:=q.1;omega⟩
    | succ d ih =>
      intro i hd hi h1 h2
      have hi':i<p.length:=by omega
      have inner : ∀ e j,i - j=e→j≤i→(0≤rd p (i:Int)∧rd p (i:Int)<p.length)→(∀ b,b<j→rd p (b:Int)≠rd p (i:Int))→Ev (fun k=>sy_.l1 k p (i:Nat) (j:Nat)) (dec (POK p)):=by
        intro e
        induction e with
        | zero =>
          intro j he hj hr hb
          obtain rfl:j=i:=by omega
          refine Ev.step (fun k=>by rw [sy_.l1]) ?_
          refine Ev.neg (by omega) ?_
          rw [wrap64_id (x:=(j:Int)+1) (by omega) (by omega)]
          refine ih (j+1) (by omega) (by omega) (fun a ha => ?_) (fun a b ha hba => ?_)
          · by_cases q:a=j
            · subst q;exact hr
            · exact h1 a (by omega)
          · by_cases q:a=j
            · subst q;exact hb b hba
            · exact h2 a b (by omega) hba
        | succ e ihe =>
          intro j he hj hr hb
          refine Ev.step (fun k=>by rw [sy_.l1]) ?_
          rw [wrap64_id (x:=(j:Int)+1) (by omega) (by omega)]
          refine Ev.pos (by omega) (Ev.pos (by omega) (Ev.pos (by omega) (Ev.pos (by omega) (Ev.pos (by omega) ?_))))
          refine Ev.ite (fun q => ?_) (fun q => ?_)
          · rw [dec_f]
            · exact Ev.const rfl
            · intro w
              have:=w.2.2 j i (by omega) hi' (by unfold fn;rw [q])
              omega
          · refine ihe (j+1) (by omega) (by omega) hr (fun b hbj => ?_)
            by_cases z:b=j
            · subst z;exact q
            · exact hb b (by omega)
      refine Ev.step (fun k=>by rw [sy_.l0]) ?_
      rw [wrap64_id (x:=(p.length:Int) - 1) (by omega) (by omega)]
      refine Ev.pos (by omega) (Ev.pos (by omega) (Ev.bindc (spec_l6In_eq _ _ _) ?_))
      refine Ev.ite (fun q => ?_) (fun q => ?_)
      · have q':=of_decide_eq_true q
        exact inner i 0 (by omega) (by omega) ⟨by omega,by omega⟩ (fun b hb=>by omega)
      · rw [dec_f]
        · exact Ev.const rfl
        · intro w
          have:=w.2.1.2 i hi'
          exact q (decide_eq_true ⟨by omega,by omega⟩)
  unfold sy_.f
  exact key p.length 0 (by omega) (by omega) (fun a ha=>by omega) (fun a b ha=>by omega)
theorem spec_l1Both_ev (a b:List Int) (ha:a.length≤1048576) (hb:b.length≤1048576):Ev (fun k=>s11_.f k a b) (dec (POK a∧POK b∧a.length=b.length)):=by
  unfold s11_.f
  refine Ev.bind (spec_PermValid_ev a ha) ?_
  refine Ev.ite (fun h1 => ?_) (fun h1 => ?_)
  · refine Ev.bind (spec_PermValid_ev b hb) ?_
    refine Ev.ite (fun h2=>Ev.const ?_) (fun h2 => ?_)
    · congr 1
      have a1:=dec_iff.1 h1
      have a2:=dec_iff.1 h2
      by_cases e:a.length=b.length
      · rw [dec_t ⟨a1,a2,e⟩,e];exact beq_self_eq_true _
      · rw [dec_f (fun w=>e w.2.2)];exact beq_eq_false_iff_ne.2 (by omega)
    · rw [dec_f (fun w=>h2 (dec_t w.2.1))];exact Ev.const rfl
  · rw [dec_f (fun w=>h1 (dec_t w.1))];exact Ev.const rfl
theorem spec_l1Same_ev (n:Nat) (hn:n≤4194304):Ev (fun k=>s15_.f k (n:Nat)) (idL n):=by
  have key : ∀ d i,n - i=d→i≤n→Ev (fun k=>s15_.l0 k (n:Nat) (idL i) (i:Nat)) (idL n):=by
    intro d
    induction d with
    | zero =>
      intro i hd hi
      obtain rfl:i=n:=by omega
      refine Ev.step (fun k=>by rw [s15_.l0]) ?_
      exact Ev.neg (by omega) (Ev.const rfl)
    | succ d ih =>
      intro i hd hi
      refine Ev.step (fun k=>by rw [s15_.l0]) (Ev.pos (by omega) (Ev.pos (by rw [idL_length];omega) ?_))
      rw [wrap64_id (by omega) (by omega)]
      have:=ih (i+1) (by omega) (by omega)
      rw [show idL (i+1)=idL i ++ [(i:Int)] by simp [idL,List.range_succ]] at this
      exact this
  unfold s15_.f
  exact key n 0 (by omega) (by omega)
theorem spec_l1Orbits_step {n : Nat} {a b o : List Int} (ha : Pts n a) (hb : Pts n b) (h : OrbPre n a b o) {i : Nat} (hi : i < n) (x : Int)
    (hx:x=mn (rd o (i:Int)) (mn (rd o (fn a i:Int)) (rd o (fn b i:Int)))) :
    OrbPre n a b (((o.set i x).set (fn a i) x).set (fn b i) x) ∧
    (∀ q,q<n→rd (((o.set i x).set (fn a i) x).set (fn b i) x) (q:Int)≤rd o (q:Int)) ∧
    (∀ q,(q=i∨q=fn a i∨q=fn b i)→rd (((o.set i x).set (fn a i) x).set (fn b i) x) (q:Int)=x):=by
  have fa:=(ha.fn hi).2
  have fb:=(hb.fn hi).2
  have hl:=h.1
  have gi:=h.2 i hi
  have ga:=h.2 _ fa
  have gb:=h.2 _ fb
  have hx1:x≤rd o (i:Int)∧x≤rd o (fn a i:Int)∧x≤rd o (fn b i:Int):=by rw [hx];unfold mn;omega
  have hcx:Con n a b i x.toNat:=by
    have:x=rd o (i:Int)∨x=rd o (fn a i:Int)∨x=rd o (fn b i:Int):=by rw [hx];unfold mn;omega
    rcases this with e|e|e
    · rw [e];exact gi.2.2
    · rw [e];exact(Con.fa hi).trans ga.2.2
    · rw [e];exact(Con.fb hi).trans gb.2.2
  have h0:0≤x:=by rw [hx];unfold mn;omega
  have p1:=h.put hi x h0 (by omega) hcx
  have p2:=p1.put fa x h0 (by omega) ((Con.fa hi).symm.trans hcx)
  have p3:=p2.put fb x h0 (by omega) ((Con.fb hi).symm.trans hcx)
  have hval : ∀ q,q<n→rd (((o.set i x).set (fn a i) x).set (fn b i) x) (q:Int)=if q=i∨q=fn a i∨q=fn b i then x else rd o (q:Int):=by
    intro q hq
    by_cases e1:fn b i=q
    · subst e1;rw [rd_set_self _ _ _ (by simp;omega),if_pos (.inr (.inr rfl))]
    · rw [rd_set_ne _ _ _ _ e1]
      by_cases e2:fn a i=q
      · subst e2;rw [rd_set_self _ _ _ (by simp;omega),if_pos (.inr (.inl rfl))]
      · rw [rd_set_ne _ _ _ _ e2]
        by_cases e3:i=q
        · subst e3;rw [rd_set_self _ _ _ (by omega),if_pos (.inl rfl)]
        · rw [rd_set_ne _ _ _ _ e3,if_neg (by omega)]
  refine⟨p3,fun q hq => ?_,fun q hq => ?_⟩
  · rw [hval q hq]
    split
    · rename_i e
      rcases e with rfl|rfl|rfl <;> omega
    · exact Int.le_refl _
  · have hqn:q<n:=by rcases hq with rfl|rfl|rfl <;> omega
    rw [hval q hqn,if_pos hq]
theorem spec_l1Orbits_ev (n:Nat) (hn:n≤4194304) (a b:List Int) (ha:Pts n a) (hb:Pts n b):Ev (fun k=>s14_.f k a b) (orbL a b):=by
  have la:=ha.1
  have lb:=hb.1
  have inner : ∀ d i,n - i=d→i≤n → ∀ (o0 o:List Int) (t:Nat),OrbPre n a b o0→OrbPre n a b o→(∀ q,q<n→rd o (q:Int)≤rd o0 (q:Int)) →
      (∀ q,q<i→(rd o (fn a q:Int)≤rd o0 (q:Int)∧rd o (q:Int)≤rd o0 (fn a q:Int))∧(rd o (fn b q:Int)≤rd o0 (q:Int)∧rd o (q:Int)≤rd o0 (fn b q:Int))) →
      (∀ o',OrbPre n a b o'→Rounded n a b o0 o'→Ev (fun k=>s14_.l0 k a b o' ((t:Int)+1)) (orbL a b))→t≤4194304 →
      Ev (fun k=>s14_.l1 k a b o (t:Nat) (i:Nat)) (orbL a b):=by
    intro d
    induction d with
    | zero =>
      intro i hd hi o0 o t h0 h hle hq hout ht
      obtain rfl:i=n:=by omega
      refine Ev.step (fun k=>by rw [s14_.l1]) ?_
      refine Ev.neg (by omega) ?_
      rw [wrap64_id (by omega) (by omega)]
      exact hout o h ⟨hle,hq⟩
    | succ d ih =>
      intro i hd hi o0 o t h0 h hle hq hout ht
      have hi':i<n:=by omega
      have ea:=ha.fn hi'
      have eb:=hb.fn hi'
      have lo:=h.1
      refine Ev.step (fun k=>by rw [s14_.l1]) ?_
      rw [ea.1,eb.1,wrap64_id (x:=(i:Int)+1) (by omega) (by omega)]
      simp only [toNat_nat]
      refine Ev.pos (by omega) (Ev.pos (by omega) (Ev.pos (by omega) (Ev.pos (by omega) (Ev.pos (by omega) (Ev.pos (by omega) (Ev.pos (by omega) (Ev.pos (by omega) ?_)))))))
      obtain⟨s1,s2,s3⟩:=spec_l1Orbits_step ha hb h hi' _ rfl
      have hx : ∀ q,(q=i∨q=fn a i∨q=fn b i)→mn (rd o (i:Int)) (mn (rd o (fn a i:Int)) (rd o (fn b i:Int)))≤rd o (q:Int):=by
        intro q hq;rcases hq with rfl|rfl|rfl <;> (unfold mn;omega)
      refine ih (i+1) (by omega) (by omega) o0 _ t h0 s1 (fun q hq=>Int.le_trans (s2 q hq) (hle q hq)) (fun q hqi => ?_) hout ht
      by_cases e:q=i
      · subst e
        have l1:=hle q hi'
        have l2:=hle _ ea.2
        have l3:=hle _ eb.2
        have x1:=hx q (.inl rfl)
        have x2:=hx _ (.inr (.inl rfl))
        have x3:=hx _ (.inr (.inr rfl))
        rw [s3 q (.inl rfl),s3 _ (.inr (.inl rfl)),s3 _ (.inr (.inr rfl))]
        omega
      · obtain⟨⟨q1,q2⟩,q3,q4⟩:=hq q (by omega)
        have m1:=s2 _ (ha.fn (show q<n by omega)).2
        have m2:=s2 _ (hb.fn (show q<n by omega)).2
        have m3:=s2 q (by omega)
        omega
  have outer : ∀ d t,n - t=d→t≤n → ∀ o:List Int,OrbPre n a b o→(t≤cntP (okB n a b o) n)→Ev (fun k=>s14_.l0 k a b o (t:Nat)) (orbL a b):=by
    intro d
    induction d with
    | zero =>
      intro t hd ht o h hc
      obtain rfl:t=n:=by omega
      refine Ev.step (fun k=>by rw [s14_.l0]) ?_
      refine Ev.neg (by omega) (Ev.const ?_)
      rw [settled ha hb h (by have:=cntP_le (okB t a b o) t;omega)]
    | succ d ih =>
      intro t hd ht o h hc
      refine Ev.step (fun k=>by rw [s14_.l0]) ?_
      refine Ev.pos (by omega) ?_
      refine inner n 0 (by omega) (by omega) o o t h h (fun q _=>Int.le_refl _) (fun q hq=>by omega) (fun o' h' hr => ?_) (by omega)
      have:=ih (t+1) (by omega) (by omega) o' h' ?_
      · exact this
      · rcases round_more ha hb h h' hr with e|e
        · have hm:cntP (okB n a b o) n≤cntP (okB n a b o') n:=by
            refine cntP_mono _ _ n (fun i hi hk => ?_)
            unfold okB at *
            have h1:=of_decide_eq_true hk
            have h2:=hr.1 i hi
            have h3:=h'.low_le hi
            exact decide_eq_true (by omega)
          omega
        · omega
  unfold s14_.f
  rw [la]
  refine Ev.bind (spec_l1Same_ev n hn) ?_
  exact outer n 0 (by omega) (by omega) _ (OrbPre.start n a b) (by omega)
theorem spec_MapValid_ev (t f:List Int) (ht:t.length≤1048576) (hf:f.length≤1048576):Ev (fun k=>sx_.f k t f) (dec (MOK t f)):=by
  unfold sx_.f
  refine Ev.bind (spec_l1Both_ev t f ht hf) ?_
  refine Ev.ite (fun h1 => ?_) (fun h1 => ?_)
  · obtain⟨a1,a2,hl⟩:=dec_iff.1 h1
    have ft:=a2.2.1
    have tt:=a1.2.1
    rw [hl] at tt
    have hz:=a1.1
    have ho:=(orbL_isOrb tt ft)
    have hol:=ho.1.1
    have last:(∀ q,q<f.length→fn f q≠q∧fn f (fn f q)=q) → ∀ d i,f.length - i=d→i≤f.length→(∀ q,q<i→rd (orbL t f) (q:Int)=0)→Ev (fun k=>sx_.l1 k (orbL t f) (i:Nat)) (dec (MOK t f)):=by
      intro hq d
      induction d with
      | zero =>
        intro i hd hi h0
        refine Ev.step (fun k=>by rw [sx_.l1]) ?_
        refine Ev.neg (by omega) ?_
        rw [dec_t]
        · exact Ev.const rfl
        · exact⟨a1,a2,hl,hq,fun i hi=>h0 i (by omega)⟩
      | succ d ih =>
        intro i hd hi h0
        refine Ev.step (fun k=>by rw [sx_.l1]) ?_
        rw [wrap64_id (x:=(i:Int)+1) (by omega) (by omega)]
        refine Ev.pos (by omega) (Ev.pos (by omega) (Ev.ite (fun q => ?_) (fun q => ?_)))
        · refine ih (i+1) (by omega) (by omega) (fun z hz => ?_)
          by_cases e:z=i
          · subst e;exact q
          · exact h0 z (by omega)
        · rw [dec_f (fun w=>q (w.2.2.2.2 i (by omega)))];exact Ev.const rfl
    have key : ∀ d i,f.length - i=d→i≤f.length→(∀ q,q<i→fn f q≠q∧fn f (fn f q)=q)→Ev (fun k=>sx_.l0 k (i:Nat) t f) (dec (MOK t f)):=by
      intro d
      induction d with
      | zero =>
        intro i hd hi hq
        obtain rfl:i=f.length:=by omega
        refine Ev.step (fun k=>by rw [sx_.l0]) ?_
        refine Ev.neg (by omega) ?_
        refine Ev.bind (spec_l1Orbits_ev f.length (by omega) t f tt ft) ?_
        exact last hq f.length 0 (by omega) (by omega) (fun q hq=>by omega)
      | succ d ih =>
        intro i hd hi hq
        have hi':i<f.length:=by omega
        have e1:=ft.fn hi'
        have e2:=ft.fn e1.2
        refine Ev.step (fun k=>by rw [sx_.l0]) ?_
        rw [e1.1,e2.1,wrap64_id (x:=(i:Int)+1) (by omega) (by omega)]
        refine Ev.pos (by omega) (Ev.pos (by omega) ?_)
        refine Ev.ite (fun n1 => ?_) (fun n1 => ?_)
        · rw [dec_f (fun w=>(w.2.2.2.1 i hi').1 (by omega))];exact Ev.const rfl
        refine Ev.pos (by omega) (Ev.pos (by omega) ?_)
        refine Ev.ite (fun n2 => ?_) (fun n2 => ?_)
        · refine ih (i+1) (by omega) (by omega) (fun q hqi => ?_)
          by_cases e:q=i
          · subst e;exact⟨by omega,by omega⟩
          · exact hq q (by omega)
        · rw [dec_f (fun w=>n2 (by have:=(w.2.2.2.1 i hi').2;omega))];exact Ev.const rfl
    exact key f.length 0 (by omega) (by omega) (fun q hq=>by omega)
  · rw [dec_f (fun w=>h1 (dec_t ⟨w.1,w.2.1,w.2.2.1⟩))];exact Ev.const rfl
def PermPre (i:Nat) (x:List Int):Prop:=x.length=i∧(∀ a:Nat,a<i→0≤rd x (a:Int)∧rd x (a:Int)<i) ∧ ∀ a b:Nat,a<i→b<i→rd x (a:Int)=rd x (b:Int)→a=b
theorem PermPre.perm {n:Nat} {x:List Int} (h:PermPre n x):PermL n x:=⟨⟨h.1,h.2.1⟩,fun i j hi hj e=>by
  have h1:=h.2.1 i hi
  have h2:=h.2.1 j hj
  unfold fn at e
  exact h.2.2 i j hi hj (by omega)⟩
theorem rd_snoc_lt (x:List Int) (v:Int) (a:Nat) (h:a<x.length):rd (x ++ [v]) (a:Int)=rd x (a:Int):=by
  rw [rd_nat _ _ (by rw [List.length_append];omega),rd_nat _ _ h,List.getElem_append_left h]
theorem rd_snoc_eq (x:List Int) (v:Int):rd (x ++ [v]) (x.length:Int)=v:=by
  rw [rd_nat _ _ (by simp)];simp
theorem PermPre.last {i:Nat} {x:List Int} (h:PermPre i x):PermPre (i+1) (x ++ [(i:Int)]):=by
  obtain⟨h1,h2,h3⟩:=h
  have hi:rd (x ++ [(i:Int)]) (i:Int)=(i:Int):=by have:=rd_snoc_eq x (i:Int);rwa [h1] at this
  have hlt : ∀ a:Nat,a<i→rd (x ++ [(i:Int)]) (a:Int)=rd x (a:Int):=fun a ha=>rd_snoc_lt x _ a (by omega)
  refine⟨by simp [h1],fun a ha => ?_,fun a b ha hb e => ?_⟩
  · by_cases q:a=i
    · subst q;rw [hi];omega
    · rw [hlt a (by omega)];have:=h2 a (by omega);omega
  · by_cases q:a=i
    · by_cases q':b=i
      · omega
      · subst q;rw [hi,hlt b (by omega)] at e;have:=h2 b (by omega);omega
    · by_cases q':b=i
      · subst q';rw [hi,hlt a (by omega)] at e;have:=h2 a (by omega);omega
      · rw [hlt a (by omega),hlt b (by omega)] at e
        exact h3 a b (by omega) (by omega) e
theorem PermPre.swap {i k:Nat} {x:List Int} (h:PermPre i x) (hk:k<i):PermPre (i+1) ((x ++ [rd x (k:Int)]).set k (i:Int)):=by
  obtain⟨h1,h2,h3⟩:=h
  have hl:(x ++ [rd x (k:Int)]).length=i+1:=by simp [h1]
  have e1:rd ((x ++ [rd x (k:Int)]).set k (i:Int)) (k:Int)=(i:Int):=rd_set_self _ _ _ (by omega)
  have e2:rd ((x ++ [rd x (k:Int)]).set k (i:Int)) (i:Int)=rd x (k:Int):=by
    rw [rd_set_ne _ _ _ _ (by omega)]
    have:=rd_snoc_eq x (rd x (k:Int));rwa [h1] at this
  have e3 : ∀ a:Nat,a<i→a≠k→rd ((x ++ [rd x (k:Int)]).set k (i:Int)) (a:Int)=rd x (a:Int):=fun a ha hne=>by
    rw [rd_set_ne _ _ _ _ (Ne.symm hne),rd_snoc_lt x _ a (by omega)]
  have vk:=h2 k hk
  refine⟨by simp [h1],fun a ha => ?_,fun a b ha hb e => ?_⟩
  · by_cases q:a=k
    · subst q;rw [e1];omega
    · by_cases q':a=i
      · subst q';rw [e2];omega
      · rw [e3 a (by omega) q];have:=h2 a (by omega);omega
  · have val : ∀ a:Nat,a<i+1→(a=k∧rd ((x ++ [rd x (k:Int)]).set k (i:Int)) (a:Int)=(i:Int))∨(a=i∧rd ((x ++ [rd x (k:Int)]).set k (i:Int)) (a:Int)=rd x (k:Int))∨(a<i∧a≠k∧rd ((x ++ [rd x (k:Int)]).set k (i:Int)) (a:Int)=rd x (a:Int)):=by
      intro a ha
      by_cases q:a=k
      · left;exact⟨q,by rw [q];exact e1⟩
      · by_cases q':a=i
        · right;left;exact⟨q',by rw [q'];exact e2⟩
        · right;right;exact⟨by omega,q,e3 a (by omega) q⟩
    rcases val a ha with⟨p1,p2⟩|⟨p1,p2⟩|⟨p1,p3,p2⟩ <;> rcases val b hb with⟨q1,q2⟩|⟨q1,q2⟩|⟨q1,q3,q2⟩
    · omega
    · rw [p2,q2] at e;omega
    · rw [p2,q2] at e;have:=h2 b q1;omega
    · rw [p2,q2] at e;omega
    · omega
    · rw [p2,q2] at e;exact absurd (h3 k b hk q1 e).symm q3
    · rw [p2,q2] at e;have:=h2 a p1;omega
    · rw [p2,q2] at e;exact absurd (h3 a k p1 hk e) p3
    · rw [p2,q2] at e;exact h3 a b p1 q1 e
theorem spec_l91Perm_ex (l:List Int) (hb:Bytes l) (hn:l.length≤2000) (p:Int) (n:Nat) (hN:n≤100) (hp0:0≤p) (hp1:p≤1000000) : ∃ x q,Ev (fun k=>s1g_.f k l p (n:Nat)) (x,q)∧PermL n x∧p≤q∧q≤p+100:=by
  have key : ∀ d i:Nat,n - i=d→i≤n → ∀ x:List Int,PermPre i x → ∀ q:Int,p≤q→q≤p+i → ∃ x' q',Ev (fun k=>s1g_.l0 k (n:Nat) x (i:Nat) l q) (x',q')∧PermL n x'∧p≤q'∧q'≤p+100:=by
    intro d
    induction d with
    | zero =>
      intro i hd hi x hx q hq hq'
      obtain rfl:i=n:=by omega
      refine⟨x,q,?_,hx.perm,hq,by omega⟩
      refine Ev.step (fun k=>by rw [s1g_.l0]) ?_
      exact Ev.neg (by omega) (Ev.const rfl)
    | succ d ih =>
      intro i hd hi x hx q hq hq'
      have hl:=hx.1
      obtain⟨y,y1,y2,y3⟩:=spec_l6Rd_pick_ex l hb hn q ((i:Int)+1) (by omega) (by omega)
      have y3:=y3 (by omega)
      obtain⟨k,rfl⟩ : ∃ k:Nat,y=(k:Int):=⟨y.toNat,by omega⟩
      by_cases e:k=i
      · subst e
        obtain⟨x',q',r1,r2,r3,r4⟩:=ih (k+1) (by omega) (by omega) _ hx.last (q+1) (by omega) (by omega)
        refine⟨x',q',?_,r2,r3,r4⟩
        refine Ev.step (fun k=>by rw [s1g_.l0]) ?_
        rw [wrap64_id (x:=(k:Int)+1) (by omega) (by omega)]
        refine Ev.pos (by omega) (Ev.bind y1 (Ev.pos rfl (Ev.pos (by omega) ?_)))
        exact r1
      · obtain⟨x',q',r1,r2,r3,r4⟩:=ih (i+1) (by omega) (by omega) _ (hx.swap (k:=k) (by omega)) (q+1) (by omega) (by omega)
        refine⟨x',q',?_,r2,r3,r4⟩
        refine Ev.step (fun k=>by rw [s1g_.l0]) ?_
        rw [wrap64_id (x:=(i:Int)+1) (by omega) (by omega)]
        refine Ev.pos (by omega) (Ev.bind y1 (Ev.neg (by show ¬ ((k:Int)=(i:Int));omega) (Ev.pos (by omega) (Ev.pos (by show(k:Int)<(x.length:Int);omega) (Ev.pos (by omega) (Ev.bindc rfl (Ev.pos (by show(k:Int)<((x ++ [rd x (k:Int)]).length:Int);simp;omega) ?_)))))))
        exact r1
  unfold s1g_.f
  obtain⟨x,q,r1,r2,r3,r4⟩:=key n 0 (by omega) (by omega) [] ⟨rfl,fun a ha=>by omega,fun a b ha=>by omega⟩ p (by omega) (by omega)
  exact⟨x,q,r1,r2,r3,r4⟩
theorem set_swap_perm {n:Nat} {t:List Int} (ht:PermL n t) {a b:Nat} (ha:a<n) (hb:b<n):PermL n ((t.set a (rd t (b:Int))).set b (rd t (a:Int))):=by
  have hl:=ht.1.1
  have val : ∀ i:Nat,i<n→fn ((t.set a (rd t (b:Int))).set b (rd t (a:Int))) i=(if i=b then fn t a else if i=a then fn t b else fn t i):=by
    intro i hi
    unfold fn
    by_cases e:i=b
    · subst e;rw [if_pos rfl,rd_set_self _ _ _ (by simp;omega)]
    · rw [if_neg e,rd_set_ne _ _ _ _ (Ne.symm e)]
      by_cases e2:i=a
      · subst e2;rw [if_pos rfl,rd_set_self _ _ _ (by omega)]
      · rw [if_neg e2,rd_set_ne _ _ _ _ (Ne.symm e2)]
  have rng : ∀ i:Nat,i<n→0≤rd ((t.set a (rd t (b:Int))).set b (rd t (a:Int))) (i:Int)∧rd ((t.set a (rd t (b:Int))).set b (rd t (a:Int))) (i:Int)<n:=by
    intro i hi
    by_cases e:i=b
    · subst e;rw [rd_set_self _ _ _ (by simp;omega)];exact ht.1.2 a ha
    · rw [rd_set_ne _ _ _ _ (Ne.symm e)]
      by_cases e2:i=a
      · subst e2;rw [rd_set_self _ _ _ (by omega)];exact ht.1.2 b hb
      · rw [rd_set_ne _ _ _ _ (Ne.symm e2)];exact ht.1.2 i hi
  refine⟨⟨by simp [hl],rng⟩,fun i j hi hj e => ?_⟩
  have alt : ∀ i:Nat,i<n → ∃ s:Nat,s<n∧fn ((t.set a (rd t (b:Int))).set b (rd t (a:Int))) i=fn t s∧((i=b∧s=a)∨(i≠b∧i=a∧s=b)∨(i≠b∧i≠a∧s=i)):=by
    intro i hi
    rw [val i hi]
    by_cases e:i=b
    · exact⟨a,ha,by rw [if_pos e],.inl ⟨e,rfl⟩⟩
    · by_cases e2:i=a
      · exact⟨b,hb,by rw [if_neg e,if_pos e2],.inr (.inl ⟨e,e2,rfl⟩)⟩
      · exact⟨i,hi,by rw [if_neg e,if_neg e2],.inr (.inr ⟨e,e2,rfl⟩)⟩
  obtain⟨s,s1,s2,s3⟩:=alt i hi
  obtain⟨u,u1,u2,u3⟩:=alt j hj
  rw [s2,u2] at e
  have:=ht.2 s u s1 u1 e
  omega
theorem spec_l91Map_l2 {n : Nat} (hn0 : 1 ≤ n) (hn : n ≤ 100) {t f : List Int} (ht : PermL n t) (x5 x10 : Int) (l : List Int) (p : Int) (r : List Int × List Int × Int)
    (hr : ∀ t',PermL n t'→Ev (fun k=>s1f_.l1 k x5 (wrap64 (x10+1)) l p t' f) r) (o:List Int) (ho:o.length=n) (z:Nat) (hz:z<n) (hne:rd o (z:Int)≠0) :
    ∀ d i,z - i=d→i≤z→Ev (fun k=>s1f_.l2 k x5 x10 o (i:Nat) l p t f) r:=by
  have go : ∀ i:Nat,i<n→rd o (i:Int)≠0→Ev (fun k=>s1f_.l2 k x5 x10 o (i:Nat) l p t f) r:=by
    intro i hi hne
    have hl:=ht.1.1
    refine Ev.step (fun k=>by rw [s1f_.l2]) ?_
    refine Ev.pos (by omega) (Ev.pos (by omega) (Ev.neg hne (Ev.pos (by omega) (Ev.pos (by omega) ?_))))
    exact hr _ (set_swap_perm ht (a:=0) (b:=i) (by omega) hi)
  intro d
  induction d with
  | zero =>
    intro i hd hi
    obtain rfl:i=z:=by omega
    exact go i hz hne
  | succ d ih =>
    intro i hd hi
    by_cases e:rd o (i:Int)=0
    · refine Ev.step (fun k=>by rw [s1f_.l2]) ?_
      rw [wrap64_id (x:=(i:Int)+1) (by omega) (by omega)]
      refine Ev.pos (by omega) (Ev.pos (by omega) (Ev.pos e ?_))
      exact ih (i+1) (by omega) (by omega)
    · exact go i (by omega) e
theorem spec_l91Map_ex (l:List Int) (hb:Bytes l) (hn:l.length≤2000) (p:Int) (m:Nat) (hm0:1≤m) (hm:m≤6) (hp0:0≤p) (hp1:p≤100000) : ∃ t f q,Ev (fun k=>s1f_.f k l p (m:Nat)) (t,f,q)∧t.length≤12∧f.length≤12∧p≤q∧q≤p+300:=by
  obtain⟨x,x1,x2,x3⟩:=spec_l6Rd_pick_ex l hb hn p (m:Nat) (by omega) (by omega)
  have x3:=x3 (by omega)
  obtain⟨c,rfl⟩ : ∃ c:Nat,x=(c:Int):=⟨x.toNat,by omega⟩
  obtain⟨n,hnn⟩ : ∃ n:Nat,n=2*(1+c):=⟨_,rfl⟩
  have hw:wrap64 (2*wrap64 (1+(c:Int)))=(n:Int):=by rw [wrap64_id (x:=1+(c:Int)) (by omega) (by omega),wrap64_id (by omega) (by omega)];omega
  obtain⟨a,qa,a1,a2,a3,a4⟩:=spec_l91Perm_ex l hb hn (p+1) n (by omega) (by omega) (by omega)
  have last : ∀ (t f:List Int) (i:Int) (q:Int),t.length=n→f.length=n→p≤q→q≤p+250 → ∃ t' f' q',Ev (fun k=>s1f_.j2 k (n:Nat) i false l q t f) (t',f',q')∧t'.length≤12∧f'.length≤12∧p≤q'∧q'≤p+300:=by
    intro t f i q ht hf hq hq'
    obtain⟨y,y1,y2,y3⟩:=spec_l6Rd_pick_ex l hb hn q 50 (by omega) (by omega)
    by_cases e0:y=0
    · refine⟨t,f.set (0:Int).toNat 0,q+1,?_,by omega,by simp;omega,by omega,by omega⟩
      refine Ev.step (fun k=>by rw [s1f_.j2]) ?_
      exact Ev.neg (by simp) (Ev.bind y1 (Ev.pos e0 (Ev.pos (by omega) (Ev.const rfl))))
    · by_cases e1:y=1
      · refine⟨t.drop (1:Int).toNat,f,q+1,?_,by simp;omega,by omega,by omega,by omega⟩
        refine Ev.step (fun k=>by rw [s1f_.j2]) ?_
        exact Ev.neg (by simp) (Ev.bind y1 (Ev.neg e0 (Ev.pos e1 (Ev.pos (by omega) (Ev.const rfl)))))
      · by_cases e2:y=2
        · refine⟨t.set (0:Int).toNat (n:Nat),f,q+1,?_,by simp;omega,by omega,by omega,by omega⟩
          refine Ev.step (fun k=>by rw [s1f_.j2]) ?_
          exact Ev.neg (by simp) (Ev.bind y1 (Ev.neg e0 (Ev.neg e1 (Ev.pos e2 (Ev.pos (by omega) (Ev.const rfl))))))
        · refine⟨t,f,q+1,?_,by omega,by omega,by omega,by omega⟩
          refine Ev.step (fun k=>by rw [s1f_.j2]) ?_
          exact Ev.neg (by simp) (Ev.bind y1 (Ev.neg e0 (Ev.neg e1 (Ev.neg e2 (Ev.const rfl)))))
  have loop : ∀ (f:List Int),PairL n f → ∀ d i:Nat,n - i=d→i≤n → ∀ t,PermL n t → ∀ q,p≤q→q≤p+250 → ∃ t' f' q',Ev (fun k=>s1f_.l1 k (n:Nat) (i:Nat) l q t f) (t',f',q')∧t'.length≤12∧f'.length≤12∧p≤q'∧q'≤p+300:=by
    intro f hf d
    induction d with
    | zero =>
      intro i hd hi t ht q hq hq'
      obtain⟨t',f',q',r1,r2⟩:=last t f (i:Nat) q ht.1.1 hf.pts.1 hq hq'
      refine⟨t',f',q',?_,r2⟩
      refine Ev.step (fun k=>by rw [s1f_.l1]) ?_
      exact Ev.neg (by omega) r1
    | succ d ih =>
      intro i hd hi t ht q hq hq'
      have tl:=ht.1.1
      have fl:=hf.pts.1
      have hv:=spec_MapValid_ev t f (by omega) (by omega)
      by_cases hM:MOK t f
      · obtain⟨t',f',q',r1,r2⟩:=last t f (i:Nat) q tl fl hq hq'
        refine⟨t',f',q',?_,r2⟩
        rw [dec_t hM] at hv
        refine Ev.step (fun k=>by rw [s1f_.l1]) ?_
        exact Ev.pos (by omega) (Ev.bind hv r1)
      · rw [dec_f hM] at hv
        -- some point is not joined to the first one
        obtain⟨z,hz,hne⟩ : ∃ z,z<n∧rd (orbL t f) (z:Int)≠0:=by
          refine Classical.byContradiction fun hno=>hM ?_
          have fp:PermL n f:=⟨hf.pts,fun a b ha hb e=>by rw [← hf.inv a ha,e,hf.inv b hb]⟩
          refine⟨⟨by omega,by rw [tl];exact ht⟩,⟨by omega,by rw [fl];exact fp⟩,by omega,fun a ha=>⟨hf.ne a (by omega),hf.inv a (by omega)⟩,fun a ha=>Classical.byContradiction fun w=>hno ⟨a,by omega,w⟩⟩
        have each : ∀ t':List Int,PermL n t' → ∃ r,Ev (fun k=>s1f_.l1 k (n:Nat) (wrap64 (((i:Nat):Int)+1)) l q t' f) r∧(r.1.length≤12∧r.2.1.length≤12∧p≤r.2.2∧r.2.2≤p+300):=by
          intro t' ht'
          obtain⟨t2,f2,q2,r1,r2⟩:=ih (i+1) (by omega) (by omega) t' ht' q hq hq'
          rw [wrap64_id (x:=(i:Int)+1) (by omega) (by omega)]
          exact⟨(t2,f2,q2),r1,r2⟩
        -- the first such point
        obtain⟨y,⟨hy,hyne⟩,hmin⟩:=least_of (fun y=>y<n∧rd (orbL t f) (y:Int)≠0) z ⟨hz,hne⟩
        obtain⟨r,r1,r2⟩:=each _ (set_swap_perm ht (a:=0) (b:=y) (by omega) hy)
        refine⟨r.1,r.2.1,r.2.2,?_,r2⟩
        refine Ev.step (fun k=>by rw [s1f_.l1]) ?_
        refine Ev.pos (by omega) (Ev.bind hv ?_)
        refine Ev.step (fun k=>by rw [s1f_.j2]) ?_
        refine Ev.pos rfl (Ev.bind (spec_l1Orbits_ev n (by omega) t f ht.1 hf.pts) ?_)
        have hol:(orbL t f).length=n:=by rw [orbL_length,tl]
        have walk : ∀ d i',y - i'=d→i'≤y→Ev (fun k=>s1f_.l2 k (n:Nat) (i:Nat) (orbL t f) (i':Nat) l q t f) r:=by
          intro d'
          induction d' with
          | zero =>
            intro i' hd' hi'
            obtain rfl:i'=y:=by omega
            refine Ev.step (fun k=>by rw [s1f_.l2]) ?_
            refine Ev.pos (by omega) (Ev.pos (by omega) (Ev.neg hyne (Ev.pos (by omega) (Ev.pos (by omega) ?_))))
            exact r1
          | succ d' ih' =>
            intro i' hd' hi'
            have e:rd (orbL t f) (i':Int)=0:=Classical.byContradiction fun w=>by have:=hmin i' ⟨by omega,w⟩;omega
            refine Ev.step (fun k=>by rw [s1f_.l2]) ?_
            rw [wrap64_id (x:=(i':Int)+1) (by omega) (by omega)]
            exact Ev.pos (by omega) (Ev.pos (by omega) (Ev.pos e (ih' (i'+1) (by omega) (by omega))))
        exact walk y 0 (by omega) (by omega)
  -- the pairs
  have pairs : ∀ d i:Nat,c+1 - i=d→i≤c+1 → ∀ f:List Int,f.length=n→(∀ j:Nat,j<2*i→rd f (fn a j:Int)=(fn a (if j % 2=0 then j+1 else j - 1):Int)) →
      ∃ t' f' q',Ev (fun k=>s1f_.l0 k (n:Nat) a f ((2*i:Nat):Int) l qa) (t',f',q')∧t'.length≤12∧f'.length≤12∧p≤q'∧q'≤p+300:=by
    intro d
    induction d with
    | zero =>
      intro i hd hi f hf hq
      have hap:=a2.perm
      have hF:PairL n f:=by
        have at_ : ∀ j,j<n→rd f (fn a j:Int)=(fn a (if j % 2=0 then j+1 else j - 1):Int)∧(if j % 2=0 then j+1 else j - 1)<n∧(if j % 2=0 then j+1 else j - 1)≠j:=fun j hj=>⟨hq j (by omega),by split <;> omega,by split <;> omega⟩
        have pre : ∀ x,x<n → ∃ j,j<n∧x=fn a j:=fun x hx=>⟨bck n (fn a) x,hap.gl x hx,(hap.fg x hx).symm⟩
        have fnv : ∀ j,j<n→fn f (fn a j)=fn a (if j % 2=0 then j+1 else j - 1):=fun j hj=>by unfold fn;rw [show rd f ((rd a (j:Int)).toNat:Int)=_ from(at_ j hj).1];rfl
        refine⟨⟨hf,fun x hx => ?_⟩,fun x hx => ?_,fun x hx => ?_⟩
        · obtain⟨j,hj,rfl⟩:=pre x hx
          obtain⟨h1,h2,h3⟩:=at_ j hj
          rw [h1]
          have:=hap.fl _ h2;omega
        · obtain⟨j,hj,rfl⟩:=pre x hx
          obtain⟨h1,h2,h3⟩:=at_ j hj
          rw [fnv j hj]
          exact fun w=>h3 (a2.2 _ _ h2 hj w)
        · obtain⟨j,hj,rfl⟩:=pre x hx
          obtain⟨h1,h2,h3⟩:=at_ j hj
          rw [fnv j hj,fnv _ h2]
          congr 1
          split <;> (split <;> omega)
      obtain⟨t0,q0,s1,s2,s3,s4⟩:=spec_l91Perm_ex l hb hn qa n (by omega) (by omega) (by omega)
      obtain⟨t',f',q',r1,r2⟩:=loop f hF n 0 (by omega) (by omega) t0 s2 q0 (by omega) (by omega)
      refine⟨t',f',q',?_,r2⟩
      refine Ev.step (fun k=>by rw [s1f_.l0]) ?_
      rw [wrap64_id (x:=((2*i:Nat):Int)+1) (by omega) (by omega)]
      exact Ev.neg (by omega) (Ev.bind s1 r1)
    | succ d ih =>
      intro i hd hi f hf hq
      have e1:=a2.1.fn (show 2*i<n by omega)
      have e2:=a2.1.fn (show 2*i+1<n by omega)
      have al:=a2.1.1
      have hne:fn a (2*i)≠fn a (2*i+1):=fun w=>by have:=a2.2 _ _ (by omega) (by omega) w;omega
      obtain⟨t',f',q',r1,r2⟩:=ih (i+1) (by omega) (by omega) ((f.set (fn a (2*i)) (fn a (2*i+1):Int)).set (fn a (2*i+1)) (fn a (2*i):Int)) (by simp [hf]) (fun j hj=>by
        by_cases z1:j=2*i+1
        · rw [z1,if_neg (by omega),show 2*i+1 - 1=2*i by omega]
          exact rd_set_self _ _ _ (by simp [hf];omega)
        · by_cases z2:j=2*i
          · rw [z2,if_pos (by omega),rd_set_ne _ _ _ _ (Ne.symm hne)]
            exact rd_set_self _ _ _ (by omega)
          · have n1:fn a (2*i+1)≠fn a j:=fun w=>by have:=a2.2 _ _ (by omega) (by omega) w;omega
            have n2:fn a (2*i)≠fn a j:=fun w=>by have:=a2.2 _ _ (by omega) (by omega) w;omega
            rw [rd_set_ne _ _ _ _ n1,rd_set_ne _ _ _ _ n2]
            exact hq j (by omega))
      refine⟨t',f',q',?_,r2⟩
      refine Ev.step (fun k=>by rw [s1f_.l0]) ?_
      rw [wrap64_id (x:=((2*i:Nat):Int)+1) (by omega) (by omega),wrap64_id (x:=((2*i:Nat):Int)+2) (by omega) (by omega),show((2*i:Nat):Int)+1=((2*i+1:Nat):Int) by omega,e1.1,e2.1]
      simp only [toNat_nat]
      refine Ev.pos (by omega) (Ev.pos (by omega) (Ev.pos (by omega) (Ev.pos (by omega) (Ev.pos (by omega) (Ev.pos (by omega) (Ev.pos (by omega) (Ev.pos (by omega) (Ev.pos (by omega) ?_))))))))
      rw [show((2*i:Nat):Int)+2=((2*(i+1):Nat):Int) by omega]
      exact r1
  obtain⟨t',f',q',r1,r2⟩:=pairs (c+1) 0 (by omega) (by omega) (List.replicate n 0) (by simp) (fun j hj=>by omega)
  refine⟨t',f',q',?_,r2⟩
  unfold s1f_.f
  refine Ev.bind x1 ?_
  rw [hw]
  refine Ev.bind a1 (Ev.pos (by omega) (Ev.pos (by omega) ?_))
  exact r1
def ShortV (v:List (List Int)):Prop:=v.length≤7 ∧ ∀ x ∈ v,x.length≤6
theorem ShortV.small {v:List (List Int)} (h:ShortV v):Small v:=⟨by have:=h.1;omega,fun i hi=>by rw [rdL_nat v i hi];have:=h.2 _ (List.getElem_mem hi);omega⟩
theorem spec_l92Cover_l0 (l:List Int) (hb:Bytes l) (hn:l.length≤2000) (t f:List Int) (hf:f.length≤12) (κ:Nat) (h0:1≤κ) (h1:κ≤6) : ∀ (d i:Nat) (v:List (List Int)) (p:Int),f.length / 2 - i=d→i≤f.length / 2→v.length=i→(∀ x ∈ v,x.length≤6)→0≤p→p≤900000 - 100*d →
    ∃ k w q,Ev (fun n=>s1i_.l0 n (κ:Nat) v (i:Nat) l p t f) (t,f,k,w,q)∧0≤k∧k≤7∧ShortV w∧p≤q∧q≤p+100*d+10:=by
  have hh:wrap64 ((f.length:Int) / 2)=((f.length / 2:Nat):Int):=by
    rw [show((f.length:Int) / 2)=((f.length / 2:Nat):Int) from rfl,wrap64_id (by omega) (by omega)]
  intro d
  induction d with
  | zero =>
    intro i v p hd hi hv hx hp0 hp1
    obtain⟨x,x1,x2,x3⟩:=spec_l6Rd_pick_ex l hb hn p 40 hp0 (by omega)
    by_cases e:x=0
    · obtain⟨y,y1,y2,y3⟩:=spec_l6Rd_pick_ex l hb hn (p+1) 3 (by omega) (by omega)
      refine⟨rd [0,7,wrap64 ((κ:Int)+1)] y,v,p+1+1,?_,?_,?_,⟨by omega,hx⟩,by omega,by omega⟩
      · refine Ev.step (fun n=>by rw [s1i_.l0]) ?_
        rw [hh]
        refine Ev.neg (by omega) (Ev.bind x1 (Ev.pos e ?_))
        refine Ev.bindc rfl (Ev.bind y1 (Ev.pos (by omega) (Ev.pos ?_ (Ev.const rfl))))
        have:=y3 (by omega)
        simp only [List.length_cons,List.length_nil];omega
      all_goals
        have:=y3 (by omega)
        rw [wrap64_id (by omega) (by omega)]
        have:y=0∨y=1∨y=2:=by omega
        rcases this with rfl|rfl|rfl <;> simp [rd] <;> omega
    · by_cases e1:x=1
      · refine⟨κ,v ++ [idL κ],p+1,?_,by omega,by omega,⟨by simp;omega,fun z hz => ?_⟩,by omega,by omega⟩
        · refine Ev.step (fun n=>by rw [s1i_.l0]) ?_
          rw [hh]
          refine Ev.neg (by omega) (Ev.bind x1 (Ev.neg e (Ev.pos e1 ?_)))
          exact Ev.bind (spec_l1Same_ev κ (by omega)) (Ev.pos (by omega) (Ev.const rfl))
        · rcases List.mem_append.1 hz with q|q
          · exact hx z q
          · obtain rfl:=List.mem_singleton.1 q
            unfold idL;simp;omega
      · refine⟨κ,v,p+1,?_,by omega,by omega,⟨by omega,hx⟩,by omega,by omega⟩
        refine Ev.step (fun n=>by rw [s1i_.l0]) ?_
        rw [hh]
        exact Ev.neg (by omega) (Ev.bind x1 (Ev.neg e (Ev.neg e1 (Ev.const rfl))))
  | succ d ih =>
    intro i v p hd hi hv hx hp0 hp1
    obtain⟨x,q,x1,x2,x3,x4⟩:=spec_l91Perm_ex l hb hn p κ (by omega) hp0 (by omega)
    obtain⟨k,w,r,r1,r2,r3,r4,r5,r6⟩:=ih (i+1) (v ++ [x]) q (by omega) (by omega) (by simp [hv]) (fun z hz=>by
      rcases List.mem_append.1 hz with c|c
      · exact hx z c
      · obtain rfl:=List.mem_singleton.1 c
        have:=x2.1.1;omega) (by omega) (by omega)
    refine⟨k,w,r,?_,r2,r3,r4,by omega,by omega⟩
    refine Ev.step (fun n=>by rw [s1i_.l0]) ?_
    rw [hh,wrap64_id (x:=(i:Int)+1) (by omega) (by omega)]
    exact Ev.pos (by omega) (Ev.bind x1 (Ev.pos (by omega) r1))
theorem spec_l92Cover_ex (l:List Int) (hb:Bytes l) (hn:l.length≤2000) (p:Int) (hp0:0≤p) (hp1:p≤10000) : ∃ t f k v q,Ev (fun n=>s1i_.f n l p) (t,f,k,v,q)∧t.length≤12∧f.length≤12∧0≤k∧k≤7∧ShortV v∧p≤q∧q≤p+5000:=by
  obtain⟨x,x1,x2,x3⟩:=spec_l6Rd_pick_ex l hb hn p 3 hp0 (by omega)
  have x3:=x3 (by omega)
  have step : ∀ (κ:Nat) (t f:List Int) (q:Int),1≤κ→κ≤6→f.length≤12→0≤q→q≤20000 → ∃ k w r,Ev (fun n=>s1i_.j1 n (κ:Nat) l q t f) (t,f,k,w,r)∧0≤k∧k≤7∧ShortV w∧q≤r∧r≤q+1000:=by
    intro κ t f q h0 h1 hf q0 q1
    obtain⟨k,w,r,r1,r2,r3,r4,r5,r6⟩:=spec_l92Cover_l0 l hb hn t f hf κ h0 h1 (f.length / 2) 0 [] q (by omega) (by omega) rfl (fun z hz=>by simp at hz) q0 (by omega)
    exact⟨k,w,r,Ev.step (fun n=>by rw [s1i_.j1];rfl) r1,r2,r3,r4,r5,by omega⟩
  have hx:x=0∨x=1∨x=2:=by omega
  have hk:wrap64 (1+x)=1+x:=wrap64_id (by omega) (by omega)
  have main : ∀ (κ m:Nat),1+x=(κ:Int)→wrap64 (Int.tdiv 6 (1+x))=(m:Int)→1≤m→m≤6→1≤κ→κ≤3 → ∃ t f k v q,Ev (fun n=>s1i_.f n l p) (t,f,k,v,q)∧t.length≤12∧f.length≤12∧0≤k∧k≤7∧ShortV v∧p≤q∧q≤p+5000:=by
    intro κ m e1 e2 m0 m1 k0 k1
    obtain⟨t,f,q,t1,t2,t3,t4,t5⟩:=spec_l91Map_ex l hb hn (p+1) m m0 m1 (by omega) (by omega)
    rw [← e2] at t1
    by_cases hk1:1+x=1
    · obtain⟨y,y1,y2,y3⟩:=spec_l6Rd_pick_ex l hb hn q 2 (by omega) (by omega)
      by_cases hy:y=0
      · obtain⟨t',f',q',u1,u2,u3,u4,u5⟩:=spec_l91Map_ex l hb hn (q+1) 1 (by omega) (by omega) (by omega) (by omega)
        obtain⟨z,z1,z2,z3⟩:=spec_l6Rd_pick_ex l hb hn q' 6 (by omega) (by omega)
        have z3:=z3 (by omega)
        obtain⟨ζ,hζ⟩:=Int.eq_ofNat_of_zero_le (show 0≤1+z by omega)
        obtain⟨k,w,r,r1,r2,r3,r4,r5,r6⟩:=step ζ t' f' (q'+1) (by omega) (by omega) u3 (by omega) (by omega)
        refine⟨t',f',k,w,r,?_,u2,u3,r2,r3,r4,by omega,by omega⟩
        unfold s1i_.f
        refine Ev.bind x1 ?_
        simp only [hk]
        refine Ev.neg (by omega) (Ev.bind t1 (Ev.pos hk1 (Ev.bind y1 ?_)))
        refine Ev.step (fun n=>by rw [s1i_.j0]) ?_
        refine Ev.pos (by simp [hy]) (Ev.bind u1 (Ev.bind z1 ?_))
        simp only [show wrap64 (1+z)=(ζ:Int) from by rw [wrap64_id (by omega) (by omega)];exact hζ]
        exact r1
      · obtain⟨k,w,r,r1,r2,r3,r4,r5,r6⟩:=step κ t f (q+1) (by omega) (by omega) t3 (by omega) (by omega)
        refine⟨t,f,k,w,r,?_,t2,t3,r2,r3,r4,by omega,by omega⟩
        unfold s1i_.f
        refine Ev.bind x1 ?_
        simp only [hk]
        refine Ev.neg (by omega) (Ev.bind t1 (Ev.pos hk1 (Ev.bind y1 ?_)))
        refine Ev.step (fun n=>by rw [s1i_.j0]) ?_
        refine Ev.neg (by simp [hy]) ?_
        rw [e1]
        exact r1
    · obtain⟨k,w,r,r1,r2,r3,r4,r5,r6⟩:=step κ t f q (by omega) (by omega) t3 (by omega) (by omega)
      refine⟨t,f,k,w,r,?_,t2,t3,r2,r3,r4,by omega,by omega⟩
      unfold s1i_.f
      refine Ev.bind x1 ?_
      simp only [hk]
      refine Ev.neg (by omega) (Ev.bind t1 (Ev.neg hk1 ?_))
      refine Ev.step (fun n=>by rw [s1i_.j0]) ?_
      refine Ev.neg (by simp) ?_
      rw [e1]
      exact r1
  rcases hx with rfl|rfl|rfl
  · exact main 1 6 rfl (by rw [show Int.tdiv 6 (1+0)=6 from by decide];exact wrap64_id (by omega) (by omega)) (by omega) (by omega) (by omega) (by omega)
  · exact main 2 3 rfl (by rw [show Int.tdiv 6 (1+1)=3 from by decide];exact wrap64_id (by omega) (by omega)) (by omega) (by omega) (by omega) (by omega)
  · exact main 3 2 rfl (by rw [show Int.tdiv 6 (1+2)=2 from by decide];exact wrap64_id (by omega) (by omega)) (by omega) (by omega) (by omega) (by omega)
theorem spec_l6Open_ex (l:List Int) (h:Bytes l) : ∃ m,s19_.f l=some (m,0)∧Bytes m∧m.length≤2000:=by
  unfold s19_.f
  by_cases h1:(l.length:Int)>2000
  · rw [if_pos h1,if_pos (by omega)]
    exact⟨_,rfl,h.take 2000,by simp;omega⟩
  · rw [if_neg h1]
    exact⟨_,rfl,h,by omega⟩
theorem spec_l91At_ex' (l:List Int) (hb:Bytes l) (hn:l.length≤2000) (p a:Int) (hp0:0≤p) (hp1:p≤1000000) : ∃ x q,Ev (fun k=>s1e_.f k l p a) (x,q)∧p≤q∧q≤p+2:=by
  have j : ∀ (c:Bool) (p:Int),0≤p→p≤1000001 → ∃ x,Ev (fun k=>s1e_.j0 k a c l p) (x,p+1):=by
    intro c p p0 p1
    cases c with
    | true =>
      obtain⟨y,y1,y2,y3⟩:=spec_l6Rd_pick_ex l hb hn p 2 p0 (by omega)
      have y4:=y3 (by omega)
      refine⟨rd [(-1),a] y,?_⟩
      refine Ev.step (fun k=>by rw [s1e_.j0]) (Ev.pos rfl ?_)
      exact Ev.bindc rfl (Ev.bind y1 (Ev.pos y2 (Ev.pos (by simpa using y4) (Ev.const rfl))))
    | false =>
      obtain⟨y,y1,y2,y3⟩:=spec_l6Rd_pick_ex l hb hn p a p0 (by omega)
      refine⟨y,?_⟩
      refine Ev.step (fun k=>by rw [s1e_.j0]) (Ev.neg (by simp) ?_)
      exact Ev.bind y1 (Ev.const rfl)
  unfold s1e_.f
  by_cases h:a=0
  · obtain⟨x,e⟩:=j true p hp0 (by omega)
    exact⟨x,p+1,Ev.pos h e,by omega,by omega⟩
  · obtain⟨y,y1,y2,y3⟩:=spec_l6Rd_pick_ex l hb hn p 20 hp0 (by omega)
    obtain⟨x,e⟩:=j (y == 0) (p+1) (by omega) (by omega)
    exact⟨x,_,Ev.neg h (Ev.bind y1 e),by omega,by omega⟩
theorem spec_l91At_ex (l:List Int) (hb:Bytes l) (hn:l.length≤2000) (p a:Int) (hp0:0≤p) (hp1:p≤1000000) : ∃ x q,Ev (fun k=>s1e_.f k l p a) (x,q):=by
  obtain⟨x,q,e,_⟩:=spec_l91At_ex' l hb hn p a hp0 hp1
  exact⟨x,q,e⟩
theorem spec_l91Some_ex (l:List Int) (hb:Bytes l) (hn:l.length≤2000) (p:Int) (a:Nat) (ha:1≤a) (ha2:a≤99) (hp0:0≤p) (hp1:p≤500000) : ∃ x q,Ev (fun k=>s1h_.f k l p (a:Nat)) (x,q)∧x.length≤a+1:=by
  obtain⟨y,y1,y2,y3⟩:=spec_l6Rd_pick_ex l hb hn p (a:Int) hp0 (by omega)
  have y4:=y3 (by omega)
  obtain⟨z,rfl⟩:=Int.eq_ofNat_of_zero_le y2
  obtain⟨x,q,x1,x2,x3,x4⟩:=spec_l91Perm_ex l hb hn (p+1) (z+1) (by omega) (by omega) (by omega)
  have xl:=x2.1.1
  obtain⟨c,c1,c2,c3⟩:=spec_l6Rd_pick_ex l hb hn q 40 (by omega) (by omega)
  have x1':Ev (fun k=>s1g_.f k l (p+1) (wrap64 (1+(z:Int)))) (x,q):=by
    rw [show wrap64 (1+(z:Int))=((z+1:Nat):Int) by rw [wrap64_id (by omega) (by omega)];omega];exact x1
  have go : ∀ r:List Int×Int,Ev (fun k=>if c=0 then ((some (([(-1),(x.length:Int)]:List Int):List Int)).bind fun y402=>((s1a_.f k l (q+1) 2).bind fun bt405=>(if 0≤bt405.1 then (if bt405.1<(y402.length:Int) then (if 0<(x.length:Int) then (some ((x.set (0:Int).toNat (rd y402 bt405.1)),bt405.2)) else (none)) else (none)) else (none)))) else (if c=1 then (some ((([]:List Int)),q+1)) else (if c=2 then (if 0<(x.length:Int) then (if x.length<17592186044416 then (some ((x ++ [rd x 0]),q+1)) else (none)) else (none)) else (some (x,q+1))))) r→Ev (fun k=>s1h_.f k l p (a:Nat)) r:=fun r h=>by
    unfold s1h_.f
    exact Ev.bind y1 (Ev.bind x1' (Ev.bind c1 h))
  by_cases e0:c=0
  · obtain⟨g,g1,g2,g3⟩:=spec_l6Rd_pick_ex l hb hn (q+1) 2 (by omega) (by omega)
    have g4:=g3 (by omega)
    exact⟨_,_,go _ (Ev.pos e0 (Ev.bindc rfl (Ev.bind g1 (Ev.pos g2 (Ev.pos (by simpa using g4) (Ev.pos (by omega) (Ev.const rfl))))))),by rw [List.length_set];omega⟩
  · by_cases e1:c=1
    · exact⟨_,_,go _ (Ev.neg e0 (Ev.pos e1 (Ev.const rfl))),by simp⟩
    · by_cases e2:c=2
      · exact⟨_,_,go _ (Ev.neg e0 (Ev.neg e1 (Ev.pos e2 (Ev.pos (by omega) (Ev.pos (by omega) (Ev.const rfl)))))),by simp;omega⟩
      · exact⟨_,_,go _ (Ev.neg e0 (Ev.neg e1 (Ev.neg e2 (Ev.const rfl)))),by omega⟩
theorem spec_DrawCoverConj_ex (l:List Int) (hb:Bytes l) : ∃ t f k v d b,Ev (fun n=>sw_.f n l) (t,f,k,v,d,b)∧t.length≤12∧f.length≤12∧0≤k∧k≤7∧ShortV v∧b.length≤7:=by
  obtain⟨m,h1,h2,h3⟩:=spec_l6Open_ex l hb
  obtain⟨t,f,k,v,q,r1,r2,r3,r4,r5,r6,r7,r8⟩:=spec_l92Cover_ex m h2 h3 0 (by omega) (by omega)
  obtain⟨κ,rfl⟩:=Int.eq_ofNat_of_zero_le r4
  obtain⟨d,q',d1,d2,d3⟩:=spec_l91At_ex' m h2 h3 q (t.length:Int) (by omega) (by omega)
  obtain⟨y,y1,y2,y3⟩:=spec_l6Rd_pick_ex m h2 h3 q' 16 (by omega) (by omega)
  have key : ∀ c:Bool,(c=false→1≤κ) → ∃ b,Ev (fun n=>sw_.j0 n (κ:Int) v d c m (q'+1) t f) (t,f,(κ:Int),v,d,b)∧b.length≤7:=by
    intro c hc
    cases c with
    | true =>
      obtain⟨x,z,x1,x2⟩:=spec_l91Some_ex m h2 h3 (q'+1) 4 (by omega) (by omega) (by omega) (by omega)
      refine⟨x,?_,by omega⟩
      refine Ev.step (fun n=>by rw [sw_.j0]) (Ev.pos rfl ?_)
      exact Ev.bind x1 (Ev.const rfl)
    | false =>
      obtain⟨x,z,x1,x2,x3,x4⟩:=spec_l91Perm_ex m h2 h3 (q'+1) κ (by omega) (by omega) (by omega)
      refine⟨x,?_,by have:=x2.1.1;omega⟩
      refine Ev.step (fun n=>by rw [sw_.j0]) (Ev.neg (by simp) ?_)
      exact Ev.bind x1 (Ev.const rfl)
  unfold sw_.f
  by_cases hy:y=0
  · obtain⟨b,b1,b2⟩:=key true (fun h=>by cases h)
    exact⟨t,f,κ,v,d,b,Ev.bindc h1 (Ev.bind r1 (Ev.bind d1 (Ev.bind y1 (Ev.pos hy b1)))),r2,r3,r4,r5,r6,b2⟩
  · obtain⟨b,b1,b2⟩:=key (decide ((κ:Int)<1)) (fun h=>by have:=of_decide_eq_false h;omega)
    exact⟨t,f,κ,v,d,b,Ev.bindc h1 (Ev.bind r1 (Ev.bind d1 (Ev.bind y1 (Ev.neg hy b1)))),r2,r3,r4,r5,r6,b2⟩
theorem impl_vertexOf_l1 {n : Nat} (hn : n ≤ 4194304) {t : List Int} (ht : PermL n t) {i : Nat} (hi : i < cyc n (fn t)) (r : List Int)
    (hr : ∀ o:List Int,o.length=n→(∀ x:Nat,x<n→vtx n t x<i+1→rd o (x:Int)=(vtx n t x:Int))→Ev (fun k=>io_.l0 k o (cycL n (fn t)) ((cycL n (fn t)).length:Int) ((i+1:Nat):Int)) r) :
    ∀ d j,(rdL (cycL n (fn t)) (i:Int)).length - j=d→j≤(rdL (cycL n (fn t)) (i:Int)).length → ∀ o:List Int,o.length=n→(∀ x:Nat,x<n→vtx n t x<i→rd o (x:Int)=(vtx n t x:Int))→(∀ q:Nat,q<j→rd o (rd (rdL (cycL n (fn t)) (i:Int)) (q:Int))=(i:Int)) →
      Ev (fun k=>io_.l1 k o (i:Nat) (cycL n (fn t)) ((cycL n (fn t)).length:Int) (i:Nat) (rdL (cycL n (fn t)) (i:Int)) ((rdL (cycL n (fn t)) (i:Int)).length:Int) (j:Nat)) r:=by
  have hcl:=cycL_length n (fn t)
  have hF:Face n (rdL (cycL n (fn t)) (i:Int)):=cycL_face ht.perm (by rw [hcl];exact hi)
  have hcy:=cyc_le n (fn t)
  have hH:=fun(x:Nat) (hx:x<n)=>holds_iff ht hi hx
  generalize rdL (cycL n (fn t)) (i:Int)=face at hF hH
  intro d
  induction d with
  | zero =>
    intro j hd hj o ho h1 h2
    obtain rfl:j=face.length:=by omega
    refine Ev.step (fun k=>by rw [io_.l1]) ?_
    refine Ev.neg (by omega) ?_
    rw [wrap64_id (x:=(i:Int)+1) (by omega) (by omega)]
    refine hr o ho (fun x hx hv => ?_)
    by_cases w:vtx n t x<i
    · exact h1 x hx w
    · have e:vtx n t x=i:=by omega
      obtain⟨q,q1,q2⟩:=(hH x hx).2 e
      rw [e,← h2 q q1,q2]
  | succ d ih =>
    intro j hd hj o ho h1 h2
    have hj':j<face.length:=by omega
    obtain⟨a1,a2⟩:=hF.fn hj'
    have hlen:=hF.1
    refine Ev.step (fun k=>by rw [io_.l1]) ?_
    rw [a1,wrap64_id (x:=(j:Int)+1) (by omega) (by omega)]
    simp only [Int.toNat_natCast]
    refine Ev.pos (by omega) (Ev.pos (by omega) (Ev.pos (by omega) (Ev.pos (by omega) (Ev.pos (by omega) ?_))))
    have hvx:vtx n t (fn face j)=i:=(hH _ a2).1 ⟨j,hj',a1⟩
    refine ih (j+1) (by omega) (by omega) _ (by simp [ho]) (fun x hx hv => ?_) (fun q hq => ?_)
    · have hne:fn face j≠x:=fun w=>by rw [w] at hvx;omega
      rw [rd_set_ne _ _ _ _ hne];exact h1 x hx hv
    · obtain⟨b1,b2⟩:=hF.fn (show q<face.length by omega)
      rw [b1]
      by_cases w:fn face j=fn face q
      · rw [w,rd_set_self _ _ _ (by omega)]
      · rw [rd_set_ne _ _ _ _ w]
        have hqj:q<j:=by
          by_cases z:q=j
          · subst z;exact absurd rfl w
          · omega
        have:=h2 q hqj
        rwa [b1] at this
theorem impl_vertexOf_ev {n:Nat} (hn:n≤4194304) {t f:List Int} (ht:PermL n t):Ev (fun k=>io_.f k t f) (vtxL n t):=by
  have eL : ∀ (xs:List (List Int)) (i:Int),rd_L1 xs i=rdL xs i:=fun _ _=>rfl
  have hl:=ht.1.1
  have hcl:=cycL_length n (fn t)
  have hcy:=cyc_le n (fn t)
  have key : ∀ d i,cyc n (fn t) - i=d→i≤cyc n (fn t) → ∀ o:List Int,o.length=n→(∀ x:Nat,x<n→vtx n t x<i→rd o (x:Int)=(vtx n t x:Int))→Ev (fun k=>io_.l0 k o (cycL n (fn t)) ((cycL n (fn t)).length:Int) (i:Nat)) (vtxL n t):=by
    intro d
    induction d with
    | zero =>
      intro i hd hi o ho h1
      refine Ev.step (fun k=>by rw [io_.l0]) ?_
      refine Ev.neg (by omega) (Ev.const ?_)
      congr 1
      refine list_ext_rd (by rw [ho,vtxL_length]) (fun x hx => ?_)
      have:=vtx_lt t (show x<n by omega)
      rw [h1 x (by omega) (by omega),rd_vtxL _ _ _ (by omega)]
    | succ d ih =>
      intro i hd hi o ho h1
      refine Ev.step (fun k=>by rw [io_.l0]) ?_
      refine Ev.pos (by omega) (Ev.pos (by omega) (Ev.pos (by omega) ?_))
      simp only [eL]
      exact impl_vertexOf_l1 hn ht (show i<cyc n (fn t) by omega) _ (fun o' ho' h'=>ih (i+1) (by omega) (by omega) o' ho' h') _ 0 rfl (by omega) o ho h1 (fun q hq=>absurd hq (by omega))
  unfold io_.f
  rw [hl]
  refine Ev.pos (by omega) (Ev.pos (by omega) (Ev.bind (impl_cyclesOf_ev n hn t ht) ?_))
  simp only [Int.toNat_natCast]
  exact key _ 0 rfl (by omega) _ (by simp) (fun x hx hv=>absurd hv (by omega))
theorem slices_Clone_eq (l:List Int) (h:l.length≤1048576):ss_.f l=some l:=if_pos h
theorem impl_conjAt_ev {n κ:Nat} {t f:List Int} {v:List (List Int)} (h:VN n κ t f v) {b:List Int} (hb:PermL κ b) (u:Nat):Ev (fun k=>id_.f k t f v (u:Nat) b) (conjV n t f v u b):=by
  have eL : ∀ (xs:List (List Int)) (i:Int),rd_L1 xs i=rdL xs i:=fun _ _=>rfl
  have hn:=h.n1
  have hκ:=h.k1
  have hvl:=h.vl
  have hfl:=h.fp.1.1
  have hL:=lowsL_length f n
  have hh:=h.pr.half
  have hvx:=vtxL_length n t
  have mul : ∀ {x y:List Int},PermL κ x→PermL κ y→Ev (fun k=>ij_.f k x y) (mulL x y):=fun {x y} hx hy=>impl_mul_ev x y (by have:=hx.1.1;omega) (fun i hi=>by
    have:=hx.1.2 i (by have:=hx.1.1;omega)
    have:=hy.1.1;omega)
  have key : ∀ d e,v.length - e=d→e≤v.length→Ev (fun k=>id_.l0 k v (u:Nat) b (vtxL n t) ((List.range e).map (conjE n t f v u b)) (lowsL f n) ((lowsL f n).length:Int) (e:Nat) t f) (conjV n t f v u b):=by
    intro d
    induction d with
    | zero =>
      intro e hd he
      obtain rfl:e=v.length:=by omega
      refine Ev.step (fun k=>by rw [id_.l0]) ?_
      exact Ev.neg (by omega) (Ev.const rfl)
    | succ d ih =>
      intro e hd he
      have he':e<v.length:=by omega
      obtain⟨a,a1,a2,a3,a4⟩:=lowsL_at f n e (by omega)
      have hld:ldart n f e=a:=by
        obtain⟨s1,s2,s3⟩:=ldart_spec h.pr (show e<n / 2 by omega)
        exact low_unique s2 a3 (by rw [s3,a4])
      have fa:=h.fp.1.fn a2
      have hx:=h.vp e he'
      have hxl:=hx.1.1
      have hk:=backL_perm hb
      have nx:=ih (e+1) (by omega) (by omega)
      rw [List.range_succ,List.map_append,List.map_cons,List.map_nil] at nx
      have hE:conjE n t f v u b e=if vtx n t (fn f a)=u then mulL (if vtx n t a=u then mulL (backL b) (rdL v (e:Int)) else rdL v (e:Int)) b else (if vtx n t a=u then mulL (backL b) (rdL v (e:Int)) else rdL v (e:Int)):=by unfold conjE;rw [hld]
      have olen:((List.range e).map (conjE n t f v u b)).length=e:=by simp
      refine Ev.step (fun k=>by rw [id_.l0]) ?_
      refine Ev.pos (by omega) (Ev.pos (by omega) (Ev.pos (by omega) (Ev.pos (by omega) ?_)))
      simp only [eL]
      refine Ev.bindc (slices_Clone_eq _ (by omega)) ?_
      rw [a1,rd_vtxL n t a a2,fa.1,rd_vtxL n t _ fa.2,wrap64_id (x:=(e:Int)+1) (by omega) (by omega)]
      refine Ev.pos (by omega) (Ev.pos (by omega) ?_)
      refine Ev.ite (fun q => ?_) (fun q => ?_)
      · have q':vtx n t a=u:=by omega
        rw [if_pos q'] at hE
        refine Ev.bind (impl_back_ev κ (by omega) b hb) (Ev.bind (mul hk hx) ?_)
        refine Ev.pos (by omega) (Ev.pos (by omega) (Ev.pos (by omega) (Ev.ite (fun z => ?_) (fun z => ?_))))
        · have z':vtx n t (fn f a)=u:=by omega
          rw [if_pos z'] at hE
          rw [hE] at nx
          exact Ev.bind (mul (mulL_perm hk hx) hb) (Ev.pos (by omega) nx)
        · have z' : ¬ vtx n t (fn f a)=u:=by omega
          rw [if_neg z'] at hE
          rw [hE] at nx
          exact Ev.pos (by omega) nx
      · have q' : ¬ vtx n t a=u:=by omega
        rw [if_neg q'] at hE
        refine Ev.pos (by omega) (Ev.pos (by omega) (Ev.pos (by omega) (Ev.ite (fun z => ?_) (fun z => ?_))))
        · have z':vtx n t (fn f a)=u:=by omega
          rw [if_pos z'] at hE
          rw [hE] at nx
          exact Ev.bind (mul hx hb) (Ev.pos (by omega) nx)
        · have z' : ¬ vtx n t (fn f a)=u:=by omega
          rw [if_neg z'] at hE
          rw [hE] at nx
          exact Ev.pos (by omega) nx
  unfold id_.f
  refine Ev.bind (impl_vertexOf_ev (by omega) h.tp) (Ev.bind (impl_edgesOf_ev n (by omega) t f h.fp.1) ?_)
  exact key _ 0 rfl (by omega)
theorem impl_CoverConj_ev (t f:List Int) (k:Int) (v:List (List Int)) (d:Int) (b:List Int) (hv:v.length≤1048576):Ev (fun n=>i3_.f n t f k v d b) (ccV t f k v d b):=by
  have hno : ¬ (VOK t f k v∧(0≤d∧d<(t.length:Int))∧POK b∧(b.length:Int)=k)→Ev (fun n=>i3_.j0 n v d b true t f) (ccV t f k v d b):=fun h=>by
    unfold ccV;rw [if_neg (fun w=>h (dec_iff.1 w))]
    refine Ev.step (fun n=>by rw [i3_.j0]) ?_
    exact Ev.pos rfl (Ev.const rfl)
  unfold i3_.f
  refine Ev.bind (impl_VoltageValid_ev t f k v hv) ?_
  refine Ev.ite (fun h1 => ?_) (fun h1=>hno (fun w=>h1 (dec_t w.1)))
  have hV:=dec_iff.1 h1
  obtain⟨κ,rfl,hN⟩:=hV.vn
  have hM:=hV.1
  have hz:=hM.size
  refine Ev.ite (fun h2=>hno (fun w=>by have:=w.2.1.1;omega)) (fun h2 => ?_)
  refine Ev.ite (fun h5=>hno (fun w=>by have:=w.2.1.2;omega)) (fun h5 => ?_)
  refine Ev.bindc (impl_PermValid_eq b) ?_
  refine Ev.ite (fun h3 => ?_) (fun h3=>hno (fun w=>h3 (dec_t w.2.2.1)))
  have hB:=dec_iff.1 h3
  by_cases h4:(b.length:Int)=κ
  · have eV:ccV t f κ v d b=(conjV t.length t f v (vtx t.length t d.toNat) b,true):=by unfold ccV;rw [if_pos (dec_t ⟨hV,by omega,hB,h4⟩)]
    rw [eV,show((b.length:Int) != (κ:Int))=false by simp [h4]]
    refine Ev.step (fun n=>by rw [i3_.j0]) ?_
    refine Ev.neg (by simp) ?_
    obtain⟨x,rfl⟩:=Int.eq_ofNat_of_zero_le (show 0≤d by omega)
    have hx:x<t.length:=by omega
    have hvx:=vtxL_length t.length t
    have hbp:=hB.2
    rw [show b.length=κ by omega] at hbp
    refine Ev.bind (impl_vertexOf_ev (by omega) hN.tp) (Ev.pos (by omega) (Ev.pos (by omega) ?_))
    rw [rd_vtxL _ _ _ hx]
    exact Ev.bind (impl_conjAt_ev hN hbp _) (Ev.const rfl)
  · rw [show((b.length:Int) != (κ:Int))=true by simpa using h4]
    exact hno (fun w=>h4 w.2.2.2)
theorem spec_VoltageValid_ev (t f:List Int) (k:Int) (v:List (List Int)) (ht:t.length≤1048576) (hf:f.length≤1048576) (hv:Small v):Ev (fun n=>sz_.f n t f k v) (dec (VOK t f k v)):=by
  have eL : ∀ (xs:List (List Int)) (i:Int),rd_L1 xs i=rdL xs i:=fun _ _=>rfl
  obtain⟨hl,hs⟩:=hv
  have hno : ¬ VOK t f k v→Ev (fun n=>sz_.j0 n k v true) (dec (VOK t f k v)):=fun h=>by
    rw [dec_f h]
    exact Ev.step (fun n=>by rw [sz_.j0]) (Ev.pos rfl (Ev.const rfl))
  unfold sz_.f
  refine Ev.bind (spec_MapValid_ev t f ht hf) ?_
  refine Ev.ite (fun h1 => ?_) (fun h1=>hno (fun w=>h1 (dec_t w.1)))
  have hM:=dec_iff.1 h1
  have hz:=hM.size
  refine Ev.bindc (spec_l6In_eq _ _ _) ?_
  refine Ev.ite (fun h2 => ?_) (fun h2=>hno (fun w=>h2 (decide_eq_true ⟨w.2.1.1,w.2.1.2⟩)))
  replace h2:=of_decide_eq_true h2
  have hb:0≤k*(t.length:Int)∧k*(t.length:Int)≤72:=by
    have h3:=Int.mul_le_mul h2.2 (show(t.length:Int)≤12 by omega) (by omega) (by omega)
    have h4:0≤k*(t.length:Int):=Int.mul_nonneg (by omega) (by omega)
    omega
  rw [wrap64_id (x:=k*(t.length:Int)) (by omega) (by omega)]
  refine Ev.ite (fun h3=>hno (fun w=>by have:=w.2.2.1;rw [Int.mul_comm] at this;omega)) (fun h3 => ?_)
  rw [show((f.length:Int) / 2)=((f.length / 2:Nat):Int) from rfl,wrap64_id (x:=((f.length / 2:Nat):Int)) (by omega) (by omega)]
  by_cases h4:v.length=f.length / 2
  · rw [show((v.length:Int) != ((f.length / 2:Nat):Int))=false by simp;omega]
    refine Ev.step (fun n=>by rw [sz_.j0]) ?_
    refine Ev.neg (by simp) ?_
    have key : ∀ d i,v.length - i=d→i≤v.length→(∀ e:Nat,e<i→POK (rdL v (e:Int))∧((rdL v (e:Int)).length:Int)=k)→Ev (fun n=>sz_.l0 n k v (i:Nat)) (dec (VOK t f k v)):=by
      intro d
      induction d with
      | zero =>
        intro i hd hi hq
        obtain rfl:i=v.length:=by omega
        refine Ev.step (fun n=>by rw [sz_.l0]) ?_
        refine Ev.neg (by omega) ?_
        rw [dec_t]
        · exact Ev.const rfl
        · exact⟨hM,h2,by rw [Int.mul_comm];omega,h4,hq⟩
      | succ d ih =>
        intro i hd hi hq
        have hi':i<v.length:=by omega
        refine Ev.step (fun n=>by rw [sz_.l0]) ?_
        rw [wrap64_id (x:=(i:Int)+1) (by omega) (by omega)]
        simp only [eL]
        refine Ev.pos (by omega) (Ev.pos (by omega) (Ev.bind (spec_PermValid_ev _ (hs i hi')) ?_))
        refine Ev.ite (fun q1 => ?_) (fun q1 => ?_)
        · refine Ev.ite (fun q2 => ?_) (fun q2 => ?_)
          · refine ih (i+1) (by omega) (by omega) (fun e he => ?_)
            by_cases z:e=i
            · subst z;exact⟨dec_iff.1 q1,q2⟩
            · exact hq e (by omega)
          · rw [dec_f (fun w=>q2 (w.2.2.2.2 i hi').2)];exact Ev.const rfl
        · rw [dec_f (fun w=>q1 (dec_t (w.2.2.2.2 i hi').1))];exact Ev.const rfl
    exact key v.length 0 (by omega) (by omega) (fun e he=>by omega)
  · rw [show((v.length:Int) != ((f.length / 2:Nat):Int))=true by simp;omega]
    exact hno (fun w=>h4 w.2.2.2.1)
theorem spec_l2Dart_ev (t f:List Int) (d:Int) (h:MOK t f) (ht:t.length≤12) (h1:1≤t.length) (hf:f.length≤12):Ev (fun k=>s17_.f k t f d) (decide (0≤d∧d<(t.length:Int))):=by
  unfold s17_.f
  refine Ev.bind (spec_MapValid_ev t f (by omega) (by omega)) ?_
  refine Ev.pos (dec_t h) ?_
  rw [wrap64_id (by omega) (by omega)]
  refine Ev.bindc (spec_l6In_eq _ _ _) (Ev.const ?_)
  congr 1
  rw [decide_eq_decide]
  omega
theorem spec_l1Mul_ev (a b:List Int) (hn:a.length≤4194304) (h : ∀ i:Nat,i<a.length→0≤rd a (i:Int)∧rd a (i:Int)<b.length):Ev (fun k=>s13_.f k a b) (mulL a b):=by
  have key : ∀ d i,a.length - i=d→i≤a.length→Ev (fun k=>s13_.l0 k a b ((mulL a b).take i) (i:Nat)) (mulL a b):=by
    intro d
    induction d with
    | zero =>
      intro i hd hi
      refine Ev.step (fun k=>by rw [s13_.l0]) (Ev.neg (by omega) (Ev.const ?_))
      rw [List.take_of_length_le (by rw [mulL_length];omega)]
    | succ d ih =>
      intro i hd hi
      have e1:=h i (by omega)
      have hz:((mulL a b).take i).length≤a.length:=by rw [List.length_take,mulL_length];omega
      refine Ev.step (fun k=>by rw [s13_.l0]) ?_
      rw [wrap64_id (x:=(i:Int)+1) (by omega) (by omega)]
      refine Ev.pos (by omega) (Ev.pos (by omega) (Ev.pos (by omega) (Ev.pos (by omega) (Ev.pos (by omega) ?_))))
      have:=ih (i+1) (by omega) (by omega)
      rw [List.take_succ_eq_append_getElem (by rw [mulL_length];omega),← rd_nat (mulL a b) i (by rw [mulL_length];omega),rd_mulL a b i (by omega)] at this
      exact this
  unfold s13_.f
  have:=key a.length 0 (by omega) (by omega)
  exact this
theorem spec_l1Cycles_l1 {n : Nat} (hn : n ≤ 4194304) {p : List Int} (hp : PermL n p) {i : Nat} (hi : i < n) (hl : lstB (EF n (fn p)) i = true) (out : List (List Int)) (hout : out.length ≤ i) (r : List (List Int))
    (hr : ∀ b,SeenAt n (fn p) (i+1) b→Ev (fun k=>s12_.l0 k p (out ++ [cycOf (fn p) i]) b (i+1:Nat)) r) :
    ∀ d t,per (fn p) i - t=d→t≤per (fn p) i → ∀ b,SeenIn n (fn p) i t b→Ev (fun k=>s12_.l1 k p out b (i:Nat) ((List.range t).map (fun k=>(itr (fn p) k i:Int))) (itr (fn p) t i:Int)) r:=by
  have hpm:=hp.perm
  obtain⟨q1,q2,q3,q4⟩:=per_spec hpm hi
  intro d
  induction d with
  | zero =>
    intro t hd ht b hb
    obtain rfl:t=per (fn p) i:=by omega
    obtain⟨c1,c2⟩:=hb.closed hpm hi
    have hlt:=itr_lt hpm hi (per (fn p) i)
    have hbl:=hb.1
    refine Ev.step (fun k=>by rw [s12_.l1]) ?_
    rw [wrap64_id (x:=(i:Int)+1) (by omega) (by omega)]
    refine Ev.pos (by omega) (Ev.pos (by omega) (Ev.pos c1 (Ev.pos (by omega) ?_)))
    exact hr b c2
  | succ d ih =>
    intro t hd ht b hb
    have hlt:=itr_lt hpm hi t
    have hf:=hb.fresh hpm hi hl (by omega)
    have hbl:=hb.1
    have hpl:=hp.1.1
    refine Ev.step (fun k=>by rw [s12_.l1]) ?_
    refine Ev.pos (by omega) (Ev.pos (by omega) (Ev.neg (by rw [hf];simp) (Ev.pos (by simp;omega) (Ev.pos (by omega) ?_))))
    rw [(hp.1.fn hlt).1,← cycOf_take]
    exact ih (t+1) (by omega) (by omega) _ (hb.next hpm hi)
theorem spec_l1Cycles_ev (n:Nat) (hn:n≤4194304) (p:List Int) (hp:PermL n p):Ev (fun k=>s12_.f k p) (cycL n (fn p)):=by
  have hpm:=hp.perm
  have hpl:=hp.1.1
  have key : ∀ d i,n - i=d→i≤n → ∀ b,SeenAt n (fn p) i b→Ev (fun k=>s12_.l0 k p (cycUp n (fn p) i) b (i:Nat)) (cycL n (fn p)):=by
    intro d
    induction d with
    | zero =>
      intro i hd hi b hb
      obtain rfl:i=n:=by omega
      refine Ev.step (fun k=>by rw [s12_.l0]) ?_
      exact Ev.neg (by omega) (Ev.const rfl)
    | succ d ih =>
      intro i hd hi b hb
      have hi':i<n:=by omega
      have hbl:=hb.1
      have hls:=hb.least hi'
      refine Ev.step (fun k=>by rw [s12_.l0]) ?_
      rw [wrap64_id (x:=(i:Int)+1) (by omega) (by omega)]
      refine Ev.pos (by omega) (Ev.pos (by omega) (Ev.pos (by omega) ?_))
      cases q:rdOf false b (i:Int) with
      | true =>
        rw [q] at hls
        refine Ev.pos rfl ?_
        have:=ih (i+1) (by omega) (by omega) b (hb.skip hi' q)
        rw [cycUp_neg hls] at this
        exact this
      | false =>
        rw [q] at hls
        refine Ev.neg (by simp) ?_
        refine spec_l1Cycles_l1 hn hp hi' hls (cycUp n (fn p) i) (cycUp_length_le _ _ _) _ (fun b' hb' => ?_) (per (fn p) i) 0 (by omega) (by omega) b hb.into
        have:=ih (i+1) (by omega) (by omega) b' hb'
        rw [cycUp_pos hls] at this
        exact this
  unfold s12_.f
  rw [hpl]
  refine Ev.pos (by omega) (Ev.pos (by omega) ?_)
  exact key n 0 (by omega) (by omega) _ (SeenAt.start n _)
theorem spec_l7Vertices_l1 {n : Nat} (hn : n ≤ 4194304) {t : List Int} (ht : PermL n t) {i : Nat} (hi : i < cyc n (fn t)) (r : List Int)
    (hr : ∀ o:List Int,o.length=n→(∀ x:Nat,x<n→vtx n t x<i+1→rd o (x:Int)=(vtx n t x:Int))→Ev (fun k=>s1d_.l0 k o (cycL n (fn t)) ((i+1:Nat):Int)) r) :
    ∀ d j,(rdL (cycL n (fn t)) (i:Int)).length - j=d→j≤(rdL (cycL n (fn t)) (i:Int)).length → ∀ o:List Int,o.length=n→(∀ x:Nat,x<n→vtx n t x<i→rd o (x:Int)=(vtx n t x:Int))→(∀ q:Nat,q<j→rd o (rd (rdL (cycL n (fn t)) (i:Int)) (q:Int))=(i:Int)) →
      Ev (fun k=>s1d_.l1 k o (cycL n (fn t)) (i:Nat) (j:Nat)) r:=by
  have eL : ∀ (xs:List (List Int)) (i:Int),rd_L1 xs i=rdL xs i:=fun _ _=>rfl
  have hcl:=cycL_length n (fn t)
  have hF:Face n (rdL (cycL n (fn t)) (i:Int)):=cycL_face ht.perm (by rw [hcl];exact hi)
  have hcy:=cyc_le n (fn t)
  have hH:=fun(x:Nat) (hx:x<n)=>holds_iff ht hi hx
  intro d
  induction d with
  | zero =>
    intro j hd hj o ho h1 h2
    refine Ev.step (fun k=>by rw [s1d_.l1]) ?_
    simp only [eL]
    refine Ev.pos (by omega) (Ev.pos (by omega) (Ev.neg (by omega) ?_))
    rw [wrap64_id (x:=(i:Int)+1) (by omega) (by omega)]
    refine hr o ho (fun x hx hv => ?_)
    by_cases w:vtx n t x<i
    · exact h1 x hx w
    · have e:vtx n t x=i:=by omega
      obtain⟨q,q1,q2⟩:=(hH x hx).2 e
      rw [e,← h2 q (by omega),q2]
  | succ d ih =>
    intro j hd hj o ho h1 h2
    have hj':j<(rdL (cycL n (fn t)) (i:Int)).length:=by omega
    obtain⟨a1,a2⟩:=hF.fn hj'
    have hlen:=hF.1
    refine Ev.step (fun k=>by rw [s1d_.l1]) ?_
    simp only [eL]
    rw [a1,wrap64_id (x:=(j:Int)+1) (by omega) (by omega)]
    simp only [Int.toNat_natCast]
    refine Ev.pos (by omega) (Ev.pos (by omega) (Ev.pos (by omega) (Ev.pos (by omega) (Ev.pos (by omega) (Ev.pos (by omega) ?_)))))
    have hvx:vtx n t (fn (rdL (cycL n (fn t)) (i:Int)) j)=i:=(hH _ a2).1 ⟨j,hj',a1⟩
    refine ih (j+1) (by omega) (by omega) _ (by simp [ho]) (fun x hx hv => ?_) (fun q hq => ?_)
    · have hne:fn (rdL (cycL n (fn t)) (i:Int)) j≠x:=fun w=>by rw [w] at hvx;omega
      rw [rd_set_ne _ _ _ _ hne];exact h1 x hx hv
    · obtain⟨b1,b2⟩:=hF.fn (show q<(rdL (cycL n (fn t)) (i:Int)).length by omega)
      rw [b1]
      by_cases w:fn (rdL (cycL n (fn t)) (i:Int)) j=fn (rdL (cycL n (fn t)) (i:Int)) q
      · rw [w,rd_set_self _ _ _ (by omega)]
      · rw [rd_set_ne _ _ _ _ w]
        have hqj:q<j:=by
          by_cases z:q=j
          · subst z;exact absurd rfl w
          · omega
        have:=h2 q hqj
        rwa [b1] at this
theorem spec_l7Vertices_ev {n:Nat} (hn:n≤4194304) {t:List Int} (ht:PermL n t):Ev (fun k=>s1d_.f k t) (vtxL n t):=by
  have hl:=ht.1.1
  have hcl:=cycL_length n (fn t)
  have hcy:=cyc_le n (fn t)
  have key : ∀ d i,cyc n (fn t) - i=d→i≤cyc n (fn t) → ∀ o:List Int,o.length=n→(∀ x:Nat,x<n→vtx n t x<i→rd o (x:Int)=(vtx n t x:Int))→Ev (fun k=>s1d_.l0 k o (cycL n (fn t)) (i:Nat)) (vtxL n t):=by
    intro d
    induction d with
    | zero =>
      intro i hd hi o ho h1
      refine Ev.step (fun k=>by rw [s1d_.l0]) ?_
      refine Ev.neg (by omega) (Ev.const ?_)
      congr 1
      refine list_ext_rd (by rw [ho,vtxL_length]) (fun x hx => ?_)
      have:=vtx_lt t (show x<n by omega)
      rw [h1 x (by omega) (by omega),rd_vtxL _ _ _ (by omega)]
    | succ d ih =>
      intro i hd hi o ho h1
      refine Ev.step (fun k=>by rw [s1d_.l0]) ?_
      refine Ev.pos (by omega) ?_
      exact spec_l7Vertices_l1 hn ht (show i<cyc n (fn t) by omega) _ (fun o' ho' h'=>ih (i+1) (by omega) (by omega) o' ho' h') _ 0 rfl (by omega) o ho h1 (fun q hq=>absurd hq (by omega))
  unfold s1d_.f
  rw [hl]
  refine Ev.pos (by omega) (Ev.pos (by omega) (Ev.bind (spec_l1Cycles_ev n hn t ht) ?_))
  simp only [Int.toNat_natCast]
  exact key _ 0 rfl (by omega) _ (by simp) (fun x hx hv=>absurd hv (by omega))
theorem back_ext {n:Nat} {p x:List Int} (hp:PermL n p) (hx:x.length=n) (hq : ∀ q:Nat,q<n→rd x (fn p q:Int)=(q:Int)):x=backL p:=by
  have h:=hp.perm
  refine list_ext_rd (by rw [hx,backL_length,hp.1.1]) (fun j hj => ?_)
  rw [rd_backL p j (by rw [hp.1.1];omega),hp.1.1]
  have:=hq (bck n (fn p) j) (h.gl j (by omega))
  rw [h.fg j (by omega)] at this
  exact this
theorem back_set {n:Nat} {p x:List Int} (hp:PermL n p) (hx:x.length=n) {i:Nat} (hi:i<n) (hq : ∀ q:Nat,q<i→rd x (fn p q:Int)=(q:Int)) : ∀ q:Nat,q<i+1→rd (x.set (fn p i) (i:Int)) (fn p q:Int)=(q:Int):=by
  intro q hqi
  by_cases e:q=i
  · subst e;exact rd_set_self _ _ _ (by rw [hx];exact(hp.1.fn hi).2)
  · rw [rd_set_ne _ _ _ _ (fun w=>e (hp.2 q i (by omega) hi w.symm))];exact hq q (by omega)
theorem spec_l1Back_ev (n:Nat) (hn:n≤4194304) (p:List Int) (hp:PermL n p):Ev (fun k=>s10_.f k p) (backL p):=by
  have hl:=hp.1.1
  have key : ∀ d i,n - i=d→i≤n → ∀ x:List Int,x.length=n→(∀ q:Nat,q<i→rd x (fn p q:Int)=(q:Int))→Ev (fun k=>s10_.l0 k p x (i:Nat)) (backL p):=by
    intro d
    induction d with
    | zero =>
      intro i hd hi x hx hq
      refine Ev.step (fun k=>by rw [s10_.l0]) ?_
      refine Ev.neg (by omega) (Ev.const ?_)
      rw [back_ext hp hx (fun q hq'=>hq q (by omega))]
    | succ d ih =>
      intro i hd hi x hx hq
      have e1:=hp.1.fn (show i<n by omega)
      refine Ev.step (fun k=>by rw [s10_.l0]) ?_
      rw [e1.1,wrap64_id (x:=(i:Int)+1) (by omega) (by omega)]
      simp only [toNat_nat]
      refine Ev.pos (by omega) (Ev.pos (by omega) (Ev.pos (by omega) (Ev.pos (by omega) ?_)))
      exact ih (i+1) (by omega) (by omega) _ (by simp [hx]) (back_set hp hx (by omega) hq)
  unfold s10_.f
  rw [hl]
  refine Ev.pos (by omega) (Ev.pos (by omega) ?_)
  exact key n 0 (by omega) (by omega) _ (by simp) (fun q hq=>by omega)
theorem spec_l2Copy_eq (l:List Int) (h:l.length≤1048576):s16_.f l=some l:=by
  unfold s16_.f
  simp only [Option.bind_some,List.length_nil,List.nil_append]
  exact if_pos (by omega)
theorem spec_l7Edges_ev (n:Nat) (hn:n≤4194304) (t f:List Int) (hf:PairL n f):Ev (fun k=>s1c_.f k t f) (edgL f):=by
  have hl:=hf.pts.1
  have key : ∀ d i,n - i=d→i≤n → ∀ x:List Int,x.length=n→(∀ j:Nat,j<n→(j<i∨fn f j<i)→rd x (j:Int)=edgeN f j)→Ev (fun k=>s1c_.l0 k x (cntP (lowD f) i:Nat) (i:Nat) t f) (edgL f):=by
    intro d
    induction d with
    | zero =>
      intro i hd hi x hx hq
      refine Ev.step (fun k=>by rw [s1c_.l0]) ?_
      refine Ev.neg (by omega) (Ev.const ?_)
      congr 1
      refine list_ext_rd (by rw [hx,edgL_length,hl]) (fun j hj => ?_)
      rw [hq j (by omega) (.inl (by omega)),rd_edgL f j (by omega)]
    | succ d ih =>
      intro i hd hi x hx hq
      have hi':i<n:=by omega
      have e1:=hf.pts.fn hi'
      have hc:=cntP_le (lowD f) i
      refine Ev.step (fun k=>by rw [s1c_.l0]) ?_
      rw [e1.1,wrap64_id (x:=(i:Int)+1) (by omega) (by omega),wrap64_id (x:=((cntP (lowD f) i:Nat):Int)+1) (by omega) (by omega)]
      simp only [toNat_nat]
      refine Ev.pos (by omega) (Ev.pos (by omega) (Ev.pos (by omega) ?_))
      refine Ev.ite (fun q => ?_) (fun q => ?_)
      · have hlow:lowD f i=true:=decide_eq_true (by omega)
        obtain⟨g1,g2⟩:=hf.edge_of hi' hlow
        refine Ev.pos (by omega) (Ev.pos (by omega) ?_)
        have:=ih (i+1) (by omega) (by omega) ((x.set i (cntP (lowD f) i:Int)).set (fn f i) (cntP (lowD f) i:Int)) (by simp [hx]) (fun j hj hjs=>by
          by_cases a:j=fn f i
          · subst a
            rw [rd_set_self _ _ _ (by simp [hx];omega),g2]
          · rw [rd_set_ne _ _ _ _ (fun w=>a w.symm)]
            by_cases b:j=i
            · subst b
              rw [rd_set_self _ _ _ (by omega),g1]
            · rw [rd_set_ne _ _ _ _ (fun w=>b w.symm)]
              refine hq j hj ?_
              rcases hjs with c|c
              · exact .inl (by omega)
              · refine .inr ?_
                by_cases z:fn f j=i
                · exact absurd (by rw [← hf.inv j hj,z]) a
                · omega)
        have ec:cntP (lowD f) (i+1)=cntP (lowD f) i+1:=by simp only [cntP];rw [if_pos hlow]
        rw [ec] at this
        exact this
      · have hlow:lowD f i=false:=decide_eq_false (by omega)
        have:=ih (i+1) (by omega) (by omega) x hx (fun j hj hjs=>by
          have hne:=hf.ne i hi'
          rcases hjs with c|c
          · by_cases z:j=i
            · subst z;exact hq j hj (.inr (by omega))
            · exact hq j hj (.inl (by omega))
          · by_cases z:fn f j=i
            · have:j=fn f i:=by rw [← hf.inv j hj,z]
              exact hq j hj (.inl (by omega))
            · exact hq j hj (.inr (by omega)))
        have ec:cntP (lowD f) (i+1)=cntP (lowD f) i:=by simp only [cntP];rw [if_neg (by rw [hlow];simp)];rfl
        rw [ec] at this
        exact this
  unfold s1c_.f
  rw [hl]
  refine Ev.pos (by omega) (Ev.pos (by omega) ?_)
  exact key n 0 (by omega) (by omega) _ (by simp) (fun j hj hjs=>by rcases hjs with c|c <;> omega)
theorem spec_l7Dart_ev {n:Nat} (hn:n≤4194304) {t f:List Int} (hf:PairL n f) {e:Nat} (he:e<n / 2):Ev (fun k=>s1b_.f k t f (e:Nat)) (ldart n f e:Int):=by
  obtain⟨s1,s2,s3⟩:=ldart_spec hf he
  have hl:=hf.pts.1
  have hel:=edgL_length f
  have key : ∀ d i,ldart n f e - i=d→i≤ldart n f e→Ev (fun k=>s1b_.l0 k (e:Nat) (edgL f) (i:Nat)) (ldart n f e:Int):=by
    intro d
    induction d with
    | zero =>
      intro i hd hi
      obtain rfl:i=ldart n f e:=by omega
      refine Ev.step (fun k=>by rw [s1b_.l0]) ?_
      rw [rd_edgL f _ (by omega),(hf.edge_of s1 s2).1,s3]
      exact Ev.pos (by omega) (Ev.pos (by omega) (Ev.pos rfl (Ev.const rfl)))
    | succ d ih =>
      intro i hd hi
      refine Ev.step (fun k=>by rw [s1b_.l0]) ?_
      rw [rd_edgL f _ (by omega),wrap64_id (x:=(i:Int)+1) (by omega) (by omega)]
      refine Ev.pos (by omega) (Ev.pos (by omega) (Ev.neg (fun w => ?_) (ih (i+1) (by omega) (by omega))))
      obtain⟨a,a1,a2,a3,a4⟩:=hf.low (show i<n by omega)
      have ea:a=ldart n f e:=low_unique a2 s2 (by rw [← a3,s3];omega)
      subst ea
      have:ldart n f e<fn f (ldart n f e):=of_decide_eq_true s2
      omega
  unfold s1b_.f
  refine Ev.bind (spec_l7Edges_ev n hn t f hf) ?_
  exact key _ 0 rfl (by omega)
theorem spec_l9Conj_ev {n κ:Nat} {t f:List Int} {v:List (List Int)} (h:VN n κ t f v) {b:List Int} (hb:PermL κ b) (u:Nat):Ev (fun k=>s1j_.f k t f v (u:Nat) b) (conjV n t f v u b):=by
  have eL : ∀ (xs:List (List Int)) (i:Int),rd_L1 xs i=rdL xs i:=fun _ _=>rfl
  have hn:=h.n1
  have hκ:=h.k1
  have hvl:=h.vl
  have hfl:=h.fp.1.1
  have hvx:=vtxL_length n t
  have mul : ∀ {x y:List Int},PermL κ x→PermL κ y→Ev (fun k=>s13_.f k x y) (mulL x y):=fun {x y} hx hy=>spec_l1Mul_ev x y (by have:=hx.1.1;omega) (fun i hi=>by
    have:=hx.1.2 i (by have:=hx.1.1;omega)
    have:=hy.1.1;omega)
  have cp : ∀ {x:List Int},PermL κ x→s16_.f x=some x:=fun {x} hx=>spec_l2Copy_eq x (by have:=hx.1.1;omega)
  have key : ∀ d e,v.length - e=d→e≤v.length→Ev (fun k=>s1j_.l0 k v (u:Nat) b (vtxL n t) ((List.range e).map (conjE n t f v u b)) (e:Nat) t f) (conjV n t f v u b):=by
    intro d
    induction d with
    | zero =>
      intro e hd he
      obtain rfl:e=v.length:=by omega
      refine Ev.step (fun k=>by rw [s1j_.l0]) ?_
      exact Ev.neg (by omega) (Ev.const rfl)
    | succ d ih =>
      intro e hd he
      have he':e<v.length:=by omega
      obtain⟨a2,a3,a4⟩:=ldart_spec h.pr (show e<n / 2 by omega)
      have fa:=h.fp.1.fn a2
      have hx:=h.vp e he'
      have hk:=backL_perm hb
      have nx:=ih (e+1) (by omega) (by omega)
      rw [List.range_succ,List.map_append,List.map_cons,List.map_nil] at nx
      have hE:conjE n t f v u b e=if vtx n t (fn f (ldart n f e))=u then mulL (if vtx n t (ldart n f e)=u then mulL (backL b) (rdL v (e:Int)) else rdL v (e:Int)) b else (if vtx n t (ldart n f e)=u then mulL (backL b) (rdL v (e:Int)) else rdL v (e:Int)):=rfl
      have olen:((List.range e).map (conjE n t f v u b)).length=e:=by simp
      refine Ev.step (fun k=>by rw [s1j_.l0]) ?_
      refine Ev.pos (by omega) (Ev.bind (spec_l7Dart_ev (by omega) h.pr (show e<n / 2 by omega)) ?_)
      simp only [eL]
      rw [rd_vtxL n t _ a2,fa.1,rd_vtxL n t _ fa.2,wrap64_id (x:=(e:Int)+1) (by omega) (by omega)]
      refine Ev.pos (by omega) (Ev.pos (by omega) (Ev.pos (by omega) ?_))
      refine Ev.ite (fun q => ?_) (fun q => ?_)
      · have q':vtx n t (ldart n f e)=u:=by omega
        rw [if_pos q'] at hE
        refine Ev.bind (spec_l1Back_ev κ (by omega) b hb) (Ev.bind (mul hk hx) ?_)
        refine Ev.pos (by omega) (Ev.pos (by omega) (Ev.pos (by omega) (Ev.ite (fun z => ?_) (fun z => ?_))))
        · have z':vtx n t (fn f (ldart n f e))=u:=by omega
          rw [if_pos z'] at hE
          rw [hE] at nx
          exact Ev.bind (mul (mulL_perm hk hx) hb) (Ev.bindc (cp (mulL_perm (mulL_perm hk hx) hb)) (Ev.pos (by omega) nx))
        · have z' : ¬ vtx n t (fn f (ldart n f e))=u:=by omega
          rw [if_neg z'] at hE
          rw [hE] at nx
          exact Ev.bindc (cp (mulL_perm hk hx)) (Ev.pos (by omega) nx)
      · have q' : ¬ vtx n t (ldart n f e)=u:=by omega
        rw [if_neg q'] at hE
        refine Ev.pos (by omega) (Ev.pos (by omega) (Ev.pos (by omega) (Ev.ite (fun z => ?_) (fun z => ?_))))
        · have z':vtx n t (fn f (ldart n f e))=u:=by omega
          rw [if_pos z'] at hE
          rw [hE] at nx
          exact Ev.bind (mul hx hb) (Ev.bindc (cp (mulL_perm hx hb)) (Ev.pos (by omega) nx))
        · have z' : ¬ vtx n t (fn f (ldart n f e))=u:=by omega
          rw [if_neg z'] at hE
          rw [hE] at nx
          exact Ev.bindc (cp hx) (Ev.pos (by omega) nx)
  unfold s1j_.f
  refine Ev.bind (spec_l7Vertices_ev (by omega) h.tp) ?_
  exact key _ 0 rfl (by omega)
theorem spec_CoverConj_ev (t f:List Int) (k:Int) (v:List (List Int)) (d:Int) (b:List Int) (ht:t.length≤1048576) (hf:f.length≤1048576) (hv:Small v) (hb:b.length≤1048576):Ev (fun n=>sv_.f n t f k v d b) (ccV t f k v d b):=by
  have hno : ¬ (VOK t f k v∧(0≤d∧d<(t.length:Int))∧POK b∧(b.length:Int)=k)→Ev (fun n=>sv_.j0 n v d b true t f) (ccV t f k v d b):=fun h=>by
    unfold ccV;rw [if_neg (fun w=>h (dec_iff.1 w))]
    refine Ev.step (fun n=>by rw [sv_.j0]) ?_
    exact Ev.pos rfl (Ev.const rfl)
  unfold sv_.f
  refine Ev.bind (spec_VoltageValid_ev t f k v ht hf hv) ?_
  refine Ev.ite (fun h1 => ?_) (fun h1=>hno (fun w=>h1 (dec_t w.1)))
  have hV:=dec_iff.1 h1
  obtain⟨κ,rfl,hN⟩:=hV.vn
  have hM:=hV.1
  have hz:=hM.size
  refine Ev.bind (spec_l2Dart_ev t f d hM (by omega) (by omega) (by omega)) ?_
  refine Ev.ite (fun h2 => ?_) (fun h2=>hno (fun w=>h2 (decide_eq_true w.2.1)))
  have hd:=of_decide_eq_true h2
  refine Ev.bind (spec_PermValid_ev b hb) ?_
  refine Ev.ite (fun h3 => ?_) (fun h3=>hno (fun w=>h3 (dec_t w.2.2.1)))
  have hB:=dec_iff.1 h3
  by_cases h4:(b.length:Int)=κ
  · have eV:ccV t f κ v d b=(conjV t.length t f v (vtx t.length t d.toNat) b,true):=by unfold ccV;rw [if_pos (dec_t ⟨hV,hd,hB,h4⟩)]
    rw [eV,show((b.length:Int) != (κ:Int))=false by simp [h4]]
    refine Ev.step (fun n=>by rw [sv_.j0]) ?_
    refine Ev.neg (by simp) ?_
    obtain⟨x,rfl⟩:=Int.eq_ofNat_of_zero_le hd.1
    have hx:x<t.length:=by omega
    have hvx:=vtxL_length t.length t
    have hbp:=hB.2
    rw [show b.length=κ by omega] at hbp
    refine Ev.bind (spec_l7Vertices_ev (by omega) hN.tp) (Ev.pos (by omega) (Ev.pos (by omega) ?_))
    rw [rd_vtxL _ _ _ hx]
    exact Ev.bind (spec_l9Conj_ev hN hbp _) (Ev.const rfl)
  · rw [show((b.length:Int) != (κ:Int))=true by simpa using h4]
    exact hno (fun w=>h4 w.2.2.2)
theorem laws_sameInts_ev (l m:List Int) (hl:l.length≤4611686018427387904):Ev (fun k=>lq_.f k l m) (decide (l=m)):=by
  unfold lq_.f
  refine Ev.ite (fun h => ?_) (fun h=>Ev.const ?_)
  · have h':l.length=m.length:=by omega
    have key : ∀ d i,l.length - i=d→i≤l.length→(∀ q:Nat,q<i→rd l (q:Int)=rd m (q:Int))→Ev (fun k=>lq_.l0 k l m (i:Nat)) (decide (l=m)):=by
      intro d
      induction d with
      | zero =>
        intro i hd hi hq
        refine Ev.step (fun k=>by rw [lq_.l0]) (Ev.neg (by omega) (Ev.const ?_))
        rw [decide_eq_true (list_ext_rd h' (fun q hq'=>hq q (by omega)))]
      | succ d ih =>
        intro i hd hi hq
        refine Ev.step (fun k=>by rw [lq_.l0]) (Ev.pos (by omega) (Ev.pos (by omega) (Ev.pos (by omega) (Ev.ite (fun e => ?_) (fun e=>Ev.const ?_)))))
        · rw [wrap64_id (by omega) (by omega)]
          exact ih (i+1) (by omega) (by omega) (fun q hqi=>by
            by_cases eq:q=i
            · subst eq;exact e
            · exact hq q (by omega))
        · rw [decide_eq_false]
          intro w;subst w;exact e rfl
    exact key l.length 0 (by omega) (by omega) (fun q hq=>by omega)
  · rw [decide_eq_false]
    intro w;subst w;exact h rfl
theorem laws_sameLists_same (v:List (List Int)) (hv:Small v):Ev (fun k=>lr_.f k v v) true:=by
  have eL : ∀ (xs:List (List Int)) (i:Int),rd_L1 xs i=rdL xs i:=fun _ _=>rfl
  have hl:=hv.1
  have key : ∀ d i,v.length - i=d→i≤v.length→Ev (fun k=>lr_.l0 k v v (i:Nat)) true:=by
    intro d
    induction d with
    | zero =>
      intro i hd hi
      refine Ev.step (fun k=>by rw [lr_.l0]) ?_
      exact Ev.neg (by omega) (Ev.const rfl)
    | succ d ih =>
      intro i hd hi
      have hi':i<v.length:=by omega
      refine Ev.step (fun k=>by rw [lr_.l0]) ?_
      refine Ev.pos (by omega) (Ev.pos (by omega) (Ev.pos (by omega) ?_))
      simp only [eL]
      have sm:=laws_sameInts_ev (rdL v (i:Int)) (rdL v (i:Int)) (by have:=hv.2 i hi';omega)
      rw [decide_eq_true rfl] at sm
      refine Ev.bind sm (Ev.pos rfl ?_)
      rw [wrap64_id (x:=(i:Int)+1) (by omega) (by omega)]
      exact ih (i+1) (by omega) (by omega)
  unfold lr_.f
  exact Ev.pos rfl (key _ 0 rfl (by omega))
theorem impl_PermBack_ok {p:List Int} (h:POK p):Ev (fun k=>i7_.f k p) (backL p,true):=by
  unfold i7_.f
  exact Ev.bindc (impl_PermValid_eq p) (Ev.pos (dec_t h) (Ev.bind (impl_back_ev p.length (by have:=h.1.2;omega) p h.2) (Ev.const rfl)))
theorem cmp_isNaN_eq (a:Int):c1_.f a=some false:=by unfold c1_.f;simp
theorem cmp_Compare_eq (a b:Int):c0_.f a b=some (if a<b then -1 else if a>b then 1 else 0):=by
  unfold c0_.f
  rw [cmp_isNaN_eq,Option.bind_some,cmp_isNaN_eq,Option.bind_some,if_neg (by decide),if_neg (by decide)]
  by_cases h:a<b
  · rw [if_pos h,if_pos h]
  · rw [if_neg h,if_neg h]
    by_cases h2:a>b
    · rw [if_pos h2,if_pos h2]
    · rw [if_neg h2,if_neg h2]
theorem slices_Compare_val (l m:List Int) (hl:l.length≤4611686018427387904) (h':l.length=m.length):Ev (fun k=>st_.f k l m) (lexC l m):=by
  have key : ∀ d i,l.length - i=d→i≤l.length→Ev (fun k=>st_.l0 k l m l (l.length:Int) (i:Nat)) (lexC (l.drop i) (m.drop i)):=by
    intro d
    induction d with
    | zero =>
      intro i hd hi
      obtain rfl:i=l.length:=by omega
      rw [List.drop_length]
      exact Ev.step (fun k=>by rw [st_.l0]) (Ev.neg (by omega) (Ev.neg (by omega) (Ev.const (by unfold lexC;rfl))))
    | succ d ih =>
      intro i hd hi
      have hi1:i<l.length:=by omega
      have hi2:i<m.length:=by omega
      rw [List.drop_eq_getElem_cons hi1,List.drop_eq_getElem_cons hi2,← rd_nat l i hi1,← rd_nat m i hi2]
      have ih:=ih (i+1) (by omega) (by omega)
      refine Ev.step (fun k=>by rw [st_.l0]) (Ev.pos (by omega) (Ev.pos (by omega) (Ev.pos (by omega) (Ev.neg (by omega) (Ev.pos (by omega) ?_)))))
      refine Ev.bindc (cmp_Compare_eq _ _) ?_
      rw [wrap64_id (x:=(i:Int)+1) (by omega) (by omega)]
      unfold lexC
      by_cases e1:rd l (i:Int)<rd m (i:Int)
      · rw [if_pos e1,if_pos e1];exact Ev.neg (by decide) (Ev.const rfl)
      · by_cases e2:rd l (i:Int)>rd m (i:Int)
        · rw [if_neg e1,if_pos e2,if_neg e1,if_pos e2];exact Ev.neg (by decide) (Ev.const rfl)
        · rw [if_neg e1,if_neg e2,if_neg e1,if_neg e2];exact Ev.pos rfl ih
  unfold st_.f
  exact key l.length 0 (by omega) (by omega)
theorem slices_Compare_ev (l m:List Int) (hl:l.length≤4611686018427387904) (h':l.length=m.length) : ∃ r:Int,Ev (fun k=>st_.f k l m) r∧(r=0↔l=m) :=
  ⟨lexC l m,slices_Compare_val l m hl h',lexC_eq h',fun e=>by rw [e];exact lexC_self _⟩
theorem impl_compareMaps_val (a b c d:List Int) (h1:a.length≤4194304) (h2:a.length=c.length) (h3:b.length≤4194304) (h4:b.length=d.length):Ev (fun k=>ic_.f k a b c d) (cmpM (a,b) (c,d)):=by
  unfold ic_.f cmpM
  refine Ev.bind (slices_Compare_val a c (by omega) h2) ?_
  by_cases e:lexC a c=0
  · rw [if_pos e];exact Ev.pos e (Ev.bind (slices_Compare_val b d (by omega) h4) (Ev.const rfl))
  · rw [if_neg e];exact Ev.neg e (Ev.const rfl)
theorem impl_compareMaps_ev (a b c d:List Int) (h1:a.length≤4194304) (h2:a.length=c.length) (h3:b.length≤4194304) (h4:b.length=d.length) : ∃ r:Int,Ev (fun k=>ic_.f k a b c d) r∧(r=0↔a=c∧b=d):=by
  refine⟨_,impl_compareMaps_val a b c d h1 h2 h3 h4,fun w => ?_,fun w => ?_⟩
  · unfold cmpM at w
    by_cases e:lexC a c=0
    · rw [if_pos e] at w;exact⟨lexC_eq h2 e,lexC_eq h4 w⟩
    · rw [if_neg e] at w;exact absurd w e
  · obtain⟨rfl,rfl⟩:=w;exact cmpM_self _
theorem impl_namesFrom_l1 {n:Nat} (hn:n≤4194304) {t f:List Int} (ht:Pts n t) (hf:Pts n f) : ∀ (m i:Nat) (st:List Int×List Int),n<m+i→BInv n st→BDone t f i st→i≤st.2.length→Ev (fun k=>ik_.l1 k st.1 st.2 (i:Nat) t f) (bRun t f m i st).1:=by
  have tl:=ht.1
  have fl:=hf.1
  intro m
  induction m with
  | zero=>intro i st hm h hD hi;have:=h.len;omega
  | succ m ih =>
    intro i st hm h hD hi
    have hq:=h.len
    refine Ev.step (fun k=>by rw [ik_.l1]) ?_
    by_cases q:i<st.2.length
    · obtain⟨r1,r2,r3,r4⟩:=h.round ht hf q hD
      have go:=ih (i+1) (bRound t f st i) (by omega) r1 r2 (by omega)
      have eR : bRun t f (m + 1) i st = bRun t f m (i + 1) (bRound t f st i) := by conv => lhs; unfold bRun
                                                                                   exact if_pos q
      rw [eR]
      obtain⟨a,a1,a2,a3⟩:=h.qo i q
      have t1:=ht.fn a1
      have f1:=hf.fn a1
      have e:bRound t f st i=bStep (bStep st (fn t a:Int)) (fn f a:Int):=by unfold bRound;rw [a2,t1.1,f1.1]
      rw [e] at go
      rw [e]
      refine Ev.pos (by omega) (Ev.pos (by omega) ?_)
      rw [a2,t1.1,f1.1]
      refine Ev.pos (by omega) (Ev.pos (by omega) (Ev.pos (by omega) (Ev.bindc rfl ?_)))
      -- one dart of the two
      have one : ∀ (s:List Int×List Int) (d:Nat) (j:Nat) (r:List Int),BInv n s→d<n→j<2→rd [(fn t a:Int),(fn f a:Int)] (j:Int)=(d:Int)→Ev (fun k=>ik_.l2 k (bStep s (d:Int)).1 (bStep s (d:Int)).2 (i:Nat) [(fn t a:Int),(fn f a:Int)] 2 ((j+1:Nat):Int) t f) r→Ev (fun k=>ik_.l2 k s.1 s.2 (i:Nat) [(fn t a:Int),(fn f a:Int)] 2 (j:Nat) t f) r:=by
        intro s d j r hs hd hj hrd hr
        have hsl:=hs.len
        have hlo:=hs.lo
        refine Ev.step (fun k=>by rw [ik_.l2]) ?_
        refine Ev.pos (by omega) (Ev.pos (by omega) (Ev.pos (by simp;omega) ?_))
        rw [hrd,wrap64_id (x:=(j:Int)+1) (by omega) (by omega)]
        refine Ev.pos (by omega) (Ev.pos (by omega) ?_)
        unfold bStep at hr
        refine Ev.ite (fun w => ?_) (fun w => ?_)
        · rw [if_pos w] at hr
          exact Ev.pos (by omega) hr
        · rw [if_neg w] at hr
          exact hr
      obtain⟨s1,s2,s3,s4,s5⟩:=h.step t1.2
      refine one st (fn t a) 0 _ h t1.2 (by omega) (by rw [rd_nat _ _ (by simp)];rfl) ?_
      refine one _ (fn f a) 1 _ s1 f1.2 (by omega) (by rw [rd_nat _ _ (by simp)];rfl) ?_
      refine Ev.step (fun k=>by rw [ik_.l2]) ?_
      refine Ev.neg (by omega) ?_
      rw [wrap64_id (x:=(i:Int)+1) (by omega) (by omega)]
      exact go
    · have eR : bRun t f (m + 1) i st = st := by conv => lhs; unfold bRun
                                                 exact if_neg q
      rw [eR]
      exact Ev.neg (by omega) (Ev.const rfl)
theorem impl_namesFrom_ev {n:Nat} (hn:n≤4194304) {t f:List Int} (ht:Pts n t) (hf:Pts n f) {root:Nat} (hr:root<n):Ev (fun k=>ik_.f k t f (root:Nat)) (bnamL n t f root):=by
  have tl:=ht.1
  have key : ∀ d i,n - i=d→i≤n → ∀ o:List Int,o.length=n→(∀ x:Nat,x<i→rd o (x:Int) = -1)→Ev (fun k=>ik_.l0 k (root:Nat) o (n:Nat) (i:Nat) t f) (bnamL n t f root):=by
    intro d
    induction d with
    | zero =>
      intro i hd hi o ho h1
      obtain rfl:i=n:=by omega
      have:o=List.replicate i (-1):=list_ext_rd (by simp [ho]) (fun x hx=>by rw [h1 x (by omega),rd_rep _ _ _ (by omega)])
      subst this
      refine Ev.step (fun k=>by rw [ik_.l0]) ?_
      refine Ev.neg (by omega) (Ev.pos (by omega) (Ev.pos (by omega) ?_))
      simp only [Int.toNat_natCast]
      exact impl_namesFrom_l1 hn ht hf (i+1) 0 (bStart i root) (by omega) (bStart_inv hr) (fun j hj=>absurd hj (by omega)) (by omega)
    | succ d ih =>
      intro i hd hi o ho h1
      refine Ev.step (fun k=>by rw [ik_.l0]) ?_
      refine Ev.pos (by omega) (Ev.pos (by omega) (Ev.pos (by omega) ?_))
      rw [wrap64_id (x:=(i:Int)+1) (by omega) (by omega)]
      simp only [Int.toNat_natCast]
      refine ih (i+1) (by omega) (by omega) _ (by simp [ho]) (fun x hx => ?_)
      by_cases w:i=x
      · subst w;rw [rd_set_self _ _ _ (by omega)]
      · rw [rd_set_ne _ _ _ _ w];exact h1 x (by omega)
  unfold ik_.f
  rw [tl]
  refine Ev.pos (by omega) (Ev.pos (by omega) (Ev.bindc rfl ?_))
  simp only [Int.toNat_natCast,List.length_replicate]
  exact key n 0 rfl (by omega) _ (by simp) (fun x hx=>absurd hx (by omega))
noncomputable def cjL (b x:List Int):List Int:=mulL (mulL (backL b) x) b
theorem impl_renamed_ev {n:Nat} (hn:n≤12) {t f b:List Int} (ht:PermL n t) (hf:PermL n f) (hb:PermL n b):Ev (fun k=>im_.f k t f b) (cjL b t,cjL b f):=by
  have hk:=backL_perm hb
  have bd : ∀ {x y:List Int},PermL n x→PermL n y → ∀ i:Nat,i<x.length→0≤rd x (i:Int)∧rd x (i:Int)<y.length:=fun {x y} hx hy i hi=>by
    have:=hx.1.2 i (by have:=hx.1.1;omega)
    have:=hy.1.1
    omega
  have mul : ∀ {x y:List Int},PermL n x→PermL n y→Ev (fun k=>ij_.f k x y) (mulL x y):=fun {x y} hx hy=>impl_mul_ev x y (by have:=hx.1.1;omega) (bd hx hy)
  have hbk:=impl_back_ev n (by omega) b hb
  unfold im_.f
  refine Ev.bind hbk (Ev.bind (mul hk ht) (Ev.bind (mul (mulL_perm hk ht) hb) ?_))
  exact Ev.bind hbk (Ev.bind (mul hk hf) (Ev.bind (mul (mulL_perm hk hf) hb) (Ev.const rfl)))
theorem impl_leastForm_ev {t f:List Int} (hM:MOK t f):Ev (fun k=>ii_.f k t f) (leastUp t.length t f t.length):=by
  have hz:=hM.size
  have hp:=hM.permT
  have hq:=hM.permF
  have fm : ∀ r,r<t.length→Ev (fun k=>ik_.f k t f (r:Nat)) (bnamL t.length t f r)∧Ev (fun k=>im_.f k t f (bnamL t.length t f r)) (formL t.length t f r):=fun r hr =>
    ⟨impl_namesFrom_ev (n:=t.length) (by omega) hp.1 hq.1 hr,impl_renamed_ev (n:=t.length) (by omega) hp hq (names_perm hM hr).1⟩
  unfold ii_.f
  refine Ev.bind (fm 0 (by omega)).1 (Ev.bind (fm 0 (by omega)).2 ?_)
  have key : ∀ d i,t.length - i=d→i≤t.length→Ev (fun k=>ii_.l0 k (t.length:Int) (i:Nat) t f (leastUp t.length t f i).1 (leastUp t.length t f i).2) (leastUp t.length t f t.length):=by
    intro d
    induction d with
    | zero =>
      intro i hd hi
      obtain rfl:i=t.length:=by omega
      exact Ev.step (fun k=>by rw [ii_.l0]) (Ev.neg (by omega) (Ev.const rfl))
    | succ d ih =>
      intro i hd hi
      have ih:=ih (i+1) (by omega) (by omega)
      have l1:=form_ln hM (r:=i) (by omega)
      obtain⟨⟨r,r1,r2⟩,_⟩:=leastUp_spec hM i hi
      have l2:Ln t.length (leastUp t.length t f i):=by rw [r2];exact form_ln hM r1
      have f1:=fm i (by omega)
      refine Ev.step (fun k=>by rw [ii_.l0]) (Ev.pos (by omega) (Ev.bind f1.1 (Ev.bind f1.2 ?_)))
      refine Ev.bind (impl_compareMaps_val _ _ _ _ (by rw [l1.1];omega) (by rw [l1.1,l2.1]) (by rw [l1.2];omega) (by rw [l1.2,l2.2])) ?_
      rw [wrap64_id (x:=(i:Int)+1) (by omega) (by omega)]
      show Ev (fun k=>if cmpM (formL t.length t f i) (leastUp t.length t f i)<0 then _ else _) _
      have e1:leastUp t.length t f (i+1)=if cmpM (formL t.length t f i) (leastUp t.length t f i)<0 then formL t.length t f i else leastUp t.length t f i:=rfl
      rw [e1] at ih
      by_cases q:cmpM (formL t.length t f i) (leastUp t.length t f i)<0
      · rw [if_pos q] at ih;exact Ev.pos q ih
      · rw [if_neg q] at ih;exact Ev.neg q ih
  exact key _ 0 rfl (by omega)
theorem impl_MapSame_ok {n:Nat} {t f t' f':List Int} (hM:MOK t f) (hM':MOK t' f') (hn:t.length=n) (hn':t'.length=n) (e:leastUp n t f n=leastUp n t' f' n):Ev (fun k=>i5_.f k t f t' f') true:=by
  have hz:=hM.size
  have h1:=impl_leastForm_ev hM
  have h2:=impl_leastForm_ev hM'
  rw [hn] at h1
  rw [hn',← e] at h2
  obtain⟨⟨r,r1,r2⟩,_⟩:=leastUp_spec hM t.length (Nat.le_refl _)
  have l2:Ln t.length (leastUp t.length t f t.length):=by rw [r2];exact form_ln hM r1
  rw [hn] at l2
  unfold i5_.f
  refine Ev.bind (impl_MapValid_ev t f) (Ev.pos (dec_t hM) (Ev.bind (impl_MapValid_ev t' f') (Ev.pos (dec_t hM') ?_)))
  refine Ev.step (fun k=>by rw [i5_.j0]) (Ev.neg (by rw [hn,hn'];simp) ?_)
  refine Ev.bind h1 (Ev.bind h2 ?_)
  refine Ev.bind (impl_compareMaps_val _ _ _ _ (by rw [l2.1];omega) rfl (by rw [l2.2];omega) rfl) (Ev.const ?_)
  rw [cmpM_self];rfl
theorem conj_back {n κ:Nat} {t f:List Int} {v:List (List Int)} (h:VN n κ t f v) {b:List Int} (hb:PermL κ b) (u:Nat):conjV n t f (conjV n t f v u b) u (backL b)=v:=by
  have hk:=backL_perm hb
  have h1:=conjV_vn h hb u
  refine volt_ext (conjV_vn h1 hk u) h (fun d hd s hs => ?_)
  have e : ∀ w s,s<κ→atU u (backL b) w (atU u b w s)=s:=fun w s hs=>by
    unfold atU
    by_cases q:w=u
    · rw [if_pos q,if_pos q,fn_backL hb (hb.1.fn hs).2,hb.perm.gf s hs]
    · rw [if_neg q,if_neg q]
  have c1:=conj_volt h hb u hd hs
  have c2:=conj_volt h1 hk u hd (atU_lt hb u (vtx n t d) hs)
  rw [e _ _ hs,c1,e _ _ ((h.volt hd).1.fn hs).2] at c2
  exact c2
theorem FnCoverConj:laws_FnCoverConj.Pure:=by
  intro code hc0 hc1 hcb
  refine Ev.rounds ?_
  unfold laws_FnCoverConj.f
  refine Ev.ite (fun _=>Ev.const rfl) (fun hlen => ?_)
  obtain⟨t,f,k,v,d,b,r1,ht,hf,hk0,hk1,hv,hbl⟩:=spec_DrawCoverConj_ex code (bytes_of_wf hcb)
  refine Ev.bind r1 ?_
  have hvl:v.length≤1048576:=by have:=hv.1;omega
  have hg:=impl_CoverConj_ev t f k v d b hvl
  have hs:=spec_CoverConj_ev t f k v d b (by omega) (by omega) hv.small (by omega)
  refine Ev.bind hg (Ev.bind hs (Ev.neg (by simp) ?_))
  have same:=laws_sameLists_same (ccV t f k v d b).1 (ccV_small t f k v d b)
  refine Ev.bind same (Ev.pos rfl ?_)
  by_cases hC:VOK t f k v∧(0≤d∧d<(t.length:Int))∧POK b∧(b.length:Int)=k
  · have eV:ccV t f k v d b=(conjV t.length t f v (vtx t.length t d.toNat) b,true):=by unfold ccV;rw [if_pos (dec_t hC)]
    rw [eV]
    obtain⟨hV,hd,hB,hbk⟩:=hC
    obtain⟨κ,rfl,hN⟩:=hV.vn
    have k0:=hN.k0
    have k1:=hN.k1
    have hbp:=hB.2
    rw [show b.length=κ by omega] at hbp
    have hbb:=backL_perm hbp
    have hO:=conjV_vn hN hbp (vtx t.length t d.toNat)
    have hG:=Gau.conj hN hbp (vtx t.length t d.toNat)
    have back:=conj_back hN hbp (vtx t.length t d.toNat)
    have hVO:=vok_of hV hO
    have hov:=hO.vl
    have n1:=hN.n1
    have hbr:=branch_gau hN hO hG
    obtain⟨cg1,cg2⟩:=cov_gau hV hN hO hG
    have lb:(backL b).length=κ:=hbb.1.1
    have hx:=impl_CoverConj_ev t f κ (conjV t.length t f v (vtx t.length t d.toNat) b) d (backL b) (by omega)
    have eX:ccV t f κ (conjV t.length t f v (vtx t.length t d.toNat) b) d (backL b)=(v,true):=by
      unfold ccV
      rw [if_pos (dec_t ⟨hVO,hd,⟨by omega,by rw [lb];exact hbb⟩,by omega⟩),back]
    rw [eX] at hx
    have hC1:=impl_CoverMap_ev t f κ v hvl
    have hC2:=impl_CoverMap_ev t f κ (conjV t.length t f v (vtx t.length t d.toNat) b) (by omega)
    have hB1:=impl_CoverBranch_ev t f κ v hvl
    have hB2:=impl_CoverBranch_ev t f κ (conjV t.length t f v (vtx t.length t d.toNat) b) (by omega)
    rw [if_pos (dec_t hV)] at hB1
    rw [if_pos (dec_t hVO),hbr] at hB2
    have cov:covOK t f (κ:Int) v→Ev (fun n=>i5_.f n (covT t.length κ t (κ*t.length)) (covF κ f v (κ*t.length)) (covT t.length κ t (κ*t.length)) (covF κ f (conjV t.length t f v (vtx t.length t d.toNat) b) (κ*t.length))) true:=fun w=>impl_MapSame_ok w.2 (cg1.1 w).2 (covT_length _ _ _ _) (covT_length _ _ _ _) (cg2 w)
    generalize conjV t.length t f v (vtx t.length t d.toNat) b=out at *
    refine Ev.step (fun n=>by rw [laws_FnCoverConj.j0]) (Ev.neg (by simp) ?_)
    refine Ev.bind (impl_PermBack_ok hB) (Ev.bind hx (Ev.bind hC1 (Ev.bind hC2 (Ev.pos rfl (Ev.pos rfl ?_)))))
    have sv:=laws_sameLists_same v hv.small
    by_cases w:covOK t f (κ:Int) v
    · have e1:cmV t f κ v=(covT t.length κ t (κ*t.length),covF κ f v (κ*t.length),true):=by unfold cmV;rw [if_pos (dec_t w)];rfl
      have e2:cmV t f κ out=(covT t.length κ t (κ*t.length),covF κ f out (κ*t.length),true):=by unfold cmV;rw [if_pos (dec_t (cg1.1 w))];rfl
      rw [e1,e2]
      exact Ev.pos rfl (Ev.bind sv (Ev.pos rfl (Ev.pos rfl (Ev.bind (cov w) (Ev.pos rfl (Ev.bind hB2 (Ev.bind hB1 (Ev.const (by simp)))))))))
    · have e1:cmV t f κ v=([],[],false):=by unfold cmV;rw [if_neg (fun z=>w (dec_iff.1 z))]
      have e2:cmV t f κ out=([],[],false):=by unfold cmV;rw [if_neg (fun z=>w (cg1.2 (dec_iff.1 z)))]
      rw [e1,e2]
      exact Ev.pos rfl (Ev.bind sv (Ev.pos rfl (Ev.neg (by simp) (Ev.bind hB2 (Ev.bind hB1 (Ev.const (by simp)))))))
  · have eV:ccV t f k v d b=([],false):=by unfold ccV;rw [if_neg (fun w=>hC (dec_iff.1 w))]
    rw [eV] at same ⊢
    refine Ev.step (fun n=>by rw [laws_FnCoverConj.j0]) (Ev.pos (by simp) (Ev.pos (by simp) ?_))
    exact Ev.bind same (Ev.const rfl)
end Go.Proofs.Ytmegggomhjgehaa.Pure
