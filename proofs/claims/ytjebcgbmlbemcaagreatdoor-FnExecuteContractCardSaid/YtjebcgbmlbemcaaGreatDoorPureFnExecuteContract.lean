/- The law FnExecuteContract holds for every input. -/
import Derived.Test.YtjebcgbmlbemcaaGreatDoorPFnExecuteContractx20
import Derived.Test.YtjebcgbmlbemcaaGreatDoorQFnExecuteContract
set_option linter.unusedVariables false
set_option linter.unusedSimpArgs false
namespace Go.Proofs.YtjebcgbmlbemcaaGreatDoor.Pure
open Go.RowKit Go.Proofs.YtjebcgbmlbemcaaGreatDoor.PFnExecuteContract Go.Proofs.YtjebcgbmlbemcaaGreatDoorW.PrintWords Go.Proofs.YtjebcgbmlbemcaaGreatDoorW.PrintLast Go.Proofs.YtjebcgbmlbemcaaGreatDoor.M

/-! ### laws_sameInts -/
theorem laws_sameInts_ev (l m:List Int) (hl:l.length≤4611686018427387904):Ev (fun k=>lk_.f k l m) (decide (l=m)):=by
  unfold lk_.f
  refine Ev.ite (fun h => ?_) (fun h=>Ev.const ?_)
  · have h':l.length=m.length:=by omega
    have key : ∀ d i,l.length - i=d→i≤l.length→(∀ q:Nat,q<i→rd l (q:Int)=rd m (q:Int))→Ev (fun k=>lk_.l0 k l m (i:Nat)) (decide (l=m)):=by
      intro d
      induction d with
      | zero =>
        intro i hd hi hq
        refine Ev.step (fun k=>by rw [lk_.l0]) (Ev.neg (by omega) (Ev.const ?_))
        rw [decide_eq_true (list_ext_rd h' (fun q hq'=>hq q (by omega)))]
      | succ d ih =>
        intro i hd hi hq
        refine Ev.step (fun k=>by rw [lk_.l0]) (Ev.pos (by omega) (Ev.pos (by omega) (Ev.pos (by omega) (Ev.ite (fun e => ?_) (fun e=>Ev.const ?_)))))
        · rw [wrap64_id (by omega) (by omega)]
          exact ih (i+1) (by omega) (by omega) (fun q hqi=>by
            by_cases eq:q=i
            · subst eq;exact e
            · exact hq q (by omega))
        · rw [decide_eq_false]
          intro w;subst w;exact e rfl
    exact key l.length 0 (by omega) (by omega) (fun q hq=>by omega)
  · rw [decide_eq_false]
    intro w;subst w;exact h rfl
/-! ### laws_sameMap -/
theorem laws_sameMap_ev (a b c d:List Int) (ha:a.length≤1048576) (hb:b.length≤1048576):Ev (fun k=>ll_.f k a b c d) (decide (a=c∧b=d)):=by
  unfold ll_.f
  refine Ev.bind (laws_sameInts_ev a c (by omega)) ?_
  by_cases h:a=c
  · refine Ev.pos (decide_eq_true h) (Ev.bind (laws_sameInts_ev b d (by omega)) (Ev.const ?_))
    rw [show decide (b=d)=decide (a=c∧b=d) from by simp [h]]
  · refine Ev.neg (by simp [h]) (Ev.const ?_)
    rw [decide_eq_false (fun w=>h w.1)]
/-! ### impl_PermValid -/
theorem impl_PermValid_eq (p:List Int):i8_.f p=some (dec (POK p)):=by
  show some (decide _)=_
  congr 1
  refine dec_of (and_congr_right fun _=>⟨fun h=>⟨⟨rfl,fun i hi=>(h i hi).1⟩,fun i j hi hj e => ?_⟩,fun h j hj=>⟨h.1.2 j hj,fun k hk e => ?_⟩⟩)
  · have h1:=(h i hi).1
    have h2:=(h j hj).1
    unfold fn at e
    have e':rd p (i:Int)=rd p (j:Int):=by omega
    rcases Nat.lt_trichotomy i j with q|q|q
    · exact absurd e' ((h j hj).2 i q)
    · exact q
    · exact absurd e'.symm ((h i hi).2 j q)
  · have:=h.2 k j (by omega) hj (by unfold fn;rw [e])
    omega
/-! ### slices_Max_int_int -/
theorem slices_Max_up (o:List Int) (m:Int) : ∀ i:Nat,m≤sq_.go o m i∧(∀ j:Nat,j<i→rd o (j:Int)≤sq_.go o m i)∧(sq_.go o m i=m ∨ ∃ j:Nat,j<i∧sq_.go o m i=rd o (j:Int))
  | 0=>⟨Int.le_refl _,fun j hj=>by omega,.inl rfl⟩
  | i+1=>by
    obtain⟨h1,h2,h3⟩:=slices_Max_up o m i
    simp only [sq_.go]
    generalize sq_.go o m i=v at *
    split
    · next hlt =>
      refine⟨by omega,fun j hj => ?_,.inr ⟨i,by omega,rfl⟩⟩
      by_cases e:j=i
      · subst e;exact Int.le_refl _
      · have:=h2 j (by omega);omega
    · next hlt =>
      refine⟨h1,fun j hj => ?_,?_⟩
      · by_cases e:j=i
        · subst e;omega
        · exact h2 j (by omega)
      · rcases h3 with h3|⟨j,hj,h3⟩
        · exact .inl h3
        · exact .inr ⟨j,by omega,h3⟩
theorem slices_Max_zero (o:List Int) (h:0<o.length) (h0 : ∀ i:Nat,i<o.length→0≤rd o (i:Int)) : ∃ v,sq_.f o=some v∧(v=0 ↔ ∀ i:Nat,i<o.length→rd o (i:Int)=0):=by
  refine⟨_,by unfold sq_.f;rw [if_pos h],?_⟩
  unfold sq_.up
  obtain⟨h1,h2,h3⟩:=slices_Max_up o (rd o 0) o.length
  constructor
  · intro e i hi
    have:=h2 i hi
    have:=h0 i hi
    omega
  · intro ha
    rcases h3 with h3|⟨j,hj,h3⟩
    · rw [h3];exact ha 0 h
    · rw [h3];exact ha j hj
/-! ### impl_still -/
theorem impl_still_ev (n:Nat) (hn:n≤4194304):Ev (fun k=>if_.f k (n:Nat)) (idL n):=by
  have key : ∀ d i,n - i=d→i≤n → ∀ x3:List Int,x3.length=n→(∀ q:Nat,q<i→rd x3 (q:Int)=(q:Int))→Ev (fun k=>if_.l0 k x3 (n:Nat) (i:Nat)) (idL n):=by
    intro d
    induction d with
    | zero =>
      intro i hd hi x3 h3 hq
      obtain rfl:i=n:=by omega
      refine Ev.step (fun k=>by rw [if_.l0]) ?_
      refine Ev.neg (by omega) (Ev.const ?_)
      congr 1
      exact list_ext_rd (by rw [h3,idL_length]) (fun q hq'=>by rw [hq q (by omega),rd_idL i q (by omega)])
    | succ d ih =>
      intro i hd hi x3 h3 hq
      refine Ev.step (fun k=>by rw [if_.l0]) (Ev.pos (by omega) (Ev.pos (by omega) (Ev.pos (by omega) ?_)))
      rw [wrap64_id (by omega) (by omega)]
      refine ih (i+1) (by omega) (by omega) (x3.set i (i:Int)) (by simp [h3]) (fun q hqi => ?_)
      by_cases e:i=q
      · subst e;exact rd_set_self _ _ _ (by omega)
      · rw [rd_set_ne _ _ _ _ e];exact hq q (by omega)
  unfold if_.f
  refine Ev.pos (by omega) (Ev.pos (by omega) (Ev.bindc rfl ?_))
  have:=key n 0 (by omega) (by omega) (List.replicate n 0) (by simp) (fun q hq=>by omega)
  rw [List.length_replicate]
  exact this
/-! ### impl_orbits -/
def orbSum (o:List Int):Nat:=o.foldr (fun x s=>x.toNat+s) 0
theorem orbSum_set (o:List Int) : ∀ (i:Nat) (x:Int),i<o.length→0≤x→x<rd o (i:Int)→orbSum (o.set i x)<orbSum o:=by
  induction o with
  | nil=>intro i x h;simp at h
  | cons y l ih =>
    intro i x h h0 hx
    cases i with
    | zero =>
      have:rd (y :: l) ((0:Nat):Int)=y:=rfl
      rw [this] at hx
      simp only [List.set_cons_zero,orbSum,List.foldr_cons]
      omega
    | succ i =>
      have:rd (y :: l) ((i+1:Nat):Int)=rd l (i:Int):=by
        simp only [rd,List.getD_eq_getElem?_getD,Int.toNat_natCast,List.getElem?_cons_succ]
      rw [this] at hx
      have:=ih i x (by simpa using h) h0 hx
      simp only [List.set_cons_succ,orbSum,List.foldr_cons] at *
      omega
theorem orbSum_set_le (o:List Int) (i:Nat) (x:Int) (h:i<o.length) (h0:0≤x) (hx:x≤rd o (i:Int)):orbSum (o.set i x)≤orbSum o:=by
  by_cases e:x=rd o (i:Int)
  · have:o.set i x=o:=by
      refine list_ext_rd (by simp) (fun q hq => ?_)
      by_cases eq:i=q
      · subst eq;rw [rd_set_self _ _ _ h,e]
      · rw [rd_set_ne _ _ _ _ eq]
    rw [this];exact Nat.le_refl _
  · exact Nat.le_of_lt (orbSum_set o i x h h0 (by omega))
theorem impl_orbits_l2_ev {n : Nat} (hn : n ≤ 4194304) {a b : List Int} (ha : Pts n a) (hb : Pts n b) (p : List Int) (hp : Pts n p)
    (hpc : ∀ i,i<n→Con n a b i (fn p i)) (L:List (List Int)) (o0:List Int) (x17 x18:Int) (r:List Int) (pre:Prop)
    (hr : ∀ o g,OrbPre n a b o→(g=true→orbSum o<orbSum o0)→(g=false→o=o0∧pre ∧ ∀ i,i<n→rd o (fn p i:Int)=rd o (i:Int))→Ev (fun k=>id_.l1 k L o g L x17 (wrap64 (x18+1))) r) :
    ∀ d i,n - i=d→i≤n → ∀ o g,OrbPre n a b o→(g=true→orbSum o<orbSum o0)→(g=false→o=o0∧pre ∧ ∀ q,q<i→rd o (fn p q:Int)=rd o (q:Int)) →
      Ev (fun k=>id_.l2 k L o g L x17 x18 p (n:Nat) (i:Nat)) r:=by
  intro d
  induction d with
  | zero =>
    intro i hd hi o g h hg hf
    obtain rfl:i=n:=by omega
    refine Ev.step (fun k=>by rw [id_.l2]) ?_
    refine Ev.neg (by omega) ?_
    exact hr o g h hg hf
  | succ d ih =>
    intro i hd hi o g h hg hf
    have hi':i<n:=by omega
    have ep:=hp.fn hi'
    have lp:=hp.1
    have lo:=h.1
    have gi:=h.2 i hi'
    have gp:=h.2 _ ep.2
    refine Ev.step (fun k=>by rw [id_.l2]) ?_
    rw [ep.1,wrap64_id (x:=(i:Int)+1) (by omega) (by omega)]
    simp only [toNat_nat]
    refine Ev.pos (by omega) (Ev.pos (by omega) (Ev.pos (by omega) (Ev.pos (by omega) (Ev.pos (by omega) (Ev.pos (by omega) ?_)))))
    -- what a change does
    have hch : ¬ (rd o (i:Int)=rd o (fn p i:Int))→Ev (fun k=>id_.l2 k L ((o.set i (mn (rd o (i:Int)) (rd o (fn p i:Int)))).set (fn p i) (mn (rd o (i:Int)) (rd o (fn p i:Int)))) true L x17 x18 p (n:Nat) ((i:Int)+1)) r:=by
      intro hne
      have hx:mn (rd o (i:Int)) (rd o (fn p i:Int))≤rd o (i:Int)∧mn (rd o (i:Int)) (rd o (fn p i:Int))≤rd o (fn p i:Int)∧(mn (rd o (i:Int)) (rd o (fn p i:Int))<rd o (i:Int)∨mn (rd o (i:Int)) (rd o (fn p i:Int))<rd o (fn p i:Int))∧0≤mn (rd o (i:Int)) (rd o (fn p i:Int)) ∧
          (mn (rd o (i:Int)) (rd o (fn p i:Int))=rd o (i:Int)∨mn (rd o (i:Int)) (rd o (fn p i:Int))=rd o (fn p i:Int)):=by unfold mn;omega
      generalize mn (rd o (i:Int)) (rd o (fn p i:Int))=x at *
      obtain⟨x1,x2,x3,x4,x5⟩:=hx
      have hcx:Con n a b i x.toNat:=by
        rcases x5 with e|e
        · rw [e];exact gi.2.2
        · rw [e];exact(hpc i hi').trans gp.2.2
      have p1:=h.put hi' x x4 (by omega) hcx
      have p2:=p1.put ep.2 x x4 (by omega) ((hpc i hi').symm.trans hcx)
      have hs:orbSum ((o.set i x).set (fn p i) x)<orbSum o:=by
        have l1:=orbSum_set_le o i x (by omega) x4 x1
        by_cases e:i=fn p i
        · rw [← e] at hne;exact absurd rfl hne
        · have e2:rd (o.set i x) (fn p i:Int)=rd o (fn p i:Int):=rd_set_ne _ _ _ _ e
          have l2:=orbSum_set_le (o.set i x) (fn p i) x (by simp;omega) x4 (by omega)
          rcases x3 with q|q
          · have:=orbSum_set o i x (by omega) x4 q;omega
          · have:=orbSum_set (o.set i x) (fn p i) x (by simp;omega) x4 (by omega);omega
      have hs0:orbSum o≤orbSum o0:=by
        cases g with
        | true=>exact Nat.le_of_lt (hg rfl)
        | false=>rw [(hf rfl).1];exact Nat.le_refl _
      exact ih (i+1) (by omega) (by omega) _ true p2 (fun _=>by omega) (fun q=>by cases q)
    refine Ev.ite (fun e1=>Ev.ite (fun e2 => ?_) (fun e2=>hch (fun e=>e2 ?_))) (fun e1=>hch (fun e=>e1 ?_))
    · refine ih (i+1) (by omega) (by omega) o g h hg (fun hgf => ?_)
      obtain⟨f1,f2,f3⟩:=hf hgf
      refine⟨f1,f2,fun q hq => ?_⟩
      by_cases e:q=i
      · subst e;omega
      · exact f3 q (by omega)
    · unfold mn at *;omega
    · unfold mn;omega
theorem impl_orbits_ev (n:Nat) (hn:n≤4194304) (a b:List Int) (ha:Pts n a) (hb:Pts n b):Ev (fun k=>id_.f k [a,b]) (orbL a b):=by
  have la:=ha.1
  have lb:=hb.1
  have r0:rd_L1 [a,b] ((0:Nat):Int)=a:=rfl
  have r1:rd_L1 [a,b] ((1:Nat):Int)=b:=rfl
  have main : ∀ m o,orbSum o≤m→OrbPre n a b o→Ev (fun k=>id_.l0 k [a,b] o true) (orbL a b):=by
    intro m
    induction m using Nat.strongRecOn with
    | _ m ih =>
      intro o hm h
      refine Ev.step (fun k=>by rw [id_.l0]) ?_
      refine Ev.pos rfl ?_
      have last : ∀ o' g,OrbPre n a b o'→(g=true→orbSum o'<orbSum o)→(g=false→o'=o∧(∀ i,i<n→rd o' (fn a i:Int)=rd o' (i:Int)) ∧ ∀ i,i<n→rd o' (fn b i:Int)=rd o' (i:Int)) →
          Ev (fun k=>id_.l1 k [a,b] o' g [a,b] ((2:Nat):Int) ((2:Nat):Int)) (orbL a b):=by
        intro o' g h' hg hf
        refine Ev.step (fun k=>by rw [id_.l1]) ?_
        refine Ev.neg (by omega) ?_
        cases g with
        | true=>exact ih (orbSum o') (by have:=hg rfl;omega) o' (Nat.le_refl _) h'
        | false =>
          obtain⟨f1,f2,f3⟩:=hf rfl
          refine Ev.step (fun k=>by rw [id_.l0]) ?_
          refine Ev.neg (by simp) (Ev.const ?_)
          congr 1
          exact IsOrb.eq ha hb ⟨h',fun i hi=>⟨f2 i hi,f3 i hi⟩⟩
      have second : ∀ o' g,OrbPre n a b o'→(g=true→orbSum o'<orbSum o)→(g=false→o'=o∧True ∧ ∀ i,i<n→rd o' (fn a i:Int)=rd o' (i:Int)) →
          Ev (fun k=>id_.l1 k [a,b] o' g [a,b] ((2:Nat):Int) ((1:Nat):Int)) (orbL a b):=by
        intro o' g h' hg hf
        refine Ev.step (fun k=>by rw [id_.l1]) ?_
        refine Ev.pos (by omega) (Ev.pos (by omega) (Ev.pos (by simp) ?_))
        rw [r1,lb]
        refine impl_orbits_l2_ev hn ha hb b hb (fun i hi=>Con.fb hi) [a,b] o _ _ _ (∀ i,i<n→rd o (fn a i:Int)=rd o (i:Int)) (fun o2 g2 h2 hg2 hf2 => ?_) n 0 (by omega) (by omega) o' g h' hg (fun q => ?_)
        · have e:wrap64 (((1:Nat):Int)+1)=((2:Nat):Int):=by rw [wrap64_id (by omega) (by omega)];rfl
          rw [e]
          exact last o2 g2 h2 hg2 (fun q=>by obtain⟨z1,z2,z3⟩:=hf2 q;refine⟨z1,?_,z3⟩;rw [z1];exact z2)
        · obtain⟨z1,_,z3⟩:=hf q
          exact⟨z1,by rw [z1] at z3;exact z3,fun q hq=>by omega⟩
      refine Ev.step (fun k=>by rw [id_.l1]) ?_
      refine Ev.pos (by simp) (Ev.pos (by omega) (Ev.pos (by simp) ?_))
      have r0':rd_L1 [a,b] 0=a:=rfl
      rw [r0',la]
      refine impl_orbits_l2_ev hn ha hb a ha (fun i hi=>Con.fa hi) [a,b] o _ _ _ True (fun o2 g2 h2 hg2 hf2 => ?_) n 0 (by omega) (by omega) o false h (fun q=>by cases q) (fun _=>⟨rfl,trivial,fun q hq=>by omega⟩)
      have e1:wrap64 (0+1)=((1:Nat):Int):=by rw [wrap64_id (by omega) (by omega)];rfl
      rw [e1]
      exact second o2 g2 h2 hg2 hf2
  unfold id_.f
  have r0':rd_L1 [a,b] 0=a:=rfl
  refine Ev.pos (by simp) ?_
  rw [r0',la]
  refine Ev.bind (impl_still_ev n hn) ?_
  exact main _ _ (Nat.le_refl _) (OrbPre.start n a b)
/-! ### impl_MapValid -/
theorem impl_MapValid_ev (t f:List Int):Ev (fun k=>i5_.f k t f) (dec (MOK t f)):=by
  have hno : ¬ MOK t f→Ev (fun k=>i5_.j0 k true t f) (dec (MOK t f)):=fun h=>by
    rw [dec_f h]
    exact Ev.step (fun k=>by rw [i5_.j0]) (Ev.pos rfl (Ev.const rfl))
  unfold i5_.f
  refine Ev.bindc (impl_PermValid_eq t) ?_
  refine Ev.ite (fun h1 => ?_) (fun h1=>hno (fun w=>h1 (dec_t w.1)))
  refine Ev.bindc (impl_PermValid_eq f) ?_
  refine Ev.ite (fun h2 => ?_) (fun h2=>hno (fun w=>h2 (dec_t w.2.1)))
  have pt:=dec_iff.1 h1
  have pf:=dec_iff.1 h2
  by_cases hl:t.length=f.length
  · rw [show((t.length:Int) != (f.length:Int))=false by simp [hl]]
    refine Ev.step (fun k=>by rw [i5_.j0]) ?_
    refine Ev.neg (by simp) ?_
    obtain⟨⟨t1,t2⟩,t3⟩:=pt
    obtain⟨⟨f1,f2⟩,f3⟩:=pf
    have ft:=f3.1
    have tt:=t3.1
    rw [hl] at tt
    have key : ∀ d i,f.length - i=d→i≤f.length→(∀ q,q<i→fn f q≠q∧fn f (fn f q)=q)→Ev (fun k=>i5_.l0 k f (f.length:Nat) (i:Nat) t f) (dec (MOK t f)):=by
      intro d
      induction d with
      | zero =>
        intro i hd hi hq
        obtain rfl:i=f.length:=by omega
        refine Ev.step (fun k=>by rw [i5_.l0]) ?_
        refine Ev.neg (by omega) ?_
        have ho:=(orbL_isOrb tt ft)
        have hol:=ho.1.1
        obtain⟨v,v1,v2⟩:=slices_Max_zero (orbL t f) (by omega) (fun i hi=>(ho.1.2 i (by omega)).1)
        refine Ev.bind (impl_orbits_ev f.length (by omega) t f tt ft) ?_
        refine Ev.bindc v1 ?_
        refine Ev.const ?_
        congr 1
        by_cases hv:v=0
        · rw [dec_t,hv];· rfl
          exact⟨⟨⟨t1,t2⟩,t3⟩,⟨⟨f1,f2⟩,f3⟩,hl,hq,fun i hi=>v2.1 hv i (by omega)⟩
        · rw [dec_f,beq_eq_false_iff_ne];· exact hv
          exact fun w=>hv (v2.2 (fun i hi=>w.2.2.2.2 i (by omega)))
      | succ d ih =>
        intro i hd hi hq
        have hi':i<f.length:=by omega
        have e1:=ft.fn hi'
        have e2:=ft.fn e1.2
        refine Ev.step (fun k=>by rw [i5_.l0]) ?_
        rw [e1.1,e2.1,wrap64_id (x:=(i:Int)+1) (by omega) (by omega)]
        refine Ev.pos (by omega) (Ev.pos (by omega) (Ev.pos (by omega) ?_))
        refine Ev.ite (fun n1 => ?_) (fun n1 => ?_)
        · rw [dec_f (fun w=>(w.2.2.2.1 i hi').1 (by omega))];exact Ev.const rfl
        refine Ev.pos (by omega) (Ev.pos (by omega) ?_)
        refine Ev.ite (fun n2 => ?_) (fun n2 => ?_)
        · refine ih (i+1) (by omega) (by omega) (fun q hqi => ?_)
          by_cases e:q=i
          · subst e;exact⟨by omega,by omega⟩
          · exact hq q (by omega)
        · rw [dec_f (fun w=>n2 (by have:=(w.2.2.2.1 i hi').2;omega))];exact Ev.const rfl
    exact key f.length 0 (by omega) (by omega) (fun q hq=>by omega)
  · rw [show((t.length:Int) != (f.length:Int))=true by simp;omega]
    exact hno (fun w=>hl w.2.2.1)
/-! ### impl_edgesOf -/
def lowsL (f:List Int) (i:Nat):List Int:=((List.range i).filter (lowD f)).map (fun d:Nat=>(d:Int))
theorem lowsL_length (f:List Int) (i:Nat):(lowsL f i).length=cntP (lowD f) i:=by
  unfold lowsL;rw [List.length_map,filter_cntP]
theorem lowsL_at (f:List Int) : ∀ (i e:Nat),e<cntP (lowD f) i → ∃ d:Nat,rd (lowsL f i) (e:Int)=(d:Int)∧d<i∧lowD f d=true∧cntP (lowD f) d=e
  | 0,e,h=>by simp [cntP] at h
  | i+1,e,h=>by
    have hl:=lowsL_length f i
    by_cases q:lowD f i=true
    · have hs:lowsL f (i+1)=lowsL f i ++ [(i:Int)]:=by
        unfold lowsL;rw [List.range_succ,List.filter_append,List.map_append];simp [q]
      have hc:cntP (lowD f) (i+1)=cntP (lowD f) i+1:=by simp only [cntP];rw [if_pos q]
      by_cases z:e<cntP (lowD f) i
      · obtain⟨d,d1,d2,d3,d4⟩:=lowsL_at f i e z
        refine⟨d,?_,by omega,d3,d4⟩
        rw [hs,rd_nat _ _ (by rw [List.length_append];omega),List.getElem_append_left (by omega),← rd_nat _ _ (by omega),d1]
      · refine⟨i,?_,by omega,q,by omega⟩
        rw [hs,rd_nat _ _ (by rw [List.length_append,hl];simp;omega),List.getElem_append_right (by omega)]
        simp
    · have hs:lowsL f (i+1)=lowsL f i:=by
        unfold lowsL;rw [List.range_succ,List.filter_append,List.map_append];simp [q]
      have hc:cntP (lowD f) (i+1)=cntP (lowD f) i:=by simp only [cntP];rw [if_neg q];rfl
      obtain⟨d,d1,d2,d3,d4⟩:=lowsL_at f i e (by omega)
      exact⟨d,by rw [hs];exact d1,by omega,d3,d4⟩
theorem impl_edgesOf_ev (n:Nat) (hn:n≤4194304) (t f:List Int) (hf:Pts n f):Ev (fun k=>ia_.f k t f) (lowsL f n):=by
  have hl:=hf.1
  have key : ∀ d i,n - i=d→i≤n→Ev (fun k=>ia_.l0 k (lowsL f i) f (n:Nat) (i:Nat)) (lowsL f n):=by
    intro d
    induction d with
    | zero =>
      intro i hd hi
      obtain rfl:i=n:=by omega
      refine Ev.step (fun k=>by rw [ia_.l0]) ?_
      exact Ev.neg (by omega) (Ev.const rfl)
    | succ d ih =>
      intro i hd hi
      have e1:=hf.fn (show i<n by omega)
      have hc:=cntP_le (lowD f) i
      have hll:=lowsL_length f i
      refine Ev.step (fun k=>by rw [ia_.l0]) ?_
      rw [e1.1,wrap64_id (x:=(i:Int)+1) (by omega) (by omega)]
      refine Ev.pos (by omega) (Ev.pos (by omega) (Ev.pos (by omega) ?_))
      have:=ih (i+1) (by omega) (by omega)
      refine Ev.ite (fun q => ?_) (fun q => ?_)
      · refine Ev.pos (by omega) ?_
        have hs:lowsL f (i+1)=lowsL f i ++ [(i:Int)]:=by
          have:lowD f i=true:=decide_eq_true (by omega)
          unfold lowsL;rw [List.range_succ,List.filter_append,List.map_append];simp [this]
        rw [hs] at this
        exact this
      · have hs:lowsL f (i+1)=lowsL f i:=by
          have:lowD f i=false:=decide_eq_false (by omega)
          unfold lowsL;rw [List.range_succ,List.filter_append,List.map_append];simp [this]
        rw [hs] at this
        exact this
  unfold ia_.f
  rw [hl]
  exact key n 0 (by omega) (by omega)
/-! ### impl_cyclesOf -/
theorem impl_cyclesOf_l1 {n : Nat} (hn : n ≤ 4194304) {p : List Int} (hp : PermL n p) {i : Nat} (hi : i < n) (hl : lstB (EF n (fn p)) i = true) (out : List (List Int)) (hout : out.length ≤ i) (r : List (List Int))
    (hr : ∀ b,SeenAt n (fn p) (i+1) b→Ev (fun k=>i9_.l0 k p (out ++ [cycOf (fn p) i]) b (n:Nat) (i+1:Nat)) r) :
    ∀ d t,per (fn p) i - t=d→t≤per (fn p) i → ∀ b,SeenIn n (fn p) i t b→Ev (fun k=>i9_.l1 k p out b ((List.range t).map (fun k=>(itr (fn p) k i:Int))) (itr (fn p) t i:Int) (n:Nat) (i:Nat)) r:=by
  have hpm:=hp.perm
  obtain⟨q1,q2,q3,q4⟩:=per_spec hpm hi
  intro d
  induction d with
  | zero =>
    intro t hd ht b hb
    obtain rfl:t=per (fn p) i:=by omega
    obtain⟨c1,c2⟩:=hb.closed hpm hi
    have hlt:=itr_lt hpm hi (per (fn p) i)
    have hbl:=hb.1
    refine Ev.step (fun k=>by rw [i9_.l1]) ?_
    rw [wrap64_id (x:=(i:Int)+1) (by omega) (by omega)]
    refine Ev.pos (by omega) (Ev.pos (by omega) (Ev.pos c1 (Ev.pos (by simp;omega) (Ev.pos (by omega) ?_))))
    exact hr b c2
  | succ d ih =>
    intro t hd ht b hb
    have hlt:=itr_lt hpm hi t
    have hf:=hb.fresh hpm hi hl (by omega)
    have hbl:=hb.1
    have hpl:=hp.1.1
    refine Ev.step (fun k=>by rw [i9_.l1]) ?_
    refine Ev.pos (by omega) (Ev.pos (by omega) (Ev.neg (by rw [hf];simp) (Ev.pos (by simp;omega) (Ev.pos (by omega) ?_))))
    rw [(hp.1.fn hlt).1,← cycOf_take]
    exact ih (t+1) (by omega) (by omega) _ (hb.next hpm hi)
theorem impl_cyclesOf_ev (n:Nat) (hn:n≤4194304) (p:List Int) (hp:PermL n p):Ev (fun k=>i9_.f k p) (cycL n (fn p)):=by
  have hpm:=hp.perm
  have hpl:=hp.1.1
  have key : ∀ d i,n - i=d→i≤n → ∀ b,SeenAt n (fn p) i b→Ev (fun k=>i9_.l0 k p (cycUp n (fn p) i) b (n:Nat) (i:Nat)) (cycL n (fn p)):=by
    intro d
    induction d with
    | zero =>
      intro i hd hi b hb
      obtain rfl:i=n:=by omega
      refine Ev.step (fun k=>by rw [i9_.l0]) ?_
      exact Ev.neg (by omega) (Ev.const rfl)
    | succ d ih =>
      intro i hd hi b hb
      have hi':i<n:=by omega
      have hbl:=hb.1
      have hls:=hb.least hi'
      refine Ev.step (fun k=>by rw [i9_.l0]) (Ev.pos (by omega) ?_)
      cases q:rdOf false b (i:Int) with
      | true =>
        rw [q] at hls
        refine Ev.step (fun k=>by rw [i9_.l1]) ?_
        rw [wrap64_id (x:=(i:Int)+1) (by omega) (by omega)]
        refine Ev.pos (by omega) (Ev.pos (by omega) (Ev.pos q (Ev.neg (by simp) ?_)))
        have:=ih (i+1) (by omega) (by omega) b (hb.skip hi' q)
        rw [cycUp_neg hls] at this
        exact this
      | false =>
        rw [q] at hls
        refine impl_cyclesOf_l1 hn hp hi' hls (cycUp n (fn p) i) (cycUp_length_le _ _ _) _ (fun b' hb' => ?_) (per (fn p) i) 0 (by omega) (by omega) b hb.into
        have:=ih (i+1) (by omega) (by omega) b' hb'
        rw [cycUp_pos hls] at this
        exact this
  unfold i9_.f
  rw [hpl]
  refine Ev.pos (by omega) (Ev.pos (by omega) ?_)
  exact key n 0 (by omega) (by omega) _ (SeenAt.start n _)
/-! ### impl_ribbon -/
/-! A list that is read up to its i-th place. -/
theorem rib_l5 {n:Nat} {t:List Int} (ht:PermL n t) {c:List Bool} (hc:c.length=n) (x1 x7:List Int) (x12 x15:Int) (x18:List Bool) (x95 x96:Int) (t1:List Int) :
    ∀ j x,x<n→rdOf false c (itr (fn t) j x:Int)=true → ∃ y,y<n∧rdOf false c (y:Int)=true∧(∃ j0,y=itr (fn t) j0 x ∧ ∀ i,i<j0→rdOf false c (itr (fn t) i x:Int)=false) ∧
      ∀ r,Ev (fun k=>ie_.l4 k x1 x7 x12 x15 x18 (y:Int) x95 x96 t t1 c) r→Ev (fun k=>ie_.l5 k x1 x7 x12 x15 x18 (x:Int) x95 x96 t t1 c) r:=by
  have hl:=ht.1.1
  intro j
  induction j with
  | zero =>
    intro x hx hj
    have hj':rdOf false c (x:Int)=true:=hj
    refine⟨x,hx,hj',⟨0,rfl,fun i hi=>absurd hi (Nat.not_lt_zero _)⟩,fun r hr => ?_⟩
    exact Ev.step (fun k=>by rw [ie_.l5]) (Ev.pos (by omega) (Ev.pos (by omega) (Ev.pos hj' hr)))
  | succ j ih =>
    intro x hx hj
    cases q:rdOf false c (x:Int) with
    | true =>
      refine⟨x,hx,q,⟨0,rfl,fun i hi=>absurd hi (Nat.not_lt_zero _)⟩,fun r hr => ?_⟩
      exact Ev.step (fun k=>by rw [ie_.l5]) (Ev.pos (by omega) (Ev.pos (by omega) (Ev.pos q hr)))
    | false =>
      have e1:=ht.1.fn hx
      have sh : ∀ i,itr (fn t) i (fn t x)=itr (fn t) (i+1) x:=fun i=>by rw [itr_add];rfl
      obtain⟨y,y1,y2,⟨j0,y3,y4⟩,y5⟩:=ih (fn t x) e1.2 (by rw [sh];exact hj)
      refine⟨y,y1,y2,⟨j0+1,by rw [y3,sh],fun i hi => ?_⟩,fun r hr => ?_⟩
      · cases i with
        | zero=>exact q
        | succ i=>rw [← sh];exact y4 i (by omega)
      · refine Ev.step (fun k=>by rw [ie_.l5]) ?_
        rw [e1.1]
        exact Ev.pos (by omega) (Ev.pos (by omega) (Ev.neg (by rw [q];decide) (Ev.pos (by omega) (y5 r hr))))
/-- From a chosen dart on around its vertex: it comes again. -/
theorem rib_again {n:Nat} {t:List Int} (ht:PermL n t) {c:List Bool} {z:Nat} (hz:z<n) (hcz:rdOf false c (z:Int)=true) : ∃ j,rdOf false c (itr (fn t) j (fn t z):Int)=true:=by
  obtain⟨p1,p2,p3,p4⟩:=per_spec ht.perm hz
  refine⟨per (fn t) z - 1,?_⟩
  have sh:itr (fn t) (per (fn t) z - 1) (fn t z)=itr (fn t) (per (fn t) z - 1+1) z:=by rw [itr_add];rfl
  rw [sh,show per (fn t) z - 1+1=per (fn t) z by omega,p3]
  exact hcz
theorem rib_l4 {n:Nat} {t:List Int} (ht:PermL n t) {c:List Bool} (hc:c.length=n) {g:List Int} (hg:Pts n g) (hcg : ∀ d,d<n→rdOf false c (d:Int)=true→rdOf false c (fn g d:Int)=true) (x1:List Int) (x12 x15:Int) (x95 x96:Int) (t1:List Int) :
    ∀ m x (b:List Bool),x<n→rdOf false c (x:Int)=true→b.length=n→cntP (fun d => !rdOf false b (d:Int)) n=m → ∃ b':List Bool,b'.length=n ∧
      ∀ r,Ev (fun k=>ie_.l3 k x1 g x12 x15 b' x95 (wrap64 (x96+1)) t t1 c) r→Ev (fun k=>ie_.l4 k x1 g x12 x15 b (x:Int) x95 x96 t t1 c) r:=by
  have hl:=ht.1.1
  have hgl:=hg.1
  intro m
  induction m using Nat.strongRecOn with
  | _ m ih =>
    intro x b hx hcx hb hm
    cases q:rdOf false b (x:Int) with
    | true =>
      refine⟨b,hb,fun r hr => ?_⟩
      exact Ev.step (fun k=>by rw [ie_.l4]) (Ev.pos (by omega) (Ev.pos (by omega) (Ev.pos q hr)))
    | false =>
      have e1:=hg.fn hx
      have e2:=ht.1.fn e1.2
      obtain⟨j,hj⟩:=rib_again ht e1.2 (hcg x hx hcx)
      obtain⟨y,y1,y2,_,y5⟩:=rib_l5 ht hc x1 g x12 x15 (b.set x true) x95 x96 t1 j (fn t (fn g x)) e2.2 hj
      have hlt:cntP (fun d => !rdOf false (b.set x true) (d:Int)) n<m:=by
        rw [← hm]
        refine cntP_lt _ _ _ (fun i hi hp => ?_) ⟨x,hx,?_,?_⟩
        · by_cases e:x=i
          · subst e;rw [q];rfl
          · rwa [rdOf_set_ne _ _ _ _ e] at hp
        · rw [rdOf_set_self _ _ _ (by omega)];rfl
        · rw [q];rfl
      obtain⟨b',b1,b2⟩:=ih _ hlt y (b.set x true) y1 y2 (by simp [hb]) rfl
      refine⟨b',b1,fun r hr => ?_⟩
      refine Ev.step (fun k=>by rw [ie_.l4]) ?_
      rw [e1.1,e2.1]
      simp only [toNat_nat]
      exact Ev.pos (by omega) (Ev.pos (by omega) (Ev.neg (by rw [q];decide) (Ev.pos (by omega) (Ev.pos (by omega) (Ev.pos (by omega) (y5 r (b2 r hr)))))))
theorem rib_l3 {n:Nat} (hn:n≤4194304) {t:List Int} (ht:PermL n t) {c:List Bool} (hc:c.length=n) {g:List Int} (hg:Pts n g) (hcg : ∀ d,d<n→rdOf false c (d:Int)=true→rdOf false c (fn g d:Int)=true) (x1:List Int) (x12:Int) (t1:List Int) :
    ∀ m i,n - i=m→i≤n → ∀ (x15:Int) (b:List Bool),b.length=n → ∃ s u v w:Int,Ev (fun k=>ie_.l3 k x1 g x12 x15 b (n:Int) (i:Int) t t1 c) [x12,s,u,v,w]:=by
  intro m
  induction m with
  | zero =>
    intro i hd hi x15 b hb
    obtain rfl:i=n:=by omega
    refine⟨_,_,_,_,Ev.step (fun k=>by rw [ie_.l3]) (Ev.neg (by omega) (Ev.bind (impl_cyclesOf_ev i hn t ht) (Ev.const rfl)))⟩
  | succ m ih =>
    intro i hd hi x15 b hb
    have hi':i<n:=by omega
    have w1:wrap64 ((i:Int)+1)=((i+1:Nat):Int):=(wrap64_id (by omega) (by omega)).trans (by omega)
    have next : ∀ (x15:Int) (b:List Bool),b.length=n → ∃ s u v w:Int,Ev (fun k=>ie_.l3 k x1 g x12 x15 b (n:Int) (wrap64 ((i:Int)+1)) t t1 c) [x12,s,u,v,w]:=fun x15 b hb=>by rw [w1];exact ih (i+1) (by omega) (by omega) x15 b hb
    cases q:rdOf false c (i:Int) with
    | false =>
      obtain⟨s,u,v,w,h⟩:=next x15 b hb
      refine⟨s,u,v,w,Ev.step (fun k=>by rw [ie_.l3]) (Ev.pos (by omega) (Ev.pos (by omega) (Ev.pos (by omega) (Ev.neg (by rw [q];decide) ?_))))⟩
      exact Ev.step (fun k=>by rw [ie_.j4]) (Ev.pos rfl h)
    | true =>
      cases q2:rdOf false b (i:Int) with
      | true =>
        obtain⟨s,u,v,w,h⟩:=next x15 b hb
        refine⟨s,u,v,w,Ev.step (fun k=>by rw [ie_.l3]) (Ev.pos (by omega) (Ev.pos (by omega) (Ev.pos (by omega) (Ev.pos q (Ev.pos (by omega) ?_)))))⟩
        exact Ev.step (fun k=>by rw [ie_.j4]) (Ev.pos q2 h)
      | false =>
        obtain⟨b',b1,b2⟩:=rib_l4 ht hc hg hcg x1 x12 (wrap64 (x15+1)) (n:Int) (i:Int) t1 _ i b hi' q hb rfl
        obtain⟨s,u,v,w,h⟩:=next (wrap64 (x15+1)) b' b1
        refine⟨s,u,v,w,Ev.step (fun k=>by rw [ie_.l3]) (Ev.pos (by omega) (Ev.pos (by omega) (Ev.pos (by omega) (Ev.pos q (Ev.pos (by omega) ?_)))))⟩
        exact Ev.step (fun k=>by rw [ie_.j4]) (Ev.neg (by rw [q2];decide) (b2 _ h))
theorem contains_ev {n:Nat} {row:List Int} (h:Face n row) {c:List Bool} (hc:c.length=n) : ∃ v,Ev (fun _=>sn_.f row c) v:=by
  refine⟨sn_.hasB row c row.length,Ev.const ?_⟩
  unfold sn_.f
  exact if_pos (fun i=>by have:=h.2 i.val i.isLt;omega)
theorem rib_l2 {n:Nat} (hn:n≤4194304) {t:List Int} (ht:PermL n t) {c:List Bool} (hc:c.length=n) {g:List Int} (hg:Pts n g) (hcg : ∀ d,d<n→rdOf false c (d:Int)=true→rdOf false c (fn g d:Int)=true) (x1:List Int) (x12:Int) (t1:List Int) :
    ∀ m i,cyc n (fn t) - i=m→i≤cyc n (fn t) → ∀ (x15:Int),∃ s u v w:Int,Ev (fun k=>ie_.l2 k x1 (n:Int) g x12 x15 (cycL n (fn t)) ((cycL n (fn t)).length:Int) (i:Int) t t1 c) [x12,s,u,v,w]:=by
  have eL : ∀ (xs:List (List Int)) (i:Int),rd_L1 xs i=rdL xs i:=fun _ _=>rfl
  have hcl:=cycL_length n (fn t)
  have hcy:=cyc_le n (fn t)
  intro m
  induction m with
  | zero =>
    intro i hd hi x15
    obtain⟨s,u,v,w,h⟩:=rib_l3 hn ht hc hg hcg x1 x12 t1 n 0 (by omega) (by omega) x15 (List.replicate n false) (by simp)
    refine⟨s,u,v,w,Ev.step (fun k=>by rw [ie_.l2]) (Ev.neg (by omega) ?_)⟩
    simp only [toNat_nat]
    exact Ev.pos (by omega) (Ev.pos (by omega) h)
  | succ m ih =>
    intro i hd hi x15
    have w1:wrap64 ((i:Int)+1)=((i+1:Nat):Int):=(wrap64_id (by omega) (by omega)).trans (by omega)
    obtain⟨b,hb⟩:=contains_ev (cycL_face ht.perm (show i<(cycL n (fn t)).length by omega)) hc
    cases b with
    | true =>
      obtain⟨s,u,v,w,h⟩:=ih (i+1) (by omega) (by omega) x15
      refine⟨s,u,v,w,Ev.step (fun k=>by rw [ie_.l2]) (Ev.pos (by omega) (Ev.pos (by omega) (Ev.pos (by omega) ?_)))⟩
      simp only [eL]
      refine Ev.bind hb (Ev.pos rfl ?_)
      rw [w1];exact h
    | false =>
      obtain⟨s,u,v,w,h⟩:=ih (i+1) (by omega) (by omega) (wrap64 (x15+1))
      refine⟨s,u,v,w,Ev.step (fun k=>by rw [ie_.l2]) (Ev.pos (by omega) (Ev.pos (by omega) (Ev.pos (by omega) ?_)))⟩
      simp only [eL]
      refine Ev.bind hb (Ev.neg (by decide) ?_)
      rw [w1];exact h
theorem rib_l1 {n:Nat} (hn:n≤4194304) {t:List Int} (ht:PermL n t) {c:List Bool} (hc:c.length=n) {g:List Int} (hg:Pts n g) (hcg : ∀ d,d<n→rdOf false c (d:Int)=true→rdOf false c (fn g d:Int)=true) (x1:List Int) (t1:List Int) (o:List Int) (ho:Pts n o) :
    ∀ m i,n - i=m→i≤n → ∃ s u v w:Int,Ev (fun k=>ie_.l1 k x1 (n:Int) g (cntP (fun d=>decide (fn o d=d)) i:Nat) o (n:Int) (i:Int) t t1 c) [((cntP (fun d=>decide (fn o d=d)) n:Nat):Int),s,u,v,w]:=by
  have hl:=ho.1
  intro m
  induction m with
  | zero =>
    intro i hd hi
    obtain rfl:i=n:=by omega
    obtain⟨s,u,v,w,h⟩:=rib_l2 hn ht hc hg hcg x1 ((cntP (fun d=>decide (fn o d=d)) i:Nat):Int) t1 _ 0 rfl (by omega) 0
    exact⟨s,u,v,w,Ev.step (fun k=>by rw [ie_.l1]) (Ev.neg (by omega) (Ev.bind (impl_cyclesOf_ev i hn t ht) h))⟩
  | succ m ih =>
    intro i hd hi
    have l3:=cntP_le (fun d=>decide (fn o d=d)) i
    have w1:wrap64 ((i:Int)+1)=((i+1:Nat):Int):=(wrap64_id (by omega) (by omega)).trans (by omega)
    have e1:=ho.fn (show i<n by omega)
    obtain⟨s,u,v,w,h⟩:=ih (i+1) (by omega) (by omega)
    refine⟨s,u,v,w,Ev.step (fun k=>by rw [ie_.l1]) (Ev.pos (by omega) (Ev.pos (by omega) (Ev.pos (by omega) ?_)))⟩
    rw [w1,e1.1]
    simp only [cntP] at h
    by_cases q:fn o i=i
    · rw [if_pos (decide_eq_true q)] at h
      refine Ev.pos (by omega) ?_
      rw [wrap64_id (x:=((cntP (fun d=>decide (fn o d=d)) i:Nat):Int)+1) (by omega) (by omega)]
      exact h
    · rw [if_neg (by rw [decide_eq_false q];decide)] at h
      exact Ev.neg (by omega) h
/-- The flips of the edges that a list holds; whether a dart's edge is among them. -/
noncomputable def selF (f L:List Int):List Int:=(List.range f.length).map (fun d=>if dec (Holds L (edgeN f d:Int))=true then (fn f d:Int) else (d:Int))
noncomputable def selB (f L:List Int):List Bool:=(List.range f.length).map (fun d=>dec (Holds L (edgeN f d:Int)))
theorem selF_length (f L:List Int):(selF f L).length=f.length:=by simp [selF]
theorem selB_length (f L:List Int):(selB f L).length=f.length:=by simp [selB]
theorem rd_selF (f L:List Int) {d:Nat} (h:d<f.length):rd (selF f L) (d:Int)=if dec (Holds L (edgeN f d:Int))=true then (fn f d:Int) else (d:Int):=by
  rw [rd_nat _ _ (by rw [selF_length];exact h)];simp [selF]
theorem rd_selB (f L:List Int) {d:Nat} (h:d<f.length):rdOf false (selB f L) (d:Int)=dec (Holds L (edgeN f d:Int)):=by
  simp [rdOf,selB,h]
theorem selF_pts {n:Nat} {f:List Int} (hf:PairL n f) (L:List Int):Pts n (selF f L):=by
  have hl:=hf.pts.1
  refine⟨by rw [selF_length,hl],fun d hd => ?_⟩
  have:=(hf.pts.fn hd).2
  rw [rd_selF _ _ (by omega)]
  split <;> omega
theorem holds_nil (x:Int) : ¬ Holds ([]:List Int) x:=fun⟨j,hj,_⟩=>absurd hj (Nat.not_lt_zero _)
theorem holds_take (L:List Int) (i:Nat) (h:i<L.length) (x:Int):Holds (L.take (i+1)) x↔Holds (L.take i) x∨rd L (i:Int)=x:=by
  have rt : ∀ m j,j<m→j<L.length→rd (L.take m) (j:Int)=rd L (j:Int):=fun m j h1 h2=>by
    rw [rd_nat _ _ (by rw [List.length_take];omega),rd_nat _ _ h2,List.getElem_take]
  constructor
  · rintro⟨j,hj,e⟩
    rw [List.length_take] at hj
    by_cases q:j=i
    · subst q;rw [rt _ _ (by omega) h] at e;exact .inr e
    · rw [rt _ _ (by omega) (by omega)] at e
      exact .inl ⟨j,by rw [List.length_take];omega,by rw [rt _ _ (by omega) (by omega)];exact e⟩
  · rintro(⟨j,hj,e⟩|e)
    · rw [List.length_take] at hj
      rw [rt _ _ (by omega) (by omega)] at e
      exact⟨j,by rw [List.length_take];omega,by rw [rt _ _ (by omega) (by omega)];exact e⟩
    · exact⟨i,by rw [List.length_take];omega,by rw [rt _ _ (by omega) h];exact e⟩
theorem lows_at {n:Nat} {f:List Int} (hf:PairL n f) {e:Nat} (he:e<n / 2):rd (lowsL f n) (e:Int)=(ldart n f e:Int):=by
  obtain⟨s1,s2,s3⟩:=ldart_spec hf he
  have hh:=hf.half
  obtain⟨d,d1,d2,d3,d4⟩:=lowsL_at f n e (by omega)
  rw [d1,cnt_inj (lowD f) d3 s2 (d4.trans s3.symm)]
theorem impl_ribbon_ev {n:Nat} (hn:n≤4194304) {t f:List Int} (ht:PermL n t) (hf:PairL n f) (L:List Int) (hL : ∀ i:Nat,i<L.length→0≤rd L (i:Int)∧rd L (i:Int)<((n / 2:Nat):Int)) (hLn:L.length≤n) :
    ∃ s u v w:Int,Ev (fun k=>ie_.f k t f L) [((cntP (fun d=>decide (fn (orbL t (selF f L)) d=d)) n:Nat):Int),s,u,v,w]:=by
  have hl:=ht.1.1
  have hfl:=hf.pts.1
  have hh:=hf.half
  have hO:=orbL_isOrb ht.1 (selF_pts hf L)
  have ho:=hO.1.1
  have hop:Pts n (orbL t (selF f L)):=⟨ho,fun d hd=>by have:=hO.1.2 d hd;omega⟩
  have hcg : ∀ d,d<n→rdOf false (selB f L) (d:Int)=true→rdOf false (selB f L) (fn (selF f L) d:Int)=true:=by
    intro d hd q
    rw [rd_selB _ _ (by omega)] at q
    have e:fn (selF f L) d=fn f d:=by
      show(rd _ (d:Int)).toNat=_
      rw [rd_selF _ _ (by omega),if_pos q];rfl
    have h2:=(hf.pts.fn hd).2
    rw [e,rd_selB _ _ (by omega)]
    obtain⟨a,a1,a2,a3,a4⟩:=hf.low hd
    have:=hf.edge_of a1 a2
    have:edgeN f (fn f d)=edgeN f d:=by
      rcases a4 with rfl|rfl
      · rw [this.2,a3]
      · rw [hf.inv a a1,this.1,a3]
    rw [this];exact q
  obtain⟨s,u,v,w,h1⟩:=rib_l1 hn ht (by rw [selB_length,hfl]) (selF_pts hf L) hcg L f _ hop _ 0 rfl (by omega)
  have key : ∀ m i,L.length - i=m→i≤L.length→Ev (fun k=>ie_.l0 k L (n:Int) (selF f (L.take i)) L (L.length:Int) (i:Int) t f (selB f (L.take i))) [((cntP (fun d=>decide (fn (orbL t (selF f L)) d=d)) n:Nat):Int),s,u,v,w]:=by
    intro m
    induction m with
    | zero =>
      intro i hd hi
      obtain rfl:i=L.length:=by omega
      rw [List.take_length]
      refine Ev.step (fun k=>by rw [ie_.l0]) (Ev.neg (by omega) ?_)
      refine Ev.bind (impl_orbits_ev n hn t (selF f L) ht.1 (selF_pts hf L)) ?_
      rw [hop.1]
      exact h1
    | succ m ih =>
      intro i hd hi
      have hi':i<L.length:=by omega
      have w1:wrap64 ((i:Int)+1)=((i+1:Nat):Int):=(wrap64_id (by omega) (by omega)).trans (by omega)
      have nx:=ih (i+1) (by omega) (by omega)
      have hr:=hL i hi'
      obtain⟨e,he⟩ : ∃ e:Nat,rd L (i:Int)=(e:Int):=⟨(rd L (i:Int)).toNat,by omega⟩
      have he':e<n / 2:=by omega
      obtain⟨s1,s2,s3⟩:=ldart_spec hf he'
      have e1:=hf.pts.fn s1
      have hne:=hf.ne _ s1
      have lF:=selF_length f (L.take i)
      have lB:=selB_length f (L.take i)
      have hll:=lowsL_length f n
      have iff1 : ∀ d,d<n→(Holds (L.take (i+1)) (edgeN f d:Int)↔Holds (L.take i) (edgeN f d:Int)∨(d=ldart n f e∨d=fn f (ldart n f e))):=fun d hd=>by
        rw [holds_take L i hi',he,← edge_is hf he' hd]
        constructor
        · rintro(a|a)
          · exact .inl a
          · exact .inr (by omega)
        · rintro(a|a)
          · exact .inl a
          · exact .inr (by omega)
      have hF:((selF f (L.take i)).set (ldart n f e) (fn f (ldart n f e):Int)).set (fn f (ldart n f e)) (ldart n f e:Int)=selF f (L.take (i+1)):=by
        refine list_ext_rd (by simp [selF_length]) (fun d hd => ?_)
        have hd':d<n:=by simpa [selF_length,hfl] using hd
        rw [rd_selF _ _ (by omega)]
        by_cases c2:d=fn f (ldart n f e)
        · rw [if_pos (dec_t ((iff1 d hd').2 (.inr (.inr c2)))),c2,rd_set_self _ _ _ (by simp;omega),hf.inv _ s1]
        · rw [rd_set_ne _ _ _ _ (Ne.symm c2)]
          by_cases c1:d=ldart n f e
          · rw [if_pos (dec_t ((iff1 d hd').2 (.inr (.inl c1)))),c1,rd_set_self _ _ _ (by omega)]
          · rw [rd_set_ne _ _ _ _ (Ne.symm c1),rd_selF _ _ (by omega)]
            have:dec (Holds (L.take i) (edgeN f d:Int))=dec (Holds (L.take (i+1)) (edgeN f d:Int)):=by
              by_cases q:Holds (L.take i) (edgeN f d:Int)
              · rw [dec_t q,dec_t ((iff1 d hd').2 (.inl q))]
              · rw [dec_f q,dec_f (fun w=>by rcases (iff1 d hd').1 w with a|a;exact q a;rcases a with a|a;exact c1 a;exact c2 a)]
            rw [this]
      have hB:((selB f (L.take i)).set (ldart n f e) true).set (fn f (ldart n f e)) true=selB f (L.take (i+1)):=by
        refine List.ext_getElem (by simp [selB]) (fun d h1 h2 => ?_)
        have hd':d<n:=by simpa [selB_length,hfl] using h2
        rw [List.getElem_set,List.getElem_set]
        simp only [selB,List.getElem_map,List.getElem_range]
        by_cases c2:fn f (ldart n f e)=d
        · rw [if_pos c2,dec_t ((iff1 d hd').2 (.inr (.inr c2.symm)))]
        · rw [if_neg c2]
          by_cases c1:ldart n f e=d
          · rw [if_pos c1,dec_t ((iff1 d hd').2 (.inr (.inl c1.symm)))]
          · rw [if_neg c1]
            by_cases q:Holds (L.take i) (edgeN f d:Int)
            · rw [dec_t q,dec_t ((iff1 d hd').2 (.inl q))]
            · rw [dec_f q,dec_f (fun w=>by rcases (iff1 d hd').1 w with a|a;exact q a;rcases a with a|a;exact c1 a.symm;exact c2 a.symm)]
      refine Ev.step (fun k=>by rw [ie_.l0]) ?_
      refine Ev.pos (by omega) (Ev.pos (by omega) (Ev.pos (by omega) (Ev.bind (impl_edgesOf_ev n hn t f hf.pts) ?_)))
      rw [he,lows_at hf he',e1.1,w1]
      simp only [toNat_nat]
      rw [hF,hB]
      exact Ev.pos (by omega) (Ev.pos (by omega) (Ev.pos (by omega) (Ev.pos (by omega) (Ev.pos (by omega) (Ev.pos (by omega) (Ev.pos (by omega) (Ev.pos (by omega) (Ev.pos (by omega) nx))))))))
  refine⟨s,u,v,w,?_⟩
  have k0:=key _ 0 rfl (by omega)
  rw [List.take_zero] at k0
  have z1:selF f []=idL n:=by
    refine list_ext_rd (by rw [selF_length,idL_length,hfl]) (fun d hd => ?_)
    rw [selF_length] at hd
    rw [rd_selF _ _ hd,if_neg (by rw [dec_f (holds_nil _)];decide),rd_idL n d (by omega)]
  have z2:selB f []=List.replicate n false:=by
    refine List.ext_getElem (by simp [selB,hfl]) (fun d h1 h2 => ?_)
    simp only [selB,List.getElem_map,List.getElem_range,List.getElem_replicate]
    exact dec_f (holds_nil _)
  rw [z1,z2] at k0
  unfold ie_.f
  rw [hl]
  simp only [toNat_nat]
  refine Ev.pos (by omega) (Ev.pos (by omega) (Ev.bind (impl_still_ev n hn) ?_))
  exact k0
/-! ### impl_vertexOf -/
theorem impl_vertexOf_l1 {n : Nat} (hn : n ≤ 4194304) {t : List Int} (ht : PermL n t) {i : Nat} (hi : i < cyc n (fn t)) (r : List Int)
    (hr : ∀ o:List Int,o.length=n→(∀ x:Nat,x<n→vtx n t x<i+1→rd o (x:Int)=(vtx n t x:Int))→Ev (fun k=>ig_.l0 k o (cycL n (fn t)) ((cycL n (fn t)).length:Int) ((i+1:Nat):Int)) r) :
    ∀ d j,(rdL (cycL n (fn t)) (i:Int)).length - j=d→j≤(rdL (cycL n (fn t)) (i:Int)).length → ∀ o:List Int,o.length=n→(∀ x:Nat,x<n→vtx n t x<i→rd o (x:Int)=(vtx n t x:Int))→(∀ q:Nat,q<j→rd o (rd (rdL (cycL n (fn t)) (i:Int)) (q:Int))=(i:Int)) →
      Ev (fun k=>ig_.l1 k o (i:Nat) (cycL n (fn t)) ((cycL n (fn t)).length:Int) (i:Nat) (rdL (cycL n (fn t)) (i:Int)) ((rdL (cycL n (fn t)) (i:Int)).length:Int) (j:Nat)) r:=by
  have hcl:=cycL_length n (fn t)
  have hF:Face n (rdL (cycL n (fn t)) (i:Int)):=cycL_face ht.perm (by rw [hcl];exact hi)
  have hcy:=cyc_le n (fn t)
  have hH:=fun(x:Nat) (hx:x<n)=>holds_iff ht hi hx
  generalize rdL (cycL n (fn t)) (i:Int)=face at hF hH
  intro d
  induction d with
  | zero =>
    intro j hd hj o ho h1 h2
    obtain rfl:j=face.length:=by omega
    refine Ev.step (fun k=>by rw [ig_.l1]) ?_
    refine Ev.neg (by omega) ?_
    rw [wrap64_id (x:=(i:Int)+1) (by omega) (by omega)]
    refine hr o ho (fun x hx hv => ?_)
    by_cases w:vtx n t x<i
    · exact h1 x hx w
    · have e:vtx n t x=i:=by omega
      obtain⟨q,q1,q2⟩:=(hH x hx).2 e
      rw [e,← h2 q q1,q2]
  | succ d ih =>
    intro j hd hj o ho h1 h2
    have hj':j<face.length:=by omega
    obtain⟨a1,a2⟩:=hF.fn hj'
    have hlen:=hF.1
    refine Ev.step (fun k=>by rw [ig_.l1]) ?_
    rw [a1,wrap64_id (x:=(j:Int)+1) (by omega) (by omega)]
    simp only [Int.toNat_natCast]
    refine Ev.pos (by omega) (Ev.pos (by omega) (Ev.pos (by omega) (Ev.pos (by omega) (Ev.pos (by omega) ?_))))
    have hvx:vtx n t (fn face j)=i:=(hH _ a2).1 ⟨j,hj',a1⟩
    refine ih (j+1) (by omega) (by omega) _ (by simp [ho]) (fun x hx hv => ?_) (fun q hq => ?_)
    · have hne:fn face j≠x:=fun w=>by rw [w] at hvx;omega
      rw [rd_set_ne _ _ _ _ hne];exact h1 x hx hv
    · obtain⟨b1,b2⟩:=hF.fn (show q<face.length by omega)
      rw [b1]
      by_cases w:fn face j=fn face q
      · rw [w,rd_set_self _ _ _ (by omega)]
      · rw [rd_set_ne _ _ _ _ w]
        have hqj:q<j:=by
          by_cases z:q=j
          · subst z;exact absurd rfl w
          · omega
        have:=h2 q hqj
        rwa [b1] at this
theorem impl_vertexOf_ev {n:Nat} (hn:n≤4194304) {t f:List Int} (ht:PermL n t):Ev (fun k=>ig_.f k t f) (vtxL n t):=by
  have eL : ∀ (xs:List (List Int)) (i:Int),rd_L1 xs i=rdL xs i:=fun _ _=>rfl
  have hl:=ht.1.1
  have hcl:=cycL_length n (fn t)
  have hcy:=cyc_le n (fn t)
  have key : ∀ d i,cyc n (fn t) - i=d→i≤cyc n (fn t) → ∀ o:List Int,o.length=n→(∀ x:Nat,x<n→vtx n t x<i→rd o (x:Int)=(vtx n t x:Int))→Ev (fun k=>ig_.l0 k o (cycL n (fn t)) ((cycL n (fn t)).length:Int) (i:Nat)) (vtxL n t):=by
    intro d
    induction d with
    | zero =>
      intro i hd hi o ho h1
      refine Ev.step (fun k=>by rw [ig_.l0]) ?_
      refine Ev.neg (by omega) (Ev.const ?_)
      congr 1
      refine list_ext_rd (by rw [ho,vtxL_length]) (fun x hx => ?_)
      have:=vtx_lt t (show x<n by omega)
      rw [h1 x (by omega) (by omega),rd_vtxL _ _ _ (by omega)]
    | succ d ih =>
      intro i hd hi o ho h1
      refine Ev.step (fun k=>by rw [ig_.l0]) ?_
      refine Ev.pos (by omega) (Ev.pos (by omega) (Ev.pos (by omega) ?_))
      simp only [eL]
      exact impl_vertexOf_l1 hn ht (show i<cyc n (fn t) by omega) _ (fun o' ho' h'=>ih (i+1) (by omega) (by omega) o' ho' h') _ 0 rfl (by omega) o ho h1 (fun q hq=>absurd hq (by omega))
  unfold ig_.f
  rw [hl]
  refine Ev.pos (by omega) (Ev.pos (by omega) (Ev.bind (impl_cyclesOf_ev n hn t ht) ?_))
  simp only [Int.toNat_natCast]
  exact key _ 0 rfl (by omega) _ (by simp) (fun x hx hv=>absurd hv (by omega))
/-! ### impl_ChoiceValid -/
theorem impl_ChoiceValid_one {t f:List Int} (h:MOK t f) {e:Nat} (he:e<f.length / 2):Ev (fun k=>i1_.f k t f [(e:Int)]) true:=by
  have hz:=h.size
  have r0:rd [(e:Int)] 0=(e:Int):=rfl
  have w2:wrap64 ((f.length:Int) / 2)=(f.length:Int) / 2:=wrap64_id (by omega) (by omega)
  have w3:wrap64 (0+1)=1:=(wrap64_id (by omega) (by omega)).trans (by omega)
  unfold i1_.f
  refine Ev.bind (impl_MapValid_ev t f) ?_
  refine Ev.pos (dec_t h) ?_
  refine Ev.step (fun k=>by rw [i1_.l0]) ?_
  rw [r0,w2,w3]
  clear w2 w3
  refine Ev.pos (by simp) (Ev.pos (by omega) (Ev.pos (by simp) ?_))
  refine Ev.neg (by omega) (Ev.neg (by omega) (Ev.neg (by omega) ?_))
  exact Ev.step (fun k=>by rw [i1_.l0]) (Ev.neg (by simp) (Ev.const rfl))
/-! ### slices_Index_int_int -/
theorem slices_Index_ev (l:List Int) (a:Int) (hl:l.length≤4611686018427387904) : ∃ r,Ev (fun k=>sp_.f k l a) r∧(r≥0↔a ∈ l):=by
  have key : ∀ d i,l.length - i=d→i≤l.length→(∀ q:Nat,q<i→rd l (q:Int)≠a) → ∃ r,Ev (fun k=>sp_.l0 k l a (l.length:Int) (i:Nat)) r∧(r≥0↔a ∈ l):=by
    intro d
    induction d with
    | zero =>
      intro i hd hi hq
      refine⟨-1,Ev.step (fun k=>by rw [sp_.l0]) (Ev.neg (by omega) (Ev.const rfl)),fun h=>absurd h (by omega),fun h => ?_⟩
      obtain⟨j,hj,e⟩:=List.mem_iff_getElem.1 h
      exact absurd (by rw [rd_nat l j hj];exact e) (hq j (by omega))
    | succ d ih =>
      intro i hd hi hq
      by_cases e:a=rd l (i:Int)
      · refine⟨(i:Int),Ev.step (fun k=>by rw [sp_.l0]) (Ev.pos (by omega) (Ev.pos (by omega) (Ev.pos (by omega) (Ev.pos e (Ev.const rfl))))),fun _ => ?_,fun _=>by omega⟩
        rw [e,rd_nat l i (by omega)]
        exact List.getElem_mem _
      · obtain⟨r,h1,h2⟩:=ih (i+1) (by omega) (by omega) (fun q hqi=>by
          by_cases eq:q=i
          · subst eq;exact fun w=>e w.symm
          · exact hq q (by omega))
        refine⟨r,Ev.step (fun k=>by rw [sp_.l0]) (Ev.pos (by omega) (Ev.pos (by omega) (Ev.pos (by omega) (Ev.neg e ?_)))),h2⟩
        rw [wrap64_id (by omega) (by omega)]
        exact h1
  unfold sp_.f
  exact key l.length 0 (by omega) (by omega) (fun q hq=>by omega)
/-! ### slices_Contains_int_int -/
theorem slices_Contains_ev (l:List Int) (a:Int) (hl:l.length≤4611686018427387904):Ev (fun k=>so_.f k l a) (decide (a ∈ l)):=by
  obtain⟨r,h1,h2⟩:=slices_Index_ev l a hl
  unfold so_.f
  refine Ev.bind h1 (Ev.const ?_)
  congr 1
  exact decide_eq_decide.2 h2
/-! ### impl_ChoiceRest -/
theorem impl_ChoiceRest_one {t f:List Int} (h:MOK t f) {e:Nat} (he:e<f.length / 2):Ev (fun k=>i0_.f k t f [(e:Int)]) (restL e (f.length / 2),true):=by
  have hz:=h.size
  have w2:wrap64 ((f.length:Int) / 2)=((f.length / 2:Nat):Int):=(wrap64_id (by omega) (by omega)).trans (by omega)
  have key : ∀ d i,f.length / 2 - i=d→i≤f.length / 2→Ev (fun k=>i0_.l0 k [(e:Int)] (restL e i) ((f.length / 2:Nat):Int) (i:Nat)) (restL e (f.length / 2),true):=by
    intro d
    induction d with
    | zero =>
      intro i hd hi
      obtain rfl:i=f.length / 2:=by omega
      exact Ev.step (fun k=>by rw [i0_.l0]) (Ev.neg (by omega) (Ev.const rfl))
    | succ d ih =>
      intro i hd hi
      have nx:=ih (i+1) (by omega) (by omega)
      have l3:=restL_length e i
      have hh:=slices_Contains_ev [(e:Int)] (i:Int) (by simp)
      refine Ev.step (fun k=>by rw [i0_.l0]) ?_
      rw [show wrap64 ((i:Int)+1)=((i+1:Nat):Int) from(wrap64_id (by omega) (by omega)).trans (by omega)]
      refine Ev.pos (by omega) (Ev.bind hh ?_)
      by_cases c:i=e
      · subst c
        rw [restL_neg] at nx
        exact Ev.pos (by simp) nx
      · rw [restL_pos c] at nx
        exact Ev.neg (by simp;omega) (Ev.pos (by omega) nx)
  have k0:=key _ 0 rfl (by omega)
  unfold i0_.f
  refine Ev.bind (impl_ChoiceValid_one h he) (Ev.pos rfl ?_)
  rw [w2]
  exact k0
/-! ### impl_EdgeKind -/
theorem sel_rest {n:Nat} {f:List Int} (hf:PairL n f) {e:Nat} (he:e<n / 2):selF f (restL e (n / 2))=dropE f (ldart n f e):=by
  obtain⟨s1,s2,s3⟩:=ldart_spec hf he
  have hp:=pts_dropE hf s1
  have hl:=hf.pts.1
  refine list_ext_rd (by rw [selF_length,hp.1,hl]) (fun d hd => ?_)
  rw [selF_length] at hd
  have hd':d<n:=by omega
  have e2:=hf.pts.fn hd'
  rw [rd_selF _ _ hd,(hp.fn hd').1,fn_dropE hf s1 hd']
  by_cases q:d=ldart n f e∨d=fn f (ldart n f e)
  · rw [if_pos q,if_neg (by rw [dec_f (fun w=>(rest_drop hf he hd').1 w q)];decide)]
  · rw [if_neg q,if_pos (dec_t ((rest_drop hf he hd').2 q))]
theorem restL_rd (e m:Nat) (i:Nat) (h:i<(restL e m).length):0≤rd (restL e m) (i:Int)∧rd (restL e m) (i:Int)<(m:Int):=by
  have hm:rd (restL e m) (i:Int) ∈ restL e m:=by rw [rd_nat _ _ h];exact List.getElem_mem h
  unfold restL at hm
  simp only [List.mem_map,List.mem_filter,List.mem_range] at hm
  obtain⟨a,⟨h1,_⟩,h3⟩:=hm
  unfold restL
  omega
theorem impl_EdgeKind_ev (t f:List Int) (e:Int):Ev (fun k=>i4_.f k t f e) (kindZ t f e):=by
  have no:kindZ t f e = -1→Ev (fun k=>i4_.j0 k e true t f) (kindZ t f e):=fun q=>by
    rw [q]
    exact Ev.step (fun k=>by rw [i4_.j0]) (Ev.pos rfl (Ev.const rfl))
  unfold i4_.f
  refine Ev.bind (impl_MapValid_ev t f) ?_
  by_cases h:MOK t f
  · have hz:=h.size
    have w2:wrap64 ((f.length:Int) / 2)=((t.length / 2:Nat):Int):=(wrap64_id (by omega) (by omega)).trans (by omega)
    refine Ev.pos (dec_t h) ?_
    rw [w2]
    clear w2
    by_cases h0:e<0
    · refine Ev.pos h0 (no ?_)
      unfold kindZ
      rw [if_neg (by rw [dec_f (fun w=>by have:=w.2.1;omega)];decide)]
    refine Ev.neg h0 ?_
    by_cases h1:e≥((t.length / 2:Nat):Int)
    · rw [decide_eq_true h1]
      refine no ?_
      unfold kindZ
      rw [if_neg (by rw [dec_f (fun w=>by have:=w.2.2;omega)];decide)]
    · rw [decide_eq_false h1]
      obtain⟨c,rfl⟩ : ∃ c:Nat,e=c:=⟨e.toNat,by omega⟩
      have hc:c<t.length / 2:=by omega
      have hp:=h.pair
      have hh:=hp.half
      obtain⟨s1,s2,s3⟩:=ldart_spec hp hc
      have e1:=hp.pts.fn s1
      have hv:=vtxL_length t.length t
      have hN:=parts_two h s1
      have hll:=lowsL_length f t.length
      have hk:kindZ t f (c:Int)=if rd (vtxL t.length t) (ldart t.length f c:Int)=rd (vtxL t.length t) (fn f (ldart t.length f c):Int) then 2 else (partsN t f (ldart t.length f c):Int) - 1:=by
        unfold kindZ;rw [if_pos (dec_t ⟨h,by omega,by omega⟩)];rfl
      have hr2:=restL_length c (t.length / 2)
      obtain⟨s,u,v,w,hr⟩:=impl_ribbon_ev (n:=t.length) (by omega) h.permT hp (restL c (t.length / 2)) (restL_rd c _) (by omega)
      rw [sel_rest hp hc] at hr
      have hrest:=impl_ChoiceRest_one h (e:=c) (by omega)
      rw [show f.length / 2=t.length / 2 by omega] at hrest
      rw [hk]
      refine Ev.step (fun k=>by rw [i4_.j0]) ?_
      refine Ev.neg (by decide) (Ev.bind (impl_edgesOf_ev t.length (by omega) t f hp.pts) ?_)
      rw [lows_at hp hc,e1.1]
      refine Ev.pos (by omega) (Ev.pos (by omega) (Ev.bind (impl_vertexOf_ev (by omega) h.permT) ?_))
      refine Ev.pos (by omega) (Ev.pos (by omega) (Ev.pos (by omega) (Ev.pos (by omega) (Ev.pos (by omega) ?_))))
      by_cases q:rd (vtxL t.length t) (ldart t.length f c:Int)=rd (vtxL t.length t) (fn f (ldart t.length f c):Int)
      · rw [if_pos q]
        exact Ev.pos q (Ev.const rfl)
      · rw [if_neg q]
        have hN':partsN t f (ldart t.length f c)=1∨partsN t f (ldart t.length f c)=2:=hN
        refine Ev.neg q (Ev.bind hrest (Ev.bind hr (Ev.pos (by simp) ?_)))
        have r0:rd [((cntP (fun d=>decide (fn (orbL t (dropE f (ldart t.length f c))) d=d)) t.length:Nat):Int),s,u,v,w] 0=(partsN t f (ldart t.length f c):Int):=rfl
        rw [r0]
        rcases hN' with p|p
        · rw [p];exact Ev.neg (by decide) (Ev.const rfl)
        · rw [p];exact Ev.pos (by decide) (Ev.const rfl)
  · refine Ev.neg (by rw [dec_f h];decide) (no ?_)
    unfold kindZ
    rw [if_neg (by rw [dec_f (fun w=>h w.1)];decide)]
/-! ### impl_EdgeContract_1 -/
theorem ec_step {n : Nat} {t f : List Int} (ht : PermL n t) (hf : PairL n f) {a x : Nat} (ha : a < n) (hx : x = a ∨ x = fn f a) (r : Int)
    (h:Ev (fun k=>i3_.f k t f (a:Int) (fn f a:Int) (fn (swE t a (fn f a)) x:Int)) r):Ev (fun k=>i3_.f k t f (a:Int) (fn f a:Int) (x:Int)) r:=by
  have hl:=ht.1.1
  have hfl:=hf.pts.1
  have hb:=(hf.pts.fn ha).2
  have hab:a≠fn f a:=(hf.ne a ha).symm
  have hxn:x<n:=by rcases hx with rfl|rfl <;> assumption
  have e1:=hf.pts.fn hxn
  have e2:=ht.1.fn e1.2
  have key:fn (swE t a (fn f a)) x=fn t (fn f x):=by
    rw [fn_swE hl ha hb hab]
    rcases hx with rfl|rfl
    · rw [if_pos rfl]
    · rw [if_neg (Ne.symm hab),if_pos rfl,hf.inv a ha]
  rw [key] at h
  refine Ev.step (fun k=>by rw [i3_.f]) ?_
  rw [e1.1,e2.1]
  exact Ev.pos (by omega) (Ev.pos (by omega) (Ev.pos (by omega) (Ev.pos (by omega) (Ev.pos (by omega) h))))
theorem ec_stop {t f:List Int} {a b x:Nat} (hx : ¬ (x=a∨x=b)):Ev (fun k=>i3_.f k t f (a:Int) (b:Int) (x:Int)) (x:Int):=by
  exact Ev.step (fun k=>by rw [i3_.f]) (Ev.neg (by omega) (Ev.const rfl))
theorem impl_EdgeContract_1_ev {n:Nat} {t f:List Int} (ht:PermL n t) (hf:PairL n f) {a d:Nat} (ha:a<n) (hd:d<n) (h1:d≠a) (h2:d≠fn f a) :
    Ev (fun k=>i3_.f k t f (a:Int) (fn f a:Int) (fn t d:Int)) (pst (swE t a (fn f a)) a (fn f a) (fn (swE t a (fn f a)) d):Int):=by
  have hb:=(hf.pts.fn ha).2
  have hab:a≠fn f a:=(hf.ne a ha).symm
  have hs:=swE_perm ht ha hb hab
  obtain⟨p1,p2,p3⟩:=pst_out hs ha hb hab hd h1 h2
  have hsd:fn t d=fn (swE t a (fn f a)) d:=by rw [fn_swE ht.1.1 ha hb hab,if_neg h1,if_neg h2]
  rw [hsd]
  have stop:=ec_stop (t:=t) (f:=f) (a:=a) (b:=fn f a) (x:=pst (swE t a (fn f a)) a (fn f a) (fn (swE t a (fn f a)) d)) (by omega)
  rcases pst_case (swE t a (fn f a)) a (fn f a) d with p|⟨x,hx,ex,p|⟨y,hy,ey,p⟩⟩
  · rw [p] at stop;rw [p];exact stop
  · rw [p] at stop ⊢
    rw [ex]
    exact ec_step ht hf ha hx _ stop
  · rw [p] at stop ⊢
    rw [ex]
    refine ec_step ht hf ha hx _ ?_
    rw [ey]
    exact ec_step ht hf ha hy _ stop
/-! ### impl_leftOut -/
theorem impl_leftOut_ev {n:Nat} (hn:n≤1048576) {t f:List Int} (ht:PermL n t) (hf:PairL n f) {a:Nat} (ha:a<n):Ev (fun k=>ib_.f k t f (a:Int) (fn f a:Int)) (outL (offB a (fn f a)) (fun d=>pst (swE t a (fn f a)) a (fn f a) (fn (swE t a (fn f a)) d)) n,outL (offB a (fn f a)) (fn f) n):=by
  have lt:=ht.1.1
  have lf:=hf.pts.1
  have hb:=(hf.pts.fn ha).2
  have hab:a≠fn f a:=(hf.ne a ha).symm
  have hs:=swE_perm ht ha hb hab
  have hq:=fun d (hd:d<n) (ho:offB a (fn f a) d=true)=>impl_EdgeContract_1_ev ht hf ha hd (offB_iff.1 ho).1 (offB_iff.1 ho).2
  have hg:=fun d (hd:d<n) (ho:offB a (fn f a) d=true)=>(pst_out hs ha hb hab hd (offB_iff.1 ho).1 (offB_iff.1 ho).2).1
  generalize swE t a (fn f a)=s at *
  generalize hbe:fn f a=b at *
  have two : ∀ d i,n - i=d→i≤n→Ev (fun k=>ib_.l1 k (a:Int) (b:Int) (nmPart (offB a b) n n) (n:Int) (i:Nat) t f (outL (offB a b) (fun d=>pst s a b (fn s d)) i) (outL (offB a b) (fn f) i)) (outL (offB a b) (fun d=>pst s a b (fn s d)) n,outL (offB a b) (fn f) n):=by
    intro d
    induction d with
    | zero =>
      intro i hd hi
      obtain rfl:i=n:=by omega
      exact Ev.step (fun k=>by rw [ib_.l1]) (Ev.neg (by omega) (Ev.const rfl))
    | succ d ih =>
      intro i hd hi
      have hi':i<n:=by omega
      have nx:=ih (i+1) (by omega) (by omega)
      have e1:=ht.1.fn hi'
      have e2:=hf.pts.fn hi'
      have l1:=outL_length (offB a b) (fun d=>pst s a b (fn s d)) i
      have l2:=outL_length (offB a b) (fn f) i
      have l3:=cntP_le (offB a b) i
      refine Ev.step (fun k=>by rw [ib_.l1]) ?_
      rw [wrap64_id (x:=(i:Int)+1) (by omega) (by omega)]
      refine Ev.pos (by omega) ?_
      by_cases ca:i=a
      · have o : ¬ offB a b i=true:=fun w=>(offB_iff.1 w).1 ca
        rw [outL_neg _ _ o,outL_neg _ _ o] at nx
        exact Ev.pos (by omega) nx
      · refine Ev.neg (by omega) ?_
        by_cases cb:i=b
        · have o : ¬ offB a b i=true:=fun w=>(offB_iff.1 w).2 cb
          rw [outL_neg _ _ o,outL_neg _ _ o] at nx
          exact Ev.pos (by omega) nx
        · have o:offB a b i=true:=offB_iff.2 ⟨ca,cb⟩
          have g1:=hg i hi' o
          have q1:=hq i hi' o
          rw [outL_pos _ _ o,outL_pos _ _ o] at nx
          refine Ev.neg (by omega) (Ev.pos (by omega) (Ev.pos (by omega) ?_))
          rw [e1.1,e2.1]
          refine Ev.bind q1 ?_
          rw [rd_nmPart _ g1,rd_nmPart _ e2.2]
          simp only [nmPart_length]
          exact Ev.pos (by omega) (Ev.pos (by omega) (Ev.pos (by omega) (Ev.pos (by omega) (Ev.pos (by omega) (Ev.pos (by omega) (Ev.pos (by omega) nx))))))
  have t0:Ev (fun k=>ib_.l1 k (a:Int) (b:Int) (nmPart (offB a b) n n) (n:Int) 0 t f [] []) (outL (offB a b) (fun d=>pst s a b (fn s d)) n,outL (offB a b) (fn f) n):=two n 0 (by omega) (by omega)
  have one : ∀ d i,n - i=d→i≤n→Ev (fun k=>ib_.l0 k (a:Int) (b:Int) (nmPart (offB a b) n i) (cntP (offB a b) i:Nat) (n:Int) (i:Nat) t f) (outL (offB a b) (fun d=>pst s a b (fn s d)) n,outL (offB a b) (fn f) n):=by
    intro d
    induction d with
    | zero =>
      intro i hd hi
      obtain rfl:i=n:=by omega
      refine Ev.step (fun k=>by rw [ib_.l0]) (Ev.neg (by omega) ?_)
      rw [lt];exact t0
    | succ d ih =>
      intro i hd hi
      have nx:=ih (i+1) (by omega) (by omega)
      have l3:=cntP_le (offB a b) i
      simp only [cntP] at nx
      refine Ev.step (fun k=>by rw [ib_.l0]) ?_
      rw [wrap64_id (x:=(i:Int)+1) (by omega) (by omega),wrap64_id (x:=(cntP (offB a b) i:Int)+1) (by omega) (by omega)]
      simp only [toNat_nat,nmPart_length]
      rw [nmPart_set]
      refine Ev.pos (by omega) (Ev.pos (by omega) (Ev.pos (by omega) (Ev.bindc rfl ?_)))
      by_cases ca:i=a
      · have o : ¬ offB a b i=true:=fun w=>(offB_iff.1 w).1 ca
        rw [if_neg o] at nx
        exact Ev.pos (by omega) nx
      · refine Ev.neg (by omega) ?_
        by_cases cb:i=b
        · have o : ¬ offB a b i=true:=fun w=>(offB_iff.1 w).2 cb
          rw [if_neg o] at nx
          exact Ev.pos (by omega) nx
        · have o:offB a b i=true:=offB_iff.2 ⟨ca,cb⟩
          rw [if_pos o] at nx
          exact Ev.neg (by omega) nx
  have k0:=one n 0 (by omega) (by omega)
  rw [nmPart_none] at k0
  unfold ib_.f
  rw [lt]
  simp only [toNat_nat]
  refine Ev.pos (by omega) (Ev.pos (by omega) (Ev.bindc rfl ?_))
  rw [List.length_replicate]
  exact k0
/-! ### impl_EdgeContract -/
theorem impl_EdgeContract_ev (t f:List Int) (e:Int):Ev (fun k=>i2_.f k t f e) (ctM t f e):=by
  have no:ctM t f e=([],[],false)→Ev (fun k=>i2_.j0 k e true t f) (ctM t f e):=fun q=>by
    rw [q]
    exact Ev.step (fun k=>by rw [i2_.j0]) (Ev.pos rfl (Ev.const rfl))
  unfold i2_.f
  refine Ev.bind (impl_EdgeKind_ev t f e) ?_
  by_cases hv:MOK t f∧0≤e∧e<((t.length / 2:Nat):Int)
  · obtain⟨h,he0,he1⟩:=hv
    obtain⟨c,rfl⟩ : ∃ c:Nat,e=c:=⟨e.toNat,by omega⟩
    have hc:c<t.length / 2:=by omega
    have hz:=h.size
    have hp:=h.pair
    have hh:=hp.half
    have hll:=lowsL_length f t.length
    obtain⟨s1,s2,s3⟩:=ldart_spec hp hc
    have hk0:0≤kindZ t f (c:Int):=by
      unfold kindZ
      rw [if_pos (dec_t ⟨h,by omega,by omega⟩)]
      have:partsN t f (ldart t.length f (c:Int).toNat)=1∨partsN t f (ldart t.length f (c:Int).toNat)=2:=parts_two h s1
      split <;> omega
    refine Ev.neg (by omega) ?_
    by_cases k2:kindZ t f (c:Int)=2
    · refine Ev.pos k2 (no ?_)
      unfold ctM;rw [if_neg (by rw [dec_f (fun w=>w.2.1 k2)];decide)]
    · refine Ev.neg k2 ?_
      by_cases n2:t.length=2
      · rw [show((f.length:Int) == 2)=true by simp;omega]
        refine no ?_
        unfold ctM;rw [if_neg (by rw [dec_f (fun w=>w.2.2 n2)];decide)]
      · rw [show((f.length:Int) == 2)=false by simp;omega]
        have hM:ctM t f (c:Int)=(ctT t f (ldart t.length f c),ctF t f (ldart t.length f c),true):=by
          unfold ctM;rw [if_pos (dec_t ⟨⟨h,by omega,by omega⟩,k2,n2⟩)];rfl
        rw [hM]
        have e1:=hp.pts.fn s1
        refine Ev.step (fun k=>by rw [i2_.j0]) ?_
        refine Ev.neg (by decide) (Ev.bind (impl_edgesOf_ev t.length (by omega) t f hp.pts) ?_)
        rw [lows_at hp hc,e1.1]
        exact Ev.pos (by omega) (Ev.pos (by omega) (Ev.pos (by omega) (Ev.pos (by omega) (Ev.bind (impl_leftOut_ev (by omega) h.permT hp s1) (Ev.const rfl)))))
  · have q:ctM t f e=([],[],false):=by unfold ctM;rw [if_neg (by rw [dec_f (fun w=>hv w.1)];decide)]
    have hk:kindZ t f e = -1:=by unfold kindZ;rw [if_neg (by rw [dec_f hv];decide)]
    exact Ev.pos (by omega) (no q)
/-! ### impl_PermText -/
theorem ptx_inner {c:List Int} (h:Lo c) : ∀ x:Int,1≤x → ∃ t,i7_.inner x c=some t∧t.data.toList=jT c:=by
  induction c with
  | nil=>intro x hx;exact⟨⟨#[]⟩,by unfold i7_.inner;rfl,rfl⟩
  | cons v c ih =>
    intro x hx
    have hv:=h v (by simp)
    obtain⟨t,h1,h2⟩:=ih (fun w hw=>h w (by simp [hw])) (x+1) (by omega)
    refine⟨_,by rw [i7_.inner,if_pos (by omega),h1];rfl,?_⟩
    have e:i7_.sg x=⟨#[44]⟩:=by unfold i7_.sg;rw [if_neg (by omega)]
    rw [e]
    simp [i7_.dg,h2,jT,dB]
theorem ptx_first {c:List Int} (h:Lo c) (hl:1≤c.length) : ∃ t,i7_.inner 0 c=some t∧t.data.toList=40 :: jC c:=by
  cases c with
  | nil=>simp at hl
  | cons v c =>
    have hv:=h v (by simp)
    obtain⟨t,h1,h2⟩:=ptx_inner (fun w hw=>h w (by simp [hw]):Lo c) 1 (by omega)
    refine⟨_,by rw [i7_.inner,if_pos (by omega),show(0:Int)+1=1 from rfl,h1];rfl,?_⟩
    have e:i7_.sg 0=⟨#[40]⟩:=by unfold i7_.sg;rw [if_pos rfl]
    rw [e]
    simp [i7_.dg,h2,jC,dB]
theorem ptx_outer {cs:List (List Int)} (h : ∀ c ∈ cs,Lo c):i7_.outer cs=some ⟨(tP cs).toArray⟩:=by
  induction cs with
  | nil=>rfl
  | cons c cs ih =>
    have ih':=ih (fun d hd=>h d (by simp [hd]))
    simp only [i7_.outer,tP]
    split
    · exact ih'
    · obtain⟨t,h1,h2⟩:=ptx_first (h c (by simp)) (by omega)
      rw [h1,ih']
      simp only [Option.bind_some]
      refine congrArg some (xs_toList_inj ?_)
      simp [h2,tC]
theorem impl_PermText_ev {p:List Int} (h:POK p):Ev (fun k=>i7_.f k p) (pTxt p):=by
  unfold i7_.f
  refine Ev.bindc (impl_PermValid_eq p) ?_
  refine Ev.pos (dec_t h) ?_
  have h12:=h.1.2
  refine Ev.bind (impl_cyclesOf_ev p.length (by omega) p h.2) ?_
  refine Ev.bindc (ptx_outer (cyP_lo h)) ?_
  have hs:(⟨(tP (cycL p.length (fn p))).toArray⟩:ByteArray).size=(txP p).length:=by show(tP (cyP p)).toArray.size=_;simp [txP]
  have hl:=txP_len h
  refine Ev.pos ⟨by rw [hs];omega,?_,fun c hc => ?_⟩ ?_
  · rw [cycL_length];have:=cyc_le p.length (fn p);omega
  · obtain⟨i,hi,e⟩:=List.getElem_of_mem hc
    have:=(cycL_face h.2.perm hi).1
    rw [rdL_nat _ _ hi,e] at this
    omega
  · unfold pTxt
    by_cases e:txP p = []
    · rw [if_pos e]
      exact Ev.pos (by rw [hs,e];rfl) (Ev.const rfl)
    · rw [if_neg e]
      refine Ev.neg (fun w=>e ?_) (Ev.const rfl)
      rw [hs] at w
      exact List.length_eq_zero_iff.1 w
/-! ### impl_numberOf -/
theorem impl_numberOf_ex (s:ByteArray) : ∃ n,Ev (fun k=>ic_.f k s) n:=by
  have key : ∀ d i n,s.size - i=d→i≤s.size→s.size≤2 → ∃ r,Ev (fun k=>ic_.l0 k s n (s.size:Int) (i:Nat)) r:=by
    intro d
    induction d with
    | zero =>
      intro i n hd hi hs
      exact⟨n,Ev.step (fun k=>by rw [ic_.l0]) (Ev.neg (by omega) (Ev.const rfl))⟩
    | succ d ih =>
      intro i n hd hi hs
      obtain⟨r,hr⟩:=ih (i+1) (wrap64 ((wrap64 (n*10))+(((bt s (i:Nat)) - 48) % 256))) (by omega) (by omega) hs
      by_cases h1:bt s (i:Nat)<48
      · exact⟨-1,Ev.step (fun k=>by rw [ic_.l0]) (Ev.pos (by omega) (Ev.pos (by omega) (Ev.pos (by omega) (Ev.pos h1 (Ev.const rfl)))))⟩
      · by_cases h2:bt s (i:Nat)>57
        · exact⟨-1,Ev.step (fun k=>by rw [ic_.l0]) (Ev.pos (by omega) (Ev.pos (by omega) (Ev.pos (by omega) (Ev.neg h1 (Ev.pos h2 (Ev.const rfl))))))⟩
        · refine⟨r,Ev.step (fun k=>by rw [ic_.l0]) (Ev.pos (by omega) (Ev.pos (by omega) (Ev.pos (by omega) (Ev.neg h1 (Ev.neg h2 ?_)))))⟩
          rw [wrap64_id (x:=((i:Nat):Int)+1) (by omega) (by omega)]
          exact hr
  by_cases h0:(s.size:Int)<1
  · refine⟨-1,?_⟩
    unfold ic_.f
    refine Ev.pos h0 (Ev.step (fun k=>by rw [ic_.j0]) (Ev.pos rfl (Ev.const rfl)))
  · by_cases h2:(s.size:Int)>2
    · refine⟨-1,?_⟩
      unfold ic_.f
      refine Ev.neg h0 (Ev.step (fun k=>by rw [ic_.j0]) (Ev.pos (decide_eq_true h2) (Ev.const rfl)))
    · obtain⟨r,hr⟩:=key _ 0 0 rfl (by omega) (by omega)
      refine⟨r,?_⟩
      unfold ic_.f
      refine Ev.neg h0 (Ev.step (fun k=>by rw [ic_.j0]) ?_)
      exact Ev.neg (by rw [decide_eq_false h2];decide) hr
theorem dec_one : ∀ n:Fin 10,(⟨(Lib.decDigits n.val).toArray⟩:ByteArray).size=1∧bt ⟨(Lib.decDigits n.val).toArray⟩ 0=48+(n.val:Int):=by decide +kernel
theorem dec_two : ∀ n:Fin 100,10≤n.val→(⟨(Lib.decDigits n.val).toArray⟩:ByteArray).size=2∧bt ⟨(Lib.decDigits n.val).toArray⟩ 0=48+((n.val / 10:Nat):Int)∧bt ⟨(Lib.decDigits n.val).toArray⟩ 1=48+((n.val % 10:Nat):Int):=by decide +kernel
/-- The number of a text of digits. -/
theorem impl_numberOf_dec (n:Nat) (h:n<100):Ev (fun k=>ic_.f k ⟨(Lib.decDigits n).toArray⟩) (n:Int):=by
  obtain⟨s,hs⟩ : ∃ s:ByteArray,(⟨(Lib.decDigits n).toArray⟩:ByteArray)=s:=⟨_,rfl⟩
  rw [hs]
  by_cases h0:n<10
  · obtain⟨z,b0⟩:s.size=1∧bt s 0=48+(n:Int):=by rw [← hs];exact dec_one ⟨n,h0⟩
    unfold ic_.f
    refine Ev.neg (by omega) (Ev.step (fun k=>by rw [ic_.j0]) (Ev.neg (by rw [decide_eq_false (by omega)];decide) ?_))
    refine Ev.step (fun k=>by rw [ic_.l0]) ?_
    refine Ev.pos (by omega) (Ev.pos (by omega) (Ev.pos (by omega) (Ev.neg (by omega) (Ev.neg (by omega) ?_))))
    refine Ev.step (fun k=>by rw [ic_.l0]) ?_
    refine Ev.neg (by unfold wrap64;omega) (Ev.const ?_)
    rw [b0,show wrap64 (0*10)=0 by unfold wrap64;omega,show(48+(n:Int) - 48) % 256=(n:Int) by omega,wrap64_id (by omega) (by omega)]
    simp
  · obtain⟨z,b0,b1⟩:s.size=2∧bt s 0=48+((n / 10:Nat):Int)∧bt s 1=48+((n % 10:Nat):Int):=by rw [← hs];exact dec_two ⟨n,h⟩ (show 10≤n by omega)
    unfold ic_.f
    refine Ev.neg (by omega) (Ev.step (fun k=>by rw [ic_.j0]) (Ev.neg (by rw [decide_eq_false (by omega)];decide) ?_))
    refine Ev.step (fun k=>by rw [ic_.l0]) ?_
    refine Ev.pos (by omega) (Ev.pos (by omega) (Ev.pos (by omega) (Ev.neg (by omega) (Ev.neg (by omega) ?_))))
    rw [b0,show wrap64 (0*10)=0 by unfold wrap64;omega,show(48+((n / 10:Nat):Int) - 48) % 256=((n / 10:Nat):Int) by omega,wrap64_id (x:=0+((n / 10:Nat):Int)) (by omega) (by omega),show wrap64 (0+1)=1 by unfold wrap64;omega]
    refine Ev.step (fun k=>by rw [ic_.l0]) ?_
    refine Ev.pos (by omega) (Ev.pos (by omega) (Ev.pos (by omega) (Ev.neg (by omega) (Ev.neg (by omega) ?_))))
    rw [b1,show(48+((n % 10:Nat):Int) - 48) % 256=((n % 10:Nat):Int) by omega,wrap64_id (x:=(0+((n / 10:Nat):Int))*10) (by omega) (by omega),wrap64_id (x:=(0+((n / 10:Nat):Int))*10+((n % 10:Nat):Int)) (by omega) (by omega),show wrap64 (1+1)=2 by unfold wrap64;omega]
    refine Ev.step (fun k=>by rw [ic_.l0]) ?_
    refine Ev.neg (by omega) (Ev.const ?_)
    congr 1
    omega
/-! ### impl_PermFrom -/
/-- Where some points have been sent on and the others not. -/
def Part (p:List Int) (S:Nat→Prop) (x:List Int):Prop:=x.length=p.length ∧ ∀ i:Nat,i<p.length→(S i→rd x (i:Int)=rd p (i:Int))∧(¬ S i→rd x (i:Int)=(i:Int))
theorem Part.congr {p:List Int} {S S':Nat→Prop} {x:List Int} (h:Part p S x) (he : ∀ i,i<p.length→(S i↔S' i)):Part p S' x :=
  ⟨h.1,fun i hi=>⟨fun s=>(h.2 i hi).1 ((he i hi).2 s),fun s=>(h.2 i hi).2 (fun q=>s ((he i hi).1 q))⟩⟩
theorem Part.set {p:List Int} {S:Nat→Prop} {x:List Int} (h:Part p S x) {v:Nat} (hv:v<p.length):Part p (fun i=>S i∨i=v) (x.set v (rd p (v:Int))):=by
  refine⟨by rw [List.length_set];exact h.1,fun i hi => ?_⟩
  by_cases e:v=i
  · subst e
    refine⟨fun _=>rd_set_self _ _ _ (by rw [h.1];exact hv),fun q=>absurd (.inr rfl) q⟩
  · rw [rd_set_ne _ _ _ _ e]
    exact⟨fun s=>(h.2 i hi).1 (s.elim id (fun q=>absurd q.symm e)),fun s=>(h.2 i hi).2 (fun q=>s (.inl q))⟩
theorem Part.full {p:List Int} {S:Nat→Prop} {x:List Int} (h:Part p S x) (hf : ∀ i,i<p.length→S i):x=p :=
  list_ext_rd h.1 (fun i hi=>(h.2 i (by rw [← h.1];exact hi)).1 (hf i (by rw [← h.1];exact hi)))
def pieces (c:List Int):List ByteArray:=c.map (fun v=>(⟨(dB v).toArray⟩:ByteArray))
theorem pieces_at (c:List Int) (i:Nat) (h:i<c.length):rdOf ByteArray.empty (pieces c) (i:Int)=⟨(dB (rd c (i:Int))).toArray⟩:=by
  rw [rd_nat c i h]
  simp [rdOf,pieces,List.getD_eq_getElem?_getD,h]
theorem atoi_at {v:Int} (h:0≤v∧v<12):s1h_.f ⟨(dB v).toArray⟩=some (v,none):=by
  obtain⟨h1,h2,h3,h4⟩:=dB_of h
  unfold s1h_.f
  rw [if_pos (by show(dB v).toArray.size≤18;simp;omega)]
  have e:((⟨(dB v).toArray⟩:ByteArray)).data.toList=dB v:=by simp
  rw [e,h4];rfl
section
variable {n:Nat} {s:ByteArray} {more:ByteArray} {r:List Int×Bool}
theorem pf_l1 {c:List Int} (hc:Lo c) (hn : ∀ v ∈ c,v<(n:Int)) (hlen:c.length≤12) {x:List Int} (h2:Ev (fun k=>i6_.l2 k (n:Nat) s x more c c (c.length:Int) (0:Nat)) r) :
    ∀ d i,c.length - i=d→i≤c.length→Ev (fun k=>i6_.l1 k (n:Nat) s x more (c.take i) (pieces c) (c.length:Int) (i:Nat)) r:=by
  have hpl:(pieces c).length=c.length:=by simp [pieces]
  intro d
  induction d with
  | zero =>
    intro i hd hi
    obtain rfl:i=c.length:=by omega
    refine Ev.step (fun k=>by rw [i6_.l1]) (Ev.neg (by omega) ?_)
    rw [List.take_length]
    exact h2
  | succ d ih =>
    intro i hd hi
    have hi':i<c.length:=by omega
    have hm:rd c (i:Int) ∈ c:=by rw [rd_nat c i hi'];exact List.getElem_mem hi'
    have hv:=hc _ hm
    have hvn:=hn _ hm
    refine Ev.step (fun k=>by rw [i6_.l1]) ?_
    refine Ev.pos (by omega) (Ev.pos (by omega) (Ev.pos (by omega) ?_))
    rw [pieces_at c i hi']
    refine Ev.bindc (atoi_at hv) ?_
    refine Ev.pos rfl ?_
    refine Ev.neg (by show ¬ rd c (i:Int)<0;omega) ?_
    refine Ev.neg (by show ¬ rd c (i:Int)≥(n:Int);omega) ?_
    refine Ev.pos (by rw [List.length_take];omega) ?_
    rw [wrap64_id (x:=(i:Int)+1) (by omega) (by omega)]
    have e:c.take i ++ [rd c (i:Int)]=c.take (i+1):=by rw [rd_nat c i hi',List.take_succ_eq_append_getElem hi']
    show Ev (fun k=>i6_.l1 k (n:Nat) s x more (c.take i ++ [rd c (i:Int)]) (pieces c) (c.length:Int) ((i+1:Nat):Int)) r
    rw [e]
    exact ih (i+1) (by omega) (by omega)
theorem pf_l2 {p : List Int} {c : List Int} (hc : CycOk p.length (fn p) c) (hp : Pts p.length p) (hlen : c.length ≤ 12) {S : Nat → Prop}
    (h0 : ∀ x,Part p (fun i=>S i∨Holds c (i:Int)) x→Ev (fun k=>i6_.l0 k (n:Nat) s x more) r) :
    ∀ d i,c.length - i=d→i≤c.length → ∀ x,Part p (fun q=>S q ∨ ∃ j:Nat,j<i∧rd c (j:Int)=(q:Int)) x→Ev (fun k=>i6_.l2 k (n:Nat) s x more c c (c.length:Int) (i:Nat)) r:=by
  intro d
  induction d with
  | zero =>
    intro i hd hi x hx
    obtain rfl:i=c.length:=by omega
    refine Ev.step (fun k=>by rw [i6_.l2]) (Ev.neg (by omega) ?_)
    exact h0 x (hx.congr (fun q hq=>⟨id,id⟩))
  | succ d ih =>
    intro i hd hi x hx
    have hi':i<c.length:=by omega
    obtain⟨v,v1,v2,v3⟩:=hc.2 i hi'
    have hxl:=hx.1
    have em:Int.tmod (wrap64 ((i:Int)+1)) (c.length:Int)=(((i+1) % c.length:Nat):Int):=by
      rw [wrap64_id (x:=(i:Int)+1) (by omega) (by omega)]
      exact(Int.ofNat_tmod (i+1) c.length).symm
    have hlt:=Nat.mod_lt (i+1) (by omega:0<c.length)
    refine Ev.step (fun k=>by rw [i6_.l2]) ?_
    rw [em,v2,v3]
    refine Ev.pos (by omega) (Ev.pos (by omega) (Ev.pos (by omega) (Ev.neg (by omega) (Ev.pos (by omega) (Ev.pos (by omega) (Ev.pos (by omega) (Ev.pos (by omega) ?_)))))))
    rw [wrap64_id (x:=(i:Int)+1) (by omega) (by omega),← (hp.fn v1).1]
    refine ih (i+1) (by omega) (by omega) _ ((hx.set v1).congr (fun q hq=>⟨?_,?_⟩))
    · rintro((h|⟨j,hj,e⟩)|rfl)
      · exact .inl h
      · exact .inr ⟨j,by omega,e⟩
      · exact .inr ⟨i,by omega,v2⟩
    · rintro(h|⟨j,hj,e⟩)
      · exact .inl (.inl h)
      · by_cases q:j=i
        · subst q;rw [v2] at e;exact .inr (by omega)
        · exact .inl (.inr ⟨j,by omega,e⟩)
end
theorem cut_tC {c:List Int} (h:Lo c) (more:List UInt8):Lib.cut (jC c ++ 41 :: more) [41]=(jC c,more,true):=by
  have hf:(41:UInt8) ∉ jC c:=fun hm=>by have:=jC_sign h _ hm;simp at this
  have e:Lib.index (jC c ++ 41 :: more) [41]=((jC c).length:Int):=by rw [Lib.index_one,xs_idx_hit 41 _ _ hf]
  unfold Lib.cut
  rw [e,if_pos (by omega)]
  simp
theorem toList_nil {a:ByteArray} {l:List UInt8} (h:a.data.toList=l):a.toList=l:=by rw [toList_data];exact h
theorem impl_PermFrom_ev {p:List Int} (h:POK p):Ev (fun k=>i6_.f k (p.length:Int) (pTxt p)) (p,true):=by
  have h1:=h.1.1
  have h12:=h.1.2
  have hP:=h.2.perm
  have done : ∀ x,x=p → ∀ rest:ByteArray,Ev (fun k=>i6_.j2 k (p.length:Int) (pTxt p) x rest false) (p,true):=by
    intro x hx rest
    subst hx
    refine Ev.step (fun k=>by rw [i6_.j2]) (Ev.neg (by decide) ?_)
    refine Ev.bind (impl_PermText_ev h) ?_
    exact Ev.pos rfl (Ev.const rfl)
  unfold i6_.f
  refine Ev.neg (by omega) ?_
  refine Ev.step (fun k=>by rw [i6_.j0]) (Ev.neg (by rw [decide_eq_false (by omega)];decide) ?_)
  refine Ev.bind (impl_still_ev p.length (by omega)) ?_
  by_cases he:txP p = []
  ·
    have hpt:pTxt p=⟨#[40,41]⟩:=by unfold pTxt;rw [if_pos he]
    have hid:idL p.length=p:=by
      refine list_ext_rd (idL_length _) (fun i hi => ?_)
      rw [idL_length] at hi
      rw [rd_idL _ _ hi]
      obtain⟨c,hc,j,hj,e⟩:=cycL_all hP hi
      have hok:=cyP_ok h hc
      have hl:c.length<2:=by
        by_cases q:c.length<2
        · exact q
        · exfalso
          have key : ∀ cs:List (List Int),c ∈ cs→tP cs ≠ []:=by
            intro cs
            induction cs with
            | nil=>intro hm;simp at hm
            | cons d cs ih =>
              intro hm
              simp only [tP]
              split
              · rename_i hd
                rcases List.mem_cons.1 hm with rfl|hm
                · exact absurd hd q
                · exact ih hm
              · simp [tC]
          exact key _ hc he
      obtain⟨v,v1,v2,v3⟩:=hok.2 j hj
      have hj0:j=0:=by omega
      have hc1:c.length=1:=by have:=hok.1;omega
      subst hj0
      rw [hc1] at v3
      have:rd c ((0:Nat):Int)=(fn p v:Int):=v3
      rw [e] at this v2
      have hvi:v=i:=by omega
      subst hvi
      rw [(h.2.1.fn hi).1]
      exact this
    refine Ev.step (fun k=>by rw [i6_.l0]) ?_
    have hlst:(pTxt p).toList = [40,41]:=by rw [hpt];exact toList_nil rfl
    refine Ev.neg (by rw [hlst];decide) ?_
    rw [hlst,show(([40,41]:List UInt8) != ([40,41]:List UInt8))=false from rfl]
    exact done _ hid _
  · have hpt:pTxt p=⟨(txP p).toArray⟩:=by unfold pTxt;rw [if_neg he]
    have hdata:(pTxt p).data.toList=txP p:=by rw [hpt]
    have hne:((pTxt p).toList != ([40,41]:List UInt8))=true:=by
      rw [toList_nil hdata]
      have key : ∀ cs:List (List Int),(∀ c ∈ cs,Lo c)→(tP cs != ([40,41]:List UInt8))=true:=by
        intro cs
        induction cs with
        | nil=>intro _;rfl
        | cons c cs ih =>
          intro hlo
          simp only [tP]
          split
          · exact ih (fun d hd=>hlo d (by simp [hd]))
          · rename_i hcl
            cases c with
            | nil=>simp at hcl
            | cons v c =>
              obtain⟨d1,d2,d3,d4⟩:=dB_of (hlo (v :: c) (by simp) v (by simp))
              cases hd:dB v with
              | nil=>rw [hd] at d2;simp at d2
              | cons b bs =>
                have hb:=d3 b (by rw [hd];simp)
                have:b≠41:=fun e=>by subst e;simp at hb
                simp [tC,jC,hd,this]
      exact key _ (cyP_lo h)
    have key : ∀ cs:List (List Int),(∀ c ∈ cs,CycOk p.length (fn p) c∧Lo c∧c.length≤12) → ∀ (S:Nat→Prop) (x:List Int) (rest:ByteArray),rest.data.toList=tP cs→rest.size≤48→Part p S x →
        (∀ i,i<p.length→S i ∨ ∃ c ∈ cs,Holds c (i:Int))→Ev (fun k=>i6_.l0 k (p.length:Int) (pTxt p) x rest) (p,true):=by
      intro cs
      induction cs with
      | nil =>
        intro _ S x rest hr hrs hx hcov
        refine Ev.step (fun k=>by rw [i6_.l0]) (Ev.pos (show rest.toList = [] from toList_nil hr) ?_)
        exact done x (hx.full (fun i hi=>by
          rcases hcov i hi with q|⟨c,hc,_⟩
          · exact q
          · simp at hc)) rest
      | cons c cs ih =>
        intro hcs S x rest hr hrs hx hcov
        obtain⟨hok,hlo,hl12⟩:=hcs c (by simp)
        have hcs' : ∀ d ∈ cs,CycOk p.length (fn p) d∧Lo d∧d.length≤12:=fun d hd=>hcs d (by simp [hd])
        have hcov' : ∀ i,i<p.length→(S i∨Holds c (i:Int)) ∨ ∃ d ∈ cs,Holds d (i:Int):=fun i hi=>by
          rcases hcov i hi with q|⟨d,hd,q⟩
          · exact .inl (.inl q)
          · rcases List.mem_cons.1 hd with rfl|hd
            · exact .inl (.inr q)
            · exact .inr ⟨d,hd,q⟩
        simp only [tP] at hr
        by_cases hcl:c.length<2
        · rw [if_pos hcl] at hr
          refine ih hcs' (fun i=>S i∨Holds c (i:Int)) x rest hr hrs ⟨hx.1,fun i hi=>⟨fun q => ?_,fun q=>(hx.2 i hi).2 (fun w=>q (.inl w))⟩⟩ hcov'
          by_cases hS:S i
          · exact(hx.2 i hi).1 hS
          · rcases q with q|⟨j,hj,e⟩
            · exact absurd q hS
            · rw [(hx.2 i hi).2 hS]
              obtain⟨v,v1,v2,v3⟩:=hok.2 j hj
              have hj0:j=0:=by omega
              have hc1:c.length=1:=by have:=hok.1;omega
              subst hj0
              rw [hc1] at v3
              have v3':rd c ((0:Nat):Int)=(fn p v:Int):=v3
              rw [e] at v2 v3'
              have hvi:v=i:=by omega
              subst hvi
              rw [(h.2.1.fn hi).1]
              exact v3'
        · rw [if_neg hcl] at hr
          have hr':rest.data.toList=40 :: (jC c ++ 41 :: tP cs):=by rw [hr];simp [tC]
          have hmem : ∀ v ∈ c,v<(p.length:Int):=fun v hv=>by
            obtain⟨j,hj,e⟩:=List.getElem_of_mem hv
            obtain⟨u,u1,u2,_⟩:=hok.2 j hj
            rw [rd_nat _ _ hj,e] at u2
            omega
          have hin:s1j_.f rest ⟨#[40]⟩=some (⟨(jC c ++ 41 :: tP cs).toArray⟩,true):=by
            unfold s1j_.f
            rw [hr']
            have e1:Lib.hasPrefix (40 :: (jC c ++ 41 :: tP cs)) [40]=true:=by simp [Lib.hasPrefix]
            have e2:Lib.trimPrefix (40 :: (jC c ++ 41 :: tP cs)) [40]=jC c ++ 41 :: tP cs:=by simp [Lib.trimPrefix,Lib.hasPrefix]
            show some ((⟨(Lib.trimPrefix (40 :: (jC c ++ 41 :: tP cs)) [40]).toArray⟩:ByteArray),Lib.hasPrefix (40 :: (jC c ++ 41 :: tP cs)) [40])=_
            rw [e1,e2]
          have hzr:rest.size=(jC c).length+(tP cs).length+2:=by
            have:rest.data.toList.length=rest.size:=by rw [Array.length_toList];rfl
            rw [← this,hr'];simp;omega
          have hcut:s1i_.f ⟨(jC c ++ 41 :: tP cs).toArray⟩ ⟨#[41]⟩=some (⟨(jC c).toArray⟩,⟨(tP cs).toArray⟩,true):=by
            unfold s1i_.f
            have hz:(⟨(jC c ++ 41 :: tP cs).toArray⟩:ByteArray).size≤1000000:=by show(jC c ++ 41 :: tP cs).toArray.size≤1000000;simp;omega
            rw [if_pos ⟨rfl,hz⟩]
            show some ((⟨(Lib.cut (jC c ++ 41 :: tP cs) [41]).1.toArray⟩:ByteArray),(⟨(Lib.cut (jC c ++ 41 :: tP cs) [41]).2.1.toArray⟩:ByteArray),(Lib.cut (jC c ++ 41 :: tP cs) [41]).2.2)=_
            rw [cut_tC hlo]
          have hsp:s1k_.f ⟨(jC c).toArray⟩ ⟨#[44]⟩=some (pieces c):=by
            unfold s1k_.f
            have hz:(⟨(jC c).toArray⟩:ByteArray).size≤1000000:=by show(jC c).toArray.size≤1000000;simp;omega
            rw [if_pos ⟨rfl,hz⟩]
            refine congrArg some (xs_splitB_of 44 _ _ ?_)
            have:(⟨(jC c).toArray⟩:ByteArray).data.toList=jC c:=by simp
            rw [this,split_jC hlo (by omega)]
            simp [pieces]
          refine Ev.step (fun k=>by rw [i6_.l0]) ?_
          refine Ev.neg (by rw [toList_nil hr'];simp) ?_
          rw [hne]
          refine Ev.step (fun k=>by rw [i6_.j2]) (Ev.pos rfl ?_)
          refine Ev.bindc hin (Ev.bindc hcut ?_)
          refine Ev.pos rfl ?_
          refine Ev.step (fun k=>by rw [i6_.j3]) (Ev.neg (by simp) ?_)
          refine Ev.bindc hsp ?_
          have hpl:(pieces c).length=c.length:=by simp [pieces]
          rw [hpl]
          have l1:=pf_l1 (n:=p.length) (s:=pTxt p) (more:=⟨(tP cs).toArray⟩) (r:=(p,true)) hlo hmem hl12 (x:=x)
            (pf_l2 (n:=p.length) (s:=pTxt p) (more:=⟨(tP cs).toArray⟩) (r:=(p,true)) hok h.2.1 hl12 (S:=S)
              (fun x' hx'=>ih hcs' _ x' _ (by simp) (by show(tP cs).toArray.size≤48;simp;omega) hx' hcov') _ 0 rfl (by omega) x (hx.congr (fun q hq=>⟨.inl,fun w=>w.elim id (fun⟨j,hj,_⟩=>absurd hj (by omega))⟩))) _ 0 rfl (by omega)
          exact l1
    refine key (cyP p) (fun c hc=>⟨cyP_ok h hc,cyP_lo h c hc,?_⟩) (fun _=>False) (idL p.length) (pTxt p) hdata (pTxt_size h) ⟨idL_length _,fun i hi=>⟨fun q=>q.elim,fun _=>rd_idL _ _ hi⟩⟩ (fun i hi => .inr (cycL_all hP hi))
    obtain⟨i,hi,e⟩:=List.getElem_of_mem (show c ∈ cycL p.length (fn p) from hc)
    have:=(cycL_face hP hi).1
    rw [rdL_nat _ _ hi,e] at this
    omega
/-! ### impl_Execute -/
theorem xe_lines (t:ByteArray) (l:List ByteArray) (h:Lib.split t.data.toList [10]=l.map (·.data.toList)):XE.linesOf t=l:=xs_splitB_of 10 t l h
theorem xe_words (t:ByteArray) (l:List ByteArray) (h:Lib.split t.data.toList [32]=l.map (·.data.toList)):XE.wordsOf t=l:=xs_splitB_of 32 t l h
theorem xe_nil (x:ByteArray):(⟨#[]⟩:ByteArray) ++ x=x:=by
  show ByteArray.empty ++ x=x
  simp
/-- A text of so many lines, each with its end. -/
theorem xe_split (ls:List ByteArray) (h : ∀ l ∈ ls,(10:UInt8) ∉ l.data.toList):Lib.split (ls.flatMap (fun l=>l.data.toList ++ [10])) [10]=ls.map (·.data.toList) ++ [[]]:=by
  induction ls with
  | nil=>exact xs_split_free 10 [] (by simp)
  | cons l ls ih =>
    have e:(l :: ls).flatMap (fun l=>l.data.toList ++ [10])=l.data.toList ++ 10 :: ls.flatMap (fun l=>l.data.toList ++ [10]):=by simp
    rw [e,xs_split_hit 10 _ _ (h l (by simp)),ih (fun m hm=>h m (by simp [hm]))]
    rfl
theorem xe_linesOf {t:ByteArray} {ls:List ByteArray} (h : ∀ l ∈ ls,(10:UInt8) ∉ l.data.toList) (ht:t.data.toList=ls.flatMap (fun l=>l.data.toList ++ [10])):(XE.linesOf t).dropLast=ls:=by
  have:XE.linesOf t=ls ++ [⟨#[]⟩]:=xe_lines t _ (by rw [ht,xe_split ls h];simp)
  rw [this,List.dropLast_concat]
theorem xe_step {F : Nat → List Int → List Int → List ByteArray → Option (ByteArray × List Int × List Int)} {l : ByteArray} {ls : List ByteArray} {T U T1 U1 : List Int} {o c : ByteArray} {r : List Int × List Int × ByteArray} {ws : List ByteArray} (hl : l.size ≤ 500) (hw : XE.wordsOf l = ws) (hF : Ev (fun k => F k T U ws) (c, T1, U1)) (hc : c.size ≤ 100000)
    (hr:Ev (fun k=>XE.go (F k) ls T1 U1 (o ++ (c ++ ⟨#[10]⟩))) r):Ev (fun k=>XE.go (F k) (l :: ls) T U o) r:=by
  refine Ev.congr (fun k=>by rw [XE.go]) ?_
  refine Ev.pos hl ?_
  rw [hw]
  exact Ev.bind hF (Ev.pos hc hr)
theorem xe_end {F:Nat→List Int→List Int→List ByteArray→Option (ByteArray×List Int×List Int)} {T U:List Int} {o:ByteArray} : Ev (fun k=>XE.go (F k) [] T U o) (T,U,o):=Ev.congr (fun k=>by rw [XE.go]) (Ev.const rfl)
theorem xe_word (l:ByteArray) (h:(32:UInt8) ∉ l.data.toList):XE.wordsOf l = [l]:=xe_words l [l] (by rw [xs_split_free 32 _ h];rfl)
/-! ### laws_digits -/
theorem digits_lo : ∀ n:Fin 10,(strOfNums [(wrap64 (48+(n.val:Int))) % 256]:ByteArray)=⟨(Lib.decDigits n.val).toArray⟩:=by decide +kernel
theorem digits_hi : ∀ n:Fin 100,10≤n.val→(strOfNums [(wrap64 (48+((n.val / 10:Nat):Int))) % 256] ++ strOfNums [(wrap64 (48+(Int.tmod (n.val:Int) 10))) % 256]:ByteArray)=⟨(Lib.decDigits n.val).toArray⟩:=by decide +kernel
theorem laws_digits_ev (n:Nat) (h:n<100):Ev (fun k=>lh_.f k (n:Int)) ⟨(Lib.decDigits n).toArray⟩:=by
  have z : ∀ x:Int,(strOfNums [x]).size=1:=fun x=>rfl
  have low : ∀ m:Nat,m<10→Ev (fun k=>lh_.f k (m:Int)) (strOfNums [(wrap64 (48+(m:Int))) % 256]):=fun m hm =>
    Ev.step (fun k=>by rw [lh_.f]) (Ev.pos (by omega) (Ev.const rfl))
  by_cases h0:n<10
  · exact Ev.to (low n h0) (digits_lo ⟨n,h0⟩)
  · refine Ev.step (fun k=>by rw [lh_.f]) (Ev.neg (by omega) ?_)
    have e:wrap64 (Int.tdiv (n:Int) 10)=((n / 10:Nat):Int):=by
      rw [show Int.tdiv (n:Int) 10=((n / 10:Nat):Int) from(Int.ofNat_tdiv _ _).symm,wrap64_id (by omega) (by omega)]
    rw [e]
    refine Ev.bind (low (n / 10) (by omega)) ?_
    refine Ev.bindc rfl ?_
    exact Ev.pos (by rw [z,z];omega) (Ev.const (congrArg some (digits_hi ⟨n,h⟩ (show 10≤n by omega))))
theorem endline_size : ∀ n:Fin 100,(⟨(Lib.decDigits n.val).toArray⟩:ByteArray).size≤2:=by decide +kernel
/-! ### laws_mapLine -/
theorem dec_size (n:Nat) (h:n<100):(⟨(Lib.decDigits n).toArray⟩:ByteArray).size≤2:=endline_size ⟨n,h⟩
/-- The line that sets a map, without its end. -/
noncomputable def lineM (t f:List Int):ByteArray:=((((⟨#[109,97,112,32]⟩:ByteArray) ++ ⟨(Lib.decDigits t.length).toArray⟩) ++ ⟨#[32]⟩) ++ pTxt t) ++ ⟨#[32]⟩ ++ pTxt f
theorem z1_ (b:UInt8):(⟨#[b]⟩:ByteArray).size=1:=rfl
theorem laws_mapLine_ev {t f:List Int} (ht:POK t) (hf:POK f):Ev (fun k=>lj_.f k t f) (lineM t f ++ ⟨#[10]⟩):=by
  have h12:=ht.1.2
  have d:=dec_size t.length (by omega)
  have s1:=pTxt_size ht
  have s2:=pTxt_size hf
  have z4:(⟨#[109,97,112,32]⟩:ByteArray).size=4:=rfl
  unfold lj_.f
  refine Ev.bind (laws_digits_ev t.length (by omega)) ?_
  refine Ev.pos (by omega) (Ev.pos (by rw [ByteArray.size_append,z4];omega) ?_)
  refine Ev.bind (impl_PermText_ev ht) ?_
  refine Ev.pos (by simp only [ByteArray.size_append,z4,z1_];omega) (Ev.pos (by simp only [ByteArray.size_append,z4,z1_];omega) ?_)
  refine Ev.bind (impl_PermText_ev hf) ?_
  refine Ev.pos (by simp only [ByteArray.size_append,z4,z1_];omega) (Ev.pos (by simp only [ByteArray.size_append,z4,z1_];omega) (Ev.const rfl))
theorem lineM_size {t f:List Int} (ht:POK t) (hf:POK f):(lineM t f).size≤110:=by
  have h12:=ht.1.2
  have d:=dec_size t.length (by omega)
  have s1:=pTxt_size ht
  have s2:=pTxt_size hf
  have z4:(⟨#[109,97,112,32]⟩:ByteArray).size=4:=rfl
  unfold lineM
  simp only [ByteArray.size_append,z4,z1_]
  omega
/-! ### laws_shown -/
noncomputable def lineS (t f:List Int):ByteArray:=(pTxt t ++ ⟨#[32]⟩) ++ pTxt f
theorem lineS_size {t f:List Int} (ht:POK t) (hf:POK f):(lineS t f).size≤97:=by
  have s1:=pTxt_size ht
  have s2:=pTxt_size hf
  unfold lineS
  simp only [ByteArray.size_append,z1_]
  omega
theorem laws_shown_ev {t f:List Int} (ht:POK t) (hf:POK f):Ev (fun k=>lm_.f k t f) (lineS t f ++ ⟨#[10]⟩):=by
  have s1:=pTxt_size ht
  have s2:=pTxt_size hf
  unfold lm_.f
  refine Ev.bind (impl_PermText_ev ht) ?_
  refine Ev.pos (by omega) ?_
  refine Ev.bind (impl_PermText_ev hf) ?_
  exact Ev.pos (by simp only [ByteArray.size_append,z1_];omega) (Ev.pos (by simp only [ByteArray.size_append,z1_];omega) (Ev.const rfl))
/-! ### laws_endLine -/
theorem laws_endLine_ev (n:Nat) (h:n<100):Ev (fun k=>li_.f k (n:Int)) ((⟨#[100,97,114,116,115,32]⟩ ++ ⟨(Lib.decDigits n).toArray⟩) ++ ⟨#[10]⟩):=by
  have hz:(⟨(Lib.decDigits n).toArray⟩:ByteArray).size≤2:=endline_size ⟨n,h⟩
  unfold li_.f
  refine Ev.bind (laws_digits_ev n h) ?_
  refine Ev.pos (by omega) (Ev.pos ?_ (Ev.const rfl))
  rw [ByteArray.size_append,show(⟨#[100,97,114,116,115,32]⟩:ByteArray).size=6 from rfl]
  omega
/-! ### spec_l6Open -/
theorem spec_l6Open_ex (l:List Int) (h:Bytes l) : ∃ m,s14_.f l=some (m,0)∧Bytes m∧m.length≤2000:=by
  unfold s14_.f
  by_cases h1:(l.length:Int)>2000
  · rw [if_pos h1,if_pos (by omega)]
    exact⟨_,rfl,h.take 2000,by simp;omega⟩
  · rw [if_neg h1]
    exact⟨_,rfl,h,by omega⟩
/-! ### spec_l6Rd_pick -/
theorem spec_l6Rd_pick_ex (l:List Int) (hb:Bytes l) (hn:l.length≤2000) (p a:Int) (hp0:0≤p) (hp1:p≤1099511627776) : ∃ x,Ev (fun k=>s15_.f k l p a) (x,p+1)∧0≤x∧(1≤a→x<a):=by
  have hw:wrap64 (p+1)=p+1:=wrap64_id (by omega) (by omega)
  have ht:Ev (fun k=>s15_.j0 k a true l (p+1)) (0,p+1):=by
    refine Ev.step (fun k=>by rw [s15_.j0]) ?_
    exact Ev.pos rfl (Ev.const rfl)
  by_cases ha:a<1
  · refine⟨0,?_,Int.le_refl _,fun h=>by omega⟩
    unfold s15_.f
    rw [hw]
    exact Ev.pos ha ht
  · by_cases hl:(l.length:Int)=0
    · refine⟨0,?_,Int.le_refl _,fun h=>by omega⟩
      unfold s15_.f
      rw [hw]
      refine Ev.neg ha ?_
      rw [show((l.length:Int) == 0)=true from beq_iff_eq.2 hl]
      exact ht
    · have hw2:wrap64 (p+1 - 1)=p:=by rw [wrap64_id (by omega) (by omega)];omega
      by_cases hlt:p<l.length
      · obtain⟨b0,b1⟩:=hb.at p hp0 hlt
        have hx:=tmod_bd (rd l p) a b0 (by omega)
        refine⟨Int.tmod (rd l p) a,?_,hx.1,fun _=>hx.2⟩
        unfold s15_.f
        rw [hw,show((l.length:Int) == 0)=false from beq_eq_false_iff_ne.2 hl]
        refine Ev.neg ha ?_
        refine Ev.step (fun k=>by rw [s15_.j0]) ?_
        rw [hw2,wrap64_id (x:=rd l p) (by omega) (by omega)]
        refine Ev.neg (by simp) ?_
        refine Ev.pos hlt ?_
        refine Ev.pos hp0 ?_
        refine Ev.neg (by omega) ?_
        exact Ev.const rfl
      · obtain⟨m0,m1⟩:=tmod_bd p (l.length:Int) hp0 (by omega)
        have e1:wrap64 (p*7)=p*7:=wrap64_id (by omega) (by omega)
        have e2:wrap64 (p*7+3)=p*7+3:=wrap64_id (by omega) (by omega)
        obtain⟨n0,n1⟩:=tmod_bd (p*7+3) (l.length:Int) (by omega) (by omega)
        have d0:0≤Int.tdiv p (l.length:Int):=Int.tdiv_nonneg hp0 (by omega)
        have d1:Int.tdiv p (l.length:Int)≤p:=by
          rw [Int.tdiv_eq_ediv_of_nonneg hp0];exact Int.ediv_le_self _ hp0
        obtain⟨b0,b1⟩:=hb.at _ m0 m1
        obtain⟨c0,c1⟩:=hb.at _ n0 n1
        suffices hs : ∃ x,Ev (fun k=>s15_.j0 k a false l (p+1)) (x,p+1)∧0≤x∧(1≤a→x<a) by
          obtain⟨x,h1,h2⟩:=hs
          refine⟨x,?_,h2⟩
          unfold s15_.f
          rw [hw,show((l.length:Int) == 0)=false from beq_eq_false_iff_ne.2 hl]
          exact Ev.neg ha h1
        have hun : ∀ r,(∃ x,Ev (fun _:Nat=>r) (x,p+1)∧0≤x∧(1≤a→x<a)) →
            (∀ k,s15_.j0 (k+1) a false l (p+1)=r) → ∃ x,Ev (fun k=>s15_.j0 k a false l (p+1)) (x,p+1)∧0≤x∧(1≤a→x<a):=by
          rintro r ⟨x,h1,h2⟩ h3
          exact⟨x,Ev.step h3 h1,h2⟩
        refine hun _ ?_ (fun k=>by
          rw [s15_.j0,if_neg (by simp),hw2,if_neg hlt,if_neg hl,if_pos m0,if_pos m1,e1,e2,if_pos n0,if_pos n1,if_neg (by omega)])
        generalize rd l (Int.tmod p (l.length:Int))=u at *
        generalize rd l (Int.tmod (p*7+3) (l.length:Int))=v at *
        generalize Int.tdiv p (l.length:Int)=w at *
        rw [wrap64_id (x:=u) (by omega) (by omega),wrap64_id (x:=v) (by omega) (by omega),wrap64_id (x:=w) (by omega) (by omega),
          wrap64_id (x:=u*131) (by omega) (by omega),wrap64_id (x:=v*1117) (by omega) (by omega),wrap64_id (x:=p*29) (by omega) (by omega),wrap64_id (x:=w*53) (by omega) (by omega),
          wrap64_id (x:=u*131+v*1117) (by omega) (by omega),wrap64_id (x:=u*131+v*1117+p*29) (by omega) (by omega),wrap64_id (x:=u*131+v*1117+p*29+w*53) (by omega) (by omega)]
        have hX0:0≤u*131+v*1117+p*29+w*53:=by omega
        have hX1:u*131+v*1117+p*29+w*53<4611686018427387904:=by omega
        generalize u*131+v*1117+p*29+w*53=X at *
        have hq:Int.tdiv X 64=X / 64:=Int.tdiv_eq_ediv_of_nonneg hX0
        rw [hq,wrap64_id (x:=X / 64) (by omega) (by omega)]
        have hxor:=xor_nonneg X (X / 64) hX0 (by omega) hX1 (by omega)
        obtain⟨r0,r1⟩:=tmod_bd _ a hxor (by omega)
        exact⟨_,Ev.const rfl,r0,fun _=>r1⟩
/-! ### spec_l1Same -/
theorem spec_l1Same_ev (n:Nat) (hn:n≤4194304):Ev (fun k=>s11_.f k (n:Nat)) (idL n):=by
  have key : ∀ d i,n - i=d→i≤n→Ev (fun k=>s11_.l0 k (n:Nat) (idL i) (i:Nat)) (idL n):=by
    intro d
    induction d with
    | zero =>
      intro i hd hi
      obtain rfl:i=n:=by omega
      refine Ev.step (fun k=>by rw [s11_.l0]) ?_
      exact Ev.neg (by omega) (Ev.const rfl)
    | succ d ih =>
      intro i hd hi
      refine Ev.step (fun k=>by rw [s11_.l0]) (Ev.pos (by omega) (Ev.pos (by rw [idL_length];omega) ?_))
      rw [wrap64_id (by omega) (by omega)]
      have:=ih (i+1) (by omega) (by omega)
      rw [show idL (i+1)=idL i ++ [(i:Int)] by simp [idL,List.range_succ]] at this
      exact this
  unfold s11_.f
  exact key n 0 (by omega) (by omega)
/-! ### spec_l1Orbits -/
theorem spec_l1Orbits_step {n : Nat} {a b o : List Int} (ha : Pts n a) (hb : Pts n b) (h : OrbPre n a b o) {i : Nat} (hi : i < n) (x : Int)
    (hx:x=mn (rd o (i:Int)) (mn (rd o (fn a i:Int)) (rd o (fn b i:Int)))) :
    OrbPre n a b (((o.set i x).set (fn a i) x).set (fn b i) x) ∧
    (∀ q,q<n→rd (((o.set i x).set (fn a i) x).set (fn b i) x) (q:Int)≤rd o (q:Int)) ∧
    (∀ q,(q=i∨q=fn a i∨q=fn b i)→rd (((o.set i x).set (fn a i) x).set (fn b i) x) (q:Int)=x):=by
  have fa:=(ha.fn hi).2
  have fb:=(hb.fn hi).2
  have hl:=h.1
  have gi:=h.2 i hi
  have ga:=h.2 _ fa
  have gb:=h.2 _ fb
  have hx1:x≤rd o (i:Int)∧x≤rd o (fn a i:Int)∧x≤rd o (fn b i:Int):=by rw [hx];unfold mn;omega
  have hcx:Con n a b i x.toNat:=by
    have:x=rd o (i:Int)∨x=rd o (fn a i:Int)∨x=rd o (fn b i:Int):=by rw [hx];unfold mn;omega
    rcases this with e|e|e
    · rw [e];exact gi.2.2
    · rw [e];exact(Con.fa hi).trans ga.2.2
    · rw [e];exact(Con.fb hi).trans gb.2.2
  have h0:0≤x:=by rw [hx];unfold mn;omega
  have p1:=h.put hi x h0 (by omega) hcx
  have p2:=p1.put fa x h0 (by omega) ((Con.fa hi).symm.trans hcx)
  have p3:=p2.put fb x h0 (by omega) ((Con.fb hi).symm.trans hcx)
  have hval : ∀ q,q<n→rd (((o.set i x).set (fn a i) x).set (fn b i) x) (q:Int)=if q=i∨q=fn a i∨q=fn b i then x else rd o (q:Int):=by
    intro q hq
    by_cases e1:fn b i=q
    · subst e1;rw [rd_set_self _ _ _ (by simp;omega),if_pos (.inr (.inr rfl))]
    · rw [rd_set_ne _ _ _ _ e1]
      by_cases e2:fn a i=q
      · subst e2;rw [rd_set_self _ _ _ (by simp;omega),if_pos (.inr (.inl rfl))]
      · rw [rd_set_ne _ _ _ _ e2]
        by_cases e3:i=q
        · subst e3;rw [rd_set_self _ _ _ (by omega),if_pos (.inl rfl)]
        · rw [rd_set_ne _ _ _ _ e3,if_neg (by omega)]
  refine⟨p3,fun q hq => ?_,fun q hq => ?_⟩
  · rw [hval q hq]
    split
    · rename_i e
      rcases e with rfl|rfl|rfl <;> omega
    · exact Int.le_refl _
  · have hqn:q<n:=by rcases hq with rfl|rfl|rfl <;> omega
    rw [hval q hqn,if_pos hq]
theorem spec_l1Orbits_ev (n:Nat) (hn:n≤4194304) (a b:List Int) (ha:Pts n a) (hb:Pts n b):Ev (fun k=>s10_.f k a b) (orbL a b):=by
  have la:=ha.1
  have lb:=hb.1
  have inner : ∀ d i,n - i=d→i≤n → ∀ (o0 o:List Int) (t:Nat),OrbPre n a b o0→OrbPre n a b o→(∀ q,q<n→rd o (q:Int)≤rd o0 (q:Int)) →
      (∀ q,q<i→(rd o (fn a q:Int)≤rd o0 (q:Int)∧rd o (q:Int)≤rd o0 (fn a q:Int))∧(rd o (fn b q:Int)≤rd o0 (q:Int)∧rd o (q:Int)≤rd o0 (fn b q:Int))) →
      (∀ o',OrbPre n a b o'→Rounded n a b o0 o'→Ev (fun k=>s10_.l0 k a b o' ((t:Int)+1)) (orbL a b))→t≤4194304 →
      Ev (fun k=>s10_.l1 k a b o (t:Nat) (i:Nat)) (orbL a b):=by
    intro d
    induction d with
    | zero =>
      intro i hd hi o0 o t h0 h hle hq hout ht
      obtain rfl:i=n:=by omega
      refine Ev.step (fun k=>by rw [s10_.l1]) ?_
      refine Ev.neg (by omega) ?_
      rw [wrap64_id (by omega) (by omega)]
      exact hout o h ⟨hle,hq⟩
    | succ d ih =>
      intro i hd hi o0 o t h0 h hle hq hout ht
      have hi':i<n:=by omega
      have ea:=ha.fn hi'
      have eb:=hb.fn hi'
      have lo:=h.1
      refine Ev.step (fun k=>by rw [s10_.l1]) ?_
      rw [ea.1,eb.1,wrap64_id (x:=(i:Int)+1) (by omega) (by omega)]
      simp only [toNat_nat]
      refine Ev.pos (by omega) (Ev.pos (by omega) (Ev.pos (by omega) (Ev.pos (by omega) (Ev.pos (by omega) (Ev.pos (by omega) (Ev.pos (by omega) (Ev.pos (by omega) ?_)))))))
      obtain⟨s1,s2,s3⟩:=spec_l1Orbits_step ha hb h hi' _ rfl
      have hx : ∀ q,(q=i∨q=fn a i∨q=fn b i)→mn (rd o (i:Int)) (mn (rd o (fn a i:Int)) (rd o (fn b i:Int)))≤rd o (q:Int):=by
        intro q hq;rcases hq with rfl|rfl|rfl <;> (unfold mn;omega)
      refine ih (i+1) (by omega) (by omega) o0 _ t h0 s1 (fun q hq=>Int.le_trans (s2 q hq) (hle q hq)) (fun q hqi => ?_) hout ht
      by_cases e:q=i
      · subst e
        have l1:=hle q hi'
        have l2:=hle _ ea.2
        have l3:=hle _ eb.2
        have x1:=hx q (.inl rfl)
        have x2:=hx _ (.inr (.inl rfl))
        have x3:=hx _ (.inr (.inr rfl))
        rw [s3 q (.inl rfl),s3 _ (.inr (.inl rfl)),s3 _ (.inr (.inr rfl))]
        omega
      · obtain⟨⟨q1,q2⟩,q3,q4⟩:=hq q (by omega)
        have m1:=s2 _ (ha.fn (show q<n by omega)).2
        have m2:=s2 _ (hb.fn (show q<n by omega)).2
        have m3:=s2 q (by omega)
        omega
  have outer : ∀ d t,n - t=d→t≤n → ∀ o:List Int,OrbPre n a b o→(t≤cntP (okB n a b o) n)→Ev (fun k=>s10_.l0 k a b o (t:Nat)) (orbL a b):=by
    intro d
    induction d with
    | zero =>
      intro t hd ht o h hc
      obtain rfl:t=n:=by omega
      refine Ev.step (fun k=>by rw [s10_.l0]) ?_
      refine Ev.neg (by omega) (Ev.const ?_)
      rw [settled ha hb h (by have:=cntP_le (okB t a b o) t;omega)]
    | succ d ih =>
      intro t hd ht o h hc
      refine Ev.step (fun k=>by rw [s10_.l0]) ?_
      refine Ev.pos (by omega) ?_
      refine inner n 0 (by omega) (by omega) o o t h h (fun q _=>Int.le_refl _) (fun q hq=>by omega) (fun o' h' hr => ?_) (by omega)
      have:=ih (t+1) (by omega) (by omega) o' h' ?_
      · exact this
      · rcases round_more ha hb h h' hr with e|e
        · have hm:cntP (okB n a b o) n≤cntP (okB n a b o') n:=by
            refine cntP_mono _ _ n (fun i hi hk => ?_)
            unfold okB at *
            have h1:=of_decide_eq_true hk
            have h2:=hr.1 i hi
            have h3:=h'.low_le hi
            exact decide_eq_true (by omega)
          omega
        · omega
  unfold s10_.f
  rw [la]
  refine Ev.bind (spec_l1Same_ev n hn) ?_
  exact outer n 0 (by omega) (by omega) _ (OrbPre.start n a b) (by omega)
/-! ### spec_l6In -/
theorem spec_l6In_eq (a b c:Int):s13_.f a b c=some (decide (b≤a∧a≤c)):=by
  unfold s13_.f
  by_cases h:a≥b
  · rw [if_pos h]
    congr 1
    rw [decide_eq_decide]
    omega
  · rw [if_neg h,decide_eq_false (by omega)]
/-! ### spec_PermValid -/
theorem spec_PermValid_ev (p:List Int) (hl:p.length≤1048576):Ev (fun k=>sx_.f k p) (dec (POK p)):=by
  have key : ∀ d i,p.length - i=d→i≤p.length→(∀ a,a<i→0≤rd p (a:Int)∧rd p (a:Int)<p.length)→(∀ a b,a<i→b<a→rd p (b:Int)≠rd p (a:Int))→Ev (fun k=>sx_.l0 k p (i:Nat)) (dec (POK p)):=by
    intro d
    induction d with
    | zero =>
      intro i hd hi h1 h2
      obtain rfl:i=p.length:=by omega
      have hp:PermL p.length p:=⟨⟨rfl,h1⟩,fun i j hi hj e=>by
        have e1:=h1 i hi
        have e2:=h1 j hj
        unfold fn at e
        rcases Nat.lt_trichotomy i j with q|q|q
        · exact absurd (by omega) (h2 j i hj q)
        · exact q
        · exact absurd (by omega) (h2 i j hi q)⟩
      refine Ev.step (fun k=>by rw [sx_.l0]) ?_
      refine Ev.neg (by omega) (Ev.bindc (spec_l6In_eq _ _ _) (Ev.const ?_))
      congr 1
      exact dec_of ⟨fun q=>⟨by omega,hp⟩,fun q=>by have:=q.1;omega⟩
    | succ d ih =>
      intro i hd hi h1 h2
      have hi':i<p.length:=by omega
      have inner : ∀ e j,i - j=e→j≤i→(0≤rd p (i:Int)∧rd p (i:Int)<p.length)→(∀ b,b<j→rd p (b:Int)≠rd p (i:Int))→Ev (fun k=>sx_.l1 k p (i:Nat) (j:Nat)) (dec (POK p)):=by
        intro e
        induction e with
        | zero =>
          intro j he hj hr hb
          obtain rfl:j=i:=by omega
          refine Ev.step (fun k=>by rw [sx_.l1]) ?_
          refine Ev.neg (by omega) ?_
          rw [wrap64_id (x:=(j:Int)+1) (by omega) (by omega)]
          refine ih (j+1) (by omega) (by omega) (fun a ha => ?_) (fun a b ha hba => ?_)
          · by_cases q:a=j
            · subst q;exact hr
            · exact h1 a (by omega)
          · by_cases q:a=j
            · subst q;exact hb b hba
            · exact h2 a b (by omega) hba
        | succ e ihe =>
          intro j he hj hr hb
          refine Ev.step (fun k=>by rw [sx_.l1]) ?_
          rw [wrap64_id (x:=(j:Int)+1) (by omega) (by omega)]
          refine Ev.pos (by omega) (Ev.pos (by omega) (Ev.pos (by omega) (Ev.pos (by omega) (Ev.pos (by omega) ?_))))
          refine Ev.ite (fun q => ?_) (fun q => ?_)
          · rw [dec_f]
            · exact Ev.const rfl
            · intro w
              have:=w.2.2 j i (by omega) hi' (by unfold fn;rw [q])
              omega
          · refine ihe (j+1) (by omega) (by omega) hr (fun b hbj => ?_)
            by_cases z:b=j
            · subst z;exact q
            · exact hb b (by omega)
      refine Ev.step (fun k=>by rw [sx_.l0]) ?_
      rw [wrap64_id (x:=(p.length:Int) - 1) (by omega) (by omega)]
      refine Ev.pos (by omega) (Ev.pos (by omega) (Ev.bindc (spec_l6In_eq _ _ _) ?_))
      refine Ev.ite (fun q => ?_) (fun q => ?_)
      · have q':=of_decide_eq_true q
        exact inner i 0 (by omega) (by omega) ⟨by omega,by omega⟩ (fun b hb=>by omega)
      · rw [dec_f]
        · exact Ev.const rfl
        · intro w
          have:=w.2.1.2 i hi'
          exact q (decide_eq_true ⟨by omega,by omega⟩)
  unfold sx_.f
  exact key p.length 0 (by omega) (by omega) (fun a ha=>by omega) (fun a b ha=>by omega)
/-! ### spec_l1Both -/
theorem spec_l1Both_ev (a b:List Int) (ha:a.length≤1048576) (hb:b.length≤1048576):Ev (fun k=>sy_.f k a b) (dec (POK a∧POK b∧a.length=b.length)):=by
  unfold sy_.f
  refine Ev.bind (spec_PermValid_ev a ha) ?_
  refine Ev.ite (fun h1 => ?_) (fun h1 => ?_)
  · refine Ev.bind (spec_PermValid_ev b hb) ?_
    refine Ev.ite (fun h2=>Ev.const ?_) (fun h2 => ?_)
    · congr 1
      have a1:=dec_iff.1 h1
      have a2:=dec_iff.1 h2
      by_cases e:a.length=b.length
      · rw [dec_t ⟨a1,a2,e⟩,e];exact beq_self_eq_true _
      · rw [dec_f (fun w=>e w.2.2)];exact beq_eq_false_iff_ne.2 (by omega)
    · rw [dec_f (fun w=>h2 (dec_t w.2.1))];exact Ev.const rfl
  · rw [dec_f (fun w=>h1 (dec_t w.1))];exact Ev.const rfl
/-! ### spec_MapValid -/
theorem spec_MapValid_ev (t f:List Int) (ht:t.length≤1048576) (hf:f.length≤1048576):Ev (fun k=>sw_.f k t f) (dec (MOK t f)):=by
  unfold sw_.f
  refine Ev.bind (spec_l1Both_ev t f ht hf) ?_
  refine Ev.ite (fun h1 => ?_) (fun h1 => ?_)
  · obtain⟨a1,a2,hl⟩:=dec_iff.1 h1
    have ft:=a2.2.1
    have tt:=a1.2.1
    rw [hl] at tt
    have hz:=a1.1
    have ho:=(orbL_isOrb tt ft)
    have hol:=ho.1.1
    have last:(∀ q,q<f.length→fn f q≠q∧fn f (fn f q)=q) → ∀ d i,f.length - i=d→i≤f.length→(∀ q,q<i→rd (orbL t f) (q:Int)=0)→Ev (fun k=>sw_.l1 k (orbL t f) (i:Nat)) (dec (MOK t f)):=by
      intro hq d
      induction d with
      | zero =>
        intro i hd hi h0
        refine Ev.step (fun k=>by rw [sw_.l1]) ?_
        refine Ev.neg (by omega) ?_
        rw [dec_t]
        · exact Ev.const rfl
        · exact⟨a1,a2,hl,hq,fun i hi=>h0 i (by omega)⟩
      | succ d ih =>
        intro i hd hi h0
        refine Ev.step (fun k=>by rw [sw_.l1]) ?_
        rw [wrap64_id (x:=(i:Int)+1) (by omega) (by omega)]
        refine Ev.pos (by omega) (Ev.pos (by omega) (Ev.ite (fun q => ?_) (fun q => ?_)))
        · refine ih (i+1) (by omega) (by omega) (fun z hz => ?_)
          by_cases e:z=i
          · subst e;exact q
          · exact h0 z (by omega)
        · rw [dec_f (fun w=>q (w.2.2.2.2 i (by omega)))];exact Ev.const rfl
    have key : ∀ d i,f.length - i=d→i≤f.length→(∀ q,q<i→fn f q≠q∧fn f (fn f q)=q)→Ev (fun k=>sw_.l0 k (i:Nat) t f) (dec (MOK t f)):=by
      intro d
      induction d with
      | zero =>
        intro i hd hi hq
        obtain rfl:i=f.length:=by omega
        refine Ev.step (fun k=>by rw [sw_.l0]) ?_
        refine Ev.neg (by omega) ?_
        refine Ev.bind (spec_l1Orbits_ev f.length (by omega) t f tt ft) ?_
        exact last hq f.length 0 (by omega) (by omega) (fun q hq=>by omega)
      | succ d ih =>
        intro i hd hi hq
        have hi':i<f.length:=by omega
        have e1:=ft.fn hi'
        have e2:=ft.fn e1.2
        refine Ev.step (fun k=>by rw [sw_.l0]) ?_
        rw [e1.1,e2.1,wrap64_id (x:=(i:Int)+1) (by omega) (by omega)]
        refine Ev.pos (by omega) (Ev.pos (by omega) ?_)
        refine Ev.ite (fun n1 => ?_) (fun n1 => ?_)
        · rw [dec_f (fun w=>(w.2.2.2.1 i hi').1 (by omega))];exact Ev.const rfl
        refine Ev.pos (by omega) (Ev.pos (by omega) ?_)
        refine Ev.ite (fun n2 => ?_) (fun n2 => ?_)
        · refine ih (i+1) (by omega) (by omega) (fun q hqi => ?_)
          by_cases e:q=i
          · subst e;exact⟨by omega,by omega⟩
          · exact hq q (by omega)
        · rw [dec_f (fun w=>n2 (by have:=(w.2.2.2.1 i hi').2;omega))];exact Ev.const rfl
    exact key f.length 0 (by omega) (by omega) (fun q hq=>by omega)
  · rw [dec_f (fun w=>h1 (dec_t ⟨w.1,w.2.1,w.2.2.1⟩))];exact Ev.const rfl
/-! ### spec_l91Perm -/
/-- What the draw of a permutation has made after i points. -/
def PermPre (i:Nat) (x:List Int):Prop:=x.length=i∧(∀ a:Nat,a<i→0≤rd x (a:Int)∧rd x (a:Int)<i) ∧ ∀ a b:Nat,a<i→b<i→rd x (a:Int)=rd x (b:Int)→a=b
theorem PermPre.perm {n:Nat} {x:List Int} (h:PermPre n x):PermL n x:=⟨⟨h.1,h.2.1⟩,fun i j hi hj e=>by
  have h1:=h.2.1 i hi
  have h2:=h.2.1 j hj
  unfold fn at e
  exact h.2.2 i j hi hj (by omega)⟩
theorem rd_snoc_lt (x:List Int) (v:Int) (a:Nat) (h:a<x.length):rd (x ++ [v]) (a:Int)=rd x (a:Int):=by
  rw [rd_nat _ _ (by rw [List.length_append];omega),rd_nat _ _ h,List.getElem_append_left h]
theorem rd_snoc_eq (x:List Int) (v:Int):rd (x ++ [v]) (x.length:Int)=v:=by
  rw [rd_nat _ _ (by simp)];simp
theorem PermPre.last {i:Nat} {x:List Int} (h:PermPre i x):PermPre (i+1) (x ++ [(i:Int)]):=by
  obtain⟨h1,h2,h3⟩:=h
  have hi:rd (x ++ [(i:Int)]) (i:Int)=(i:Int):=by have:=rd_snoc_eq x (i:Int);rwa [h1] at this
  have hlt : ∀ a:Nat,a<i→rd (x ++ [(i:Int)]) (a:Int)=rd x (a:Int):=fun a ha=>rd_snoc_lt x _ a (by omega)
  refine⟨by simp [h1],fun a ha => ?_,fun a b ha hb e => ?_⟩
  · by_cases q:a=i
    · subst q;rw [hi];omega
    · rw [hlt a (by omega)];have:=h2 a (by omega);omega
  · by_cases q:a=i
    · by_cases q':b=i
      · omega
      · subst q;rw [hi,hlt b (by omega)] at e;have:=h2 b (by omega);omega
    · by_cases q':b=i
      · subst q';rw [hi,hlt a (by omega)] at e;have:=h2 a (by omega);omega
      · rw [hlt a (by omega),hlt b (by omega)] at e
        exact h3 a b (by omega) (by omega) e
theorem PermPre.swap {i k:Nat} {x:List Int} (h:PermPre i x) (hk:k<i):PermPre (i+1) ((x ++ [rd x (k:Int)]).set k (i:Int)):=by
  obtain⟨h1,h2,h3⟩:=h
  have hl:(x ++ [rd x (k:Int)]).length=i+1:=by simp [h1]
  have e1:rd ((x ++ [rd x (k:Int)]).set k (i:Int)) (k:Int)=(i:Int):=rd_set_self _ _ _ (by omega)
  have e2:rd ((x ++ [rd x (k:Int)]).set k (i:Int)) (i:Int)=rd x (k:Int):=by
    rw [rd_set_ne _ _ _ _ (by omega)]
    have:=rd_snoc_eq x (rd x (k:Int));rwa [h1] at this
  have e3 : ∀ a:Nat,a<i→a≠k→rd ((x ++ [rd x (k:Int)]).set k (i:Int)) (a:Int)=rd x (a:Int):=fun a ha hne=>by
    rw [rd_set_ne _ _ _ _ (Ne.symm hne),rd_snoc_lt x _ a (by omega)]
  have vk:=h2 k hk
  refine⟨by simp [h1],fun a ha => ?_,fun a b ha hb e => ?_⟩
  · by_cases q:a=k
    · subst q;rw [e1];omega
    · by_cases q':a=i
      · subst q';rw [e2];omega
      · rw [e3 a (by omega) q];have:=h2 a (by omega);omega
  · have val : ∀ a:Nat,a<i+1→(a=k∧rd ((x ++ [rd x (k:Int)]).set k (i:Int)) (a:Int)=(i:Int))∨(a=i∧rd ((x ++ [rd x (k:Int)]).set k (i:Int)) (a:Int)=rd x (k:Int))∨(a<i∧a≠k∧rd ((x ++ [rd x (k:Int)]).set k (i:Int)) (a:Int)=rd x (a:Int)):=by
      intro a ha
      by_cases q:a=k
      · left;exact⟨q,by rw [q];exact e1⟩
      · by_cases q':a=i
        · right;left;exact⟨q',by rw [q'];exact e2⟩
        · right;right;exact⟨by omega,q,e3 a (by omega) q⟩
    rcases val a ha with⟨p1,p2⟩|⟨p1,p2⟩|⟨p1,p3,p2⟩ <;> rcases val b hb with⟨q1,q2⟩|⟨q1,q2⟩|⟨q1,q3,q2⟩
    · omega
    · rw [p2,q2] at e;omega
    · rw [p2,q2] at e;have:=h2 b q1;omega
    · rw [p2,q2] at e;omega
    · omega
    · rw [p2,q2] at e;exact absurd (h3 k b hk q1 e).symm q3
    · rw [p2,q2] at e;have:=h2 a p1;omega
    · rw [p2,q2] at e;exact absurd (h3 a k p1 hk e) p3
    · rw [p2,q2] at e;exact h3 a b p1 q1 e
theorem spec_l91Perm_ex (l:List Int) (hb:Bytes l) (hn:l.length≤2000) (p:Int) (n:Nat) (hN:n≤100) (hp0:0≤p) (hp1:p≤1000000) : ∃ x q,Ev (fun k=>s1f_.f k l p (n:Nat)) (x,q)∧PermL n x∧p≤q∧q≤p+100:=by
  have key : ∀ d i:Nat,n - i=d→i≤n → ∀ x:List Int,PermPre i x → ∀ q:Int,p≤q→q≤p+i → ∃ x' q',Ev (fun k=>s1f_.l0 k (n:Nat) x (i:Nat) l q) (x',q')∧PermL n x'∧p≤q'∧q'≤p+100:=by
    intro d
    induction d with
    | zero =>
      intro i hd hi x hx q hq hq'
      obtain rfl:i=n:=by omega
      refine⟨x,q,?_,hx.perm,hq,by omega⟩
      refine Ev.step (fun k=>by rw [s1f_.l0]) ?_
      exact Ev.neg (by omega) (Ev.const rfl)
    | succ d ih =>
      intro i hd hi x hx q hq hq'
      have hl:=hx.1
      obtain⟨y,y1,y2,y3⟩:=spec_l6Rd_pick_ex l hb hn q ((i:Int)+1) (by omega) (by omega)
      have y3:=y3 (by omega)
      obtain⟨k,rfl⟩ : ∃ k:Nat,y=(k:Int):=⟨y.toNat,by omega⟩
      by_cases e:k=i
      · subst e
        obtain⟨x',q',r1,r2,r3,r4⟩:=ih (k+1) (by omega) (by omega) _ hx.last (q+1) (by omega) (by omega)
        refine⟨x',q',?_,r2,r3,r4⟩
        refine Ev.step (fun k=>by rw [s1f_.l0]) ?_
        rw [wrap64_id (x:=(k:Int)+1) (by omega) (by omega)]
        refine Ev.pos (by omega) (Ev.bind y1 (Ev.pos rfl (Ev.pos (by omega) ?_)))
        exact r1
      · obtain⟨x',q',r1,r2,r3,r4⟩:=ih (i+1) (by omega) (by omega) _ (hx.swap (k:=k) (by omega)) (q+1) (by omega) (by omega)
        refine⟨x',q',?_,r2,r3,r4⟩
        refine Ev.step (fun k=>by rw [s1f_.l0]) ?_
        rw [wrap64_id (x:=(i:Int)+1) (by omega) (by omega)]
        refine Ev.pos (by omega) (Ev.bind y1 (Ev.neg (by show ¬ ((k:Int)=(i:Int));omega) (Ev.pos (by omega) (Ev.pos (by show(k:Int)<(x.length:Int);omega) (Ev.pos (by omega) (Ev.bindc rfl (Ev.pos (by show(k:Int)<((x ++ [rd x (k:Int)]).length:Int);simp;omega) ?_)))))))
        exact r1
  unfold s1f_.f
  obtain⟨x,q,r1,r2,r3,r4⟩:=key n 0 (by omega) (by omega) [] ⟨rfl,fun a ha=>by omega,fun a b ha=>by omega⟩ p (by omega) (by omega)
  exact⟨x,q,r1,r2,r3,r4⟩
/-! ### spec_l91Map -/
theorem set_swap_perm {n:Nat} {t:List Int} (ht:PermL n t) {a b:Nat} (ha:a<n) (hb:b<n):PermL n ((t.set a (rd t (b:Int))).set b (rd t (a:Int))):=by
  have hl:=ht.1.1
  have val : ∀ i:Nat,i<n→fn ((t.set a (rd t (b:Int))).set b (rd t (a:Int))) i=(if i=b then fn t a else if i=a then fn t b else fn t i):=by
    intro i hi
    unfold fn
    by_cases e:i=b
    · subst e;rw [if_pos rfl,rd_set_self _ _ _ (by simp;omega)]
    · rw [if_neg e,rd_set_ne _ _ _ _ (Ne.symm e)]
      by_cases e2:i=a
      · subst e2;rw [if_pos rfl,rd_set_self _ _ _ (by omega)]
      · rw [if_neg e2,rd_set_ne _ _ _ _ (Ne.symm e2)]
  have rng : ∀ i:Nat,i<n→0≤rd ((t.set a (rd t (b:Int))).set b (rd t (a:Int))) (i:Int)∧rd ((t.set a (rd t (b:Int))).set b (rd t (a:Int))) (i:Int)<n:=by
    intro i hi
    by_cases e:i=b
    · subst e;rw [rd_set_self _ _ _ (by simp;omega)];exact ht.1.2 a ha
    · rw [rd_set_ne _ _ _ _ (Ne.symm e)]
      by_cases e2:i=a
      · subst e2;rw [rd_set_self _ _ _ (by omega)];exact ht.1.2 b hb
      · rw [rd_set_ne _ _ _ _ (Ne.symm e2)];exact ht.1.2 i hi
  refine⟨⟨by simp [hl],rng⟩,fun i j hi hj e => ?_⟩
  have alt : ∀ i:Nat,i<n → ∃ s:Nat,s<n∧fn ((t.set a (rd t (b:Int))).set b (rd t (a:Int))) i=fn t s∧((i=b∧s=a)∨(i≠b∧i=a∧s=b)∨(i≠b∧i≠a∧s=i)):=by
    intro i hi
    rw [val i hi]
    by_cases e:i=b
    · exact⟨a,ha,by rw [if_pos e],.inl ⟨e,rfl⟩⟩
    · by_cases e2:i=a
      · exact⟨b,hb,by rw [if_neg e,if_pos e2],.inr (.inl ⟨e,e2,rfl⟩)⟩
      · exact⟨i,hi,by rw [if_neg e,if_neg e2],.inr (.inr ⟨e,e2,rfl⟩)⟩
  obtain⟨s,s1,s2,s3⟩:=alt i hi
  obtain⟨u,u1,u2,u3⟩:=alt j hj
  rw [s2,u2] at e
  have:=ht.2 s u s1 u1 e
  omega
theorem spec_l91Map_l2 {n : Nat} (hn0 : 1 ≤ n) (hn : n ≤ 100) {t f : List Int} (ht : PermL n t) (x5 x10 : Int) (l : List Int) (p : Int) (r : List Int × List Int × Int)
    (hr : ∀ t',PermL n t'→Ev (fun k=>s1e_.l1 k x5 (wrap64 (x10+1)) l p t' f) r) (o:List Int) (ho:o.length=n) (z:Nat) (hz:z<n) (hne:rd o (z:Int)≠0) :
    ∀ d i,z - i=d→i≤z→Ev (fun k=>s1e_.l2 k x5 x10 o (i:Nat) l p t f) r:=by
  have go : ∀ i:Nat,i<n→rd o (i:Int)≠0→Ev (fun k=>s1e_.l2 k x5 x10 o (i:Nat) l p t f) r:=by
    intro i hi hne
    have hl:=ht.1.1
    refine Ev.step (fun k=>by rw [s1e_.l2]) ?_
    refine Ev.pos (by omega) (Ev.pos (by omega) (Ev.neg hne (Ev.pos (by omega) (Ev.pos (by omega) ?_))))
    exact hr _ (set_swap_perm ht (a:=0) (b:=i) (by omega) hi)
  intro d
  induction d with
  | zero =>
    intro i hd hi
    obtain rfl:i=z:=by omega
    exact go i hz hne
  | succ d ih =>
    intro i hd hi
    by_cases e:rd o (i:Int)=0
    · refine Ev.step (fun k=>by rw [s1e_.l2]) ?_
      rw [wrap64_id (x:=(i:Int)+1) (by omega) (by omega)]
      refine Ev.pos (by omega) (Ev.pos (by omega) (Ev.pos e ?_))
      exact ih (i+1) (by omega) (by omega)
    · exact go i (by omega) e
/-- A map that is drawn: two lists of at most so many numbers. -/
theorem spec_l91Map_ex (l:List Int) (hb:Bytes l) (hn:l.length≤2000) (p:Int) (m:Nat) (hm0:1≤m) (hm:m≤6) (hp0:0≤p) (hp1:p≤100000) : ∃ t f q,Ev (fun k=>s1e_.f k l p (m:Nat)) (t,f,q)∧t.length≤12∧f.length≤12∧p≤q∧q≤p+300:=by
  obtain⟨x,x1,x2,x3⟩:=spec_l6Rd_pick_ex l hb hn p (m:Nat) (by omega) (by omega)
  have x3:=x3 (by omega)
  obtain⟨c,rfl⟩ : ∃ c:Nat,x=(c:Int):=⟨x.toNat,by omega⟩
  obtain⟨n,hnn⟩ : ∃ n:Nat,n=2*(1+c):=⟨_,rfl⟩
  have hw:wrap64 (2*wrap64 (1+(c:Int)))=(n:Int):=by rw [wrap64_id (x:=1+(c:Int)) (by omega) (by omega),wrap64_id (by omega) (by omega)];omega
  obtain⟨a,qa,a1,a2,a3,a4⟩:=spec_l91Perm_ex l hb hn (p+1) n (by omega) (by omega) (by omega)
  have last : ∀ (t f:List Int) (i:Int) (q:Int),t.length=n→f.length=n→p≤q→q≤p+250 → ∃ t' f' q',Ev (fun k=>s1e_.j2 k (n:Nat) i false l q t f) (t',f',q')∧t'.length≤12∧f'.length≤12∧p≤q'∧q'≤p+300:=by
    intro t f i q ht hf hq hq'
    obtain⟨y,y1,y2,y3⟩:=spec_l6Rd_pick_ex l hb hn q 50 (by omega) (by omega)
    by_cases e0:y=0
    · refine⟨t,f.set (0:Int).toNat 0,q+1,?_,by omega,by simp;omega,by omega,by omega⟩
      refine Ev.step (fun k=>by rw [s1e_.j2]) ?_
      exact Ev.neg (by simp) (Ev.bind y1 (Ev.pos e0 (Ev.pos (by omega) (Ev.const rfl))))
    · by_cases e1:y=1
      · refine⟨t.drop (1:Int).toNat,f,q+1,?_,by simp;omega,by omega,by omega,by omega⟩
        refine Ev.step (fun k=>by rw [s1e_.j2]) ?_
        exact Ev.neg (by simp) (Ev.bind y1 (Ev.neg e0 (Ev.pos e1 (Ev.pos (by omega) (Ev.const rfl)))))
      · by_cases e2:y=2
        · refine⟨t.set (0:Int).toNat (n:Nat),f,q+1,?_,by simp;omega,by omega,by omega,by omega⟩
          refine Ev.step (fun k=>by rw [s1e_.j2]) ?_
          exact Ev.neg (by simp) (Ev.bind y1 (Ev.neg e0 (Ev.neg e1 (Ev.pos e2 (Ev.pos (by omega) (Ev.const rfl))))))
        · refine⟨t,f,q+1,?_,by omega,by omega,by omega,by omega⟩
          refine Ev.step (fun k=>by rw [s1e_.j2]) ?_
          exact Ev.neg (by simp) (Ev.bind y1 (Ev.neg e0 (Ev.neg e1 (Ev.neg e2 (Ev.const rfl)))))
  have loop : ∀ (f:List Int),PairL n f → ∀ d i:Nat,n - i=d→i≤n → ∀ t,PermL n t → ∀ q,p≤q→q≤p+250 → ∃ t' f' q',Ev (fun k=>s1e_.l1 k (n:Nat) (i:Nat) l q t f) (t',f',q')∧t'.length≤12∧f'.length≤12∧p≤q'∧q'≤p+300:=by
    intro f hf d
    induction d with
    | zero =>
      intro i hd hi t ht q hq hq'
      obtain⟨t',f',q',r1,r2⟩:=last t f (i:Nat) q ht.1.1 hf.pts.1 hq hq'
      refine⟨t',f',q',?_,r2⟩
      refine Ev.step (fun k=>by rw [s1e_.l1]) ?_
      exact Ev.neg (by omega) r1
    | succ d ih =>
      intro i hd hi t ht q hq hq'
      have tl:=ht.1.1
      have fl:=hf.pts.1
      have hv:=spec_MapValid_ev t f (by omega) (by omega)
      by_cases hM:MOK t f
      · obtain⟨t',f',q',r1,r2⟩:=last t f (i:Nat) q tl fl hq hq'
        refine⟨t',f',q',?_,r2⟩
        rw [dec_t hM] at hv
        refine Ev.step (fun k=>by rw [s1e_.l1]) ?_
        exact Ev.pos (by omega) (Ev.bind hv r1)
      · rw [dec_f hM] at hv
        -- some point is not joined to the first one
        obtain⟨z,hz,hne⟩ : ∃ z,z<n∧rd (orbL t f) (z:Int)≠0:=by
          refine Classical.byContradiction fun hno=>hM ?_
          have fp:PermL n f:=⟨hf.pts,fun a b ha hb e=>by rw [← hf.inv a ha,e,hf.inv b hb]⟩
          refine⟨⟨by omega,by rw [tl];exact ht⟩,⟨by omega,by rw [fl];exact fp⟩,by omega,fun a ha=>⟨hf.ne a (by omega),hf.inv a (by omega)⟩,fun a ha=>Classical.byContradiction fun w=>hno ⟨a,by omega,w⟩⟩
        have each : ∀ t':List Int,PermL n t' → ∃ r,Ev (fun k=>s1e_.l1 k (n:Nat) (wrap64 (((i:Nat):Int)+1)) l q t' f) r∧(r.1.length≤12∧r.2.1.length≤12∧p≤r.2.2∧r.2.2≤p+300):=by
          intro t' ht'
          obtain⟨t2,f2,q2,r1,r2⟩:=ih (i+1) (by omega) (by omega) t' ht' q hq hq'
          rw [wrap64_id (x:=(i:Int)+1) (by omega) (by omega)]
          exact⟨(t2,f2,q2),r1,r2⟩
        -- the first such point
        obtain⟨y,⟨hy,hyne⟩,hmin⟩:=least_of (fun y=>y<n∧rd (orbL t f) (y:Int)≠0) z ⟨hz,hne⟩
        obtain⟨r,r1,r2⟩:=each _ (set_swap_perm ht (a:=0) (b:=y) (by omega) hy)
        refine⟨r.1,r.2.1,r.2.2,?_,r2⟩
        refine Ev.step (fun k=>by rw [s1e_.l1]) ?_
        refine Ev.pos (by omega) (Ev.bind hv ?_)
        refine Ev.step (fun k=>by rw [s1e_.j2]) ?_
        refine Ev.pos rfl (Ev.bind (spec_l1Orbits_ev n (by omega) t f ht.1 hf.pts) ?_)
        have hol:(orbL t f).length=n:=by rw [orbL_length,tl]
        have walk : ∀ d i',y - i'=d→i'≤y→Ev (fun k=>s1e_.l2 k (n:Nat) (i:Nat) (orbL t f) (i':Nat) l q t f) r:=by
          intro d'
          induction d' with
          | zero =>
            intro i' hd' hi'
            obtain rfl:i'=y:=by omega
            refine Ev.step (fun k=>by rw [s1e_.l2]) ?_
            refine Ev.pos (by omega) (Ev.pos (by omega) (Ev.neg hyne (Ev.pos (by omega) (Ev.pos (by omega) ?_))))
            exact r1
          | succ d' ih' =>
            intro i' hd' hi'
            have e:rd (orbL t f) (i':Int)=0:=Classical.byContradiction fun w=>by have:=hmin i' ⟨by omega,w⟩;omega
            refine Ev.step (fun k=>by rw [s1e_.l2]) ?_
            rw [wrap64_id (x:=(i':Int)+1) (by omega) (by omega)]
            exact Ev.pos (by omega) (Ev.pos (by omega) (Ev.pos e (ih' (i'+1) (by omega) (by omega))))
        exact walk y 0 (by omega) (by omega)
  -- the pairs
  have pairs : ∀ d i:Nat,c+1 - i=d→i≤c+1 → ∀ f:List Int,f.length=n→(∀ j:Nat,j<2*i→rd f (fn a j:Int)=(fn a (if j % 2=0 then j+1 else j - 1):Int)) →
      ∃ t' f' q',Ev (fun k=>s1e_.l0 k (n:Nat) a f ((2*i:Nat):Int) l qa) (t',f',q')∧t'.length≤12∧f'.length≤12∧p≤q'∧q'≤p+300:=by
    intro d
    induction d with
    | zero =>
      intro i hd hi f hf hq
      have hap:=a2.perm
      have hF:PairL n f:=by
        have at_ : ∀ j,j<n→rd f (fn a j:Int)=(fn a (if j % 2=0 then j+1 else j - 1):Int)∧(if j % 2=0 then j+1 else j - 1)<n∧(if j % 2=0 then j+1 else j - 1)≠j:=fun j hj=>⟨hq j (by omega),by split <;> omega,by split <;> omega⟩
        have pre : ∀ x,x<n → ∃ j,j<n∧x=fn a j:=fun x hx=>⟨bck n (fn a) x,hap.gl x hx,(hap.fg x hx).symm⟩
        have fnv : ∀ j,j<n→fn f (fn a j)=fn a (if j % 2=0 then j+1 else j - 1):=fun j hj=>by unfold fn;rw [show rd f ((rd a (j:Int)).toNat:Int)=_ from(at_ j hj).1];rfl
        refine⟨⟨hf,fun x hx => ?_⟩,fun x hx => ?_,fun x hx => ?_⟩
        · obtain⟨j,hj,rfl⟩:=pre x hx
          obtain⟨h1,h2,h3⟩:=at_ j hj
          rw [h1]
          have:=hap.fl _ h2;omega
        · obtain⟨j,hj,rfl⟩:=pre x hx
          obtain⟨h1,h2,h3⟩:=at_ j hj
          rw [fnv j hj]
          exact fun w=>h3 (a2.2 _ _ h2 hj w)
        · obtain⟨j,hj,rfl⟩:=pre x hx
          obtain⟨h1,h2,h3⟩:=at_ j hj
          rw [fnv j hj,fnv _ h2]
          congr 1
          split <;> (split <;> omega)
      obtain⟨t0,q0,s1,s2,s3,s4⟩:=spec_l91Perm_ex l hb hn qa n (by omega) (by omega) (by omega)
      obtain⟨t',f',q',r1,r2⟩:=loop f hF n 0 (by omega) (by omega) t0 s2 q0 (by omega) (by omega)
      refine⟨t',f',q',?_,r2⟩
      refine Ev.step (fun k=>by rw [s1e_.l0]) ?_
      rw [wrap64_id (x:=((2*i:Nat):Int)+1) (by omega) (by omega)]
      exact Ev.neg (by omega) (Ev.bind s1 r1)
    | succ d ih =>
      intro i hd hi f hf hq
      have e1:=a2.1.fn (show 2*i<n by omega)
      have e2:=a2.1.fn (show 2*i+1<n by omega)
      have al:=a2.1.1
      have hne:fn a (2*i)≠fn a (2*i+1):=fun w=>by have:=a2.2 _ _ (by omega) (by omega) w;omega
      obtain⟨t',f',q',r1,r2⟩:=ih (i+1) (by omega) (by omega) ((f.set (fn a (2*i)) (fn a (2*i+1):Int)).set (fn a (2*i+1)) (fn a (2*i):Int)) (by simp [hf]) (fun j hj=>by
        by_cases z1:j=2*i+1
        · rw [z1,if_neg (by omega),show 2*i+1 - 1=2*i by omega]
          exact rd_set_self _ _ _ (by simp [hf];omega)
        · by_cases z2:j=2*i
          · rw [z2,if_pos (by omega),rd_set_ne _ _ _ _ (Ne.symm hne)]
            exact rd_set_self _ _ _ (by omega)
          · have n1:fn a (2*i+1)≠fn a j:=fun w=>by have:=a2.2 _ _ (by omega) (by omega) w;omega
            have n2:fn a (2*i)≠fn a j:=fun w=>by have:=a2.2 _ _ (by omega) (by omega) w;omega
            rw [rd_set_ne _ _ _ _ n1,rd_set_ne _ _ _ _ n2]
            exact hq j (by omega))
      refine⟨t',f',q',?_,r2⟩
      refine Ev.step (fun k=>by rw [s1e_.l0]) ?_
      rw [wrap64_id (x:=((2*i:Nat):Int)+1) (by omega) (by omega),wrap64_id (x:=((2*i:Nat):Int)+2) (by omega) (by omega),show((2*i:Nat):Int)+1=((2*i+1:Nat):Int) by omega,e1.1,e2.1]
      simp only [toNat_nat]
      refine Ev.pos (by omega) (Ev.pos (by omega) (Ev.pos (by omega) (Ev.pos (by omega) (Ev.pos (by omega) (Ev.pos (by omega) (Ev.pos (by omega) (Ev.pos (by omega) (Ev.pos (by omega) ?_))))))))
      rw [show((2*i:Nat):Int)+2=((2*(i+1):Nat):Int) by omega]
      exact r1
  obtain⟨t',f',q',r1,r2⟩:=pairs (c+1) 0 (by omega) (by omega) (List.replicate n 0) (by simp) (fun j hj=>by omega)
  refine⟨t',f',q',?_,r2⟩
  unfold s1e_.f
  refine Ev.bind x1 ?_
  rw [hw]
  refine Ev.bind a1 (Ev.pos (by omega) (Ev.pos (by omega) ?_))
  exact r1
/-! ### spec_l91At -/
theorem spec_l91At_ex' (l:List Int) (hb:Bytes l) (hn:l.length≤2000) (p a:Int) (hp0:0≤p) (hp1:p≤1000000) : ∃ x q,Ev (fun k=>s1d_.f k l p a) (x,q)∧p≤q∧q≤p+2:=by
  have j : ∀ (c:Bool) (p:Int),0≤p→p≤1000001 → ∃ x,Ev (fun k=>s1d_.j0 k a c l p) (x,p+1):=by
    intro c p p0 p1
    cases c with
    | true =>
      obtain⟨y,y1,y2,y3⟩:=spec_l6Rd_pick_ex l hb hn p 2 p0 (by omega)
      have y4:=y3 (by omega)
      refine⟨rd [(-1),a] y,?_⟩
      refine Ev.step (fun k=>by rw [s1d_.j0]) (Ev.pos rfl ?_)
      exact Ev.bindc rfl (Ev.bind y1 (Ev.pos y2 (Ev.pos (by simpa using y4) (Ev.const rfl))))
    | false =>
      obtain⟨y,y1,y2,y3⟩:=spec_l6Rd_pick_ex l hb hn p a p0 (by omega)
      refine⟨y,?_⟩
      refine Ev.step (fun k=>by rw [s1d_.j0]) (Ev.neg (by simp) ?_)
      exact Ev.bind y1 (Ev.const rfl)
  unfold s1d_.f
  by_cases h:a=0
  · obtain⟨x,e⟩:=j true p hp0 (by omega)
    exact⟨x,p+1,Ev.pos h e,by omega,by omega⟩
  · obtain⟨y,y1,y2,y3⟩:=spec_l6Rd_pick_ex l hb hn p 20 hp0 (by omega)
    obtain⟨x,e⟩:=j (y == 0) (p+1) (by omega) (by omega)
    exact⟨x,_,Ev.neg h (Ev.bind y1 e),by omega,by omega⟩
theorem spec_l91At_ex (l:List Int) (hb:Bytes l) (hn:l.length≤2000) (p a:Int) (hp0:0≤p) (hp1:p≤1000000) : ∃ x q,Ev (fun k=>s1d_.f k l p a) (x,q):=by
  obtain⟨x,q,e,_⟩:=spec_l91At_ex' l hb hn p a hp0 hp1
  exact⟨x,q,e⟩
/-! ### spec_l92Edge -/
theorem spec_l92Edge_ex (l:List Int) (hb:Bytes l) (hn:l.length≤2000) : ∃ t f e q,Ev (fun n=>s1g_.f n l 0) (t,f,e,q)∧t.length≤12∧f.length≤12:=by
  obtain⟨t,f,q,r1,r2,r3,r4,r5⟩:=spec_l91Map_ex l hb hn 0 5 (by omega) (by omega) (by omega) (by omega)
  obtain⟨x,q',s1⟩:=spec_l91At_ex l hb hn q (wrap64 ((f.length:Int) / 2)) (by omega) (by omega)
  refine⟨t,f,x,q',?_,r2,r3⟩
  unfold s1g_.f
  exact Ev.bind r1 (Ev.bind s1 (Ev.const rfl))
/-! ### spec_DrawEdgeContract -/
theorem spec_DrawEdgeContract_ex (l:List Int) (hb:Bytes l) : ∃ t f e,Ev (fun n=>st_.f n l) (t,f,e)∧t.length≤12∧f.length≤12:=by
  obtain⟨m,h1,h2,h3⟩:=spec_l6Open_ex l hb
  obtain⟨t,f,x,q,s1,s2,s3⟩:=spec_l92Edge_ex m h2 h3
  refine⟨t,f,x,?_,s2,s3⟩
  unfold st_.f
  exact Ev.bindc h1 (Ev.bind s1 (Ev.const rfl))
/-! ### spec_l7Edges -/
theorem spec_l7Edges_ev (n:Nat) (hn:n≤4194304) (t f:List Int) (hf:PairL n f):Ev (fun k=>s17_.f k t f) (edgL f):=by
  have hl:=hf.pts.1
  have key : ∀ d i,n - i=d→i≤n → ∀ x:List Int,x.length=n→(∀ j:Nat,j<n→(j<i∨fn f j<i)→rd x (j:Int)=edgeN f j)→Ev (fun k=>s17_.l0 k x (cntP (lowD f) i:Nat) (i:Nat) t f) (edgL f):=by
    intro d
    induction d with
    | zero =>
      intro i hd hi x hx hq
      refine Ev.step (fun k=>by rw [s17_.l0]) ?_
      refine Ev.neg (by omega) (Ev.const ?_)
      congr 1
      refine list_ext_rd (by rw [hx,edgL_length,hl]) (fun j hj => ?_)
      rw [hq j (by omega) (.inl (by omega)),rd_edgL f j (by omega)]
    | succ d ih =>
      intro i hd hi x hx hq
      have hi':i<n:=by omega
      have e1:=hf.pts.fn hi'
      have hc:=cntP_le (lowD f) i
      refine Ev.step (fun k=>by rw [s17_.l0]) ?_
      rw [e1.1,wrap64_id (x:=(i:Int)+1) (by omega) (by omega),wrap64_id (x:=((cntP (lowD f) i:Nat):Int)+1) (by omega) (by omega)]
      simp only [toNat_nat]
      refine Ev.pos (by omega) (Ev.pos (by omega) (Ev.pos (by omega) ?_))
      refine Ev.ite (fun q => ?_) (fun q => ?_)
      · have hlow:lowD f i=true:=decide_eq_true (by omega)
        obtain⟨g1,g2⟩:=hf.edge_of hi' hlow
        refine Ev.pos (by omega) (Ev.pos (by omega) ?_)
        have:=ih (i+1) (by omega) (by omega) ((x.set i (cntP (lowD f) i:Int)).set (fn f i) (cntP (lowD f) i:Int)) (by simp [hx]) (fun j hj hjs=>by
          by_cases a:j=fn f i
          · subst a
            rw [rd_set_self _ _ _ (by simp [hx];omega),g2]
          · rw [rd_set_ne _ _ _ _ (fun w=>a w.symm)]
            by_cases b:j=i
            · subst b
              rw [rd_set_self _ _ _ (by omega),g1]
            · rw [rd_set_ne _ _ _ _ (fun w=>b w.symm)]
              refine hq j hj ?_
              rcases hjs with c|c
              · exact .inl (by omega)
              · refine .inr ?_
                by_cases z:fn f j=i
                · exact absurd (by rw [← hf.inv j hj,z]) a
                · omega)
        have ec:cntP (lowD f) (i+1)=cntP (lowD f) i+1:=by simp only [cntP];rw [if_pos hlow]
        rw [ec] at this
        exact this
      · have hlow:lowD f i=false:=decide_eq_false (by omega)
        have:=ih (i+1) (by omega) (by omega) x hx (fun j hj hjs=>by
          have hne:=hf.ne i hi'
          rcases hjs with c|c
          · by_cases z:j=i
            · subst z;exact hq j hj (.inr (by omega))
            · exact hq j hj (.inl (by omega))
          · by_cases z:fn f j=i
            · have:j=fn f i:=by rw [← hf.inv j hj,z]
              exact hq j hj (.inl (by omega))
            · exact hq j hj (.inr (by omega)))
        have ec:cntP (lowD f) (i+1)=cntP (lowD f) i:=by simp only [cntP];rw [if_neg (by rw [hlow];simp)];rfl
        rw [ec] at this
        exact this
  unfold s17_.f
  rw [hl]
  refine Ev.pos (by omega) (Ev.pos (by omega) ?_)
  exact key n 0 (by omega) (by omega) _ (by simp) (fun j hj hjs=>by rcases hjs with c|c <;> omega)
/-! ### spec_l7Dart -/
theorem spec_l7Dart_ev {n:Nat} (hn:n≤4194304) {t f:List Int} (hf:PairL n f) {e:Nat} (he:e<n / 2):Ev (fun k=>s16_.f k t f (e:Nat)) (ldart n f e:Int):=by
  obtain⟨s1,s2,s3⟩:=ldart_spec hf he
  have hl:=hf.pts.1
  have hel:=edgL_length f
  have key : ∀ d i,ldart n f e - i=d→i≤ldart n f e→Ev (fun k=>s16_.l0 k (e:Nat) (edgL f) (i:Nat)) (ldart n f e:Int):=by
    intro d
    induction d with
    | zero =>
      intro i hd hi
      obtain rfl:i=ldart n f e:=by omega
      refine Ev.step (fun k=>by rw [s16_.l0]) ?_
      rw [rd_edgL f _ (by omega),(hf.edge_of s1 s2).1,s3]
      exact Ev.pos (by omega) (Ev.pos (by omega) (Ev.pos rfl (Ev.const rfl)))
    | succ d ih =>
      intro i hd hi
      refine Ev.step (fun k=>by rw [s16_.l0]) ?_
      rw [rd_edgL f _ (by omega),wrap64_id (x:=(i:Int)+1) (by omega) (by omega)]
      refine Ev.pos (by omega) (Ev.pos (by omega) (Ev.neg (fun w => ?_) (ih (i+1) (by omega) (by omega))))
      obtain⟨a,a1,a2,a3,a4⟩:=hf.low (show i<n by omega)
      have ea:a=ldart n f e:=low_unique a2 s2 (by rw [← a3,s3];omega)
      subst ea
      have:ldart n f e<fn f (ldart n f e):=of_decide_eq_true s2
      omega
  unfold s16_.f
  refine Ev.bind (spec_l7Edges_ev n hn t f hf) ?_
  exact key _ 0 rfl (by omega)
/-! ### spec_l7Has -/
theorem spec_l7Has_ev (l:List Int) (d:Int) (hl:l.length≤12):Ev (fun k=>s18_.f k l d) (dec (Holds l d)):=by
  have key : ∀ e i,l.length - i=e→i≤l.length→(∀ q:Nat,q<i→rd l (q:Int)≠d)→Ev (fun k=>s18_.l0 k l d (i:Nat)) (dec (Holds l d)):=by
    intro e
    induction e with
    | zero =>
      intro i he hi hq
      obtain rfl:i=l.length:=by omega
      refine Ev.step (fun k=>by rw [s18_.l0]) ?_
      rw [dec_f (fun⟨j,hj,ej⟩=>hq j hj ej)]
      exact Ev.neg (by omega) (Ev.const rfl)
    | succ e ih =>
      intro i he hi hq
      have hi':i<l.length:=by omega
      refine Ev.step (fun k=>by rw [s18_.l0]) ?_
      rw [wrap64_id (x:=(i:Int)+1) (by omega) (by omega)]
      refine Ev.pos (by omega) (Ev.pos (by omega) (Ev.ite (fun q => ?_) (fun q => ?_)))
      · rw [dec_t ⟨i,hi',q⟩];exact Ev.const rfl
      · refine ih (i+1) (by omega) (by omega) (fun z hz => ?_)
        by_cases w:z=i
        · subst w;exact q
        · exact hq z (by omega)
  exact key l.length 0 (by omega) (by omega) (fun q hq=>by omega)
/-! ### spec_l7Parts -/
/-- The first m points as g says, the others where they are. -/
def mixL (n:Nat) (g:Nat→Nat) (m:Nat):List Int:=(List.range n).map (fun d=>if d<m then (g d:Int) else (d:Int))
theorem mixL_length (n:Nat) (g:Nat→Nat) (m:Nat):(mixL n g m).length=n:=by simp [mixL]
theorem mixL_none (n:Nat) (g:Nat→Nat):mixL n g 0=idL n:=by
  refine List.ext_getElem (by simp [mixL,idL]) (fun i h1 h2 => ?_)
  simp [mixL,idL]
theorem mixL_set (n:Nat) (g:Nat→Nat) (m:Nat):(mixL n g m).set m (g m:Int)=mixL n g (m+1):=by
  refine List.ext_getElem (by simp [mixL]) (fun i h1 h2 => ?_)
  rw [List.getElem_set]
  by_cases e:m=i
  · subst e;simp [mixL]
  · rw [if_neg e]
    simp only [mixL,List.getElem_map,List.getElem_range]
    by_cases a:i<m
    · rw [if_pos a,if_pos (by omega)]
    · rw [if_neg a,if_neg (by omega)]
theorem mixL_stay (n:Nat) (g:Nat→Nat) (m:Nat) (h:g m=m):mixL n g (m+1)=mixL n g m:=by
  refine List.ext_getElem (by simp [mixL]) (fun i h1 h2 => ?_)
  simp only [mixL,List.getElem_map,List.getElem_range]
  by_cases e:i=m
  · subst e;rw [if_pos (by omega),if_neg (by omega),h]
  · by_cases a:i<m
    · rw [if_pos a,if_pos (by omega)]
    · rw [if_neg a,if_neg (by omega)]
theorem mixL_all {n:Nat} {p:List Int} (hp:Pts n p):mixL n (fn p) n=p:=by
  refine list_ext_rd (by rw [mixL_length,hp.1]) (fun i hi => ?_)
  rw [mixL_length] at hi
  rw [rd_nat _ _ (by rw [mixL_length];exact hi),(hp.fn hi).1]
  simp [mixL,hi]
theorem spec_l7Parts_ev {t f:List Int} (h:MOK t f) {e:Nat} (he:e<f.length / 2):Ev (fun k=>s1a_.f k t f (restL e (f.length / 2))) (partsN t f (ldart t.length f e):Int):=by
  have hz:=h.size
  have hp:=h.pair
  have he':e<t.length / 2:=by omega
  obtain⟨s1,s2,s3⟩:=ldart_spec hp he'
  have hg:=pts_dropE hp s1
  have hO:=orbL_isOrb h.permT.1 hg
  have ho:=hO.1.1
  have two : ∀ d i,t.length - i=d→i≤t.length→Ev (fun k=>s1a_.l1 k (orbL t (dropE f (ldart t.length f e))) (cntP (fun d=>decide (fn (orbL t (dropE f (ldart t.length f e))) d=d)) i:Nat) (i:Nat)) (partsN t f (ldart t.length f e):Int):=by
    intro d
    induction d with
    | zero =>
      intro i hd hi
      obtain rfl:i=t.length:=by omega
      refine Ev.step (fun k=>by rw [s1a_.l1]) ?_
      exact Ev.neg (by omega) (Ev.const rfl)
    | succ d ih =>
      intro i hd hi
      have nx:=ih (i+1) (by omega) (by omega)
      have l3:=cntP_le (fun d=>decide (fn (orbL t (dropE f (ldart t.length f e))) d=d)) i
      have e1:=hO.1.pts.fn (show i<t.length by omega)
      simp only [cntP] at nx
      refine Ev.step (fun k=>by rw [s1a_.l1]) ?_
      rw [wrap64_id (x:=(i:Int)+1) (by omega) (by omega),wrap64_id (x:=(cntP (fun d=>decide (fn (orbL t (dropE f (ldart t.length f e))) d=d)) i:Int)+1) (by omega) (by omega)]
      refine Ev.pos (by omega) (Ev.pos (by omega) ?_)
      by_cases c:fn (orbL t (dropE f (ldart t.length f e))) i=i
      · rw [if_pos (decide_eq_true c)] at nx
        exact Ev.pos (by omega) nx
      · rw [if_neg (by simpa using c)] at nx
        exact Ev.neg (by omega) nx
  have t0:=two t.length 0 (by omega) (by omega)
  have one : ∀ d i,t.length - i=d→i≤t.length→Ev (fun k=>s1a_.l0 k (restL e (f.length / 2)) (mixL t.length (fn (dropE f (ldart t.length f e))) i) (edgL f) (i:Nat) t f) (partsN t f (ldart t.length f e):Int):=by
    intro d
    induction d with
    | zero =>
      intro i hd hi
      obtain rfl:i=t.length:=by omega
      refine Ev.step (fun k=>by rw [s1a_.l0]) ?_
      rw [mixL_length]
      refine Ev.neg (by omega) ?_
      rw [mixL_all hg]
      exact Ev.bind (spec_l1Orbits_ev t.length (by omega) t _ h.permT.1 hg) t0
    | succ d ih =>
      intro i hd hi
      have hi':i<t.length:=by omega
      have nx:=ih (i+1) (by omega) (by omega)
      have l3:=restL_length e (f.length / 2)
      have hx:=hp.edge_lt hi'
      have hh:=spec_l7Has_ev (restL e (f.length / 2)) (edgeN f i:Int) (by omega)
      have ev:=edge_is hp he' hi'
      have fd:=fn_dropE hp s1 hi'
      have e2:=hp.pts.fn hi'
      refine Ev.step (fun k=>by rw [s1a_.l0]) ?_
      rw [rd_edgL f i (by omega),wrap64_id (x:=(i:Int)+1) (by omega) (by omega),e2.1]
      simp only [mixL_length,edgL_length,toNat_nat]
      refine Ev.pos (by omega) (Ev.pos (by omega) (Ev.pos (by omega) (Ev.bind hh ?_)))
      by_cases c:edgeN f i=e
      · rw [if_pos (ev.1 c)] at fd
        rw [mixL_stay _ _ _ fd] at nx
        exact Ev.neg (by rw [dec_f (fun w=>((holds_rest _ _ _).1 w).2 c)];decide) nx
      · rw [if_neg (fun w=>c (ev.2 w))] at fd
        rw [← mixL_set,fd] at nx
        exact Ev.pos (dec_t ((holds_rest _ _ _).2 ⟨by omega,c⟩)) (Ev.pos (by omega) nx)
  have k0:=one t.length 0 (by omega) (by omega)
  rw [mixL_none] at k0
  unfold s1a_.f
  rw [hz.2.2]
  refine Ev.bind (spec_l1Same_ev t.length (by omega)) (Ev.bind (spec_l7Edges_ev t.length (by omega) t f hp) ?_)
  rw [hz.2.2] at k0
  exact k0
/-! ### spec_l1Cycles -/
theorem spec_l1Cycles_l1 {n : Nat} (hn : n ≤ 4194304) {p : List Int} (hp : PermL n p) {i : Nat} (hi : i < n) (hl : lstB (EF n (fn p)) i = true) (out : List (List Int)) (hout : out.length ≤ i) (r : List (List Int))
    (hr : ∀ b,SeenAt n (fn p) (i+1) b→Ev (fun k=>sz_.l0 k p (out ++ [cycOf (fn p) i]) b (i+1:Nat)) r) :
    ∀ d t,per (fn p) i - t=d→t≤per (fn p) i → ∀ b,SeenIn n (fn p) i t b→Ev (fun k=>sz_.l1 k p out b (i:Nat) ((List.range t).map (fun k=>(itr (fn p) k i:Int))) (itr (fn p) t i:Int)) r:=by
  have hpm:=hp.perm
  obtain⟨q1,q2,q3,q4⟩:=per_spec hpm hi
  intro d
  induction d with
  | zero =>
    intro t hd ht b hb
    obtain rfl:t=per (fn p) i:=by omega
    obtain⟨c1,c2⟩:=hb.closed hpm hi
    have hlt:=itr_lt hpm hi (per (fn p) i)
    have hbl:=hb.1
    refine Ev.step (fun k=>by rw [sz_.l1]) ?_
    rw [wrap64_id (x:=(i:Int)+1) (by omega) (by omega)]
    refine Ev.pos (by omega) (Ev.pos (by omega) (Ev.pos c1 (Ev.pos (by omega) ?_)))
    exact hr b c2
  | succ d ih =>
    intro t hd ht b hb
    have hlt:=itr_lt hpm hi t
    have hf:=hb.fresh hpm hi hl (by omega)
    have hbl:=hb.1
    have hpl:=hp.1.1
    refine Ev.step (fun k=>by rw [sz_.l1]) ?_
    refine Ev.pos (by omega) (Ev.pos (by omega) (Ev.neg (by rw [hf];simp) (Ev.pos (by simp;omega) (Ev.pos (by omega) ?_))))
    rw [(hp.1.fn hlt).1,← cycOf_take]
    exact ih (t+1) (by omega) (by omega) _ (hb.next hpm hi)
theorem spec_l1Cycles_ev (n:Nat) (hn:n≤4194304) (p:List Int) (hp:PermL n p):Ev (fun k=>sz_.f k p) (cycL n (fn p)):=by
  have hpm:=hp.perm
  have hpl:=hp.1.1
  have key : ∀ d i,n - i=d→i≤n → ∀ b,SeenAt n (fn p) i b→Ev (fun k=>sz_.l0 k p (cycUp n (fn p) i) b (i:Nat)) (cycL n (fn p)):=by
    intro d
    induction d with
    | zero =>
      intro i hd hi b hb
      obtain rfl:i=n:=by omega
      refine Ev.step (fun k=>by rw [sz_.l0]) ?_
      exact Ev.neg (by omega) (Ev.const rfl)
    | succ d ih =>
      intro i hd hi b hb
      have hi':i<n:=by omega
      have hbl:=hb.1
      have hls:=hb.least hi'
      refine Ev.step (fun k=>by rw [sz_.l0]) ?_
      rw [wrap64_id (x:=(i:Int)+1) (by omega) (by omega)]
      refine Ev.pos (by omega) (Ev.pos (by omega) (Ev.pos (by omega) ?_))
      cases q:rdOf false b (i:Int) with
      | true =>
        rw [q] at hls
        refine Ev.pos rfl ?_
        have:=ih (i+1) (by omega) (by omega) b (hb.skip hi' q)
        rw [cycUp_neg hls] at this
        exact this
      | false =>
        rw [q] at hls
        refine Ev.neg (by simp) ?_
        refine spec_l1Cycles_l1 hn hp hi' hls (cycUp n (fn p) i) (cycUp_length_le _ _ _) _ (fun b' hb' => ?_) (per (fn p) i) 0 (by omega) (by omega) b hb.into
        have:=ih (i+1) (by omega) (by omega) b' hb'
        rw [cycUp_pos hls] at this
        exact this
  unfold sz_.f
  rw [hpl]
  refine Ev.pos (by omega) (Ev.pos (by omega) ?_)
  exact key n 0 (by omega) (by omega) _ (SeenAt.start n _)
/-! ### spec_l7Vertices -/
theorem spec_l7Vertices_l1 {n : Nat} (hn : n ≤ 4194304) {t : List Int} (ht : PermL n t) {i : Nat} (hi : i < cyc n (fn t)) (r : List Int)
    (hr : ∀ o:List Int,o.length=n→(∀ x:Nat,x<n→vtx n t x<i+1→rd o (x:Int)=(vtx n t x:Int))→Ev (fun k=>s1c_.l0 k o (cycL n (fn t)) ((i+1:Nat):Int)) r) :
    ∀ d j,(rdL (cycL n (fn t)) (i:Int)).length - j=d→j≤(rdL (cycL n (fn t)) (i:Int)).length → ∀ o:List Int,o.length=n→(∀ x:Nat,x<n→vtx n t x<i→rd o (x:Int)=(vtx n t x:Int))→(∀ q:Nat,q<j→rd o (rd (rdL (cycL n (fn t)) (i:Int)) (q:Int))=(i:Int)) →
      Ev (fun k=>s1c_.l1 k o (cycL n (fn t)) (i:Nat) (j:Nat)) r:=by
  have eL : ∀ (xs:List (List Int)) (i:Int),rd_L1 xs i=rdL xs i:=fun _ _=>rfl
  have hcl:=cycL_length n (fn t)
  have hF:Face n (rdL (cycL n (fn t)) (i:Int)):=cycL_face ht.perm (by rw [hcl];exact hi)
  have hcy:=cyc_le n (fn t)
  have hH:=fun(x:Nat) (hx:x<n)=>holds_iff ht hi hx
  intro d
  induction d with
  | zero =>
    intro j hd hj o ho h1 h2
    refine Ev.step (fun k=>by rw [s1c_.l1]) ?_
    simp only [eL]
    refine Ev.pos (by omega) (Ev.pos (by omega) (Ev.neg (by omega) ?_))
    rw [wrap64_id (x:=(i:Int)+1) (by omega) (by omega)]
    refine hr o ho (fun x hx hv => ?_)
    by_cases w:vtx n t x<i
    · exact h1 x hx w
    · have e:vtx n t x=i:=by omega
      obtain⟨q,q1,q2⟩:=(hH x hx).2 e
      rw [e,← h2 q (by omega),q2]
  | succ d ih =>
    intro j hd hj o ho h1 h2
    have hj':j<(rdL (cycL n (fn t)) (i:Int)).length:=by omega
    obtain⟨a1,a2⟩:=hF.fn hj'
    have hlen:=hF.1
    refine Ev.step (fun k=>by rw [s1c_.l1]) ?_
    simp only [eL]
    rw [a1,wrap64_id (x:=(j:Int)+1) (by omega) (by omega)]
    simp only [Int.toNat_natCast]
    refine Ev.pos (by omega) (Ev.pos (by omega) (Ev.pos (by omega) (Ev.pos (by omega) (Ev.pos (by omega) (Ev.pos (by omega) ?_)))))
    have hvx:vtx n t (fn (rdL (cycL n (fn t)) (i:Int)) j)=i:=(hH _ a2).1 ⟨j,hj',a1⟩
    refine ih (j+1) (by omega) (by omega) _ (by simp [ho]) (fun x hx hv => ?_) (fun q hq => ?_)
    · have hne:fn (rdL (cycL n (fn t)) (i:Int)) j≠x:=fun w=>by rw [w] at hvx;omega
      rw [rd_set_ne _ _ _ _ hne];exact h1 x hx hv
    · obtain⟨b1,b2⟩:=hF.fn (show q<(rdL (cycL n (fn t)) (i:Int)).length by omega)
      rw [b1]
      by_cases w:fn (rdL (cycL n (fn t)) (i:Int)) j=fn (rdL (cycL n (fn t)) (i:Int)) q
      · rw [w,rd_set_self _ _ _ (by omega)]
      · rw [rd_set_ne _ _ _ _ w]
        have hqj:q<j:=by
          by_cases z:q=j
          · subst z;exact absurd rfl w
          · omega
        have:=h2 q hqj
        rwa [b1] at this
theorem spec_l7Vertices_ev {n:Nat} (hn:n≤4194304) {t:List Int} (ht:PermL n t):Ev (fun k=>s1c_.f k t) (vtxL n t):=by
  have hl:=ht.1.1
  have hcl:=cycL_length n (fn t)
  have hcy:=cyc_le n (fn t)
  have key : ∀ d i,cyc n (fn t) - i=d→i≤cyc n (fn t) → ∀ o:List Int,o.length=n→(∀ x:Nat,x<n→vtx n t x<i→rd o (x:Int)=(vtx n t x:Int))→Ev (fun k=>s1c_.l0 k o (cycL n (fn t)) (i:Nat)) (vtxL n t):=by
    intro d
    induction d with
    | zero =>
      intro i hd hi o ho h1
      refine Ev.step (fun k=>by rw [s1c_.l0]) ?_
      refine Ev.neg (by omega) (Ev.const ?_)
      congr 1
      refine list_ext_rd (by rw [ho,vtxL_length]) (fun x hx => ?_)
      have:=vtx_lt t (show x<n by omega)
      rw [h1 x (by omega) (by omega),rd_vtxL _ _ _ (by omega)]
    | succ d ih =>
      intro i hd hi o ho h1
      refine Ev.step (fun k=>by rw [s1c_.l0]) ?_
      refine Ev.pos (by omega) ?_
      exact spec_l7Vertices_l1 hn ht (show i<cyc n (fn t) by omega) _ (fun o' ho' h'=>ih (i+1) (by omega) (by omega) o' ho' h') _ 0 rfl (by omega) o ho h1 (fun q hq=>absurd hq (by omega))
  unfold s1c_.f
  rw [hl]
  refine Ev.pos (by omega) (Ev.pos (by omega) (Ev.bind (spec_l1Cycles_ev n hn t ht) ?_))
  simp only [Int.toNat_natCast]
  exact key _ 0 rfl (by omega) _ (by simp) (fun x hx hv=>absurd hv (by omega))
/-! ### spec_ChoiceValid -/
theorem spec_ChoiceValid_one {t f:List Int} (h:MOK t f) {e:Nat} (he:e<f.length / 2):Ev (fun k=>ss_.f k t f [(e:Int)]) true:=by
  have hz:=h.size
  have r0:rd [(e:Int)] 0=(e:Int):=rfl
  have w1:wrap64 (-1+1)=0:=(wrap64_id (by omega) (by omega)).trans (by omega)
  have w2:wrap64 (wrap64 ((f.length:Int) / 2) - 1)=(f.length:Int) / 2 - 1:=by
    rw [wrap64_id (x:=(f.length:Int) / 2) (by omega) (by omega)];exact wrap64_id (by omega) (by omega)
  have w3:wrap64 (0+1)=1:=(wrap64_id (by omega) (by omega)).trans (by omega)
  unfold ss_.f
  refine Ev.step (fun k=>by rw [ss_.l0]) ?_
  rw [r0,w1,w2,w3]
  clear w1 w2 w3
  refine Ev.pos (by simp) (Ev.pos (by omega) (Ev.bindc (spec_l6In_eq _ _ _) ?_))
  refine Ev.pos (decide_eq_true (by omega)) ?_
  refine Ev.step (fun k=>by rw [ss_.l0]) ?_
  refine Ev.neg (by simp) ?_
  refine Ev.bind (spec_MapValid_ev t f (by omega) (by omega)) (Ev.const ?_)
  rw [dec_t h]
/-! ### spec_ChoiceRest -/
theorem holds_one (e x:Nat):Holds [(e:Int)] (x:Int)↔x=e:=by
  constructor
  · rintro⟨j,hj,ej⟩
    have:j=0:=by simpa using hj
    subst this
    have e1:rd [(e:Int)] ((0:Nat):Int)=(e:Int):=rfl
    omega
  · rintro rfl;exact⟨0,by simp,rfl⟩
theorem spec_ChoiceRest_one {t f:List Int} (h:MOK t f) {e:Nat} (he:e<f.length / 2):Ev (fun k=>sr_.f k t f [(e:Int)]) (restL e (f.length / 2),true):=by
  have hz:=h.size
  have w2:wrap64 ((f.length:Int) / 2)=((f.length / 2:Nat):Int):=(wrap64_id (by omega) (by omega)).trans (by omega)
  have hv:=spec_ChoiceValid_one h he
  have key : ∀ d i,f.length / 2 - i=d→i≤f.length / 2→Ev (fun k=>sr_.l0 k [(e:Int)] (restL e i) (i:Nat) t f) (restL e (f.length / 2),true):=by
    intro d
    induction d with
    | zero =>
      intro i hd hi
      obtain rfl:i=f.length / 2:=by omega
      refine Ev.step (fun k=>by rw [sr_.l0]) ?_
      rw [w2]
      refine Ev.neg (by omega) (Ev.step (fun k=>by rw [sr_.j1]) ?_)
      exact Ev.neg (by decide) (Ev.bind hv (Ev.const rfl))
    | succ d ih =>
      intro i hd hi
      have nx:=ih (i+1) (by omega) (by omega)
      have l3:=restL_length e i
      have hh:=spec_l7Has_ev [(e:Int)] (i:Int) (by simp)
      refine Ev.step (fun k=>by rw [sr_.l0]) ?_
      rw [w2]
      refine Ev.pos (by omega) (Ev.bind hv (Ev.step (fun k=>by rw [sr_.j1]) ?_))
      refine Ev.pos rfl (Ev.bind hh ?_)
      rw [show wrap64 ((i:Int)+1)=((i+1:Nat):Int) from(wrap64_id (by omega) (by omega)).trans (by omega)]
      by_cases c:i=e
      · subst c
        rw [restL_neg] at nx
        exact Ev.pos (dec_t ((holds_one i i).2 rfl)) nx
      · rw [restL_pos c] at nx
        exact Ev.neg (by rw [dec_f (fun w=>c ((holds_one e i).1 w))];decide) (Ev.pos (by omega) nx)
  have k0:=key _ 0 rfl (by omega)
  unfold sr_.f
  exact k0
/-! ### spec_EdgeKind -/
theorem spec_EdgeKind_ev (t f:List Int) (e:Int) (hlt:t.length≤12) (hlf:f.length≤12):Ev (fun k=>sv_.f k t f e) (kindZ t f e):=by
  have w2:wrap64 (wrap64 ((f.length:Int) / 2) - 1)=(f.length:Int) / 2 - 1:=by
    rw [wrap64_id (x:=(f.length:Int) / 2) (by omega) (by omega)];exact wrap64_id (by omega) (by omega)
  have no:kindZ t f e = -1→Ev (fun k=>sv_.j0 k e true t f) (kindZ t f e):=fun q=>by
    rw [q]
    refine Ev.step (fun k=>by rw [sv_.j0]) ?_
    exact Ev.pos rfl (Ev.const rfl)
  unfold sv_.f
  refine Ev.bind (spec_MapValid_ev t f (by omega) (by omega)) ?_
  by_cases h:MOK t f
  · have hz:=h.size
    refine Ev.pos (dec_t h) (Ev.bindc (spec_l6In_eq _ _ _) ?_)
    rw [w2]
    clear w2
    by_cases he:0≤e∧e≤(f.length:Int) / 2 - 1
    · rw [decide_eq_true he]
      obtain⟨c,rfl⟩ : ∃ c:Nat,e=c:=⟨e.toNat,by omega⟩
      have hc:c<t.length / 2:=by omega
      have hp:=h.pair
      obtain⟨s1,s2,s3⟩:=ldart_spec hp hc
      have e1:=hp.pts.fn s1
      have hv:=vtxL_length t.length t
      have hN:=parts_two h s1
      have hk:kindZ t f (c:Int)=if rd (vtxL t.length t) (ldart t.length f c:Int)=rd (vtxL t.length t) (fn f (ldart t.length f c):Int) then 2 else (partsN t f (ldart t.length f c):Int) - 1:=by
        unfold kindZ;rw [if_pos (dec_t ⟨h,by omega,by omega⟩)];rfl
      rw [hk]
      refine Ev.step (fun k=>by rw [sv_.j0]) ?_
      refine Ev.neg (by decide) ?_
      refine Ev.bind (spec_l7Dart_ev (by omega) hp hc) ?_
      refine Ev.bind (spec_l7Vertices_ev (by omega) h.permT) ?_
      rw [e1.1]
      refine Ev.pos (by omega) (Ev.pos (by omega) (Ev.pos (by omega) (Ev.pos (by omega) (Ev.pos (by omega) ?_))))
      by_cases q:rd (vtxL t.length t) (ldart t.length f c:Int)=rd (vtxL t.length t) (fn f (ldart t.length f c):Int)
      · rw [if_pos q]
        exact Ev.pos q (Ev.const rfl)
      · rw [if_neg q]
        refine Ev.neg q ?_
        refine Ev.bind (spec_ChoiceRest_one h (by omega)) ?_
        refine Ev.bind (spec_l7Parts_ev h (by omega)) (Ev.const ?_)
        have:partsN t f (ldart t.length f c)=1∨partsN t f (ldart t.length f c)=2:=hN
        rw [wrap64_id (by omega) (by omega)]
    · rw [decide_eq_false he]
      refine no ?_
      unfold kindZ
      rw [if_neg (by rw [dec_f (fun w=>he ⟨w.2.1,by omega⟩)];decide)]
  · refine Ev.neg (by rw [dec_f h];decide) (no ?_)
    unfold kindZ
    rw [if_neg (by rw [dec_f (fun w=>h w.1)];decide)]
/-! ### spec_l2Copy -/
theorem spec_l2Copy_eq (l:List Int) (h:l.length≤1048576):s12_.f l=some l:=by
  unfold s12_.f
  simp only [Option.bind_some,List.length_nil,List.nil_append]
  exact if_pos (by omega)
/-! ### spec_l7Past -/
theorem spec_l7Past_ev {n:Nat} {s:List Int} (hs:PermL n s) {a b:Nat} (ha:a<n) (hb:b<n) (hab:a≠b) {d:Nat} (hd:d<n) (h1:d≠a) (h2:d≠b):Ev (fun k=>s1b_.f k s (d:Int) (a:Int) (b:Int)) (pst s a b (fn s d):Int):=by
  have hl:=hs.1.1
  have out : ∀ x:Nat,x≠a→x≠b→Ev (fun k=>s1b_.l0 k s (x:Int) (a:Int) (b:Int)) (x:Int):=fun x p q =>
    Ev.step (fun k=>by rw [s1b_.l0]) (Ev.neg (by omega) (Ev.neg (by omega) (Ev.const rfl)))
  have go : ∀ (x:Nat) (r:Int),x=a∨x=b→Ev (fun k=>s1b_.l0 k s (fn s x:Int) (a:Int) (b:Int)) r→Ev (fun k=>s1b_.l0 k s (x:Int) (a:Int) (b:Int)) r:=fun x r p q=>by
    have hx:x<n:=by omega
    refine Ev.step (fun k=>by rw [s1b_.l0]) ?_
    rw [(hs.1.fn hx).1]
    by_cases e:x=a
    · exact Ev.pos (by omega) (Ev.pos (by omega) (Ev.pos (by omega) q))
    · exact Ev.neg (by omega) (Ev.pos (by omega) (Ev.pos (by omega) (Ev.pos (by omega) q)))
  have hp:=pst_out hs ha hb hab hd h1 h2
  unfold s1b_.f
  refine Ev.pos (by omega) (Ev.pos (by omega) ?_)
  rw [(hs.1.fn hd).1]
  rcases pst_case s a b d with p|⟨x,hx,ex,p|⟨y,hy,ey,p⟩⟩
  · rw [p] at hp ⊢;exact out _ hp.2.1 hp.2.2
  · rw [p] at hp ⊢
    rw [ex];exact go x _ hx (out _ hp.2.1 hp.2.2)
  · rw [p] at hp ⊢
    rw [ex];refine go x _ hx ?_
    rw [ey];exact go y _ hy (out _ hp.2.1 hp.2.2)
/-! ### spec_l7Leave -/
theorem spec_l7Leave_ev {n:Nat} (hn:n≤1048576) {t f:List Int} (ht:Pts n t) (hf:Pts n f) (a b:Nat):Ev (fun k=>s19_.f k t f (a:Int) (b:Int)) (outL (offB a b) (fn t) n,outL (offB a b) (fn f) n):=by
  have lt:=ht.1
  have lf:=hf.1
  have two : ∀ d i,n - i=d→i≤n→Ev (fun k=>s19_.l1 k t f (a:Int) (b:Int) (nmPart (offB a b) n n) (i:Nat) (outL (offB a b) (fn t) i) (outL (offB a b) (fn f) i)) (outL (offB a b) (fn t) n,outL (offB a b) (fn f) n):=by
    intro d
    induction d with
    | zero =>
      intro i hd hi
      obtain rfl:i=n:=by omega
      exact Ev.step (fun k=>by rw [s19_.l1]) (Ev.neg (by omega) (Ev.const rfl))
    | succ d ih =>
      intro i hd hi
      have nx:=ih (i+1) (by omega) (by omega)
      have e1:=ht.fn (show i<n by omega)
      have e2:=hf.fn (show i<n by omega)
      have l1:=outL_length (offB a b) (fn t) i
      have l2:=outL_length (offB a b) (fn f) i
      have l3:=cntP_le (offB a b) i
      refine Ev.step (fun k=>by rw [s19_.l1]) ?_
      rw [wrap64_id (x:=(i:Int)+1) (by omega) (by omega)]
      refine Ev.pos (by omega) ?_
      by_cases ca:i=a
      · have o : ¬ offB a b i=true:=fun w=>(offB_iff.1 w).1 ca
        rw [outL_neg _ _ o,outL_neg _ _ o] at nx
        exact Ev.pos (by omega) nx
      · refine Ev.neg (by omega) ?_
        by_cases cb:i=b
        · have o : ¬ offB a b i=true:=fun w=>(offB_iff.1 w).2 cb
          rw [outL_neg _ _ o,outL_neg _ _ o] at nx
          exact Ev.pos (by omega) nx
        · have o:offB a b i=true:=offB_iff.2 ⟨ca,cb⟩
          rw [outL_pos _ _ o,outL_pos _ _ o] at nx
          refine Ev.neg (by omega) ?_
          rw [e1.1,e2.1,rd_nmPart _ e1.2,rd_nmPart _ e2.2]
          simp only [nmPart_length]
          refine Ev.pos (by omega) (Ev.pos (by omega) (Ev.pos (by omega) (Ev.pos (by omega) ?_)))
          exact Ev.pos (by omega) (Ev.pos (by omega) (Ev.pos (by omega) (Ev.pos (by omega) nx)))
  have t0:Ev (fun k=>s19_.l1 k t f (a:Int) (b:Int) (nmPart (offB a b) n n) 0 [] []) (outL (offB a b) (fn t) n,outL (offB a b) (fn f) n):=two n 0 (by omega) (by omega)
  have one : ∀ d i,n - i=d→i≤n→Ev (fun k=>s19_.l0 k t f (a:Int) (b:Int) (nmPart (offB a b) n i) (cntP (offB a b) i:Nat) (i:Nat)) (outL (offB a b) (fn t) n,outL (offB a b) (fn f) n):=by
    intro d
    induction d with
    | zero =>
      intro i hd hi
      obtain rfl:i=n:=by omega
      exact Ev.step (fun k=>by rw [s19_.l0]) (Ev.neg (by omega) t0)
    | succ d ih =>
      intro i hd hi
      have nx:=ih (i+1) (by omega) (by omega)
      have l3:=cntP_le (offB a b) i
      simp only [cntP] at nx
      refine Ev.step (fun k=>by rw [s19_.l0]) ?_
      rw [wrap64_id (x:=(i:Int)+1) (by omega) (by omega),wrap64_id (x:=(cntP (offB a b) i:Int)+1) (by omega) (by omega)]
      simp only [toNat_nat,nmPart_length]
      rw [nmPart_set]
      refine Ev.pos (by omega) (Ev.pos (by omega) (Ev.pos (by omega) (Ev.bindc rfl ?_)))
      by_cases ca:i=a
      · have o : ¬ offB a b i=true:=fun w=>(offB_iff.1 w).1 ca
        rw [if_neg o] at nx
        exact Ev.pos (by omega) nx
      · refine Ev.neg (by omega) ?_
        by_cases cb:i=b
        · have o : ¬ offB a b i=true:=fun w=>(offB_iff.1 w).2 cb
          rw [if_neg o] at nx
          exact Ev.pos (by omega) nx
        · have o:offB a b i=true:=offB_iff.2 ⟨ca,cb⟩
          rw [if_pos o] at nx
          exact Ev.neg (by omega) nx
  have k0:=one n 0 (by omega) (by omega)
  rw [nmPart_none] at k0
  unfold s19_.f
  rw [lt]
  simp only [toNat_nat]
  exact Ev.pos (by omega) (Ev.pos (by omega) k0)
/-! ### spec_EdgeContract -/
theorem outL_congr (p:Nat→Bool) {g g':Nat→Nat} {n:Nat} (h : ∀ d,d<n→p d=true→g d=g' d):outL p g n=outL p g' n:=by
  unfold outL
  refine List.map_congr_left (fun d hd => ?_)
  obtain⟨h1,h2⟩:=List.mem_filter.1 hd
  rw [h d (List.mem_range.1 h1) h2]
def mix2 (n:Nat) (g h:Nat→Nat) (m:Nat):List Int:=(List.range n).map (fun d=>if d<m then (g d:Int) else (h d:Int))
theorem mix2_length (n:Nat) (g h:Nat→Nat) (m:Nat):(mix2 n g h m).length=n:=by simp [mix2]
theorem mix2_none {n:Nat} {p:List Int} (g:Nat→Nat) (hp:Pts n p):mix2 n g (fn p) 0=p:=by
  refine list_ext_rd (by rw [mix2_length,hp.1]) (fun i hi => ?_)
  rw [mix2_length] at hi
  rw [rd_nat _ _ (by rw [mix2_length];exact hi),(hp.fn hi).1]
  simp [mix2]
theorem mix2_set (n:Nat) (g h:Nat→Nat) (m:Nat):(mix2 n g h m).set m (g m:Int)=mix2 n g h (m+1):=by
  refine List.ext_getElem (by simp [mix2]) (fun i h1 h2 => ?_)
  rw [List.getElem_set]
  by_cases e:m=i
  · subst e;simp [mix2]
  · rw [if_neg e]
    simp only [mix2,List.getElem_map,List.getElem_range]
    by_cases a:i<m
    · rw [if_pos a,if_pos (by omega)]
    · rw [if_neg a,if_neg (by omega)]
theorem mix2_stay (n:Nat) (g h:Nat→Nat) (m:Nat) (e:g m=h m):mix2 n g h (m+1)=mix2 n g h m:=by
  refine List.ext_getElem (by simp [mix2]) (fun i h1 h2 => ?_)
  simp only [mix2,List.getElem_map,List.getElem_range]
  by_cases e':i=m
  · subst e';rw [if_pos (by omega),if_neg (by omega),e]
  · by_cases a:i<m
    · rw [if_pos a,if_pos (by omega)]
    · rw [if_neg a,if_neg (by omega)]
theorem fn_mix2 {n:Nat} (g h:Nat→Nat) {d:Nat} (hd:d<n):rd (mix2 n g h n) (d:Int)=g d:=by
  rw [rd_nat _ _ (by rw [mix2_length];exact hd)];simp [mix2,hd]
theorem spec_EdgeContract_ev (t f:List Int) (e:Int) (hlt:t.length≤12) (hlf:f.length≤12):Ev (fun k=>su_.f k t f e) (ctM t f e):=by
  have no:ctM t f e=([],[],false)→Ev (fun k=>su_.j0 k e true t f) (ctM t f e):=fun q=>by
    rw [q]
    refine Ev.step (fun k=>by rw [su_.j0]) ?_
    exact Ev.pos rfl (Ev.const rfl)
  unfold su_.f
  refine Ev.bind (spec_EdgeKind_ev t f e hlt hlf) ?_
  by_cases hv:MOK t f∧0≤e∧e<((t.length / 2:Nat):Int)
  · obtain⟨h,he0,he1⟩:=hv
    obtain⟨c,rfl⟩ : ∃ c:Nat,e=c:=⟨e.toNat,by omega⟩
    have hc:c<t.length / 2:=by omega
    have hz:=h.size
    have hp:=h.pair
    obtain⟨s1,s2,s3⟩:=ldart_spec hp hc
    have hk0:0≤kindZ t f (c:Int):=by
      unfold kindZ
      rw [if_pos (dec_t ⟨h,by omega,by omega⟩)]
      have:partsN t f (ldart t.length f (c:Int).toNat)=1∨partsN t f (ldart t.length f (c:Int).toNat)=2:=parts_two h s1
      split <;> omega
    refine Ev.neg (by omega) ?_
    by_cases k2:kindZ t f (c:Int)=2
    · refine Ev.pos k2 (no ?_)
      unfold ctM;rw [if_neg (by rw [dec_f (fun w=>w.2.1 k2)];decide)]
    · refine Ev.neg k2 ?_
      by_cases n2:t.length=2
      · rw [show((t.length:Int) == 2)=true by simp [n2]]
        refine no ?_
        unfold ctM;rw [if_neg (by rw [dec_f (fun w=>w.2.2 n2)];decide)]
      · rw [show((t.length:Int) == 2)=false by simp;omega]
        have hM:ctM t f (c:Int)=(ctT t f (ldart t.length f c),ctF t f (ldart t.length f c),true):=by
          unfold ctM;rw [if_pos (dec_t ⟨⟨h,by omega,by omega⟩,k2,n2⟩)];rfl
        rw [hM]
        refine Ev.step (fun k=>by rw [su_.j0]) ?_
        refine Ev.neg (by decide) ?_
        refine Ev.bind (spec_l7Dart_ev (by omega) hp hc) ?_
        generalize ldart t.length f c=a at *
        have e1:=hp.pts.fn s1
        have hb:=e1.2
        have hab:a≠fn f a:=(hp.ne a s1).symm
        have hs:=swE_perm h.permT s1 hb hab
        have hg : ∀ d,d<t.length→offB a (fn f a) d=true→pst (swE t a (fn f a)) a (fn f a) (fn (swE t a (fn f a)) d)<t.length:=fun d hd ho=>(pst_out hs s1 hb hab hd (offB_iff.1 ho).1 (offB_iff.1 ho).2).1
        have hT:ctT t f a=outL (offB a (fn f a)) (fun d=>pst (swE t a (fn f a)) a (fn f a) (fn (swE t a (fn f a)) d)) t.length:=rfl
        have hF:ctF t f a=outL (offB a (fn f a)) (fn f) t.length:=rfl
        have hq:=fun d (hd:d<t.length) (ho:offB a (fn f a) d=true)=>spec_l7Past_ev hs s1 hb hab hd (offB_iff.1 ho).1 (offB_iff.1 ho).2
        have hsw:((t.set a (rd t (fn f a:Int))).set (fn f a) (rd t (a:Int)))=swE t a (fn f a):=rfl
        rw [hT,hF,e1.1]
        simp only [toNat_nat]
        refine Ev.pos (by omega) (Ev.pos (by omega) (Ev.bindc (spec_l2Copy_eq t (by omega)) ?_))
        refine Ev.pos (by omega) (Ev.pos (by omega) (Ev.pos (by omega) (Ev.pos (by omega) (Ev.pos (by omega) (Ev.bindc rfl ?_)))))
        rw [hsw]
        clear hsw hT hF
        have hl:=hs.1.1
        refine Ev.bindc (spec_l2Copy_eq _ (by omega)) ?_
        generalize swE t a (fn f a)=s at *
        generalize fn f a=b at *
        have key : ∀ d i,t.length - i=d→i≤t.length→Ev (fun k=>su_.l0 k (a:Int) (b:Int) s (mix2 t.length (fun d=>if offB a b d=true then pst s a b (fn s d) else fn s d) (fn s) i) (i:Nat) t f) (outL (offB a b) (fun d=>pst s a b (fn s d)) t.length,outL (offB a b) (fn f) t.length,true):=by
          intro d
          induction d with
          | zero =>
            intro i hd hi
            obtain rfl:i=t.length:=by omega
            refine Ev.step (fun k=>by rw [su_.l0]) ?_
            rw [mix2_length]
            refine Ev.neg (by omega) ?_
            have hP:Pts t.length (mix2 t.length (fun d=>if offB a b d=true then pst s a b (fn s d) else fn s d) (fn s) t.length):=by
              refine⟨mix2_length _ _ _ _,fun d hd => ?_⟩
              rw [fn_mix2 _ _ hd]
              have:=(hs.1.fn hd).2
              by_cases o:offB a b d=true
              · have:=hg d hd o;rw [if_pos o];omega
              · rw [if_neg o];omega
            have hlv:=spec_l7Leave_ev (by omega) hP hp.pts a b
            rw [outL_congr (offB a b) (g':=fun d=>pst s a b (fn s d)) (fun d hd o=>by show(rd _ (d:Int)).toNat=_;rw [fn_mix2 _ _ hd,if_pos o];rfl)] at hlv
            exact Ev.bind hlv (Ev.const rfl)
          | succ d ih =>
            intro i hd hi
            have hi':i<t.length:=by omega
            have nx:=ih (i+1) (by omega) (by omega)
            refine Ev.step (fun k=>by rw [su_.l0]) ?_
            rw [mix2_length,wrap64_id (x:=(i:Int)+1) (by omega) (by omega)]
            refine Ev.pos (by omega) ?_
            by_cases ca:i=a
            · have o : ¬ offB a b i=true:=fun w=>(offB_iff.1 w).1 ca
              rw [mix2_stay _ _ _ _ (if_neg o)] at nx
              exact Ev.pos (by omega) nx
            · refine Ev.neg (by omega) ?_
              by_cases cb:i=b
              · have o : ¬ offB a b i=true:=fun w=>(offB_iff.1 w).2 cb
                rw [mix2_stay _ _ _ _ (if_neg o)] at nx
                exact Ev.pos (by omega) nx
              · have o:offB a b i=true:=offB_iff.2 ⟨ca,cb⟩
                rw [← mix2_set] at nx
                simp only [if_pos o] at nx
                refine Ev.neg (by omega) (Ev.bind (hq i hi' o) ?_)
                simp only [toNat_nat]
                exact Ev.pos (by omega) nx
        have k0:=key t.length 0 (by omega) (by omega)
        rw [mix2_none _ hs.1] at k0
        exact k0
  · have q:ctM t f e=([],[],false):=by unfold ctM;rw [if_neg (by rw [dec_f (fun w=>hv w.1)];decide)]
    have hk:kindZ t f e = -1:=by unfold kindZ;rw [if_neg (by rw [dec_f hv];decide)]
    exact Ev.pos (by omega) (no q)
/-! ### The law -/
/-! ### Lines of Execute that set and show a map -/
theorem dec_sign : ∀ n:Fin 100,((Lib.decDigits n.val).all fun b=>decide (48≤b.toNat∧b.toNat≤57))=true:=by decide +kernel
theorem dec_free (n:Nat) (h:n<100) (c:UInt8) (hc:c.toNat<48):c ∉ Lib.decDigits n:=fun hm=>by
  have:=of_decide_eq_true (List.all_eq_true.1 (dec_sign ⟨n,h⟩) c hm)
  omega
theorem lineM_data (t f:List Int):(lineM t f).data.toList = [109,97,112] ++ 32 :: (Lib.decDigits t.length ++ 32 :: ((pTxt t).data.toList ++ 32 :: (pTxt f).data.toList)):=by
  unfold lineM;simp
theorem lineM_words {t f:List Int} (ht:POK t) (hf:POK f):XE.wordsOf (lineM t f) = [⟨#[109,97,112]⟩,⟨(Lib.decDigits t.length).toArray⟩,pTxt t,pTxt f]:=by
  have h12:=ht.1.2
  refine xe_words _ _ ?_
  rw [lineM_data,xs_split_hit 32 _ _ (by decide),xs_split_hit 32 _ _ (dec_free _ (by omega) 32 (by decide)),xs_split_hit 32 _ _ (sign_free (pTxt_sign ht) 32 (.inr rfl)),xs_split_free 32 _ (sign_free (pTxt_sign hf) 32 (.inr rfl))]
  simp
theorem lineM_line {t f:List Int} (ht:POK t) (hf:POK f):(10:UInt8) ∉ (lineM t f).data.toList:=by
  have h12:=ht.1.2
  rw [lineM_data]
  have h1:=dec_free t.length (by omega) 10 (by decide)
  have h2:=sign_free (pTxt_sign ht) 10 (.inl rfl)
  have h3:=sign_free (pTxt_sign hf) 10 (.inl rfl)
  simp [h1,h2,h3]
theorem cmd_map {t f T U:List Int} (h:MOK t f):Ev (fun k=>impl_Execute.cmdF k T U [⟨#[109,97,112]⟩,⟨(Lib.decDigits t.length).toArray⟩,pTxt t,pTxt f]) (⟨#[111,107]⟩,t,f):=by
  have ht:=h.1
  have hf:=h.2.1
  have h12:=ht.1.2
  have e:=h.2.2.1
  obtain⟨n0,x0⟩:=impl_numberOf_ex (⟨#[109,97,112]⟩:ByteArray)
  obtain⟨n2,x2⟩:=impl_numberOf_ex (pTxt t)
  obtain⟨n3,x3⟩:=impl_numberOf_ex (pTxt f)
  have g2:=impl_PermFrom_ev hf
  rw [← e] at g2
  refine Ev.congr (fun k=>by rw [impl_Execute.cmdF]) ?_
  refine Ev.pos rfl ?_
  refine Ev.bind x0 (Ev.bind (impl_numberOf_dec t.length (by omega)) (Ev.bind x2 (Ev.bind x3 ?_)))
  refine Ev.bind (impl_PermFrom_ev ht) (Ev.bind g2 ?_)
  refine Ev.pos ⟨rfl,rfl⟩ ?_
  refine Ev.bind (impl_MapValid_ev t f) ?_
  exact Ev.pos (dec_t h) (Ev.const rfl)
theorem cmd_show {t f:List Int} (ht:POK t) (hf:POK f):Ev (fun k=>impl_Execute.cmdF k t f [⟨#[115,104,111,119]⟩]) (lineS t f,t,f):=by
  obtain⟨n0,x0⟩:=impl_numberOf_ex (⟨#[115,104,111,119]⟩:ByteArray)
  have s1:=pTxt_size ht
  have s2:=pTxt_size hf
  refine Ev.congr (fun k=>by rw [impl_Execute.cmdF]) ?_
  refine Ev.pos rfl ?_
  refine Ev.bind x0 (Ev.bind (impl_PermText_ev ht) (Ev.bind (impl_PermText_ev hf) ?_))
  exact Ev.pos ⟨by omega,by omega⟩ (Ev.const rfl)
theorem cmd_contract {t f:List Int} (h:MOK t f) {r:Nat} (hr:r<t.length / 2) (hk:kindZ t f (r:Int)≠2) (hn:t.length≠2):Ev (fun k=>impl_Execute.cmdF k t f [⟨#[99,111,110,116,114,97,99,116]⟩,⟨(Lib.decDigits r).toArray⟩]) (⟨#[111,107]⟩,ctT t f (ldart t.length f r),ctF t f (ldart t.length f r)):=by
  have h12:=h.1.1.2
  obtain⟨n0,x0⟩:=impl_numberOf_ex (⟨#[99,111,110,116,114,97,99,116]⟩:ByteArray)
  have hd:=impl_EdgeContract_ev t f (r:Int)
  unfold ctM at hd
  rw [if_pos (dec_t ⟨⟨h,by omega,by omega⟩,hk,hn⟩)] at hd
  refine Ev.congr (fun k=>by rw [impl_Execute.cmdF]) ?_
  refine Ev.pos rfl ?_
  refine Ev.bind x0 (Ev.bind (impl_numberOf_dec r (by omega)) (Ev.bind hd ?_))
  exact Ev.pos rfl (Ev.const rfl)
theorem ct_pok {t f:List Int} (h:MOK t f) {a:Nat} (ha:a<t.length) (hn:t.length≠2):(POK (ctT t f a)∧(ctT t f a).length=t.length - 2)∧POK (ctF t f a):=by
  have hz:=h.size
  have hh:=h.pair.half
  obtain⟨p1,p2⟩:=ct_perm h ha
  have l1:=p1.1.1
  have l2:=p2.1.1
  refine⟨⟨⟨by omega,by rw [l1];exact p1⟩,l1⟩,⟨by omega,by rw [l2];exact p2⟩⟩
/-- The line that asks to draw an edge together. -/
def lineF (r:Nat):ByteArray:=(⟨#[99,111,110,116,114,97,99,116,32]⟩:ByteArray) ++ ⟨(Lib.decDigits r).toArray⟩
theorem exec_contract {t f:List Int} (h:MOK t f) {r:Nat} (hr:r<t.length / 2) (hk:kindZ t f (r:Int)≠2) (hn:t.length≠2):Ev (fun k=>impl_Execute.f k ((((lineM t f ++ ⟨#[10]⟩) ++ ⟨#[99,111,110,116,114,97,99,116,32]⟩) ++ ⟨(Lib.decDigits r).toArray⟩) ++ ⟨#[10,115,104,111,119,10]⟩)) (((⟨#[111,107,10,111,107,10]⟩:ByteArray) ++ (lineS (ctT t f (ldart t.length f r)) (ctF t f (ldart t.length f r)) ++ ⟨#[10]⟩)) ++ ((⟨#[100,97,114,116,115,32]⟩ ++ ⟨(Lib.decDigits (t.length - 2)).toArray⟩) ++ ⟨#[10]⟩)):=by
  have ht:=h.1
  have hf:=h.2.1
  have hz:=h.size
  have h12:=ht.1.2
  have hs:=lineM_size ht hf
  obtain⟨s1,_,_⟩:=ldart_spec h.pair hr
  obtain⟨⟨ht2,e2⟩,hf2⟩:=ct_pok h s1 hn
  have hc:=cmd_contract h hr hk hn
  have hs2:=lineS_size ht2 hf2
  generalize ctT t f (ldart t.length f r)=T at *
  generalize ctF t f (ldart t.length f r)=U at *
  have hd:=dec_size r (by omega)
  have d10:(10:UInt8) ∉ Lib.decDigits r:=dec_free r (by omega) 10 (by decide)
  have d32:(32:UInt8) ∉ Lib.decDigits r:=dec_free r (by omega) 32 (by decide)
  have hl:(XE.linesOf ((((lineM t f ++ ⟨#[10]⟩) ++ ⟨#[99,111,110,116,114,97,99,116,32]⟩) ++ ⟨(Lib.decDigits r).toArray⟩) ++ ⟨#[10,115,104,111,119,10]⟩)).dropLast = [lineM t f,lineF r,⟨#[115,104,111,119]⟩]:=by
    refine xe_linesOf (fun l hm => ?_) (by simp [lineF])
    rcases List.mem_cons.1 hm with rfl|hm
    · exact lineM_line ht hf
    · have:l=lineF r∨l=⟨#[115,104,111,119]⟩:=by simpa using hm
      rcases this with rfl|rfl
      · simp [lineF,d10]
      · decide
  have hw:XE.wordsOf (lineF r) = [⟨#[99,111,110,116,114,97,99,116]⟩,⟨(Lib.decDigits r).toArray⟩]:=by
    refine xe_words _ _ ?_
    have e:(lineF r).data.toList = [99,111,110,116,114,97,99,116] ++ 32 :: Lib.decDigits r:=by simp [lineF]
    rw [e,xs_split_hit 32 _ _ (by decide),xs_split_free 32 _ d32]
    simp
  have z5:(⟨#[99,111,110,116,114,97,99,116,32]⟩:ByteArray).size=9:=rfl
  unfold impl_Execute.f
  refine Ev.pos (by simp only [ByteArray.size_append,z1_,z5,show(⟨#[10,115,104,111,119,10]⟩:ByteArray).size=6 from rfl];omega) ?_
  rw [hl]
  have hgo:=xe_step (F:=impl_Execute.cmdF) (T := [1,0]) (U := [1,0]) (o:=⟨#[]⟩) (by omega) (lineM_words ht hf) (cmd_map h) (by decide)
    (xe_step (ls := [⟨#[115,104,111,119]⟩]) (l:=lineF r) (by unfold lineF;rw [ByteArray.size_append,z5];omega) hw hc (by decide)
      (xe_step (ls := []) (l:=⟨#[115,104,111,119]⟩) (by decide) (xe_word _ (by decide)) (cmd_show ht2 hf2) (by omega) xe_end))
  refine Ev.bind hgo ?_
  refine Ev.pos (by show T.length<100;omega) (Ev.const (congrArg some (xs_toList_inj ?_)))
  simp [e2]
theorem FnExecuteContract:laws_FnExecuteContract.Pure:=by
  intro l hm hl hwf
  refine Ev.rounds ?_
  unfold laws_FnExecuteContract.f
  refine Ev.ite (fun _=>Ev.const rfl) (fun _ => ?_)
  obtain⟨t,f,d,h1,h2,h3⟩:=spec_DrawEdgeContract_ex l (bytes_of_wf hwf)
  refine Ev.bind h1 ?_
  refine Ev.bind (impl_EdgeContract_ev t f d) ?_
  refine Ev.bind (spec_EdgeContract_ev t f d h2 h3) ?_
  have hlen:(ctM t f d).1.length≤12∧(ctM t f d).2.1.length≤12:=by
    unfold ctM;split
    · rename_i hh
      obtain⟨⟨h,hd0,hd1⟩,_,hn⟩:=dec_iff.1 hh
      obtain⟨s1,_,_⟩:=ldart_spec h.pair (show d.toNat<t.length / 2 by omega)
      obtain⟨⟨p1,p2⟩,p3⟩:=ct_pok h s1 hn
      have p4:=p3.1.2
      have hz:=h.size
      refine⟨?_,?_⟩ <;> dsimp only <;> omega
    · simp
  refine Ev.neg (by simp) ?_
  refine Ev.bind (laws_sameMap_ev _ _ _ _ (by omega) (by omega)) ?_
  refine Ev.pos (by simp) ?_
  by_cases hh:(MOK t f∧0≤d∧d<((t.length / 2:Nat):Int))∧kindZ t f d≠2∧t.length≠2
  · obtain⟨⟨h,hd0,hd1⟩,hk,hn⟩:=hh
    obtain⟨r,rfl⟩ : ∃ r:Nat,d=r:=⟨d.toNat,by omega⟩
    have hr:r<t.length / 2:=by omega
    have e:ctM t f (r:Int)=(ctT t f (ldart t.length f r),ctF t f (ldart t.length f r),true):=by unfold ctM;rw [if_pos (dec_t ⟨⟨h,hd0,hd1⟩,hk,hn⟩)];rfl
    rw [e]
    dsimp only
    have ht:=h.1
    have hf:=h.2.1
    have hz:=h.size
    obtain⟨s1,_,_⟩:=ldart_spec h.pair hr
    obtain⟨⟨ht2,e2⟩,hf2⟩:=ct_pok h s1 hn
    have hx:=exec_contract h hr hk hn
    have hs2:=lineS_size ht2 hf2
    have hs:=lineM_size ht hf
    have hdr:=dec_size r (by omega)
    have z5:(⟨#[99,111,110,116,114,97,99,116,32]⟩:ByteArray).size=9:=rfl
    have he:(((⟨#[100,97,114,116,115,32]⟩ ++ ⟨(Lib.decDigits (t.length - 2)).toArray⟩) ++ ⟨#[10]⟩:ByteArray)).size≤10:=by
      have:=dec_size (t.length - 2) (by omega)
      rw [ByteArray.size_append,ByteArray.size_append,show(⟨#[100,97,114,116,115,32]⟩:ByteArray).size=6 from rfl,z1_];omega
    refine Ev.step (fun k=>by rw [laws_FnExecuteContract.j0]) ?_
    refine Ev.neg (by decide) ?_
    refine Ev.bind (laws_mapLine_ev ht hf) ?_
    refine Ev.pos (by rw [ByteArray.size_append,z1_];omega) ?_
    refine Ev.bind (laws_digits_ev r (by omega)) ?_
    refine Ev.pos (by simp only [ByteArray.size_append,z1_,z5];omega) (Ev.pos (by simp only [ByteArray.size_append,z1_,z5];omega) ?_)
    refine Ev.bind hx ?_
    refine Ev.bind (laws_shown_ev ht2 hf2) ?_
    refine Ev.pos (by rw [ByteArray.size_append,z1_];omega) ?_
    rw [e2]
    refine Ev.bind (laws_endLine_ev (t.length - 2) (by omega)) ?_
    refine Ev.pos (by rw [ByteArray.size_append,ByteArray.size_append,z1_,show(⟨#[111,107,10,111,107,10]⟩:ByteArray).size=6 from rfl];omega) (Ev.const ?_)
    rw [beq_self_eq_true]
  · have e:ctM t f d=([],[],false):=by unfold ctM;rw [if_neg (by rw [dec_f hh];decide)]
    rw [e]
    dsimp only
    refine Ev.step (fun k=>by rw [laws_FnExecuteContract.j0]) ?_
    refine Ev.pos rfl ?_
    have hsm:=laws_sameMap_ev ([]:List Int) [] [] [] (by simp) (by simp)
    first
      | exact Ev.bind hsm (Ev.const (by simp))
      | exact Ev.pos rfl (Ev.bind hsm (Ev.const (by simp)))
      | exact Ev.pos rfl (Ev.bind hsm (Ev.pos (by simp) (Ev.const (by simp))))

end Go.Proofs.YtjebcgbmlbemcaaGreatDoor.Pure
