/- The law FnExecuteValue holds for every input. -/
import Derived.Test.YtjebcgbmlbemcaaGreatDoorPFnExecuteValuex14
import Derived.Test.YtjebcgbmlbemcaaGreatDoorQFnExecuteValue
set_option linter.unusedVariables false
set_option linter.unusedSimpArgs false
namespace Go.Proofs.YtjebcgbmlbemcaaGreatDoor.Pure
open Go.RowKit Go.Proofs.YtjebcgbmlbemcaaGreatDoor.PFnExecuteValue Go.Proofs.YtjebcgbmlbemcaaGreatDoorW.PrintWords Go.Proofs.YtjebcgbmlbemcaaGreatDoorW.PrintLast Go.Proofs.YtjebcgbmlbemcaaGreatDoor.M

/-! ### impl_PermValid -/
theorem impl_PermValid_eq (p:List Int):impl_PermValid.f p=some (dec (POK p)):=by
  show some (decide _)=_
  congr 1
  refine dec_of (and_congr_right fun _=>⟨fun h=>⟨⟨rfl,fun i hi=>(h i hi).1⟩,fun i j hi hj e => ?_⟩,fun h j hj=>⟨h.1.2 j hj,fun k hk e => ?_⟩⟩)
  · have h1:=(h i hi).1
    have h2:=(h j hj).1
    unfold fn at e
    have e':rd p (i:Int)=rd p (j:Int):=by omega
    rcases Nat.lt_trichotomy i j with q|q|q
    · exact absurd e' ((h j hj).2 i q)
    · exact q
    · exact absurd e'.symm ((h i hi).2 j q)
  · have:=h.2 k j (by omega) hj (by unfold fn;rw [e])
    omega
/-! ### slices_Max_int_int -/
theorem slices_Max_up (o:List Int) (m:Int) : ∀ i:Nat,m≤slices_Max_int_int.go o m i∧(∀ j:Nat,j<i→rd o (j:Int)≤slices_Max_int_int.go o m i)∧(slices_Max_int_int.go o m i=m ∨ ∃ j:Nat,j<i∧slices_Max_int_int.go o m i=rd o (j:Int))
  | 0=>⟨Int.le_refl _,fun j hj=>by omega,.inl rfl⟩
  | i+1=>by
    obtain⟨h1,h2,h3⟩:=slices_Max_up o m i
    simp only [slices_Max_int_int.go]
    generalize slices_Max_int_int.go o m i=v at *
    split
    · next hlt =>
      refine⟨by omega,fun j hj => ?_,.inr ⟨i,by omega,rfl⟩⟩
      by_cases e:j=i
      · subst e;exact Int.le_refl _
      · have:=h2 j (by omega);omega
    · next hlt =>
      refine⟨h1,fun j hj => ?_,?_⟩
      · by_cases e:j=i
        · subst e;omega
        · exact h2 j (by omega)
      · rcases h3 with h3|⟨j,hj,h3⟩
        · exact .inl h3
        · exact .inr ⟨j,by omega,h3⟩
theorem slices_Max_zero (o:List Int) (h:0<o.length) (h0 : ∀ i:Nat,i<o.length→0≤rd o (i:Int)) : ∃ v,slices_Max_int_int.f o=some v∧(v=0 ↔ ∀ i:Nat,i<o.length→rd o (i:Int)=0):=by
  refine⟨_,by unfold slices_Max_int_int.f;rw [if_pos h],?_⟩
  unfold slices_Max_int_int.up
  obtain⟨h1,h2,h3⟩:=slices_Max_up o (rd o 0) o.length
  constructor
  · intro e i hi
    have:=h2 i hi
    have:=h0 i hi
    omega
  · intro ha
    rcases h3 with h3|⟨j,hj,h3⟩
    · rw [h3];exact ha 0 h
    · rw [h3];exact ha j hj
/-! ### impl_still -/
theorem impl_still_ev (n:Nat) (hn:n≤4194304):Ev (fun k=>impl_still.f k (n:Nat)) (idL n):=by
  have key : ∀ d i,n - i=d→i≤n → ∀ x3:List Int,x3.length=n→(∀ q:Nat,q<i→rd x3 (q:Int)=(q:Int))→Ev (fun k=>impl_still.l0 k x3 (n:Nat) (i:Nat)) (idL n):=by
    intro d
    induction d with
    | zero =>
      intro i hd hi x3 h3 hq
      obtain rfl:i=n:=by omega
      refine Ev.step (fun k=>by rw [impl_still.l0]) ?_
      refine Ev.neg (by omega) (Ev.const ?_)
      congr 1
      exact list_ext_rd (by rw [h3,idL_length]) (fun q hq'=>by rw [hq q (by omega),rd_idL i q (by omega)])
    | succ d ih =>
      intro i hd hi x3 h3 hq
      refine Ev.step (fun k=>by rw [impl_still.l0]) (Ev.pos (by omega) (Ev.pos (by omega) (Ev.pos (by omega) ?_)))
      rw [wrap64_id (by omega) (by omega)]
      refine ih (i+1) (by omega) (by omega) (x3.set i (i:Int)) (by simp [h3]) (fun q hqi => ?_)
      by_cases e:i=q
      · subst e;exact rd_set_self _ _ _ (by omega)
      · rw [rd_set_ne _ _ _ _ e];exact hq q (by omega)
  unfold impl_still.f
  refine Ev.pos (by omega) (Ev.pos (by omega) (Ev.bindc rfl ?_))
  have:=key n 0 (by omega) (by omega) (List.replicate n 0) (by simp) (fun q hq=>by omega)
  rw [List.length_replicate]
  exact this
/-! ### impl_orbits -/
def orbSum (o:List Int):Nat:=o.foldr (fun x s=>x.toNat+s) 0
theorem orbSum_set (o:List Int) : ∀ (i:Nat) (x:Int),i<o.length→0≤x→x<rd o (i:Int)→orbSum (o.set i x)<orbSum o:=by
  induction o with
  | nil=>intro i x h;simp at h
  | cons y l ih =>
    intro i x h h0 hx
    cases i with
    | zero =>
      have:rd (y :: l) ((0:Nat):Int)=y:=rfl
      rw [this] at hx
      simp only [List.set_cons_zero,orbSum,List.foldr_cons]
      omega
    | succ i =>
      have:rd (y :: l) ((i+1:Nat):Int)=rd l (i:Int):=by
        simp only [rd,List.getD_eq_getElem?_getD,Int.toNat_natCast,List.getElem?_cons_succ]
      rw [this] at hx
      have:=ih i x (by simpa using h) h0 hx
      simp only [List.set_cons_succ,orbSum,List.foldr_cons] at *
      omega
theorem orbSum_set_le (o:List Int) (i:Nat) (x:Int) (h:i<o.length) (h0:0≤x) (hx:x≤rd o (i:Int)):orbSum (o.set i x)≤orbSum o:=by
  by_cases e:x=rd o (i:Int)
  · have:o.set i x=o:=by
      refine list_ext_rd (by simp) (fun q hq => ?_)
      by_cases eq:i=q
      · subst eq;rw [rd_set_self _ _ _ h,e]
      · rw [rd_set_ne _ _ _ _ eq]
    rw [this];exact Nat.le_refl _
  · exact Nat.le_of_lt (orbSum_set o i x h h0 (by omega))
theorem impl_orbits_l2_ev {n : Nat} (hn : n ≤ 4194304) {a b : List Int} (ha : Pts n a) (hb : Pts n b) (p : List Int) (hp : Pts n p)
    (hpc : ∀ i,i<n→Con n a b i (fn p i)) (L:List (List Int)) (o0:List Int) (x17 x18:Int) (r:List Int) (pre:Prop)
    (hr : ∀ o g,OrbPre n a b o→(g=true→orbSum o<orbSum o0)→(g=false→o=o0∧pre ∧ ∀ i,i<n→rd o (fn p i:Int)=rd o (i:Int))→Ev (fun k=>impl_orbits.l1 k L o g L x17 (wrap64 (x18+1))) r) :
    ∀ d i,n - i=d→i≤n → ∀ o g,OrbPre n a b o→(g=true→orbSum o<orbSum o0)→(g=false→o=o0∧pre ∧ ∀ q,q<i→rd o (fn p q:Int)=rd o (q:Int)) →
      Ev (fun k=>impl_orbits.l2 k L o g L x17 x18 p (n:Nat) (i:Nat)) r:=by
  intro d
  induction d with
  | zero =>
    intro i hd hi o g h hg hf
    obtain rfl:i=n:=by omega
    refine Ev.step (fun k=>by rw [impl_orbits.l2]) ?_
    refine Ev.neg (by omega) ?_
    exact hr o g h hg hf
  | succ d ih =>
    intro i hd hi o g h hg hf
    have hi':i<n:=by omega
    have ep:=hp.fn hi'
    have lp:=hp.1
    have lo:=h.1
    have gi:=h.2 i hi'
    have gp:=h.2 _ ep.2
    refine Ev.step (fun k=>by rw [impl_orbits.l2]) ?_
    rw [ep.1,wrap64_id (x:=(i:Int)+1) (by omega) (by omega)]
    simp only [toNat_nat]
    refine Ev.pos (by omega) (Ev.pos (by omega) (Ev.pos (by omega) (Ev.pos (by omega) (Ev.pos (by omega) (Ev.pos (by omega) ?_)))))
    -- what a change does
    have hch : ¬ (rd o (i:Int)=rd o (fn p i:Int))→Ev (fun k=>impl_orbits.l2 k L ((o.set i (mn (rd o (i:Int)) (rd o (fn p i:Int)))).set (fn p i) (mn (rd o (i:Int)) (rd o (fn p i:Int)))) true L x17 x18 p (n:Nat) ((i:Int)+1)) r:=by
      intro hne
      have hx:mn (rd o (i:Int)) (rd o (fn p i:Int))≤rd o (i:Int)∧mn (rd o (i:Int)) (rd o (fn p i:Int))≤rd o (fn p i:Int)∧(mn (rd o (i:Int)) (rd o (fn p i:Int))<rd o (i:Int)∨mn (rd o (i:Int)) (rd o (fn p i:Int))<rd o (fn p i:Int))∧0≤mn (rd o (i:Int)) (rd o (fn p i:Int)) ∧
          (mn (rd o (i:Int)) (rd o (fn p i:Int))=rd o (i:Int)∨mn (rd o (i:Int)) (rd o (fn p i:Int))=rd o (fn p i:Int)):=by unfold mn;omega
      generalize mn (rd o (i:Int)) (rd o (fn p i:Int))=x at *
      obtain⟨x1,x2,x3,x4,x5⟩:=hx
      have hcx:Con n a b i x.toNat:=by
        rcases x5 with e|e
        · rw [e];exact gi.2.2
        · rw [e];exact(hpc i hi').trans gp.2.2
      have p1:=h.put hi' x x4 (by omega) hcx
      have p2:=p1.put ep.2 x x4 (by omega) ((hpc i hi').symm.trans hcx)
      have hs:orbSum ((o.set i x).set (fn p i) x)<orbSum o:=by
        have l1:=orbSum_set_le o i x (by omega) x4 x1
        by_cases e:i=fn p i
        · rw [← e] at hne;exact absurd rfl hne
        · have e2:rd (o.set i x) (fn p i:Int)=rd o (fn p i:Int):=rd_set_ne _ _ _ _ e
          have l2:=orbSum_set_le (o.set i x) (fn p i) x (by simp;omega) x4 (by omega)
          rcases x3 with q|q
          · have:=orbSum_set o i x (by omega) x4 q;omega
          · have:=orbSum_set (o.set i x) (fn p i) x (by simp;omega) x4 (by omega);omega
      have hs0:orbSum o≤orbSum o0:=by
        cases g with
        | true=>exact Nat.le_of_lt (hg rfl)
        | false=>rw [(hf rfl).1];exact Nat.le_refl _
      exact ih (i+1) (by omega) (by omega) _ true p2 (fun _=>by omega) (fun q=>by cases q)
    refine Ev.ite (fun e1=>Ev.ite (fun e2 => ?_) (fun e2=>hch (fun e=>e2 ?_))) (fun e1=>hch (fun e=>e1 ?_))
    · refine ih (i+1) (by omega) (by omega) o g h hg (fun hgf => ?_)
      obtain⟨f1,f2,f3⟩:=hf hgf
      refine⟨f1,f2,fun q hq => ?_⟩
      by_cases e:q=i
      · subst e;omega
      · exact f3 q (by omega)
    · unfold mn at *;omega
    · unfold mn;omega
theorem impl_orbits_ev (n:Nat) (hn:n≤4194304) (a b:List Int) (ha:Pts n a) (hb:Pts n b):Ev (fun k=>impl_orbits.f k [a,b]) (orbL a b):=by
  have la:=ha.1
  have lb:=hb.1
  have r0:rd_L1 [a,b] ((0:Nat):Int)=a:=rfl
  have r1:rd_L1 [a,b] ((1:Nat):Int)=b:=rfl
  have main : ∀ m o,orbSum o≤m→OrbPre n a b o→Ev (fun k=>impl_orbits.l0 k [a,b] o true) (orbL a b):=by
    intro m
    induction m using Nat.strongRecOn with
    | _ m ih =>
      intro o hm h
      refine Ev.step (fun k=>by rw [impl_orbits.l0]) ?_
      refine Ev.pos rfl ?_
      have last : ∀ o' g,OrbPre n a b o'→(g=true→orbSum o'<orbSum o)→(g=false→o'=o∧(∀ i,i<n→rd o' (fn a i:Int)=rd o' (i:Int)) ∧ ∀ i,i<n→rd o' (fn b i:Int)=rd o' (i:Int)) →
          Ev (fun k=>impl_orbits.l1 k [a,b] o' g [a,b] ((2:Nat):Int) ((2:Nat):Int)) (orbL a b):=by
        intro o' g h' hg hf
        refine Ev.step (fun k=>by rw [impl_orbits.l1]) ?_
        refine Ev.neg (by omega) ?_
        cases g with
        | true=>exact ih (orbSum o') (by have:=hg rfl;omega) o' (Nat.le_refl _) h'
        | false =>
          obtain⟨f1,f2,f3⟩:=hf rfl
          refine Ev.step (fun k=>by rw [impl_orbits.l0]) ?_
          refine Ev.neg (by simp) (Ev.const ?_)
          congr 1
          exact IsOrb.eq ha hb ⟨h',fun i hi=>⟨f2 i hi,f3 i hi⟩⟩
      have second : ∀ o' g,OrbPre n a b o'→(g=true→orbSum o'<orbSum o)→(g=false→o'=o∧True ∧ ∀ i,i<n→rd o' (fn a i:Int)=rd o' (i:Int)) →
          Ev (fun k=>impl_orbits.l1 k [a,b] o' g [a,b] ((2:Nat):Int) ((1:Nat):Int)) (orbL a b):=by
        intro o' g h' hg hf
        refine Ev.step (fun k=>by rw [impl_orbits.l1]) ?_
        refine Ev.pos (by omega) (Ev.pos (by omega) (Ev.pos (by simp) ?_))
        rw [r1,lb]
        refine impl_orbits_l2_ev hn ha hb b hb (fun i hi=>Con.fb hi) [a,b] o _ _ _ (∀ i,i<n→rd o (fn a i:Int)=rd o (i:Int)) (fun o2 g2 h2 hg2 hf2 => ?_) n 0 (by omega) (by omega) o' g h' hg (fun q => ?_)
        · have e:wrap64 (((1:Nat):Int)+1)=((2:Nat):Int):=by rw [wrap64_id (by omega) (by omega)];rfl
          rw [e]
          exact last o2 g2 h2 hg2 (fun q=>by obtain⟨z1,z2,z3⟩:=hf2 q;refine⟨z1,?_,z3⟩;rw [z1];exact z2)
        · obtain⟨z1,_,z3⟩:=hf q
          exact⟨z1,by rw [z1] at z3;exact z3,fun q hq=>by omega⟩
      refine Ev.step (fun k=>by rw [impl_orbits.l1]) ?_
      refine Ev.pos (by simp) (Ev.pos (by omega) (Ev.pos (by simp) ?_))
      have r0':rd_L1 [a,b] 0=a:=rfl
      rw [r0',la]
      refine impl_orbits_l2_ev hn ha hb a ha (fun i hi=>Con.fa hi) [a,b] o _ _ _ True (fun o2 g2 h2 hg2 hf2 => ?_) n 0 (by omega) (by omega) o false h (fun q=>by cases q) (fun _=>⟨rfl,trivial,fun q hq=>by omega⟩)
      have e1:wrap64 (0+1)=((1:Nat):Int):=by rw [wrap64_id (by omega) (by omega)];rfl
      rw [e1]
      exact second o2 g2 h2 hg2 hf2
  unfold impl_orbits.f
  have r0':rd_L1 [a,b] 0=a:=rfl
  refine Ev.pos (by simp) ?_
  rw [r0',la]
  refine Ev.bind (impl_still_ev n hn) ?_
  exact main _ _ (Nat.le_refl _) (OrbPre.start n a b)
/-! ### impl_MapValid -/
theorem impl_MapValid_ev (t f:List Int):Ev (fun k=>impl_MapValid.f k t f) (dec (MOK t f)):=by
  have hno : ¬ MOK t f→Ev (fun k=>impl_MapValid.j0 k true t f) (dec (MOK t f)):=fun h=>by
    rw [dec_f h]
    exact Ev.step (fun k=>by rw [impl_MapValid.j0]) (Ev.pos rfl (Ev.const rfl))
  unfold impl_MapValid.f
  refine Ev.bindc (impl_PermValid_eq t) ?_
  refine Ev.ite (fun h1 => ?_) (fun h1=>hno (fun w=>h1 (dec_t w.1)))
  refine Ev.bindc (impl_PermValid_eq f) ?_
  refine Ev.ite (fun h2 => ?_) (fun h2=>hno (fun w=>h2 (dec_t w.2.1)))
  have pt:=dec_iff.1 h1
  have pf:=dec_iff.1 h2
  by_cases hl:t.length=f.length
  · rw [show((t.length:Int) != (f.length:Int))=false by simp [hl]]
    refine Ev.step (fun k=>by rw [impl_MapValid.j0]) ?_
    refine Ev.neg (by simp) ?_
    obtain⟨⟨t1,t2⟩,t3⟩:=pt
    obtain⟨⟨f1,f2⟩,f3⟩:=pf
    have ft:=f3.1
    have tt:=t3.1
    rw [hl] at tt
    have key : ∀ d i,f.length - i=d→i≤f.length→(∀ q,q<i→fn f q≠q∧fn f (fn f q)=q)→Ev (fun k=>impl_MapValid.l0 k f (f.length:Nat) (i:Nat) t f) (dec (MOK t f)):=by
      intro d
      induction d with
      | zero =>
        intro i hd hi hq
        obtain rfl:i=f.length:=by omega
        refine Ev.step (fun k=>by rw [impl_MapValid.l0]) ?_
        refine Ev.neg (by omega) ?_
        have ho:=(orbL_isOrb tt ft)
        have hol:=ho.1.1
        obtain⟨v,v1,v2⟩:=slices_Max_zero (orbL t f) (by omega) (fun i hi=>(ho.1.2 i (by omega)).1)
        refine Ev.bind (impl_orbits_ev f.length (by omega) t f tt ft) ?_
        refine Ev.bindc v1 ?_
        refine Ev.const ?_
        congr 1
        by_cases hv:v=0
        · rw [dec_t,hv];· rfl
          exact⟨⟨⟨t1,t2⟩,t3⟩,⟨⟨f1,f2⟩,f3⟩,hl,hq,fun i hi=>v2.1 hv i (by omega)⟩
        · rw [dec_f,beq_eq_false_iff_ne];· exact hv
          exact fun w=>hv (v2.2 (fun i hi=>w.2.2.2.2 i (by omega)))
      | succ d ih =>
        intro i hd hi hq
        have hi':i<f.length:=by omega
        have e1:=ft.fn hi'
        have e2:=ft.fn e1.2
        refine Ev.step (fun k=>by rw [impl_MapValid.l0]) ?_
        rw [e1.1,e2.1,wrap64_id (x:=(i:Int)+1) (by omega) (by omega)]
        refine Ev.pos (by omega) (Ev.pos (by omega) (Ev.pos (by omega) ?_))
        refine Ev.ite (fun n1 => ?_) (fun n1 => ?_)
        · rw [dec_f (fun w=>(w.2.2.2.1 i hi').1 (by omega))];exact Ev.const rfl
        refine Ev.pos (by omega) (Ev.pos (by omega) ?_)
        refine Ev.ite (fun n2 => ?_) (fun n2 => ?_)
        · refine ih (i+1) (by omega) (by omega) (fun q hqi => ?_)
          by_cases e:q=i
          · subst e;exact⟨by omega,by omega⟩
          · exact hq q (by omega)
        · rw [dec_f (fun w=>n2 (by have:=(w.2.2.2.1 i hi').2;omega))];exact Ev.const rfl
    exact key f.length 0 (by omega) (by omega) (fun q hq=>by omega)
  · rw [show((t.length:Int) != (f.length:Int))=true by simp;omega]
    exact hno (fun w=>hl w.2.2.1)
/-! ### impl_edgesOf -/
def lowsL (f:List Int) (i:Nat):List Int:=((List.range i).filter (lowD f)).map (fun d:Nat=>(d:Int))
theorem lowsL_length (f:List Int) (i:Nat):(lowsL f i).length=cntP (lowD f) i:=by
  unfold lowsL;rw [List.length_map,filter_cntP]
theorem lowsL_at (f:List Int) : ∀ (i e:Nat),e<cntP (lowD f) i → ∃ d:Nat,rd (lowsL f i) (e:Int)=(d:Int)∧d<i∧lowD f d=true∧cntP (lowD f) d=e
  | 0,e,h=>by simp [cntP] at h
  | i+1,e,h=>by
    have hl:=lowsL_length f i
    by_cases q:lowD f i=true
    · have hs:lowsL f (i+1)=lowsL f i ++ [(i:Int)]:=by
        unfold lowsL;rw [List.range_succ,List.filter_append,List.map_append];simp [q]
      have hc:cntP (lowD f) (i+1)=cntP (lowD f) i+1:=by simp only [cntP];rw [if_pos q]
      by_cases z:e<cntP (lowD f) i
      · obtain⟨d,d1,d2,d3,d4⟩:=lowsL_at f i e z
        refine⟨d,?_,by omega,d3,d4⟩
        rw [hs,rd_nat _ _ (by rw [List.length_append];omega),List.getElem_append_left (by omega),← rd_nat _ _ (by omega),d1]
      · refine⟨i,?_,by omega,q,by omega⟩
        rw [hs,rd_nat _ _ (by rw [List.length_append,hl];simp;omega),List.getElem_append_right (by omega)]
        simp
    · have hs:lowsL f (i+1)=lowsL f i:=by
        unfold lowsL;rw [List.range_succ,List.filter_append,List.map_append];simp [q]
      have hc:cntP (lowD f) (i+1)=cntP (lowD f) i:=by simp only [cntP];rw [if_neg q];rfl
      obtain⟨d,d1,d2,d3,d4⟩:=lowsL_at f i e (by omega)
      exact⟨d,by rw [hs];exact d1,by omega,d3,d4⟩
theorem impl_edgesOf_ev (n:Nat) (hn:n≤4194304) (t f:List Int) (hf:Pts n f):Ev (fun k=>impl_edgesOf.f k t f) (lowsL f n):=by
  have hl:=hf.1
  have key : ∀ d i,n - i=d→i≤n→Ev (fun k=>impl_edgesOf.l0 k (lowsL f i) f (n:Nat) (i:Nat)) (lowsL f n):=by
    intro d
    induction d with
    | zero =>
      intro i hd hi
      obtain rfl:i=n:=by omega
      refine Ev.step (fun k=>by rw [impl_edgesOf.l0]) ?_
      exact Ev.neg (by omega) (Ev.const rfl)
    | succ d ih =>
      intro i hd hi
      have e1:=hf.fn (show i<n by omega)
      have hc:=cntP_le (lowD f) i
      have hll:=lowsL_length f i
      refine Ev.step (fun k=>by rw [impl_edgesOf.l0]) ?_
      rw [e1.1,wrap64_id (x:=(i:Int)+1) (by omega) (by omega)]
      refine Ev.pos (by omega) (Ev.pos (by omega) (Ev.pos (by omega) ?_))
      have:=ih (i+1) (by omega) (by omega)
      refine Ev.ite (fun q => ?_) (fun q => ?_)
      · refine Ev.pos (by omega) ?_
        have hs:lowsL f (i+1)=lowsL f i ++ [(i:Int)]:=by
          have:lowD f i=true:=decide_eq_true (by omega)
          unfold lowsL;rw [List.range_succ,List.filter_append,List.map_append];simp [this]
        rw [hs] at this
        exact this
      · have hs:lowsL f (i+1)=lowsL f i:=by
          have:lowD f i=false:=decide_eq_false (by omega)
          unfold lowsL;rw [List.range_succ,List.filter_append,List.map_append];simp [this]
        rw [hs] at this
        exact this
  unfold impl_edgesOf.f
  rw [hl]
  exact key n 0 (by omega) (by omega)
/-! ### impl_cyclesOf -/
theorem impl_cyclesOf_l1 {n : Nat} (hn : n ≤ 4194304) {p : List Int} (hp : PermL n p) {i : Nat} (hi : i < n) (hl : lstB (EF n (fn p)) i = true) (out : List (List Int)) (hout : out.length ≤ i) (r : List (List Int))
    (hr : ∀ b,SeenAt n (fn p) (i+1) b→Ev (fun k=>impl_cyclesOf.l0 k p (out ++ [cycOf (fn p) i]) b (n:Nat) (i+1:Nat)) r) :
    ∀ d t,per (fn p) i - t=d→t≤per (fn p) i → ∀ b,SeenIn n (fn p) i t b→Ev (fun k=>impl_cyclesOf.l1 k p out b ((List.range t).map (fun k=>(itr (fn p) k i:Int))) (itr (fn p) t i:Int) (n:Nat) (i:Nat)) r:=by
  have hpm:=hp.perm
  obtain⟨q1,q2,q3,q4⟩:=per_spec hpm hi
  intro d
  induction d with
  | zero =>
    intro t hd ht b hb
    obtain rfl:t=per (fn p) i:=by omega
    obtain⟨c1,c2⟩:=hb.closed hpm hi
    have hlt:=itr_lt hpm hi (per (fn p) i)
    have hbl:=hb.1
    refine Ev.step (fun k=>by rw [impl_cyclesOf.l1]) ?_
    rw [wrap64_id (x:=(i:Int)+1) (by omega) (by omega)]
    refine Ev.pos (by omega) (Ev.pos (by omega) (Ev.pos c1 (Ev.pos (by simp;omega) (Ev.pos (by omega) ?_))))
    exact hr b c2
  | succ d ih =>
    intro t hd ht b hb
    have hlt:=itr_lt hpm hi t
    have hf:=hb.fresh hpm hi hl (by omega)
    have hbl:=hb.1
    have hpl:=hp.1.1
    refine Ev.step (fun k=>by rw [impl_cyclesOf.l1]) ?_
    refine Ev.pos (by omega) (Ev.pos (by omega) (Ev.neg (by rw [hf];simp) (Ev.pos (by simp;omega) (Ev.pos (by omega) ?_))))
    rw [(hp.1.fn hlt).1,← cycOf_take]
    exact ih (t+1) (by omega) (by omega) _ (hb.next hpm hi)
theorem impl_cyclesOf_ev (n:Nat) (hn:n≤4194304) (p:List Int) (hp:PermL n p):Ev (fun k=>impl_cyclesOf.f k p) (cycL n (fn p)):=by
  have hpm:=hp.perm
  have hpl:=hp.1.1
  have key : ∀ d i,n - i=d→i≤n → ∀ b,SeenAt n (fn p) i b→Ev (fun k=>impl_cyclesOf.l0 k p (cycUp n (fn p) i) b (n:Nat) (i:Nat)) (cycL n (fn p)):=by
    intro d
    induction d with
    | zero =>
      intro i hd hi b hb
      obtain rfl:i=n:=by omega
      refine Ev.step (fun k=>by rw [impl_cyclesOf.l0]) ?_
      exact Ev.neg (by omega) (Ev.const rfl)
    | succ d ih =>
      intro i hd hi b hb
      have hi':i<n:=by omega
      have hbl:=hb.1
      have hls:=hb.least hi'
      refine Ev.step (fun k=>by rw [impl_cyclesOf.l0]) (Ev.pos (by omega) ?_)
      cases q:rdOf false b (i:Int) with
      | true =>
        rw [q] at hls
        refine Ev.step (fun k=>by rw [impl_cyclesOf.l1]) ?_
        rw [wrap64_id (x:=(i:Int)+1) (by omega) (by omega)]
        refine Ev.pos (by omega) (Ev.pos (by omega) (Ev.pos q (Ev.neg (by simp) ?_)))
        have:=ih (i+1) (by omega) (by omega) b (hb.skip hi' q)
        rw [cycUp_neg hls] at this
        exact this
      | false =>
        rw [q] at hls
        refine impl_cyclesOf_l1 hn hp hi' hls (cycUp n (fn p) i) (cycUp_length_le _ _ _) _ (fun b' hb' => ?_) (per (fn p) i) 0 (by omega) (by omega) b hb.into
        have:=ih (i+1) (by omega) (by omega) b' hb'
        rw [cycUp_pos hls] at this
        exact this
  unfold impl_cyclesOf.f
  rw [hpl]
  refine Ev.pos (by omega) (Ev.pos (by omega) ?_)
  exact key n 0 (by omega) (by omega) _ (SeenAt.start n _)
/-! ### impl_ribbon -/
theorem rib_l5 {n:Nat} {t:List Int} (ht:PermL n t) {c:List Bool} (hc:c.length=n) (x1 x7:List Int) (x12 x15:Int) (x18:List Bool) (x95 x96:Int) (t1:List Int) :
    ∀ j x,x<n→rdOf false c (itr (fn t) j x:Int)=true → ∃ y,y<n∧rdOf false c (y:Int)=true∧(∃ j0,y=itr (fn t) j0 x ∧ ∀ i,i<j0→rdOf false c (itr (fn t) i x:Int)=false) ∧
      ∀ r,Ev (fun k=>impl_ribbon.l4 k x1 x7 x12 x15 x18 (y:Int) x95 x96 t t1 c) r→Ev (fun k=>impl_ribbon.l5 k x1 x7 x12 x15 x18 (x:Int) x95 x96 t t1 c) r:=by
  have hl:=ht.1.1
  intro j
  induction j with
  | zero =>
    intro x hx hj
    have hj':rdOf false c (x:Int)=true:=hj
    refine⟨x,hx,hj',⟨0,rfl,fun i hi=>absurd hi (Nat.not_lt_zero _)⟩,fun r hr => ?_⟩
    exact Ev.step (fun k=>by rw [impl_ribbon.l5]) (Ev.pos (by omega) (Ev.pos (by omega) (Ev.pos hj' hr)))
  | succ j ih =>
    intro x hx hj
    cases q:rdOf false c (x:Int) with
    | true =>
      refine⟨x,hx,q,⟨0,rfl,fun i hi=>absurd hi (Nat.not_lt_zero _)⟩,fun r hr => ?_⟩
      exact Ev.step (fun k=>by rw [impl_ribbon.l5]) (Ev.pos (by omega) (Ev.pos (by omega) (Ev.pos q hr)))
    | false =>
      have e1:=ht.1.fn hx
      have sh : ∀ i,itr (fn t) i (fn t x)=itr (fn t) (i+1) x:=fun i=>by rw [itr_add];rfl
      obtain⟨y,y1,y2,⟨j0,y3,y4⟩,y5⟩:=ih (fn t x) e1.2 (by rw [sh];exact hj)
      refine⟨y,y1,y2,⟨j0+1,by rw [y3,sh],fun i hi => ?_⟩,fun r hr => ?_⟩
      · cases i with
        | zero=>exact q
        | succ i=>rw [← sh];exact y4 i (by omega)
      · refine Ev.step (fun k=>by rw [impl_ribbon.l5]) ?_
        rw [e1.1]
        exact Ev.pos (by omega) (Ev.pos (by omega) (Ev.neg (by rw [q];decide) (Ev.pos (by omega) (y5 r hr))))
theorem rib_x5 {n : Nat} {t : List Int} (ht : PermL n t) {c : List Bool} (hc : c.length = n) {x : Nat} (hx : x < n) (hj : ∃ j, rdOf false c (itr (fn t) j x : Int) = true) (x1 x7 : List Int) (x12 x15 : Int) (x18 : List Bool) (x95 x96 : Int) (t1 : List Int) (r : List Int)
    (h:Ev (fun k=>impl_ribbon.l4 k x1 x7 x12 x15 x18 (hitN t c x:Int) x95 x96 t t1 c) r):Ev (fun k=>impl_ribbon.l5 k x1 x7 x12 x15 x18 (x:Int) x95 x96 t t1 c) r:=by
  obtain⟨j,hj⟩:=hj
  obtain⟨y,y1,y2,⟨j0,y3,y4⟩,y5⟩:=rib_l5 ht hc x1 x7 x12 x15 x18 x95 x96 t1 j x hx hj
  have e:hitN t c x=y:=by
    unfold hitN
    rw [hitJ_eq (by rw [← y3];exact y2) y4,← y3]
  rw [e] at h
  exact y5 r h
theorem rib_x4 {n : Nat} {t : List Int} (ht : PermL n t) {c : List Bool} (hc : c.length = n) {g : List Int} (hg : Pts n g) (hcg : ∀ d, d < n → rdOf false c (d : Int) = true → rdOf false c (fn g d : Int) = true) (hp : PermL n (psiL n t g c)) {i : Nat} (hi : i < n) (hci : rdOf false c (i : Int) = true) (hl : lstB (EF n (fn (psiL n t g c))) i = true) (x1 : List Int) (x12 x15 : Int) (x95 : Int) (t1 : List Int) (r : List Int)
    (hr : ∀ b bs,SeenAt n (fn (psiL n t g c)) (i+1) bs→RelC n c b bs→Ev (fun k=>impl_ribbon.l3 k x1 g x12 x15 b x95 (wrap64 ((i:Int)+1)) t t1 c) r) :
    ∀ d s,per (fn (psiL n t g c)) i - s=d→s≤per (fn (psiL n t g c)) i → ∀ b bs,SeenIn n (fn (psiL n t g c)) i s bs→RelC n c b bs →
      Ev (fun k=>impl_ribbon.l4 k x1 g x12 x15 b (itr (fn (psiL n t g c)) s i:Int) x95 (i:Int) t t1 c) r:=by
  have hpm:=hp.perm
  have htl:=ht.1.1
  have hgl:=hg.1
  have hch : ∀ s,rdOf false c (itr (fn (psiL n t g c)) s i:Int)=true:=by
    intro s
    induction s with
    | zero=>exact hci
    | succ s ih =>
      have hlt:=itr_lt hpm hi s
      have:=(psi_chosen ht hg hcg hlt ih).2
      rw [← fn_psiL t g c hlt] at this
      exact this
  intro d
  induction d with
  | zero =>
    intro s hd hs b bs hb hrel
    obtain rfl:s=per (fn (psiL n t g c)) i:=by omega
    obtain⟨c1,c2⟩:=hb.closed hpm hi
    have hlt:=itr_lt hpm hi (per (fn (psiL n t g c)) i)
    have hbl:=hrel.1
    have hv:=hrel.2 _ hlt
    rw [c1,hch,Bool.and_true] at hv
    exact Ev.step (fun k=>by rw [impl_ribbon.l4]) (Ev.pos (by omega) (Ev.pos (by omega) (Ev.pos hv (hr b bs c2 hrel))))
  | succ d ih =>
    intro s hd hs b bs hb hrel
    have hlt:=itr_lt hpm hi s
    have hf:=hb.fresh hpm hi hl (by omega)
    have hbl:=hrel.1
    have hv:=hrel.2 _ hlt
    rw [hf,Bool.false_and] at hv
    have e1:=hg.fn hlt
    have e2:=ht.1.fn e1.2
    have hnx:=hb.next hpm hi
    have hrel':RelC n c (b.set (itr (fn (psiL n t g c)) s i) true) (bs.set (itr (fn (psiL n t g c)) s i) true):=by
      refine⟨by rw [List.length_set];exact hbl,fun x hx => ?_⟩
      by_cases e:itr (fn (psiL n t g c)) s i=x
      · rw [← e,rdOf_set_self _ _ _ (by omega),rdOf_set_self _ _ _ (by rw [hb.1];omega),hch];rfl
      · rw [rdOf_set_ne _ _ _ _ e,rdOf_set_ne _ _ _ _ e];exact hrel.2 x hx
    have go:=ih (s+1) (by omega) (by omega) _ _ hnx hrel'
    have ey:itr (fn (psiL n t g c)) (s+1) i=hitN t c (fn t (fn g (itr (fn (psiL n t g c)) s i))):=by
      show fn (psiL n t g c) (itr (fn (psiL n t g c)) s i)=_
      rw [fn_psiL t g c hlt,psi_pos (hch s)]
    rw [ey] at go
    refine Ev.step (fun k=>by rw [impl_ribbon.l4]) ?_
    rw [e1.1,e2.1]
    simp only [toNat_nat]
    refine Ev.pos (by omega) (Ev.pos (by omega) (Ev.neg (by rw [hv];decide) (Ev.pos (by omega) (Ev.pos (by omega) (Ev.pos (by omega) ?_)))))
    exact rib_x5 ht hc e2.2 (rib_again ht e1.2 (hcg _ hlt (hch s))) x1 g x12 x15 _ x95 (i:Int) t1 r go
theorem rib_x3 {n:Nat} (hn:n≤4194304) {t:List Int} (ht:PermL n t) {c:List Bool} (hc:c.length=n) {g:List Int} (hg:Pts n g) (hcg : ∀ d,d<n→rdOf false c (d:Int)=true→rdOf false c (fn g d:Int)=true) (hp:PermL n (psiL n t g c)) (x1:List Int) (x12:Int) (t1:List Int) (S:Nat) (hS:S≤n) :
    ∀ m i,n - i=m→i≤n → ∀ b bs,SeenAt n (fn (psiL n t g c)) i bs→RelC n c b bs→Ev (fun k=>impl_ribbon.l3 k x1 g x12 ((S+sideN n t g c i:Nat):Int) b (n:Int) (i:Int) t t1 c) (fiveL x12 ((S+sideN n t g c n:Nat):Int) ((cycL n (fn t)).length:Int) (x1.length:Int)):=by
  have hpm:=hp.perm
  intro m
  induction m with
  | zero =>
    intro i hd hi b bs hb hrel
    obtain rfl:i=n:=by omega
    exact Ev.step (fun k=>by rw [impl_ribbon.l3]) (Ev.neg (by omega) (Ev.bind (impl_cyclesOf_ev i hn t ht) (Ev.const rfl)))
  | succ m ih =>
    intro i hd hi b bs hb hrel
    have hi':i<n:=by omega
    have hbl:=hrel.1
    have hv:=hrel.2 i hi'
    have hls:=hb.least hi'
    have hsl:sideN n t g c i≤i:=cntP_le _ _
    have w1:wrap64 ((i:Int)+1)=((i+1:Nat):Int):=(wrap64_id (by omega) (by omega)).trans (by omega)
    have stay:(rdOf false c (i:Int) && lstB (EF n (fn (psiL n t g c))) i)=false→sideN n t g c (i+1)=sideN n t g c i:=fun q=>by
      unfold sideN;exact cntP_stay _ q
    have more:(rdOf false c (i:Int) && lstB (EF n (fn (psiL n t g c))) i)=true→sideN n t g c (i+1)=sideN n t g c i+1:=fun q=>by
      unfold sideN;exact cntP_more _ q
    refine Ev.step (fun k=>by rw [impl_ribbon.l3]) (Ev.pos (by omega) (Ev.pos (by omega) (Ev.pos (by omega) ?_)))
    cases q:rdOf false c (i:Int) with
    | false =>
      rw [q] at hv stay more
      have bs' : ∃ bs',SeenAt n (fn (psiL n t g c)) (i+1) bs'∧RelC n c b bs':=by
        cases q2:rdOf false bs (i:Int) with
        | true=>exact⟨bs,hb.skip hi' q2,hrel⟩
        | false =>
          have h0:itr (fn (psiL n t g c)) 1 i=i:=by
            show fn (psiL n t g c) i=i
            rw [fn_psiL t g c hi',psi_neg q]
          obtain⟨p1,p2,p3,p4⟩:=per_spec hpm hi'
          have hper:per (fn (psiL n t g c)) i=1:=by
            by_cases w:1<per (fn (psiL n t g c)) i
            · exact absurd h0 (p4 1 (by omega) w)
            · omega
          have hx:SeenIn n (fn (psiL n t g c)) i 1 (bs.set (itr (fn (psiL n t g c)) 0 i) true):=hb.into.next hpm hi'
          rw [← hper] at hx
          refine⟨_,(hx.closed hpm hi').2,hbl,fun x hx' => ?_⟩
          show _=(rdOf false (bs.set i true) (x:Int) && _)
          by_cases e:i=x
          · subst e;rw [q,Bool.and_false,hv,Bool.and_false]
          · rw [rdOf_set_ne _ _ _ _ e];exact hrel.2 x hx'
      obtain⟨bs',a1,a2⟩:=bs'
      have nx:=ih (i+1) (by omega) (by omega) b bs' a1 a2
      rw [stay rfl] at nx
      refine Ev.neg (by decide) ?_
      refine Ev.step (fun k=>by rw [impl_ribbon.j4]) (Ev.pos rfl ?_)
      rw [w1];exact nx
    | true =>
      rw [q] at hv stay more
      rw [Bool.and_true] at hv
      refine Ev.pos rfl (Ev.pos (by omega) ?_)
      cases q2:rdOf false bs (i:Int) with
      | true =>
        rw [q2] at hls hv
        have nx:=ih (i+1) (by omega) (by omega) b bs (hb.skip hi' q2) hrel
        rw [stay (by rw [hls];rfl)] at nx
        refine Ev.step (fun k=>by rw [impl_ribbon.j4]) (Ev.pos hv ?_)
        rw [w1];exact nx
      | false =>
        rw [q2] at hls hv
        refine Ev.step (fun k=>by rw [impl_ribbon.j4]) (Ev.neg (by rw [hv];decide) ?_)
        rw [wrap64_id (x:=((S+sideN n t g c i:Nat):Int)+1) (by omega) (by omega)]
        refine rib_x4 ht hc hg hcg hp hi' q hls x1 x12 _ (n:Int) t1 _ (fun b' bs' a1 a2 => ?_) _ 0 rfl (by omega) b bs hb.into hrel
        have nx:=ih (i+1) (by omega) (by omega) b' bs' a1 a2
        rw [more (by rw [hls];rfl)] at nx
        rw [w1];exact nx
theorem contains_ev {n:Nat} {row:List Int} (h:Face n row) {c:List Bool} (hc:c.length=n):Ev (fun _=>slices_ContainsFunc_int_int.f row c) (row.any (fun x=>rdOf false c x)):=by
  refine Ev.const ?_
  unfold slices_ContainsFunc_int_int.f
  rw [if_pos (fun i=>by have:=h.2 i.val i.isLt;omega)]
  unfold slices_ContainsFunc_int_int.hasB
  rw [List.take_length]
theorem rib_x2 {n:Nat} (hn:n≤4194304) {t:List Int} (ht:PermL n t) {c:List Bool} (hc:c.length=n) {g:List Int} (hg:Pts n g) (hcg : ∀ d,d<n→rdOf false c (d:Int)=true→rdOf false c (fn g d:Int)=true) (hp:PermL n (psiL n t g c)) (x1:List Int) (x12:Int) (t1:List Int) :
    ∀ m i,cyc n (fn t) - i=m→i≤cyc n (fn t)→Ev (fun k=>impl_ribbon.l2 k x1 (n:Int) g x12 (bareN n t c i:Nat) (cycL n (fn t)) ((cycL n (fn t)).length:Int) (i:Int) t t1 c) (fiveL x12 ((bareN n t c (cyc n (fn t))+sideN n t g c n:Nat):Int) ((cycL n (fn t)).length:Int) (x1.length:Int)):=by
  have eL : ∀ (xs:List (List Int)) (i:Int),rd_L1 xs i=rdL xs i:=fun _ _=>rfl
  have hcl:=cycL_length n (fn t)
  have hcy:=cyc_le n (fn t)
  intro m
  induction m with
  | zero =>
    intro i hd hi
    obtain rfl:i=cyc n (fn t):=by omega
    have hb:bareN n t c (cyc n (fn t))≤cyc n (fn t):=cntP_le _ _
    have h0:=rib_x3 hn ht hc hg hcg hp x1 x12 t1 (bareN n t c (cyc n (fn t))) (by omega) n 0 (by omega) (by omega) (List.replicate n false) _ (SeenAt.start n _) ⟨by simp,fun x hx=>by
      have:rdOf false (List.replicate n false) (x:Int)=false:=by simp [rdOf,List.getD_eq_getElem?_getD,List.getElem?_replicate,hx]
      rw [this];rfl⟩
    have z:sideN n t g c 0=0:=rfl
    rw [z,Nat.add_zero] at h0
    refine Ev.step (fun k=>by rw [impl_ribbon.l2]) (Ev.neg (by omega) ?_)
    simp only [toNat_nat]
    exact Ev.pos (by omega) (Ev.pos (by omega) h0)
  | succ m ih =>
    intro i hd hi
    have hb:bareN n t c i≤i:=cntP_le _ _
    have w1:wrap64 ((i:Int)+1)=((i+1:Nat):Int):=(wrap64_id (by omega) (by omega)).trans (by omega)
    have hv:=contains_ev (cycL_face ht.perm (show i<(cycL n (fn t)).length by omega)) hc
    have nx:=ih (i+1) (by omega) (by omega)
    refine Ev.step (fun k=>by rw [impl_ribbon.l2]) (Ev.pos (by omega) (Ev.pos (by omega) (Ev.pos (by omega) ?_)))
    simp only [eL]
    refine Ev.bind hv ?_
    cases q:(rdL (cycL n (fn t)) (i:Int)).any (fun x=>rdOf false c x) with
    | true =>
      have e:bareN n t c (i+1)=bareN n t c i:=by unfold bareN;exact cntP_stay _ (by simp only [q];rfl)
      rw [e] at nx
      refine Ev.pos rfl ?_
      rw [w1];exact nx
    | false =>
      have e:bareN n t c (i+1)=bareN n t c i+1:=by unfold bareN;exact cntP_more _ (by simp only [q];rfl)
      rw [e] at nx
      refine Ev.neg (by decide) ?_
      rw [w1,wrap64_id (x:=((bareN n t c i:Nat):Int)+1) (by omega) (by omega)]
      exact nx
theorem rib_x1 {n:Nat} (hn:n≤4194304) {t:List Int} (ht:PermL n t) {c:List Bool} (hc:c.length=n) {g:List Int} (hg:Pts n g) (hcg : ∀ d,d<n→rdOf false c (d:Int)=true→rdOf false c (fn g d:Int)=true) (hp:PermL n (psiL n t g c)) (x1:List Int) (t1:List Int) (o:List Int) (ho:Pts n o) :
    ∀ m i,n - i=m→i≤n→Ev (fun k=>impl_ribbon.l1 k x1 (n:Int) g (cntP (fun d=>decide (fn o d=d)) i:Nat) o (n:Int) (i:Int) t t1 c) (fiveL ((cntP (fun d=>decide (fn o d=d)) n:Nat):Int) ((bareN n t c (cyc n (fn t))+sideN n t g c n:Nat):Int) ((cycL n (fn t)).length:Int) (x1.length:Int)):=by
  have hl:=ho.1
  intro m
  induction m with
  | zero =>
    intro i hd hi
    obtain rfl:i=n:=by omega
    have h:=rib_x2 hn ht hc hg hcg hp x1 ((cntP (fun d=>decide (fn o d=d)) i:Nat):Int) t1 _ 0 rfl (by omega)
    exact Ev.step (fun k=>by rw [impl_ribbon.l1]) (Ev.neg (by omega) (Ev.bind (impl_cyclesOf_ev i hn t ht) h))
  | succ m ih =>
    intro i hd hi
    have l3:=cntP_le (fun d=>decide (fn o d=d)) i
    have w1:wrap64 ((i:Int)+1)=((i+1:Nat):Int):=(wrap64_id (by omega) (by omega)).trans (by omega)
    have e1:=ho.fn (show i<n by omega)
    have h:=ih (i+1) (by omega) (by omega)
    refine Ev.step (fun k=>by rw [impl_ribbon.l1]) (Ev.pos (by omega) (Ev.pos (by omega) (Ev.pos (by omega) ?_)))
    rw [w1,e1.1]
    simp only [cntP] at h
    by_cases q:fn o i=i
    · rw [if_pos (decide_eq_true q)] at h
      refine Ev.pos (by omega) ?_
      rw [wrap64_id (x:=((cntP (fun d=>decide (fn o d=d)) i:Nat):Int)+1) (by omega) (by omega)]
      exact h
    · rw [if_neg (by rw [decide_eq_false q];decide)] at h
      exact Ev.neg (by omega) h
theorem holds_nil (x:Int) : ¬ Holds ([]:List Int) x:=fun⟨j,hj,_⟩=>absurd hj (Nat.not_lt_zero _)
theorem holds_take (L:List Int) (i:Nat) (h:i<L.length) (x:Int):Holds (L.take (i+1)) x↔Holds (L.take i) x∨rd L (i:Int)=x:=by
  have rt : ∀ m j,j<m→j<L.length→rd (L.take m) (j:Int)=rd L (j:Int):=fun m j h1 h2=>by
    rw [rd_nat _ _ (by rw [List.length_take];omega),rd_nat _ _ h2,List.getElem_take]
  constructor
  · rintro⟨j,hj,e⟩
    rw [List.length_take] at hj
    by_cases q:j=i
    · subst q;rw [rt _ _ (by omega) h] at e;exact .inr e
    · rw [rt _ _ (by omega) (by omega)] at e
      exact .inl ⟨j,by rw [List.length_take];omega,by rw [rt _ _ (by omega) (by omega)];exact e⟩
  · rintro(⟨j,hj,e⟩|e)
    · rw [List.length_take] at hj
      rw [rt _ _ (by omega) (by omega)] at e
      exact⟨j,by rw [List.length_take];omega,by rw [rt _ _ (by omega) (by omega)];exact e⟩
    · exact⟨i,by rw [List.length_take];omega,by rw [rt _ _ (by omega) h];exact e⟩
theorem lows_at {n:Nat} {f:List Int} (hf:PairL n f) {e:Nat} (he:e<n / 2):rd (lowsL f n) (e:Int)=(ldart n f e:Int):=by
  obtain⟨s1,s2,s3⟩:=ldart_spec hf he
  have hh:=hf.half
  obtain⟨d,d1,d2,d3,d4⟩:=lowsL_at f n e (by omega)
  rw [d1,cnt_inj (lowD f) d3 s2 (d4.trans s3.symm)]
theorem impl_ribbon_val {n:Nat} (hn:n≤4194304) {t f:List Int} (ht:PermL n t) (hf:PairL n f) (L:List Int) (hL : ∀ i:Nat,i<L.length→0≤rd L (i:Int)∧rd L (i:Int)<((n / 2:Nat):Int)) (hLn:L.length≤n) :
    Ev (fun k=>impl_ribbon.f k t f L) (ribL n t f L):=by
  have hl:=ht.1.1
  have hfl:=hf.pts.1
  have hh:=hf.half
  have hO:=orbL_isOrb ht.1 (selF_pts hf L)
  have ho:=hO.1.1
  have hop:Pts n (orbL t (selF f L)):=⟨ho,fun d hd=>by have:=hO.1.2 d hd;omega⟩
  have hcg : ∀ d,d<n→rdOf false (selB f L) (d:Int)=true→rdOf false (selB f L) (fn (selF f L) d:Int)=true:=by
    intro d hd q
    rw [rd_selB _ _ (by omega)] at q
    have e:fn (selF f L) d=fn f d:=by
      show(rd _ (d:Int)).toNat=_
      rw [rd_selF _ _ (by omega),if_pos q];rfl
    have h2:=(hf.pts.fn hd).2
    rw [e,rd_selB _ _ (by omega)]
    obtain⟨a,a1,a2,a3,a4⟩:=hf.low hd
    have:=hf.edge_of a1 a2
    have:edgeN f (fn f d)=edgeN f d:=by
      rcases a4 with rfl|rfl
      · rw [this.2,a3]
      · rw [hf.inv a a1,this.1,a3]
    rw [this];exact q
  have hgi : ∀ d d',d<n→d'<n→fn (selF f L) d=fn (selF f L) d'→d=d':=by
    intro d d' hd hd' e
    have ex : ∀ d,d<n→fn (selF f L) d=if dec (Holds L (edgeN f d:Int))=true then fn f d else d:=fun d hd=>by
      show(rd _ (d:Int)).toNat=_
      rw [rd_selF _ _ (by omega)]
      split <;> rfl
    have en : ∀ d,d<n→edgeN f (fn (selF f L) d)=edgeN f d:=fun d hd=>by
      rw [ex d hd]
      split
      · obtain⟨a,a1,a2,a3,a4⟩:=hf.low hd
        have:=hf.edge_of a1 a2
        rcases a4 with rfl|rfl
        · rw [this.2,a3]
        · rw [hf.inv a a1,this.1,a3]
      · rfl
    have e2:edgeN f d=edgeN f d':=by rw [← en d hd,← en d' hd',e]
    rw [ex d hd,ex d' hd',e2] at e
    split at e
    · rw [← hf.inv d hd,← hf.inv d' hd',e]
    · exact e
  have h1:=rib_x1 hn ht (by rw [selB_length,hfl]) (selF_pts hf L) hcg (psi_perm ht (selF_pts hf L) hcg hgi) L f _ hop _ 0 rfl (by omega)
  have key : ∀ m i,L.length - i=m→i≤L.length→Ev (fun k=>impl_ribbon.l0 k L (n:Int) (selF f (L.take i)) L (L.length:Int) (i:Int) t f (selB f (L.take i))) (ribL n t f L):=by
    intro m
    induction m with
    | zero =>
      intro i hd hi
      obtain rfl:i=L.length:=by omega
      rw [List.take_length]
      refine Ev.step (fun k=>by rw [impl_ribbon.l0]) (Ev.neg (by omega) ?_)
      refine Ev.bind (impl_orbits_ev n hn t (selF f L) ht.1 (selF_pts hf L)) ?_
      rw [hop.1]
      exact h1
    | succ m ih =>
      intro i hd hi
      have hi':i<L.length:=by omega
      have w1:wrap64 ((i:Int)+1)=((i+1:Nat):Int):=(wrap64_id (by omega) (by omega)).trans (by omega)
      have nx:=ih (i+1) (by omega) (by omega)
      have hr:=hL i hi'
      obtain⟨e,he⟩ : ∃ e:Nat,rd L (i:Int)=(e:Int):=⟨(rd L (i:Int)).toNat,by omega⟩
      have he':e<n / 2:=by omega
      obtain⟨s1,s2,s3⟩:=ldart_spec hf he'
      have e1:=hf.pts.fn s1
      have hne:=hf.ne _ s1
      have lF:=selF_length f (L.take i)
      have lB:=selB_length f (L.take i)
      have hll:=lowsL_length f n
      have iff1 : ∀ d,d<n→(Holds (L.take (i+1)) (edgeN f d:Int)↔Holds (L.take i) (edgeN f d:Int)∨(d=ldart n f e∨d=fn f (ldart n f e))):=fun d hd=>by
        rw [holds_take L i hi',he,← edge_is hf he' hd]
        constructor
        · rintro(a|a)
          · exact .inl a
          · exact .inr (by omega)
        · rintro(a|a)
          · exact .inl a
          · exact .inr (by omega)
      have hF:((selF f (L.take i)).set (ldart n f e) (fn f (ldart n f e):Int)).set (fn f (ldart n f e)) (ldart n f e:Int)=selF f (L.take (i+1)):=by
        refine list_ext_rd (by simp [selF_length]) (fun d hd => ?_)
        have hd':d<n:=by simpa [selF_length,hfl] using hd
        rw [rd_selF _ _ (by omega)]
        by_cases c2:d=fn f (ldart n f e)
        · rw [if_pos (dec_t ((iff1 d hd').2 (.inr (.inr c2)))),c2,rd_set_self _ _ _ (by simp;omega),hf.inv _ s1]
        · rw [rd_set_ne _ _ _ _ (Ne.symm c2)]
          by_cases c1:d=ldart n f e
          · rw [if_pos (dec_t ((iff1 d hd').2 (.inr (.inl c1)))),c1,rd_set_self _ _ _ (by omega)]
          · rw [rd_set_ne _ _ _ _ (Ne.symm c1),rd_selF _ _ (by omega)]
            have:dec (Holds (L.take i) (edgeN f d:Int))=dec (Holds (L.take (i+1)) (edgeN f d:Int)):=by
              by_cases q:Holds (L.take i) (edgeN f d:Int)
              · rw [dec_t q,dec_t ((iff1 d hd').2 (.inl q))]
              · rw [dec_f q,dec_f (fun w=>by rcases (iff1 d hd').1 w with a|a;exact q a;rcases a with a|a;exact c1 a;exact c2 a)]
            rw [this]
      have hB:((selB f (L.take i)).set (ldart n f e) true).set (fn f (ldart n f e)) true=selB f (L.take (i+1)):=by
        refine List.ext_getElem (by simp [selB]) (fun d h1 h2 => ?_)
        have hd':d<n:=by simpa [selB_length,hfl] using h2
        rw [List.getElem_set,List.getElem_set]
        simp only [selB,List.getElem_map,List.getElem_range]
        by_cases c2:fn f (ldart n f e)=d
        · rw [if_pos c2,dec_t ((iff1 d hd').2 (.inr (.inr c2.symm)))]
        · rw [if_neg c2]
          by_cases c1:ldart n f e=d
          · rw [if_pos c1,dec_t ((iff1 d hd').2 (.inr (.inl c1.symm)))]
          · rw [if_neg c1]
            by_cases q:Holds (L.take i) (edgeN f d:Int)
            · rw [dec_t q,dec_t ((iff1 d hd').2 (.inl q))]
            · rw [dec_f q,dec_f (fun w=>by rcases (iff1 d hd').1 w with a|a;exact q a;rcases a with a|a;exact c1 a.symm;exact c2 a.symm)]
      refine Ev.step (fun k=>by rw [impl_ribbon.l0]) ?_
      refine Ev.pos (by omega) (Ev.pos (by omega) (Ev.pos (by omega) (Ev.bind (impl_edgesOf_ev n hn t f hf.pts) ?_)))
      rw [he,lows_at hf he',e1.1,w1]
      simp only [toNat_nat]
      rw [hF,hB]
      exact Ev.pos (by omega) (Ev.pos (by omega) (Ev.pos (by omega) (Ev.pos (by omega) (Ev.pos (by omega) (Ev.pos (by omega) (Ev.pos (by omega) (Ev.pos (by omega) (Ev.pos (by omega) nx))))))))
  have k0:=key _ 0 rfl (by omega)
  rw [List.take_zero] at k0
  have z1:selF f []=idL n:=by
    refine list_ext_rd (by rw [selF_length,idL_length,hfl]) (fun d hd => ?_)
    rw [selF_length] at hd
    rw [rd_selF _ _ hd,if_neg (by rw [dec_f (holds_nil _)];decide),rd_idL n d (by omega)]
  have z2:selB f []=List.replicate n false:=by
    refine List.ext_getElem (by simp [selB,hfl]) (fun d h1 h2 => ?_)
    simp only [selB,List.getElem_map,List.getElem_range,List.getElem_replicate]
    exact dec_f (holds_nil _)
  rw [z1,z2] at k0
  unfold impl_ribbon.f
  rw [hl]
  simp only [toNat_nat]
  refine Ev.pos (by omega) (Ev.pos (by omega) (Ev.bind (impl_still_ev n hn) ?_))
  exact k0
theorem impl_ribbon_ev {n:Nat} (hn:n≤4194304) {t f:List Int} (ht:PermL n t) (hf:PairL n f) (L:List Int) (hL : ∀ i:Nat,i<L.length→0≤rd L (i:Int)∧rd L (i:Int)<((n / 2:Nat):Int)) (hLn:L.length≤n) :
    ∃ s u v w:Int,Ev (fun k=>impl_ribbon.f k t f L) [((cntP (fun d=>decide (fn (orbL t (selF f L)) d=d)) n:Nat):Int),s,u,v,w]:=⟨_,_,_,_,impl_ribbon_val hn ht hf L hL hLn⟩
/-! ### impl_power -/
theorem impl_power_ev (x n:Int) (hn:n≤9223372036854775807):Ev (fun k=>impl_power.f k x n) (powW x n.toNat):=by
  have key : ∀ d i,n.toNat - i=d→i≤n.toNat→Ev (fun k=>impl_power.l0 k x (powW x i) n (i:Nat)) (powW x n.toNat):=by
    intro d
    induction d with
    | zero =>
      intro i hd hi
      obtain rfl:i=n.toNat:=by omega
      exact Ev.step (fun k=>by rw [impl_power.l0]) (Ev.neg (by omega) (Ev.const rfl))
    | succ d ih =>
      intro i hd hi
      have nx:=ih (i+1) (by omega) (by omega)
      refine Ev.step (fun k=>by rw [impl_power.l0]) (Ev.pos (by omega) ?_)
      rw [show wrap64 ((i:Int)+1)=((i+1:Nat):Int) from(wrap64_id (by omega) (by omega)).trans (by omega)]
      exact nx
  exact key _ 0 rfl (by omega)
/-! ### impl_RibbonValue_1 -/
theorem five_len (p s v e:Int):(fiveL p s v e).length=5:=rfl
theorem five_3 (p s v e:Int):rd (fiveL p s v e) 3≤9223372036854775807:=by
  have:rd (fiveL p s v e) 3=wrap64 (e - wrap64 (v - p)):=rfl
  rw [this];exact w64_hi _
theorem five_4 (p s v e:Int):rd (fiveL p s v e) 4≤9223372036854775807:=by
  have:rd (fiveL p s v e) 4=wrap64 (Int.tdiv (wrap64 (wrap64 (wrap64 (wrap64 (2*p) - v)+e) - s)) 2):=rfl
  rw [this];exact w64_hi _
theorem ribL_length (n:Nat) (t f L:List Int):(ribL n t f L).length=5:=by unfold ribL;exact five_len _ _ _ _
theorem ribL_3 (n:Nat) (t f L:List Int):rd (ribL n t f L) 3≤9223372036854775807:=by unfold ribL;exact five_3 _ _ _ _
theorem ribL_4 (n:Nat) (t f L:List Int):rd (ribL n t f L) 4≤9223372036854775807:=by unfold ribL;exact five_4 _ _ _ _
theorem impl_RibbonValue_1_ev {n:Nat} (hn:n≤4194304) {t f:List Int} (ht:PermL n t) (hf:PairL n f) (L:List Int) (hL : ∀ i:Nat,i<L.length→0≤rd L (i:Int)∧rd L (i:Int)<((n / 2:Nat):Int)) (hLn:L.length≤n) (x y z s:Int) :
    Ev (fun k=>impl_RibbonValue_1.f k t f x y z s L) (stepV x y z (ribL n t f L) s):=by
  unfold impl_RibbonValue_1.f
  refine Ev.bind (impl_ribbon_val hn ht hf L hL hLn) ?_
  have h5:=ribL_length n t f L
  have h3:=ribL_3 n t f L
  have h4:=ribL_4 n t f L
  unfold stepV
  generalize ribL n t f L=c at *
  refine Ev.pos (by omega) ?_
  exact Ev.bind (impl_power_ev x _ (w64_hi _)) (Ev.bind (impl_power_ev y _ h3) (Ev.bind (impl_power_ev z _ h4) (Ev.const rfl)))
/-! ### impl_choicesOf -/
theorem shl_two : ∀ m:Fin 7,shl .i64 1 (m.val:Int)=((2 ^ m.val:Nat):Int):=by decide +kernel
theorem bit_is : ∀ s:Fin 64,∀ e:Fin 6,decide (Go.bits .and .i64 (shr .i64 (s.val:Int) (e.val:Int)) 1=1)=s.val.testBit e.val:=by decide +kernel
theorem impl_choicesOf_ev {t f:List Int} (h:MOK t f) (x y z:Int):Ev (fun k=>impl_choicesOf.f k t f x y z 0) (sumV t f x y z (2 ^ (t.length / 2))):=by
  have hz:=h.size
  have hp:=h.pair
  obtain⟨m,hm⟩ : ∃ m,t.length / 2=m:=⟨_,rfl⟩
  have h6:m≤6:=by omega
  have h64:2 ^ m≤64:=Nat.pow_le_pow_right (n:=2) (by omega) h6
  have hsh:shl .i64 1 (m:Int)=((2 ^ m:Nat):Int):=shl_two ⟨m,by omega⟩
  rw [hm]
  generalize hM:2 ^ m=M at *
  have w2:wrap64 ((f.length:Int) / 2)=(m:Int):=(wrap64_id (by omega) (by omega)).trans (by omega)
  have one : ∀ (s:Nat),s<M → ∀ (S:Int) (r:Int),Ev (fun k=>impl_choicesOf.l0 k x y z (stepV x y z (ribL t.length t f (bitsL m s)) S) ((M:Nat):Int) ((s+1:Nat):Int) t f) r →
      ∀ d e,m - e=d→e≤m→Ev (fun k=>impl_choicesOf.l1 k x y z S (s:Int) (bitsL e s) ((M:Nat):Int) (s:Int) (m:Int) (e:Int) t f) r:=by
    intro s hs S r hr d
    induction d with
    | zero =>
      intro e hd he
      obtain rfl:e=m:=by omega
      have hl:=bitsL_length e s
      have hv:=impl_RibbonValue_1_ev (n:=t.length) (by omega) h.permT hp (bitsL e s) (by rw [hm];exact bitsL_mem e s) (by omega) x y z S
      refine Ev.step (fun k=>by rw [impl_choicesOf.l1]) (Ev.neg (by omega) (Ev.bind hv ?_))
      rw [show wrap64 ((s:Int)+1)=((s+1:Nat):Int) from(wrap64_id (by omega) (by omega)).trans (by omega)]
      exact hr
    | succ d ih =>
      intro e hd he
      have nx:=ih (e+1) (by omega) (by omega)
      have hl:=bitsL_length e s
      have hb:=bit_is ⟨s,by omega⟩ ⟨e,by omega⟩
      refine Ev.step (fun k=>by rw [impl_choicesOf.l1]) (Ev.pos (by omega) (Ev.pos (by omega) ?_))
      rw [show wrap64 ((e:Int)+1)=((e+1:Nat):Int) from(wrap64_id (by omega) (by omega)).trans (by omega)]
      cases q:s.testBit e with
      | true =>
        rw [bitsL_pos q] at nx
        refine Ev.pos (of_decide_eq_true (hb.trans q)) (Ev.pos (by omega) nx)
      | false =>
        rw [bitsL_neg q] at nx
        exact Ev.neg (of_decide_eq_false (hb.trans q)) nx
  have two : ∀ d s,M - s=d→s≤M→Ev (fun k=>impl_choicesOf.l0 k x y z (sumV t f x y z s) ((M:Nat):Int) (s:Int) t f) (sumV t f x y z (M)):=by
    intro d
    induction d with
    | zero =>
      intro s hd hs
      obtain rfl:s=M:=by omega
      exact Ev.step (fun k=>by rw [impl_choicesOf.l0]) (Ev.neg (by omega) (Ev.const rfl))
    | succ d ih =>
      intro s hd hs
      have nx:=ih (s+1) (by omega) (by omega)
      have e:sumV t f x y z (s+1)=stepV x y z (ribL t.length t f (bitsL m s)) (sumV t f x y z s):=by rw [← hm];rfl
      rw [e] at nx
      refine Ev.step (fun k=>by rw [impl_choicesOf.l0]) (Ev.pos (by omega) ?_)
      rw [w2]
      exact one s (by omega) _ _ nx m 0 (by omega) (by omega)
  have k0:=two _ 0 rfl (by omega)
  unfold impl_choicesOf.f
  rw [w2,hsh]
  exact Ev.pos (by omega) k0
/-! ### impl_RibbonValue -/
theorem impl_RibbonValue_ev (t f:List Int) (x y z:Int):Ev (fun k=>impl_RibbonValue.f k t f x y z) (valZ t f x y z):=by
  have no : ¬ (MOK t f∧(0≤x∧x≤3)∧(0≤y∧y≤3)∧(0≤z∧z≤3))→valZ t f x y z = -1:=fun w=>by
    unfold valZ;rw [if_neg (by rw [dec_f w];decide)]
  unfold impl_RibbonValue.f
  refine Ev.bind (impl_MapValid_ev t f) ?_
  by_cases h:MOK t f
  · refine Ev.pos (dec_t h) ?_
    refine Ev.ite (fun q=>Ev.const (by rw [no (by omega)])) (fun q1 => ?_)
    refine Ev.ite (fun q=>Ev.const (by rw [no (by omega)])) (fun q2 => ?_)
    refine Ev.ite (fun q=>Ev.const (by rw [no (by omega)])) (fun q3 => ?_)
    refine Ev.ite (fun q=>Ev.const (by rw [no (by omega)])) (fun q4 => ?_)
    refine Ev.ite (fun q=>Ev.const (by rw [no (by omega)])) (fun q5 => ?_)
    refine Ev.ite (fun q=>Ev.const (by rw [no (by omega)])) (fun q6 => ?_)
    have e:valZ t f x y z=sumV t f x y z (2 ^ (t.length / 2)):=by
      unfold valZ;rw [if_pos (dec_t ⟨h,by omega,by omega,by omega⟩)]
    rw [e]
    exact Ev.bind (impl_choicesOf_ev h x y z) (Ev.const rfl)
  · refine Ev.neg (by rw [dec_f h];decide) (Ev.const (by rw [no (fun w=>h w.1)]))
/-! ### impl_numberOf -/
theorem impl_numberOf_ex (s:ByteArray) : ∃ n,Ev (fun k=>impl_numberOf.f k s) n:=by
  have key : ∀ d i n,s.size - i=d→i≤s.size→s.size≤2 → ∃ r,Ev (fun k=>impl_numberOf.l0 k s n (s.size:Int) (i:Nat)) r:=by
    intro d
    induction d with
    | zero =>
      intro i n hd hi hs
      exact⟨n,Ev.step (fun k=>by rw [impl_numberOf.l0]) (Ev.neg (by omega) (Ev.const rfl))⟩
    | succ d ih =>
      intro i n hd hi hs
      obtain⟨r,hr⟩:=ih (i+1) (wrap64 ((wrap64 (n*10))+(((bt s (i:Nat)) - 48) % 256))) (by omega) (by omega) hs
      by_cases h1:bt s (i:Nat)<48
      · exact⟨-1,Ev.step (fun k=>by rw [impl_numberOf.l0]) (Ev.pos (by omega) (Ev.pos (by omega) (Ev.pos (by omega) (Ev.pos h1 (Ev.const rfl)))))⟩
      · by_cases h2:bt s (i:Nat)>57
        · exact⟨-1,Ev.step (fun k=>by rw [impl_numberOf.l0]) (Ev.pos (by omega) (Ev.pos (by omega) (Ev.pos (by omega) (Ev.neg h1 (Ev.pos h2 (Ev.const rfl))))))⟩
        · refine⟨r,Ev.step (fun k=>by rw [impl_numberOf.l0]) (Ev.pos (by omega) (Ev.pos (by omega) (Ev.pos (by omega) (Ev.neg h1 (Ev.neg h2 ?_)))))⟩
          rw [wrap64_id (x:=((i:Nat):Int)+1) (by omega) (by omega)]
          exact hr
  by_cases h0:(s.size:Int)<1
  · refine⟨-1,?_⟩
    unfold impl_numberOf.f
    refine Ev.pos h0 (Ev.step (fun k=>by rw [impl_numberOf.j0]) (Ev.pos rfl (Ev.const rfl)))
  · by_cases h2:(s.size:Int)>2
    · refine⟨-1,?_⟩
      unfold impl_numberOf.f
      refine Ev.neg h0 (Ev.step (fun k=>by rw [impl_numberOf.j0]) (Ev.pos (decide_eq_true h2) (Ev.const rfl)))
    · obtain⟨r,hr⟩:=key _ 0 0 rfl (by omega) (by omega)
      refine⟨r,?_⟩
      unfold impl_numberOf.f
      refine Ev.neg h0 (Ev.step (fun k=>by rw [impl_numberOf.j0]) ?_)
      exact Ev.neg (by rw [decide_eq_false h2];decide) hr
theorem dec_one : ∀ n:Fin 10,(⟨(Lib.decDigits n.val).toArray⟩:ByteArray).size=1∧bt ⟨(Lib.decDigits n.val).toArray⟩ 0=48+(n.val:Int):=by decide +kernel
theorem dec_two : ∀ n:Fin 100,10≤n.val→(⟨(Lib.decDigits n.val).toArray⟩:ByteArray).size=2∧bt ⟨(Lib.decDigits n.val).toArray⟩ 0=48+((n.val / 10:Nat):Int)∧bt ⟨(Lib.decDigits n.val).toArray⟩ 1=48+((n.val % 10:Nat):Int):=by decide +kernel
/-- The number of a text of digits. -/
theorem impl_numberOf_dec (n:Nat) (h:n<100):Ev (fun k=>impl_numberOf.f k ⟨(Lib.decDigits n).toArray⟩) (n:Int):=by
  obtain⟨s,hs⟩ : ∃ s:ByteArray,(⟨(Lib.decDigits n).toArray⟩:ByteArray)=s:=⟨_,rfl⟩
  rw [hs]
  by_cases h0:n<10
  · obtain⟨z,b0⟩:s.size=1∧bt s 0=48+(n:Int):=by rw [← hs];exact dec_one ⟨n,h0⟩
    unfold impl_numberOf.f
    refine Ev.neg (by omega) (Ev.step (fun k=>by rw [impl_numberOf.j0]) (Ev.neg (by rw [decide_eq_false (by omega)];decide) ?_))
    refine Ev.step (fun k=>by rw [impl_numberOf.l0]) ?_
    refine Ev.pos (by omega) (Ev.pos (by omega) (Ev.pos (by omega) (Ev.neg (by omega) (Ev.neg (by omega) ?_))))
    refine Ev.step (fun k=>by rw [impl_numberOf.l0]) ?_
    refine Ev.neg (by unfold wrap64;omega) (Ev.const ?_)
    rw [b0,show wrap64 (0*10)=0 by unfold wrap64;omega,show(48+(n:Int) - 48) % 256=(n:Int) by omega,wrap64_id (by omega) (by omega)]
    simp
  · obtain⟨z,b0,b1⟩:s.size=2∧bt s 0=48+((n / 10:Nat):Int)∧bt s 1=48+((n % 10:Nat):Int):=by rw [← hs];exact dec_two ⟨n,h⟩ (show 10≤n by omega)
    unfold impl_numberOf.f
    refine Ev.neg (by omega) (Ev.step (fun k=>by rw [impl_numberOf.j0]) (Ev.neg (by rw [decide_eq_false (by omega)];decide) ?_))
    refine Ev.step (fun k=>by rw [impl_numberOf.l0]) ?_
    refine Ev.pos (by omega) (Ev.pos (by omega) (Ev.pos (by omega) (Ev.neg (by omega) (Ev.neg (by omega) ?_))))
    rw [b0,show wrap64 (0*10)=0 by unfold wrap64;omega,show(48+((n / 10:Nat):Int) - 48) % 256=((n / 10:Nat):Int) by omega,wrap64_id (x:=0+((n / 10:Nat):Int)) (by omega) (by omega),show wrap64 (0+1)=1 by unfold wrap64;omega]
    refine Ev.step (fun k=>by rw [impl_numberOf.l0]) ?_
    refine Ev.pos (by omega) (Ev.pos (by omega) (Ev.pos (by omega) (Ev.neg (by omega) (Ev.neg (by omega) ?_))))
    rw [b1,show(48+((n % 10:Nat):Int) - 48) % 256=((n % 10:Nat):Int) by omega,wrap64_id (x:=(0+((n / 10:Nat):Int))*10) (by omega) (by omega),wrap64_id (x:=(0+((n / 10:Nat):Int))*10+((n % 10:Nat):Int)) (by omega) (by omega),show wrap64 (1+1)=2 by unfold wrap64;omega]
    refine Ev.step (fun k=>by rw [impl_numberOf.l0]) ?_
    refine Ev.neg (by omega) (Ev.const ?_)
    congr 1
    omega
/-! ### impl_PermText -/
theorem ptx_inner {c:List Int} (h:Lo c) : ∀ x:Int,1≤x → ∃ t,impl_PermText.inner x c=some t∧t.data.toList=jT c:=by
  induction c with
  | nil=>intro x hx;exact⟨⟨#[]⟩,by unfold impl_PermText.inner;rfl,rfl⟩
  | cons v c ih =>
    intro x hx
    have hv:=h v (by simp)
    obtain⟨t,h1,h2⟩:=ih (fun w hw=>h w (by simp [hw])) (x+1) (by omega)
    refine⟨_,by rw [impl_PermText.inner,if_pos (by omega),h1];rfl,?_⟩
    have e:impl_PermText.sg x=⟨#[44]⟩:=by unfold impl_PermText.sg;rw [if_neg (by omega)]
    rw [e]
    simp [impl_PermText.dg,h2,jT,dB]
theorem ptx_first {c:List Int} (h:Lo c) (hl:1≤c.length) : ∃ t,impl_PermText.inner 0 c=some t∧t.data.toList=40 :: jC c:=by
  cases c with
  | nil=>simp at hl
  | cons v c =>
    have hv:=h v (by simp)
    obtain⟨t,h1,h2⟩:=ptx_inner (fun w hw=>h w (by simp [hw]):Lo c) 1 (by omega)
    refine⟨_,by rw [impl_PermText.inner,if_pos (by omega),show(0:Int)+1=1 from rfl,h1];rfl,?_⟩
    have e:impl_PermText.sg 0=⟨#[40]⟩:=by unfold impl_PermText.sg;rw [if_pos rfl]
    rw [e]
    simp [impl_PermText.dg,h2,jC,dB]
theorem ptx_outer {cs:List (List Int)} (h : ∀ c ∈ cs,Lo c):impl_PermText.outer cs=some ⟨(tP cs).toArray⟩:=by
  induction cs with
  | nil=>rfl
  | cons c cs ih =>
    have ih':=ih (fun d hd=>h d (by simp [hd]))
    simp only [impl_PermText.outer,tP]
    split
    · exact ih'
    · obtain⟨t,h1,h2⟩:=ptx_first (h c (by simp)) (by omega)
      rw [h1,ih']
      simp only [Option.bind_some]
      refine congrArg some (xs_toList_inj ?_)
      simp [h2,tC]
theorem impl_PermText_ev {p:List Int} (h:POK p):Ev (fun k=>impl_PermText.f k p) (pTxt p):=by
  unfold impl_PermText.f
  refine Ev.bindc (impl_PermValid_eq p) ?_
  refine Ev.pos (dec_t h) ?_
  have h12:=h.1.2
  refine Ev.bind (impl_cyclesOf_ev p.length (by omega) p h.2) ?_
  refine Ev.bindc (ptx_outer (cyP_lo h)) ?_
  have hs:(⟨(tP (cycL p.length (fn p))).toArray⟩:ByteArray).size=(txP p).length:=by show(tP (cyP p)).toArray.size=_;simp [txP]
  have hl:=txP_len h
  refine Ev.pos ⟨by rw [hs];omega,?_,fun c hc => ?_⟩ ?_
  · rw [cycL_length];have:=cyc_le p.length (fn p);omega
  · obtain⟨i,hi,e⟩:=List.getElem_of_mem hc
    have:=(cycL_face h.2.perm hi).1
    rw [rdL_nat _ _ hi,e] at this
    omega
  · unfold pTxt
    by_cases e:txP p = []
    · rw [if_pos e]
      exact Ev.pos (by rw [hs,e];rfl) (Ev.const rfl)
    · rw [if_neg e]
      refine Ev.neg (fun w=>e ?_) (Ev.const rfl)
      rw [hs] at w
      exact List.length_eq_zero_iff.1 w
/-! ### impl_PermFrom -/
/-- Where some points have been sent on and the others not. -/
def Part (p:List Int) (S:Nat→Prop) (x:List Int):Prop:=x.length=p.length ∧ ∀ i:Nat,i<p.length→(S i→rd x (i:Int)=rd p (i:Int))∧(¬ S i→rd x (i:Int)=(i:Int))
theorem Part.congr {p:List Int} {S S':Nat→Prop} {x:List Int} (h:Part p S x) (he : ∀ i,i<p.length→(S i↔S' i)):Part p S' x :=
  ⟨h.1,fun i hi=>⟨fun s=>(h.2 i hi).1 ((he i hi).2 s),fun s=>(h.2 i hi).2 (fun q=>s ((he i hi).1 q))⟩⟩
theorem Part.set {p:List Int} {S:Nat→Prop} {x:List Int} (h:Part p S x) {v:Nat} (hv:v<p.length):Part p (fun i=>S i∨i=v) (x.set v (rd p (v:Int))):=by
  refine⟨by rw [List.length_set];exact h.1,fun i hi => ?_⟩
  by_cases e:v=i
  · subst e
    refine⟨fun _=>rd_set_self _ _ _ (by rw [h.1];exact hv),fun q=>absurd (.inr rfl) q⟩
  · rw [rd_set_ne _ _ _ _ e]
    exact⟨fun s=>(h.2 i hi).1 (s.elim id (fun q=>absurd q.symm e)),fun s=>(h.2 i hi).2 (fun q=>s (.inl q))⟩
theorem Part.full {p:List Int} {S:Nat→Prop} {x:List Int} (h:Part p S x) (hf : ∀ i,i<p.length→S i):x=p :=
  list_ext_rd h.1 (fun i hi=>(h.2 i (by rw [← h.1];exact hi)).1 (hf i (by rw [← h.1];exact hi)))
def pieces (c:List Int):List ByteArray:=c.map (fun v=>(⟨(dB v).toArray⟩:ByteArray))
theorem pieces_at (c:List Int) (i:Nat) (h:i<c.length):rdOf ByteArray.empty (pieces c) (i:Int)=⟨(dB (rd c (i:Int))).toArray⟩:=by
  rw [rd_nat c i h]
  simp [rdOf,pieces,List.getD_eq_getElem?_getD,h]
theorem atoi_at {v:Int} (h:0≤v∧v<12):strconv_Atoi.f ⟨(dB v).toArray⟩=some (v,none):=by
  obtain⟨h1,h2,h3,h4⟩:=dB_of h
  unfold strconv_Atoi.f
  rw [if_pos (by show(dB v).toArray.size≤18;simp;omega)]
  have e:((⟨(dB v).toArray⟩:ByteArray)).data.toList=dB v:=by simp
  rw [e,h4];rfl
section
variable {n:Nat} {s:ByteArray} {more:ByteArray} {r:List Int×Bool}
theorem pf_l1 {c:List Int} (hc:Lo c) (hn : ∀ v ∈ c,v<(n:Int)) (hlen:c.length≤12) {x:List Int} (h2:Ev (fun k=>impl_PermFrom.l2 k (n:Nat) s x more c c (c.length:Int) (0:Nat)) r) :
    ∀ d i,c.length - i=d→i≤c.length→Ev (fun k=>impl_PermFrom.l1 k (n:Nat) s x more (c.take i) (pieces c) (c.length:Int) (i:Nat)) r:=by
  have hpl:(pieces c).length=c.length:=by simp [pieces]
  intro d
  induction d with
  | zero =>
    intro i hd hi
    obtain rfl:i=c.length:=by omega
    refine Ev.step (fun k=>by rw [impl_PermFrom.l1]) (Ev.neg (by omega) ?_)
    rw [List.take_length]
    exact h2
  | succ d ih =>
    intro i hd hi
    have hi':i<c.length:=by omega
    have hm:rd c (i:Int) ∈ c:=by rw [rd_nat c i hi'];exact List.getElem_mem hi'
    have hv:=hc _ hm
    have hvn:=hn _ hm
    refine Ev.step (fun k=>by rw [impl_PermFrom.l1]) ?_
    refine Ev.pos (by omega) (Ev.pos (by omega) (Ev.pos (by omega) ?_))
    rw [pieces_at c i hi']
    refine Ev.bindc (atoi_at hv) ?_
    refine Ev.pos rfl ?_
    refine Ev.neg (by show ¬ rd c (i:Int)<0;omega) ?_
    refine Ev.neg (by show ¬ rd c (i:Int)≥(n:Int);omega) ?_
    refine Ev.pos (by rw [List.length_take];omega) ?_
    rw [wrap64_id (x:=(i:Int)+1) (by omega) (by omega)]
    have e:c.take i ++ [rd c (i:Int)]=c.take (i+1):=by rw [rd_nat c i hi',List.take_succ_eq_append_getElem hi']
    show Ev (fun k=>impl_PermFrom.l1 k (n:Nat) s x more (c.take i ++ [rd c (i:Int)]) (pieces c) (c.length:Int) ((i+1:Nat):Int)) r
    rw [e]
    exact ih (i+1) (by omega) (by omega)
theorem pf_l2 {p : List Int} {c : List Int} (hc : CycOk p.length (fn p) c) (hp : Pts p.length p) (hlen : c.length ≤ 12) {S : Nat → Prop}
    (h0 : ∀ x,Part p (fun i=>S i∨Holds c (i:Int)) x→Ev (fun k=>impl_PermFrom.l0 k (n:Nat) s x more) r) :
    ∀ d i,c.length - i=d→i≤c.length → ∀ x,Part p (fun q=>S q ∨ ∃ j:Nat,j<i∧rd c (j:Int)=(q:Int)) x→Ev (fun k=>impl_PermFrom.l2 k (n:Nat) s x more c c (c.length:Int) (i:Nat)) r:=by
  intro d
  induction d with
  | zero =>
    intro i hd hi x hx
    obtain rfl:i=c.length:=by omega
    refine Ev.step (fun k=>by rw [impl_PermFrom.l2]) (Ev.neg (by omega) ?_)
    exact h0 x (hx.congr (fun q hq=>⟨id,id⟩))
  | succ d ih =>
    intro i hd hi x hx
    have hi':i<c.length:=by omega
    obtain⟨v,v1,v2,v3⟩:=hc.2 i hi'
    have hxl:=hx.1
    have em:Int.tmod (wrap64 ((i:Int)+1)) (c.length:Int)=(((i+1) % c.length:Nat):Int):=by
      rw [wrap64_id (x:=(i:Int)+1) (by omega) (by omega)]
      exact(Int.ofNat_tmod (i+1) c.length).symm
    have hlt:=Nat.mod_lt (i+1) (by omega:0<c.length)
    refine Ev.step (fun k=>by rw [impl_PermFrom.l2]) ?_
    rw [em,v2,v3]
    refine Ev.pos (by omega) (Ev.pos (by omega) (Ev.pos (by omega) (Ev.neg (by omega) (Ev.pos (by omega) (Ev.pos (by omega) (Ev.pos (by omega) (Ev.pos (by omega) ?_)))))))
    rw [wrap64_id (x:=(i:Int)+1) (by omega) (by omega),← (hp.fn v1).1]
    refine ih (i+1) (by omega) (by omega) _ ((hx.set v1).congr (fun q hq=>⟨?_,?_⟩))
    · rintro((h|⟨j,hj,e⟩)|rfl)
      · exact .inl h
      · exact .inr ⟨j,by omega,e⟩
      · exact .inr ⟨i,by omega,v2⟩
    · rintro(h|⟨j,hj,e⟩)
      · exact .inl (.inl h)
      · by_cases q:j=i
        · subst q;rw [v2] at e;exact .inr (by omega)
        · exact .inl (.inr ⟨j,by omega,e⟩)
end
theorem cut_tC {c:List Int} (h:Lo c) (more:List UInt8):Lib.cut (jC c ++ 41 :: more) [41]=(jC c,more,true):=by
  have hf:(41:UInt8) ∉ jC c:=fun hm=>by have:=jC_sign h _ hm;simp at this
  have e:Lib.index (jC c ++ 41 :: more) [41]=((jC c).length:Int):=by rw [Lib.index_one,xs_idx_hit 41 _ _ hf]
  unfold Lib.cut
  rw [e,if_pos (by omega)]
  simp
theorem toList_nil {a:ByteArray} {l:List UInt8} (h:a.data.toList=l):a.toList=l:=by rw [toList_data];exact h
theorem impl_PermFrom_ev {p:List Int} (h:POK p):Ev (fun k=>impl_PermFrom.f k (p.length:Int) (pTxt p)) (p,true):=by
  have h1:=h.1.1
  have h12:=h.1.2
  have hP:=h.2.perm
  have done : ∀ x,x=p → ∀ rest:ByteArray,Ev (fun k=>impl_PermFrom.j2 k (p.length:Int) (pTxt p) x rest false) (p,true):=by
    intro x hx rest
    subst hx
    refine Ev.step (fun k=>by rw [impl_PermFrom.j2]) (Ev.neg (by decide) ?_)
    refine Ev.bind (impl_PermText_ev h) ?_
    exact Ev.pos rfl (Ev.const rfl)
  unfold impl_PermFrom.f
  refine Ev.neg (by omega) ?_
  refine Ev.step (fun k=>by rw [impl_PermFrom.j0]) (Ev.neg (by rw [decide_eq_false (by omega)];decide) ?_)
  refine Ev.bind (impl_still_ev p.length (by omega)) ?_
  by_cases he:txP p = []
  ·
    have hpt:pTxt p=⟨#[40,41]⟩:=by unfold pTxt;rw [if_pos he]
    have hid:idL p.length=p:=by
      refine list_ext_rd (idL_length _) (fun i hi => ?_)
      rw [idL_length] at hi
      rw [rd_idL _ _ hi]
      obtain⟨c,hc,j,hj,e⟩:=cycL_all hP hi
      have hok:=cyP_ok h hc
      have hl:c.length<2:=by
        by_cases q:c.length<2
        · exact q
        · exfalso
          have key : ∀ cs:List (List Int),c ∈ cs→tP cs ≠ []:=by
            intro cs
            induction cs with
            | nil=>intro hm;simp at hm
            | cons d cs ih =>
              intro hm
              simp only [tP]
              split
              · rename_i hd
                rcases List.mem_cons.1 hm with rfl|hm
                · exact absurd hd q
                · exact ih hm
              · simp [tC]
          exact key _ hc he
      obtain⟨v,v1,v2,v3⟩:=hok.2 j hj
      have hj0:j=0:=by omega
      have hc1:c.length=1:=by have:=hok.1;omega
      subst hj0
      rw [hc1] at v3
      have:rd c ((0:Nat):Int)=(fn p v:Int):=v3
      rw [e] at this v2
      have hvi:v=i:=by omega
      subst hvi
      rw [(h.2.1.fn hi).1]
      exact this
    refine Ev.step (fun k=>by rw [impl_PermFrom.l0]) ?_
    have hlst:(pTxt p).toList = [40,41]:=by rw [hpt];exact toList_nil rfl
    refine Ev.neg (by rw [hlst];decide) ?_
    rw [hlst,show(([40,41]:List UInt8) != ([40,41]:List UInt8))=false from rfl]
    exact done _ hid _
  · have hpt:pTxt p=⟨(txP p).toArray⟩:=by unfold pTxt;rw [if_neg he]
    have hdata:(pTxt p).data.toList=txP p:=by rw [hpt]
    have hne:((pTxt p).toList != ([40,41]:List UInt8))=true:=by
      rw [toList_nil hdata]
      have key : ∀ cs:List (List Int),(∀ c ∈ cs,Lo c)→(tP cs != ([40,41]:List UInt8))=true:=by
        intro cs
        induction cs with
        | nil=>intro _;rfl
        | cons c cs ih =>
          intro hlo
          simp only [tP]
          split
          · exact ih (fun d hd=>hlo d (by simp [hd]))
          · rename_i hcl
            cases c with
            | nil=>simp at hcl
            | cons v c =>
              obtain⟨d1,d2,d3,d4⟩:=dB_of (hlo (v :: c) (by simp) v (by simp))
              cases hd:dB v with
              | nil=>rw [hd] at d2;simp at d2
              | cons b bs =>
                have hb:=d3 b (by rw [hd];simp)
                have:b≠41:=fun e=>by subst e;simp at hb
                simp [tC,jC,hd,this]
      exact key _ (cyP_lo h)
    have key : ∀ cs:List (List Int),(∀ c ∈ cs,CycOk p.length (fn p) c∧Lo c∧c.length≤12) → ∀ (S:Nat→Prop) (x:List Int) (rest:ByteArray),rest.data.toList=tP cs→rest.size≤48→Part p S x →
        (∀ i,i<p.length→S i ∨ ∃ c ∈ cs,Holds c (i:Int))→Ev (fun k=>impl_PermFrom.l0 k (p.length:Int) (pTxt p) x rest) (p,true):=by
      intro cs
      induction cs with
      | nil =>
        intro _ S x rest hr hrs hx hcov
        refine Ev.step (fun k=>by rw [impl_PermFrom.l0]) (Ev.pos (show rest.toList = [] from toList_nil hr) ?_)
        exact done x (hx.full (fun i hi=>by
          rcases hcov i hi with q|⟨c,hc,_⟩
          · exact q
          · simp at hc)) rest
      | cons c cs ih =>
        intro hcs S x rest hr hrs hx hcov
        obtain⟨hok,hlo,hl12⟩:=hcs c (by simp)
        have hcs' : ∀ d ∈ cs,CycOk p.length (fn p) d∧Lo d∧d.length≤12:=fun d hd=>hcs d (by simp [hd])
        have hcov' : ∀ i,i<p.length→(S i∨Holds c (i:Int)) ∨ ∃ d ∈ cs,Holds d (i:Int):=fun i hi=>by
          rcases hcov i hi with q|⟨d,hd,q⟩
          · exact .inl (.inl q)
          · rcases List.mem_cons.1 hd with rfl|hd
            · exact .inl (.inr q)
            · exact .inr ⟨d,hd,q⟩
        simp only [tP] at hr
        by_cases hcl:c.length<2
        · rw [if_pos hcl] at hr
          refine ih hcs' (fun i=>S i∨Holds c (i:Int)) x rest hr hrs ⟨hx.1,fun i hi=>⟨fun q => ?_,fun q=>(hx.2 i hi).2 (fun w=>q (.inl w))⟩⟩ hcov'
          by_cases hS:S i
          · exact(hx.2 i hi).1 hS
          · rcases q with q|⟨j,hj,e⟩
            · exact absurd q hS
            · rw [(hx.2 i hi).2 hS]
              obtain⟨v,v1,v2,v3⟩:=hok.2 j hj
              have hj0:j=0:=by omega
              have hc1:c.length=1:=by have:=hok.1;omega
              subst hj0
              rw [hc1] at v3
              have v3':rd c ((0:Nat):Int)=(fn p v:Int):=v3
              rw [e] at v2 v3'
              have hvi:v=i:=by omega
              subst hvi
              rw [(h.2.1.fn hi).1]
              exact v3'
        · rw [if_neg hcl] at hr
          have hr':rest.data.toList=40 :: (jC c ++ 41 :: tP cs):=by rw [hr];simp [tC]
          have hmem : ∀ v ∈ c,v<(p.length:Int):=fun v hv=>by
            obtain⟨j,hj,e⟩:=List.getElem_of_mem hv
            obtain⟨u,u1,u2,_⟩:=hok.2 j hj
            rw [rd_nat _ _ hj,e] at u2
            omega
          have hin:strings_CutPrefix.f rest ⟨#[40]⟩=some (⟨(jC c ++ 41 :: tP cs).toArray⟩,true):=by
            unfold strings_CutPrefix.f
            rw [hr']
            have e1:Lib.hasPrefix (40 :: (jC c ++ 41 :: tP cs)) [40]=true:=by simp [Lib.hasPrefix]
            have e2:Lib.trimPrefix (40 :: (jC c ++ 41 :: tP cs)) [40]=jC c ++ 41 :: tP cs:=by simp [Lib.trimPrefix,Lib.hasPrefix]
            show some ((⟨(Lib.trimPrefix (40 :: (jC c ++ 41 :: tP cs)) [40]).toArray⟩:ByteArray),Lib.hasPrefix (40 :: (jC c ++ 41 :: tP cs)) [40])=_
            rw [e1,e2]
          have hzr:rest.size=(jC c).length+(tP cs).length+2:=by
            have:rest.data.toList.length=rest.size:=by rw [Array.length_toList];rfl
            rw [← this,hr'];simp;omega
          have hcut:strings_Cut.f ⟨(jC c ++ 41 :: tP cs).toArray⟩ ⟨#[41]⟩=some (⟨(jC c).toArray⟩,⟨(tP cs).toArray⟩,true):=by
            unfold strings_Cut.f
            have hz:(⟨(jC c ++ 41 :: tP cs).toArray⟩:ByteArray).size≤1000000:=by show(jC c ++ 41 :: tP cs).toArray.size≤1000000;simp;omega
            rw [if_pos ⟨rfl,hz⟩]
            show some ((⟨(Lib.cut (jC c ++ 41 :: tP cs) [41]).1.toArray⟩:ByteArray),(⟨(Lib.cut (jC c ++ 41 :: tP cs) [41]).2.1.toArray⟩:ByteArray),(Lib.cut (jC c ++ 41 :: tP cs) [41]).2.2)=_
            rw [cut_tC hlo]
          have hsp:strings_Split.f ⟨(jC c).toArray⟩ ⟨#[44]⟩=some (pieces c):=by
            unfold strings_Split.f
            have hz:(⟨(jC c).toArray⟩:ByteArray).size≤1000000:=by show(jC c).toArray.size≤1000000;simp;omega
            rw [if_pos ⟨rfl,hz⟩]
            refine congrArg some (xs_splitB_of 44 _ _ ?_)
            have:(⟨(jC c).toArray⟩:ByteArray).data.toList=jC c:=by simp
            rw [this,split_jC hlo (by omega)]
            simp [pieces]
          refine Ev.step (fun k=>by rw [impl_PermFrom.l0]) ?_
          refine Ev.neg (by rw [toList_nil hr'];simp) ?_
          rw [hne]
          refine Ev.step (fun k=>by rw [impl_PermFrom.j2]) (Ev.pos rfl ?_)
          refine Ev.bindc hin (Ev.bindc hcut ?_)
          refine Ev.pos rfl ?_
          refine Ev.step (fun k=>by rw [impl_PermFrom.j3]) (Ev.neg (by simp) ?_)
          refine Ev.bindc hsp ?_
          have hpl:(pieces c).length=c.length:=by simp [pieces]
          rw [hpl]
          have l1:=pf_l1 (n:=p.length) (s:=pTxt p) (more:=⟨(tP cs).toArray⟩) (r:=(p,true)) hlo hmem hl12 (x:=x)
            (pf_l2 (n:=p.length) (s:=pTxt p) (more:=⟨(tP cs).toArray⟩) (r:=(p,true)) hok h.2.1 hl12 (S:=S)
              (fun x' hx'=>ih hcs' _ x' _ (by simp) (by show(tP cs).toArray.size≤48;simp;omega) hx' hcov') _ 0 rfl (by omega) x (hx.congr (fun q hq=>⟨.inl,fun w=>w.elim id (fun⟨j,hj,_⟩=>absurd hj (by omega))⟩))) _ 0 rfl (by omega)
          exact l1
    refine key (cyP p) (fun c hc=>⟨cyP_ok h hc,cyP_lo h c hc,?_⟩) (fun _=>False) (idL p.length) (pTxt p) hdata (pTxt_size h) ⟨idL_length _,fun i hi=>⟨fun q=>q.elim,fun _=>rd_idL _ _ hi⟩⟩ (fun i hi => .inr (cycL_all hP hi))
    obtain⟨i,hi,e⟩:=List.getElem_of_mem (show c ∈ cycL p.length (fn p) from hc)
    have:=(cycL_face hP hi).1
    rw [rdL_nat _ _ hi,e] at this
    omega
/-! ### impl_Execute -/
theorem xe_lines (t:ByteArray) (l:List ByteArray) (h:Lib.split t.data.toList [10]=l.map (·.data.toList)):XE.linesOf t=l:=xs_splitB_of 10 t l h
theorem xe_words (t:ByteArray) (l:List ByteArray) (h:Lib.split t.data.toList [32]=l.map (·.data.toList)):XE.wordsOf t=l:=xs_splitB_of 32 t l h
theorem xe_nil (x:ByteArray):(⟨#[]⟩:ByteArray) ++ x=x:=by
  show ByteArray.empty ++ x=x
  simp
/-- A text of so many lines, each with its end. -/
theorem xe_split (ls:List ByteArray) (h : ∀ l ∈ ls,(10:UInt8) ∉ l.data.toList):Lib.split (ls.flatMap (fun l=>l.data.toList ++ [10])) [10]=ls.map (·.data.toList) ++ [[]]:=by
  induction ls with
  | nil=>exact xs_split_free 10 [] (by simp)
  | cons l ls ih =>
    have e:(l :: ls).flatMap (fun l=>l.data.toList ++ [10])=l.data.toList ++ 10 :: ls.flatMap (fun l=>l.data.toList ++ [10]):=by simp
    rw [e,xs_split_hit 10 _ _ (h l (by simp)),ih (fun m hm=>h m (by simp [hm]))]
    rfl
theorem xe_linesOf {t:ByteArray} {ls:List ByteArray} (h : ∀ l ∈ ls,(10:UInt8) ∉ l.data.toList) (ht:t.data.toList=ls.flatMap (fun l=>l.data.toList ++ [10])):(XE.linesOf t).dropLast=ls:=by
  have:XE.linesOf t=ls ++ [⟨#[]⟩]:=xe_lines t _ (by rw [ht,xe_split ls h];simp)
  rw [this,List.dropLast_concat]
theorem xe_step {F : Nat → List Int → List Int → List ByteArray → Option (ByteArray × List Int × List Int)} {l : ByteArray} {ls : List ByteArray} {T U T1 U1 : List Int} {o c : ByteArray} {r : List Int × List Int × ByteArray} {ws : List ByteArray} (hl : l.size ≤ 500) (hw : XE.wordsOf l = ws) (hF : Ev (fun k => F k T U ws) (c, T1, U1)) (hc : c.size ≤ 100000)
    (hr:Ev (fun k=>XE.go (F k) ls T1 U1 (o ++ (c ++ ⟨#[10]⟩))) r):Ev (fun k=>XE.go (F k) (l :: ls) T U o) r:=by
  refine Ev.congr (fun k=>by rw [XE.go]) ?_
  refine Ev.pos hl ?_
  rw [hw]
  exact Ev.bind hF (Ev.pos hc hr)
theorem xe_end {F:Nat→List Int→List Int→List ByteArray→Option (ByteArray×List Int×List Int)} {T U:List Int} {o:ByteArray} : Ev (fun k=>XE.go (F k) [] T U o) (T,U,o):=Ev.congr (fun k=>by rw [XE.go]) (Ev.const rfl)
theorem xe_word (l:ByteArray) (h:(32:UInt8) ∉ l.data.toList):XE.wordsOf l = [l]:=xe_words l [l] (by rw [xs_split_free 32 _ h];rfl)
/-! ### laws_digits -/
theorem digits_lo : ∀ n:Fin 10,(strOfNums [(wrap64 (48+(n.val:Int))) % 256]:ByteArray)=⟨(Lib.decDigits n.val).toArray⟩:=by decide +kernel
theorem digits_hi : ∀ n:Fin 100,10≤n.val→(strOfNums [(wrap64 (48+((n.val / 10:Nat):Int))) % 256] ++ strOfNums [(wrap64 (48+(Int.tmod (n.val:Int) 10))) % 256]:ByteArray)=⟨(Lib.decDigits n.val).toArray⟩:=by decide +kernel
theorem laws_digits_ev (n:Nat) (h:n<100):Ev (fun k=>laws_digits.f k (n:Int)) ⟨(Lib.decDigits n).toArray⟩:=by
  have z : ∀ x:Int,(strOfNums [x]).size=1:=fun x=>rfl
  have low : ∀ m:Nat,m<10→Ev (fun k=>laws_digits.f k (m:Int)) (strOfNums [(wrap64 (48+(m:Int))) % 256]):=fun m hm =>
    Ev.step (fun k=>by rw [laws_digits.f]) (Ev.pos (by omega) (Ev.const rfl))
  by_cases h0:n<10
  · exact Ev.to (low n h0) (digits_lo ⟨n,h0⟩)
  · refine Ev.step (fun k=>by rw [laws_digits.f]) (Ev.neg (by omega) ?_)
    have e:wrap64 (Int.tdiv (n:Int) 10)=((n / 10:Nat):Int):=by
      rw [show Int.tdiv (n:Int) 10=((n / 10:Nat):Int) from(Int.ofNat_tdiv _ _).symm,wrap64_id (by omega) (by omega)]
    rw [e]
    refine Ev.bind (low (n / 10) (by omega)) ?_
    refine Ev.bindc rfl ?_
    exact Ev.pos (by rw [z,z];omega) (Ev.const (congrArg some (digits_hi ⟨n,h⟩ (show 10≤n by omega))))
theorem endline_size : ∀ n:Fin 100,(⟨(Lib.decDigits n.val).toArray⟩:ByteArray).size≤2:=by decide +kernel
/-! ### laws_mapLine -/
theorem dec_size (n:Nat) (h:n<100):(⟨(Lib.decDigits n).toArray⟩:ByteArray).size≤2:=endline_size ⟨n,h⟩
/-- The line that sets a map, without its end. -/
noncomputable def lineM (t f:List Int):ByteArray:=((((⟨#[109,97,112,32]⟩:ByteArray) ++ ⟨(Lib.decDigits t.length).toArray⟩) ++ ⟨#[32]⟩) ++ pTxt t) ++ ⟨#[32]⟩ ++ pTxt f
theorem z1_ (b:UInt8):(⟨#[b]⟩:ByteArray).size=1:=rfl
theorem laws_mapLine_ev {t f:List Int} (ht:POK t) (hf:POK f):Ev (fun k=>laws_mapLine.f k t f) (lineM t f ++ ⟨#[10]⟩):=by
  have h12:=ht.1.2
  have d:=dec_size t.length (by omega)
  have s1:=pTxt_size ht
  have s2:=pTxt_size hf
  have z4:(⟨#[109,97,112,32]⟩:ByteArray).size=4:=rfl
  unfold laws_mapLine.f
  refine Ev.bind (laws_digits_ev t.length (by omega)) ?_
  refine Ev.pos (by omega) (Ev.pos (by rw [ByteArray.size_append,z4];omega) ?_)
  refine Ev.bind (impl_PermText_ev ht) ?_
  refine Ev.pos (by simp only [ByteArray.size_append,z4,z1_];omega) (Ev.pos (by simp only [ByteArray.size_append,z4,z1_];omega) ?_)
  refine Ev.bind (impl_PermText_ev hf) ?_
  refine Ev.pos (by simp only [ByteArray.size_append,z4,z1_];omega) (Ev.pos (by simp only [ByteArray.size_append,z4,z1_];omega) (Ev.const rfl))
theorem lineM_size {t f:List Int} (ht:POK t) (hf:POK f):(lineM t f).size≤110:=by
  have h12:=ht.1.2
  have d:=dec_size t.length (by omega)
  have s1:=pTxt_size ht
  have s2:=pTxt_size hf
  have z4:(⟨#[109,97,112,32]⟩:ByteArray).size=4:=rfl
  unfold lineM
  simp only [ByteArray.size_append,z4,z1_]
  omega
/-! ### laws_endLine -/
theorem laws_endLine_ev (n:Nat) (h:n<100):Ev (fun k=>laws_endLine.f k (n:Int)) ((⟨#[100,97,114,116,115,32]⟩ ++ ⟨(Lib.decDigits n).toArray⟩) ++ ⟨#[10]⟩):=by
  have hz:(⟨(Lib.decDigits n).toArray⟩:ByteArray).size≤2:=endline_size ⟨n,h⟩
  unfold laws_endLine.f
  refine Ev.bind (laws_digits_ev n h) ?_
  refine Ev.pos (by omega) (Ev.pos ?_ (Ev.const rfl))
  rw [ByteArray.size_append,show(⟨#[100,97,114,116,115,32]⟩:ByteArray).size=6 from rfl]
  omega
/-! ### spec_l6Open -/
theorem spec_l6Open_ex (l:List Int) (h:Bytes l) : ∃ m,spec_l6Open.f l=some (m,0)∧Bytes m∧m.length≤2000:=by
  unfold spec_l6Open.f
  by_cases h1:(l.length:Int)>2000
  · rw [if_pos h1,if_pos (by omega)]
    exact⟨_,rfl,h.take 2000,by simp;omega⟩
  · rw [if_neg h1]
    exact⟨_,rfl,h,by omega⟩
/-! ### spec_l6Rd_pick -/
theorem spec_l6Rd_pick_ex (l:List Int) (hb:Bytes l) (hn:l.length≤2000) (p a:Int) (hp0:0≤p) (hp1:p≤1099511627776) : ∃ x,Ev (fun k=>spec_l6Rd_pick.f k l p a) (x,p+1)∧0≤x∧(1≤a→x<a):=by
  have hw:wrap64 (p+1)=p+1:=wrap64_id (by omega) (by omega)
  have ht:Ev (fun k=>spec_l6Rd_pick.j0 k a true l (p+1)) (0,p+1):=by
    refine Ev.step (fun k=>by rw [spec_l6Rd_pick.j0]) ?_
    exact Ev.pos rfl (Ev.const rfl)
  by_cases ha:a<1
  · refine⟨0,?_,Int.le_refl _,fun h=>by omega⟩
    unfold spec_l6Rd_pick.f
    rw [hw]
    exact Ev.pos ha ht
  · by_cases hl:(l.length:Int)=0
    · refine⟨0,?_,Int.le_refl _,fun h=>by omega⟩
      unfold spec_l6Rd_pick.f
      rw [hw]
      refine Ev.neg ha ?_
      rw [show((l.length:Int) == 0)=true from beq_iff_eq.2 hl]
      exact ht
    · have hw2:wrap64 (p+1 - 1)=p:=by rw [wrap64_id (by omega) (by omega)];omega
      by_cases hlt:p<l.length
      · obtain⟨b0,b1⟩:=hb.at p hp0 hlt
        have hx:=tmod_bd (rd l p) a b0 (by omega)
        refine⟨Int.tmod (rd l p) a,?_,hx.1,fun _=>hx.2⟩
        unfold spec_l6Rd_pick.f
        rw [hw,show((l.length:Int) == 0)=false from beq_eq_false_iff_ne.2 hl]
        refine Ev.neg ha ?_
        refine Ev.step (fun k=>by rw [spec_l6Rd_pick.j0]) ?_
        rw [hw2,wrap64_id (x:=rd l p) (by omega) (by omega)]
        refine Ev.neg (by simp) ?_
        refine Ev.pos hlt ?_
        refine Ev.pos hp0 ?_
        refine Ev.neg (by omega) ?_
        exact Ev.const rfl
      · obtain⟨m0,m1⟩:=tmod_bd p (l.length:Int) hp0 (by omega)
        have e1:wrap64 (p*7)=p*7:=wrap64_id (by omega) (by omega)
        have e2:wrap64 (p*7+3)=p*7+3:=wrap64_id (by omega) (by omega)
        obtain⟨n0,n1⟩:=tmod_bd (p*7+3) (l.length:Int) (by omega) (by omega)
        have d0:0≤Int.tdiv p (l.length:Int):=Int.tdiv_nonneg hp0 (by omega)
        have d1:Int.tdiv p (l.length:Int)≤p:=by
          rw [Int.tdiv_eq_ediv_of_nonneg hp0];exact Int.ediv_le_self _ hp0
        obtain⟨b0,b1⟩:=hb.at _ m0 m1
        obtain⟨c0,c1⟩:=hb.at _ n0 n1
        suffices hs : ∃ x,Ev (fun k=>spec_l6Rd_pick.j0 k a false l (p+1)) (x,p+1)∧0≤x∧(1≤a→x<a) by
          obtain⟨x,h1,h2⟩:=hs
          refine⟨x,?_,h2⟩
          unfold spec_l6Rd_pick.f
          rw [hw,show((l.length:Int) == 0)=false from beq_eq_false_iff_ne.2 hl]
          exact Ev.neg ha h1
        have hun : ∀ r,(∃ x,Ev (fun _:Nat=>r) (x,p+1)∧0≤x∧(1≤a→x<a)) →
            (∀ k,spec_l6Rd_pick.j0 (k+1) a false l (p+1)=r) → ∃ x,Ev (fun k=>spec_l6Rd_pick.j0 k a false l (p+1)) (x,p+1)∧0≤x∧(1≤a→x<a):=by
          rintro r ⟨x,h1,h2⟩ h3
          exact⟨x,Ev.step h3 h1,h2⟩
        refine hun _ ?_ (fun k=>by
          rw [spec_l6Rd_pick.j0,if_neg (by simp),hw2,if_neg hlt,if_neg hl,if_pos m0,if_pos m1,e1,e2,if_pos n0,if_pos n1,if_neg (by omega)])
        generalize rd l (Int.tmod p (l.length:Int))=u at *
        generalize rd l (Int.tmod (p*7+3) (l.length:Int))=v at *
        generalize Int.tdiv p (l.length:Int)=w at *
        rw [wrap64_id (x:=u) (by omega) (by omega),wrap64_id (x:=v) (by omega) (by omega),wrap64_id (x:=w) (by omega) (by omega),
          wrap64_id (x:=u*131) (by omega) (by omega),wrap64_id (x:=v*1117) (by omega) (by omega),wrap64_id (x:=p*29) (by omega) (by omega),wrap64_id (x:=w*53) (by omega) (by omega),
          wrap64_id (x:=u*131+v*1117) (by omega) (by omega),wrap64_id (x:=u*131+v*1117+p*29) (by omega) (by omega),wrap64_id (x:=u*131+v*1117+p*29+w*53) (by omega) (by omega)]
        have hX0:0≤u*131+v*1117+p*29+w*53:=by omega
        have hX1:u*131+v*1117+p*29+w*53<4611686018427387904:=by omega
        generalize u*131+v*1117+p*29+w*53=X at *
        have hq:Int.tdiv X 64=X / 64:=Int.tdiv_eq_ediv_of_nonneg hX0
        rw [hq,wrap64_id (x:=X / 64) (by omega) (by omega)]
        have hxor:=xor_nonneg X (X / 64) hX0 (by omega) hX1 (by omega)
        obtain⟨r0,r1⟩:=tmod_bd _ a hxor (by omega)
        exact⟨_,Ev.const rfl,r0,fun _=>r1⟩
/-! ### spec_l1Same -/
theorem spec_l1Same_ev (n:Nat) (hn:n≤4194304):Ev (fun k=>spec_l1Same.f k (n:Nat)) (idL n):=by
  have key : ∀ d i,n - i=d→i≤n→Ev (fun k=>spec_l1Same.l0 k (n:Nat) (idL i) (i:Nat)) (idL n):=by
    intro d
    induction d with
    | zero =>
      intro i hd hi
      obtain rfl:i=n:=by omega
      refine Ev.step (fun k=>by rw [spec_l1Same.l0]) ?_
      exact Ev.neg (by omega) (Ev.const rfl)
    | succ d ih =>
      intro i hd hi
      refine Ev.step (fun k=>by rw [spec_l1Same.l0]) (Ev.pos (by omega) (Ev.pos (by rw [idL_length];omega) ?_))
      rw [wrap64_id (by omega) (by omega)]
      have:=ih (i+1) (by omega) (by omega)
      rw [show idL (i+1)=idL i ++ [(i:Int)] by simp [idL,List.range_succ]] at this
      exact this
  unfold spec_l1Same.f
  exact key n 0 (by omega) (by omega)
/-! ### spec_l1Orbits -/
theorem spec_l1Orbits_step {n : Nat} {a b o : List Int} (ha : Pts n a) (hb : Pts n b) (h : OrbPre n a b o) {i : Nat} (hi : i < n) (x : Int)
    (hx:x=mn (rd o (i:Int)) (mn (rd o (fn a i:Int)) (rd o (fn b i:Int)))) :
    OrbPre n a b (((o.set i x).set (fn a i) x).set (fn b i) x) ∧
    (∀ q,q<n→rd (((o.set i x).set (fn a i) x).set (fn b i) x) (q:Int)≤rd o (q:Int)) ∧
    (∀ q,(q=i∨q=fn a i∨q=fn b i)→rd (((o.set i x).set (fn a i) x).set (fn b i) x) (q:Int)=x):=by
  have fa:=(ha.fn hi).2
  have fb:=(hb.fn hi).2
  have hl:=h.1
  have gi:=h.2 i hi
  have ga:=h.2 _ fa
  have gb:=h.2 _ fb
  have hx1:x≤rd o (i:Int)∧x≤rd o (fn a i:Int)∧x≤rd o (fn b i:Int):=by rw [hx];unfold mn;omega
  have hcx:Con n a b i x.toNat:=by
    have:x=rd o (i:Int)∨x=rd o (fn a i:Int)∨x=rd o (fn b i:Int):=by rw [hx];unfold mn;omega
    rcases this with e|e|e
    · rw [e];exact gi.2.2
    · rw [e];exact(Con.fa hi).trans ga.2.2
    · rw [e];exact(Con.fb hi).trans gb.2.2
  have h0:0≤x:=by rw [hx];unfold mn;omega
  have p1:=h.put hi x h0 (by omega) hcx
  have p2:=p1.put fa x h0 (by omega) ((Con.fa hi).symm.trans hcx)
  have p3:=p2.put fb x h0 (by omega) ((Con.fb hi).symm.trans hcx)
  have hval : ∀ q,q<n→rd (((o.set i x).set (fn a i) x).set (fn b i) x) (q:Int)=if q=i∨q=fn a i∨q=fn b i then x else rd o (q:Int):=by
    intro q hq
    by_cases e1:fn b i=q
    · subst e1;rw [rd_set_self _ _ _ (by simp;omega),if_pos (.inr (.inr rfl))]
    · rw [rd_set_ne _ _ _ _ e1]
      by_cases e2:fn a i=q
      · subst e2;rw [rd_set_self _ _ _ (by simp;omega),if_pos (.inr (.inl rfl))]
      · rw [rd_set_ne _ _ _ _ e2]
        by_cases e3:i=q
        · subst e3;rw [rd_set_self _ _ _ (by omega),if_pos (.inl rfl)]
        · rw [rd_set_ne _ _ _ _ e3,if_neg (by omega)]
  refine⟨p3,fun q hq => ?_,fun q hq => ?_⟩
  · rw [hval q hq]
    split
    · rename_i e
      rcases e with rfl|rfl|rfl <;> omega
    · exact Int.le_refl _
  · have hqn:q<n:=by rcases hq with rfl|rfl|rfl <;> omega
    rw [hval q hqn,if_pos hq]
theorem spec_l1Orbits_ev (n:Nat) (hn:n≤4194304) (a b:List Int) (ha:Pts n a) (hb:Pts n b):Ev (fun k=>spec_l1Orbits.f k a b) (orbL a b):=by
  have la:=ha.1
  have lb:=hb.1
  have inner : ∀ d i,n - i=d→i≤n → ∀ (o0 o:List Int) (t:Nat),OrbPre n a b o0→OrbPre n a b o→(∀ q,q<n→rd o (q:Int)≤rd o0 (q:Int)) →
      (∀ q,q<i→(rd o (fn a q:Int)≤rd o0 (q:Int)∧rd o (q:Int)≤rd o0 (fn a q:Int))∧(rd o (fn b q:Int)≤rd o0 (q:Int)∧rd o (q:Int)≤rd o0 (fn b q:Int))) →
      (∀ o',OrbPre n a b o'→Rounded n a b o0 o'→Ev (fun k=>spec_l1Orbits.l0 k a b o' ((t:Int)+1)) (orbL a b))→t≤4194304 →
      Ev (fun k=>spec_l1Orbits.l1 k a b o (t:Nat) (i:Nat)) (orbL a b):=by
    intro d
    induction d with
    | zero =>
      intro i hd hi o0 o t h0 h hle hq hout ht
      obtain rfl:i=n:=by omega
      refine Ev.step (fun k=>by rw [spec_l1Orbits.l1]) ?_
      refine Ev.neg (by omega) ?_
      rw [wrap64_id (by omega) (by omega)]
      exact hout o h ⟨hle,hq⟩
    | succ d ih =>
      intro i hd hi o0 o t h0 h hle hq hout ht
      have hi':i<n:=by omega
      have ea:=ha.fn hi'
      have eb:=hb.fn hi'
      have lo:=h.1
      refine Ev.step (fun k=>by rw [spec_l1Orbits.l1]) ?_
      rw [ea.1,eb.1,wrap64_id (x:=(i:Int)+1) (by omega) (by omega)]
      simp only [toNat_nat]
      refine Ev.pos (by omega) (Ev.pos (by omega) (Ev.pos (by omega) (Ev.pos (by omega) (Ev.pos (by omega) (Ev.pos (by omega) (Ev.pos (by omega) (Ev.pos (by omega) ?_)))))))
      obtain⟨s1,s2,s3⟩:=spec_l1Orbits_step ha hb h hi' _ rfl
      have hx : ∀ q,(q=i∨q=fn a i∨q=fn b i)→mn (rd o (i:Int)) (mn (rd o (fn a i:Int)) (rd o (fn b i:Int)))≤rd o (q:Int):=by
        intro q hq;rcases hq with rfl|rfl|rfl <;> (unfold mn;omega)
      refine ih (i+1) (by omega) (by omega) o0 _ t h0 s1 (fun q hq=>Int.le_trans (s2 q hq) (hle q hq)) (fun q hqi => ?_) hout ht
      by_cases e:q=i
      · subst e
        have l1:=hle q hi'
        have l2:=hle _ ea.2
        have l3:=hle _ eb.2
        have x1:=hx q (.inl rfl)
        have x2:=hx _ (.inr (.inl rfl))
        have x3:=hx _ (.inr (.inr rfl))
        rw [s3 q (.inl rfl),s3 _ (.inr (.inl rfl)),s3 _ (.inr (.inr rfl))]
        omega
      · obtain⟨⟨q1,q2⟩,q3,q4⟩:=hq q (by omega)
        have m1:=s2 _ (ha.fn (show q<n by omega)).2
        have m2:=s2 _ (hb.fn (show q<n by omega)).2
        have m3:=s2 q (by omega)
        omega
  have outer : ∀ d t,n - t=d→t≤n → ∀ o:List Int,OrbPre n a b o→(t≤cntP (okB n a b o) n)→Ev (fun k=>spec_l1Orbits.l0 k a b o (t:Nat)) (orbL a b):=by
    intro d
    induction d with
    | zero =>
      intro t hd ht o h hc
      obtain rfl:t=n:=by omega
      refine Ev.step (fun k=>by rw [spec_l1Orbits.l0]) ?_
      refine Ev.neg (by omega) (Ev.const ?_)
      rw [settled ha hb h (by have:=cntP_le (okB t a b o) t;omega)]
    | succ d ih =>
      intro t hd ht o h hc
      refine Ev.step (fun k=>by rw [spec_l1Orbits.l0]) ?_
      refine Ev.pos (by omega) ?_
      refine inner n 0 (by omega) (by omega) o o t h h (fun q _=>Int.le_refl _) (fun q hq=>by omega) (fun o' h' hr => ?_) (by omega)
      have:=ih (t+1) (by omega) (by omega) o' h' ?_
      · exact this
      · rcases round_more ha hb h h' hr with e|e
        · have hm:cntP (okB n a b o) n≤cntP (okB n a b o') n:=by
            refine cntP_mono _ _ n (fun i hi hk => ?_)
            unfold okB at *
            have h1:=of_decide_eq_true hk
            have h2:=hr.1 i hi
            have h3:=h'.low_le hi
            exact decide_eq_true (by omega)
          omega
        · omega
  unfold spec_l1Orbits.f
  rw [la]
  refine Ev.bind (spec_l1Same_ev n hn) ?_
  exact outer n 0 (by omega) (by omega) _ (OrbPre.start n a b) (by omega)
/-! ### spec_l6In -/
theorem spec_l6In_eq (a b c:Int):spec_l6In.f a b c=some (decide (b≤a∧a≤c)):=by
  unfold spec_l6In.f
  by_cases h:a≥b
  · rw [if_pos h]
    congr 1
    rw [decide_eq_decide]
    omega
  · rw [if_neg h,decide_eq_false (by omega)]
/-! ### spec_PermValid -/
theorem spec_PermValid_ev (p:List Int) (hl:p.length≤1048576):Ev (fun k=>spec_PermValid.f k p) (dec (POK p)):=by
  have key : ∀ d i,p.length - i=d→i≤p.length→(∀ a,a<i→0≤rd p (a:Int)∧rd p (a:Int)<p.length)→(∀ a b,a<i→b<a→rd p (b:Int)≠rd p (a:Int))→Ev (fun k=>spec_PermValid.l0 k p (i:Nat)) (dec (POK p)):=by
    intro d
    induction d with
    | zero =>
      intro i hd hi h1 h2
      obtain rfl:i=p.length:=by omega
      have hp:PermL p.length p:=⟨⟨rfl,h1⟩,fun i j hi hj e=>by
        have e1:=h1 i hi
        have e2:=h1 j hj
        unfold fn at e
        rcases Nat.lt_trichotomy i j with q|q|q
        · exact absurd (by omega) (h2 j i hj q)
        · exact q
        · exact absurd (by omega) (h2 i j hi q)⟩
      refine Ev.step (fun k=>by rw [spec_PermValid.l0]) ?_
      refine Ev.neg (by omega) (Ev.bindc (spec_l6In_eq _ _ _) (Ev.const ?_))
      congr 1
      exact dec_of ⟨fun q=>⟨by omega,hp⟩,fun q=>by have:=q.1;omega⟩
    | succ d ih =>
      intro i hd hi h1 h2
      have hi':i<p.length:=by omega
      have inner : ∀ e j,i - j=e→j≤i→(0≤rd p (i:Int)∧rd p (i:Int)<p.length)→(∀ b,b<j→rd p (b:Int)≠rd p (i:Int))→Ev (fun k=>spec_PermValid.l1 k p (i:Nat) (j:Nat)) (dec (POK p)):=by
        intro e
        induction e with
        | zero =>
          intro j he hj hr hb
          obtain rfl:j=i:=by omega
          refine Ev.step (fun k=>by rw [spec_PermValid.l1]) ?_
          refine Ev.neg (by omega) ?_
          rw [wrap64_id (x:=(j:Int)+1) (by omega) (by omega)]
          refine ih (j+1) (by omega) (by omega) (fun a ha => ?_) (fun a b ha hba => ?_)
          · by_cases q:a=j
            · subst q;exact hr
            · exact h1 a (by omega)
          · by_cases q:a=j
            · subst q;exact hb b hba
            · exact h2 a b (by omega) hba
        | succ e ihe =>
          intro j he hj hr hb
          refine Ev.step (fun k=>by rw [spec_PermValid.l1]) ?_
          rw [wrap64_id (x:=(j:Int)+1) (by omega) (by omega)]
          refine Ev.pos (by omega) (Ev.pos (by omega) (Ev.pos (by omega) (Ev.pos (by omega) (Ev.pos (by omega) ?_))))
          refine Ev.ite (fun q => ?_) (fun q => ?_)
          · rw [dec_f]
            · exact Ev.const rfl
            · intro w
              have:=w.2.2 j i (by omega) hi' (by unfold fn;rw [q])
              omega
          · refine ihe (j+1) (by omega) (by omega) hr (fun b hbj => ?_)
            by_cases z:b=j
            · subst z;exact q
            · exact hb b (by omega)
      refine Ev.step (fun k=>by rw [spec_PermValid.l0]) ?_
      rw [wrap64_id (x:=(p.length:Int) - 1) (by omega) (by omega)]
      refine Ev.pos (by omega) (Ev.pos (by omega) (Ev.bindc (spec_l6In_eq _ _ _) ?_))
      refine Ev.ite (fun q => ?_) (fun q => ?_)
      · have q':=of_decide_eq_true q
        exact inner i 0 (by omega) (by omega) ⟨by omega,by omega⟩ (fun b hb=>by omega)
      · rw [dec_f]
        · exact Ev.const rfl
        · intro w
          have:=w.2.1.2 i hi'
          exact q (decide_eq_true ⟨by omega,by omega⟩)
  unfold spec_PermValid.f
  exact key p.length 0 (by omega) (by omega) (fun a ha=>by omega) (fun a b ha=>by omega)
/-! ### spec_l1Both -/
theorem spec_l1Both_ev (a b:List Int) (ha:a.length≤1048576) (hb:b.length≤1048576):Ev (fun k=>spec_l1Both.f k a b) (dec (POK a∧POK b∧a.length=b.length)):=by
  unfold spec_l1Both.f
  refine Ev.bind (spec_PermValid_ev a ha) ?_
  refine Ev.ite (fun h1 => ?_) (fun h1 => ?_)
  · refine Ev.bind (spec_PermValid_ev b hb) ?_
    refine Ev.ite (fun h2=>Ev.const ?_) (fun h2 => ?_)
    · congr 1
      have a1:=dec_iff.1 h1
      have a2:=dec_iff.1 h2
      by_cases e:a.length=b.length
      · rw [dec_t ⟨a1,a2,e⟩,e];exact beq_self_eq_true _
      · rw [dec_f (fun w=>e w.2.2)];exact beq_eq_false_iff_ne.2 (by omega)
    · rw [dec_f (fun w=>h2 (dec_t w.2.1))];exact Ev.const rfl
  · rw [dec_f (fun w=>h1 (dec_t w.1))];exact Ev.const rfl
/-! ### spec_MapValid -/
theorem spec_MapValid_ev (t f:List Int) (ht:t.length≤1048576) (hf:f.length≤1048576):Ev (fun k=>spec_MapValid.f k t f) (dec (MOK t f)):=by
  unfold spec_MapValid.f
  refine Ev.bind (spec_l1Both_ev t f ht hf) ?_
  refine Ev.ite (fun h1 => ?_) (fun h1 => ?_)
  · obtain⟨a1,a2,hl⟩:=dec_iff.1 h1
    have ft:=a2.2.1
    have tt:=a1.2.1
    rw [hl] at tt
    have hz:=a1.1
    have ho:=(orbL_isOrb tt ft)
    have hol:=ho.1.1
    have last:(∀ q,q<f.length→fn f q≠q∧fn f (fn f q)=q) → ∀ d i,f.length - i=d→i≤f.length→(∀ q,q<i→rd (orbL t f) (q:Int)=0)→Ev (fun k=>spec_MapValid.l1 k (orbL t f) (i:Nat)) (dec (MOK t f)):=by
      intro hq d
      induction d with
      | zero =>
        intro i hd hi h0
        refine Ev.step (fun k=>by rw [spec_MapValid.l1]) ?_
        refine Ev.neg (by omega) ?_
        rw [dec_t]
        · exact Ev.const rfl
        · exact⟨a1,a2,hl,hq,fun i hi=>h0 i (by omega)⟩
      | succ d ih =>
        intro i hd hi h0
        refine Ev.step (fun k=>by rw [spec_MapValid.l1]) ?_
        rw [wrap64_id (x:=(i:Int)+1) (by omega) (by omega)]
        refine Ev.pos (by omega) (Ev.pos (by omega) (Ev.ite (fun q => ?_) (fun q => ?_)))
        · refine ih (i+1) (by omega) (by omega) (fun z hz => ?_)
          by_cases e:z=i
          · subst e;exact q
          · exact h0 z (by omega)
        · rw [dec_f (fun w=>q (w.2.2.2.2 i (by omega)))];exact Ev.const rfl
    have key : ∀ d i,f.length - i=d→i≤f.length→(∀ q,q<i→fn f q≠q∧fn f (fn f q)=q)→Ev (fun k=>spec_MapValid.l0 k (i:Nat) t f) (dec (MOK t f)):=by
      intro d
      induction d with
      | zero =>
        intro i hd hi hq
        obtain rfl:i=f.length:=by omega
        refine Ev.step (fun k=>by rw [spec_MapValid.l0]) ?_
        refine Ev.neg (by omega) ?_
        refine Ev.bind (spec_l1Orbits_ev f.length (by omega) t f tt ft) ?_
        exact last hq f.length 0 (by omega) (by omega) (fun q hq=>by omega)
      | succ d ih =>
        intro i hd hi hq
        have hi':i<f.length:=by omega
        have e1:=ft.fn hi'
        have e2:=ft.fn e1.2
        refine Ev.step (fun k=>by rw [spec_MapValid.l0]) ?_
        rw [e1.1,e2.1,wrap64_id (x:=(i:Int)+1) (by omega) (by omega)]
        refine Ev.pos (by omega) (Ev.pos (by omega) ?_)
        refine Ev.ite (fun n1 => ?_) (fun n1 => ?_)
        · rw [dec_f (fun w=>(w.2.2.2.1 i hi').1 (by omega))];exact Ev.const rfl
        refine Ev.pos (by omega) (Ev.pos (by omega) ?_)
        refine Ev.ite (fun n2 => ?_) (fun n2 => ?_)
        · refine ih (i+1) (by omega) (by omega) (fun q hqi => ?_)
          by_cases e:q=i
          · subst e;exact⟨by omega,by omega⟩
          · exact hq q (by omega)
        · rw [dec_f (fun w=>n2 (by have:=(w.2.2.2.1 i hi').2;omega))];exact Ev.const rfl
    exact key f.length 0 (by omega) (by omega) (fun q hq=>by omega)
  · rw [dec_f (fun w=>h1 (dec_t ⟨w.1,w.2.1,w.2.2.1⟩))];exact Ev.const rfl
/-! ### spec_l91Perm -/
/-- What the draw of a permutation has made after i points. -/
def PermPre (i:Nat) (x:List Int):Prop:=x.length=i∧(∀ a:Nat,a<i→0≤rd x (a:Int)∧rd x (a:Int)<i) ∧ ∀ a b:Nat,a<i→b<i→rd x (a:Int)=rd x (b:Int)→a=b
theorem PermPre.perm {n:Nat} {x:List Int} (h:PermPre n x):PermL n x:=⟨⟨h.1,h.2.1⟩,fun i j hi hj e=>by
  have h1:=h.2.1 i hi
  have h2:=h.2.1 j hj
  unfold fn at e
  exact h.2.2 i j hi hj (by omega)⟩
theorem rd_snoc_lt (x:List Int) (v:Int) (a:Nat) (h:a<x.length):rd (x ++ [v]) (a:Int)=rd x (a:Int):=by
  rw [rd_nat _ _ (by rw [List.length_append];omega),rd_nat _ _ h,List.getElem_append_left h]
theorem rd_snoc_eq (x:List Int) (v:Int):rd (x ++ [v]) (x.length:Int)=v:=by
  rw [rd_nat _ _ (by simp)];simp
theorem PermPre.last {i:Nat} {x:List Int} (h:PermPre i x):PermPre (i+1) (x ++ [(i:Int)]):=by
  obtain⟨h1,h2,h3⟩:=h
  have hi:rd (x ++ [(i:Int)]) (i:Int)=(i:Int):=by have:=rd_snoc_eq x (i:Int);rwa [h1] at this
  have hlt : ∀ a:Nat,a<i→rd (x ++ [(i:Int)]) (a:Int)=rd x (a:Int):=fun a ha=>rd_snoc_lt x _ a (by omega)
  refine⟨by simp [h1],fun a ha => ?_,fun a b ha hb e => ?_⟩
  · by_cases q:a=i
    · subst q;rw [hi];omega
    · rw [hlt a (by omega)];have:=h2 a (by omega);omega
  · by_cases q:a=i
    · by_cases q':b=i
      · omega
      · subst q;rw [hi,hlt b (by omega)] at e;have:=h2 b (by omega);omega
    · by_cases q':b=i
      · subst q';rw [hi,hlt a (by omega)] at e;have:=h2 a (by omega);omega
      · rw [hlt a (by omega),hlt b (by omega)] at e
        exact h3 a b (by omega) (by omega) e
theorem PermPre.swap {i k:Nat} {x:List Int} (h:PermPre i x) (hk:k<i):PermPre (i+1) ((x ++ [rd x (k:Int)]).set k (i:Int)):=by
  obtain⟨h1,h2,h3⟩:=h
  have hl:(x ++ [rd x (k:Int)]).length=i+1:=by simp [h1]
  have e1:rd ((x ++ [rd x (k:Int)]).set k (i:Int)) (k:Int)=(i:Int):=rd_set_self _ _ _ (by omega)
  have e2:rd ((x ++ [rd x (k:Int)]).set k (i:Int)) (i:Int)=rd x (k:Int):=by
    rw [rd_set_ne _ _ _ _ (by omega)]
    have:=rd_snoc_eq x (rd x (k:Int));rwa [h1] at this
  have e3 : ∀ a:Nat,a<i→a≠k→rd ((x ++ [rd x (k:Int)]).set k (i:Int)) (a:Int)=rd x (a:Int):=fun a ha hne=>by
    rw [rd_set_ne _ _ _ _ (Ne.symm hne),rd_snoc_lt x _ a (by omega)]
  have vk:=h2 k hk
  refine⟨by simp [h1],fun a ha => ?_,fun a b ha hb e => ?_⟩
  · by_cases q:a=k
    · subst q;rw [e1];omega
    · by_cases q':a=i
      · subst q';rw [e2];omega
      · rw [e3 a (by omega) q];have:=h2 a (by omega);omega
  · have val : ∀ a:Nat,a<i+1→(a=k∧rd ((x ++ [rd x (k:Int)]).set k (i:Int)) (a:Int)=(i:Int))∨(a=i∧rd ((x ++ [rd x (k:Int)]).set k (i:Int)) (a:Int)=rd x (k:Int))∨(a<i∧a≠k∧rd ((x ++ [rd x (k:Int)]).set k (i:Int)) (a:Int)=rd x (a:Int)):=by
      intro a ha
      by_cases q:a=k
      · left;exact⟨q,by rw [q];exact e1⟩
      · by_cases q':a=i
        · right;left;exact⟨q',by rw [q'];exact e2⟩
        · right;right;exact⟨by omega,q,e3 a (by omega) q⟩
    rcases val a ha with⟨p1,p2⟩|⟨p1,p2⟩|⟨p1,p3,p2⟩ <;> rcases val b hb with⟨q1,q2⟩|⟨q1,q2⟩|⟨q1,q3,q2⟩
    · omega
    · rw [p2,q2] at e;omega
    · rw [p2,q2] at e;have:=h2 b q1;omega
    · rw [p2,q2] at e;omega
    · omega
    · rw [p2,q2] at e;exact absurd (h3 k b hk q1 e).symm q3
    · rw [p2,q2] at e;have:=h2 a p1;omega
    · rw [p2,q2] at e;exact absurd (h3 a k p1 hk e) p3
    · rw [p2,q2] at e;exact h3 a b p1 q1 e
theorem spec_l91Perm_ex (l:List Int) (hb:Bytes l) (hn:l.length≤2000) (p:Int) (n:Nat) (hN:n≤100) (hp0:0≤p) (hp1:p≤1000000) : ∃ x q,Ev (fun k=>spec_l91Perm.f k l p (n:Nat)) (x,q)∧PermL n x∧p≤q∧q≤p+100:=by
  have key : ∀ d i:Nat,n - i=d→i≤n → ∀ x:List Int,PermPre i x → ∀ q:Int,p≤q→q≤p+i → ∃ x' q',Ev (fun k=>spec_l91Perm.l0 k (n:Nat) x (i:Nat) l q) (x',q')∧PermL n x'∧p≤q'∧q'≤p+100:=by
    intro d
    induction d with
    | zero =>
      intro i hd hi x hx q hq hq'
      obtain rfl:i=n:=by omega
      refine⟨x,q,?_,hx.perm,hq,by omega⟩
      refine Ev.step (fun k=>by rw [spec_l91Perm.l0]) ?_
      exact Ev.neg (by omega) (Ev.const rfl)
    | succ d ih =>
      intro i hd hi x hx q hq hq'
      have hl:=hx.1
      obtain⟨y,y1,y2,y3⟩:=spec_l6Rd_pick_ex l hb hn q ((i:Int)+1) (by omega) (by omega)
      have y3:=y3 (by omega)
      obtain⟨k,rfl⟩ : ∃ k:Nat,y=(k:Int):=⟨y.toNat,by omega⟩
      by_cases e:k=i
      · subst e
        obtain⟨x',q',r1,r2,r3,r4⟩:=ih (k+1) (by omega) (by omega) _ hx.last (q+1) (by omega) (by omega)
        refine⟨x',q',?_,r2,r3,r4⟩
        refine Ev.step (fun k=>by rw [spec_l91Perm.l0]) ?_
        rw [wrap64_id (x:=(k:Int)+1) (by omega) (by omega)]
        refine Ev.pos (by omega) (Ev.bind y1 (Ev.pos rfl (Ev.pos (by omega) ?_)))
        exact r1
      · obtain⟨x',q',r1,r2,r3,r4⟩:=ih (i+1) (by omega) (by omega) _ (hx.swap (k:=k) (by omega)) (q+1) (by omega) (by omega)
        refine⟨x',q',?_,r2,r3,r4⟩
        refine Ev.step (fun k=>by rw [spec_l91Perm.l0]) ?_
        rw [wrap64_id (x:=(i:Int)+1) (by omega) (by omega)]
        refine Ev.pos (by omega) (Ev.bind y1 (Ev.neg (by show ¬ ((k:Int)=(i:Int));omega) (Ev.pos (by omega) (Ev.pos (by show(k:Int)<(x.length:Int);omega) (Ev.pos (by omega) (Ev.bindc rfl (Ev.pos (by show(k:Int)<((x ++ [rd x (k:Int)]).length:Int);simp;omega) ?_)))))))
        exact r1
  unfold spec_l91Perm.f
  obtain⟨x,q,r1,r2,r3,r4⟩:=key n 0 (by omega) (by omega) [] ⟨rfl,fun a ha=>by omega,fun a b ha=>by omega⟩ p (by omega) (by omega)
  exact⟨x,q,r1,r2,r3,r4⟩
/-! ### spec_l91Map -/
theorem set_swap_perm {n:Nat} {t:List Int} (ht:PermL n t) {a b:Nat} (ha:a<n) (hb:b<n):PermL n ((t.set a (rd t (b:Int))).set b (rd t (a:Int))):=by
  have hl:=ht.1.1
  have val : ∀ i:Nat,i<n→fn ((t.set a (rd t (b:Int))).set b (rd t (a:Int))) i=(if i=b then fn t a else if i=a then fn t b else fn t i):=by
    intro i hi
    unfold fn
    by_cases e:i=b
    · subst e;rw [if_pos rfl,rd_set_self _ _ _ (by simp;omega)]
    · rw [if_neg e,rd_set_ne _ _ _ _ (Ne.symm e)]
      by_cases e2:i=a
      · subst e2;rw [if_pos rfl,rd_set_self _ _ _ (by omega)]
      · rw [if_neg e2,rd_set_ne _ _ _ _ (Ne.symm e2)]
  have rng : ∀ i:Nat,i<n→0≤rd ((t.set a (rd t (b:Int))).set b (rd t (a:Int))) (i:Int)∧rd ((t.set a (rd t (b:Int))).set b (rd t (a:Int))) (i:Int)<n:=by
    intro i hi
    by_cases e:i=b
    · subst e;rw [rd_set_self _ _ _ (by simp;omega)];exact ht.1.2 a ha
    · rw [rd_set_ne _ _ _ _ (Ne.symm e)]
      by_cases e2:i=a
      · subst e2;rw [rd_set_self _ _ _ (by omega)];exact ht.1.2 b hb
      · rw [rd_set_ne _ _ _ _ (Ne.symm e2)];exact ht.1.2 i hi
  refine⟨⟨by simp [hl],rng⟩,fun i j hi hj e => ?_⟩
  have alt : ∀ i:Nat,i<n → ∃ s:Nat,s<n∧fn ((t.set a (rd t (b:Int))).set b (rd t (a:Int))) i=fn t s∧((i=b∧s=a)∨(i≠b∧i=a∧s=b)∨(i≠b∧i≠a∧s=i)):=by
    intro i hi
    rw [val i hi]
    by_cases e:i=b
    · exact⟨a,ha,by rw [if_pos e],.inl ⟨e,rfl⟩⟩
    · by_cases e2:i=a
      · exact⟨b,hb,by rw [if_neg e,if_pos e2],.inr (.inl ⟨e,e2,rfl⟩)⟩
      · exact⟨i,hi,by rw [if_neg e,if_neg e2],.inr (.inr ⟨e,e2,rfl⟩)⟩
  obtain⟨s,s1,s2,s3⟩:=alt i hi
  obtain⟨u,u1,u2,u3⟩:=alt j hj
  rw [s2,u2] at e
  have:=ht.2 s u s1 u1 e
  omega
theorem spec_l91Map_l2 {n : Nat} (hn0 : 1 ≤ n) (hn : n ≤ 100) {t f : List Int} (ht : PermL n t) (x5 x10 : Int) (l : List Int) (p : Int) (r : List Int × List Int × Int)
    (hr : ∀ t',PermL n t'→Ev (fun k=>spec_l91Map.l1 k x5 (wrap64 (x10+1)) l p t' f) r) (o:List Int) (ho:o.length=n) (z:Nat) (hz:z<n) (hne:rd o (z:Int)≠0) :
    ∀ d i,z - i=d→i≤z→Ev (fun k=>spec_l91Map.l2 k x5 x10 o (i:Nat) l p t f) r:=by
  have go : ∀ i:Nat,i<n→rd o (i:Int)≠0→Ev (fun k=>spec_l91Map.l2 k x5 x10 o (i:Nat) l p t f) r:=by
    intro i hi hne
    have hl:=ht.1.1
    refine Ev.step (fun k=>by rw [spec_l91Map.l2]) ?_
    refine Ev.pos (by omega) (Ev.pos (by omega) (Ev.neg hne (Ev.pos (by omega) (Ev.pos (by omega) ?_))))
    exact hr _ (set_swap_perm ht (a:=0) (b:=i) (by omega) hi)
  intro d
  induction d with
  | zero =>
    intro i hd hi
    obtain rfl:i=z:=by omega
    exact go i hz hne
  | succ d ih =>
    intro i hd hi
    by_cases e:rd o (i:Int)=0
    · refine Ev.step (fun k=>by rw [spec_l91Map.l2]) ?_
      rw [wrap64_id (x:=(i:Int)+1) (by omega) (by omega)]
      refine Ev.pos (by omega) (Ev.pos (by omega) (Ev.pos e ?_))
      exact ih (i+1) (by omega) (by omega)
    · exact go i (by omega) e
/-- A map that is drawn: two lists of at most so many numbers. -/
theorem spec_l91Map_ex (l:List Int) (hb:Bytes l) (hn:l.length≤2000) (p:Int) (m:Nat) (hm0:1≤m) (hm:m≤6) (hp0:0≤p) (hp1:p≤100000) : ∃ t f q,Ev (fun k=>spec_l91Map.f k l p (m:Nat)) (t,f,q)∧t.length≤12∧f.length≤12∧p≤q∧q≤p+300:=by
  obtain⟨x,x1,x2,x3⟩:=spec_l6Rd_pick_ex l hb hn p (m:Nat) (by omega) (by omega)
  have x3:=x3 (by omega)
  obtain⟨c,rfl⟩ : ∃ c:Nat,x=(c:Int):=⟨x.toNat,by omega⟩
  obtain⟨n,hnn⟩ : ∃ n:Nat,n=2*(1+c):=⟨_,rfl⟩
  have hw:wrap64 (2*wrap64 (1+(c:Int)))=(n:Int):=by rw [wrap64_id (x:=1+(c:Int)) (by omega) (by omega),wrap64_id (by omega) (by omega)];omega
  obtain⟨a,qa,a1,a2,a3,a4⟩:=spec_l91Perm_ex l hb hn (p+1) n (by omega) (by omega) (by omega)
  have last : ∀ (t f:List Int) (i:Int) (q:Int),t.length=n→f.length=n→p≤q→q≤p+250 → ∃ t' f' q',Ev (fun k=>spec_l91Map.j2 k (n:Nat) i false l q t f) (t',f',q')∧t'.length≤12∧f'.length≤12∧p≤q'∧q'≤p+300:=by
    intro t f i q ht hf hq hq'
    obtain⟨y,y1,y2,y3⟩:=spec_l6Rd_pick_ex l hb hn q 50 (by omega) (by omega)
    by_cases e0:y=0
    · refine⟨t,f.set (0:Int).toNat 0,q+1,?_,by omega,by simp;omega,by omega,by omega⟩
      refine Ev.step (fun k=>by rw [spec_l91Map.j2]) ?_
      exact Ev.neg (by simp) (Ev.bind y1 (Ev.pos e0 (Ev.pos (by omega) (Ev.const rfl))))
    · by_cases e1:y=1
      · refine⟨t.drop (1:Int).toNat,f,q+1,?_,by simp;omega,by omega,by omega,by omega⟩
        refine Ev.step (fun k=>by rw [spec_l91Map.j2]) ?_
        exact Ev.neg (by simp) (Ev.bind y1 (Ev.neg e0 (Ev.pos e1 (Ev.pos (by omega) (Ev.const rfl)))))
      · by_cases e2:y=2
        · refine⟨t.set (0:Int).toNat (n:Nat),f,q+1,?_,by simp;omega,by omega,by omega,by omega⟩
          refine Ev.step (fun k=>by rw [spec_l91Map.j2]) ?_
          exact Ev.neg (by simp) (Ev.bind y1 (Ev.neg e0 (Ev.neg e1 (Ev.pos e2 (Ev.pos (by omega) (Ev.const rfl))))))
        · refine⟨t,f,q+1,?_,by omega,by omega,by omega,by omega⟩
          refine Ev.step (fun k=>by rw [spec_l91Map.j2]) ?_
          exact Ev.neg (by simp) (Ev.bind y1 (Ev.neg e0 (Ev.neg e1 (Ev.neg e2 (Ev.const rfl)))))
  have loop : ∀ (f:List Int),PairL n f → ∀ d i:Nat,n - i=d→i≤n → ∀ t,PermL n t → ∀ q,p≤q→q≤p+250 → ∃ t' f' q',Ev (fun k=>spec_l91Map.l1 k (n:Nat) (i:Nat) l q t f) (t',f',q')∧t'.length≤12∧f'.length≤12∧p≤q'∧q'≤p+300:=by
    intro f hf d
    induction d with
    | zero =>
      intro i hd hi t ht q hq hq'
      obtain⟨t',f',q',r1,r2⟩:=last t f (i:Nat) q ht.1.1 hf.pts.1 hq hq'
      refine⟨t',f',q',?_,r2⟩
      refine Ev.step (fun k=>by rw [spec_l91Map.l1]) ?_
      exact Ev.neg (by omega) r1
    | succ d ih =>
      intro i hd hi t ht q hq hq'
      have tl:=ht.1.1
      have fl:=hf.pts.1
      have hv:=spec_MapValid_ev t f (by omega) (by omega)
      by_cases hM:MOK t f
      · obtain⟨t',f',q',r1,r2⟩:=last t f (i:Nat) q tl fl hq hq'
        refine⟨t',f',q',?_,r2⟩
        rw [dec_t hM] at hv
        refine Ev.step (fun k=>by rw [spec_l91Map.l1]) ?_
        exact Ev.pos (by omega) (Ev.bind hv r1)
      · rw [dec_f hM] at hv
        -- some point is not joined to the first one
        obtain⟨z,hz,hne⟩ : ∃ z,z<n∧rd (orbL t f) (z:Int)≠0:=by
          refine Classical.byContradiction fun hno=>hM ?_
          have fp:PermL n f:=⟨hf.pts,fun a b ha hb e=>by rw [← hf.inv a ha,e,hf.inv b hb]⟩
          refine⟨⟨by omega,by rw [tl];exact ht⟩,⟨by omega,by rw [fl];exact fp⟩,by omega,fun a ha=>⟨hf.ne a (by omega),hf.inv a (by omega)⟩,fun a ha=>Classical.byContradiction fun w=>hno ⟨a,by omega,w⟩⟩
        have each : ∀ t':List Int,PermL n t' → ∃ r,Ev (fun k=>spec_l91Map.l1 k (n:Nat) (wrap64 (((i:Nat):Int)+1)) l q t' f) r∧(r.1.length≤12∧r.2.1.length≤12∧p≤r.2.2∧r.2.2≤p+300):=by
          intro t' ht'
          obtain⟨t2,f2,q2,r1,r2⟩:=ih (i+1) (by omega) (by omega) t' ht' q hq hq'
          rw [wrap64_id (x:=(i:Int)+1) (by omega) (by omega)]
          exact⟨(t2,f2,q2),r1,r2⟩
        -- the first such point
        obtain⟨y,⟨hy,hyne⟩,hmin⟩:=least_of (fun y=>y<n∧rd (orbL t f) (y:Int)≠0) z ⟨hz,hne⟩
        obtain⟨r,r1,r2⟩:=each _ (set_swap_perm ht (a:=0) (b:=y) (by omega) hy)
        refine⟨r.1,r.2.1,r.2.2,?_,r2⟩
        refine Ev.step (fun k=>by rw [spec_l91Map.l1]) ?_
        refine Ev.pos (by omega) (Ev.bind hv ?_)
        refine Ev.step (fun k=>by rw [spec_l91Map.j2]) ?_
        refine Ev.pos rfl (Ev.bind (spec_l1Orbits_ev n (by omega) t f ht.1 hf.pts) ?_)
        have hol:(orbL t f).length=n:=by rw [orbL_length,tl]
        have walk : ∀ d i',y - i'=d→i'≤y→Ev (fun k=>spec_l91Map.l2 k (n:Nat) (i:Nat) (orbL t f) (i':Nat) l q t f) r:=by
          intro d'
          induction d' with
          | zero =>
            intro i' hd' hi'
            obtain rfl:i'=y:=by omega
            refine Ev.step (fun k=>by rw [spec_l91Map.l2]) ?_
            refine Ev.pos (by omega) (Ev.pos (by omega) (Ev.neg hyne (Ev.pos (by omega) (Ev.pos (by omega) ?_))))
            exact r1
          | succ d' ih' =>
            intro i' hd' hi'
            have e:rd (orbL t f) (i':Int)=0:=Classical.byContradiction fun w=>by have:=hmin i' ⟨by omega,w⟩;omega
            refine Ev.step (fun k=>by rw [spec_l91Map.l2]) ?_
            rw [wrap64_id (x:=(i':Int)+1) (by omega) (by omega)]
            exact Ev.pos (by omega) (Ev.pos (by omega) (Ev.pos e (ih' (i'+1) (by omega) (by omega))))
        exact walk y 0 (by omega) (by omega)
  -- the pairs
  have pairs : ∀ d i:Nat,c+1 - i=d→i≤c+1 → ∀ f:List Int,f.length=n→(∀ j:Nat,j<2*i→rd f (fn a j:Int)=(fn a (if j % 2=0 then j+1 else j - 1):Int)) →
      ∃ t' f' q',Ev (fun k=>spec_l91Map.l0 k (n:Nat) a f ((2*i:Nat):Int) l qa) (t',f',q')∧t'.length≤12∧f'.length≤12∧p≤q'∧q'≤p+300:=by
    intro d
    induction d with
    | zero =>
      intro i hd hi f hf hq
      have hap:=a2.perm
      have hF:PairL n f:=by
        have at_ : ∀ j,j<n→rd f (fn a j:Int)=(fn a (if j % 2=0 then j+1 else j - 1):Int)∧(if j % 2=0 then j+1 else j - 1)<n∧(if j % 2=0 then j+1 else j - 1)≠j:=fun j hj=>⟨hq j (by omega),by split <;> omega,by split <;> omega⟩
        have pre : ∀ x,x<n → ∃ j,j<n∧x=fn a j:=fun x hx=>⟨bck n (fn a) x,hap.gl x hx,(hap.fg x hx).symm⟩
        have fnv : ∀ j,j<n→fn f (fn a j)=fn a (if j % 2=0 then j+1 else j - 1):=fun j hj=>by unfold fn;rw [show rd f ((rd a (j:Int)).toNat:Int)=_ from(at_ j hj).1];rfl
        refine⟨⟨hf,fun x hx => ?_⟩,fun x hx => ?_,fun x hx => ?_⟩
        · obtain⟨j,hj,rfl⟩:=pre x hx
          obtain⟨h1,h2,h3⟩:=at_ j hj
          rw [h1]
          have:=hap.fl _ h2;omega
        · obtain⟨j,hj,rfl⟩:=pre x hx
          obtain⟨h1,h2,h3⟩:=at_ j hj
          rw [fnv j hj]
          exact fun w=>h3 (a2.2 _ _ h2 hj w)
        · obtain⟨j,hj,rfl⟩:=pre x hx
          obtain⟨h1,h2,h3⟩:=at_ j hj
          rw [fnv j hj,fnv _ h2]
          congr 1
          split <;> (split <;> omega)
      obtain⟨t0,q0,s1,s2,s3,s4⟩:=spec_l91Perm_ex l hb hn qa n (by omega) (by omega) (by omega)
      obtain⟨t',f',q',r1,r2⟩:=loop f hF n 0 (by omega) (by omega) t0 s2 q0 (by omega) (by omega)
      refine⟨t',f',q',?_,r2⟩
      refine Ev.step (fun k=>by rw [spec_l91Map.l0]) ?_
      rw [wrap64_id (x:=((2*i:Nat):Int)+1) (by omega) (by omega)]
      exact Ev.neg (by omega) (Ev.bind s1 r1)
    | succ d ih =>
      intro i hd hi f hf hq
      have e1:=a2.1.fn (show 2*i<n by omega)
      have e2:=a2.1.fn (show 2*i+1<n by omega)
      have al:=a2.1.1
      have hne:fn a (2*i)≠fn a (2*i+1):=fun w=>by have:=a2.2 _ _ (by omega) (by omega) w;omega
      obtain⟨t',f',q',r1,r2⟩:=ih (i+1) (by omega) (by omega) ((f.set (fn a (2*i)) (fn a (2*i+1):Int)).set (fn a (2*i+1)) (fn a (2*i):Int)) (by simp [hf]) (fun j hj=>by
        by_cases z1:j=2*i+1
        · rw [z1,if_neg (by omega),show 2*i+1 - 1=2*i by omega]
          exact rd_set_self _ _ _ (by simp [hf];omega)
        · by_cases z2:j=2*i
          · rw [z2,if_pos (by omega),rd_set_ne _ _ _ _ (Ne.symm hne)]
            exact rd_set_self _ _ _ (by omega)
          · have n1:fn a (2*i+1)≠fn a j:=fun w=>by have:=a2.2 _ _ (by omega) (by omega) w;omega
            have n2:fn a (2*i)≠fn a j:=fun w=>by have:=a2.2 _ _ (by omega) (by omega) w;omega
            rw [rd_set_ne _ _ _ _ n1,rd_set_ne _ _ _ _ n2]
            exact hq j (by omega))
      refine⟨t',f',q',?_,r2⟩
      refine Ev.step (fun k=>by rw [spec_l91Map.l0]) ?_
      rw [wrap64_id (x:=((2*i:Nat):Int)+1) (by omega) (by omega),wrap64_id (x:=((2*i:Nat):Int)+2) (by omega) (by omega),show((2*i:Nat):Int)+1=((2*i+1:Nat):Int) by omega,e1.1,e2.1]
      simp only [toNat_nat]
      refine Ev.pos (by omega) (Ev.pos (by omega) (Ev.pos (by omega) (Ev.pos (by omega) (Ev.pos (by omega) (Ev.pos (by omega) (Ev.pos (by omega) (Ev.pos (by omega) (Ev.pos (by omega) ?_))))))))
      rw [show((2*i:Nat):Int)+2=((2*(i+1):Nat):Int) by omega]
      exact r1
  obtain⟨t',f',q',r1,r2⟩:=pairs (c+1) 0 (by omega) (by omega) (List.replicate n 0) (by simp) (fun j hj=>by omega)
  refine⟨t',f',q',?_,r2⟩
  unfold spec_l91Map.f
  refine Ev.bind x1 ?_
  rw [hw]
  refine Ev.bind a1 (Ev.pos (by omega) (Ev.pos (by omega) ?_))
  exact r1
/-! ### spec_DrawRibbonValue -/
theorem spec_DrawRibbonValue_ex (l:List Int) (hb:Bytes l) : ∃ t f x y z,Ev (fun n=>spec_DrawRibbonValue.f n l) (t,f,x,y,z)∧t.length≤12∧f.length≤12:=by
  obtain⟨m,h1,h2,h3⟩:=spec_l6Open_ex l hb
  obtain⟨t,f,q,r1,r2,r3,r4,r5⟩:=spec_l91Map_ex m h2 h3 0 4 (by omega) (by omega) (by omega) (by omega)
  obtain⟨a,a1,_⟩:=spec_l6Rd_pick_ex m h2 h3 q 4 (by omega) (by omega)
  obtain⟨b,b1,_⟩:=spec_l6Rd_pick_ex m h2 h3 (q+1) 20 (by omega) (by omega)
  obtain⟨c,c1,_⟩:=spec_l6Rd_pick_ex m h2 h3 (q+1+1) 4 (by omega) (by omega)
  obtain⟨d,d1,_⟩:=spec_l6Rd_pick_ex m h2 h3 (q+1+1+1) 20 (by omega) (by omega)
  obtain⟨e,e1,_⟩:=spec_l6Rd_pick_ex m h2 h3 (q+1+1+1+1) 4 (by omega) (by omega)
  refine⟨t,f,wrap64 (a+wrap64 (wrap64 (Int.tdiv b 19)*4)),wrap64 (c - wrap64 (wrap64 (Int.tdiv d 19)*4)),e,?_,r2,r3⟩
  unfold spec_DrawRibbonValue.f
  exact Ev.bindc h1 (Ev.bind r1 (Ev.bind a1 (Ev.bind b1 (Ev.bind c1 (Ev.bind d1 (Ev.bind e1 (Ev.const rfl)))))))
/-! ### spec_l2Copy -/
theorem spec_l2Copy_eq (l:List Int) (h:l.length≤1048576):spec_l2Copy.f l=some l:=by
  unfold spec_l2Copy.f
  simp only [Option.bind_some,List.length_nil,List.nil_append]
  exact if_pos (by omega)
/-! ### spec_l7All -/
/-- All choices of edges below m, by bits. -/
def allL (m:Nat):List (List Int):=(List.range (2 ^ m)).map (bitsL m)
theorem allL_length (m:Nat):(allL m).length=2 ^ m:=by simp [allL]
theorem allL_at (m i:Nat) (h:i<2 ^ m):rdL (allL m) (i:Int)=bitsL m i:=by
  unfold rdL allL
  simp [List.getD_eq_getElem?_getD,h]
theorem bits_low (m i:Nat) (h:i<2 ^ m):bitsL (m+1) i=bitsL m i:=bitsL_neg (Nat.testBit_lt_two_pow h)
theorem bits_high (m i:Nat) (h:i<2 ^ m):bitsL (m+1) (2 ^ m+i)=bitsL m i ++ [(m:Int)]:=by
  rw [bitsL_pos (by rw [Nat.testBit_two_pow_add_eq,Nat.testBit_lt_two_pow h];rfl)]
  congr 1
  unfold bitsL
  congr 1
  refine List.filter_congr (fun e he => ?_)
  rw [Nat.testBit_two_pow_add_gt (List.mem_range.1 he)]
def allP (m i:Nat):List (List Int):=allL m ++ (List.range i).map (fun q=>bitsL m q ++ [(m:Int)])
theorem allP_none (m:Nat):allP m 0=allL m:=by simp [allP]
theorem allP_more (m i:Nat):allP m (i+1)=allP m i ++ [bitsL m i ++ [(m:Int)]]:=by
  unfold allP;rw [List.range_succ,List.map_append,List.append_assoc];rfl
theorem allP_all (m:Nat):allP m (2 ^ m)=allL (m+1):=by
  unfold allP allL
  rw [show 2 ^ (m+1)=2 ^ m+2 ^ m by omega,List.range_add,List.map_append,List.map_map]
  congr 1
  · exact List.map_congr_left (fun i hi=>(bits_low m i (List.mem_range.1 hi)).symm)
  · exact List.map_congr_left (fun i hi=>(bits_high m i (List.mem_range.1 hi)).symm)
theorem allP_length (m i:Nat):(allP m i).length=2 ^ m+i:=by unfold allP;rw [List.length_append,allL_length];simp
theorem allP_at (m i q:Nat) (h:q<2 ^ m):rdL (allP m i) (q:Int)=bitsL m q:=by
  rw [← allL_at m q h]
  unfold rdL allP
  simp only [List.getD_eq_getElem?_getD,Int.toNat_natCast]
  rw [List.getElem?_append_left (by rw [allL_length];exact h)]
theorem spec_l7All_ev (m:Nat) (hm:m≤6):Ev (fun k=>spec_l7All.f k (m:Int)) (allL m):=by
  have eL : ∀ (xs:List (List Int)) (i:Int),rd_L1 xs i=rdL xs i:=fun _ _=>rfl
  have key : ∀ d e,m - e=d→e≤m→Ev (fun k=>spec_l7All.l0 k (m:Int) (allL e) (e:Int)) (allL m):=by
    intro d
    induction d with
    | zero =>
      intro e hd he
      obtain rfl:e=m:=by omega
      exact Ev.step (fun k=>by rw [spec_l7All.l0]) (Ev.neg (by omega) (Ev.const rfl))
    | succ d ih =>
      intro e hd he
      have nx:=ih (e+1) (by omega) (by omega)
      have h64:2 ^ e≤64:=Nat.pow_le_pow_right (n:=2) (by omega) (show e≤6 by omega)
      have hall:=allP_all e
      have hat:=allP_at e
      have hlen:=allP_length e
      have hll:=allL_length e
      generalize hM:2 ^ e=M at *
      have inner : ∀ b i,M - i=b→i≤M→Ev (fun k=>spec_l7All.l1 k (m:Int) (allP e i) (e:Int) (M:Int) (i:Int)) (allL m):=by
        intro b
        induction b with
        | zero =>
          intro i hb hi
          obtain rfl:i=M:=by omega
          rw [hall]
          refine Ev.step (fun k=>by rw [spec_l7All.l1]) (Ev.neg (by omega) ?_)
          rw [show wrap64 ((e:Int)+1)=((e+1:Nat):Int) from(wrap64_id (by omega) (by omega)).trans (by omega)]
          exact nx
        | succ b ih2 =>
          intro i hb hi
          have n2:=ih2 (i+1) (by omega) (by omega)
          rw [allP_more] at n2
          have hl:=bitsL_length e i
          refine Ev.step (fun k=>by rw [spec_l7All.l1]) ?_
          simp only [eL]
          rw [hat i i (by omega),hlen,show wrap64 ((i:Int)+1)=((i+1:Nat):Int) from(wrap64_id (by omega) (by omega)).trans (by omega)]
          exact Ev.pos (by omega) (Ev.pos (by omega) (Ev.pos (by omega) (Ev.bindc (spec_l2Copy_eq _ (by omega)) (Ev.pos (by omega) (Ev.pos (by omega) n2)))))
      have i0:=inner M 0 (by omega) (by omega)
      rw [allP_none] at i0
      refine Ev.step (fun k=>by rw [spec_l7All.l0]) (Ev.pos (by omega) ?_)
      rw [hll]
      exact i0
  exact key m 0 (by omega) (by omega)
/-! ### spec_l7Edges -/
theorem spec_l7Edges_ev (n:Nat) (hn:n≤4194304) (t f:List Int) (hf:PairL n f):Ev (fun k=>spec_l7Edges.f k t f) (edgL f):=by
  have hl:=hf.pts.1
  have key : ∀ d i,n - i=d→i≤n → ∀ x:List Int,x.length=n→(∀ j:Nat,j<n→(j<i∨fn f j<i)→rd x (j:Int)=edgeN f j)→Ev (fun k=>spec_l7Edges.l0 k x (cntP (lowD f) i:Nat) (i:Nat) t f) (edgL f):=by
    intro d
    induction d with
    | zero =>
      intro i hd hi x hx hq
      refine Ev.step (fun k=>by rw [spec_l7Edges.l0]) ?_
      refine Ev.neg (by omega) (Ev.const ?_)
      congr 1
      refine list_ext_rd (by rw [hx,edgL_length,hl]) (fun j hj => ?_)
      rw [hq j (by omega) (.inl (by omega)),rd_edgL f j (by omega)]
    | succ d ih =>
      intro i hd hi x hx hq
      have hi':i<n:=by omega
      have e1:=hf.pts.fn hi'
      have hc:=cntP_le (lowD f) i
      refine Ev.step (fun k=>by rw [spec_l7Edges.l0]) ?_
      rw [e1.1,wrap64_id (x:=(i:Int)+1) (by omega) (by omega),wrap64_id (x:=((cntP (lowD f) i:Nat):Int)+1) (by omega) (by omega)]
      simp only [toNat_nat]
      refine Ev.pos (by omega) (Ev.pos (by omega) (Ev.pos (by omega) ?_))
      refine Ev.ite (fun q => ?_) (fun q => ?_)
      · have hlow:lowD f i=true:=decide_eq_true (by omega)
        obtain⟨g1,g2⟩:=hf.edge_of hi' hlow
        refine Ev.pos (by omega) (Ev.pos (by omega) ?_)
        have:=ih (i+1) (by omega) (by omega) ((x.set i (cntP (lowD f) i:Int)).set (fn f i) (cntP (lowD f) i:Int)) (by simp [hx]) (fun j hj hjs=>by
          by_cases a:j=fn f i
          · subst a
            rw [rd_set_self _ _ _ (by simp [hx];omega),g2]
          · rw [rd_set_ne _ _ _ _ (fun w=>a w.symm)]
            by_cases b:j=i
            · subst b
              rw [rd_set_self _ _ _ (by omega),g1]
            · rw [rd_set_ne _ _ _ _ (fun w=>b w.symm)]
              refine hq j hj ?_
              rcases hjs with c|c
              · exact .inl (by omega)
              · refine .inr ?_
                by_cases z:fn f j=i
                · exact absurd (by rw [← hf.inv j hj,z]) a
                · omega)
        have ec:cntP (lowD f) (i+1)=cntP (lowD f) i+1:=by simp only [cntP];rw [if_pos hlow]
        rw [ec] at this
        exact this
      · have hlow:lowD f i=false:=decide_eq_false (by omega)
        have:=ih (i+1) (by omega) (by omega) x hx (fun j hj hjs=>by
          have hne:=hf.ne i hi'
          rcases hjs with c|c
          · by_cases z:j=i
            · subst z;exact hq j hj (.inr (by omega))
            · exact hq j hj (.inl (by omega))
          · by_cases z:fn f j=i
            · have:j=fn f i:=by rw [← hf.inv j hj,z]
              exact hq j hj (.inl (by omega))
            · exact hq j hj (.inr (by omega)))
        have ec:cntP (lowD f) (i+1)=cntP (lowD f) i:=by simp only [cntP];rw [if_neg (by rw [hlow];simp)];rfl
        rw [ec] at this
        exact this
  unfold spec_l7Edges.f
  rw [hl]
  refine Ev.pos (by omega) (Ev.pos (by omega) ?_)
  exact key n 0 (by omega) (by omega) _ (by simp) (fun j hj hjs=>by rcases hjs with c|c <;> omega)
/-! ### spec_l7Has -/
theorem spec_l7Has_ev (l:List Int) (d:Int) (hl:l.length≤12):Ev (fun k=>spec_l7Has.f k l d) (dec (Holds l d)):=by
  have key : ∀ e i,l.length - i=e→i≤l.length→(∀ q:Nat,q<i→rd l (q:Int)≠d)→Ev (fun k=>spec_l7Has.l0 k l d (i:Nat)) (dec (Holds l d)):=by
    intro e
    induction e with
    | zero =>
      intro i he hi hq
      obtain rfl:i=l.length:=by omega
      refine Ev.step (fun k=>by rw [spec_l7Has.l0]) ?_
      rw [dec_f (fun⟨j,hj,ej⟩=>hq j hj ej)]
      exact Ev.neg (by omega) (Ev.const rfl)
    | succ e ih =>
      intro i he hi hq
      have hi':i<l.length:=by omega
      refine Ev.step (fun k=>by rw [spec_l7Has.l0]) ?_
      rw [wrap64_id (x:=(i:Int)+1) (by omega) (by omega)]
      refine Ev.pos (by omega) (Ev.pos (by omega) (Ev.ite (fun q => ?_) (fun q => ?_)))
      · rw [dec_t ⟨i,hi',q⟩];exact Ev.const rfl
      · refine ih (i+1) (by omega) (by omega) (fun z hz => ?_)
        by_cases w:z=i
        · subst w;exact q
        · exact hq z (by omega)
  exact key l.length 0 (by omega) (by omega) (fun q hq=>by omega)
/-! ### spec_l7Parts -/
/-- The first m points as g says, the others where they are. -/
def mixL (n:Nat) (g:Nat→Nat) (m:Nat):List Int:=(List.range n).map (fun d=>if d<m then (g d:Int) else (d:Int))
theorem mixL_length (n:Nat) (g:Nat→Nat) (m:Nat):(mixL n g m).length=n:=by simp [mixL]
theorem mixL_none (n:Nat) (g:Nat→Nat):mixL n g 0=idL n:=by
  refine List.ext_getElem (by simp [mixL,idL]) (fun i h1 h2 => ?_)
  simp [mixL,idL]
theorem mixL_set (n:Nat) (g:Nat→Nat) (m:Nat):(mixL n g m).set m (g m:Int)=mixL n g (m+1):=by
  refine List.ext_getElem (by simp [mixL]) (fun i h1 h2 => ?_)
  rw [List.getElem_set]
  by_cases e:m=i
  · subst e;simp [mixL]
  · rw [if_neg e]
    simp only [mixL,List.getElem_map,List.getElem_range]
    by_cases a:i<m
    · rw [if_pos a,if_pos (by omega)]
    · rw [if_neg a,if_neg (by omega)]
theorem mixL_stay (n:Nat) (g:Nat→Nat) (m:Nat) (h:g m=m):mixL n g (m+1)=mixL n g m:=by
  refine List.ext_getElem (by simp [mixL]) (fun i h1 h2 => ?_)
  simp only [mixL,List.getElem_map,List.getElem_range]
  by_cases e:i=m
  · subst e;rw [if_pos (by omega),if_neg (by omega),h]
  · by_cases a:i<m
    · rw [if_pos a,if_pos (by omega)]
    · rw [if_neg a,if_neg (by omega)]
theorem mixL_all {n:Nat} {p:List Int} (hp:Pts n p):mixL n (fn p) n=p:=by
  refine list_ext_rd (by rw [mixL_length,hp.1]) (fun i hi => ?_)
  rw [mixL_length] at hi
  rw [rd_nat _ _ (by rw [mixL_length];exact hi),(hp.fn hi).1]
  simp [mixL,hi]
theorem spec_l7Parts_gen {t f:List Int} (h:MOK t f) (L:List Int) (hL:L.length≤12):Ev (fun k=>spec_l7Parts.f k t f L) (cntP (fun d=>decide (fn (orbL t (selF f L)) d=d)) t.length:Int):=by
  have hz:=h.size
  have hp:=h.pair
  have hfl:=hp.pts.1
  have hg:=selF_pts hp L
  have hO:=orbL_isOrb h.permT.1 hg
  have ho:=hO.1.1
  have two : ∀ d i,t.length - i=d→i≤t.length→Ev (fun k=>spec_l7Parts.l1 k (orbL t (selF f L)) (cntP (fun d=>decide (fn (orbL t (selF f L)) d=d)) i:Nat) (i:Nat)) (cntP (fun d=>decide (fn (orbL t (selF f L)) d=d)) t.length:Int):=by
    intro d
    induction d with
    | zero =>
      intro i hd hi
      obtain rfl:i=t.length:=by omega
      refine Ev.step (fun k=>by rw [spec_l7Parts.l1]) ?_
      exact Ev.neg (by omega) (Ev.const rfl)
    | succ d ih =>
      intro i hd hi
      have nx:=ih (i+1) (by omega) (by omega)
      have l3:=cntP_le (fun d=>decide (fn (orbL t (selF f L)) d=d)) i
      have e1:=hO.1.pts.fn (show i<t.length by omega)
      simp only [cntP] at nx
      refine Ev.step (fun k=>by rw [spec_l7Parts.l1]) ?_
      rw [wrap64_id (x:=(i:Int)+1) (by omega) (by omega),wrap64_id (x:=(cntP (fun d=>decide (fn (orbL t (selF f L)) d=d)) i:Int)+1) (by omega) (by omega)]
      refine Ev.pos (by omega) (Ev.pos (by omega) ?_)
      by_cases c:fn (orbL t (selF f L)) i=i
      · rw [if_pos (decide_eq_true c)] at nx
        exact Ev.pos (by omega) nx
      · rw [if_neg (by simpa using c)] at nx
        exact Ev.neg (by omega) nx
  have t0:=two t.length 0 (by omega) (by omega)
  have one : ∀ d i,t.length - i=d→i≤t.length→Ev (fun k=>spec_l7Parts.l0 k L (mixL t.length (fn (selF f L)) i) (edgL f) (i:Nat) t f) (cntP (fun d=>decide (fn (orbL t (selF f L)) d=d)) t.length:Int):=by
    intro d
    induction d with
    | zero =>
      intro i hd hi
      obtain rfl:i=t.length:=by omega
      refine Ev.step (fun k=>by rw [spec_l7Parts.l0]) ?_
      rw [mixL_length]
      refine Ev.neg (by omega) ?_
      rw [mixL_all hg]
      exact Ev.bind (spec_l1Orbits_ev t.length (by omega) t _ h.permT.1 hg) t0
    | succ d ih =>
      intro i hd hi
      have hi':i<t.length:=by omega
      have nx:=ih (i+1) (by omega) (by omega)
      have hh:=spec_l7Has_ev L (edgeN f i:Int) hL
      have fd:fn (selF f L) i=if dec (Holds L (edgeN f i:Int))=true then fn f i else i:=by
        show(rd _ (i:Int)).toNat=_
        rw [rd_selF _ _ (by omega)]
        split <;> rfl
      have e2:=hp.pts.fn hi'
      refine Ev.step (fun k=>by rw [spec_l7Parts.l0]) ?_
      rw [rd_edgL f i (by omega),wrap64_id (x:=(i:Int)+1) (by omega) (by omega),e2.1]
      simp only [mixL_length,edgL_length,toNat_nat]
      refine Ev.pos (by omega) (Ev.pos (by omega) (Ev.pos (by omega) (Ev.bind hh ?_)))
      by_cases c:dec (Holds L (edgeN f i:Int))=true
      · rw [if_pos c] at fd
        rw [← mixL_set,fd] at nx
        exact Ev.pos c (Ev.pos (by omega) nx)
      · rw [if_neg c] at fd
        rw [mixL_stay _ _ _ fd] at nx
        exact Ev.neg c nx
  have k0:=one t.length 0 (by omega) (by omega)
  rw [mixL_none] at k0
  unfold spec_l7Parts.f
  rw [hz.2.2]
  refine Ev.bind (spec_l1Same_ev t.length (by omega)) (Ev.bind (spec_l7Edges_ev t.length (by omega) t f hp) ?_)
  exact k0
theorem rest_sel {n:Nat} {f:List Int} (hf:PairL n f) {e:Nat} (he:e<n / 2):selF f (restL e (n / 2))=dropE f (ldart n f e):=by
  obtain⟨s1,s2,s3⟩:=ldart_spec hf he
  have hp:=pts_dropE hf s1
  have hl:=hf.pts.1
  refine list_ext_rd (by rw [selF_length,hp.1,hl]) (fun d hd => ?_)
  rw [selF_length] at hd
  have hd':d<n:=by omega
  have e2:=hf.pts.fn hd'
  rw [rd_selF _ _ hd,(hp.fn hd').1,fn_dropE hf s1 hd']
  by_cases q:d=ldart n f e∨d=fn f (ldart n f e)
  · rw [if_pos q,if_neg (by rw [dec_f (fun w=>(rest_drop hf he hd').1 w q)];decide)]
  · rw [if_neg q,if_pos (dec_t ((rest_drop hf he hd').2 q))]
theorem spec_l7Parts_ev {t f:List Int} (h:MOK t f) {e:Nat} (he:e<f.length / 2):Ev (fun k=>spec_l7Parts.f k t f (restL e (f.length / 2))) (partsN t f (ldart t.length f e):Int):=by
  have hz:=h.size
  have hr:=restL_length e (f.length / 2)
  have hp:=h.pair
  have k0:=spec_l7Parts_gen h (restL e (f.length / 2)) (by omega)
  rw [show f.length / 2=t.length / 2 by omega] at *
  rw [rest_sel hp (by omega)] at k0
  exact k0
/-! ### spec_l1Cycles -/
theorem spec_l1Cycles_l1 {n : Nat} (hn : n ≤ 4194304) {p : List Int} (hp : PermL n p) {i : Nat} (hi : i < n) (hl : lstB (EF n (fn p)) i = true) (out : List (List Int)) (hout : out.length ≤ i) (r : List (List Int))
    (hr : ∀ b,SeenAt n (fn p) (i+1) b→Ev (fun k=>spec_l1Cycles.l0 k p (out ++ [cycOf (fn p) i]) b (i+1:Nat)) r) :
    ∀ d t,per (fn p) i - t=d→t≤per (fn p) i → ∀ b,SeenIn n (fn p) i t b→Ev (fun k=>spec_l1Cycles.l1 k p out b (i:Nat) ((List.range t).map (fun k=>(itr (fn p) k i:Int))) (itr (fn p) t i:Int)) r:=by
  have hpm:=hp.perm
  obtain⟨q1,q2,q3,q4⟩:=per_spec hpm hi
  intro d
  induction d with
  | zero =>
    intro t hd ht b hb
    obtain rfl:t=per (fn p) i:=by omega
    obtain⟨c1,c2⟩:=hb.closed hpm hi
    have hlt:=itr_lt hpm hi (per (fn p) i)
    have hbl:=hb.1
    refine Ev.step (fun k=>by rw [spec_l1Cycles.l1]) ?_
    rw [wrap64_id (x:=(i:Int)+1) (by omega) (by omega)]
    refine Ev.pos (by omega) (Ev.pos (by omega) (Ev.pos c1 (Ev.pos (by omega) ?_)))
    exact hr b c2
  | succ d ih =>
    intro t hd ht b hb
    have hlt:=itr_lt hpm hi t
    have hf:=hb.fresh hpm hi hl (by omega)
    have hbl:=hb.1
    have hpl:=hp.1.1
    refine Ev.step (fun k=>by rw [spec_l1Cycles.l1]) ?_
    refine Ev.pos (by omega) (Ev.pos (by omega) (Ev.neg (by rw [hf];simp) (Ev.pos (by simp;omega) (Ev.pos (by omega) ?_))))
    rw [(hp.1.fn hlt).1,← cycOf_take]
    exact ih (t+1) (by omega) (by omega) _ (hb.next hpm hi)
theorem spec_l1Cycles_ev (n:Nat) (hn:n≤4194304) (p:List Int) (hp:PermL n p):Ev (fun k=>spec_l1Cycles.f k p) (cycL n (fn p)):=by
  have hpm:=hp.perm
  have hpl:=hp.1.1
  have key : ∀ d i,n - i=d→i≤n → ∀ b,SeenAt n (fn p) i b→Ev (fun k=>spec_l1Cycles.l0 k p (cycUp n (fn p) i) b (i:Nat)) (cycL n (fn p)):=by
    intro d
    induction d with
    | zero =>
      intro i hd hi b hb
      obtain rfl:i=n:=by omega
      refine Ev.step (fun k=>by rw [spec_l1Cycles.l0]) ?_
      exact Ev.neg (by omega) (Ev.const rfl)
    | succ d ih =>
      intro i hd hi b hb
      have hi':i<n:=by omega
      have hbl:=hb.1
      have hls:=hb.least hi'
      refine Ev.step (fun k=>by rw [spec_l1Cycles.l0]) ?_
      rw [wrap64_id (x:=(i:Int)+1) (by omega) (by omega)]
      refine Ev.pos (by omega) (Ev.pos (by omega) (Ev.pos (by omega) ?_))
      cases q:rdOf false b (i:Int) with
      | true =>
        rw [q] at hls
        refine Ev.pos rfl ?_
        have:=ih (i+1) (by omega) (by omega) b (hb.skip hi' q)
        rw [cycUp_neg hls] at this
        exact this
      | false =>
        rw [q] at hls
        refine Ev.neg (by simp) ?_
        refine spec_l1Cycles_l1 hn hp hi' hls (cycUp n (fn p) i) (cycUp_length_le _ _ _) _ (fun b' hb' => ?_) (per (fn p) i) 0 (by omega) (by omega) b hb.into
        have:=ih (i+1) (by omega) (by omega) b' hb'
        rw [cycUp_pos hls] at this
        exact this
  unfold spec_l1Cycles.f
  rw [hpl]
  refine Ev.pos (by omega) (Ev.pos (by omega) ?_)
  exact key n 0 (by omega) (by omega) _ (SeenAt.start n _)
/-! ### spec_l7Sides -/
theorem sd_l3 {t f:List Int} (h:MOK t f) (L:List Int) (hL:L.length≤12) (x6:List Int) (h6:x6.length=t.length) (x7:Int) {i:Nat} (hi:i<t.length) (r:Int) :
    ∀ j x,x<t.length→rdOf false (selB f L) (itr (fn t) j x:Int)=true →
      Ev (fun k=>spec_l7Sides.l2 k L (edgL f) (x6.set i (hitN t (selB f L) x:Int)) x7 ((i+1:Nat):Int) t f) r→Ev (fun k=>spec_l7Sides.l3 k L (edgL f) x6 x7 (i:Int) (x:Int) t f) r:=by
  have hz:=h.size
  have hp:=h.pair
  have hfl:=hp.pts.1
  have ht:=h.permT
  have w1:wrap64 ((i:Int)+1)=((i+1:Nat):Int):=(wrap64_id (by omega) (by omega)).trans (by omega)
  intro j
  induction j with
  | zero =>
    intro x hx hj hr
    have hv:=spec_l7Has_ev L (edgeN f x:Int) hL
    have hj':rdOf false (selB f L) (x:Int)=true:=hj
    have e:hitN t (selB f L) x=x:=by unfold hitN;rw [hitJ_eq (j:=0) hj' (fun q hq=>absurd hq (Nat.not_lt_zero q))];rfl
    rw [e] at hr
    rw [rd_selB _ _ (by omega)] at hj'
    refine Ev.step (fun k=>by rw [spec_l7Sides.l3]) ?_
    rw [rd_edgL f x (by omega),w1]
    simp only [edgL_length,toNat_nat]
    exact Ev.pos (by omega) (Ev.pos (by omega) (Ev.bind hv (Ev.pos hj' (Ev.pos (by omega) (Ev.pos (by omega) hr)))))
  | succ j ih =>
    intro x hx hj hr
    have hv:=spec_l7Has_ev L (edgeN f x:Int) hL
    have e1:=ht.1.fn hx
    cases q:rdOf false (selB f L) (x:Int) with
    | true =>
      have e:hitN t (selB f L) x=x:=by unfold hitN;rw [hitJ_eq (j:=0) q (fun q hq=>absurd hq (Nat.not_lt_zero q))];rfl
      rw [e] at hr
      rw [rd_selB _ _ (by omega)] at q
      refine Ev.step (fun k=>by rw [spec_l7Sides.l3]) ?_
      rw [rd_edgL f x (by omega),w1]
      simp only [edgL_length,toNat_nat]
      exact Ev.pos (by omega) (Ev.pos (by omega) (Ev.bind hv (Ev.pos q (Ev.pos (by omega) (Ev.pos (by omega) hr)))))
    | false =>
      have sh : ∀ i,itr (fn t) i (fn t x)=itr (fn t) (i+1) x:=fun i=>by rw [itr_add];rfl
      have hj2:rdOf false (selB f L) (itr (fn t) j (fn t x):Int)=true:=by rw [sh];exact hj
      have e:hitN t (selB f L) (fn t x)=hitN t (selB f L) x:=by
        obtain⟨j0,a1,a2⟩:=hit_least j hj2
        have b1:=hitJ_eq a1 a2
        have b2:hitJ t (selB f L) x=j0+1:=hitJ_eq (by rw [← sh];exact a1) (fun q' hq=>by
          cases q' with
          | zero=>exact q
          | succ q'=>rw [← sh];exact a2 q' (by omega))
        unfold hitN
        rw [b1,b2,sh]
      have go:=ih (fn t x) e1.2 hj2 (by rw [e];exact hr)
      rw [rd_selB _ _ (by omega)] at q
      refine Ev.step (fun k=>by rw [spec_l7Sides.l3]) ?_
      rw [rd_edgL f x (by omega),e1.1]
      simp only [edgL_length]
      exact Ev.pos (by omega) (Ev.pos (by omega) (Ev.bind hv (Ev.neg (by rw [q];decide) (Ev.pos (by omega) go))))
theorem mix_psi (n:Nat) (t g:List Int) (c:List Bool):mixL n (psiN t g c) n=psiL n t g c:=by
  unfold mixL psiL
  exact List.map_congr_left (fun d hd=>if_pos (List.mem_range.1 hd))
theorem sd_l2 {t f:List Int} (h:MOK t f) (L:List Int) (hL:L.length≤12) (hc:cntP (fun d=>rdOf false (selB f L) (d:Int)) t.length=2*L.length) (S:Nat) (hS:S≤t.length) :
    ∀ d i,t.length - i=d→i≤t.length→Ev (fun k=>spec_l7Sides.l2 k L (edgL f) (mixL t.length (psiN t (selF f L) (selB f L)) i) (S:Int) (i:Int) t f) ((S+sideN t.length t (selF f L) (selB f L) t.length:Nat):Int):=by
  have hz:=h.size
  have hp:=h.pair
  have hfl:=hp.pts.1
  have ht:=h.permT
  have hP:=psi_perm ht (selF_pts hp L) (sel_cg hp L) (sel_inj hp L)
  have hcy:=psi_cyc hP
  have hcl:=cycL_length t.length (fn (psiL t.length t (selF f L) (selB f L)))
  have hsl:sideN t.length t (selF f L) (selB f L) t.length≤t.length:=cntP_le _ _
  intro d
  induction d with
  | zero =>
    intro i hd hi
    obtain rfl:i=t.length:=by omega
    refine Ev.step (fun k=>by rw [spec_l7Sides.l2]) ?_
    rw [mixL_length]
    refine Ev.neg (by omega) ?_
    rw [mix_psi]
    refine Ev.bind (spec_l1Cycles_ev t.length (by omega) _ hP) (Ev.const ?_)
    rw [hcl]
    rw [wrap64_id (x:=2*(L.length:Int)) (by omega) (by omega)]
    rw [wrap64_id (x:=(t.length:Int) - 2*(L.length:Int)) (by omega) (by omega)]
    rw [wrap64_id (x:=(cyc t.length (fn (psiL t.length t (selF f L) (selB f L))):Int) - ((t.length:Int) - 2*(L.length:Int))) (by omega) (by omega)]
    rw [wrap64_id (by omega) (by omega)]
    congr 1
    omega
  | succ d ih =>
    intro i hd hi
    have hi':i<t.length:=by omega
    have nx:=ih (i+1) (by omega) (by omega)
    have hv:=spec_l7Has_ev L (edgeN f i:Int) hL
    have e1:=hp.pts.fn hi'
    have e2:=ht.1.fn e1.2
    have hrd:=rd_selB f L (show i<f.length by omega)
    refine Ev.step (fun k=>by rw [spec_l7Sides.l2]) ?_
    rw [rd_edgL f i (by omega)]
    simp only [mixL_length,edgL_length]
    refine Ev.pos (by omega) (Ev.pos (by omega) (Ev.pos (by omega) (Ev.bind hv ?_)))
    cases q:dec (Holds L (edgeN f i:Int)) with
    | true =>
      rw [q] at hrd
      have hfi:fn (selF f L) i=fn f i:=by rw [sel_fn hp L hi',if_pos q]
      obtain⟨j,hj⟩:=rib_again ht e1.2 (by rw [← hfi];exact sel_cg hp L i hi' hrd)
      refine Ev.pos rfl ?_
      rw [e1.1,e2.1]
      refine Ev.pos (by omega) (Ev.pos (by omega) (Ev.pos (by omega) ?_))
      refine sd_l3 h L hL _ (mixL_length _ _ _) _ hi' _ j _ e2.2 hj ?_
      have e:(hitN t (selB f L) (fn t (fn f i)):Int)=(psiN t (selF f L) (selB f L) i:Int):=by rw [psi_pos hrd,hfi]
      rw [e,mixL_set]
      exact nx
    | false =>
      rw [q] at hrd
      rw [mixL_stay _ _ _ (psi_neg hrd)] at nx
      refine Ev.neg (by decide) ?_
      rw [show wrap64 ((i:Int)+1)=((i+1:Nat):Int) from(wrap64_id (by omega) (by omega)).trans (by omega)]
      exact nx
theorem sd_l1 {t f : List Int} (h : MOK t f) (L : List Int) (hL : L.length ≤ 12) (x6 : List Int) (x7 : Int) {e : Nat} (he : e < cyc t.length (fn t)) (r : Int)
    (hy:(rdL (cycL t.length (fn t)) (e:Int)).any (fun x=>rdOf false (selB f L) x)=true→Ev (fun k=>spec_l7Sides.l0 k L (edgL f) x6 x7 (cycL t.length (fn t)) ((e+1:Nat):Int) t f) r)
    (hn:(rdL (cycL t.length (fn t)) (e:Int)).any (fun x=>rdOf false (selB f L) x)=false→Ev (fun k=>spec_l7Sides.l0 k L (edgL f) x6 (wrap64 (x7+1)) (cycL t.length (fn t)) ((e+1:Nat):Int) t f) r) :
    ∀ d j,(rdL (cycL t.length (fn t)) (e:Int)).length - j=d→j≤(rdL (cycL t.length (fn t)) (e:Int)).length → ∀ q:Nat,q≤j→(q=0↔((rdL (cycL t.length (fn t)) (e:Int)).take j).any (fun x=>rdOf false (selB f L) x)=false) →
      Ev (fun k=>spec_l7Sides.l1 k L (edgL f) x6 x7 (cycL t.length (fn t)) (e:Int) (q:Int) (j:Int) t f) r:=by
  have eL : ∀ (xs:List (List Int)) (i:Int),rd_L1 xs i=rdL xs i:=fun _ _=>rfl
  have hz:=h.size
  have hp:=h.pair
  have hfl:=hp.pts.1
  have ht:=h.permT
  have hcl:=cycL_length t.length (fn t)
  have hcy:=cyc_le t.length (fn t)
  have hF:=cycL_face ht.perm (show e<(cycL t.length (fn t)).length by omega)
  have hlen:=hF.1
  intro d
  induction d with
  | zero =>
    intro j hd hj q hq hiff
    obtain rfl:j=(rdL (cycL t.length (fn t)) (e:Int)).length:=by omega
    rw [List.take_length] at hiff
    refine Ev.step (fun k=>by rw [spec_l7Sides.l1]) ?_
    simp only [eL]
    rw [show wrap64 ((e:Int)+1)=((e+1:Nat):Int) from(wrap64_id (by omega) (by omega)).trans (by omega)]
    refine Ev.pos (by omega) (Ev.pos (by omega) (Ev.neg (by omega) ?_))
    cases w:(rdL (cycL t.length (fn t)) (e:Int)).any (fun x=>rdOf false (selB f L) x) with
    | true=>exact Ev.neg (fun k=>by have:=hiff.1 (by omega);rw [w] at this;cases this) (hy w)
    | false=>exact Ev.pos (by have:=hiff.2 w;omega) (hn w)
  | succ d ih =>
    intro j hd hj q hq hiff
    have hj':j<(rdL (cycL t.length (fn t)) (e:Int)).length:=by omega
    obtain⟨b1,b2⟩:=hF.fn hj'
    have hv:=spec_l7Has_ev L (edgeN f (fn (rdL (cycL t.length (fn t)) (e:Int)) j):Int) hL
    have hrd:=rd_selB f L (show fn (rdL (cycL t.length (fn t)) (e:Int)) j<f.length by omega)
    have b2':=b2
    have tk:((rdL (cycL t.length (fn t)) (e:Int)).take (j+1)).any (fun x=>rdOf false (selB f L) x)=(((rdL (cycL t.length (fn t)) (e:Int)).take j).any (fun x=>rdOf false (selB f L) x) || rdOf false (selB f L) (fn (rdL (cycL t.length (fn t)) (e:Int)) j:Int)):=by
      rw [List.take_succ_eq_append_getElem hj',List.any_append,← rd_nat _ _ hj',b1]
      simp
    refine Ev.step (fun k=>by rw [spec_l7Sides.l1]) ?_
    simp only [eL]
    rw [b1,rd_edgL f _ (by omega),show wrap64 ((j:Int)+1)=((j+1:Nat):Int) from(wrap64_id (by omega) (by omega)).trans (by omega),show wrap64 ((q:Int)+1)=((q+1:Nat):Int) from(wrap64_id (by omega) (by omega)).trans (by omega)]
    simp only [edgL_length]
    refine Ev.pos (by omega) (Ev.pos (by omega) (Ev.pos (by omega) (Ev.pos (by omega) (Ev.pos (by omega) (Ev.pos (by omega) (Ev.bind hv ?_))))))
    cases w:dec (Holds L (edgeN f (fn (rdL (cycL t.length (fn t)) (e:Int)) j):Int)) with
    | true =>
      rw [w] at hrd
      refine Ev.pos rfl (ih (j+1) (by omega) (by omega) (q+1) (by omega) ?_)
      rw [tk,hrd,Bool.or_true]
      exact⟨fun k=>by omega,fun k=>by cases k⟩
    | false =>
      rw [w] at hrd
      refine Ev.neg (by decide) (ih (j+1) (by omega) (by omega) q (by omega) ?_)
      rw [tk,hrd,Bool.or_false]
      exact hiff
theorem spec_l7Sides_ev {t f:List Int} (h:MOK t f) (L:List Int) (hL:L.length≤12) (hc:cntP (fun d=>rdOf false (selB f L) (d:Int)) t.length=2*L.length) :
    Ev (fun k=>spec_l7Sides.f k t f L) ((bareN t.length t (selB f L) (cyc t.length (fn t))+sideN t.length t (selF f L) (selB f L) t.length:Nat):Int):=by
  have hz:=h.size
  have hp:=h.pair
  have hfl:=hp.pts.1
  have ht:=h.permT
  have hcl:=cycL_length t.length (fn t)
  have hcy:=cyc_le t.length (fn t)
  have hb : ∀ m,bareN t.length t (selB f L) m≤m:=fun m=>cntP_le _ _
  have key : ∀ d e,cyc t.length (fn t) - e=d→e≤cyc t.length (fn t)→Ev (fun k=>spec_l7Sides.l0 k L (edgL f) (idL t.length) (bareN t.length t (selB f L) e:Nat) (cycL t.length (fn t)) (e:Int) t f) ((bareN t.length t (selB f L) (cyc t.length (fn t))+sideN t.length t (selF f L) (selB f L) t.length:Nat):Int):=by
    intro d
    induction d with
    | zero =>
      intro e hd he
      obtain rfl:e=cyc t.length (fn t):=by omega
      have hbb:=hb (cyc t.length (fn t))
      have k0:=sd_l2 h L hL hc (bareN t.length t (selB f L) (cyc t.length (fn t))) (by omega) _ 0 rfl (by omega)
      rw [mixL_none] at k0
      have k1:Ev (fun k=>spec_l7Sides.l2 k L (edgL f) (idL t.length) (bareN t.length t (selB f L) (cyc t.length (fn t)):Nat) 0 t f) _:=k0
      exact Ev.step (fun k=>by rw [spec_l7Sides.l0]) (Ev.neg (by omega) k1)
    | succ d ih =>
      intro e hd he
      have nx:=ih (e+1) (by omega) (by omega)
      have hbe:=hb e
      refine Ev.step (fun k=>by rw [spec_l7Sides.l0]) (Ev.pos (by omega) ?_)
      refine sd_l1 h L hL (idL t.length) _ (show e<cyc t.length (fn t) by omega) _ (fun q => ?_) (fun q => ?_) _ 0 rfl (by omega) 0 (by omega) (by simp)
      · have es:bareN t.length t (selB f L) (e+1)=bareN t.length t (selB f L) e:=by unfold bareN;exact cntP_stay _ (by simp only [q];rfl)
        rw [es] at nx
        exact nx
      · have es:bareN t.length t (selB f L) (e+1)=bareN t.length t (selB f L) e+1:=by unfold bareN;exact cntP_more _ (by simp only [q];rfl)
        rw [es] at nx
        rw [wrap64_id (x:=((bareN t.length t (selB f L) e:Nat):Int)+1) (by omega) (by omega)]
        exact nx
  have k0:=key _ 0 rfl (by omega)
  unfold spec_l7Sides.f
  refine Ev.bind (spec_l7Edges_ev t.length (by omega) t f hp) ?_
  rw [hfl]
  exact Ev.bind (spec_l1Same_ev t.length (by omega)) (Ev.bind (spec_l1Cycles_ev t.length (by omega) t ht) k0)
/-! ### spec_l7Counts -/
theorem spec_l7Counts_ev {t f:List Int} (h:MOK t f) (s:Nat):Ev (fun k=>spec_l7Counts.f k t f (bitsL (t.length / 2) s)) (ribL t.length t f (bitsL (t.length / 2) s)):=by
  have hz:=h.size
  have hl:=bitsL_length (t.length / 2) s
  unfold spec_l7Counts.f
  refine Ev.bind (spec_l7Parts_gen h (bitsL (t.length / 2) s) (by omega)) ?_
  refine Ev.bind (spec_l7Sides_ev h (bitsL (t.length / 2) s) (by omega) (bits_darts h.pair s)) ?_
  exact Ev.bind (spec_l1Cycles_ev t.length (by omega) t h.permT) (Ev.const rfl)
/-! ### spec_l7Power -/
theorem spec_l7Power_ev (x n:Int) (hn:n≤9223372036854775807):Ev (fun k=>spec_l7Power.f k x n) (powW x n.toNat):=by
  have key : ∀ d i,n.toNat - i=d→i≤n.toNat→Ev (fun k=>spec_l7Power.l0 k x n (powW x i) (i:Nat)) (powW x n.toNat):=by
    intro d
    induction d with
    | zero =>
      intro i hd hi
      obtain rfl:i=n.toNat:=by omega
      exact Ev.step (fun k=>by rw [spec_l7Power.l0]) (Ev.neg (by omega) (Ev.const rfl))
    | succ d ih =>
      intro i hd hi
      have nx:=ih (i+1) (by omega) (by omega)
      refine Ev.step (fun k=>by rw [spec_l7Power.l0]) (Ev.pos (by omega) ?_)
      rw [show wrap64 ((i:Int)+1)=((i+1:Nat):Int) from(wrap64_id (by omega) (by omega)).trans (by omega),Int.mul_comm x]
      exact nx
  exact key _ 0 rfl (by omega)
/-! ### spec_RibbonValue -/
theorem spec_RibbonValue_ev (t f:List Int) (x y z:Int) (hlt:t.length≤12) (hlf:f.length≤12):Ev (fun k=>spec_RibbonValue.f k t f x y z) (valZ t f x y z):=by
  have eL : ∀ (xs:List (List Int)) (i:Int),rd_L1 xs i=rdL xs i:=fun _ _=>rfl
  have no:valZ t f x y z = -1→Ev (fun k=>spec_RibbonValue.j0 k x y z true t f) (valZ t f x y z):=fun q=>by
    rw [q]
    exact Ev.step (fun k=>by rw [spec_RibbonValue.j0]) (Ev.pos rfl (Ev.const rfl))
  have nov : ¬ (MOK t f∧(0≤x∧x≤3)∧(0≤y∧y≤3)∧(0≤z∧z≤3))→valZ t f x y z = -1:=fun w=>by
    unfold valZ;rw [if_neg (by rw [dec_f w];decide)]
  unfold spec_RibbonValue.f
  refine Ev.bind (spec_MapValid_ev t f (by omega) (by omega)) ?_
  by_cases h:MOK t f
  · refine Ev.pos (dec_t h) (Ev.bindc (spec_l6In_eq _ _ _) ?_)
    by_cases hx:0≤x∧x≤3
    · rw [decide_eq_true hx]
      refine Ev.pos rfl (Ev.bindc (spec_l6In_eq _ _ _) ?_)
      by_cases hy:0≤y∧y≤3
      · rw [decide_eq_true hy]
        refine Ev.pos rfl (Ev.bindc (spec_l6In_eq _ _ _) ?_)
        by_cases hzz:0≤z∧z≤3
        · rw [decide_eq_true hzz]
          have hz:=h.size
          have w2:wrap64 ((f.length:Int) / 2)=((t.length / 2:Nat):Int):=(wrap64_id (by omega) (by omega)).trans (by omega)
          have e:valZ t f x y z=sumV t f x y z (2 ^ (t.length / 2)):=by
            unfold valZ;rw [if_pos (dec_t ⟨h,hx,hy,hzz⟩)]
          have h64:2 ^ (t.length / 2)≤64:=Nat.pow_le_pow_right (n:=2) (by omega) (show t.length / 2≤6 by omega)
          have hal:=allL_length (t.length / 2)
          have hat:=allL_at (t.length / 2)
          have hcn:=fun s=>spec_l7Counts_ev h s
          have hev:=spec_l7All_ev (t.length / 2) (by omega)
          have hst : ∀ s,sumV t f x y z (s+1)=stepV x y z (ribL t.length t f (bitsL (t.length / 2) s)) (sumV t f x y z s):=fun s=>rfl
          have hrl : ∀ s,(ribL t.length t f (bitsL (t.length / 2) s)).length=5:=fun s=>ribL_length _ _ _ _
          have hr3 : ∀ s,rd (ribL t.length t f (bitsL (t.length / 2) s)) 3≤9223372036854775807:=fun s=>ribL_3 _ _ _ _
          have hr4 : ∀ s,rd (ribL t.length t f (bitsL (t.length / 2) s)) 4≤9223372036854775807:=fun s=>ribL_4 _ _ _ _
          rw [e]
          generalize hM:2 ^ (t.length / 2)=M at *
          have key : ∀ d s,M - s=d→s≤M→Ev (fun k=>spec_RibbonValue.l0 k x y z (sumV t f x y z s) (allL (t.length / 2)) (s:Int) t f) (sumV t f x y z M):=by
            intro d
            induction d with
            | zero =>
              intro s hd hs
              obtain rfl:s=M:=by omega
              exact Ev.step (fun k=>by rw [spec_RibbonValue.l0]) (Ev.neg (by omega) (Ev.const rfl))
            | succ d ih =>
              intro s hd hs
              have nx:=ih (s+1) (by omega) (by omega)
              have a5:=hrl s
              have a3:=hr3 s
              have a4:=hr4 s
              have cn:=hcn s
              rw [hst s] at nx
              unfold stepV at nx
              refine Ev.step (fun k=>by rw [spec_RibbonValue.l0]) ?_
              simp only [eL]
              rw [hat s (by omega),show wrap64 ((s:Int)+1)=((s+1:Nat):Int) from(wrap64_id (by omega) (by omega)).trans (by omega)]
              refine Ev.pos (by omega) (Ev.pos (by omega) (Ev.bind cn ?_))
              generalize ribL t.length t f (bitsL (t.length / 2) s)=c at *
              refine Ev.pos (by omega) (Ev.bind (spec_l7Power_ev x _ (w64_hi _)) (Ev.pos (by omega) (Ev.bind (spec_l7Power_ev y _ a3) (Ev.pos (by omega) (Ev.bind (spec_l7Power_ev z _ a4) nx)))))
          have k0:=key _ 0 rfl (by omega)
          refine Ev.step (fun k=>by rw [spec_RibbonValue.j0]) (Ev.neg (by decide) ?_)
          rw [w2]
          exact Ev.bind hev k0
        · rw [decide_eq_false hzz]
          exact no (nov (fun w=>hzz w.2.2.2))
      · rw [decide_eq_false hy]
        exact Ev.neg (by decide) (no (nov (fun w=>hy w.2.2.1)))
    · rw [decide_eq_false hx]
      exact Ev.neg (by decide) (no (nov (fun w=>hx w.2.1)))
  · exact Ev.neg (by rw [dec_f h];decide) (no (nov (fun w=>h w.1)))
/-! ### The law -/
/-! ### Lines of Execute that set a map and ask for a value -/
theorem dec_sign : ∀ n:Fin 100,((Lib.decDigits n.val).all fun b=>decide (48≤b.toNat∧b.toNat≤57))=true:=by decide +kernel
theorem dec_free (n:Nat) (h:n<100) (c:UInt8) (hc:c.toNat<48):c ∉ Lib.decDigits n:=fun hm=>by
  have:=of_decide_eq_true (List.all_eq_true.1 (dec_sign ⟨n,h⟩) c hm)
  omega
theorem lineM_data (t f:List Int):(lineM t f).data.toList = [109,97,112] ++ 32 :: (Lib.decDigits t.length ++ 32 :: ((pTxt t).data.toList ++ 32 :: (pTxt f).data.toList)):=by
  unfold lineM;simp
theorem lineM_words {t f:List Int} (ht:POK t) (hf:POK f):XE.wordsOf (lineM t f) = [⟨#[109,97,112]⟩,⟨(Lib.decDigits t.length).toArray⟩,pTxt t,pTxt f]:=by
  have h12:=ht.1.2
  refine xe_words _ _ ?_
  rw [lineM_data,xs_split_hit 32 _ _ (by decide),xs_split_hit 32 _ _ (dec_free _ (by omega) 32 (by decide)),xs_split_hit 32 _ _ (sign_free (pTxt_sign ht) 32 (.inr rfl)),xs_split_free 32 _ (sign_free (pTxt_sign hf) 32 (.inr rfl))]
  simp
theorem lineM_line {t f:List Int} (ht:POK t) (hf:POK f):(10:UInt8) ∉ (lineM t f).data.toList:=by
  have h12:=ht.1.2
  rw [lineM_data]
  have h1:=dec_free t.length (by omega) 10 (by decide)
  have h2:=sign_free (pTxt_sign ht) 10 (.inl rfl)
  have h3:=sign_free (pTxt_sign hf) 10 (.inl rfl)
  simp [h1,h2,h3]
theorem cmd_map {t f T U:List Int} (h:MOK t f):Ev (fun k=>impl_Execute.cmdF k T U [⟨#[109,97,112]⟩,⟨(Lib.decDigits t.length).toArray⟩,pTxt t,pTxt f]) (⟨#[111,107]⟩,t,f):=by
  have ht:=h.1
  have hf:=h.2.1
  have h12:=ht.1.2
  have e:=h.2.2.1
  obtain⟨n0,x0⟩:=impl_numberOf_ex (⟨#[109,97,112]⟩:ByteArray)
  obtain⟨n2,x2⟩:=impl_numberOf_ex (pTxt t)
  obtain⟨n3,x3⟩:=impl_numberOf_ex (pTxt f)
  have g2:=impl_PermFrom_ev hf
  rw [← e] at g2
  refine Ev.congr (fun k=>by rw [impl_Execute.cmdF]) ?_
  refine Ev.neg (by decide) (Ev.pos rfl ?_)
  refine Ev.bind x0 (Ev.bind (impl_numberOf_dec t.length (by omega)) (Ev.bind x2 (Ev.bind x3 ?_)))
  refine Ev.bind (impl_PermFrom_ev ht) (Ev.bind g2 ?_)
  refine Ev.pos ⟨rfl,rfl⟩ ?_
  refine Ev.bind (impl_MapValid_ev t f) ?_
  exact Ev.pos (dec_t h) (Ev.const rfl)
/-! ### Digits of all numbers -/
theorem dec_step (n:Nat) (h : ¬ n<10):Lib.decDigits n=Lib.decDigits (n / 10) ++ Lib.decDigits (n % 10):=by
  rw [Lib.decDigits_one (show n % 10<10 by omega)]
  conv=>lhs;rw [Lib.decDigits,dif_neg h]
theorem dec_len (n:Nat):(Lib.decDigits n).length≤n+1:=by
  induction n using Nat.strongRecOn with
  | _ n ih =>
    by_cases h:n<10
    · rw [Lib.decDigits_one h];simp
    · rw [dec_step n h,List.length_append,Lib.decDigits_one (show n % 10<10 by omega)]
      have:=ih (n / 10) (by omega)
      simp only [List.length_singleton]
      omega
theorem bytes_app (a b:List UInt8):(⟨a.toArray⟩:ByteArray) ++ ⟨b.toArray⟩=⟨(a ++ b).toArray⟩:=by
  apply ByteArray.ext
  simp
theorem laws_digits_all (n:Nat):n≤9223372036854775807→Ev (fun k=>laws_digits.f k (n:Int)) ⟨(Lib.decDigits n).toArray⟩:=by
  induction n using Nat.strongRecOn with
  | _ n ih =>
    intro hn
    by_cases h0:n<10
    · have e:(strOfNums [(wrap64 (48+(n:Int))) % 256]:ByteArray)=⟨(Lib.decDigits n).toArray⟩:=digits_lo ⟨n,h0⟩
      rw [← e]
      exact Ev.step (fun k=>by rw [laws_digits.f]) (Ev.pos (by omega) (Ev.const rfl))
    · have hq:=ih (n / 10) (by omega) (by omega)
      have e:(strOfNums [(wrap64 (48+((n % 10:Nat):Int))) % 256]:ByteArray)=⟨(Lib.decDigits (n % 10)).toArray⟩:=digits_lo ⟨n % 10,by omega⟩
      have hl:=dec_len (n / 10)
      have h1:(⟨(Lib.decDigits (n / 10)).toArray⟩:ByteArray).size=(Lib.decDigits (n / 10)).length:=by simp [ByteArray.size]
      have h2:(⟨(Lib.decDigits (n % 10)).toArray⟩:ByteArray).size=1:=by rw [Lib.decDigits_one (show n % 10<10 by omega)];rfl
      rw [dec_step n h0,← bytes_app]
      refine Ev.step (fun k=>by rw [laws_digits.f]) (Ev.neg (by omega) ?_)
      rw [show wrap64 (Int.tdiv (n:Int) 10)=((n / 10:Nat):Int) by
        rw [show Int.tdiv (n:Int) 10=((n / 10:Nat):Int) from(Int.ofNat_tdiv _ _).symm,wrap64_id (by omega) (by omega)]]
      refine Ev.bind hq (Ev.bindc rfl ?_)
      rw [show Int.tmod (n:Int) 10=((n % 10:Nat):Int) from rfl,e,h1,h2]
      exact Ev.pos (by omega) (Ev.const rfl)
theorem valZ_range (t f:List Int) (x y z:Int) (h : ¬ valZ t f x y z<0):MOK t f∧(0≤x∧x≤3)∧(0≤y∧y≤3)∧(0≤z∧z≤3)∧valZ t f x y z≤9223372036854775807:=by
  unfold valZ at *
  split at h
  · rename_i q
    obtain⟨q1,q2,q3,q4⟩:=dec_iff.1 q
    refine⟨q1,q2,q3,q4,?_⟩
    rw [if_pos q]
    generalize 2 ^ (t.length / 2)=m
    cases m with
    | zero=>show(0:Int)≤_;omega
    | succ m=>show stepV _ _ _ _ _≤_;unfold stepV wrap64;omega
  · omega
theorem toldF_nat (v:Nat) (h:v≤9223372036854775807):impl_Execute.toldF (v:Int)=some ⟨(Lib.decDigits v).toArray⟩:=by
  unfold impl_Execute.toldF
  rw [if_neg (by omega),if_pos (by omega),Lib.itoa_nonneg]
theorem cmd_value {t f:List Int} {a b c v:Nat} (ha:a≤3) (hb:b≤3) (hc:c≤3) (hv:valZ t f a b c=v) (h63:v≤9223372036854775807):Ev (fun k=>impl_Execute.cmdF k t f [⟨#[118,97,108,117,101]⟩,⟨(Lib.decDigits a).toArray⟩,⟨(Lib.decDigits b).toArray⟩,⟨(Lib.decDigits c).toArray⟩]) (⟨(Lib.decDigits v).toArray⟩,t,f):=by
  obtain⟨n0,x0⟩:=impl_numberOf_ex (⟨#[118,97,108,117,101]⟩:ByteArray)
  have hr:=impl_RibbonValue_ev t f (a:Int) (b:Int) (c:Int)
  rw [hv] at hr
  refine Ev.congr (fun k=>by rw [impl_Execute.cmdF]) ?_
  refine Ev.pos rfl ?_
  refine Ev.bind x0 (Ev.bind (impl_numberOf_dec a (by omega)) (Ev.bind (impl_numberOf_dec b (by omega)) (Ev.bind (impl_numberOf_dec c (by omega)) ?_)))
  exact Ev.bind hr (Ev.bindc (toldF_nat v h63) (Ev.const rfl))
/-- The line that asks for a value. -/
def lineV (a b c:Nat):ByteArray:=((((⟨#[118,97,108,117,101,32]⟩:ByteArray) ++ ⟨(Lib.decDigits a).toArray⟩) ++ ⟨#[32]⟩) ++ ⟨(Lib.decDigits b).toArray⟩) ++ ⟨#[32]⟩ ++ ⟨(Lib.decDigits c).toArray⟩
theorem z6_:(⟨#[118,97,108,117,101,32]⟩:ByteArray).size=6:=rfl
theorem exec_value {t f:List Int} (h:MOK t f) {a b c v:Nat} (ha:a≤3) (hb:b≤3) (hc:c≤3) (hv:valZ t f a b c=v) (h63:v≤9223372036854775807):Ev (fun k=>impl_Execute.f k (((((((lineM t f ++ ⟨#[10]⟩) ++ ⟨#[118,97,108,117,101,32]⟩) ++ ⟨(Lib.decDigits a).toArray⟩) ++ ⟨#[32]⟩) ++ ⟨(Lib.decDigits b).toArray⟩) ++ ⟨#[32]⟩) ++ ⟨(Lib.decDigits c).toArray⟩ ++ ⟨#[10]⟩)) ((((⟨#[111,107,10]⟩:ByteArray) ++ ⟨(Lib.decDigits v).toArray⟩) ++ ⟨#[10]⟩) ++ ((⟨#[100,97,114,116,115,32]⟩ ++ ⟨(Lib.decDigits t.length).toArray⟩) ++ ⟨#[10]⟩)):=by
  have ht:=h.1
  have hf:=h.2.1
  have h12:=ht.1.2
  have hs:=lineM_size ht hf
  have s1:=dec_size a (by omega)
  have s2:=dec_size b (by omega)
  have s3:=dec_size c (by omega)
  have s4:=dec_len21 v h63
  have a10:=dec_free a (by omega) 10 (by decide)
  have b10:=dec_free b (by omega) 10 (by decide)
  have c10:=dec_free c (by omega) 10 (by decide)
  have a32:=dec_free a (by omega) 32 (by decide)
  have b32:=dec_free b (by omega) 32 (by decide)
  have c32:=dec_free c (by omega) 32 (by decide)
  have hl:(XE.linesOf (((((((lineM t f ++ ⟨#[10]⟩) ++ ⟨#[118,97,108,117,101,32]⟩) ++ ⟨(Lib.decDigits a).toArray⟩) ++ ⟨#[32]⟩) ++ ⟨(Lib.decDigits b).toArray⟩) ++ ⟨#[32]⟩) ++ ⟨(Lib.decDigits c).toArray⟩ ++ ⟨#[10]⟩)).dropLast = [lineM t f,lineV a b c]:=by
    refine xe_linesOf (fun l hm => ?_) (by simp [lineV])
    rcases List.mem_cons.1 hm with rfl|hm
    · exact lineM_line ht hf
    · have:l=lineV a b c:=by simpa using hm
      subst this
      simp [lineV,a10,b10,c10]
  have hw:XE.wordsOf (lineV a b c) = [⟨#[118,97,108,117,101]⟩,⟨(Lib.decDigits a).toArray⟩,⟨(Lib.decDigits b).toArray⟩,⟨(Lib.decDigits c).toArray⟩]:=by
    refine xe_words _ _ ?_
    have e:(lineV a b c).data.toList = [118,97,108,117,101] ++ 32 :: (Lib.decDigits a ++ 32 :: (Lib.decDigits b ++ 32 :: Lib.decDigits c)):=by simp [lineV]
    rw [e,xs_split_hit 32 _ _ (by decide),xs_split_hit 32 _ _ a32,xs_split_hit 32 _ _ b32,xs_split_free 32 _ c32]
    simp
  unfold impl_Execute.f
  refine Ev.pos (by simp only [ByteArray.size_append,z1_,z6_];omega) ?_
  rw [hl]
  have hgo:=xe_step (F:=impl_Execute.cmdF) (T := [1,0]) (U := [1,0]) (o:=⟨#[]⟩) (by omega) (lineM_words ht hf) (cmd_map h) (by decide)
    (xe_step (ls := []) (l:=lineV a b c) (by unfold lineV;simp only [ByteArray.size_append,z1_,z6_];omega) hw (cmd_value ha hb hc hv h63) (by omega) xe_end)
  refine Ev.bind hgo ?_
  refine Ev.pos (by show t.length<100;omega) (Ev.const (congrArg some (xs_toList_inj ?_)))
  simp
theorem FnExecuteValue:laws_FnExecuteValue.Pure:=by
  intro l hm hl hwf
  refine Ev.rounds ?_
  unfold laws_FnExecuteValue.f
  refine Ev.ite (fun _=>Ev.const rfl) (fun _ => ?_)
  obtain⟨t,f,x,y,z,h1,h2,h3⟩:=spec_DrawRibbonValue_ex l (bytes_of_wf hwf)
  refine Ev.bind h1 ?_
  refine Ev.bind (impl_RibbonValue_ev t f x y z) ?_
  refine Ev.bind (spec_RibbonValue_ev t f x y z h2 h3) ?_
  refine Ev.pos rfl ?_
  dsimp only
  by_cases hneg:valZ t f x y z<0
  · refine Ev.step (fun k=>by rw [laws_FnExecuteValue.j0]) ?_
    exact Ev.pos (decide_eq_true hneg) (Ev.const (by simp))
  · obtain⟨h,hx,hy,hz,hv⟩:=valZ_range t f x y z hneg
    obtain⟨a,rfl⟩ : ∃ a:Nat,x=a:=⟨x.toNat,by omega⟩
    obtain⟨b,rfl⟩ : ∃ a:Nat,y=a:=⟨y.toNat,by omega⟩
    obtain⟨c,rfl⟩ : ∃ a:Nat,z=a:=⟨z.toNat,by omega⟩
    obtain⟨v,ev⟩ : ∃ v:Nat,valZ t f a b c=v:=⟨(valZ t f a b c).toNat,by omega⟩
    rw [ev] at hneg hv ⊢
    have hv':v≤9223372036854775807:=by omega
    have hx:=exec_value h (a:=a) (b:=b) (c:=c) (v:=v) (by omega) (by omega) (by omega) ev hv'
    have ht:=h.1
    have hf:=h.2.1
    have h12:=ht.1.2
    have hs:=lineM_size ht hf
    have s1:=dec_size a (by omega)
    have s2:=dec_size b (by omega)
    have s3:=dec_size c (by omega)
    have s4:=dec_len21 v hv'
    have he:(((⟨#[100,97,114,116,115,32]⟩ ++ ⟨(Lib.decDigits t.length).toArray⟩) ++ ⟨#[10]⟩:ByteArray)).size≤10:=by
      have:=dec_size t.length (by omega)
      rw [ByteArray.size_append,ByteArray.size_append,show(⟨#[100,97,114,116,115,32]⟩:ByteArray).size=6 from rfl,z1_];omega
    have z3:(⟨#[111,107,10]⟩:ByteArray).size=3:=rfl
    refine Ev.step (fun k=>by rw [laws_FnExecuteValue.j0]) ?_
    refine Ev.neg (by rw [decide_eq_false hneg];decide) ?_
    refine Ev.bind (laws_mapLine_ev ht hf) ?_
    refine Ev.pos (by rw [ByteArray.size_append,z1_];omega) ?_
    refine Ev.bind (laws_digits_ev a (by omega)) ?_
    refine Ev.pos (by simp only [ByteArray.size_append,z1_,z6_];omega) (Ev.pos (by simp only [ByteArray.size_append,z1_,z6_];omega) ?_)
    refine Ev.bind (laws_digits_ev b (by omega)) ?_
    refine Ev.pos (by simp only [ByteArray.size_append,z1_,z6_];omega) (Ev.pos (by simp only [ByteArray.size_append,z1_,z6_];omega) ?_)
    refine Ev.bind (laws_digits_ev c (by omega)) ?_
    refine Ev.pos (by simp only [ByteArray.size_append,z1_,z6_];omega) (Ev.pos (by simp only [ByteArray.size_append,z1_,z6_];omega) ?_)
    refine Ev.bind hx ?_
    refine Ev.bind (laws_digits_all v hv') ?_
    refine Ev.pos (by omega) (Ev.pos (by rw [ByteArray.size_append,z3];omega) ?_)
    refine Ev.bind (laws_endLine_ev t.length (by omega)) ?_
    refine Ev.pos (by rw [ByteArray.size_append,ByteArray.size_append,z3,z1_];omega) (Ev.const ?_)
    show some (_ == _)=some true
    rw [beq_self_eq_true]

end Go.Proofs.YtjebcgbmlbemcaaGreatDoor.Pure
