-- Made by a program of this session (wip/tools) out of the loaded program; not trusted: Lean checks it.
import Derived.Test.YtmegggomhjgehaaPFnCoverx0
import Derived.Test.YtmegggomhjgehaaPFnCoverx1
-- packed
-- packed2
namespace Go.Proofs.Ytmegggomhjgehaa.PFnCover
open Go.RowKit Go.Proofs.YtmegggomhjgehaaW.PrintWords Go.Proofs.YtmegggomhjgehaaW.PrintLast Go.Proofs.YtmegggomhjgehaaW.PrintMore
attribute [local go_sem] max2_int min2_int max_two min_two max_three min_three max_four min_four
set_option linter.unusedVariables false
set_option linter.unusedSimpArgs false

/-! ### impl_MapValid: function 54 -/
mutual
def impl_MapValid.j0:Nat→Bool→List Int→List Int→Option (Bool)
  | 0,_,_,_=>none
  | k+1,x23,x120000,x120001=>if x23=true then (some false) else (impl_MapValid.l0 k x120001 (x120001.length:Int) 0 x120000 x120001)
def impl_MapValid.l0:Nat→List Int→Int→Int→List Int→List Int→Option (Bool)
  | 0,_,_,_,_,_=>none
  | k+1,x25,x26,x27,x120000,x120001=>if x27<x26 then (if 0≤x27 then (if x27<(x25.length:Int) then (if (rd x25 x27)=x27 then (some false) else (if 0≤(rd x25 x27) then (if (rd x25 x27)<(x120001.length:Int) then (if (rd x120001 (rd x25 x27))=x27 then (impl_MapValid.l0 k x25 x26 (wrap64 (x27+1)) x120000 x120001) else (some false)) else (none)) else (none))) else (none)) else (none)) else ((impl_orbits.f k (([x120000,x120001]:List (List Int)))).bind fun t127=>((slices_Max_int_int.f t127).bind fun t130=>(some (t130 == 0))))
end
def impl_MapValid.f (k:Nat) (l0_0:List Int) (l0_1:List Int):Option (Bool):=(impl_PermValid.f l0_0).bind fun t120=>(if t120=true then ((impl_PermValid.f l0_1).bind fun t121=>(if t121=true then (impl_MapValid.j0 k ((l0_0.length:Int) != (l0_1.length:Int)) l0_0 l0_1) else (impl_MapValid.j0 k true l0_0 l0_1))) else (impl_MapValid.j0 k true l0_0 l0_1))
set_option maxHeartbeats 8000000 in
set_option maxRecDepth 100000 in
theorem impl_MapValid.calls (k:Nat) (P0_0_:Nat→Prop) (A0_0:Option Addr) (c0_0:Nat) (l0_0:List Int) (P0_1_:Nat→Prop) (A0_1:Option Addr) (c0_1:Nat) (l0_1:List Int) (r:Bool) (w:World) (hs0_0:Kd.V (Kd.int .i64) 3 w w.heap.size (fun k_=>P0_0_ k_) (.slice A0_0 l0_0.length c0_0) l0_0) (hs0_1:Kd.V (Kd.int .i64) 3 w w.heap.size (fun k_=>P0_1_ k_) (.slice A0_1 l0_1.length c0_1) l0_1) (h:impl_MapValid.f k l0_0 l0_1=some r) :
    Calls Try.prog 54 #[.agg #[.slice A0_0 l0_0.length c0_0,.slice A0_1 l0_1.length c0_1]] w fun e w'=>e = .returned (.bool r)∧Below w.heap.size w w':=by
 have hu25:=Try.underlying25
 have HO0_0:=A0_ (show Kd.V (Kd.int .i64) 3 w w.heap.size (fun k_=>((P0_0_ k_∨P0_1_ k_)∨w.heap.size≤k_)) (.slice A0_0 l0_0.length c0_0) l0_0 from Kd.V_mono hs0_0 (fun k_ hk => .inl (.inl hk)))
 have HO0_1:=A0_ (show Kd.V (Kd.int .i64) 3 w w.heap.size (fun k_=>((P0_0_ k_∨P0_1_ k_)∨w.heap.size≤k_)) (.slice A0_1 l0_1.length c0_1) l0_1 from Kd.V_mono hs0_1 (fun k_ hk => .inl (.inr hk)))
 have HB:=A0_ (Below.refl w.heap.size w)
 have H:((impl_PermValid.f l0_0).bind fun t120=>(if t120=true then ((impl_PermValid.f l0_1).bind fun t121=>(if t121=true then (impl_MapValid.j0 k ((l0_0.length:Int) != (l0_1.length:Int)) l0_0 l0_1) else (impl_MapValid.j0 k true l0_0 l0_1))) else (impl_MapValid.j0 k true l0_0 l0_1)))=some r:=h
 clear h;have HC2:=A0_ H;clear H
 go_enter Try.func54,Try.ntmps54
 go_upto_region 1 with(first|((with_reducible refine gD (N:=1) rfl ?_);refine zX (N:=1) (cs := #[.slice A0_0 l0_0.length c0_0,.slice A0_1 l0_1.length c0_1]) (t:=25) ?_;intro gb119 hg w3 hbox hb;replace HO0_0:=A0_ (Kd.V_below (Kd.V_elderB (by(with_reducible repeat(first|apply Kd.V_alloc|apply Kd.V_drewN|apply Kd.V_drew));exact HO0_0.out) gb119 (Nat.le_of_eq hg.symm)) hb);replace HO0_1:=A0_ (Kd.V_below (Kd.V_elderB (by(with_reducible repeat(first|apply Kd.V_alloc|apply Kd.V_drewN|apply Kd.V_drew));exact HO0_1.out) gb119 (Nat.le_of_eq hg.symm)) hb);have BK119:=A0_ (hbox);have GW119:=zG hg HB;have GE119:=zG hg HB;replace HB:=zB HB hb;clear hb hbox hg))
 (try simp only [Act.put,List.setIfInBounds_toArray,List.set_cons_zero,List.set_cons_succ])
 go_cut [23] (fun v23 wc => ∃ (kq:Nat) (x23_1:Bool),v23 = .bool x23_1∧Aside0 (impl_MapValid.j0 kq x23_1 l0_0 l0_1=some r)∧Aside0 (kq≤k)∧Aside0 (Kd.V (Kd.int .i64) 3 wc w.heap.size (fun k_=>((P0_0_ k_∨P0_1_ k_)∨w.heap.size≤k_)∧k_≠gb119) (.slice A0_0 l0_0.length c0_0) l0_0)∧Aside0 (Kd.V (Kd.int .i64) 3 wc w.heap.size (fun k_=>((P0_0_ k_∨P0_1_ k_)∨w.heap.size≤k_)∧k_≠gb119) (.slice A0_1 l0_1.length c0_1) l0_1)∧Aside0 (wc.heap[gb119]? = some (.cells #[(.slice A0_0 l0_0.length c0_0),(.slice A0_1 l0_1.length c0_1)] 25 (0,0)))∧Aside0 (Below w.heap.size w wc))
 case first =>
  have H:=HC2.out;clear HC2;obtain⟨t120,A4,H⟩:=zbind H
  by_cases c5:t120=true
  ·subst c5
   rw [if_pos rfl] at H;obtain⟨t121,A6,H⟩:=zbind H
   by_cases c7:t121=true
   ·subst c7
    rw [if_pos rfl] at H;have H':=A0_ H;clear H;have hcz8_0:=zc0 BK119;have hcz8_1:=zc1 BK119;have hfz8_0:=kF BK119.out 0;have hfz8_1:=kF BK119.out 1
    go_wp2_with (first|((with_reducible refine gC (f:=47) rfl ?_);refine zJ (some 7) Try.func47 #[.slice A0_0 l0_0.length c0_0] ?_;(with_reducible refine(impl_PermValid.calls _ _ l0_0 true _ ?side1 ?side2 A4.out).mono ?_);(case side1=>repeat(first|exact(Kd.V_reads' HO0_0.out).2.2|(with_reducible refine cA ?_ _)|(with_reducible refine cN ?_ _)|(with_reducible refine cD ?_)));(case side2=>exact(Kd.V_reads' HO0_0.out).2.1);rintro e w9 ⟨rfl,hb⟩;refine⟨_,rfl,?_⟩;replace HO0_0:=A0_ (Kd.V_below (by(with_reducible repeat(first|apply Kd.V_alloc|apply Kd.V_drewN|apply Kd.V_drew));exact HO0_0.out) hb);replace HO0_1:=A0_ (Kd.V_below (by(with_reducible repeat(first|apply Kd.V_alloc|apply Kd.V_drewN|apply Kd.V_drew));exact HO0_1.out) hb);replace BK119:=zK BK119 hb;replace HB:=zB HB hb;(try clear hb);have hcz10_0:=zc0 BK119;have hcz10_1:=zc1 BK119;have hfz10_0:=kF BK119.out 0;have hfz10_1:=kF BK119.out 1)|(go_at_call 47;(with_reducible refine(impl_PermValid.calls _ _ l0_1 true _ ?side1 ?side2 A6.out).mono ?_);(case side1=>repeat(first|exact(Kd.V_reads' HO0_1.out).2.2|(with_reducible refine cA ?_ _)|(with_reducible refine cN ?_ _)|(with_reducible refine cD ?_)));(case side2=>exact(Kd.V_reads' HO0_1.out).2.1);rintro e w11 ⟨rfl,hb⟩;replace HO0_0:=A0_ (Kd.V_below (by(with_reducible repeat(first|apply Kd.V_alloc|apply Kd.V_drewN|apply Kd.V_drew));exact HO0_0.out) hb);replace HO0_1:=A0_ (Kd.V_below (by(with_reducible repeat(first|apply Kd.V_alloc|apply Kd.V_drewN|apply Kd.V_drew));exact HO0_1.out) hb);replace BK119:=zK BK119 hb;replace HB:=zB HB hb;(try clear hb);have hcz12_0:=zc0 BK119;have hcz12_1:=zc1 BK119;have hfz12_0:=kF BK119.out 0;have hfz12_1:=kF BK119.out 1))
    go_meet
    case rel=>exact⟨_,(((l0_0.length:Int) != (l0_1.length:Int))),zt,H',zo,⟨by(with_reducible repeat(first|apply Kd.V_alloc|apply Kd.V_drewN|apply Kd.V_drew));exact HO0_0.out⟩,⟨by(with_reducible repeat(first|apply Kd.V_alloc|apply Kd.V_drewN|apply Kd.V_drew));exact HO0_1.out⟩,⟨zK_ BK119⟩,⟨zB_ HB⟩⟩
   replace c7:=Bool.eq_false_iff.mpr c7;subst c7
   rw [if_neg (show ¬ (false=true) by decide)] at H
   have H':=A0_ H;clear H;have hcz13_0:=zc0 BK119;have hcz13_1:=zc1 BK119;have hfz13_0:=kF BK119.out 0;have hfz13_1:=kF BK119.out 1
   go_wp2_with (first|((with_reducible refine gC (f:=47) rfl ?_);refine zJ (some 7) Try.func47 #[.slice A0_0 l0_0.length c0_0] ?_;(with_reducible refine(impl_PermValid.calls _ _ l0_0 true _ ?side1 ?side2 A4.out).mono ?_);(case side1=>repeat(first|exact(Kd.V_reads' HO0_0.out).2.2|(with_reducible refine cA ?_ _)|(with_reducible refine cN ?_ _)|(with_reducible refine cD ?_)));(case side2=>exact(Kd.V_reads' HO0_0.out).2.1);rintro e w14 ⟨rfl,hb⟩;refine⟨_,rfl,?_⟩;replace HO0_0:=A0_ (Kd.V_below (by(with_reducible repeat(first|apply Kd.V_alloc|apply Kd.V_drewN|apply Kd.V_drew));exact HO0_0.out) hb);replace HO0_1:=A0_ (Kd.V_below (by(with_reducible repeat(first|apply Kd.V_alloc|apply Kd.V_drewN|apply Kd.V_drew));exact HO0_1.out) hb);replace BK119:=zK BK119 hb;replace HB:=zB HB hb;(try clear hb);have hcz15_0:=zc0 BK119;have hcz15_1:=zc1 BK119;have hfz15_0:=kF BK119.out 0;have hfz15_1:=kF BK119.out 1)|(go_at_call 47;(with_reducible refine(impl_PermValid.calls _ _ l0_1 false _ ?side1 ?side2 A6.out).mono ?_);(case side1=>repeat(first|exact(Kd.V_reads' HO0_1.out).2.2|(with_reducible refine cA ?_ _)|(with_reducible refine cN ?_ _)|(with_reducible refine cD ?_)));(case side2=>exact(Kd.V_reads' HO0_1.out).2.1);rintro e w16 ⟨rfl,hb⟩;replace HO0_0:=A0_ (Kd.V_below (by(with_reducible repeat(first|apply Kd.V_alloc|apply Kd.V_drewN|apply Kd.V_drew));exact HO0_0.out) hb);replace HO0_1:=A0_ (Kd.V_below (by(with_reducible repeat(first|apply Kd.V_alloc|apply Kd.V_drewN|apply Kd.V_drew));exact HO0_1.out) hb);replace BK119:=zK BK119 hb;replace HB:=zB HB hb;(try clear hb)))
   go_meet
   case rel=>exact⟨_,(true),zt,H',zo,⟨by(with_reducible repeat(first|apply Kd.V_alloc|apply Kd.V_drewN|apply Kd.V_drew));exact HO0_0.out⟩,⟨by(with_reducible repeat(first|apply Kd.V_alloc|apply Kd.V_drewN|apply Kd.V_drew));exact HO0_1.out⟩,⟨zK_ BK119⟩,⟨zB_ HB⟩⟩
  replace c5:=Bool.eq_false_iff.mpr c5;subst c5
  rw [if_neg (show ¬ (false=true) by decide)] at H
  have H':=A0_ H;clear H;have hcz17_0:=zc0 BK119;have hcz17_1:=zc1 BK119;have hfz17_0:=kF BK119.out 0;have hfz17_1:=kF BK119.out 1
  go_wp2_with (first|((with_reducible refine gC (f:=47) rfl ?_);refine zJ (some 7) Try.func47 #[.slice A0_0 l0_0.length c0_0] ?_;(with_reducible refine(impl_PermValid.calls _ _ l0_0 false _ ?side1 ?side2 A4.out).mono ?_);(case side1=>repeat(first|exact(Kd.V_reads' HO0_0.out).2.2|(with_reducible refine cA ?_ _)|(with_reducible refine cN ?_ _)|(with_reducible refine cD ?_)));(case side2=>exact(Kd.V_reads' HO0_0.out).2.1);rintro e w18 ⟨rfl,hb⟩;refine⟨_,rfl,?_⟩;replace HO0_0:=A0_ (Kd.V_below (by(with_reducible repeat(first|apply Kd.V_alloc|apply Kd.V_drewN|apply Kd.V_drew));exact HO0_0.out) hb);replace HO0_1:=A0_ (Kd.V_below (by(with_reducible repeat(first|apply Kd.V_alloc|apply Kd.V_drewN|apply Kd.V_drew));exact HO0_1.out) hb);replace BK119:=zK BK119 hb;replace HB:=zB HB hb;(try clear hb)))
  go_meet
  case rel=>exact⟨_,(true),zt,H',zo,⟨by(with_reducible repeat(first|apply Kd.V_alloc|apply Kd.V_drewN|apply Kd.V_drew));exact HO0_0.out⟩,⟨by(with_reducible repeat(first|apply Kd.V_alloc|apply Kd.V_drewN|apply Kd.V_drew));exact HO0_1.out⟩,⟨zK_ BK119⟩,⟨zB_ HB⟩⟩
 case rest =>
  clear HC2;(try clear p2);(try clear c4);(try clear c5);(try clear c7);(try clear hcz10_0);(try clear hcz10_1);(try clear hcz12_0);(try clear hcz12_1);(try clear hcz13_0);(try clear hcz13_1);(try clear hcz15_0);(try clear hcz15_1);(try clear hcz17_0);(try clear hcz17_1);(try clear hcz8_0);(try clear hcz8_1);(try clear hfz10_0);(try clear hfz10_1);(try clear hfz12_0);(try clear hfz12_1);(try clear hfz13_0);(try clear hfz13_1);(try clear hfz15_0);(try clear hfz15_1);(try clear hfz17_0);(try clear hfz17_1);(try clear hfz8_0);(try clear hfz8_1);obtain⟨kq,x23_1,rfl,HA,HJ1,HO_120000,HO_120001,BK119,HB⟩:=hcut
  cases kq with
  | zero=>exact absurd HA.out (by simp [impl_MapValid.j0])
  | succ kj1 =>
   have H:=HA.out;clear HA;simp only [impl_MapValid.j0] at H
   by_cases c19:x23_1=true
   ·subst c19
    rw [if_pos rfl] at H;obtain rfl:=sI H
    go_wp2
    go_ret
    exact⟨by first|rfl|(simp [*] <;> rfl),zB_ HB⟩
   replace c19:=Bool.eq_false_iff.mpr c19;subst c19
   rw [if_neg (show ¬ (false=true) by decide)] at H
   have H':=A0_ H;clear H;have hcz20_0:=zc0 BK119;have hcz20_1:=zc1 BK119;have hfz20_0:=kF BK119.out 0;have hfz20_1:=kF BK119.out 1
   go_wp2
   go_loopg [27] kj1 (fun kq v27 w' => ∃ (x27_2:Int),v27 = .int .i64 x27_2∧Aside0 (impl_MapValid.l0 kq l0_1 (l0_1.length:Int) x27_2 l0_0 l0_1=some r)∧Aside0 (kq≤kj1)∧Aside0 (Kd.V (Kd.int .i64) 3 w' w.heap.size (fun k_=>((P0_0_ k_∨P0_1_ k_)∨w.heap.size≤k_)∧k_≠gb119) (.slice A0_1 l0_1.length c0_1) l0_1)∧Aside0 (Kd.V (Kd.int .i64) 3 w' w.heap.size (fun k_=>((P0_0_ k_∨P0_1_ k_)∨w.heap.size≤k_)∧k_≠gb119) (.slice A0_0 l0_0.length c0_0) l0_0)∧Aside0 (Kd.V (Kd.int .i64) 3 w' w.heap.size (fun k_=>((P0_0_ k_∨P0_1_ k_)∨w.heap.size≤k_)∧k_≠gb119) (.slice A0_1 l0_1.length c0_1) l0_1)∧Aside0 (w'.heap[gb119]? = some (.cells #[(.slice A0_0 l0_0.length c0_0),(.slice A0_1 l0_1.length c0_1)] 25 (0,0)))∧Aside0 (Below w.heap.size w w'))
   case atStart=>exact⟨(0),zt,H',⟨Nat.le_refl _⟩,⟨by(with_reducible repeat(first|apply Kd.V_alloc|apply Kd.V_drewN|apply Kd.V_drew));exact HO_120001.out⟩,⟨by(with_reducible repeat(first|apply Kd.V_alloc|apply Kd.V_drewN|apply Kd.V_drew));exact HO_120000.out⟩,⟨by(with_reducible repeat(first|apply Kd.V_alloc|apply Kd.V_drewN|apply Kd.V_drew));exact HO_120001.out⟩,⟨zK_ BK119⟩,⟨zB_ HB⟩⟩
   case round =>
    clear H';(try clear c1);(try clear p2);(try clear c4);(try clear c5);(try clear c7);(try clear c19);(try clear hcz10_0);(try clear hcz10_1);(try clear hcz12_0);(try clear hcz12_1);(try clear hcz13_0);(try clear hcz13_1);(try clear hcz15_0);(try clear hcz15_1);(try clear hcz17_0);(try clear hcz17_1);(try clear hcz20_0);(try clear hcz20_1);(try clear hcz8_0);(try clear hcz8_1);(try clear hfz10_0);(try clear hfz10_1);(try clear hfz12_0);(try clear hfz12_1);(try clear hfz13_0);(try clear hfz13_1);(try clear hfz15_0);(try clear hfz15_1);(try clear hfz17_0);(try clear hfz17_1);(try clear hfz20_0);(try clear hfz20_1);(try clear hfz8_0);(try clear hfz8_1);(try clear p2);obtain⟨x27_2,rfl,HA,HK2,HO_25,HO_120000,HO_120001,BK119,HB⟩:=hrel
    cases gk with
    | zero=>exact absurd HA.out (by simp [impl_MapValid.l0])
    | succ k2 =>
     have H:=HA.out;clear HA;simp only [impl_MapValid.l0] at H
     by_cases c21:x27_2<(l0_1.length:Int)
     ·rw [if_pos c21] at H
      have c21b0:=dT c21;clear c21
      have c22:=zpc H;replace H:=zph H
      have c22b0:=dT c22;clear c22
      have c23:=zpc H;replace H:=zph H
      have c23b0:=dT c23;clear c23
      by_cases c24:(rd l0_1 x27_2)=x27_2
      ·rw [if_pos c24] at H
       have c24b0:((rd l0_1 x27_2) == x27_2)=true:=beq_iff_eq.mpr c24
       have c24b1:((rd l0_1 x27_2) != x27_2)=false:=bne_eq_false_iff_eq.mpr c24
       clear c24;obtain rfl:=sI H
       have p122:0≤(x27_2:Int):=zd
       have q122:x27_2<(l0_1.length:Int):=zd
       obtain⟨ad122,e122,hx122_0⟩:=tI (Kd.V_reads' HO_25.out).2.2 x27_2 p122 q122
       cases e122
       replace p122:=eq_true p122;replace q122:=eq_true q122
       go_wp2
       go_ret
       exact⟨by first|rfl|(simp [*] <;> rfl),zB_ HB⟩
      rw [if_neg c24] at H
      have c24b0:((rd l0_1 x27_2) == x27_2)=false:=beq_eq_false_iff_ne.mpr c24
      have c24b1:((rd l0_1 x27_2) != x27_2)=true:=bne_iff_ne.mpr c24
      have c25:=zpc H;replace H:=zph H
      have c25b0:=dT c25;clear c25
      have c26:=zpc H;replace H:=zph H
      have c26b0:=dT c26;clear c26
      by_cases c27:(rd l0_1 (rd l0_1 x27_2))=x27_2
      ·rw [if_pos c27] at H
       have c27b0:((rd l0_1 (rd l0_1 x27_2)) == x27_2)=true:=beq_iff_eq.mpr c27
       have c27b1:((rd l0_1 (rd l0_1 x27_2)) != x27_2)=false:=bne_eq_false_iff_eq.mpr c27
       clear c27;have H':=A0_ H;clear H
       have p122:0≤(x27_2:Int):=zd
       have q122:x27_2<(l0_1.length:Int):=zd
       obtain⟨ad122,e122,hx122_0⟩:=tI (Kd.V_reads' HO_25.out).2.2 x27_2 p122 q122
       cases e122
       replace p122:=eq_true p122;replace q122:=eq_true q122;have hcz28_0:=zc0 BK119;have hcz28_1:=zc1 BK119;have hfz28_0:=kF BK119.out 0;have hfz28_1:=kF BK119.out 1
       have p123:0≤((rd l0_1 x27_2):Int):=zd
       have q123:(rd l0_1 x27_2)<(l0_1.length:Int):=zd
       obtain⟨ad123,e123,hx123_0⟩:=tI (Kd.V_reads' HO_120001.out).2.2 (rd l0_1 x27_2) p123 q123
       obtain rfl:ad122=ad123:=(by injection e123)
       replace p123:=eq_true p123;replace q123:=eq_true q123
       go_wp2
       go_roundg k2
       case measure=>have:=HJ1.out;have:=HK2.out;omega
       case rel=>exact⟨(wrap64 (x27_2+1)),zt,H',⟨by have:=HJ1.out;have:=HK2.out;omega⟩,⟨by(with_reducible repeat(first|apply Kd.V_alloc|apply Kd.V_drewN|apply Kd.V_drew));exact HO_25.out⟩,⟨by(with_reducible repeat(first|apply Kd.V_alloc|apply Kd.V_drewN|apply Kd.V_drew));exact HO_120000.out⟩,⟨by(with_reducible repeat(first|apply Kd.V_alloc|apply Kd.V_drewN|apply Kd.V_drew));exact HO_120001.out⟩,⟨zK_ BK119⟩,⟨zB_ HB⟩⟩
      rw [if_neg c27] at H
      have c27b0:((rd l0_1 (rd l0_1 x27_2)) == x27_2)=false:=beq_eq_false_iff_ne.mpr c27
      have c27b1:((rd l0_1 (rd l0_1 x27_2)) != x27_2)=true:=bne_iff_ne.mpr c27
      obtain rfl:=sI H
      have p122:0≤(x27_2:Int):=zd
      have q122:x27_2<(l0_1.length:Int):=zd
      obtain⟨ad122,e122,hx122_0⟩:=tI (Kd.V_reads' HO_25.out).2.2 x27_2 p122 q122
      cases e122
      replace p122:=eq_true p122;replace q122:=eq_true q122;have hcz29_0:=zc0 BK119;have hcz29_1:=zc1 BK119;have hfz29_0:=kF BK119.out 0;have hfz29_1:=kF BK119.out 1
      have p123:0≤((rd l0_1 x27_2):Int):=zd
      have q123:(rd l0_1 x27_2)<(l0_1.length:Int):=zd
      obtain⟨ad123,e123,hx123_0⟩:=tI (Kd.V_reads' HO_120001.out).2.2 (rd l0_1 x27_2) p123 q123
      obtain rfl:ad122=ad123:=(by injection e123)
      replace p123:=eq_true p123;replace q123:=eq_true q123
      go_wp2
      go_ret
      exact⟨by first|rfl|(simp [*] <;> rfl),zB_ HB⟩
     rw [if_neg c21] at H;have c21b0:=dF c21;clear c21
     obtain⟨y124,hy124⟩ : ∃ y_:List (List Int),y_=(([l0_0,l0_1]:List (List Int))):=⟨_,rfl⟩
     replace H:((impl_orbits.f k2 y124).bind fun t127=>((slices_Max_int_int.f t127).bind fun t130=>(some (t130 == 0))))=some r:=zH hy124 H
     have Ny124:=A0_ hy124;clear hy124;obtain⟨t127,A30,H⟩:=zbind H;obtain⟨t130,A31,H⟩:=zbind H;obtain rfl:=sI H;have hcz32_0:=zc0 BK119;have hcz32_1:=zc1 BK119;have hfz32_0:=kF BK119.out 0;have hfz32_1:=kF BK119.out 1
     go_wp2_with (first|((with_reducible refine gD (N:=49) rfl ?_);refine Kd.N_lit (Kd.slice 3 (Kd.int .i64)) _ 23 ?hg (N':=49) ?hd (xs:=([l0_0,l0_1]:List (List Int))) (inner := [.slice A0_0 l0_0.length c0_0,.slice A0_1 l0_1.length c0_1]) (ok:=(fun k_=>((P0_0_ k_∨P0_1_ k_)∨w.heap.size≤k_)∧k_≠gb119)) (okp:=(fun k_=>((P0_0_ k_∨P0_1_ k_)∨w.heap.size≤k_)∧k_≠gb119)) ?hr ?hp (fun _ hk=>hk) ((show ∀ k_,wr.heap.size≤k_→(fun k_=>((P0_0_ k_∨P0_1_ k_)∨w.heap.size≤k_)∧k_≠gb119) k_ from fun k_ hk=>⟨(.inr (Nat.le_trans (bZ (zB_ HB)) hk)),Kd.freshB (g:=gb119) (o := .cells #[.slice A0_0 l0_0.length c0_0,.slice A0_1 l0_1.length c0_1] 25 (0,0)) (zK_ BK119) k_ hk⟩) _ (Nat.le_refl _)) (Below.refl _ _) (Nat.le_refl _) (by simp) ?_;(case hd=>rfl);(case hg=>rfl);(case hr=>first|(go_simp;done)|(go_simp;rfl));(case hp=>exact(Reps.one (show Kd.FK (Kd.slice 3 (Kd.int .i64)) _ _ l0_0 [.slice A0_0 l0_0.length c0_0] from(Kd.FK_slice_mk (Kd.V_reads' (Kd.V_mono (ok':=(fun k_=>((P0_0_ k_∨P0_1_ k_)∨w.heap.size≤k_)∧k_≠gb119)) (HO_120000.out) (fun k_ hk=>⟨hk.1,hk.2⟩))).2.1 (Kd.V_F (Kd.V_mono (ok':=(fun k_=>((P0_0_ k_∨P0_1_ k_)∨w.heap.size≤k_)∧k_≠gb119)) (HO_120000.out) (fun k_ hk=>⟨hk.1,hk.2⟩))))) (Reps.one (show Kd.FK (Kd.slice 3 (Kd.int .i64)) _ _ l0_1 [.slice A0_1 l0_1.length c0_1] from(Kd.FK_slice_mk (Kd.V_reads' (Kd.V_mono (ok':=(fun k_=>((P0_0_ k_∨P0_1_ k_)∨w.heap.size≤k_)∧k_≠gb119)) (HO_120001.out) (fun k_ hk=>⟨hk.1,hk.2⟩))).2.1 (Kd.V_F (Kd.V_mono (ok':=(fun k_=>((P0_0_ k_∨P0_1_ k_)∨w.heap.size≤k_)∧k_≠gb119)) (HO_120001.out) (fun k_ hk=>⟨hk.1,hk.2⟩))))) (Reps.none _ _))));intro v125 w33 ho34 hb hg_ hnew_;clear hg_ hnew_;(first|rw [← Ny124.out] at ho34|(simp only [Int.reduceToNat] at ho34;rw [← Ny124.out] at ho34));replace HO_25:=A0_ (Kd.V_elder' (by(with_reducible repeat(first|apply Kd.V_alloc|apply Kd.V_drewN|apply Kd.V_drew));exact HO_25.out) (Kd.N_base ho34) hb);replace HO_120000:=A0_ (Kd.V_elder' (by(with_reducible repeat(first|apply Kd.V_alloc|apply Kd.V_drewN|apply Kd.V_drew));exact HO_120000.out) (Kd.N_base ho34) hb);replace HO_120001:=A0_ (Kd.V_elder' (by(with_reducible repeat(first|apply Kd.V_alloc|apply Kd.V_drewN|apply Kd.V_drew));exact HO_120001.out) (Kd.N_base ho34) hb);have HO126:=A0_ (Kd.N_lower ho34 (bZ (zB_ HB)));replace BK119:=zK BK119 hb;replace HB:=zB HB hb;clear hb ho34;obtain⟨Ao35,co35,eo35⟩:=Kd.N_slice HO126.out;subst eo35)|((with_reducible refine gC (f:=100) rfl ?_);refine zJ (some 50) Try.func100 #[.slice Ao35 y124.length co35] ?_;(with_reducible refine(impl_orbits.calls k2 _ _ y124 t127 _ ?side1 ?side2 A30.out).mono ?_);(case side1=>repeat(first|exact(Kd.N_reads' HO126.out).2.2|(with_reducible refine cA ?_ _)|(with_reducible refine cN ?_ _)|(with_reducible refine cD ?_)));(case side2=>exact(Kd.N_reads' HO126.out).2.1);rintro e w36 ⟨v128,rfl,ho0,hb⟩;refine⟨_,rfl,?_⟩;replace HO_25:=A0_ (Kd.V_elder' (by(with_reducible repeat(first|apply Kd.V_alloc|apply Kd.V_drewN|apply Kd.V_drew));exact HO_25.out) (Kd.R_base ho0) hb);replace HO_120000:=A0_ (Kd.V_elder' (by(with_reducible repeat(first|apply Kd.V_alloc|apply Kd.V_drewN|apply Kd.V_drew));exact HO_120000.out) (Kd.R_base ho0) hb);replace HO_120001:=A0_ (Kd.V_elder' (by(with_reducible repeat(first|apply Kd.V_alloc|apply Kd.V_drewN|apply Kd.V_drew));exact HO_120001.out) (Kd.R_base ho0) hb);replace HO126:=A0_ (Kd.N_elder' (by(with_reducible repeat(first|apply Kd.N_alloc|apply Kd.N_drewN|apply Kd.N_drew));exact HO126.out) (Kd.R_base ho0) hb);have HO129:=A0_ (rL (Kd.R_newM (M:=fun k_=>(w.heap.size≤k_)) ho0 (bZ (zB_ HB)) (fun k_ h_=>h_)) (bZ (zB_ HB)));replace BK119:=zK BK119 hb;replace HB:=zB HB hb;(try clear hb);(try clear ho0);obtain⟨Ao37,co37,eo37⟩:=rS HO129.out;subst eo37)|((with_reducible refine gC (f:=99) rfl ?_);refine zJ (some 51) Try.func99 #[.slice Ao37 t127.length co37] ?_;(with_reducible refine(slices_Max_int_int.calls _ _ t127 t130 _ ?side1 ?side2 A31.out).mono ?_);(case side1=>exact zD HO129);(case side2=>exact(rR HO129.out).2.1);rintro e w' ⟨rfl,⟨nd,rfl⟩⟩;refine⟨_,rfl,?_⟩))
     go_ret
     exact⟨by first|rfl|(simp [*] <;> rfl),zB_ HB⟩

/-! ### impl_VoltageValid: function 53 -/
mutual
def impl_VoltageValid.j0:Nat→Int→List (List Int)→Bool→Option (Bool)
  | 0,_,_,_=>none
  | k+1,x1,x2,x36=>if x36=true then (some false) else (impl_VoltageValid.l0 k x1 x2 (x2.length:Int) 0)
def impl_VoltageValid.l0:Nat→Int→List (List Int)→Int→Int→Option (Bool)
  | 0,_,_,_,_=>none
  | k+1,x1,x37,x38,x39=>if x39<x38 then (if 0≤x39 then (if x39<(x37.length:Int) then ((impl_PermValid.f (rd_L1 x37 x39)).bind fun t134=>(if t134=true then (if ((rd_L1 x37 x39).length:Int)=x1 then (impl_VoltageValid.l0 k x1 x37 x38 (wrap64 (x39+1))) else (some false)) else (some false))) else (none)) else (none)) else (some true)
end
def impl_VoltageValid.f (k:Nat) (l0_0:List Int) (l0_1:List Int) (a1:Int) (l2:List (List Int)):Option (Bool):=(impl_MapValid.f k l0_0 l0_1).bind fun t132=>(if t132=true then (if a1<1 then (impl_VoltageValid.j0 k a1 l2 true) else (if a1>6 then (impl_VoltageValid.j0 k a1 l2 true) else (if (wrap64 ((l0_0.length:Int)*a1))>12 then (impl_VoltageValid.j0 k a1 l2 true) else (impl_VoltageValid.j0 k a1 l2 ((l2.length:Int) != (wrap64 ((l0_1.length:Int) / 2))))))) else (impl_VoltageValid.j0 k a1 l2 true))
set_option maxHeartbeats 8000000 in
set_option maxRecDepth 100000 in
theorem impl_VoltageValid.calls (k:Nat) (A0_0:Option Addr) (c0_0:Nat) (l0_0:List Int) (A0_1:Option Addr) (c0_1:Nat) (l0_1:List Int) (a1:Int) (A2:Option Addr) (c2:Nat) (l2:List (List Int)) (r:Bool) (w:World) (hr0_0:Kd.C (Kd.int .i64) w A0_0 l0_0.length l0_0) (hc0_0:l0_0.length≤c0_0) (hr0_1:Kd.C (Kd.int .i64) w A0_1 l0_1.length l0_1) (hc0_1:l0_1.length≤c0_1) (hr2:Kd.C (Kd.slice 3 (Kd.int .i64)) w A2 l2.length l2) (hc2:l2.length≤c2) (h:impl_VoltageValid.f k l0_0 l0_1 a1 l2=some r) :
    Calls Try.prog 53 #[.agg #[.slice A0_0 l0_0.length c0_0,.slice A0_1 l0_1.length c0_1],.int .i64 a1,.slice A2 l2.length c2] w fun e w'=>e = .returned (.bool r)∧Below w.heap.size w w':=by
 have hu25:=Try.underlying25;have HR0_0:=A0_ hr0_0;have HC0_0:=A0_ hc0_0;clear hr0_0 hc0_0;have HR0_1:=A0_ hr0_1;have HC0_1:=A0_ hc0_1;clear hr0_1 hc0_1;have HR2:=A0_ hr2;have HC2:=A0_ hc2;clear hr2 hc2
 have HB:=A0_ (Below.refl w.heap.size w)
 have H:((impl_MapValid.f k l0_0 l0_1).bind fun t132=>(if t132=true then (if a1<1 then (impl_VoltageValid.j0 k a1 l2 true) else (if a1>6 then (impl_VoltageValid.j0 k a1 l2 true) else (if (wrap64 ((l0_0.length:Int)*a1))>12 then (impl_VoltageValid.j0 k a1 l2 true) else (impl_VoltageValid.j0 k a1 l2 ((l2.length:Int) != (wrap64 ((l0_1.length:Int) / 2))))))) else (impl_VoltageValid.j0 k a1 l2 true)))=some r:=h
 clear h;have HC4:=A0_ H;clear H
 go_enter Try.func53,Try.ntmps53
 go_upto_region 1 with(first|((with_reducible refine gD (N:=3) rfl ?_);refine zX (N:=3) (cs := #[.slice A0_0 l0_0.length c0_0,.slice A0_1 l0_1.length c0_1]) (t:=25) ?_;intro gb131 hg w5 hbox hb;have BK131:=A0_ (hbox);have GW131:=zG hg HB;have GE131:=zG hg HB;replace HB:=zB HB hb;clear hb hbox hg))
 (try simp only [Act.put,List.setIfInBounds_toArray,List.set_cons_zero,List.set_cons_succ])
 go_cut [36] (fun v36 wc => ∃ (kq:Nat) (x36_3:Bool),v36 = .bool x36_3∧Aside0 (impl_VoltageValid.j0 kq a1 l2 x36_3=some r)∧Aside0 (kq≤k)∧Aside0 (wc.heap[gb131]? = some (.cells #[(.slice A0_0 l0_0.length c0_0),(.slice A0_1 l0_1.length c0_1)] 25 (0,0)))∧Aside0 (Below w.heap.size w wc))
 case first =>
  have H:=HC4.out;clear HC4;obtain⟨t132,A6,H⟩:=zbind H
  by_cases c7:t132=true
  ·subst c7
   rw [if_pos rfl] at H
   by_cases c8:a1<1
   ·rw [if_pos c8] at H
    have c8b0:=dT c8;clear c8
    (first|rw [c8b0]|(simp only [i64_w,i32_w];rw [c8b0])|skip)
    have H':=A0_ H;clear H;have hcz9_0:=zc0 BK131;have hcz9_1:=zc1 BK131;have hfz9_0:=kF BK131.out 0;have hfz9_1:=kF BK131.out 1
    go_wp2_with (first|((with_reducible refine gC (f:=54) rfl ?_);refine zJ (some 10) Try.func54 #[.agg #[.slice A0_0 l0_0.length c0_0,.slice A0_1 l0_1.length c0_1]] ?_;(with_reducible refine(impl_MapValid.calls k (fun k_=>k_<w.heap.size) _ _ l0_0 (fun k_=>k_<w.heap.size) _ _ l0_1 true _ ?side1 ?side2 A6.out).mono ?_);(case side1=>exact Kd.V_mk HC0_0.out (Kd.F_below (Kd.C_F (Kd.heap_int .i64) HR0_0.out) (zB_ HB)));(case side2=>exact Kd.V_mk HC0_1.out (Kd.F_below (Kd.C_F (Kd.heap_int .i64) HR0_1.out) (zB_ HB)));rintro e w10 ⟨rfl,hb⟩;refine⟨_,rfl,?_⟩;replace BK131:=zK BK131 hb;replace HB:=zB HB hb;(try clear hb)))
    go_meet
    case rel=>exact⟨_,(true),zt,H',zo,⟨zK_ BK131⟩,⟨zB_ HB⟩⟩
   rw [if_neg c8] at H;have c8b0:=dF c8;clear c8
   (first|rw [c8b0]|(simp only [i64_w,i32_w];rw [c8b0])|skip)
   by_cases c11:a1>6
   ·rw [if_pos c11] at H
    have c11b0:decide (6<a1)=true:=dT c11
    clear c11;have H':=A0_ H;clear H;have hcz12_0:=zc0 BK131;have hcz12_1:=zc1 BK131;have hfz12_0:=kF BK131.out 0;have hfz12_1:=kF BK131.out 1
    go_wp2_with (first|((with_reducible refine gC (f:=54) rfl ?_);refine zJ (some 10) Try.func54 #[.agg #[.slice A0_0 l0_0.length c0_0,.slice A0_1 l0_1.length c0_1]] ?_;(with_reducible refine(impl_MapValid.calls k (fun k_=>k_<w.heap.size) _ _ l0_0 (fun k_=>k_<w.heap.size) _ _ l0_1 true _ ?side1 ?side2 A6.out).mono ?_);(case side1=>exact Kd.V_mk HC0_0.out (Kd.F_below (Kd.C_F (Kd.heap_int .i64) HR0_0.out) (zB_ HB)));(case side2=>exact Kd.V_mk HC0_1.out (Kd.F_below (Kd.C_F (Kd.heap_int .i64) HR0_1.out) (zB_ HB)));rintro e w13 ⟨rfl,hb⟩;refine⟨_,rfl,?_⟩;replace BK131:=zK BK131 hb;replace HB:=zB HB hb;(try clear hb)))
    go_meet
    case rel=>exact⟨_,(true),zt,H',zo,⟨zK_ BK131⟩,⟨zB_ HB⟩⟩
   rw [if_neg c11] at H
   have c11b0:decide (6<a1)=false:=dF c11
   clear c11
   by_cases c14:(wrap64 ((l0_0.length:Int)*a1))>12
   ·rw [if_pos c14] at H
    have c14b0:decide (12<(wrap64 ((l0_0.length:Int)*a1)))=true:=dT c14
    clear c14;have H':=A0_ H;clear H;have hcz15_0:=zc0 BK131;have hcz15_1:=zc1 BK131;have hfz15_0:=kF BK131.out 0;have hfz15_1:=kF BK131.out 1
    go_wp2_with (first|((with_reducible refine gC (f:=54) rfl ?_);refine zJ (some 10) Try.func54 #[.agg #[.slice A0_0 l0_0.length c0_0,.slice A0_1 l0_1.length c0_1]] ?_;(with_reducible refine(impl_MapValid.calls k (fun k_=>k_<w.heap.size) _ _ l0_0 (fun k_=>k_<w.heap.size) _ _ l0_1 true _ ?side1 ?side2 A6.out).mono ?_);(case side1=>exact Kd.V_mk HC0_0.out (Kd.F_below (Kd.C_F (Kd.heap_int .i64) HR0_0.out) (zB_ HB)));(case side2=>exact Kd.V_mk HC0_1.out (Kd.F_below (Kd.C_F (Kd.heap_int .i64) HR0_1.out) (zB_ HB)));rintro e w16 ⟨rfl,hb⟩;refine⟨_,rfl,?_⟩;replace BK131:=zK BK131 hb;replace HB:=zB HB hb;(try clear hb);have hcz17_0:=zc0 BK131;have hcz17_1:=zc1 BK131;have hfz17_0:=kF BK131.out 0;have hfz17_1:=kF BK131.out 1))
    go_meet
    case rel=>exact⟨_,(true),zt,H',zo,⟨zK_ BK131⟩,⟨zB_ HB⟩⟩
   rw [if_neg c14] at H
   have c14b0:decide (12<(wrap64 ((l0_0.length:Int)*a1)))=false:=dF c14
   clear c14;have H':=A0_ H;clear H;have hcz18_0:=zc0 BK131;have hcz18_1:=zc1 BK131;have hfz18_0:=kF BK131.out 0;have hfz18_1:=kF BK131.out 1
   go_wp2_with (first|((with_reducible refine gC (f:=54) rfl ?_);refine zJ (some 10) Try.func54 #[.agg #[.slice A0_0 l0_0.length c0_0,.slice A0_1 l0_1.length c0_1]] ?_;(with_reducible refine(impl_MapValid.calls k (fun k_=>k_<w.heap.size) _ _ l0_0 (fun k_=>k_<w.heap.size) _ _ l0_1 true _ ?side1 ?side2 A6.out).mono ?_);(case side1=>exact Kd.V_mk HC0_0.out (Kd.F_below (Kd.C_F (Kd.heap_int .i64) HR0_0.out) (zB_ HB)));(case side2=>exact Kd.V_mk HC0_1.out (Kd.F_below (Kd.C_F (Kd.heap_int .i64) HR0_1.out) (zB_ HB)));rintro e w19 ⟨rfl,hb⟩;refine⟨_,rfl,?_⟩;replace BK131:=zK BK131 hb;replace HB:=zB HB hb;(try clear hb);have hcz20_0:=zc0 BK131;have hcz20_1:=zc1 BK131;have hfz20_0:=kF BK131.out 0;have hfz20_1:=kF BK131.out 1))
   go_meet
   case rel=>exact⟨_,(((l2.length:Int) != (wrap64 ((l0_1.length:Int) / 2)))),zt,H',zo,⟨zK_ BK131⟩,⟨zB_ HB⟩⟩
  replace c7:=Bool.eq_false_iff.mpr c7;subst c7
  rw [if_neg (show ¬ (false=true) by decide)] at H
  have H':=A0_ H;clear H;have hcz21_0:=zc0 BK131;have hcz21_1:=zc1 BK131;have hfz21_0:=kF BK131.out 0;have hfz21_1:=kF BK131.out 1
  go_wp2_with (first|((with_reducible refine gC (f:=54) rfl ?_);refine zJ (some 10) Try.func54 #[.agg #[.slice A0_0 l0_0.length c0_0,.slice A0_1 l0_1.length c0_1]] ?_;(with_reducible refine(impl_MapValid.calls k (fun k_=>k_<w.heap.size) _ _ l0_0 (fun k_=>k_<w.heap.size) _ _ l0_1 false _ ?side1 ?side2 A6.out).mono ?_);(case side1=>exact Kd.V_mk HC0_0.out (Kd.F_below (Kd.C_F (Kd.heap_int .i64) HR0_0.out) (zB_ HB)));(case side2=>exact Kd.V_mk HC0_1.out (Kd.F_below (Kd.C_F (Kd.heap_int .i64) HR0_1.out) (zB_ HB)));rintro e w22 ⟨rfl,hb⟩;refine⟨_,rfl,?_⟩;replace BK131:=zK BK131 hb;replace HB:=zB HB hb;(try clear hb)))
  go_meet
  case rel=>exact⟨_,(true),zt,H',zo,⟨zK_ BK131⟩,⟨zB_ HB⟩⟩
 case rest =>
  clear HC4;(try clear c1);(try clear c2);(try clear p2);(try clear c5);(try clear p6);(try clear c7);(try clear c8);(try clear c8b0);(try clear c11);(try clear c11b0);(try clear c14);(try clear c14b0);(try clear hcz12_0);(try clear hcz12_1);(try clear hcz15_0);(try clear hcz15_1);(try clear hcz17_0);(try clear hcz17_1);(try clear hcz18_0);(try clear hcz18_1);(try clear hcz20_0);(try clear hcz20_1);(try clear hcz21_0);(try clear hcz21_1);(try clear hcz9_0);(try clear hcz9_1);(try clear hfz12_0);(try clear hfz12_1);(try clear hfz15_0);(try clear hfz15_1);(try clear hfz17_0);(try clear hfz17_1);(try clear hfz18_0);(try clear hfz18_1);(try clear hfz20_0);(try clear hfz20_1);(try clear hfz21_0);(try clear hfz21_1);(try clear hfz9_0);(try clear hfz9_1);obtain⟨kq,x36_3,rfl,HA,HJ3,BK131,HB⟩:=hcut
  cases kq with
  | zero=>exact absurd HA.out (by simp [impl_VoltageValid.j0])
  | succ kj3 =>
   have H:=HA.out;clear HA;simp only [impl_VoltageValid.j0] at H
   by_cases c23:x36_3=true
   ·subst c23
    rw [if_pos rfl] at H;obtain rfl:=sI H
    go_wp2
    go_ret
    exact⟨by first|rfl|(simp [*] <;> rfl),zB_ HB⟩
   replace c23:=Bool.eq_false_iff.mpr c23;subst c23
   rw [if_neg (show ¬ (false=true) by decide)] at H
   have H':=A0_ H;clear H
   go_wp2
   go_loopg [39] kj3 (fun kq v39 w' => ∃ (x39_2:Int),v39 = .int .i64 x39_2∧Aside0 (impl_VoltageValid.l0 kq a1 l2 (l2.length:Int) x39_2=some r)∧Aside0 (kq≤kj3)∧Aside0 (w'.heap[gb131]? = some (.cells #[(.slice A0_0 l0_0.length c0_0),(.slice A0_1 l0_1.length c0_1)] 25 (0,0)))∧Aside0 (Below w.heap.size w w'))
   case atStart=>exact⟨(0),zt,H',⟨Nat.le_refl _⟩,⟨zK_ BK131⟩,⟨zB_ HB⟩⟩
   case round =>
    clear H';(try clear c1);(try clear c2);(try clear p2);(try clear c5);(try clear p6);(try clear c7);(try clear c8);(try clear c8b0);(try clear c11);(try clear c11b0);(try clear c14);(try clear c14b0);(try clear c23);(try clear hcz12_0);(try clear hcz12_1);(try clear hcz15_0);(try clear hcz15_1);(try clear hcz17_0);(try clear hcz17_1);(try clear hcz18_0);(try clear hcz18_1);(try clear hcz20_0);(try clear hcz20_1);(try clear hcz21_0);(try clear hcz21_1);(try clear hcz9_0);(try clear hcz9_1);(try clear hfz12_0);(try clear hfz12_1);(try clear hfz15_0);(try clear hfz15_1);(try clear hfz17_0);(try clear hfz17_1);(try clear hfz18_0);(try clear hfz18_1);(try clear hfz20_0);(try clear hfz20_1);(try clear hfz21_0);(try clear hfz21_1);(try clear hfz9_0);(try clear hfz9_1);(try clear p2);(try clear p6);obtain⟨x39_2,rfl,HA,HK2,BK131,HB⟩:=hrel
    cases gk with
    | zero=>exact absurd HA.out (by simp [impl_VoltageValid.l0])
    | succ k2 =>
     have H:=HA.out;clear HA;simp only [impl_VoltageValid.l0] at H
     by_cases c24:x39_2<(l2.length:Int)
     ·rw [if_pos c24] at H
      have c24b0:=dT c24;clear c24
      have c25:=zpc H;replace H:=zph H
      have c25b0:=dT c25;clear c25
      have c26:=zpc H;replace H:=zph H
      have c26b0:=dT c26;clear c26;obtain⟨t134,A27,H⟩:=zbind H
      by_cases c28:t134=true
      ·subst c28
       rw [if_pos rfl] at H
       by_cases c29:((rd_L1 l2 x39_2).length:Int)=a1
       ·rw [if_pos c29] at H
        have c29b0:(((rd_L1 l2 x39_2).length:Int) == a1)=true:=beq_iff_eq.mpr c29
        have c29b1:(((rd_L1 l2 x39_2).length:Int) != a1)=false:=bne_eq_false_iff_eq.mpr c29
        clear c29;have H':=A0_ H;clear H
        have p133:0≤(x39_2:Int):=zd
        have q133:x39_2<(l2.length:Int):=zd
        obtain⟨ad133,A133_0,c133_0,e133,hx133_0,hl133_0,hi133_0⟩:=at_L1 HR2.out x39_2 p133 q133
        cases e133
        try replace hx133_0:=(HB.out.cell (wL w _ hx133_0)).trans hx133_0
        have HR133_0:=A0_ hi133_0;have HC133_0:=A0_ hl133_0;clear hi133_0 hl133_0;replace p133:=eq_true p133;replace q133:=eq_true q133
        go_wp2_with (first|((with_reducible refine gC (f:=47) rfl ?_);refine zJ (some 44) Try.func47 #[.slice A133_0 (rd_L1 l2 x39_2).length c133_0] ?_;(with_reducible refine(impl_PermValid.calls _ _ (rd_L1 l2 x39_2) true _ ?side1 ?side2 A27.out).mono ?_);(case side1=>exact zC HR133_0 HB);(case side2=>exact HC133_0.out);rintro e w30 ⟨rfl,hb⟩;refine⟨_,rfl,?_⟩;replace BK131:=zK BK131 hb;replace HB:=zB HB hb;(try clear hb)))
        go_roundg k2
        case measure=>have:=HJ3.out;have:=HK2.out;omega
        case rel=>exact⟨(wrap64 (x39_2+1)),zt,H',⟨by have:=HJ3.out;have:=HK2.out;omega⟩,⟨zK_ BK131⟩,⟨zB_ HB⟩⟩
       rw [if_neg c29] at H
       have c29b0:(((rd_L1 l2 x39_2).length:Int) == a1)=false:=beq_eq_false_iff_ne.mpr c29
       have c29b1:(((rd_L1 l2 x39_2).length:Int) != a1)=true:=bne_iff_ne.mpr c29
       obtain rfl:=sI H
       have p133:0≤(x39_2:Int):=zd
       have q133:x39_2<(l2.length:Int):=zd
       obtain⟨ad133,A133_0,c133_0,e133,hx133_0,hl133_0,hi133_0⟩:=at_L1 HR2.out x39_2 p133 q133
       cases e133
       try replace hx133_0:=(HB.out.cell (wL w _ hx133_0)).trans hx133_0
       have HR133_0:=A0_ hi133_0;have HC133_0:=A0_ hl133_0;clear hi133_0 hl133_0;replace p133:=eq_true p133;replace q133:=eq_true q133
       go_wp2_with (first|((with_reducible refine gC (f:=47) rfl ?_);refine zJ (some 44) Try.func47 #[.slice A133_0 (rd_L1 l2 x39_2).length c133_0] ?_;(with_reducible refine(impl_PermValid.calls _ _ (rd_L1 l2 x39_2) true _ ?side1 ?side2 A27.out).mono ?_);(case side1=>exact zC HR133_0 HB);(case side2=>exact HC133_0.out);rintro e w31 ⟨rfl,hb⟩;refine⟨_,rfl,?_⟩;replace BK131:=zK BK131 hb;replace HB:=zB HB hb;(try clear hb)))
       go_ret
       exact⟨by first|rfl|(simp [*] <;> rfl),zB_ HB⟩
      replace c28:=Bool.eq_false_iff.mpr c28;subst c28
      rw [if_neg (show ¬ (false=true) by decide)] at H
      obtain rfl:=sI H
      have p133:0≤(x39_2:Int):=zd
      have q133:x39_2<(l2.length:Int):=zd
      obtain⟨ad133,A133_0,c133_0,e133,hx133_0,hl133_0,hi133_0⟩:=at_L1 HR2.out x39_2 p133 q133
      cases e133
      try replace hx133_0:=(HB.out.cell (wL w _ hx133_0)).trans hx133_0
      have HR133_0:=A0_ hi133_0;have HC133_0:=A0_ hl133_0;clear hi133_0 hl133_0;replace p133:=eq_true p133;replace q133:=eq_true q133
      go_wp2_with (first|((with_reducible refine gC (f:=47) rfl ?_);refine zJ (some 44) Try.func47 #[.slice A133_0 (rd_L1 l2 x39_2).length c133_0] ?_;(with_reducible refine(impl_PermValid.calls _ _ (rd_L1 l2 x39_2) false _ ?side1 ?side2 A27.out).mono ?_);(case side1=>exact zC HR133_0 HB);(case side2=>exact HC133_0.out);rintro e w32 ⟨rfl,hb⟩;refine⟨_,rfl,?_⟩;replace BK131:=zK BK131 hb;replace HB:=zB HB hb;(try clear hb)))
      go_ret
      exact⟨by first|rfl|(simp [*] <;> rfl),zB_ HB⟩
     rw [if_neg c24] at H;have c24b0:=dF c24;clear c24;obtain rfl:=sI H
     go_wp2
     go_ret
     exact⟨by first|rfl|(simp [*] <;> rfl),zB_ HB⟩

/-! ### impl_back: function 60 -/
def impl_back.l0:Nat→List Int→List Int→Int→Int→Option (List Int)
  | 0,_,_,_,_=>none
  | k+1,x3,x9,x10,x11=>if x11<x10 then (if 0≤x11 then (if x11<(x9.length:Int) then (if 0≤(rd x9 x11) then (if (rd x9 x11)<(x3.length:Int) then (impl_back.l0 k (x3.set ((rd x9 x11):Int).toNat x11) x9 x10 (wrap64 (x11+1))) else (none)) else (none)) else (none)) else (none)) else (some x3)
def impl_back.f (k:Nat) (l0:List Int):Option (List Int):=if 0≤(l0.length:Int) then (if ((l0.length:Int):Int).toNat≤35184372088832 then (impl_back.l0 k (List.replicate ((l0.length:Int):Int).toNat 0) l0 (l0.length:Int) 0) else (none)) else (none)
set_option maxHeartbeats 8000000 in
set_option maxRecDepth 100000 in
theorem impl_back.calls (k:Nat) (A0:Option Addr) (c0:Nat) (l0:List Int) (r:List Int) (w:World) (hr0:Kd.C (Kd.int .i64) w A0 l0.length l0) (hc0:l0.length≤c0) (h:impl_back.f k l0=some r) :
    Calls Try.prog 60 #[.slice A0 l0.length c0] w fun e w' => ∃ v0_:Value,e = .returned (v0_)∧Kd.R (Kd.int .i64) 3 w' w.heap.size (fun _=>True) v0_ r∧Below w.heap.size w w':=by
 have HR0:=A0_ hr0;have HC0:=A0_ hc0;clear hr0 hc0
 have HB:=A0_ (Below.refl w.heap.size w)
 have H:(if 0≤(l0.length:Int) then (if ((l0.length:Int):Int).toNat≤35184372088832 then (impl_back.l0 k (List.replicate ((l0.length:Int):Int).toNat 0) l0 (l0.length:Int) 0) else (none)) else (none))=some r:=h
 clear h
 have c2:=zpc H;replace H:=zph H
 have c2b0:=eq_true c2;have c2b1:=dT c2;clear c2
 have c3:=zpc H;replace H:=zph H
 have c3b0:=eq_true c3;have c3b1:=dT c3;clear c3
 obtain⟨y135,hy135⟩ : ∃ y_:List Int,y_=(List.replicate ((l0.length:Int):Int).toNat 0):=⟨_,rfl⟩
 replace H:(impl_back.l0 k y135 l0 (l0.length:Int) 0)=some r:=zH hy135 H
 have Ny135:=A0_ hy135;clear hy135;have H':=A0_ H;clear H
 go_enter Try.func60,Try.ntmps60
 go_wp2_with (first|((with_reducible refine gD (N:=8) rfl ?_);refine Kd.R_make (Kd.int .i64) _ 3 rfl (N:=8) rfl 23 _ _ rfl (l0.length:Int) rfl rfl Try.underlying23 (.int .i64 0) 8 info3 rfl (by decide) (by omega) 0 (ok:=fun _=>True) (okp:=fun _=>True) rfl (fun _ hk=>hk) trivial (zd) (Nat.le_trans (Nat.mul_le_mul_right _ (zd:(l0.length:Int).toNat≤35184372088832)) (by omega)) (Below.refl _ _) (Nat.le_refl _) ?_;intro v136 w4 ho5 hb hg_ hnew_;clear hg_ hnew_;(first|rw [← Ny135.out] at ho5|(simp only [Int.reduceToNat] at ho5;rw [← Ny135.out] at ho5));have HO137:=A0_ (rL ho5 (bZ (zB_ HB)));replace HB:=zB HB hb;clear hb ho5))
 go_loopg [11] k (fun kq v11 w' => ∃ (x3_1:List Int) (x11_1:Int),v11 = .int .i64 x11_1∧Aside0 (impl_back.l0 kq x3_1 l0 (l0.length:Int) x11_1=some r)∧Aside0 (kq≤k)∧Aside0 (Kd.R (Kd.int .i64) 3 w' w.heap.size (fun _=>True) v136 x3_1)∧Aside0 (Below w.heap.size w w'))
 case atStart=>exact⟨(y135),(0),zt,H',⟨Nat.le_refl _⟩,⟨zR_ HO137⟩,⟨zB_ HB⟩⟩
 case round =>
  clear H';(try clear c2);(try clear c2b0);(try clear c2b1);(try clear p2);(try clear c3);(try clear c3b0);(try clear c3b1);obtain⟨x3_1,x11_1,rfl,HA,HK1,HO_3,HB⟩:=hrel
  cases gk with
  | zero=>exact absurd HA.out (by simp [impl_back.l0])
  | succ k1 =>
   have H:=HA.out;clear HA;simp only [impl_back.l0] at H
   by_cases c6:x11_1<(l0.length:Int)
   ·rw [if_pos c6] at H
    have c6b0:=dT c6;clear c6
    have c7:=zpc H;replace H:=zph H
    have c7b0:=dT c7;clear c7
    have c8:=zpc H;replace H:=zph H
    have c8b0:=dT c8;clear c8
    have c9:=zpc H;replace H:=zph H
    have c9b0:=dT c9;clear c9
    have c10:=zpc H;replace H:=zph H
    have c10b0:=dT c10;clear c10
    obtain⟨y139,hy139⟩ : ∃ y_:List Int,y_=(x3_1.set ((rd l0 x11_1):Int).toNat x11_1):=⟨_,rfl⟩
    replace H:(impl_back.l0 k1 y139 l0 (l0.length:Int) (wrap64 (x11_1+1)))=some r:=zH hy139 H
    have Ny139:=A0_ hy139;clear hy139;have H':=A0_ H;clear H
    have p138:0≤(x11_1:Int):=zd
    have q138:x11_1<(l0.length:Int):=zd
    obtain⟨ad138,e138,hx138_0⟩:=tI HR0.out x11_1 p138 q138
    cases e138
    try replace hx138_0:=(HB.out.cell (wL w _ hx138_0)).trans hx138_0
    replace p138:=eq_true p138;replace q138:=eq_true q138
    have p11:0≤((rd l0 x11_1):Int):=zd
    have q11:((rd l0 x11_1):Int)<((x3_1.length:Int):Int):=zd
    obtain⟨go11,co11,eo11,gb11,gl11,cl11,HG11⟩:=Kd.R_form HO_3.out (by omega)
    (first|cases eo11|(injection eo11 with ea_ en_ ec_;(first|subst ea_|(injection ea_ with ea_;subst ea_));subst ec_;clear en_))
    have GB11:=A0_ gb11;have GG11:=A0_ HG11;clear gb11 gl11 HG11
    obtain⟨hx11_0,hf11_0⟩:=Kd.R_celln 0 HO_3.out ((rd l0 x11_1):Int) p11 q11
    replace p11:=eq_true p11;replace q11:=eq_true q11
    have HP12:=Kd.R_putg HO_3.out ((rd l0 x11_1):Int) x11_1
    go_wp2_with (first|((with_reducible refine gS (t:=3) (p:=19) rfl ?_);refine store_event (t:=3) (p:=19) (v := ?vo_w13) (w1:=(wr.setCell ⟨go11,((rd l0 x11_1):Int).toNat,none⟩ (.int .i64 x11_1))) ?hg ?ho ?hn ?hr ?_;(case ho=>rfl);(case hg=>rfl);(case hn=>rfl);(case hr=>first|(go_simp;done)|(go_simp;rfl));intro w13 hw;have hg:wr.grownBy w13 (some go11):=(by rw [hw];exact HP12.2);have hp_:Kd.R (Kd.int .i64) 3 w13 w.heap.size (fun _=>True) (.slice (some ⟨go11,0,none⟩) x3_1.length co11) y139:=(by rw [hw,Ny139.out];exact HP12.1);clear HP12;replace HO_3:=A0_ (hp_);replace HB:=A0_ ((by rw [hw];exact bS (HB.out) GB11.out:Below w.heap.size w w13));clear hg hw hp_))
    go_roundg k1
    case measure=>have:=HK1.out;omega
    case rel=>exact⟨(y139),(wrap64 (x11_1+1)),zt,H',⟨by have:=HK1.out;omega⟩,⟨zR_ HO_3⟩,⟨zB_ HB⟩⟩
   rw [if_neg c6] at H;have c6b0:=dF c6;clear c6;obtain rfl:=sI H
   go_wp2
   go_ret
   exact⟨_,by first|rfl|(simp [*] <;> rfl),zR_ HO_3,zB_ HB⟩

/-! ### impl_edgesOf: function 105 -/
def impl_edgesOf.l0:Nat→List Int→List Int→Int→Int→Option (List Int)
  | 0,_,_,_,_=>none
  | k+1,x3,x8,x9,x10=>if x10<x9 then (if 0≤x10 then (if x10<(x8.length:Int) then (if x10<(rd x8 x10) then (if x3.length<17592186044416 then (impl_edgesOf.l0 k (x3 ++ [x10]) x8 x9 (wrap64 (x10+1))) else (none)) else (impl_edgesOf.l0 k x3 x8 x9 (wrap64 (x10+1)))) else (none)) else (none)) else (some x3)
def impl_edgesOf.f (k:Nat) (l0_0:List Int) (l0_1:List Int):Option (List Int):=impl_edgesOf.l0 k (([]:List Int)) l0_1 (l0_1.length:Int) 0
set_option maxHeartbeats 8000000 in
set_option maxRecDepth 100000 in
theorem impl_edgesOf.calls (k:Nat) (A0_0:Option Addr) (c0_0:Nat) (l0_0:List Int) (A0_1:Option Addr) (c0_1:Nat) (l0_1:List Int) (r:List Int) (w:World) (hr0_0:Kd.C (Kd.int .i64) w A0_0 l0_0.length l0_0) (hc0_0:l0_0.length≤c0_0) (hr0_1:Kd.C (Kd.int .i64) w A0_1 l0_1.length l0_1) (hc0_1:l0_1.length≤c0_1) (h:impl_edgesOf.f k l0_0 l0_1=some r) :
    Calls Try.prog 105 #[.agg #[.slice A0_0 l0_0.length c0_0,.slice A0_1 l0_1.length c0_1]] w fun e w' => ∃ v0_:Value,e = .returned (v0_)∧Kd.R (Kd.int .i64) 3 w' w.heap.size (fun _=>True) v0_ r∧Below w.heap.size w w':=by
 have hu25:=Try.underlying25;have HR0_0:=A0_ hr0_0;have HC0_0:=A0_ hc0_0;clear hr0_0 hc0_0;have HR0_1:=A0_ hr0_1;have HC0_1:=A0_ hc0_1;clear hr0_1 hc0_1
 have HB:=A0_ (Below.refl w.heap.size w)
 have H:(impl_edgesOf.l0 k (([]:List Int)) l0_1 (l0_1.length:Int) 0)=some r:=h
 clear h
 obtain⟨y141,hy141⟩ : ∃ y_:List Int,y_=(([]:List Int)):=⟨_,rfl⟩
 replace H:(impl_edgesOf.l0 k y141 l0_1 (l0_1.length:Int) 0)=some r:=zH hy141 H
 have Ny141:=A0_ hy141;clear hy141;have H':=A0_ H;clear H
 go_enter Try.func105,Try.ntmps105
 go_wp2_with (first|((with_reducible refine gD (N:=1) rfl ?_);refine zX (N:=1) (cs := #[.slice A0_0 l0_0.length c0_0,.slice A0_1 l0_1.length c0_1]) (t:=25) ?_;intro gb140 hg w2 hbox hb;have BK140:=A0_ (hbox);have GW140:=zG hg HB;have GE140:=zG hg HB;replace HB:=zB HB hb;clear hb hbox hg)|((with_reducible refine gD (N:=6) rfl ?_);refine Kd.R_lit (Kd.int .i64) _ 3 ?hg (N:=6) ?hd (xs:=([]:List Int)) (inner := []) (ok:=fun _=>True) (okp:=fun _=>True) ?hr ?hp (fun _ hk=>hk) trivial (Below.refl _ _) (Nat.le_refl _) (by simp) ?_;(case hd=>rfl);(case hg=>rfl);(case hr=>first|(go_simp;done)|(go_simp;rfl));(case hp=>exact(Reps.none _ _));intro v142 w3 ho4 hb hg_ hnew_;clear hg_ hnew_;(first|rw [← Ny141.out] at ho4|(simp only [Int.reduceToNat] at ho4;rw [← Ny141.out] at ho4));have HO143:=A0_ (rL ho4 (bZ (zB_ HB)));replace BK140:=zK BK140 hb;replace HB:=zB HB hb;clear hb ho4;have hcz5_0:=zc0 BK140;have hcz5_1:=zc1 BK140;have hfz5_0:=kF BK140.out 0;have hfz5_1:=kF BK140.out 1))
 go_loopg [3,10] k (fun kq v3 v10 w' => ∃ (x3_1:List Int) (x10_1:Int),v10 = .int .i64 x10_1∧Aside0 (impl_edgesOf.l0 kq x3_1 l0_1 (l0_1.length:Int) x10_1=some r)∧Aside0 (kq≤k)∧Aside0 (Kd.R (Kd.int .i64) 3 w' w.heap.size (fun _=>True) v3 x3_1)∧Aside0 (w'.heap[gb140]? = some (.cells #[(.slice A0_0 l0_0.length c0_0),(.slice A0_1 l0_1.length c0_1)] 25 (0,0)))∧Aside0 (Below w.heap.size w w'))
 case atStart=>exact⟨(y141),(0),zt,H',⟨Nat.le_refl _⟩,⟨zR_ HO143⟩,⟨zK_ BK140⟩,⟨zB_ HB⟩⟩
 case round =>
  clear H';(try clear c1);(try clear p2);(try clear hcz5_0);(try clear hcz5_1);(try clear hfz5_0);(try clear hfz5_1);obtain⟨x3_1,x10_1,rfl,HA,HK1,HO_3,BK140,HB⟩:=hrel
  cases gk with
  | zero=>exact absurd HA.out (by simp [impl_edgesOf.l0])
  | succ k1 =>
   have H:=HA.out;clear HA;simp only [impl_edgesOf.l0] at H
   by_cases c6:x10_1<(l0_1.length:Int)
   ·rw [if_pos c6] at H
    have c6b0:=dT c6;clear c6
    have c7:=zpc H;replace H:=zph H
    have c7b0:=dT c7;clear c7
    have c8:=zpc H;replace H:=zph H
    have c8b0:=dT c8;clear c8
    by_cases c9:x10_1<(rd l0_1 x10_1)
    ·rw [if_pos c9] at H
     have c9b0:=dT c9;clear c9
     have c10:=zpc H;replace H:=zph H
     have LMc10:=A0_ c10;clear c10
     obtain⟨y145,hy145⟩ : ∃ y_:List Int,y_=(x3_1 ++ [x10_1]):=⟨_,rfl⟩
     replace H:(impl_edgesOf.l0 k1 y145 l0_1 (l0_1.length:Int) (wrap64 (x10_1+1)))=some r:=zH hy145 H
     have Ny145:=A0_ hy145;clear hy145;have H':=A0_ H;clear H
     have p144:0≤(x10_1:Int):=zd
     have q144:x10_1<(l0_1.length:Int):=zd
     obtain⟨ad144,e144,hx144_0⟩:=tI HR0_1.out x10_1 p144 q144
     cases e144
     try replace hx144_0:=(HB.out.cell (wL w _ hx144_0)).trans hx144_0
     replace p144:=eq_true p144;replace q144:=eq_true q144
     go_wp2_with (first|((with_reducible refine gB (b := .append) (xs := #[.tmp 18,.tmp 20]) rfl ?_);at_builtin;refine Kd.R_append (Kd.int .i64) (w0:=w) w.heap.size rfl (.tmp 18) (.tmp 20) 23 3 (.int .i64 0) 8 rfl Try.underlying23 info3 rfl (by decide) (by omega) u3 x3_1 x10_1 [.int .i64 x10_1] (fun _=>True) (fun _=>False) rfl rfl ?aP (fun _ hk=>hk.elim) ?aF ?aO ?aB ?aS ?aL ?_;(case aP=>exact rfl);(case aB=>exact(zB_ HB));(case aF=>exact(fun _ _=>trivial));(case aO=>exact(zR_ HO_3));(case aS=>exact(bZ (zB_ HB)));(case aL=>have:=LMc10.out;omega);intro v146 w11 ho hb hg hat;rw [← Ny145.out] at ho;replace BK140:=A0_ (blk_grown (g:=gb140) (o := .cells #[.slice A0_0 l0_0.length c0_0,.slice (some ad144) l0_1.length c0_1] 25 (0,0)) (zK_ BK140) hg (Kd.R_ne HO_3.out BK140.out (by decide)));replace HB:=A0_ (hb);have HO147:=A0_ (ho);clear HO_3 ho hb hg hat))
     go_roundg k1
     case measure=>have:=HK1.out;omega
     case rel=>exact⟨(y145),(wrap64 (x10_1+1)),zt,H',⟨by have:=HK1.out;omega⟩,⟨zR_ HO147⟩,⟨zK_ BK140⟩,⟨zB_ HB⟩⟩
    rw [if_neg c9] at H;have c9b0:=dF c9;clear c9;have H':=A0_ H;clear H
    have p144:0≤(x10_1:Int):=zd
    have q144:x10_1<(l0_1.length:Int):=zd
    obtain⟨ad144,e144,hx144_0⟩:=tI HR0_1.out x10_1 p144 q144
    cases e144
    try replace hx144_0:=(HB.out.cell (wL w _ hx144_0)).trans hx144_0
    replace p144:=eq_true p144;replace q144:=eq_true q144
    go_wp2
    go_roundg k1
    case measure=>have:=HK1.out;omega
    case rel=>exact⟨(x3_1),(wrap64 (x10_1+1)),zt,H',⟨by have:=HK1.out;omega⟩,⟨zR_ HO_3⟩,⟨zK_ BK140⟩,⟨zB_ HB⟩⟩
   rw [if_neg c6] at H;have c6b0:=dF c6;clear c6;obtain rfl:=sI H
   go_wp2
   go_ret
   exact⟨_,by first|rfl|(simp [*] <;> rfl),zR_ HO_3,zB_ HB⟩

end Go.Proofs.Ytmegggomhjgehaa.PFnCover
