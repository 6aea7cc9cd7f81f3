-- Made by a program of this session (wip/tools) out of the loaded program; not trusted: Lean checks it.
import Derived.Test.YtmegggomhjgehaaPFnCoverx0
import Derived.Test.YtmegggomhjgehaaPFnCoverx2
import Derived.Test.YtmegggomhjgehaaPFnCoverx5
-- packed
-- packed2
namespace Go.Proofs.Ytmegggomhjgehaa.PFnCover
open Go.RowKit Go.Proofs.YtmegggomhjgehaaW.PrintWords Go.Proofs.YtmegggomhjgehaaW.PrintLast Go.Proofs.YtmegggomhjgehaaW.PrintMore
attribute [local go_sem] max2_int min2_int max_two min_two max_three min_three max_four min_four
set_option linter.unusedVariables false
set_option linter.unusedSimpArgs false

/-! ### impl_MapCounts: function 25 -/
def impl_MapCounts.f (k:Nat) (l0_0:List Int) (l0_1:List Int):Option (List Int×Bool):=(impl_MapValid.f k l0_0 l0_1).bind fun t248=>(if t248=true then ((impl_cyclesOf.f k l0_0).bind fun t249=>((impl_mul.f k l0_1 l0_0).bind fun t252=>((impl_cyclesOf.f k t252).bind fun t255=>(some ((([(t249.length:Int),wrap64 ((l0_1.length:Int) / 2),(t255.length:Int)]:List Int)),true))))) else (some (([]:List Int),false)))
def impl_MapCounts.T3:Bool×List (List Nat×List Nat):=(true,[([],[]),([0],[0]),([1],[1]),([2],[2]),([],[]),([4],[4]),([5],[5]),([6],[6]),([],[]),([8],[8]),([],[]),([10],[10]),([9,11,2],[9,11]),([12,12],[12]),([13],[13]),([3,7,14],[3,7,14]),([15,13,0,1,2,3,4,5,6,7,8,9,10,11,12,13,14,15],[15]),([16,0,1,2,3,4,5,6,7,8,9,10,11,12,13,14,15,16],[])])
def impl_MapCounts.B3:List Nat := [0,1,3,7,0,16,48,112,0,256,0,1024,3847,7943,16135,32767,65535,131071]
theorem impl_MapCounts.tab3:rtab .any (opsOf Try.f25 3)=impl_MapCounts.T3:=by kernel_rfl
theorem impl_MapCounts.bits3:waitsOk impl_MapCounts.T3.2 impl_MapCounts.B3=true:=by kernel_rfl
set_option maxHeartbeats 8000000 in
set_option maxRecDepth 100000 in
theorem impl_MapCounts.calls (k:Nat) (A0_0:Option Addr) (c0_0:Nat) (l0_0:List Int) (A0_1:Option Addr) (c0_1:Nat) (l0_1:List Int) (r1:List Int) (r2:Bool) (w:World) (hr0_0:Kd.C (Kd.int .i64) w A0_0 l0_0.length l0_0) (hc0_0:l0_0.length≤c0_0) (hr0_1:Kd.C (Kd.int .i64) w A0_1 l0_1.length l0_1) (hc0_1:l0_1.length≤c0_1) (h:impl_MapCounts.f k l0_0 l0_1=some (r1,r2)) :
    Calls Try.prog 25 #[.agg #[.slice A0_0 l0_0.length c0_0,.slice A0_1 l0_1.length c0_1]] w fun e w' => ∃ v0_:Value,e = .returned (.tuple #[v0_,.bool r2])∧Kd.R (Kd.int .i64) 3 w' w.heap.size (fun _=>True) v0_ r1∧Below w.heap.size w w':=by
 have hu25:=Try.underlying25;have HR0_0:=A0_ hr0_0;have HC0_0:=A0_ hc0_0;clear hr0_0 hc0_0;have HR0_1:=A0_ hr0_1;have HC0_1:=A0_ hc0_1;clear hr0_1 hc0_1
 have HB:=A0_ (Below.refl w.heap.size w)
 have H:((impl_MapValid.f k l0_0 l0_1).bind fun t248=>(if t248=true then ((impl_cyclesOf.f k l0_0).bind fun t249=>((impl_mul.f k l0_1 l0_0).bind fun t252=>((impl_cyclesOf.f k t252).bind fun t255=>(some ((([(t249.length:Int),wrap64 ((l0_1.length:Int) / 2),(t255.length:Int)]:List Int)),true))))) else (some (([]:List Int),false))))=some (r1,r2):=h
 clear h;obtain⟨t248,A2,H⟩:=zbind H
 by_cases c3:t248=true
 ·subst c3
  have H1:((impl_cyclesOf.f k l0_0).bind fun t249=>((impl_mul.f k l0_1 l0_0).bind fun t252=>((impl_cyclesOf.f k t252).bind fun t255=>(some ((([(t249.length:Int),wrap64 ((l0_1.length:Int) / 2),(t255.length:Int)]:List Int)),true)))))=some (r1,r2):=by rw [if_pos rfl] at H;exact H
  clear H;have H:=H1;clear H1;obtain⟨t249,A4,H⟩:=zbind H;obtain⟨t252,A5,H⟩:=zbind H;obtain⟨t255,A6,H⟩:=zbind H
  obtain⟨y258,hy258⟩ : ∃ y_:List Int,y_=(([(t249.length:Int),wrap64 ((l0_1.length:Int) / 2),(t255.length:Int)]:List Int)):=⟨_,rfl⟩
  replace H:(some (y258,true))=some (r1,r2):=zH hy258 H
  have Ny258:=A0_ hy258;clear hy258;simp only [Option.some.injEq,Prod.mk.injEq] at H;obtain⟨rfl,rfl⟩:=H
  go_enter Try.func25,Try.ntmps25
  try go_wp2_with (first|((with_reducible refine gD (N:=1) rfl ?_);refine zX (N:=1) (cs := #[.slice A0_0 l0_0.length c0_0,.slice A0_1 l0_1.length c0_1]) (t:=25) ?_;intro gb247 hg w7 hbox hb;have BK247:=A0_ (hbox);have GW247:=zG hg HB;have GE247:=zG hg HB;replace HB:=zB HB hb;clear hb hbox hg;have hcz8_0:=zc0 BK247;have hcz8_1:=zc1 BK247;have hfz8_0:=kF BK247.out 0;have hfz8_1:=kF BK247.out 1)|((with_reducible refine gC (f:=54) rfl ?_);refine zJ (some 5) Try.func54 #[.agg #[.slice A0_0 l0_0.length c0_0,.slice A0_1 l0_1.length c0_1]] ?_;(with_reducible refine(impl_MapValid.calls k (fun k_=>k_<w.heap.size) _ _ l0_0 (fun k_=>k_<w.heap.size) _ _ l0_1 true _ ?side1 ?side2 A2.out).mono ?_);(case side1=>exact Kd.V_mk HC0_0.out (Kd.F_below (Kd.C_F (Kd.heap_int .i64) HR0_0.out) (zB_ HB)));(case side2=>exact Kd.V_mk HC0_1.out (Kd.F_below (Kd.C_F (Kd.heap_int .i64) HR0_1.out) (zB_ HB)));rintro e w9 ⟨rfl,hb⟩;refine⟨_,rfl,?_⟩;replace BK247:=zK BK247 hb;replace HB:=zB HB hb;(try clear hb)))
  replace BK247:=A0_ (kD BK247.out)
  replace HB:=A0_ (bD HB.out)
  refine start_ (n:=18) (S:=fun w'=>w'.cell? ⟨gb247,0,none⟩=some (.slice A0_0 l0_0.length c0_0)∧w'.cell? ⟨gb247,1,none⟩=some (.slice A0_1 l0_1.length c0_1)) (ds := []) (bs 18 0) (by kernel_rfl) rfl rfl ⟨(kC BK247.out 0).trans rfl,(kC BK247.out 1).trans rfl⟩ (fun hHeld => ?_);refine with_tabW impl_MapCounts.tab3 impl_MapCounts.bits3 (fun HT_ HW_ => ?_)
  generalize w9.drew=w10 at BK247 HB hHeld ⊢
  refine zP 0 (some 7) (bs 18 1) ?_
  refine zP 4 (some 11) (bs 18 17) ?_
  refine zP 8 (some 15) (bs 18 273) ?_
  refine zP 10 (some 17) (bs 18 1297) ?_
  refine zT 1 (some 8) (bs 18 1299) hHeld ?_
  refine zT 5 (some 12) (bs 18 1331) hHeld ?_
  refine zP 6 (some 13) (bs 18 1395) ?_
  refine zP 7 (some 14) (bs 18 1523) ?_
  refine zT 9 (some 16) (bs 18 2035) hHeld ?_
  refine zT 11 (some 18) (bs 18 4083) hHeld ?_
  refine one_ (i:=2) (N:=some 9) (bs 18 4087) rfl rfl (one_of HT_.out (by kernel_rfl)) (by decide) (fun K hK => ?_)
  refine goes_ Try.func68 (by kernel_rfl) rfl #[.slice A0_0 l0_0.length c0_0] (by rfl) rfl rfl (by(try simp only [List.map_toArray,List.map_cons,List.map_nil]);first|done|rfl|(simp only [List.length_drop,List.length_take];rfl)) ?_
  with_reducible refine(impl_cyclesOf.calls k _ _ l0_0 t249 _ ?side1 ?side2 A4.out).mono ?_
  (case side1=>exact zC HR0_0 HB)
  (case side2=>exact HC0_0.out)
  rintro e w11 ⟨v250,rfl,ho0,hb⟩
  refine⟨_,rfl,?_⟩
  have HO251:=A0_ (Kd.S_lower ho0 (bZ (zB_ HB)))
  replace BK247:=zK BK247 hb;replace HB:=zB HB hb;(try clear hb);(try clear hb2);(try clear hk);(try clear hi);(try clear ho0);obtain⟨Ao12,co12,eo12⟩:=Kd.S_slice HO251.out
  (first|subst eo12|(injection eo12 with f1_ f2_ f3_;have f4_:=f1_.symm;have f5_:=f3_.symm;clear f1_ f2_ f3_;subst f4_;subst f5_))
  refine hK.out _ _ ⟨(kC BK247.out 0).trans rfl,(kC BK247.out 1).trans rfl⟩ (fun hHeld => ?_)
  clear hK K
  refine norm_ (a' := ?_) ?_ ?_
  rotate_left
  ·show Act.put _ (some 9) _=_
   simp only [Act.put,List.setIfInBounds_toArray,List.set_cons_zero,List.set_cons_succ,i64_w,i32_w]
   rfl
  refine zP 3 (some 10) (bs 18 4095) ?_
  refine one_ (i:=12) (N:=some 19) (bs 18 8191) rfl rfl (one_of HT_.out (by kernel_rfl)) (by decide) (fun K hK => ?_)
  refine goes_ Try.func69 (by kernel_rfl) rfl #[.slice A0_1 l0_1.length c0_1,.slice A0_0 l0_0.length c0_0] (by rfl) rfl rfl (by(try simp only [List.map_toArray,List.map_cons,List.map_nil]);first|done|rfl|(simp only [List.length_drop,List.length_take];rfl)) ?_
  with_reducible refine(impl_mul.calls k _ _ l0_1 _ _ l0_0 t252 _ ?side1 ?side2 ?side3 ?side4 A5.out).mono ?_
  (case side1=>exact zC HR0_1 HB)
  (case side2=>exact HC0_1.out)
  (case side3=>exact zC HR0_0 HB)
  (case side4=>exact HC0_0.out)
  rintro e w13 ⟨v253,rfl,ho0,hb⟩
  refine⟨_,rfl,?_⟩
  replace HO251:=A0_ (Kd.S_elder' (zS_ HO251) (Kd.R_base ho0) hb)
  have HO254:=A0_ (rL ho0 (bZ (zB_ HB)))
  replace BK247:=zK BK247 hb;replace HB:=zB HB hb;(try clear hb);(try clear hb2);(try clear hk);(try clear hi);(try clear ho0);obtain⟨Ao14,co14,eo14⟩:=rS HO254.out
  (first|subst eo14|(injection eo14 with f1_ f2_ f3_;have f4_:=f1_.symm;have f5_:=f3_.symm;clear f1_ f2_ f3_;subst f4_;subst f5_))
  refine hK.out _ _ ⟨(kC BK247.out 0).trans rfl,(kC BK247.out 1).trans rfl⟩ (fun hHeld => ?_)
  clear hK K
  refine norm_ (a' := ?_) ?_ ?_
  rotate_left
  ·show Act.put _ (some 19) _=_
   simp only [Act.put,List.setIfInBounds_toArray,List.set_cons_zero,List.set_cons_succ,i64_w,i32_w]
   rfl
  refine one_ (i:=13) (N:=some 20) (bs 18 16383) rfl rfl (one_of HT_.out (by kernel_rfl)) (by decide) (fun K hK => ?_)
  refine goes_ Try.func68 (by kernel_rfl) rfl #[.slice Ao14 t252.length co14] (by rfl) rfl rfl (by(try simp only [List.map_toArray,List.map_cons,List.map_nil]);first|done|rfl|(simp only [List.length_drop,List.length_take];rfl)) ?_
  with_reducible refine(impl_cyclesOf.calls k _ _ t252 t255 _ ?side1 ?side2 A6.out).mono ?_
  (case side1=>exact zD HO254)
  (case side2=>exact(rR HO254.out).2.1)
  rintro e w15 ⟨v256,rfl,ho0,hb⟩
  refine⟨_,rfl,?_⟩
  have HO257:=A0_ (Kd.S_lower (Kd.S_new' (Kd.S_new' ho0 (Kd.S_lt (zS_ HO251))) (rX (zR_ HO254))) (bZ (zB_ HB)))
  replace HO251:=A0_ (Kd.S_elder' (zS_ HO251) (Kd.S_base ho0) hb)
  replace HO254:=zR HO254 hb;replace BK247:=zK BK247 hb;replace HB:=zB HB hb;(try clear hb);(try clear hb2);(try clear hk);(try clear hi);(try clear ho0);obtain⟨Ao16,co16,eo16⟩:=Kd.S_slice HO257.out
  (first|subst eo16|(injection eo16 with f1_ f2_ f3_;have f4_:=f1_.symm;have f5_:=f3_.symm;clear f1_ f2_ f3_;subst f4_;subst f5_))
  refine hK.out _ _ ⟨(kC BK247.out 0).trans rfl,(kC BK247.out 1).trans rfl⟩ (fun hHeld => ?_)
  clear hK K
  refine norm_ (a' := ?_) ?_ ?_
  rotate_left
  ·show Act.put _ (some 20) _=_
   simp only [Act.put,List.setIfInBounds_toArray,List.set_cons_zero,List.set_cons_succ,i64_w,i32_w]
   rfl
  refine zP 14 (some 21) (bs 18 32767) ?_
  refine one_ (i:=15) (N:=some 22) (bs 18 65535) rfl rfl (one_of HT_.out (by kernel_rfl)) (by decide) (fun K hK => ?_)
  refine Kd.R_lit_step (Kd.int .i64) _ 3 ?hg (N:=22) ?hd (xs:=([(t249.length:Int),wrap64 ((l0_1.length:Int) / 2),(t255.length:Int)]:List Int)) (inner := [.int .i64 (t249.length:Int),.int .i64 (wrap64 ((l0_1.length:Int) / 2)),.int .i64 (t255.length:Int)]) (ok:=fun _=>True) (okp:=fun _=>True) ?hr ?hp (fun _ hk=>hk) trivial (Below.refl _ _) (Nat.le_refl _) (by simp) ?_;(case hd=>rfl);(case hg=>rfl);(case hr=>first|(go_simp;done)|(go_simp;rfl));(case hp=>exact(Reps.one (show Kd.M (Kd.int .i64) _ _ _ (t249.length:Int) [.int .i64 (t249.length:Int)] from rfl) (Reps.one (show Kd.M (Kd.int .i64) _ _ _ (wrap64 ((l0_1.length:Int) / 2)) [.int .i64 (wrap64 ((l0_1.length:Int) / 2))] from rfl) (Reps.one (show Kd.M (Kd.int .i64) _ _ _ (t255.length:Int) [.int .i64 (t255.length:Int)] from rfl) (Reps.none _ _)))))
  intro v259 w17 ho18 hb hg_ hnew_
  clear hg_ hnew_
  (first|rw [← Ny258.out] at ho18|(simp only [Int.reduceToNat] at ho18;rw [← Ny258.out] at ho18))
  replace HO251:=A0_ (Kd.S_elder' (zS_ HO251) (Kd.R_base ho18) hb)
  replace HO257:=A0_ (Kd.S_elder' (zS_ HO257) (Kd.R_base ho18) hb)
  have HO260:=A0_ (rL (Kd.R_new' ho18 (rX (zR_ HO254))) (bZ (zB_ HB)))
  replace HO254:=A0_ (Kd.R_elder' (zR_ HO254) (Kd.R_base ho18) hb)
  replace BK247:=zK BK247 hb;replace HB:=zB HB hb;clear hb ho18
  refine hK.out _ _ ⟨(kC BK247.out 0).trans rfl,(kC BK247.out 1).trans rfl⟩ (fun hHeld => ?_)
  clear hK K
  refine norm_ (a' := ?_) ?_ ?_
  rotate_left
  ·show Act.put _ (some 22) _=_
   simp only [Act.put,List.setIfInBounds_toArray,List.set_cons_zero,List.set_cons_succ,i64_w,i32_w]
   rfl
  refine zP 16 (some 2) (bs 18 131071) ?_
  refine zP 17 (some 3) (bs 18 262143) ?_
  refine done_ (done_of HT_.out (by kernel_rfl)) ?_
  try go_wp2
  go_ret2
  exact⟨_,by first|rfl|(simp [*] <;> rfl),zmR HO260 (fun _ hk=>trivial),zB_ HB⟩
 replace c3:=Bool.eq_false_iff.mpr c3;subst c3
 have H1:(some (([]:List Int),false))=some (r1,r2):=by rw [if_neg (show ¬ (false=true) by decide)] at H;exact H
 clear H;have H:=H1;clear H1;simp only [Option.some.injEq,Prod.mk.injEq] at H;obtain⟨rfl,rfl⟩:=H
 go_enter Try.func25,Try.ntmps25
 go_wp2_with (first|((with_reducible refine gD (N:=1) rfl ?_);refine zX (N:=1) (cs := #[.slice A0_0 l0_0.length c0_0,.slice A0_1 l0_1.length c0_1]) (t:=25) ?_;intro gb247 hg w19 hbox hb;have BK247:=A0_ (hbox);have GW247:=zG hg HB;have GE247:=zG hg HB;replace HB:=zB HB hb;clear hb hbox hg;have hcz20_0:=zc0 BK247;have hcz20_1:=zc1 BK247;have hfz20_0:=kF BK247.out 0;have hfz20_1:=kF BK247.out 1)|((with_reducible refine gC (f:=54) rfl ?_);refine zJ (some 5) Try.func54 #[.agg #[.slice A0_0 l0_0.length c0_0,.slice A0_1 l0_1.length c0_1]] ?_;(with_reducible refine(impl_MapValid.calls k (fun k_=>k_<w.heap.size) _ _ l0_0 (fun k_=>k_<w.heap.size) _ _ l0_1 false _ ?side1 ?side2 A2.out).mono ?_);(case side1=>exact Kd.V_mk HC0_0.out (Kd.F_below (Kd.C_F (Kd.heap_int .i64) HR0_0.out) (zB_ HB)));(case side2=>exact Kd.V_mk HC0_1.out (Kd.F_below (Kd.C_F (Kd.heap_int .i64) HR0_1.out) (zB_ HB)));rintro e w21 ⟨rfl,hb⟩;refine⟨_,rfl,?_⟩;replace BK247:=zK BK247 hb;replace HB:=zB HB hb;(try clear hb)))
 go_ret2
 exact⟨_,by first|rfl|(simp [*] <;> rfl),by first|exact Kd.R_nil _ _ _ _ _|exact Kd.N_nil _ _ _ _ _|exact Kd.V_nil _ _ _ _ _|exact Kd.Q_nil _ _ _ _ _|exact Kd.S_nil _ _ _ _ _,zB_ HB⟩

/-- A state of type 82 at block g of W; what its slices lead to came in by w0. -/
def IsS82 (w0 W:World) (g:Nat) (f0:List Int) (f1:Int):Prop := ∃ A0 c0,W.heap[g]? = some (.cells #[.slice A0 f0.length c0,.int .i64 f1] 82 (0,0))∧w0.heap.size≤g∧Kd.C (Kd.int .u8) w0 A0 f0.length f0
theorem IsS82.grown {w0 W:World} {g:Nat} {f0:List Int} {f1:Int} {W1:World} {row:Option Nat} (h:IsS82 w0 W g f0 f1) (hw:W.grownBy W1 row) (hne:some g≠row):IsS82 w0 W1 g f0 f1:=by
  obtain⟨A0,c0,hb,hg,hr0⟩:=h
  exact⟨A0,c0,blk_grown hb hw hne,hg,hr0⟩
theorem IsS82.own_neN {w0 W:World} {g:Nat} {f0:List Int} {f1:Int} {α:Type} {d:Kd α} {e:Nat} {base:Nat} {ok:Nat→Prop} {v:Value} {xs:List α} (h:IsS82 w0 W g f0 f1) (ho:Kd.N d e W base ok v xs) (ht:e≠82):some g≠v.ownBlock:=by
  obtain⟨A0,c0,hb,hg,hr0⟩:=h
  exact Kd.N_ne ho hb ht
theorem IsS82.fresh {w0 W:World} {g:Nat} {f0:List Int} {f1:Int} (h:IsS82 w0 W g f0 f1) : ∀ k,W.heap.size≤k→k≠g:=by
  obtain⟨A0,c0,hb,hg,hr0⟩:=h
  exact Kd.freshB hb
theorem IsS82.kept {w0 W:World} {g:Nat} {f0:List Int} {f1:Int} {W1:World} {S:Nat→Prop} (h:IsS82 w0 W g f0 f1) (hk:Kept W W1 S) (hne : ¬ S g):IsS82 w0 W1 g f0 f1:=by
  obtain⟨A0,c0,hb,hg,hr0⟩:=h
  exact⟨A0,c0,blk_kept hb hk hne,hg,hr0⟩
theorem IsS82.below {w0 W:World} {g:Nat} {f0:List Int} {f1:Int} {W1:World} (h:IsS82 w0 W g f0 f1) (hw:Below W.heap.size W W1):IsS82 w0 W1 g f0 f1:=h.grown (grown_of_below hw none) (by simp)
theorem IsS82.alloc {w0 W:World} {g:Nat} {f0:List Int} {f1:Int} (h:IsS82 w0 W g f0 f1) (o:Obj):IsS82 w0 (W.alloc o) g f0 f1:=h.below (bA (Below.refl _ _) o)
theorem IsS82.drewN {w0 W:World} {g:Nat} {f0:List Int} {f1:Int} (h:IsS82 w0 W g f0 f1) (m:Nat):IsS82 w0 (W.drewN m) g f0 f1:=h
theorem IsS82.drew {w0 W:World} {g:Nat} {f0:List Int} {f1:Int} (h:IsS82 w0 W g f0 f1):IsS82 w0 W.drew g f0 f1:=h
theorem IsS82.at_ {w0 W:World} {g:Nat} {f0:List Int} {f1:Int} {w':World} {m:Nat} (hq:W.drewN m=w') (h:IsS82 w0 W g f0 f1):IsS82 w0 w' g f0 f1:=by subst hq;exact IsS82.drewN h m
theorem IsS82.apart {w0 W:World} {g:Nat} {f0:List Int} {f1:Int} {α:Type} {d:Kd α} {e:Nat} {base:Nat} {ok:Nat→Prop} {v:Value} {xs:List α} (h:IsS82 w0 W g f0 f1) (ho:d.R e W base ok v xs) (ht : ∀ q,q ∈ e :: d.E→q≠82):d.R e W base (fun k=>ok k∧k≠g) v xs:=by
  obtain⟨A0,c0,hb,hg,hr0⟩:=h
  exact rY ho hb ht
theorem IsS82.own_ne {w0 W:World} {g:Nat} {f0:List Int} {f1:Int} {α:Type} {d:Kd α} {e:Nat} {base:Nat} {ok:Nat→Prop} {v:Value} {xs:List α} (h:IsS82 w0 W g f0 f1) (ho:d.R e W base ok v xs) (ht:e≠82):some g≠v.ownBlock:=by
  obtain⟨A0,c0,hb,hg,hr0⟩:=h
  exact Kd.R_ne ho hb ht
theorem IsS82.apartQ {w0 W:World} {g:Nat} {f0:List Int} {f1:Int} {α:Type} {d:Kd α} {e:Nat} {base:Nat} {ok:Nat→Prop} {v:Value} {xs:List α} (h:IsS82 w0 W g f0 f1) (ho:d.Q e W base ok v xs) (ht : ∀ q,q ∈ e :: d.E→q≠82):d.Q e W base (fun k=>ok k∧k≠g) v xs:=by
  obtain⟨A0,c0,hb,hg,hr0⟩:=h
  exact Kd.Q_types ho hb ht
theorem IsS82.own_neQ {w0 W:World} {g:Nat} {f0:List Int} {f1:Int} {α:Type} {d:Kd α} {e:Nat} {base:Nat} {ok:Nat→Prop} {v:Value} {xs:List α} (h:IsS82 w0 W g f0 f1) (ho:d.Q e W base ok v xs) (ht:e≠82):some g≠v.ownBlock:=by
  obtain⟨A0,c0,hb,hg,hr0⟩:=h
  exact Kd.Q_ne ho hb ht
theorem IsS82.apartS {w0 W:World} {g:Nat} {f0:List Int} {f1:Int} {α:Type} {d:Kd α} {e:Nat} {base:Nat} {ok:Nat→Prop} {v:Value} {xs:List α} (h:IsS82 w0 W g f0 f1) (ho:d.S e W base ok v xs) (ht : ∀ q,q ∈ e :: d.E→q≠82):d.S e W base (fun k=>ok k∧k≠g) v xs:=by
  obtain⟨A0,c0,hb,hg,hr0⟩:=h
  exact Kd.S_types ho hb ht
theorem IsS82.own_neS {w0 W:World} {g:Nat} {f0:List Int} {f1:Int} {α:Type} {d:Kd α} {e:Nat} {base:Nat} {ok:Nat→Prop} {v:Value} {xs:List α} (h:IsS82 w0 W g f0 f1) (ho:d.S e W base ok v xs) (ht:e≠82):some g≠v.ownBlock:=by
  obtain⟨A0,c0,hb,hg,hr0⟩:=h
  exact Kd.S_ne ho hb ht
theorem IsS82.lt {w0 W:World} {g:Nat} {f0:List Int} {f1:Int} (h:IsS82 w0 W g f0 f1):g<W.heap.size:=by
  obtain⟨A0,c0,hb,hg,hr0⟩:=h
  exact kL hb
theorem IsS82.ge {w0 W:World} {g:Nat} {f0:List Int} {f1:Int} (h:IsS82 w0 W g f0 f1):w0.heap.size≤g:=by
  obtain⟨A0,c0,hb,hg,hr0⟩:=h
  exact hg
theorem IsS82.ne_blk {w0 W:World} {g:Nat} {f0:List Int} {f1:Int} {a:Nat} {cs:Array Value} {t:TypeId} {fr:Nat×Nat} (h:IsS82 w0 W g f0 f1) (hb2:W.heap[a]? = some (.cells cs t fr)) (ht:t≠82):g≠a:=by
  obtain⟨A0,c0,hb,hg,hr0⟩:=h
  rintro rfl
  rw [hb] at hb2
  injection hb2 with hb2
  injection hb2 with _ ht2
  exact ht ht2.symm
theorem IsS82.far {w0 W:World} {g:Nat} {f0:List Int} {f1:Int} {p:Addr} (h:IsS82 w0 W g f0 f1) (hne:g≠p.block) (u:Value):IsS82 w0 (W.setCell p u) g f0 f1:=by
  obtain⟨A0,c0,hb,hg,hr0⟩:=h
  exact⟨A0,c0,blk_far hb hne u,hg,hr0⟩
theorem cellS82_0 {W:World} {g:Nat} {A0:Option Addr} {c0:Nat} {f0:List Int} {f1:Int} (h:W.heap[g]? = some (.cells #[.slice A0 f0.length c0,.int .i64 f1] 82 (0,0))):W.cell? ⟨g,0,none⟩=some (.slice A0 f0.length c0):=(kC h 0).trans rfl
theorem cellS82_1 {W:World} {g:Nat} {A0:Option Addr} {c0:Nat} {f0:List Int} {f1:Int} (h:W.heap[g]? = some (.cells #[.slice A0 f0.length c0,.int .i64 f1] 82 (0,0))):W.cell? ⟨g,1,none⟩=some (.int .i64 f1):=(kC h 1).trans rfl
theorem IsS82.set_1 {w0 W:World} {g:Nat} {f0:List Int} {f1:Int} (h:IsS82 w0 W g f0 f1) (x:Int):IsS82 w0 (W.setCell ⟨g,1,none⟩ (.int .i64 x)) g f0 x:=by
  obtain⟨A0,c0,hb,hg,hr0⟩:=h
  exact⟨A0,c0,by simpa using blk_set hb 1 (.int .i64 x),hg,hr0⟩
theorem IsS82.new (w0 W:World) (A0:Option Addr) (c0:Nat) (f0:List Int) (f1:Int) (hB:Below w0.heap.size w0 W) (hr0:Kd.C (Kd.int .u8) w0 A0 f0.length f0):IsS82 w0 (W.alloc (.cells #[.slice A0 f0.length c0,.int .i64 f1] 82)) W.heap.size f0 f1:=⟨A0,c0,by simpa using heap_alloc_new W _,hB.size,hr0⟩

/-! ### spec_l6Rd_pick: function 74 -/
def spec_l6Rd_pick.j0:Nat→Int→Bool→List Int→Int→Option (Int×Int)
  | 0,_,_,_,_=>none
  | k+1,x1,x24,x1000,x1001=>if x24=true then (some (0,x1001)) else (if (wrap64 (x1001 - 1))<(x1000.length:Int) then (if 0≤(wrap64 (x1001 - 1)) then (if x1=0 then (none) else (some (Int.tmod (wrap64 (rd x1000 (wrap64 (x1001 - 1)))) x1,x1001))) else (none)) else (if (x1000.length:Int)=0 then (none) else (if 0≤(Int.tmod (wrap64 (x1001 - 1)) (x1000.length:Int)) then (if (Int.tmod (wrap64 (x1001 - 1)) (x1000.length:Int))<(x1000.length:Int) then (if 0≤(Int.tmod (wrap64 ((wrap64 ((wrap64 (x1001 - 1))*7))+3)) (x1000.length:Int)) then (if (Int.tmod (wrap64 ((wrap64 ((wrap64 (x1001 - 1))*7))+3)) (x1000.length:Int))<(x1000.length:Int) then (if x1=0 then (none) else (some (Int.tmod (Go.bits .xor .i64 (wrap64 ((wrap64 ((wrap64 ((wrap64 ((wrap64 (rd x1000 (Int.tmod (wrap64 (x1001 - 1)) (x1000.length:Int))))*131))+(wrap64 ((wrap64 (rd x1000 (Int.tmod (wrap64 ((wrap64 ((wrap64 (x1001 - 1))*7))+3)) (x1000.length:Int))))*1117))))+(wrap64 ((wrap64 (x1001 - 1))*29))))+(wrap64 ((wrap64 (Int.tdiv (wrap64 (x1001 - 1)) (x1000.length:Int)))*53)))) (wrap64 (Int.tdiv (wrap64 ((wrap64 ((wrap64 ((wrap64 ((wrap64 (rd x1000 (Int.tmod (wrap64 (x1001 - 1)) (x1000.length:Int))))*131))+(wrap64 ((wrap64 (rd x1000 (Int.tmod (wrap64 ((wrap64 ((wrap64 (x1001 - 1))*7))+3)) (x1000.length:Int))))*1117))))+(wrap64 ((wrap64 (x1001 - 1))*29))))+(wrap64 ((wrap64 (Int.tdiv (wrap64 (x1001 - 1)) (x1000.length:Int)))*53)))) 64))) x1,x1001))) else (none)) else (none)) else (none)) else (none))))
def spec_l6Rd_pick.f (k:Nat) (s0_0:List Int) (s0_1:Int) (a1:Int):Option (Int×Int):=if a1<1 then (spec_l6Rd_pick.j0 k a1 true s0_0 (wrap64 (s0_1+1))) else (spec_l6Rd_pick.j0 k a1 ((s0_0.length:Int) == 0) s0_0 (wrap64 (s0_1+1)))
set_option maxHeartbeats 8000000 in
set_option maxRecDepth 100000 in
theorem spec_l6Rd_pick.calls (k:Nat) (g:Nat) (s0_0:List Int) (s0_1:Int) (a1:Int) (r1:Int) (r2:Int) (w0 w:World) (hI:IsS82 w0 w g s0_0 s0_1) (hB:Below w0.heap.size w0 w) (h:spec_l6Rd_pick.f k s0_0 s0_1 a1=some (r1,r2)) :
    Calls Try.prog 74 #[.pointer (some ⟨g,0,none⟩),.int .i64 a1] w fun e w'=>e = .returned (.int .i64 r1)∧IsS82 w0 w' g s0_0 r2∧Below w0.heap.size w0 w'∧KeepBut w w' g none:=by
 have HI0:=A0_ hI
 have HK:=A0_ (KeepBut.refl w g none)
 have HL:=A0_ hB.size;clear hI;have HW0:=A0_ hB.size;have HB:=A0_ hB;clear hB
 have H:(if a1<1 then (spec_l6Rd_pick.j0 k a1 true s0_0 (wrap64 (s0_1+1))) else (spec_l6Rd_pick.j0 k a1 ((s0_0.length:Int) == 0) s0_0 (wrap64 (s0_1+1))))=some (r1,r2):=h
 clear h;have HC3:=A0_ H;clear H;obtain⟨ASz4_0,cSz4_0,HGz4,hgz4,HSz4_0⟩:=HI0.out;have hcz4_0:=cellS82_0 HGz4;have hcz4_1:=cellS82_1 HGz4;have hfz4_1:=kF HGz4 1;clear HGz4 hgz4
 go_enter Try.func74,Try.ntmps74
 go_upto_region 2 with(fail)
 repeat(go_quiet (fail);go_upto_region 2 with(fail))
 go_cut [24] (fun v24 wc => ∃ (kq:Nat) (x24_2:Bool),v24 = .bool x24_2∧Aside0 (spec_l6Rd_pick.j0 kq a1 x24_2 s0_0 (wrap64 (s0_1+1))=some (r1,r2))∧Aside0 (kq≤k)∧Aside0 (IsS82 w0 wc g s0_0 (wrap64 (s0_1+1)))∧Aside0 (KeepBut w wc g none)∧Aside0 (Below w0.heap.size w0 wc))
 case first =>
  have H:=HC3.out;clear HC3
  by_cases c5:a1<1
  ·rw [if_pos c5] at H
   have c5b0:=dT c5;clear c5
   (first|rw [c5b0]|(simp only [i64_w,i32_w];rw [c5b0])|skip)
   have H':=A0_ H;clear H
   go_wp2
   repeat(go_quiet (fail);try go_wp2)
   go_meet
   case rel=>exact⟨_,(true),zt,H',zo,⟨by repeat(first|(with_reducible first|exact HI0.out|apply IsS82.alloc|apply IsS82.drewN|apply IsS82.drew|apply IsS82.set_1)|exact HI0.out)⟩,⟨by repeat(first|(with_reducible first|exact HK.out|apply KeepBut.set_|apply keep_drewN|apply keep_drew|apply keep_alloc)|exact HK.out)⟩,⟨by repeat(first|(with_reducible first|exact HB.out|apply bA|apply bN|apply bD|refine bS ?_ (IsS82.ge HI0.out))|exact HB.out)⟩⟩
  rw [if_neg c5] at H;have c5b0:=dF c5;clear c5
  (first|rw [c5b0]|(simp only [i64_w,i32_w];rw [c5b0])|skip)
  have H':=A0_ H;clear H;obtain⟨ASz6_0,cSz6_0,HGz6,hgz6,HSz6_0⟩:=HI0.out;have hcz6_0:=cellS82_0 HGz6;have hcz6_1:=cellS82_1 HGz6;have hfz6_1:=kF HGz6 1;clear HGz6 hgz6
  go_wp2
  repeat(go_quiet (fail);try go_wp2)
  go_meet
  case rel=>exact⟨_,(((s0_0.length:Int) == 0)),zt,H',zo,⟨by repeat(first|(with_reducible first|exact HI0.out|apply IsS82.alloc|apply IsS82.drewN|apply IsS82.drew|apply IsS82.set_1)|exact HI0.out)⟩,⟨by repeat(first|(with_reducible first|exact HK.out|apply KeepBut.set_|apply keep_drewN|apply keep_drew|apply keep_alloc)|exact HK.out)⟩,⟨by repeat(first|(with_reducible first|exact HB.out|apply bA|apply bN|apply bD|refine bS ?_ (IsS82.ge HI0.out))|exact HB.out)⟩⟩
 case rest =>
  clear HC3;(try clear p2);(try clear c5);(try clear c5b0);(try clear p6);(try clear hcz4_0);(try clear hcz4_1);(try clear hcz6_0);(try clear hcz6_1);(try clear hfz4_1);(try clear hfz6_1);obtain⟨kq,x24_2,rfl,HA,HJ2,HI0,HK,HB⟩:=hcut
  cases kq with
  | zero=>exact absurd HA.out (by simp [spec_l6Rd_pick.j0])
  | succ kj2 =>
   have H:=HA.out;clear HA;simp only [spec_l6Rd_pick.j0] at H
   by_cases c7:x24_2=true
   ·subst c7
    have H1:(some (0,(wrap64 (s0_1+1))))=some (r1,r2):=by rw [if_pos rfl] at H;exact H
    clear H;have H:=H1;clear H1;simp only [Option.some.injEq,Prod.mk.injEq] at H;obtain⟨rfl,rfl⟩:=H
    go_wp2
    repeat(go_quiet (fail);try go_wp2)
    go_ret
    exact⟨by first|rfl|(simp [*] <;> rfl),by repeat(first|(with_reducible first|exact HI0.out|apply IsS82.alloc|apply IsS82.drewN|apply IsS82.drew|apply IsS82.set_1)|exact HI0.out),by repeat(first|(with_reducible first|exact HB.out|apply bA|apply bN|apply bD|refine bS ?_ (IsS82.ge HI0.out))|exact HB.out),by repeat(first|(with_reducible first|exact HK.out|apply KeepBut.set_|apply keep_drewN|apply keep_drew|apply keep_alloc)|exact HK.out)⟩
   replace c7:=Bool.eq_false_iff.mpr c7;subst c7
   have H1:(if (wrap64 ((wrap64 (s0_1+1)) - 1))<(s0_0.length:Int) then (if 0≤(wrap64 ((wrap64 (s0_1+1)) - 1)) then (if a1=0 then (none) else (some (Int.tmod (wrap64 (rd s0_0 (wrap64 ((wrap64 (s0_1+1)) - 1)))) a1,(wrap64 (s0_1+1))))) else (none)) else (if (s0_0.length:Int)=0 then (none) else (if 0≤(Int.tmod (wrap64 ((wrap64 (s0_1+1)) - 1)) (s0_0.length:Int)) then (if (Int.tmod (wrap64 ((wrap64 (s0_1+1)) - 1)) (s0_0.length:Int))<(s0_0.length:Int) then (if 0≤(Int.tmod (wrap64 ((wrap64 ((wrap64 ((wrap64 (s0_1+1)) - 1))*7))+3)) (s0_0.length:Int)) then (if (Int.tmod (wrap64 ((wrap64 ((wrap64 ((wrap64 (s0_1+1)) - 1))*7))+3)) (s0_0.length:Int))<(s0_0.length:Int) then (if a1=0 then (none) else (some (Int.tmod (Go.bits .xor .i64 (wrap64 ((wrap64 ((wrap64 ((wrap64 ((wrap64 (rd s0_0 (Int.tmod (wrap64 ((wrap64 (s0_1+1)) - 1)) (s0_0.length:Int))))*131))+(wrap64 ((wrap64 (rd s0_0 (Int.tmod (wrap64 ((wrap64 ((wrap64 ((wrap64 (s0_1+1)) - 1))*7))+3)) (s0_0.length:Int))))*1117))))+(wrap64 ((wrap64 ((wrap64 (s0_1+1)) - 1))*29))))+(wrap64 ((wrap64 (Int.tdiv (wrap64 ((wrap64 (s0_1+1)) - 1)) (s0_0.length:Int)))*53)))) (wrap64 (Int.tdiv (wrap64 ((wrap64 ((wrap64 ((wrap64 ((wrap64 (rd s0_0 (Int.tmod (wrap64 ((wrap64 (s0_1+1)) - 1)) (s0_0.length:Int))))*131))+(wrap64 ((wrap64 (rd s0_0 (Int.tmod (wrap64 ((wrap64 ((wrap64 ((wrap64 (s0_1+1)) - 1))*7))+3)) (s0_0.length:Int))))*1117))))+(wrap64 ((wrap64 ((wrap64 (s0_1+1)) - 1))*29))))+(wrap64 ((wrap64 (Int.tdiv (wrap64 ((wrap64 (s0_1+1)) - 1)) (s0_0.length:Int)))*53)))) 64))) a1,(wrap64 (s0_1+1))))) else (none)) else (none)) else (none)) else (none))))=some (r1,r2):=by rw [if_neg (show ¬ (false=true) by decide)] at H;exact H
   clear H;have H:=H1;clear H1
   by_cases c8:(wrap64 ((wrap64 (s0_1+1)) - 1))<(s0_0.length:Int)
   ·rw [if_pos c8] at H
    have c8b0:=dT c8;clear c8
    obtain⟨ji9,hji9⟩ : ∃ j_:Int,(wrap64 ((wrap64 (s0_1+1)) - 1))=j_:=⟨_,rfl⟩
    replace H:(if 0≤(ji9) then (if a1=0 then (none) else (some (Int.tmod (wrap64 (rd s0_0 (ji9))) a1,(wrap64 (s0_1+1))))) else (none))=some (r1,r2):=by first|(rw [hji9] at H;exact H)|(simp only [hji9] at H ⊢;exact H)
    (try rw [hji9] at c8b0)
    have hji9w:(IntKind.i64.wrap ((wrap64 (s0_1+1)) - 1))=ji9:=(i64_w _).trans hji9
    have c10:=zpc H;replace H:=zph H
    have c10b0:=dT c10;clear c10
    have c11:=zqc H;replace H:=zqh H
    have c11b0:(a1 == 0)=false:=beq_eq_false_iff_ne.mpr c11
    have c11b1:(a1 != 0)=true:=bne_iff_ne.mpr c11
    simp only [Option.some.injEq,Prod.mk.injEq] at H;obtain⟨rfl,rfl⟩:=H;obtain⟨ASz12_0,cSz12_0,HGz12,hgz12,HSz12_0⟩:=HI0.out;have hcz12_0:=cellS82_0 HGz12;have hcz12_1:=cellS82_1 HGz12;have hfz12_1:=kF HGz12 1;clear HGz12 hgz12
    have p261:0≤((ji9):Int):=zd
    have q261:(ji9)<(s0_0.length:Int):=zd
    obtain⟨ad261,e261,hx261_0⟩:=tI HSz12_0 (ji9) p261 q261
    cases e261
    replace hx261_0:=pw_cell_below HB.out hx261_0
    replace p261:=eq_true p261;replace q261:=eq_true q261
    go_wp2
    repeat(go_quiet (fail);try go_wp2)
    go_ret
    exact⟨by first|rfl|(simp [errW_none,errW_some] <;> rfl)|(simp only [← hji9];first|rfl|(simp [errW_none,errW_some] <;> rfl))|(simp [*,errW_none,errW_some] <;> rfl),by repeat(first|(with_reducible first|exact HI0.out|apply IsS82.alloc|apply IsS82.drewN|apply IsS82.drew|apply IsS82.set_1)|exact HI0.out),by repeat(first|(with_reducible first|exact HB.out|apply bA|apply bN|apply bD|refine bS ?_ (IsS82.ge HI0.out))|exact HB.out),by repeat(first|(with_reducible first|exact HK.out|apply KeepBut.set_|apply keep_drewN|apply keep_drew|apply keep_alloc)|exact HK.out)⟩
   rw [if_neg c8] at H;have c8b0:=dF c8;clear c8
   have c13:=zqc H;replace H:=zqh H
   have c13b0:((s0_0.length:Int) == 0)=false:=beq_eq_false_iff_ne.mpr c13
   have c13b1:((s0_0.length:Int) != 0)=true:=bne_iff_ne.mpr c13
   have c13b2 : ¬ (s0_0 = []):=fun h_=>c13 (by rw [h_];rfl)
   obtain⟨ji14,hji14⟩ : ∃ j_:Int,(Int.tmod (wrap64 ((wrap64 (s0_1+1)) - 1)) (s0_0.length:Int))=j_:=⟨_,rfl⟩
   replace H:(if 0≤(ji14) then (if (ji14)<(s0_0.length:Int) then (if 0≤(Int.tmod (wrap64 ((wrap64 ((wrap64 ((wrap64 (s0_1+1)) - 1))*7))+3)) (s0_0.length:Int)) then (if (Int.tmod (wrap64 ((wrap64 ((wrap64 ((wrap64 (s0_1+1)) - 1))*7))+3)) (s0_0.length:Int))<(s0_0.length:Int) then (if a1=0 then (none) else (some (Int.tmod (Go.bits .xor .i64 (wrap64 ((wrap64 ((wrap64 ((wrap64 ((wrap64 (rd s0_0 (ji14)))*131))+(wrap64 ((wrap64 (rd s0_0 (Int.tmod (wrap64 ((wrap64 ((wrap64 ((wrap64 (s0_1+1)) - 1))*7))+3)) (s0_0.length:Int))))*1117))))+(wrap64 ((wrap64 ((wrap64 (s0_1+1)) - 1))*29))))+(wrap64 ((wrap64 (Int.tdiv (wrap64 ((wrap64 (s0_1+1)) - 1)) (s0_0.length:Int)))*53)))) (wrap64 (Int.tdiv (wrap64 ((wrap64 ((wrap64 ((wrap64 ((wrap64 (rd s0_0 (ji14)))*131))+(wrap64 ((wrap64 (rd s0_0 (Int.tmod (wrap64 ((wrap64 ((wrap64 ((wrap64 (s0_1+1)) - 1))*7))+3)) (s0_0.length:Int))))*1117))))+(wrap64 ((wrap64 ((wrap64 (s0_1+1)) - 1))*29))))+(wrap64 ((wrap64 (Int.tdiv (wrap64 ((wrap64 (s0_1+1)) - 1)) (s0_0.length:Int)))*53)))) 64))) a1,(wrap64 (s0_1+1))))) else (none)) else (none)) else (none)) else (none))=some (r1,r2):=by first|(rw [hji14] at H;exact H)|(simp only [hji14] at H ⊢;exact H)
   have c15:=zpc H;replace H:=zph H
   have c15b0:=dT c15;clear c15
   have c16:=zpc H;replace H:=zph H
   have c16b0:=dT c16;clear c16
   obtain⟨ji17,hji17⟩ : ∃ j_:Int,(Int.tmod (wrap64 ((wrap64 ((wrap64 ((wrap64 (s0_1+1)) - 1))*7))+3)) (s0_0.length:Int))=j_:=⟨_,rfl⟩
   replace H:(if 0≤(ji17) then (if (ji17)<(s0_0.length:Int) then (if a1=0 then (none) else (some (Int.tmod (Go.bits .xor .i64 (wrap64 ((wrap64 ((wrap64 ((wrap64 ((wrap64 (rd s0_0 (ji14)))*131))+(wrap64 ((wrap64 (rd s0_0 (ji17)))*1117))))+(wrap64 ((wrap64 ((wrap64 (s0_1+1)) - 1))*29))))+(wrap64 ((wrap64 (Int.tdiv (wrap64 ((wrap64 (s0_1+1)) - 1)) (s0_0.length:Int)))*53)))) (wrap64 (Int.tdiv (wrap64 ((wrap64 ((wrap64 ((wrap64 ((wrap64 (rd s0_0 (ji14)))*131))+(wrap64 ((wrap64 (rd s0_0 (ji17)))*1117))))+(wrap64 ((wrap64 ((wrap64 (s0_1+1)) - 1))*29))))+(wrap64 ((wrap64 (Int.tdiv (wrap64 ((wrap64 (s0_1+1)) - 1)) (s0_0.length:Int)))*53)))) 64))) a1,(wrap64 (s0_1+1))))) else (none)) else (none))=some (r1,r2):=by first|(rw [hji17] at H;exact H)|(simp only [hji17] at H ⊢;exact H)
   have c18:=zpc H;replace H:=zph H
   have c18b0:=dT c18;clear c18
   have c19:=zpc H;replace H:=zph H
   have c19b0:=dT c19;clear c19
   have c20:=zqc H;replace H:=zqh H
   have c20b0:(a1 == 0)=false:=beq_eq_false_iff_ne.mpr c20
   have c20b1:(a1 != 0)=true:=bne_iff_ne.mpr c20
   simp only [Option.some.injEq,Prod.mk.injEq] at H;obtain⟨rfl,rfl⟩:=H;obtain⟨ASz21_0,cSz21_0,HGz21,hgz21,HSz21_0⟩:=HI0.out;have hcz21_0:=cellS82_0 HGz21;have hcz21_1:=cellS82_1 HGz21;have hfz21_1:=kF HGz21 1;clear HGz21 hgz21
   have p262:0≤((ji14):Int):=zd
   have q262:(ji14)<(s0_0.length:Int):=zd
   obtain⟨ad262,e262,hx262_0⟩:=tI HSz21_0 (ji14) p262 q262
   cases e262
   replace hx262_0:=pw_cell_below HB.out hx262_0
   replace p262:=eq_true p262;replace q262:=eq_true q262
   have p263:0≤((ji17):Int):=zd
   have q263:(ji17)<(s0_0.length:Int):=zd
   obtain⟨ad263,e263,hx263_0⟩:=tI HSz21_0 (ji17) p263 q263
   obtain rfl:ad262=ad263:=(by injection e263)
   replace hx263_0:=pw_cell_below HB.out hx263_0
   replace p263:=eq_true p263;replace q263:=eq_true q263
   go_wp2
   repeat(go_quiet (fail);try go_wp2)
   go_ret
   exact⟨by first|rfl|(simp [errW_none,errW_some] <;> rfl)|(simp only [← hji14,← hji17];first|rfl|(simp [errW_none,errW_some] <;> rfl))|(simp [*,errW_none,errW_some] <;> rfl),by repeat(first|(with_reducible first|exact HI0.out|apply IsS82.alloc|apply IsS82.drewN|apply IsS82.drew|apply IsS82.set_1)|exact HI0.out),by repeat(first|(with_reducible first|exact HB.out|apply bA|apply bN|apply bD|refine bS ?_ (IsS82.ge HI0.out))|exact HB.out),by repeat(first|(with_reducible first|exact HK.out|apply KeepBut.set_|apply keep_drewN|apply keep_drew|apply keep_alloc)|exact HK.out)⟩

/-! ### spec_l6In: function 101 -/
def spec_l6In.f (a0:Int) (a1:Int) (a2:Int):Option (Bool):=if a0≥a1 then (some (decide (a0≤a2))) else (some false)
set_option maxHeartbeats 8000000 in
set_option maxRecDepth 100000 in
theorem spec_l6In.calls (a0:Int) (a1:Int) (a2:Int) (r:Bool) (w:World) (h:spec_l6In.f a0 a1 a2=some r) :
    Calls Try.prog 101 #[.int .i64 a0,.int .i64 a1,.int .i64 a2] w fun e w'=>e = .returned (.bool r)∧Drawn0 w w':=by
 have H:(if a0≥a1 then (some (decide (a0≤a2))) else (some false))=some r:=h
 clear h
 by_cases c4:a0≥a1
 ·rw [if_pos c4] at H
  have c4b0:decide (a1≤a0)=true:=dT c4
  clear c4;obtain rfl:=sI H
  go_enter Try.func101,Try.ntmps101
  go_wp2
  go_ret
  exact⟨by first|rfl|(simp;done)|(simp [*];done),by repeat(first|exact Drawn0.refl _|apply Drawn0.step)⟩
 rw [if_neg c4] at H
 have c4b0:decide (a1≤a0)=false:=dF c4
 clear c4;obtain rfl:=sI H
 go_enter Try.func101,Try.ntmps101
 go_wp2
 go_ret
 exact⟨by first|rfl|(simp;done)|(simp [*];done),by repeat(first|exact Drawn0.refl _|apply Drawn0.step)⟩

/-! ### spec_PermValid: function 89 -/
mutual
def spec_PermValid.l0:Nat→List Int→Int→Option (Bool)
  | 0,_,_=>none
  | k+1,x0,x3=>if x3<(x0.length:Int) then (if 0≤x3 then ((spec_l6In.f (rd x0 x3) 0 (wrap64 ((x0.length:Int) - 1))).bind fun t266=>(if t266=true then (spec_PermValid.l1 k x0 x3 0) else (some false))) else (none)) else ((spec_l6In.f (x0.length:Int) 1 12).bind fun t264=>(some t264))
def spec_PermValid.l1:Nat→List Int→Int→Int→Option (Bool)
  | 0,_,_,_=>none
  | k+1,x0,x3,x4=>if x4<x3 then (if 0≤x4 then (if x4<(x0.length:Int) then (if 0≤x3 then (if x3<(x0.length:Int) then (if (rd x0 x4)=(rd x0 x3) then (some false) else (spec_PermValid.l1 k x0 x3 (wrap64 (x4+1)))) else (none)) else (none)) else (none)) else (none)) else (spec_PermValid.l0 k x0 (wrap64 (x3+1)))
end
def spec_PermValid.f (k:Nat) (l0:List Int):Option (Bool):=spec_PermValid.l0 k l0 0
set_option maxHeartbeats 8000000 in
set_option maxRecDepth 100000 in
theorem spec_PermValid.calls (k:Nat) (A0:Option Addr) (c0:Nat) (l0:List Int) (r:Bool) (w:World) (hr0:Kd.C (Kd.int .i64) w A0 l0.length l0) (hc0:l0.length≤c0) (h:spec_PermValid.f k l0=some r) :
    Calls Try.prog 89 #[.slice A0 l0.length c0] w fun e w'=>e = .returned (.bool r)∧Drawn0 w w':=by
 have HR0:=A0_ hr0;have HC0:=A0_ hc0;clear hr0 hc0
 have H:(spec_PermValid.l0 k l0 0)=some r:=h
 clear h;have H':=A0_ H;clear H
 go_enter Try.func89,Try.ntmps89
 go_wp2
 repeat(go_quiet (fail);try go_wp2)
 go_loopg [3] k (fun kq v3 w' => ∃ (x3_1:Int),v3 = .int .i64 x3_1∧Aside0 (spec_PermValid.l0 kq l0 x3_1=some r)∧Aside0 (kq≤k)∧Drawn0 w w')
 case atStart=>exact⟨(0),zt,H',⟨Nat.le_refl _⟩,by repeat(first|exact Drawn0.refl _|apply Drawn0.step)⟩
 case round =>
  clear H';obtain⟨x3_1,rfl,HA,HK1,⟨m1,rfl⟩⟩:=hrel
  cases gk with
  | zero=>exact absurd HA.out (by simp [spec_PermValid.l0])
  | succ k1 =>
   have H:=HA.out;clear HA;simp only [spec_PermValid.l0] at H
   by_cases c2:x3_1<(l0.length:Int)
   ·rw [if_pos c2] at H
    have c2b0:=dT c2;clear c2
    have c3:=zpc H;replace H:=zph H
    have c3b0:=dT c3;clear c3;obtain⟨t266,A4,H⟩:=zbind H
    by_cases c5:t266=true
    ·subst c5
     rw [if_pos rfl] at H;have H':=A0_ H;clear H
     have p265:0≤(x3_1:Int):=zd
     have q265:x3_1<(l0.length:Int):=zd
     obtain⟨ad265,e265,hx265_0⟩:=tI HR0.out x3_1 p265 q265
     cases e265
     replace p265:=eq_true p265;replace q265:=eq_true q265
     go_wp2_with (first|(go_at_call 101;(with_reducible refine(spec_l6In.calls (rd l0 x3_1) 0 (wrap64 ((l0.length:Int) - 1)) true _ A4.out).mono ?_);rintro e w' ⟨rfl,⟨nd,rfl⟩⟩;(try first|exact⟨rfl,_,World.drewN_drewN _ _ _⟩|exact⟨rfl,_,Eq.trans (World.drewN_drewN _ _ _) (congrArg (World.drewN _) (Nat.add_assoc _ _ _))⟩)))
     repeat(go_quiet (first|(go_at_call 101;(with_reducible refine(spec_l6In.calls (rd l0 x3_1) 0 (wrap64 ((l0.length:Int) - 1)) true _ A4.out).mono ?_);rintro e w' ⟨rfl,⟨nd,rfl⟩⟩;(try first|exact⟨rfl,_,World.drewN_drewN _ _ _⟩|exact⟨rfl,_,Eq.trans (World.drewN_drewN _ _ _) (congrArg (World.drewN _) (Nat.add_assoc _ _ _))⟩)));try go_wp2_with (first|(go_at_call 101;(with_reducible refine(spec_l6In.calls (rd l0 x3_1) 0 (wrap64 ((l0.length:Int) - 1)) true _ A4.out).mono ?_);rintro e w' ⟨rfl,⟨nd,rfl⟩⟩;(try first|exact⟨rfl,_,World.drewN_drewN _ _ _⟩|exact⟨rfl,_,Eq.trans (World.drewN_drewN _ _ _) (congrArg (World.drewN _) (Nat.add_assoc _ _ _))⟩))))
     (try generalize Value.pointer (some (ad265.add (x3_1:Int).toNat))=pz_)
     go_loopg [4] k1 (fun kq v4 w' => ∃ (x4_2:Int),v4 = .int .i64 x4_2∧Aside0 (spec_PermValid.l1 kq l0 x3_1 x4_2=some r)∧Aside0 (kq≤k1)∧Drawn0 w w')
     case atStart=>exact⟨(0),zt,H',⟨Nat.le_refl _⟩,by repeat(first|exact Drawn0.refl _|apply Drawn0.step)⟩
     case round =>
      clear H';(try clear c2);(try clear c2b0);(try clear p2);(try clear q2);(try clear hx2);(try clear c3);(try clear c3b0);(try clear c5);(try clear hx265_0);(try clear p265);(try clear q265);obtain⟨x4_2,rfl,HA,HK2,⟨m2,rfl⟩⟩:=hrel
      cases gk with
      | zero=>exact absurd HA.out (by simp [spec_PermValid.l1])
      | succ k2 =>
       have H:=HA.out;clear HA;simp only [spec_PermValid.l1] at H
       by_cases c6:x4_2<x3_1
       ·rw [if_pos c6] at H
        have c6b0:=dT c6;clear c6
        have c7:=zpc H;replace H:=zph H
        have c7b0:=dT c7;clear c7
        have c8:=zpc H;replace H:=zph H
        have c8b0:=dT c8;clear c8
        have c9:=zpc H;replace H:=zph H
        have c9b0:=dT c9;clear c9
        have c10:=zpc H;replace H:=zph H
        have c10b0:=dT c10;clear c10
        by_cases c11:(rd l0 x4_2)=(rd l0 x3_1)
        ·rw [if_pos c11] at H
         have c11b0:((rd l0 x4_2) == (rd l0 x3_1))=true:=beq_iff_eq.mpr c11
         have c11b1:((rd l0 x4_2) != (rd l0 x3_1))=false:=bne_eq_false_iff_eq.mpr c11
         clear c11;obtain rfl:=sI H
         have p267:0≤(x4_2:Int):=zd
         have q267:x4_2<(l0.length:Int):=zd
         obtain⟨ad267,e267,hx267_0⟩:=tI HR0.out x4_2 p267 q267
         obtain rfl:ad265=ad267:=(by injection e267)
         replace p267:=eq_true p267;replace q267:=eq_true q267
         have p268:0≤(x3_1:Int):=zd
         have q268:x3_1<(l0.length:Int):=zd
         obtain⟨ad268,e268,hx268_0⟩:=tI HR0.out x3_1 p268 q268
         obtain rfl:ad265=ad268:=(by injection e268)
         replace p268:=eq_true p268;replace q268:=eq_true q268
         go_wp2
         repeat(go_quiet (fail);try go_wp2)
         go_ret
         exact⟨by first|rfl|(simp;done)|(simp [*];done),by repeat(first|exact Drawn0.refl _|apply Drawn0.step)⟩
        rw [if_neg c11] at H
        have c11b0:((rd l0 x4_2) == (rd l0 x3_1))=false:=beq_eq_false_iff_ne.mpr c11
        have c11b1:((rd l0 x4_2) != (rd l0 x3_1))=true:=bne_iff_ne.mpr c11
        have H':=A0_ H;clear H
        have p267:0≤(x4_2:Int):=zd
        have q267:x4_2<(l0.length:Int):=zd
        obtain⟨ad267,e267,hx267_0⟩:=tI HR0.out x4_2 p267 q267
        obtain rfl:ad265=ad267:=(by injection e267)
        replace p267:=eq_true p267;replace q267:=eq_true q267
        have p268:0≤(x3_1:Int):=zd
        have q268:x3_1<(l0.length:Int):=zd
        obtain⟨ad268,e268,hx268_0⟩:=tI HR0.out x3_1 p268 q268
        obtain rfl:ad265=ad268:=(by injection e268)
        replace p268:=eq_true p268;replace q268:=eq_true q268
        go_wp2
        repeat(go_quiet (fail);try go_wp2)
        go_roundg k2
        case measure=>have:=HK1.out;have:=HK2.out;omega
        case rel=>exact⟨(wrap64 (x4_2+1)),zt,H',⟨by have:=HK1.out;have:=HK2.out;omega⟩,by repeat(first|exact Drawn0.refl _|apply Drawn0.step)⟩
       rw [if_neg c6] at H;have c6b0:=dF c6;clear c6;have H':=A0_ H;clear H
       go_wp2
       repeat(go_quiet (fail);try go_wp2)
       go_roundg k2
       case measure=>have:=HK1.out;have:=HK2.out;omega
       case rel=>exact⟨(wrap64 (x3_1+1)),zt,H',⟨by have:=HK1.out;have:=HK2.out;omega⟩,by repeat(first|exact Drawn0.refl _|apply Drawn0.step)⟩
    replace c5:=Bool.eq_false_iff.mpr c5;subst c5
    rw [if_neg (show ¬ (false=true) by decide)] at H
    obtain rfl:=sI H
    have p265:0≤(x3_1:Int):=zd
    have q265:x3_1<(l0.length:Int):=zd
    obtain⟨ad265,e265,hx265_0⟩:=tI HR0.out x3_1 p265 q265
    cases e265
    replace p265:=eq_true p265;replace q265:=eq_true q265
    go_wp2_with (first|(go_at_call 101;(with_reducible refine(spec_l6In.calls (rd l0 x3_1) 0 (wrap64 ((l0.length:Int) - 1)) false _ A4.out).mono ?_);rintro e w' ⟨rfl,⟨nd,rfl⟩⟩;(try first|exact⟨rfl,_,World.drewN_drewN _ _ _⟩|exact⟨rfl,_,Eq.trans (World.drewN_drewN _ _ _) (congrArg (World.drewN _) (Nat.add_assoc _ _ _))⟩)))
    repeat(go_quiet (first|(go_at_call 101;(with_reducible refine(spec_l6In.calls (rd l0 x3_1) 0 (wrap64 ((l0.length:Int) - 1)) false _ A4.out).mono ?_);rintro e w' ⟨rfl,⟨nd,rfl⟩⟩;(try first|exact⟨rfl,_,World.drewN_drewN _ _ _⟩|exact⟨rfl,_,Eq.trans (World.drewN_drewN _ _ _) (congrArg (World.drewN _) (Nat.add_assoc _ _ _))⟩)));try go_wp2_with (first|(go_at_call 101;(with_reducible refine(spec_l6In.calls (rd l0 x3_1) 0 (wrap64 ((l0.length:Int) - 1)) false _ A4.out).mono ?_);rintro e w' ⟨rfl,⟨nd,rfl⟩⟩;(try first|exact⟨rfl,_,World.drewN_drewN _ _ _⟩|exact⟨rfl,_,Eq.trans (World.drewN_drewN _ _ _) (congrArg (World.drewN _) (Nat.add_assoc _ _ _))⟩))))
    go_ret
    exact⟨by first|rfl|(simp;done)|(simp [*];done),by repeat(first|exact Drawn0.refl _|apply Drawn0.step)⟩
   rw [if_neg c2] at H;have c2b0:=dF c2;clear c2;obtain⟨t264,A12,H⟩:=zbind H;obtain rfl:=sI H
   go_wp2_with (first|(go_at_call 101;(with_reducible refine(spec_l6In.calls (l0.length:Int) 1 12 t264 _ A12.out).mono ?_);rintro e w' ⟨rfl,⟨nd,rfl⟩⟩;(try first|exact⟨rfl,_,World.drewN_drewN _ _ _⟩|exact⟨rfl,_,Eq.trans (World.drewN_drewN _ _ _) (congrArg (World.drewN _) (Nat.add_assoc _ _ _))⟩)))
   repeat(go_quiet (first|(go_at_call 101;(with_reducible refine(spec_l6In.calls (l0.length:Int) 1 12 t264 _ A12.out).mono ?_);rintro e w' ⟨rfl,⟨nd,rfl⟩⟩;(try first|exact⟨rfl,_,World.drewN_drewN _ _ _⟩|exact⟨rfl,_,Eq.trans (World.drewN_drewN _ _ _) (congrArg (World.drewN _) (Nat.add_assoc _ _ _))⟩)));try go_wp2_with (first|(go_at_call 101;(with_reducible refine(spec_l6In.calls (l0.length:Int) 1 12 t264 _ A12.out).mono ?_);rintro e w' ⟨rfl,⟨nd,rfl⟩⟩;(try first|exact⟨rfl,_,World.drewN_drewN _ _ _⟩|exact⟨rfl,_,Eq.trans (World.drewN_drewN _ _ _) (congrArg (World.drewN _) (Nat.add_assoc _ _ _))⟩))))
   go_ret
   exact⟨by first|rfl|(simp;done)|(simp [*];done),by repeat(first|exact Drawn0.refl _|apply Drawn0.step)⟩

/-! ### spec_l1Both: function 102 -/
def spec_l1Both.f (k:Nat) (l0:List Int) (l1:List Int):Option (Bool):=(spec_PermValid.f k l0).bind fun t269=>(if t269=true then ((spec_PermValid.f k l1).bind fun t270=>(if t270=true then (some ((l0.length:Int) == (l1.length:Int))) else (some false))) else (some false))
set_option maxHeartbeats 8000000 in
set_option maxRecDepth 100000 in
theorem spec_l1Both.calls (k:Nat) (A0:Option Addr) (c0:Nat) (l0:List Int) (A1:Option Addr) (c1:Nat) (l1:List Int) (r:Bool) (w:World) (hr0:Kd.C (Kd.int .i64) w A0 l0.length l0) (hc0:l0.length≤c0) (hr1:Kd.C (Kd.int .i64) w A1 l1.length l1) (hc1:l1.length≤c1) (h:spec_l1Both.f k l0 l1=some r) :
    Calls Try.prog 102 #[.slice A0 l0.length c0,.slice A1 l1.length c1] w fun e w'=>e = .returned (.bool r)∧Drawn0 w w':=by
 have HR0:=A0_ hr0;have HC0:=A0_ hc0;clear hr0 hc0;have HR1:=A0_ hr1;have HC1:=A0_ hc1;clear hr1 hc1
 have H:((spec_PermValid.f k l0).bind fun t269=>(if t269=true then ((spec_PermValid.f k l1).bind fun t270=>(if t270=true then (some ((l0.length:Int) == (l1.length:Int))) else (some false))) else (some false)))=some r:=h
 clear h;obtain⟨t269,A3,H⟩:=zbind H
 by_cases c4:t269=true
 ·subst c4
  rw [if_pos rfl] at H;obtain⟨t270,A5,H⟩:=zbind H
  by_cases c6:t270=true
  ·subst c6
   rw [if_pos rfl] at H;obtain rfl:=sI H
   go_enter Try.func102,Try.ntmps102
   go_wp2_with (first|((with_reducible refine gC (f:=89) rfl ?_);refine zJ (some 6) Try.func89 #[.slice A0 l0.length c0] ?_;(with_reducible refine(spec_PermValid.calls k _ _ l0 true _ ?side1 ?side2 A3.out).mono ?_);(case side1=>repeat(first|exact HR0.out|(with_reducible refine cA ?_ _)|(with_reducible refine cN ?_ _)|(with_reducible refine cD ?_)));(case side2=>exact HC0.out);rintro e w' ⟨rfl,⟨nd,rfl⟩⟩;refine⟨_,rfl,?_⟩)|(go_at_call 89;(with_reducible refine(spec_PermValid.calls k _ _ l1 true _ ?side1 ?side2 A5.out).mono ?_);(case side1=>repeat(first|exact HR1.out|(with_reducible refine cA ?_ _)|(with_reducible refine cN ?_ _)|(with_reducible refine cD ?_)));(case side2=>exact HC1.out);rintro e w' ⟨rfl,⟨nd,rfl⟩⟩))
   go_ret
   exact⟨by first|rfl|(simp;done)|(simp [*];done),by repeat(first|exact Drawn0.refl _|apply Drawn0.step)⟩
  replace c6:=Bool.eq_false_iff.mpr c6;subst c6
  rw [if_neg (show ¬ (false=true) by decide)] at H
  obtain rfl:=sI H
  go_enter Try.func102,Try.ntmps102
  go_wp2_with (first|((with_reducible refine gC (f:=89) rfl ?_);refine zJ (some 6) Try.func89 #[.slice A0 l0.length c0] ?_;(with_reducible refine(spec_PermValid.calls k _ _ l0 true _ ?side1 ?side2 A3.out).mono ?_);(case side1=>repeat(first|exact HR0.out|(with_reducible refine cA ?_ _)|(with_reducible refine cN ?_ _)|(with_reducible refine cD ?_)));(case side2=>exact HC0.out);rintro e w' ⟨rfl,⟨nd,rfl⟩⟩;refine⟨_,rfl,?_⟩)|(go_at_call 89;(with_reducible refine(spec_PermValid.calls k _ _ l1 false _ ?side1 ?side2 A5.out).mono ?_);(case side1=>repeat(first|exact HR1.out|(with_reducible refine cA ?_ _)|(with_reducible refine cN ?_ _)|(with_reducible refine cD ?_)));(case side2=>exact HC1.out);rintro e w' ⟨rfl,⟨nd,rfl⟩⟩))
  go_ret
  exact⟨by first|rfl|(simp;done)|(simp [*];done),by repeat(first|exact Drawn0.refl _|apply Drawn0.step)⟩
 replace c4:=Bool.eq_false_iff.mpr c4;subst c4
 rw [if_neg (show ¬ (false=true) by decide)] at H
 obtain rfl:=sI H
 go_enter Try.func102,Try.ntmps102
 go_wp2_with (first|((with_reducible refine gC (f:=89) rfl ?_);refine zJ (some 6) Try.func89 #[.slice A0 l0.length c0] ?_;(with_reducible refine(spec_PermValid.calls k _ _ l0 false _ ?side1 ?side2 A3.out).mono ?_);(case side1=>repeat(first|exact HR0.out|(with_reducible refine cA ?_ _)|(with_reducible refine cN ?_ _)|(with_reducible refine cD ?_)));(case side2=>exact HC0.out);rintro e w' ⟨rfl,⟨nd,rfl⟩⟩;refine⟨_,rfl,?_⟩))
 go_ret
 exact⟨by first|rfl|(simp;done)|(simp [*];done),by repeat(first|exact Drawn0.refl _|apply Drawn0.step)⟩

end Go.Proofs.Ytmegggomhjgehaa.PFnCover
