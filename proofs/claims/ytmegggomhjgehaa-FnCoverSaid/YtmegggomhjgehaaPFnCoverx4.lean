-- Made by a program of this session (wip/tools) out of the loaded program; not trusted: Lean checks it.
import Derived.Test.YtmegggomhjgehaaPFnCoverx0
import Derived.Test.YtmegggomhjgehaaPFnCoverx3
-- packed
-- packed2
namespace Go.Proofs.Ytmegggomhjgehaa.PFnCover
open Go.RowKit Go.Proofs.YtmegggomhjgehaaW.PrintWords Go.Proofs.YtmegggomhjgehaaW.PrintLast Go.Proofs.YtmegggomhjgehaaW.PrintMore
attribute [local go_sem] max2_int min2_int max_two min_two max_three min_three max_four min_four
set_option linter.unusedVariables false
set_option linter.unusedSimpArgs false

/-! ### impl_cover: function 55 -/
mutual
def impl_cover.l0:Nat→Int→List (List Int)→List Int→Int→Int→List Int→List Int→List Int→List Int→Option (List Int×List Int)
  | 0,_,_,_,_,_,_,_,_,_=>none
  | k+1,x1,x2,x26,x27,x28,x170000,x170001,x178000,x178001=>if x28<x27 then (if 0≤x28 then (if x28<(x26.length:Int) then ((impl_along.f k x170000 x170001 x2 x28).bind fun t179=>(impl_cover.l1 k x1 x2 x28 (rd x26 x28) t179 x26 x27 x28 x1 0 x170000 x170001 x178000 x178001)) else (none)) else (none)) else (some (x178000,x178001))
def impl_cover.l1:Nat→Int→List (List Int)→Int→Int→List Int→List Int→Int→Int→Int→Int→List Int→List Int→List Int→List Int→Option (List Int×List Int)
  | 0,_,_,_,_,_,_,_,_,_,_,_,_,_,_=>none
  | k+1,x1,x2,x8,x9,x10,x26,x27,x28,x37,x38,x170000,x170001,x178000,x178001=>if x38<x37 then (if 0≤x8 then (if x8<(x170000.length:Int) then (if 0≤(wrap64 ((wrap64 (x1*x8))+x38)) then (if (wrap64 ((wrap64 (x1*x8))+x38))<(x178000.length:Int) then (if 0≤x38 then (if x38<(x10.length:Int) then (if (wrap64 ((wrap64 (x1*x8))+x38))<(x178001.length:Int) then (impl_cover.l1 k x1 x2 x8 x9 x10 x26 x27 x28 x37 (wrap64 (x38+1)) x170000 x170001 (x178000.set ((wrap64 ((wrap64 (x1*x8))+x38)):Int).toNat (wrap64 ((wrap64 (x1*(rd x170000 x8)))+x38))) (x178001.set ((wrap64 ((wrap64 (x1*x8))+x38)):Int).toNat (wrap64 ((wrap64 (x1*x9))+(rd x10 x38))))) else (none)) else (none)) else (none)) else (none)) else (none)) else (none)) else (none)) else (impl_cover.l0 k x1 x2 x26 x27 (wrap64 (x28+1)) x170000 x170001 x178000 x178001)
end
def impl_cover.f (k:Nat) (l0_0:List Int) (l0_1:List Int) (a1:Int) (l2:List (List Int)):Option (List Int×List Int):=if 0≤(wrap64 (a1*(l0_0.length:Int))) then (if (wrap64 (a1*(l0_0.length:Int)):Int).toNat≤35184372088832 then (impl_cover.l0 k a1 l2 l0_1 (l0_1.length:Int) 0 l0_0 l0_1 (List.replicate (wrap64 (a1*(l0_0.length:Int)):Int).toNat 0) (List.replicate (wrap64 (a1*(l0_0.length:Int)):Int).toNat 0)) else (none)) else (none)
def impl_cover.T1:Bool×List (List Nat×List Nat):=(true,[([],[]),([],[]),([1],[1]),([2],[2]),([0,3],[0,3]),([4,4],[4]),([],[]),([],[]),([7],[7]),([8],[8]),([6,9],[6,9]),([10,10],[10]),([5,11],[5,11]),([],[]),([13,12,0,1,2,3,4,5,6,7,8,9,10,11,12,13],[12,13])])
def impl_cover.B1:List Nat := [0,0,2,6,15,31,0,0,128,384,960,1984,4095,0,16383]
theorem impl_cover.tab1:rtab .any (opsOf Try.f55 1)=impl_cover.T1:=by kernel_rfl
theorem impl_cover.bits1:waitsOk impl_cover.T1.2 impl_cover.B1=true:=by kernel_rfl
def impl_cover.T9:Bool×List (List Nat×List Nat):=(true,[([],[]),([0],[0]),([],[]),([],[]),([2,3],[2,3]),([],[]),([4,5],[4,5]),([],[]),([],[]),([8],[8]),([],[]),([9,10],[9,10]),([11],[11]),([7,12],[7,12]),([],[]),([13,14],[13,14]),([1,6,0,1,2,3,4,5,6,7,8,9,10,11,12,13,14,15],[1,6]),([16,15,0,1,2,3,4,5,6,7,8,9,10,11,12,13,14,15],[15,16])])
def impl_cover.B9:List Nat := [0,1,0,0,12,0,60,0,0,256,0,1792,3840,8064,0,32640,65535,131071]
theorem impl_cover.tab9:rtab .any (opsOf Try.f55 9)=impl_cover.T9:=by kernel_rfl
theorem impl_cover.bits9:waitsOk impl_cover.T9.2 impl_cover.B9=true:=by kernel_rfl
def impl_cover.T10:Bool×List (List Nat×List Nat):=(true,[([],[]),([0],[0]),([],[]),([],[]),([2,3],[2,3]),([],[]),([4,5],[4,5]),([],[]),([],[]),([7,8],[7,8]),([],[]),([],[]),([10,11],[10,11]),([12],[12]),([9,13],[9,13]),([1,6,0,1,2,3,4,5,6,7,8,9,10,11,12,13,14],[1,6]),([15,14,0,1,2,3,4,5,6,7,8,9,10,11,12,13,14],[14,15])])
def impl_cover.B10:List Nat := [0,1,0,0,12,0,60,0,0,384,0,0,3072,7168,16256,32767,65535]
theorem impl_cover.tab10:rtab .any (opsOf Try.f55 10)=impl_cover.T10:=by kernel_rfl
theorem impl_cover.bits10:waitsOk impl_cover.T10.2 impl_cover.B10=true:=by kernel_rfl
set_option maxHeartbeats 8000000 in
set_option maxRecDepth 100000 in
theorem impl_cover.calls (k:Nat) (A0_0:Option Addr) (c0_0:Nat) (l0_0:List Int) (A0_1:Option Addr) (c0_1:Nat) (l0_1:List Int) (a1:Int) (A2:Option Addr) (c2:Nat) (l2:List (List Int)) (r1:List Int) (r2:List Int) (w:World) (hr0_0:Kd.C (Kd.int .i64) w A0_0 l0_0.length l0_0) (hc0_0:l0_0.length≤c0_0) (hr0_1:Kd.C (Kd.int .i64) w A0_1 l0_1.length l0_1) (hc0_1:l0_1.length≤c0_1) (hr2:Kd.C (Kd.slice 3 (Kd.int .i64)) w A2 l2.length l2) (hc2:l2.length≤c2) (h:impl_cover.f k l0_0 l0_1 a1 l2=some (r1,r2)) :
    Calls Try.prog 55 #[.agg #[.slice A0_0 l0_0.length c0_0,.slice A0_1 l0_1.length c0_1],.int .i64 a1,.slice A2 l2.length c2] w fun e w' => ∃ v0_ v1_:Value,e = .returned (.agg #[v0_,v1_])∧Kd.R (Kd.int .i64) 3 w' w.heap.size (fun k_=>some k_≠(v1_:Value).ownBlock) v0_ r1∧Kd.R (Kd.int .i64) 3 w' w.heap.size (fun k_=>some k_≠(v0_:Value).ownBlock) v1_ r2∧Below w.heap.size w w':=by
 have hu25:=Try.underlying25;have HR0_0:=A0_ hr0_0;have HC0_0:=A0_ hc0_0;clear hr0_0 hc0_0;have HR0_1:=A0_ hr0_1;have HC0_1:=A0_ hc0_1;clear hr0_1 hc0_1;have HR2:=A0_ hr2;have HC2:=A0_ hc2;clear hr2 hc2
 have HB:=A0_ (Below.refl w.heap.size w)
 have H:(if 0≤(wrap64 (a1*(l0_0.length:Int))) then (if (wrap64 (a1*(l0_0.length:Int)):Int).toNat≤35184372088832 then (impl_cover.l0 k a1 l2 l0_1 (l0_1.length:Int) 0 l0_0 l0_1 (List.replicate (wrap64 (a1*(l0_0.length:Int)):Int).toNat 0) (List.replicate (wrap64 (a1*(l0_0.length:Int)):Int).toNat 0)) else (none)) else (none))=some (r1,r2):=h
 clear h
 obtain⟨ji4,hji4⟩ : ∃ j_:Int,(wrap64 (a1*(l0_0.length:Int)))=j_:=⟨_,rfl⟩
 replace H:(if 0≤(ji4) then (if (ji4:Int).toNat≤35184372088832 then (impl_cover.l0 k a1 l2 l0_1 (l0_1.length:Int) 0 l0_0 l0_1 (List.replicate (ji4:Int).toNat 0) (List.replicate (ji4:Int).toNat 0)) else (none)) else (none))=some (r1,r2):=by first|(rw [hji4] at H;exact H)|(simp only [hji4] at H ⊢;exact H)
 have hji4w:(IntKind.i64.wrap (a1*(l0_0.length:Int)))=ji4:=(i64_w _).trans hji4
 have c5:=zpc H;replace H:=zph H
 have c5b0:=eq_true c5;have c5b1:=dT c5;clear c5
 have c6:=zpc H;replace H:=zph H
 have c6b0:=eq_true c6;have c6b1:=dT c6;clear c6
 obtain⟨y171,hy171⟩ : ∃ y_:List Int,y_=(List.replicate (ji4:Int).toNat 0):=⟨_,rfl⟩
 replace H:(impl_cover.l0 k a1 l2 l0_1 (l0_1.length:Int) 0 l0_0 l0_1 y171 (List.replicate (ji4:Int).toNat 0))=some (r1,r2):=zH hy171 H
 have Ny171:=A0_ hy171;clear hy171
 obtain⟨y174,hy174⟩ : ∃ y_:List Int,y_=(List.replicate (ji4:Int).toNat 0):=⟨_,rfl⟩
 replace H:(impl_cover.l0 k a1 l2 l0_1 (l0_1.length:Int) 0 l0_0 l0_1 y171 y174)=some (r1,r2):=zH hy174 H
 have Ny174:=A0_ hy174;clear hy174;have H':=A0_ H;clear H
 go_enter Try.func55,Try.ntmps55
 try go_wp2_with (first|((with_reducible refine gD (N:=3) rfl ?_);refine zX (N:=3) (cs := #[.slice A0_0 l0_0.length c0_0,.slice A0_1 l0_1.length c0_1]) (t:=25) ?_;intro gb169 hg w7 hbox hb;have BK169:=A0_ (hbox);have GW169:=zG hg HB;have GE169:=zG hg HB;replace HB:=zB HB hb;clear hb hbox hg)|((with_reducible refine gD (N:=6) rfl ?_);refine zX (N:=6) (cs := #[.slice none 0 0,.slice none 0 0]) (t:=25) ?_;intro gb170 hg w8 hbox hb;have BK170:=A0_ (hbox);have GW170:=zG hg HB;have GE170:=zG hg HB;replace HB:=zB HB hb;have NB169_170:=zL hg BK169;have NB170_169:=zM hg BK169;replace BK169:=zK BK169 hb;clear hb hbox hg))
 replace BK169:=A0_ (kD BK169.out)
 replace BK170:=A0_ (kD BK170.out)
 replace HB:=A0_ (bD HB.out)
 refine start_ (n:=15) (S:=fun w'=>w'.cell? ⟨gb169,0,none⟩=some (.slice A0_0 l0_0.length c0_0)∧w'.cell? ⟨gb169,1,none⟩=some (.slice A0_1 l0_1.length c0_1)) (ds := []) (bs 15 0) (by kernel_rfl) rfl rfl ⟨(kC BK169.out 0).trans rfl,(kC BK169.out 1).trans rfl⟩ (fun hHeld => ?_);refine with_tabW impl_cover.tab1 impl_cover.bits1 (fun HT_ HW_ => ?_)
 generalize w8.drew=w9 at BK169 BK170 HB hHeld ⊢
 refine zP 0 (some 12) (bs 15 1) ?_
 refine zP 1 (some 13) (bs 15 3) ?_
 refine zP 6 (some 18) (bs 15 67) ?_
 refine zP 7 (some 19) (bs 15 195) ?_
 refine zT 2 (some 14) (bs 15 199) hHeld ?_
 refine zP 3 (some 15) (bs 15 207) ?_
 refine zP 4 (some 16) (bs 15 223) ?_
 refine zT 8 (some 20) (bs 15 479) hHeld ?_
 refine zP 9 (some 21) (bs 15 991) ?_
 refine zP 10 (some 22) (bs 15 2015) ?_
 refine join_ (σ:=Value×Value×Nat) 1 (bs 15 16383) (fun s_ => [(17,s_.1),(23,s_.2.1),(7,.pointer (some ⟨s_.2.2,0,none⟩)),(24,.agg #[s_.1,s_.2.1])]) (fun s_ w'=>(w'.cell? ⟨gb169,0,none⟩=some (.slice A0_0 l0_0.length c0_0)∧w'.cell? ⟨gb169,1,none⟩=some (.slice A0_1 l0_1.length c0_1))∧(Kd.R (Kd.int .i64) 3 w' w.heap.size (fun k_=>some k_≠(s_.2.1:Value).ownBlock) s_.1 y171)∧(Kd.R (Kd.int .i64) 3 w' w.heap.size (fun k_=>some k_≠(s_.1:Value).ownBlock) s_.2.1 y174)∧(w'.heap[gb169]? = some (.cells #[.slice A0_0 l0_0.length c0_0,.slice A0_1 l0_1.length c0_1] 25 (0,0)))∧(w'.heap[gb170]? = some (.cells #[.slice none 0 0,.slice none 0 0] 25 (0,0)))∧(w'.heap[s_.2.2]? = some (.cells #[.slice none 0 0,.slice none 0 0] 25 (0,0)))∧(w.heap.size≤s_.2.2)∧(w.heap.size≤s_.2.2)∧(gb169≠s_.2.2)∧(s_.2.2≠gb169)∧(gb170≠s_.2.2)∧(s_.2.2≠gb170)∧(Below w.heap.size w w')) ?_ ?_
 rotate_left
 ·intro hJ5_11_13
  refine join_ (σ:=Value×Value) 2 (bs 15 8191) (fun s_ => [(17,s_.1),(23,s_.2),(24,.agg #[s_.1,s_.2])]) (fun s_ w'=>(w'.cell? ⟨gb169,0,none⟩=some (.slice A0_0 l0_0.length c0_0)∧w'.cell? ⟨gb169,1,none⟩=some (.slice A0_1 l0_1.length c0_1))∧(Kd.R (Kd.int .i64) 3 w' w.heap.size (fun k_=>some k_≠(s_.2:Value).ownBlock) s_.1 y171)∧(Kd.R (Kd.int .i64) 3 w' w.heap.size (fun k_=>some k_≠(s_.1:Value).ownBlock) s_.2 y174)∧(w'.heap[gb169]? = some (.cells #[.slice A0_0 l0_0.length c0_0,.slice A0_1 l0_1.length c0_1] 25 (0,0)))∧(w'.heap[gb170]? = some (.cells #[.slice none 0 0,.slice none 0 0] 25 (0,0)))∧(Below w.heap.size w w')) ?_ ?_
  rotate_left
  ·intro hJ5_11
   refine join_ (σ:=Value×Nat) 3 (bs 15 10239) (fun s_ => [(17,s_.1),(7,.pointer (some ⟨s_.2,0,none⟩))]) (fun s_ w'=>(w'.cell? ⟨gb169,0,none⟩=some (.slice A0_0 l0_0.length c0_0)∧w'.cell? ⟨gb169,1,none⟩=some (.slice A0_1 l0_1.length c0_1))∧(Kd.R (Kd.int .i64) 3 w' w.heap.size (fun _=>True) s_.1 y171)∧(w'.heap[gb169]? = some (.cells #[.slice A0_0 l0_0.length c0_0,.slice A0_1 l0_1.length c0_1] 25 (0,0)))∧(w'.heap[gb170]? = some (.cells #[.slice none 0 0,.slice none 0 0] 25 (0,0)))∧(w'.heap[s_.2]? = some (.cells #[.slice none 0 0,.slice none 0 0] 25 (0,0)))∧(w.heap.size≤s_.2)∧(w.heap.size≤s_.2)∧(gb169≠s_.2)∧(s_.2≠gb169)∧(gb170≠s_.2)∧(s_.2≠gb170)∧(Below w.heap.size w w')) ?_ ?_
   rotate_left
   ·intro hJ5_13
    refine join_ (σ:=Value×Nat) 3 (bs 15 12255) (fun s_ => [(23,s_.1),(7,.pointer (some ⟨s_.2,0,none⟩))]) (fun s_ w'=>(w'.cell? ⟨gb169,0,none⟩=some (.slice A0_0 l0_0.length c0_0)∧w'.cell? ⟨gb169,1,none⟩=some (.slice A0_1 l0_1.length c0_1))∧(Kd.R (Kd.int .i64) 3 w' w.heap.size (fun _=>True) s_.1 y174)∧(w'.heap[gb169]? = some (.cells #[.slice A0_0 l0_0.length c0_0,.slice A0_1 l0_1.length c0_1] 25 (0,0)))∧(w'.heap[gb170]? = some (.cells #[.slice none 0 0,.slice none 0 0] 25 (0,0)))∧(w'.heap[s_.2]? = some (.cells #[.slice none 0 0,.slice none 0 0] 25 (0,0)))∧(w.heap.size≤s_.2)∧(w.heap.size≤s_.2)∧(gb169≠s_.2)∧(s_.2≠gb169)∧(gb170≠s_.2)∧(s_.2≠gb170)∧(Below w.heap.size w w')) ?_ ?_
    rotate_left
    ·intro hJ11_13
     refine join_ (σ:=Value) 4 (bs 15 2047) (fun s_ => [(17,s_)]) (fun s_ w'=>(w'.cell? ⟨gb169,0,none⟩=some (.slice A0_0 l0_0.length c0_0)∧w'.cell? ⟨gb169,1,none⟩=some (.slice A0_1 l0_1.length c0_1))∧(Kd.R (Kd.int .i64) 3 w' w.heap.size (fun _=>True) s_ y171)∧(w'.heap[gb169]? = some (.cells #[.slice A0_0 l0_0.length c0_0,.slice A0_1 l0_1.length c0_1] 25 (0,0)))∧(w'.heap[gb170]? = some (.cells #[.slice none 0 0,.slice none 0 0] 25 (0,0)))∧(Below w.heap.size w w')) ?_ ?_
     rotate_left
     ·intro hJ5
      refine join_ (σ:=Value) 4 (bs 15 4063) (fun s_ => [(23,s_)]) (fun s_ w'=>(w'.cell? ⟨gb169,0,none⟩=some (.slice A0_0 l0_0.length c0_0)∧w'.cell? ⟨gb169,1,none⟩=some (.slice A0_1 l0_1.length c0_1))∧(Kd.R (Kd.int .i64) 3 w' w.heap.size (fun _=>True) s_ y174)∧(w'.heap[gb169]? = some (.cells #[.slice A0_0 l0_0.length c0_0,.slice A0_1 l0_1.length c0_1] 25 (0,0)))∧(w'.heap[gb170]? = some (.cells #[.slice none 0 0,.slice none 0 0] 25 (0,0)))∧(Below w.heap.size w w')) ?_ ?_
      rotate_left
      ·intro hJ11
       refine join_ (σ:=Nat) 4 (bs 15 10207) (fun s_ => [(7,.pointer (some ⟨s_,0,none⟩))]) (fun s_ w'=>(w'.cell? ⟨gb169,0,none⟩=some (.slice A0_0 l0_0.length c0_0)∧w'.cell? ⟨gb169,1,none⟩=some (.slice A0_1 l0_1.length c0_1))∧(w'.heap[gb169]? = some (.cells #[.slice A0_0 l0_0.length c0_0,.slice A0_1 l0_1.length c0_1] 25 (0,0)))∧(w'.heap[gb170]? = some (.cells #[.slice none 0 0,.slice none 0 0] 25 (0,0)))∧(w'.heap[s_]? = some (.cells #[.slice none 0 0,.slice none 0 0] 25 (0,0)))∧(w.heap.size≤s_)∧(w.heap.size≤s_)∧(gb169≠s_)∧(s_≠gb169)∧(gb170≠s_)∧(s_≠gb170)∧(Below w.heap.size w w')) ?_ ?_
       rotate_left
       ·intro hJ13
        refine three_ (i:=5) (j:=11) (k:=13) (Ni:=some 17) (Nj:=some 23) (Nk:=some 7) (bs 15 2047) (bs 15 4063) (bs 15 10207) rfl rfl rfl rfl rfl rfl (three_of HT_.out (by kernel_rfl)) (by decide) (by decide) (by decide) (fun K hK => ?_) (fun K hK => ?_) (fun K hK => ?_)
        ·skip
         refine Kd.R_make_step (Kd.int .i64) _ 3 (by rfl) (N:=17) rfl 23 _ _ rfl ji4 rfl rfl Try.underlying23 (.int .i64 0) 8 info3 rfl (by decide) (by omega) 0 (ok:=fun _=>True) (okp:=fun _=>True) rfl (fun _ hk=>hk) trivial (zd) (Nat.le_trans (Nat.mul_le_mul_right _ (zd:ji4.toNat≤35184372088832)) (by omega)) (Below.refl _ _) (Nat.le_refl _) ?_
         intro v172 w10 ho11 hb hg_ hnew_
         clear hg_ hnew_
         (first|rw [← Ny171.out] at ho11|(simp only [Int.reduceToNat] at ho11;rw [← Ny171.out] at ho11))
         have HO173:=A0_ (rL ho11 (bZ (zB_ HB)))
         replace BK169:=zK BK169 hb;replace BK170:=zK BK170 hb;replace HB:=zB HB hb;clear hb ho11
         refine hK.out _ _ ⟨(kC BK169.out 0).trans rfl,(kC BK169.out 1).trans rfl⟩ (fun hHeld => ?_)
         clear hK K
         refine norm_ (a' := ?_) ?_ ?_
         rotate_left
         ·show Act.put _ (some 17) _=_
          simp only [Act.put,List.setIfInBounds_toArray,List.set_cons_zero,List.set_cons_succ,i64_w,i32_w]
          rfl
         exact norm_ zA (hJ5 (v172) _ ⟨hHeld,(zR_ HO173),(zK_ BK169),(zK_ BK170),(zB_ HB)⟩)
        ·skip
         refine Kd.R_make_step (Kd.int .i64) _ 3 (by rfl) (N:=23) rfl 23 _ _ rfl ji4 rfl rfl Try.underlying23 (.int .i64 0) 8 info3 rfl (by decide) (by omega) 0 (ok:=fun _=>True) (okp:=fun _=>True) rfl (fun _ hk=>hk) trivial (zd) (Nat.le_trans (Nat.mul_le_mul_right _ (zd:ji4.toNat≤35184372088832)) (by omega)) (Below.refl _ _) (Nat.le_refl _) ?_
         intro v175 w10 ho11 hb hg_ hnew_
         clear hg_ hnew_
         (first|rw [← Ny174.out] at ho11|(simp only [Int.reduceToNat] at ho11;rw [← Ny174.out] at ho11))
         have HO176:=A0_ (rL ho11 (bZ (zB_ HB)))
         replace BK169:=zK BK169 hb;replace BK170:=zK BK170 hb;replace HB:=zB HB hb;clear hb ho11
         refine hK.out _ _ ⟨(kC BK169.out 0).trans rfl,(kC BK169.out 1).trans rfl⟩ (fun hHeld => ?_)
         clear hK K
         refine norm_ (a' := ?_) ?_ ?_
         rotate_left
         ·show Act.put _ (some 23) _=_
          simp only [Act.put,List.setIfInBounds_toArray,List.set_cons_zero,List.set_cons_succ,i64_w,i32_w]
          rfl
         exact norm_ zA (hJ11 (v175) _ ⟨hHeld,(zR_ HO176),(zK_ BK169),(zK_ BK170),(zB_ HB)⟩)
        skip
        refine box_step ?hg (N:=7) ?hd (cs := #[.slice none 0 0,.slice none 0 0]) (t:=25) ?hr ?_;(case hd=>rfl);(case hg=>rfl);(case hr=>first|(go_simp;done)|(go_simp;rfl))
        intro gb177 hg w10 hbox hb
        have BK177:=A0_ (hbox)
        have GW177:=zG hg HB;have GE177:=zG hg HB;replace HB:=zB HB hb;have NB169_177:=zL hg BK169;have NB177_169:=zM hg BK169;replace BK169:=zK BK169 hb;have NB170_177:=zL hg BK170;have NB177_170:=zM hg BK170;replace BK170:=zK BK170 hb;clear hb hbox hg
        refine hK.out _ _ ⟨(kC BK169.out 0).trans rfl,(kC BK169.out 1).trans rfl⟩ (fun hHeld => ?_)
        clear hK K
        refine norm_ (a' := ?_) ?_ ?_
        rotate_left
        ·show Act.put _ (some 7) _=_
         simp only [Act.put,List.setIfInBounds_toArray,List.set_cons_zero,List.set_cons_succ,i64_w,i32_w]
         rfl
        exact norm_ zA (hJ13 (gb177) _ ⟨hHeld,(zK_ BK169),(zK_ BK170),(zK_ BK177),GW177.out,GE177.out,NB169_177.out,NB177_169.out,NB170_177.out,NB177_170.out,(zB_ HB)⟩)
       skip
       rintro gb177 w11 ⟨hS_,h0_,h1_,h2_,h3_,h4_,h5_,h6_,h7_,h8_,h9_⟩
       replace BK169:Aside0 (w11.heap[gb169]? = some (.cells #[.slice A0_0 l0_0.length c0_0,.slice A0_1 l0_1.length c0_1] 25 (0,0))):=⟨h0_⟩
       replace BK170:Aside0 (w11.heap[gb170]? = some (.cells #[.slice none 0 0,.slice none 0 0] 25 (0,0))):=⟨h1_⟩
       have BK177:Aside0 (w11.heap[gb177]? = some (.cells #[.slice none 0 0,.slice none 0 0] 25 (0,0))):=⟨h2_⟩
       have GW177:Aside0 (w.heap.size≤gb177):=⟨h3_⟩
       have GE177:Aside0 (w.heap.size≤gb177):=⟨h4_⟩
       have NB169_177:Aside0 (gb169≠gb177):=⟨h5_⟩
       have NB177_169:Aside0 (gb177≠gb169):=⟨h6_⟩
       have NB170_177:Aside0 (gb170≠gb177):=⟨h7_⟩
       have NB177_170:Aside0 (gb177≠gb170):=⟨h8_⟩
       replace HB:Aside0 (Below w.heap.size w w11):=⟨h9_⟩
       clear h0_ h1_ h2_ h3_ h4_ h5_ h6_ h7_ h8_ h9_
       have hHeld:w11.cell? ⟨gb169,0,none⟩=some (.slice A0_0 l0_0.length c0_0)∧w11.cell? ⟨gb169,1,none⟩=some (.slice A0_1 l0_1.length c0_1):=hS_
       refine norm_ (a' := ?_) ?_ ?_
       rotate_left
       ·simp only [putAll,Act.put,List.setIfInBounds_toArray,List.set_cons_zero,List.set_cons_succ]
        rfl
       refine two_ (i:=5) (j:=11) (Ni:=some 17) (Nj:=some 23) (bs 15 10239) (bs 15 12255) rfl rfl rfl rfl (two_of HT_.out (by kernel_rfl)) (by decide) (by decide) (fun K hK => ?_) (fun K hK => ?_)
       ·skip
        refine Kd.R_make_step (Kd.int .i64) _ 3 (by rfl) (N:=17) rfl 23 _ _ rfl ji4 rfl rfl Try.underlying23 (.int .i64 0) 8 info3 rfl (by decide) (by omega) 0 (ok:=fun _=>True) (okp:=fun _=>True) rfl (fun _ hk=>hk) trivial (zd) (Nat.le_trans (Nat.mul_le_mul_right _ (zd:ji4.toNat≤35184372088832)) (by omega)) (Below.refl _ _) (Nat.le_refl _) ?_
        intro v172 w12 ho13 hb hg_ hnew_
        clear hg_ hnew_
        (first|rw [← Ny171.out] at ho13|(simp only [Int.reduceToNat] at ho13;rw [← Ny171.out] at ho13))
        have HO173:=A0_ (rL ho13 (bZ (zB_ HB)))
        replace BK169:=zK BK169 hb;replace BK170:=zK BK170 hb;replace BK177:=zK BK177 hb;replace HB:=zB HB hb;clear hb ho13
        refine hK.out _ _ ⟨(kC BK169.out 0).trans rfl,(kC BK169.out 1).trans rfl⟩ (fun hHeld => ?_)
        clear hK K
        refine norm_ (a' := ?_) ?_ ?_
        rotate_left
        ·show Act.put _ (some 17) _=_
         simp only [Act.put,List.setIfInBounds_toArray,List.set_cons_zero,List.set_cons_succ,i64_w,i32_w]
         rfl
        exact norm_ zA (hJ5_13 (v172,gb177) _ ⟨hHeld,(zR_ HO173),(zK_ BK169),(zK_ BK170),(zK_ BK177),GW177.out,GE177.out,NB169_177.out,NB177_169.out,NB170_177.out,NB177_170.out,(zB_ HB)⟩)
       skip
       refine Kd.R_make_step (Kd.int .i64) _ 3 (by rfl) (N:=23) rfl 23 _ _ rfl ji4 rfl rfl Try.underlying23 (.int .i64 0) 8 info3 rfl (by decide) (by omega) 0 (ok:=fun _=>True) (okp:=fun _=>True) rfl (fun _ hk=>hk) trivial (zd) (Nat.le_trans (Nat.mul_le_mul_right _ (zd:ji4.toNat≤35184372088832)) (by omega)) (Below.refl _ _) (Nat.le_refl _) ?_
       intro v175 w12 ho13 hb hg_ hnew_
       clear hg_ hnew_
       (first|rw [← Ny174.out] at ho13|(simp only [Int.reduceToNat] at ho13;rw [← Ny174.out] at ho13))
       have HO176:=A0_ (rL ho13 (bZ (zB_ HB)))
       replace BK169:=zK BK169 hb;replace BK170:=zK BK170 hb;replace BK177:=zK BK177 hb;replace HB:=zB HB hb;clear hb ho13
       refine hK.out _ _ ⟨(kC BK169.out 0).trans rfl,(kC BK169.out 1).trans rfl⟩ (fun hHeld => ?_)
       clear hK K
       refine norm_ (a' := ?_) ?_ ?_
       rotate_left
       ·show Act.put _ (some 23) _=_
        simp only [Act.put,List.setIfInBounds_toArray,List.set_cons_zero,List.set_cons_succ,i64_w,i32_w]
        rfl
       exact norm_ zA (hJ11_13 (v175,gb177) _ ⟨hHeld,(zR_ HO176),(zK_ BK169),(zK_ BK170),(zK_ BK177),GW177.out,GE177.out,NB169_177.out,NB177_169.out,NB170_177.out,NB177_170.out,(zB_ HB)⟩)
      skip
      rintro v175 w12 ⟨hS_,h0_,h1_,h2_,h3_⟩
      have HO176:Aside0 (Kd.R (Kd.int .i64) 3 w12 w.heap.size (fun _=>True) v175 y174):=⟨h0_⟩
      replace BK169:Aside0 (w12.heap[gb169]? = some (.cells #[.slice A0_0 l0_0.length c0_0,.slice A0_1 l0_1.length c0_1] 25 (0,0))):=⟨h1_⟩
      replace BK170:Aside0 (w12.heap[gb170]? = some (.cells #[.slice none 0 0,.slice none 0 0] 25 (0,0))):=⟨h2_⟩
      replace HB:Aside0 (Below w.heap.size w w12):=⟨h3_⟩
      clear h0_ h1_ h2_ h3_
      have hHeld:w12.cell? ⟨gb169,0,none⟩=some (.slice A0_0 l0_0.length c0_0)∧w12.cell? ⟨gb169,1,none⟩=some (.slice A0_1 l0_1.length c0_1):=hS_
      refine norm_ (a' := ?_) ?_ ?_
      rotate_left
      ·simp only [putAll,Act.put,List.setIfInBounds_toArray,List.set_cons_zero,List.set_cons_succ]
       rfl
      refine two_ (i:=5) (j:=13) (Ni:=some 17) (Nj:=some 7) (bs 15 4095) (bs 15 12255) rfl rfl rfl rfl (two_of HT_.out (by kernel_rfl)) (by decide) (by decide) (fun K hK => ?_) (fun K hK => ?_)
      ·skip
       refine Kd.R_make_step (Kd.int .i64) _ 3 (by rfl) (N:=17) rfl 23 _ _ rfl ji4 rfl rfl Try.underlying23 (.int .i64 0) 8 info3 rfl (by decide) (by omega) 0 (ok:=fun _=>True) (okp:=fun _=>True) rfl (fun _ hk=>hk) trivial (zd) (Nat.le_trans (Nat.mul_le_mul_right _ (zd:ji4.toNat≤35184372088832)) (by omega)) (Below.refl _ _) (Nat.le_refl _) ?_
       intro v172 w13 ho14 hb hg_ hnew_
       clear hg_ hnew_
       (first|rw [← Ny171.out] at ho14|(simp only [Int.reduceToNat] at ho14;rw [← Ny171.out] at ho14))
       have HO173:=A0_ (rL (Kd.R_new' ho14 (rX (zR_ HO176))) (bZ (zB_ HB)))
       replace HO176:=A0_ (Kd.R_elder' (zR_ HO176) (Kd.R_base ho14) hb)
       replace BK169:=zK BK169 hb;replace BK170:=zK BK170 hb;replace HB:=zB HB hb;clear hb ho14;obtain⟨Ao15,co15,eo15⟩:=rS HO176.out
       (first|subst eo15|(injection eo15 with f1_ f2_ f3_;have f4_:=f1_.symm;have f5_:=f3_.symm;clear f1_ f2_ f3_;subst f4_;subst f5_))
       obtain⟨Ao16,co16,eo16⟩:=rS HO173.out
       (first|subst eo16|(injection eo16 with f1_ f2_ f3_;have f4_:=f1_.symm;have f5_:=f3_.symm;clear f1_ f2_ f3_;subst f4_;subst f5_))
       refine hK.out _ _ ⟨(kC BK169.out 0).trans rfl,(kC BK169.out 1).trans rfl⟩ (fun hHeld => ?_)
       clear hK K
       refine norm_ (a' := ?_) ?_ ?_
       rotate_left
       ·show Act.put _ (some 17) _=_
        simp only [Act.put,List.setIfInBounds_toArray,List.set_cons_zero,List.set_cons_succ,i64_w,i32_w]
        rfl
       refine zP 12 (some 24) (bs 15 8191) ?_
       exact norm_ zA (hJ5_11 (.slice Ao16 y171.length co16,.slice Ao15 y174.length co15) _ ⟨hHeld,(zmR HO173 (fun _ hk=>hk.2)),(zmR HO176 (fun _ hk=>hk.2)),(zK_ BK169),(zK_ BK170),(zB_ HB)⟩)
      skip
      refine box_step ?hg (N:=7) ?hd (cs := #[.slice none 0 0,.slice none 0 0]) (t:=25) ?hr ?_;(case hd=>rfl);(case hg=>rfl);(case hr=>first|(go_simp;done)|(go_simp;rfl))
      intro gb177 hg w13 hbox hb
      replace HO176:=zR HO176 hb
      have BK177:=A0_ (hbox)
      have GW177:=zG hg HB;have GE177:=zG hg HB;replace HB:=zB HB hb;have NB169_177:=zL hg BK169;have NB177_169:=zM hg BK169;replace BK169:=zK BK169 hb;have NB170_177:=zL hg BK170;have NB177_170:=zM hg BK170;replace BK170:=zK BK170 hb;clear hb hbox hg
      refine hK.out _ _ ⟨(kC BK169.out 0).trans rfl,(kC BK169.out 1).trans rfl⟩ (fun hHeld => ?_)
      clear hK K
      refine norm_ (a' := ?_) ?_ ?_
      rotate_left
      ·show Act.put _ (some 7) _=_
       simp only [Act.put,List.setIfInBounds_toArray,List.set_cons_zero,List.set_cons_succ,i64_w,i32_w]
       rfl
      exact norm_ zA (hJ11_13 (v175,gb177) _ ⟨hHeld,(zR_ HO176),(zK_ BK169),(zK_ BK170),(zK_ BK177),GW177.out,GE177.out,NB169_177.out,NB177_169.out,NB170_177.out,NB177_170.out,(zB_ HB)⟩)
     skip
     rintro v172 w12 ⟨hS_,h0_,h1_,h2_,h3_⟩
     have HO173:Aside0 (Kd.R (Kd.int .i64) 3 w12 w.heap.size (fun _=>True) v172 y171):=⟨h0_⟩
     replace BK169:Aside0 (w12.heap[gb169]? = some (.cells #[.slice A0_0 l0_0.length c0_0,.slice A0_1 l0_1.length c0_1] 25 (0,0))):=⟨h1_⟩
     replace BK170:Aside0 (w12.heap[gb170]? = some (.cells #[.slice none 0 0,.slice none 0 0] 25 (0,0))):=⟨h2_⟩
     replace HB:Aside0 (Below w.heap.size w w12):=⟨h3_⟩
     clear h0_ h1_ h2_ h3_
     have hHeld:w12.cell? ⟨gb169,0,none⟩=some (.slice A0_0 l0_0.length c0_0)∧w12.cell? ⟨gb169,1,none⟩=some (.slice A0_1 l0_1.length c0_1):=hS_
     refine norm_ (a' := ?_) ?_ ?_
     rotate_left
     ·simp only [putAll,Act.put,List.setIfInBounds_toArray,List.set_cons_zero,List.set_cons_succ]
      rfl
     refine two_ (i:=11) (j:=13) (Ni:=some 23) (Nj:=some 7) (bs 15 4095) (bs 15 10239) rfl rfl rfl rfl (two_of HT_.out (by kernel_rfl)) (by decide) (by decide) (fun K hK => ?_) (fun K hK => ?_)
     ·skip
      refine Kd.R_make_step (Kd.int .i64) _ 3 (by rfl) (N:=23) rfl 23 _ _ rfl ji4 rfl rfl Try.underlying23 (.int .i64 0) 8 info3 rfl (by decide) (by omega) 0 (ok:=fun _=>True) (okp:=fun _=>True) rfl (fun _ hk=>hk) trivial (zd) (Nat.le_trans (Nat.mul_le_mul_right _ (zd:ji4.toNat≤35184372088832)) (by omega)) (Below.refl _ _) (Nat.le_refl _) ?_
      intro v175 w13 ho14 hb hg_ hnew_
      clear hg_ hnew_
      (first|rw [← Ny174.out] at ho14|(simp only [Int.reduceToNat] at ho14;rw [← Ny174.out] at ho14))
      have HO176:=A0_ (rL (Kd.R_new' ho14 (rX (zR_ HO173))) (bZ (zB_ HB)))
      replace HO173:=A0_ (Kd.R_elder' (zR_ HO173) (Kd.R_base ho14) hb)
      replace BK169:=zK BK169 hb;replace BK170:=zK BK170 hb;replace HB:=zB HB hb;clear hb ho14;obtain⟨Ao15,co15,eo15⟩:=rS HO176.out
      (first|subst eo15|(injection eo15 with f1_ f2_ f3_;have f4_:=f1_.symm;have f5_:=f3_.symm;clear f1_ f2_ f3_;subst f4_;subst f5_))
      obtain⟨Ao16,co16,eo16⟩:=rS HO173.out
      (first|subst eo16|(injection eo16 with f1_ f2_ f3_;have f4_:=f1_.symm;have f5_:=f3_.symm;clear f1_ f2_ f3_;subst f4_;subst f5_))
      refine hK.out _ _ ⟨(kC BK169.out 0).trans rfl,(kC BK169.out 1).trans rfl⟩ (fun hHeld => ?_)
      clear hK K
      refine norm_ (a' := ?_) ?_ ?_
      rotate_left
      ·show Act.put _ (some 23) _=_
       simp only [Act.put,List.setIfInBounds_toArray,List.set_cons_zero,List.set_cons_succ,i64_w,i32_w]
       rfl
      refine zP 12 (some 24) (bs 15 8191) ?_
      exact norm_ zA (hJ5_11 (.slice Ao16 y171.length co16,.slice Ao15 y174.length co15) _ ⟨hHeld,(zmR HO173 (fun _ hk=>hk.2)),(zmR HO176 (fun _ hk=>hk.2)),(zK_ BK169),(zK_ BK170),(zB_ HB)⟩)
     skip
     refine box_step ?hg (N:=7) ?hd (cs := #[.slice none 0 0,.slice none 0 0]) (t:=25) ?hr ?_;(case hd=>rfl);(case hg=>rfl);(case hr=>first|(go_simp;done)|(go_simp;rfl))
     intro gb177 hg w13 hbox hb
     replace HO173:=zR HO173 hb
     have BK177:=A0_ (hbox)
     have GW177:=zG hg HB;have GE177:=zG hg HB;replace HB:=zB HB hb;have NB169_177:=zL hg BK169;have NB177_169:=zM hg BK169;replace BK169:=zK BK169 hb;have NB170_177:=zL hg BK170;have NB177_170:=zM hg BK170;replace BK170:=zK BK170 hb;clear hb hbox hg
     refine hK.out _ _ ⟨(kC BK169.out 0).trans rfl,(kC BK169.out 1).trans rfl⟩ (fun hHeld => ?_)
     clear hK K
     refine norm_ (a' := ?_) ?_ ?_
     rotate_left
     ·show Act.put _ (some 7) _=_
      simp only [Act.put,List.setIfInBounds_toArray,List.set_cons_zero,List.set_cons_succ,i64_w,i32_w]
      rfl
     exact norm_ zA (hJ5_13 (v172,gb177) _ ⟨hHeld,(zR_ HO173),(zK_ BK169),(zK_ BK170),(zK_ BK177),GW177.out,GE177.out,NB169_177.out,NB177_169.out,NB170_177.out,NB177_170.out,(zB_ HB)⟩)
    skip
    rintro⟨v175,gb177⟩ w13 ⟨hS_,h0_,h1_,h2_,h3_,h4_,h5_,h6_,h7_,h8_,h9_,h10_⟩
    have HO176:Aside0 (Kd.R (Kd.int .i64) 3 w13 w.heap.size (fun _=>True) v175 y174):=⟨h0_⟩
    replace BK169:Aside0 (w13.heap[gb169]? = some (.cells #[.slice A0_0 l0_0.length c0_0,.slice A0_1 l0_1.length c0_1] 25 (0,0))):=⟨h1_⟩
    replace BK170:Aside0 (w13.heap[gb170]? = some (.cells #[.slice none 0 0,.slice none 0 0] 25 (0,0))):=⟨h2_⟩
    have BK177:Aside0 (w13.heap[gb177]? = some (.cells #[.slice none 0 0,.slice none 0 0] 25 (0,0))):=⟨h3_⟩
    have GW177:Aside0 (w.heap.size≤gb177):=⟨h4_⟩
    have GE177:Aside0 (w.heap.size≤gb177):=⟨h5_⟩
    have NB169_177:Aside0 (gb169≠gb177):=⟨h6_⟩
    have NB177_169:Aside0 (gb177≠gb169):=⟨h7_⟩
    have NB170_177:Aside0 (gb170≠gb177):=⟨h8_⟩
    have NB177_170:Aside0 (gb177≠gb170):=⟨h9_⟩
    replace HB:Aside0 (Below w.heap.size w w13):=⟨h10_⟩
    clear h0_ h1_ h2_ h3_ h4_ h5_ h6_ h7_ h8_ h9_ h10_
    have hHeld:w13.cell? ⟨gb169,0,none⟩=some (.slice A0_0 l0_0.length c0_0)∧w13.cell? ⟨gb169,1,none⟩=some (.slice A0_1 l0_1.length c0_1):=hS_
    refine norm_ (a' := ?_) ?_ ?_
    rotate_left
    ·simp only [putAll,Act.put,List.setIfInBounds_toArray,List.set_cons_zero,List.set_cons_succ]
     rfl
    refine one_ (i:=5) (N:=some 17) (bs 15 12287) rfl rfl (one_of HT_.out (by kernel_rfl)) (by decide) (fun K hK => ?_)
    refine Kd.R_make_step (Kd.int .i64) _ 3 (by rfl) (N:=17) rfl 23 _ _ rfl ji4 rfl rfl Try.underlying23 (.int .i64 0) 8 info3 rfl (by decide) (by omega) 0 (ok:=fun _=>True) (okp:=fun _=>True) rfl (fun _ hk=>hk) trivial (zd) (Nat.le_trans (Nat.mul_le_mul_right _ (zd:ji4.toNat≤35184372088832)) (by omega)) (Below.refl _ _) (Nat.le_refl _) ?_
    intro v172 w14 ho15 hb hg_ hnew_
    clear hg_ hnew_
    (first|rw [← Ny171.out] at ho15|(simp only [Int.reduceToNat] at ho15;rw [← Ny171.out] at ho15))
    have HO173:=A0_ (rL (Kd.R_new' ho15 (rX (zR_ HO176))) (bZ (zB_ HB)))
    replace HO176:=A0_ (Kd.R_elder' (zR_ HO176) (Kd.R_base ho15) hb)
    replace BK169:=zK BK169 hb;replace BK170:=zK BK170 hb;replace BK177:=zK BK177 hb;replace HB:=zB HB hb;clear hb ho15;obtain⟨Ao16,co16,eo16⟩:=rS HO176.out
    (first|subst eo16|(injection eo16 with f1_ f2_ f3_;have f4_:=f1_.symm;have f5_:=f3_.symm;clear f1_ f2_ f3_;subst f4_;subst f5_))
    obtain⟨Ao17,co17,eo17⟩:=rS HO173.out
    (first|subst eo17|(injection eo17 with f1_ f2_ f3_;have f4_:=f1_.symm;have f5_:=f3_.symm;clear f1_ f2_ f3_;subst f4_;subst f5_))
    refine hK.out _ _ ⟨(kC BK169.out 0).trans rfl,(kC BK169.out 1).trans rfl⟩ (fun hHeld => ?_)
    clear hK K
    refine norm_ (a' := ?_) ?_ ?_
    rotate_left
    ·show Act.put _ (some 17) _=_
     simp only [Act.put,List.setIfInBounds_toArray,List.set_cons_zero,List.set_cons_succ,i64_w,i32_w]
     rfl
    refine zP 12 (some 24) (bs 15 16383) ?_
    exact norm_ zA (hJ5_11_13 (.slice Ao17 y171.length co17,.slice Ao16 y174.length co16,gb177) _ ⟨hHeld,(zmR HO173 (fun _ hk=>hk.2)),(zmR HO176 (fun _ hk=>hk.2)),(zK_ BK169),(zK_ BK170),(zK_ BK177),GW177.out,GE177.out,NB169_177.out,NB177_169.out,NB170_177.out,NB177_170.out,(zB_ HB)⟩)
   skip
   rintro⟨v172,gb177⟩ w13 ⟨hS_,h0_,h1_,h2_,h3_,h4_,h5_,h6_,h7_,h8_,h9_,h10_⟩
   have HO173:Aside0 (Kd.R (Kd.int .i64) 3 w13 w.heap.size (fun _=>True) v172 y171):=⟨h0_⟩
   replace BK169:Aside0 (w13.heap[gb169]? = some (.cells #[.slice A0_0 l0_0.length c0_0,.slice A0_1 l0_1.length c0_1] 25 (0,0))):=⟨h1_⟩
   replace BK170:Aside0 (w13.heap[gb170]? = some (.cells #[.slice none 0 0,.slice none 0 0] 25 (0,0))):=⟨h2_⟩
   have BK177:Aside0 (w13.heap[gb177]? = some (.cells #[.slice none 0 0,.slice none 0 0] 25 (0,0))):=⟨h3_⟩
   have GW177:Aside0 (w.heap.size≤gb177):=⟨h4_⟩
   have GE177:Aside0 (w.heap.size≤gb177):=⟨h5_⟩
   have NB169_177:Aside0 (gb169≠gb177):=⟨h6_⟩
   have NB177_169:Aside0 (gb177≠gb169):=⟨h7_⟩
   have NB170_177:Aside0 (gb170≠gb177):=⟨h8_⟩
   have NB177_170:Aside0 (gb177≠gb170):=⟨h9_⟩
   replace HB:Aside0 (Below w.heap.size w w13):=⟨h10_⟩
   clear h0_ h1_ h2_ h3_ h4_ h5_ h6_ h7_ h8_ h9_ h10_
   have hHeld:w13.cell? ⟨gb169,0,none⟩=some (.slice A0_0 l0_0.length c0_0)∧w13.cell? ⟨gb169,1,none⟩=some (.slice A0_1 l0_1.length c0_1):=hS_
   refine norm_ (a' := ?_) ?_ ?_
   rotate_left
   ·simp only [putAll,Act.put,List.setIfInBounds_toArray,List.set_cons_zero,List.set_cons_succ]
    rfl
   refine one_ (i:=11) (N:=some 23) (bs 15 12287) rfl rfl (one_of HT_.out (by kernel_rfl)) (by decide) (fun K hK => ?_)
   refine Kd.R_make_step (Kd.int .i64) _ 3 (by rfl) (N:=23) rfl 23 _ _ rfl ji4 rfl rfl Try.underlying23 (.int .i64 0) 8 info3 rfl (by decide) (by omega) 0 (ok:=fun _=>True) (okp:=fun _=>True) rfl (fun _ hk=>hk) trivial (zd) (Nat.le_trans (Nat.mul_le_mul_right _ (zd:ji4.toNat≤35184372088832)) (by omega)) (Below.refl _ _) (Nat.le_refl _) ?_
   intro v175 w14 ho15 hb hg_ hnew_
   clear hg_ hnew_
   (first|rw [← Ny174.out] at ho15|(simp only [Int.reduceToNat] at ho15;rw [← Ny174.out] at ho15))
   have HO176:=A0_ (rL (Kd.R_new' ho15 (rX (zR_ HO173))) (bZ (zB_ HB)))
   replace HO173:=A0_ (Kd.R_elder' (zR_ HO173) (Kd.R_base ho15) hb)
   replace BK169:=zK BK169 hb;replace BK170:=zK BK170 hb;replace BK177:=zK BK177 hb;replace HB:=zB HB hb;clear hb ho15;obtain⟨Ao16,co16,eo16⟩:=rS HO176.out
   (first|subst eo16|(injection eo16 with f1_ f2_ f3_;have f4_:=f1_.symm;have f5_:=f3_.symm;clear f1_ f2_ f3_;subst f4_;subst f5_))
   obtain⟨Ao17,co17,eo17⟩:=rS HO173.out
   (first|subst eo17|(injection eo17 with f1_ f2_ f3_;have f4_:=f1_.symm;have f5_:=f3_.symm;clear f1_ f2_ f3_;subst f4_;subst f5_))
   refine hK.out _ _ ⟨(kC BK169.out 0).trans rfl,(kC BK169.out 1).trans rfl⟩ (fun hHeld => ?_)
   clear hK K
   refine norm_ (a' := ?_) ?_ ?_
   rotate_left
   ·show Act.put _ (some 23) _=_
    simp only [Act.put,List.setIfInBounds_toArray,List.set_cons_zero,List.set_cons_succ,i64_w,i32_w]
    rfl
   refine zP 12 (some 24) (bs 15 16383) ?_
   exact norm_ zA (hJ5_11_13 (.slice Ao17 y171.length co17,.slice Ao16 y174.length co16,gb177) _ ⟨hHeld,(zmR HO173 (fun _ hk=>hk.2)),(zmR HO176 (fun _ hk=>hk.2)),(zK_ BK169),(zK_ BK170),(zK_ BK177),GW177.out,GE177.out,NB169_177.out,NB177_169.out,NB170_177.out,NB177_170.out,(zB_ HB)⟩)
  skip
  rintro⟨v172,v175⟩ w16 ⟨hS_,h0_,h1_,h2_,h3_,h4_⟩
  have HO173:Aside0 (Kd.R (Kd.int .i64) 3 w16 w.heap.size (fun k_=>some k_≠(v175:Value).ownBlock) v172 y171):=⟨h0_⟩
  have HO176:Aside0 (Kd.R (Kd.int .i64) 3 w16 w.heap.size (fun k_=>some k_≠(v172:Value).ownBlock) v175 y174):=⟨h1_⟩
  replace BK169:Aside0 (w16.heap[gb169]? = some (.cells #[.slice A0_0 l0_0.length c0_0,.slice A0_1 l0_1.length c0_1] 25 (0,0))):=⟨h2_⟩
  replace BK170:Aside0 (w16.heap[gb170]? = some (.cells #[.slice none 0 0,.slice none 0 0] 25 (0,0))):=⟨h3_⟩
  replace HB:Aside0 (Below w.heap.size w w16):=⟨h4_⟩
  clear h0_ h1_ h2_ h3_ h4_
  have hHeld:w16.cell? ⟨gb169,0,none⟩=some (.slice A0_0 l0_0.length c0_0)∧w16.cell? ⟨gb169,1,none⟩=some (.slice A0_1 l0_1.length c0_1):=hS_
  obtain⟨Ao17,co17,eo17⟩:=rS HO176.out
  (first|subst eo17|(injection eo17 with f1_ f2_ f3_;have f4_:=f1_.symm;have f5_:=f3_.symm;clear f1_ f2_ f3_;subst f4_;subst f5_))
  obtain⟨Ao18,co18,eo18⟩:=rS HO173.out
  (first|subst eo18|(injection eo18 with f1_ f2_ f3_;have f4_:=f1_.symm;have f5_:=f3_.symm;clear f1_ f2_ f3_;subst f4_;subst f5_))
  refine norm_ (a' := ?_) ?_ ?_
  rotate_left
  ·simp only [putAll,Act.put,List.setIfInBounds_toArray,List.set_cons_zero,List.set_cons_succ]
   rfl
  refine one_ (i:=13) (N:=some 7) (bs 15 16383) rfl rfl (one_of HT_.out (by kernel_rfl)) (by decide) (fun K hK => ?_)
  refine box_step ?hg (N:=7) ?hd (cs := #[.slice none 0 0,.slice none 0 0]) (t:=25) ?hr ?_;(case hd=>rfl);(case hg=>rfl);(case hr=>first|(go_simp;done)|(go_simp;rfl))
  intro gb177 hg w19 hbox hb
  replace HO173:=zR HO173 hb;replace HO176:=zR HO176 hb
  have BK177:=A0_ (hbox)
  have GW177:=zG hg HB;have GE177:=zG hg HB;replace HB:=zB HB hb;have NB169_177:=zL hg BK169;have NB177_169:=zM hg BK169;replace BK169:=zK BK169 hb;have NB170_177:=zL hg BK170;have NB177_170:=zM hg BK170;replace BK170:=zK BK170 hb;clear hb hbox hg
  refine hK.out _ _ ⟨(kC BK169.out 0).trans rfl,(kC BK169.out 1).trans rfl⟩ (fun hHeld => ?_)
  clear hK K
  refine norm_ (a' := ?_) ?_ ?_
  rotate_left
  ·show Act.put _ (some 7) _=_
   simp only [Act.put,List.setIfInBounds_toArray,List.set_cons_zero,List.set_cons_succ,i64_w,i32_w]
   rfl
  exact norm_ zA (hJ5_11_13 (.slice Ao18 y171.length co18,.slice Ao17 y174.length co17,gb177) _ ⟨hHeld,(zR_ HO173),(zR_ HO176),(zK_ BK169),(zK_ BK170),(zK_ BK177),GW177.out,GE177.out,NB169_177.out,NB177_169.out,NB170_177.out,NB177_170.out,(zB_ HB)⟩)
 rintro⟨v172,v175,gb177⟩ w17 ⟨hS_,h0_,h1_,h2_,h3_,h4_,h5_,h6_,h7_,h8_,h9_,h10_,h11_⟩
 have HO173:Aside0 (Kd.R (Kd.int .i64) 3 w17 w.heap.size (fun k_=>some k_≠(v175:Value).ownBlock) v172 y171):=⟨h0_⟩
 have HO176:Aside0 (Kd.R (Kd.int .i64) 3 w17 w.heap.size (fun k_=>some k_≠(v172:Value).ownBlock) v175 y174):=⟨h1_⟩
 replace BK169:Aside0 (w17.heap[gb169]? = some (.cells #[.slice A0_0 l0_0.length c0_0,.slice A0_1 l0_1.length c0_1] 25 (0,0))):=⟨h2_⟩
 replace BK170:Aside0 (w17.heap[gb170]? = some (.cells #[.slice none 0 0,.slice none 0 0] 25 (0,0))):=⟨h3_⟩
 have BK177:Aside0 (w17.heap[gb177]? = some (.cells #[.slice none 0 0,.slice none 0 0] 25 (0,0))):=⟨h4_⟩
 have GW177:Aside0 (w.heap.size≤gb177):=⟨h5_⟩
 have GE177:Aside0 (w.heap.size≤gb177):=⟨h6_⟩
 have NB169_177:Aside0 (gb169≠gb177):=⟨h7_⟩
 have NB177_169:Aside0 (gb177≠gb169):=⟨h8_⟩
 have NB170_177:Aside0 (gb170≠gb177):=⟨h9_⟩
 have NB177_170:Aside0 (gb177≠gb170):=⟨h10_⟩
 replace HB:Aside0 (Below w.heap.size w w17):=⟨h11_⟩
 clear h0_ h1_ h2_ h3_ h4_ h5_ h6_ h7_ h8_ h9_ h10_ h11_
 have hHeld:w17.cell? ⟨gb169,0,none⟩=some (.slice A0_0 l0_0.length c0_0)∧w17.cell? ⟨gb169,1,none⟩=some (.slice A0_1 l0_1.length c0_1):=hS_
 obtain⟨Ao18,co18,eo18⟩:=rS HO176.out
 (first|subst eo18|(injection eo18 with f1_ f2_ f3_;have f4_:=f1_.symm;have f5_:=f3_.symm;clear f1_ f2_ f3_;subst f4_;subst f5_))
 obtain⟨Ao19,co19,eo19⟩:=rS HO173.out
 (first|subst eo19|(injection eo19 with f1_ f2_ f3_;have f4_:=f1_.symm;have f5_:=f3_.symm;clear f1_ f2_ f3_;subst f4_;subst f5_))
 refine norm_ (a' := ?_) ?_ ?_
 rotate_left
 ·simp only [putAll,Act.put,List.setIfInBounds_toArray,List.set_cons_zero,List.set_cons_succ]
  rfl
 refine one_ (i:=14) (N:=none) (bs 15 32767) rfl rfl (one_of HT_.out (by kernel_rfl)) (by decide) (fun K hK => ?_)
 have hs20:w17.cell? ⟨gb177,0,none⟩=some (.slice none 0 0):=(kC BK177.out 0).trans rfl
 have hfs20:=kF BK177.out 0;have hns20_0:=NB169_177.out;have hns20_1:=NB170_177.out;have hms20_0:=NB177_169.out;have hms20_1:=NB177_170.out
 have hs21:w17.cell? ⟨gb177,1,none⟩=some (.slice none 0 0):=(kC BK177.out 1).trans rfl
 have hfs21:=kF BK177.out 1;have hns21_0:=NB169_177.out;have hns21_1:=NB170_177.out;have hms21_0:=NB177_169.out;have hms21_1:=NB177_170.out
 refine skip_ (w1 := ?_) (by rfl) rfl ?_ ?_
 rotate_left
 ·go_simp
  rfl
 refine hK.out _ _ ⟨((cell_far (p:=⟨gb177,_,none⟩) NB169_177.out _).trans (((cell_far (p:=⟨gb177,_,none⟩) NB169_177.out _).trans (hHeld.1)))),((cell_far (p:=⟨gb177,_,none⟩) NB169_177.out _).trans (((cell_far (p:=⟨gb177,_,none⟩) NB169_177.out _).trans (hHeld.2))))⟩ (fun hHeld => ?_)
 clear hK K
 refine done_ (done_of HT_.out (by kernel_rfl)) ?_
 have hnb22:=NB169_170.out;have hnc22:=NB170_169.out;have hnb23:=NB169_177.out;have hnc23:=NB177_169.out;have hcz24_0:=zc0 BK169;have hcz24_1:=zc1 BK169;have hfz24_0:=kF BK169.out 0;have hfz24_1:=kF BK169.out 1
 try go_wp2
 go_loopg [28] k (fun kq v28 w' => ∃ (x28_1:Int) (x178000_1:List Int) (x178001_1:List Int) (u178000:Value) (u178001:Value),v28 = .int .i64 x28_1∧Aside0 (impl_cover.l0 kq a1 l2 l0_1 (l0_1.length:Int) x28_1 l0_0 l0_1 x178000_1 x178001_1=some (r1,r2))∧Aside0 (kq≤k)∧Aside0 (Kd.R (Kd.int .i64) 3 w' w.heap.size (fun k_=>some k_≠(u178001:Value).ownBlock) u178000 x178000_1)∧Aside0 (Kd.R (Kd.int .i64) 3 w' w.heap.size (fun k_=>some k_≠(u178000:Value).ownBlock) u178001 x178001_1)∧Aside0 (w'.heap[gb169]? = some (.cells #[(.slice A0_0 l0_0.length c0_0),(.slice A0_1 l0_1.length c0_1)] 25 (0,0)))∧Aside0 (w'.heap[gb170]? = some (.cells #[(.slice none 0 0),(.slice none 0 0)] 25 (0,0)))∧Aside0 (w'.heap[gb177]? = some (.cells #[u178000,u178001] 25 (0,0)))∧Aside0 (Below w.heap.size w w'))
 case atStart=>exact⟨(0),(y171),(y174),(.slice Ao19 y171.length co19),(.slice Ao18 y174.length co18),zt,H',⟨Nat.le_refl _⟩,⟨zF HO173 BK177 (.slice Ao19 y171.length co19) (.slice Ao18 y174.length co18) 0 1⟩,⟨zF HO176 BK177 (.slice Ao19 y171.length co19) (.slice Ao18 y174.length co18) 0 1⟩,⟨by(with_reducible repeat(first|refine kN ?_ _|refine kD ?_|refine kA ?_ _));refine blk_far ?_ NB169_177.out _;(with_reducible repeat(first|refine kN ?_ _|refine kD ?_|refine kA ?_ _));refine blk_far ?_ NB169_177.out _;(with_reducible repeat(first|refine kN ?_ _|refine kD ?_|refine kA ?_ _));exact BK169.out⟩,⟨by(with_reducible repeat(first|refine kN ?_ _|refine kD ?_|refine kA ?_ _));refine blk_far ?_ NB170_177.out _;(with_reducible repeat(first|refine kN ?_ _|refine kD ?_|refine kA ?_ _));refine blk_far ?_ NB170_177.out _;(with_reducible repeat(first|refine kN ?_ _|refine kD ?_|refine kA ?_ _));exact BK170.out⟩,⟨by(with_reducible repeat(first|refine kN ?_ _|refine kD ?_|refine kA ?_ _));refine blk_put (cs := #[.slice Ao19 y171.length co19,.slice none 0 0]) ?_ 1 _ rfl;(with_reducible repeat(first|refine kN ?_ _|refine kD ?_|refine kA ?_ _));refine blk_put (cs := #[.slice none 0 0,.slice none 0 0]) ?_ 0 _ rfl;(with_reducible repeat(first|refine kN ?_ _|refine kD ?_|refine kA ?_ _));exact BK177.out⟩,⟨zB_ HB⟩⟩
 case round =>
  clear H';(try clear c2);(try clear p2);(try clear c22);(try clear c23);(try clear hcz24_0);(try clear hcz24_1);(try clear hfz24_0);(try clear hfz24_1);obtain⟨x28_1,x178000_1,x178001_1,u178000,u178001,rfl,HA,HK1,HO_178000,HO_178001,BK169,BK170,BK177,HB⟩:=hrel
  cases gk with
  | zero=>exact absurd HA.out (by simp [impl_cover.l0])
  | succ k1 =>
   have H:=HA.out;clear HA;simp only [impl_cover.l0] at H
   by_cases c25:x28_1<(l0_1.length:Int)
   ·rw [if_pos c25] at H
    have c25b0:=dT c25;clear c25
    have c26:=zpc H;replace H:=zph H
    have c26b0:=dT c26;clear c26
    have c27:=zpc H;replace H:=zph H
    have c27b0:=dT c27;clear c27;obtain⟨t179,A28,H⟩:=zbind H;have H':=A0_ H;clear H
    have p178:0≤(x28_1:Int):=zd
    have q178:x28_1<(l0_1.length:Int):=zd
    obtain⟨ad178,e178,hx178_0⟩:=tI HR0_1.out x28_1 p178 q178
    cases e178
    try replace hx178_0:=(HB.out.cell (wL w _ hx178_0)).trans hx178_0
    replace p178:=eq_true p178;replace q178:=eq_true q178;have hnb29:=NB169_170.out;have hnc29:=NB170_169.out;have hnb30:=NB169_177.out;have hnc30:=NB177_169.out;have hcz31_0:=zc0 BK169;have hcz31_1:=zc1 BK169;have hfz31_0:=kF BK169.out 0;have hfz31_1:=kF BK169.out 1
    go_wp2_with (first|((with_reducible refine gC (f:=62) rfl ?_);refine zJ (some 36) Try.func62 #[.agg #[.slice A0_0 l0_0.length c0_0,.slice (some ad178) l0_1.length c0_1],.slice A2 l2.length c2,.int .i64 x28_1] ?_;(with_reducible refine(impl_along.calls k1 _ _ l0_0 _ _ l0_1 (fun k_=>k_<w.heap.size) _ _ l2 x28_1 t179 _ ?side1 ?side2 ?side3 ?side4 ?side5 A28.out).mono ?_);(case side1=>exact zC HR0_0 HB);(case side2=>exact HC0_0.out);(case side3=>exact zC HR0_1 HB);(case side4=>exact HC0_1.out);(case side5=>exact Kd.V_mk HC2.out (Kd.F_below (Kd.C_F (Kd.heap_slice 3 (Kd.heap_int .i64)) HR2.out) (zB_ HB)));rintro e w32 ⟨v180,rfl,ho0,hb⟩;refine⟨_,rfl,?_⟩;have HO181:=A0_ (Kd.V_lower (Kd.V_mono (ok':=fun k_=>some k_≠(u178000:Value).ownBlock∧some k_≠(u178001:Value).ownBlock∧k_≠gb169∧k_≠gb170∧k_≠gb177) ho0 (fun k_ hk_=>⟨Or.elim hk_ (fun hs_=>fun e_=>Nat.not_le.2 hs_ (Kd.R_base HO_178000.out k_ e_.symm)) (fun hn_=>(Kd.fresh' (rX (zR_ HO_178000)) k_ hn_)),Or.elim hk_ (fun hs_=>fun e_=>Nat.not_le.2 hs_ (Kd.R_base HO_178001.out k_ e_.symm)) (fun hn_=>(Kd.fresh' (rX (zR_ HO_178001)) k_ hn_)),Or.elim hk_ (fun hs_=>fun e_=>Nat.not_le.2 hs_ (by rw [e_];exact GW169.out)) (fun hn_=>(Kd.freshB (g:=gb169) (o := .cells #[.slice A0_0 l0_0.length c0_0,.slice (some ad178) l0_1.length c0_1] 25 (0,0)) (zK_ BK169) k_ hn_)),Or.elim hk_ (fun hs_=>fun e_=>Nat.not_le.2 hs_ (by rw [e_];exact GW170.out)) (fun hn_=>(Kd.freshB (g:=gb170) (o := .cells #[.slice none 0 0,.slice none 0 0] 25 (0,0)) (zK_ BK170) k_ hn_)),Or.elim hk_ (fun hs_=>fun e_=>Nat.not_le.2 hs_ (by rw [e_];exact GW177.out)) (fun hn_=>(Kd.freshB (g:=gb177) (o := .cells #[u178000,u178001] 25 (0,0)) (zK_ BK177) k_ hn_))⟩)) (bZ (zB_ HB)));replace HO_178000:=zR HO_178000 hb;replace HO_178001:=zR HO_178001 hb;replace BK169:=zK BK169 hb;replace BK170:=zK BK170 hb;replace BK177:=zK BK177 hb;replace HB:=zB HB hb;(try clear hb);(try clear ho0)))
    (try generalize Value.pointer (some (ad178.add (x28_1:Int).toNat))=pz_)
    go_loopg [38] k1 (fun kq v38 w' => ∃ (x10_2:List Int) (x38_2:Int) (x178000_2:List Int) (x178001_2:List Int) (u178000:Value) (u178001:Value),v38 = .int .i64 x38_2∧Aside0 (impl_cover.l1 kq a1 l2 x28_1 (rd l0_1 x28_1) x10_2 l0_1 (l0_1.length:Int) x28_1 a1 x38_2 l0_0 l0_1 x178000_2 x178001_2=some (r1,r2))∧Aside0 (kq≤k1)∧Aside0 (Kd.V (Kd.int .i64) 3 w' w.heap.size (fun k_=>some k_≠(u178000:Value).ownBlock∧some k_≠(u178001:Value).ownBlock∧k_≠gb169∧k_≠gb170∧k_≠gb177) v180 x10_2)∧Aside0 (Kd.R (Kd.int .i64) 3 w' w.heap.size (fun k_=>some k_≠(u178001:Value).ownBlock) u178000 x178000_2)∧Aside0 (Kd.R (Kd.int .i64) 3 w' w.heap.size (fun k_=>some k_≠(u178000:Value).ownBlock) u178001 x178001_2)∧Aside0 (w'.heap[gb169]? = some (.cells #[(.slice A0_0 l0_0.length c0_0),(.slice (some ad178) l0_1.length c0_1)] 25 (0,0)))∧Aside0 (w'.heap[gb170]? = some (.cells #[(.slice none 0 0),(.slice none 0 0)] 25 (0,0)))∧Aside0 (w'.heap[gb177]? = some (.cells #[u178000,u178001] 25 (0,0)))∧Aside0 (Below w.heap.size w w'))
    case atStart=>exact⟨(t179),(0),(x178000_1),(x178001_1),(u178000),(u178001),zt,H',⟨Nat.le_refl _⟩,⟨by(with_reducible repeat(first|apply Kd.V_alloc|apply Kd.V_drewN|apply Kd.V_drew));exact HO181.out⟩,⟨zR_ HO_178000⟩,⟨zR_ HO_178001⟩,⟨zK_ BK169⟩,⟨zK_ BK170⟩,⟨zK_ BK177⟩,⟨zB_ HB⟩⟩
    case round =>
     clear H';(try clear p1);(try clear q1);(try clear hx1);(try clear c2);(try clear p2);(try clear c3);(try clear c6);(try clear p17);(try clear q17);(try clear hx17);(try clear c22);(try clear c23);(try clear c25);(try clear c25b0);(try clear c26);(try clear c26b0);(try clear c27);(try clear c27b0);(try clear c29);(try clear c30);(try clear hcz24_0);(try clear hcz24_1);(try clear hcz31_0);(try clear hcz31_1);(try clear hfz24_0);(try clear hfz24_1);(try clear hfz31_0);(try clear hfz31_1);(try clear hx178_0);(try clear p178);(try clear p2);(try clear q178);obtain⟨x10_2,x38_2,x178000_2,x178001_2,u178000,u178001,rfl,HA,HK2,HO_10,HO_178000,HO_178001,BK169,BK170,BK177,HB⟩:=hrel
     cases gk with
     | zero=>exact absurd HA.out (by simp [impl_cover.l1])
     | succ k2 =>
      have H:=HA.out;clear HA;simp only [impl_cover.l1] at H
      by_cases c33:x38_2<a1
      ·rw [if_pos c33] at H
       have c33b0:=dT c33;clear c33
       have c34:=zpc H;replace H:=zph H
       have c34b0:=dT c34;clear c34
       have c35:=zpc H;replace H:=zph H
       have c35b0:=dT c35;clear c35
       obtain⟨ji36,hji36⟩ : ∃ j_:Int,(wrap64 ((wrap64 (a1*x28_1))+x38_2))=j_:=⟨_,rfl⟩
       replace H:(if 0≤(ji36) then (if (ji36)<(x178000_2.length:Int) then (if 0≤x38_2 then (if x38_2<(x10_2.length:Int) then (if (ji36)<(x178001_2.length:Int) then (impl_cover.l1 k2 a1 l2 x28_1 (rd l0_1 x28_1) x10_2 l0_1 (l0_1.length:Int) x28_1 a1 (wrap64 (x38_2+1)) l0_0 l0_1 (x178000_2.set ((ji36):Int).toNat (wrap64 ((wrap64 (a1*(rd l0_0 x28_1)))+x38_2))) (x178001_2.set ((ji36):Int).toNat (wrap64 ((wrap64 (a1*(rd l0_1 x28_1)))+(rd x10_2 x38_2))))) else (none)) else (none)) else (none)) else (none)) else (none))=some (r1,r2):=by first|(rw [hji36] at H;exact H)|(simp only [hji36] at H ⊢;exact H)
       have hji36w:(IntKind.i64.wrap ((wrap64 (a1*x28_1))+x38_2))=ji36:=(i64_w _).trans hji36
       have c37:=zpc H;replace H:=zph H
       have c37b0:=dT c37;clear c37
       have c38:=zpc H;replace H:=zph H
       have c38b0:=dT c38;clear c38
       obtain⟨y183,hy183⟩ : ∃ y_:List Int,y_=(x178000_2.set ((ji36):Int).toNat (wrap64 ((wrap64 (a1*(rd l0_0 x28_1)))+x38_2))):=⟨_,rfl⟩
       replace H:(if 0≤x38_2 then (if x38_2<(x10_2.length:Int) then (if (ji36)<(x178001_2.length:Int) then (impl_cover.l1 k2 a1 l2 x28_1 (rd l0_1 x28_1) x10_2 l0_1 (l0_1.length:Int) x28_1 a1 (wrap64 (x38_2+1)) l0_0 l0_1 y183 (x178001_2.set ((ji36):Int).toNat (wrap64 ((wrap64 (a1*(rd l0_1 x28_1)))+(rd x10_2 x38_2))))) else (none)) else (none)) else (none))=some (r1,r2):=zH hy183 H
       have Ny183:=A0_ hy183;clear hy183
       have c40:=zpc H;replace H:=zph H
       have c40b0:=dT c40;clear c40
       have c41:=zpc H;replace H:=zph H
       have c41b0:=dT c41;clear c41
       have c42:=zpc H;replace H:=zph H
       have c42b0:=dT c42;clear c42
       obtain⟨y185,hy185⟩ : ∃ y_:List Int,y_=(x178001_2.set ((ji36):Int).toNat (wrap64 ((wrap64 (a1*(rd l0_1 x28_1)))+(rd x10_2 x38_2)))):=⟨_,rfl⟩
       replace H:(impl_cover.l1 k2 a1 l2 x28_1 (rd l0_1 x28_1) x10_2 l0_1 (l0_1.length:Int) x28_1 a1 (wrap64 (x38_2+1)) l0_0 l0_1 y183 y185)=some (r1,r2):=zH hy185 H
       have Ny185:=A0_ hy185;clear hy185;have H':=A0_ H;clear H
       try go_wp2
       replace HO_10:=A0_ (Kd.V_drew HO_10.out)
       replace HO_178000:=A0_ (rD HO_178000.out)
       replace HO_178001:=A0_ (rD HO_178001.out)
       replace BK169:=A0_ (kD BK169.out)
       replace BK170:=A0_ (kD BK170.out)
       replace BK177:=A0_ (kD BK177.out)
       replace HB:=A0_ (bD HB.out)
       have p182:0≤(x28_1:Int):=zd
       have q182:x28_1<(l0_0.length:Int):=zd
       obtain⟨ad182,e182,hx182_0⟩:=tI HR0_0.out x28_1 p182 q182;have hw182_0:=hx182_0
       cases e182
       try replace hx182_0:=(HB.out.cell (wL w _ hx182_0)).trans hx182_0
       replace p182:=eq_true p182;replace q182:=eq_true q182
       have p39:0≤((ji36):Int):=zd
       have q39:((ji36):Int)<((x178000_2.length:Int):Int):=zd
       obtain⟨go39,co39,eo39,gb39,gl39,cl39,HG39⟩:=Kd.R_form HO_178000.out (by omega)
       (first|cases eo39|(injection eo39 with ea_ en_ ec_;(first|subst ea_|(injection ea_ with ea_;subst ea_));subst ec_;clear en_))
       have GB39:=A0_ gb39;have GG39:=A0_ HG39;clear gb39 gl39 HG39
       obtain⟨hx39_0,hf39_0⟩:=Kd.R_celln 0 HO_178000.out ((ji36):Int) p39 q39
       replace p39:=eq_true p39;replace q39:=eq_true q39
       have HP45:=Kd.R_putn HO_178000.out ((ji36):Int) (wrap64 ((wrap64 (a1*(rd l0_0 x28_1)))+x38_2))
       rw [← Ny183.out] at HP45
       have HQ45:=A0_ HP45;clear HP45
       refine start_ (n:=18) (S:=fun w'=>w'.cell? ⟨gb177,0,none⟩=some (.slice (some ⟨go39,0,none⟩) x178000_2.length co39)∧w'.cell? ⟨gb177,1,none⟩=some (u178001)∧w'.cell? ⟨gb169,0,none⟩=some (.slice (some ad182) l0_0.length c0_0)∧w'.cell? ⟨gb169,1,none⟩=some (.slice (some ad178) l0_1.length c0_1)∧w'.cell? (ad182.add (x28_1).toNat)=some (.int .i64 (rd l0_0 x28_1))) (ds := [17]) (bs 18 0) (by kernel_rfl) rfl rfl ⟨(kC BK177.out 0).trans rfl,(kC BK177.out 1).trans rfl,(kC BK169.out 0).trans rfl,(kC BK169.out 1).trans rfl,((HB.out.cell (wL w _ hw182_0)).trans hw182_0)⟩ (fun hHeld => ?_);refine with_tabW impl_cover.tab9 impl_cover.bits9 (fun HT_ HW_ => ?_)
       generalize wr.drew=w44 at HO_10 HO_178000 HO_178001 BK169 BK170 BK177 HB GG39 HQ45 hf39_0 hx182_0 hx39_0 hHeld ⊢
       refine zP 0 (some 41) (bs 18 1) ?_
       refine zP 2 (some 43) (bs 18 5) ?_
       refine zP 3 (some 44) (bs 18 13) ?_
       refine zP 4 (some 45) (bs 18 29) ?_
       refine zP 5 (some 46) (bs 18 61) ?_
       refine zP 6 (some 47) (bs 18 125) ?_
       refine zP 7 (some 48) (bs 18 253) ?_
       refine zP 8 (some 49) (bs 18 509) ?_
       refine zP 10 (some 51) (bs 18 1533) ?_
       refine zP 14 (some 55) (bs 18 17917) ?_
       refine zT 1 (some 42) (bs 18 17919) hHeld ?_
       refine zT 9 (some 50) (bs 18 18431) hHeld ?_
       refine zP 11 (some 52) (bs 18 20479) ?_
       refine zT 12 (some 53) (bs 18 24575) hHeld ?_
       refine zP 13 (some 54) (bs 18 32767) ?_
       refine zP 15 (some 56) (bs 18 65535) ?_
       refine zP 16 (some 57) (bs 18 131071) ?_
       refine last_ (i:=17) (N:=none) (bs 18 262143) rfl rfl (one_of HT_.out (by kernel_rfl)) (by decide) (fun K hK => ?_)
       refine skip_ (w1 := ?_) (by rfl) rfl ?_ ?_
       rotate_left
       ·go_simp
        rfl
       refine hK.out _ _ ?_
       clear hK K
       refine done_ (done_of HT_.out (by kernel_rfl)) ?_
       try go_wp2
       have n0_:Aside0 (Kd.V (Kd.int .i64) 3 (w44.setCell ⟨go39,((ji36):Int).toNat,none⟩ (.int .i64 (wrap64 ((wrap64 (a1*(rd l0_0 x28_1)))+x38_2)))) w.heap.size (fun k_=>some k_≠(.slice (some ⟨go39,0,none⟩) x178000_2.length co39:Value).ownBlock∧some k_≠(u178001:Value).ownBlock∧k_≠gb169∧k_≠gb170∧k_≠gb177) v180 x10_2):=⟨by(with_reducible repeat(first|apply Kd.V_alloc|apply Kd.V_drewN|apply Kd.V_drew));exact Kd.V_mono (Kd.V_far (p:=⟨go39,((ji36):Int).toNat,none⟩) (Kd.V_mono HO_10.out (fun k_ hk=>(⟨hk,fun e_=>hk.1 (by rw [e_];rfl)⟩:_∧k_≠go39))) (fun _ hk=>hk.2) (.int .i64 (wrap64 ((wrap64 (a1*(rd l0_0 x28_1)))+x38_2)))) (fun _ hk=>⟨hk.1.1,⟨hk.1.2.1,⟨hk.1.2.2.1,⟨hk.1.2.2.2.1,hk.1.2.2.2.2⟩⟩⟩⟩)⟩
       have n1_:Aside0 (Kd.R (Kd.int .i64) 3 (w44.setCell ⟨go39,((ji36):Int).toNat,none⟩ (.int .i64 (wrap64 ((wrap64 (a1*(rd l0_0 x28_1)))+x38_2)))) w.heap.size (fun k_=>some k_≠(u178001:Value).ownBlock) (.slice (some ⟨go39,0,none⟩) x178000_2.length co39) y183):=⟨zR_ HQ45⟩
       have n2_:Aside0 (Kd.R (Kd.int .i64) 3 (w44.setCell ⟨go39,((ji36):Int).toNat,none⟩ (.int .i64 (wrap64 ((wrap64 (a1*(rd l0_0 x28_1)))+x38_2)))) w.heap.size (fun k_=>some k_≠(.slice (some ⟨go39,0,none⟩) x178000_2.length co39:Value).ownBlock) u178001 x178001_2):=⟨by(with_reducible repeat(first|apply rA|apply rN|apply rD));exact rM (rF (p:=⟨go39,((ji36):Int).toNat,none⟩) (rM HO_178001.out (fun k_ hk=>(⟨hk,fun e_=>hk (by rw [e_];rfl)⟩:_∧k_≠go39))) (fun _ hk=>hk.2) (.int .i64 (wrap64 ((wrap64 (a1*(rd l0_0 x28_1)))+x38_2)))) (fun _ hk=>hk.1)⟩
       have n3_:Aside0 ((w44.setCell ⟨go39,((ji36):Int).toNat,none⟩ (.int .i64 (wrap64 ((wrap64 (a1*(rd l0_0 x28_1)))+x38_2)))).heap[gb169]? = some (.cells #[.slice (some ad182) l0_0.length c0_0,.slice (some ad178) l0_1.length c0_1] 25 (0,0))):=⟨by(with_reducible repeat(first|refine kN ?_ _|refine kD ?_|refine kA ?_ _));refine blk_far ?_ (by have h_:=Kd.R_ne HO_178000.out BK169.out (by decide);intro e_;exact h_ (by rw [e_];rfl)) _;(with_reducible repeat(first|refine kN ?_ _|refine kD ?_|refine kA ?_ _));exact BK169.out⟩
       have n4_:Aside0 ((w44.setCell ⟨go39,((ji36):Int).toNat,none⟩ (.int .i64 (wrap64 ((wrap64 (a1*(rd l0_0 x28_1)))+x38_2)))).heap[gb170]? = some (.cells #[.slice none 0 0,.slice none 0 0] 25 (0,0))):=⟨by(with_reducible repeat(first|refine kN ?_ _|refine kD ?_|refine kA ?_ _));refine blk_far ?_ (by have h_:=Kd.R_ne HO_178000.out BK170.out (by decide);intro e_;exact h_ (by rw [e_];rfl)) _;(with_reducible repeat(first|refine kN ?_ _|refine kD ?_|refine kA ?_ _));exact BK170.out⟩
       have n5_:Aside0 ((w44.setCell ⟨go39,((ji36):Int).toNat,none⟩ (.int .i64 (wrap64 ((wrap64 (a1*(rd l0_0 x28_1)))+x38_2)))).heap[gb177]? = some (.cells #[.slice (some ⟨go39,0,none⟩) x178000_2.length co39,u178001] 25 (0,0))):=⟨by(with_reducible repeat(first|refine kN ?_ _|refine kD ?_|refine kA ?_ _));refine blk_far ?_ (by have h_:=Kd.R_ne HO_178000.out BK177.out (by decide);intro e_;exact h_ (by rw [e_];rfl)) _;(with_reducible repeat(first|refine kN ?_ _|refine kD ?_|refine kA ?_ _));exact BK177.out⟩
       have n6_:Aside0 (Below w.heap.size w (w44.setCell ⟨go39,((ji36):Int).toNat,none⟩ (.int .i64 (wrap64 ((wrap64 (a1*(rd l0_0 x28_1)))+x38_2))))):=⟨by repeat(first|(with_reducible first|exact HB.out|apply bA|apply bN|apply bD|refine bS ?_ GB39.out|refine bS ?_ GE169.out|refine bS ?_ GE170.out|refine bS ?_ GE177.out)|exact HB.out)⟩
       (try clear HO_10);(try clear HO_178000);(try clear HO_178001);(try clear BK169);(try clear BK170);(try clear BK177);(try clear HB)
       generalize (w44.setCell ⟨go39,((ji36):Int).toNat,none⟩ (.int .i64 (wrap64 ((wrap64 (a1*(rd l0_0 x28_1)))+x38_2))))=w46 at n0_ n1_ n2_ n3_ n4_ n5_ n6_ ⊢
       have HO_10:=n0_;have HO_178000:=n1_;have HO_178001:=n2_;have BK169:=n3_;have BK170:=n4_;have BK177:=n5_;have HB:=n6_;clear n0_ n1_ n2_ n3_ n4_ n5_ n6_
       replace HO_10:=A0_ (Kd.V_drew HO_10.out)
       replace HO_178000:=A0_ (rD HO_178000.out)
       replace HO_178001:=A0_ (rD HO_178001.out)
       replace BK169:=A0_ (kD BK169.out)
       replace BK170:=A0_ (kD BK170.out)
       replace BK177:=A0_ (kD BK177.out)
       replace HB:=A0_ (bD HB.out)
       obtain⟨Ao48,co48,eo48⟩:=Kd.V_slice HO_10.out
       (first|subst eo48|(injection eo48 with f1_ f2_ f3_;have f4_:=f1_.symm;have f5_:=f3_.symm;clear f1_ f2_ f3_;subst f4_;subst f5_))
       have p184:0≤(x38_2:Int):=zd
       have q184:x38_2<(x10_2.length:Int):=zd
       obtain⟨ad184,e184,hx184_0⟩:=tI (Kd.V_reads' HO_10.out).2.2 x38_2 p184 q184
       cases e184
       replace p184:=eq_true p184;replace q184:=eq_true q184
       have p43:0≤((ji36):Int):=zd
       have q43:((ji36):Int)<((x178001_2.length:Int):Int):=zd
       obtain⟨go43,co43,eo43,gb43,gl43,cl43,HG43⟩:=Kd.R_form HO_178001.out (by omega)
       (first|cases eo43|(injection eo43 with ea_ en_ ec_;(first|subst ea_|(injection ea_ with ea_;subst ea_));subst ec_;clear en_))
       have GB43:=A0_ gb43;have GG43:=A0_ HG43;clear gb43 gl43 HG43
       obtain⟨hx43_0,hf43_0⟩:=Kd.R_celln 0 HO_178001.out ((ji36):Int) p43 q43
       replace p43:=eq_true p43;replace q43:=eq_true q43
       have HP49:=Kd.R_putn HO_178001.out ((ji36):Int) (wrap64 ((wrap64 (a1*(rd l0_1 x28_1)))+(rd x10_2 x38_2)))
       rw [← Ny185.out] at HP49
       have HQ49:=A0_ HP49;clear HP49
       refine start_ (n:=17) (S:=fun w'=>w'.cell? ⟨gb177,0,none⟩=some (.slice (some ⟨go39,0,none⟩) x178000_2.length co39)∧w'.cell? ⟨gb177,1,none⟩=some (.slice (some ⟨go43,0,none⟩) x178001_2.length co43)∧w'.cell? (ad184.add (x38_2).toNat)=some (.int .i64 (rd x10_2 x38_2))) (ds := [16]) (bs 17 0) (by kernel_rfl) rfl rfl ⟨(kC BK177.out 0).trans rfl,(kC BK177.out 1).trans rfl,hx184_0⟩ (fun hHeld => ?_);refine with_tabW impl_cover.tab10 impl_cover.bits10 (fun HT_ HW_ => ?_)
       generalize w46.drew=w47 at HO_10 HO_178000 HO_178001 BK169 BK170 BK177 HB GG43 HQ45 HQ49 hf43_0 hx184_0 hx43_0 hHeld ⊢
       refine zP 0 (some 58) (bs 17 1) ?_
       refine zP 2 (some 60) (bs 17 5) ?_
       refine zP 3 (some 61) (bs 17 13) ?_
       refine zP 4 (some 62) (bs 17 29) ?_
       refine zP 5 (some 63) (bs 17 61) ?_
       refine zP 6 (some 64) (bs 17 125) ?_
       refine zP 7 (some 65) (bs 17 253) ?_
       refine zP 8 (some 66) (bs 17 509) ?_
       refine zP 9 (some 67) (bs 17 1021) ?_
       refine zP 10 (some 68) (bs 17 2045) ?_
       refine zP 11 (some 69) (bs 17 4093) ?_
       refine zP 12 (some 70) (bs 17 8189) ?_
       refine zT 1 (some 59) (bs 17 8191) hHeld ?_
       refine zT 13 (some 71) (bs 17 16383) hHeld ?_
       refine zP 14 (some 72) (bs 17 32767) ?_
       refine zP 15 (some 73) (bs 17 65535) ?_
       refine last_ (i:=16) (N:=none) (bs 17 131071) rfl rfl (one_of HT_.out (by kernel_rfl)) (by decide) (fun K hK => ?_)
       refine skip_ (w1 := ?_) (by rfl) rfl ?_ ?_
       rotate_left
       ·go_simp
        rfl
       refine hK.out _ _ ?_
       clear hK K
       refine done_ (done_of HT_.out (by kernel_rfl)) ?_
       try go_wp2
       go_roundg k2
       case measure=>have:=HK1.out;have:=HK2.out;omega
       case rel=>exact⟨(x10_2),(wrap64 (x38_2+1)),(y183),(y185),(.slice (some ⟨go39,0,none⟩) x178000_2.length co39),(.slice (some ⟨go43,0,none⟩) x178001_2.length co43),zt,H',⟨by have:=HK1.out;have:=HK2.out;omega⟩,⟨by(with_reducible repeat(first|apply Kd.V_alloc|apply Kd.V_drewN|apply Kd.V_drew));exact Kd.V_mono (Kd.V_far (p:=⟨go43,((ji36):Int).toNat,none⟩) (Kd.V_mono HO_10.out (fun k_ hk=>(⟨hk,fun e_=>hk.2.1 (by rw [e_];rfl)⟩:_∧k_≠go43))) (fun _ hk=>hk.2) (.int .i64 (wrap64 ((wrap64 (a1*(rd l0_1 x28_1)))+(rd x10_2 x38_2))))) (fun _ hk=>⟨hk.1.1,⟨hk.1.2.1,⟨hk.1.2.2.1,⟨hk.1.2.2.2.1,hk.1.2.2.2.2⟩⟩⟩⟩)⟩,⟨by(with_reducible repeat(first|apply rA|apply rN|apply rD));exact rM (rF (p:=⟨go43,((ji36):Int).toNat,none⟩) (rM HO_178000.out (fun k_ hk=>(⟨hk,fun e_=>hk (by rw [e_];rfl)⟩:_∧k_≠go43))) (fun _ hk=>hk.2) (.int .i64 (wrap64 ((wrap64 (a1*(rd l0_1 x28_1)))+(rd x10_2 x38_2))))) (fun _ hk=>hk.1)⟩,⟨zR_ HQ49⟩,⟨by(with_reducible repeat(first|refine kN ?_ _|refine kD ?_|refine kA ?_ _));refine blk_far ?_ (by have h_:=Kd.R_ne HO_178001.out BK169.out (by decide);intro e_;exact h_ (by rw [e_];rfl)) _;(with_reducible repeat(first|refine kN ?_ _|refine kD ?_|refine kA ?_ _));exact BK169.out⟩,⟨by(with_reducible repeat(first|refine kN ?_ _|refine kD ?_|refine kA ?_ _));refine blk_far ?_ (by have h_:=Kd.R_ne HO_178001.out BK170.out (by decide);intro e_;exact h_ (by rw [e_];rfl)) _;(with_reducible repeat(first|refine kN ?_ _|refine kD ?_|refine kA ?_ _));exact BK170.out⟩,⟨by(with_reducible repeat(first|refine kN ?_ _|refine kD ?_|refine kA ?_ _));refine blk_far ?_ (by have h_:=Kd.R_ne HO_178001.out BK177.out (by decide);intro e_;exact h_ (by rw [e_];rfl)) _;(with_reducible repeat(first|refine kN ?_ _|refine kD ?_|refine kA ?_ _));exact BK177.out⟩,⟨by repeat(first|(with_reducible first|exact HB.out|apply bA|apply bN|apply bD|refine bS ?_ GB43.out|refine bS ?_ GE169.out|refine bS ?_ GE170.out|refine bS ?_ GE177.out)|exact HB.out)⟩⟩
      rw [if_neg c33] at H;have c33b0:=dF c33;clear c33;have H':=A0_ H;clear H
      go_wp2
      go_roundg k2
      case measure=>have:=HK1.out;have:=HK2.out;omega
      case rel=>exact⟨(wrap64 (x28_1+1)),(x178000_2),(x178001_2),(u178000),(u178001),zt,H',⟨by have:=HK1.out;have:=HK2.out;omega⟩,⟨zR_ HO_178000⟩,⟨zR_ HO_178001⟩,⟨zK_ BK169⟩,⟨zK_ BK170⟩,⟨zK_ BK177⟩,⟨zB_ HB⟩⟩
   rw [if_neg c25] at H;have c25b0:=dF c25;clear c25;simp only [Option.some.injEq,Prod.mk.injEq] at H;obtain⟨rfl,rfl⟩:=H;have hnb50:=NB177_169.out;have hnc50:=NB169_177.out;have hnb51:=NB177_170.out;have hnc51:=NB170_177.out
   have hcz52_0:wr.cell? ⟨gb177,0,none⟩=some (u178000):=(kC BK177.out 0).trans rfl
   have hcz52_1:wr.cell? ⟨gb177,1,none⟩=some (u178001):=(kC BK177.out 1).trans rfl
   have hfz52_0:=kF BK177.out 0;have hfz52_1:=kF BK177.out 1;obtain⟨Ao53,co53,eo53⟩:=rS HO_178000.out;subst eo53;have hnb54:=NB170_169.out;have hnc54:=NB169_170.out;have hcz55_0:=zc0 BK170;have hcz55_1:=zc1 BK170;have hfz55_0:=kF BK170.out 0;have hfz55_1:=kF BK170.out 1;obtain⟨Ao56,co56,eo56⟩:=rS HO_178001.out;subst eo56
   go_wp2
   refine bodyPost_ret (results_cell_row rfl _ _ gb170 25 #[.slice Ao53 x178000_1.length co53,.slice Ao56 x178001_1.length co56] (0,0) _ rfl (by(with_reducible repeat(first|refine kN ?_ _|refine kD ?_|refine kA ?_ _));refine blk_put (cs := #[.slice Ao53 x178000_1.length co53,.slice none 0 0]) ?_ 1 _ rfl;(with_reducible repeat(first|refine kN ?_ _|refine kD ?_|refine kA ?_ _));refine blk_put (cs := #[.slice none 0 0,.slice none 0 0]) ?_ 0 _ rfl;(with_reducible repeat(first|refine kN ?_ _|refine kD ?_|refine kA ?_ _));exact BK170.out) Try.underlying25 rfl (by kernel_rfl)) rfl ?_
   exact⟨_,_,by first|rfl|(simp [errW_none,errW_some] <;> rfl)|(simp only [← hji4];first|rfl|(simp [errW_none,errW_some] <;> rfl))|(simp [*,errW_none,errW_some] <;> rfl),zF HO_178000 BK170 (.slice Ao53 x178000_1.length co53) (.slice Ao56 x178001_1.length co56) 0 1,zF HO_178001 BK170 (.slice Ao53 x178000_1.length co53) (.slice Ao56 x178001_1.length co56) 0 1,zB_ HB⟩

end Go.Proofs.Ytmegggomhjgehaa.PFnCover
