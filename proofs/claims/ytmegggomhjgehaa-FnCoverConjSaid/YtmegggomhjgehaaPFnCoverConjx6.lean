import Derived.Test.YtmegggomhjgehaaPFnCoverConjx0
set_option linter.unusedVariables false
namespace Go.Proofs.Ytmegggomhjgehaa.PFnCoverConj
open Go.RowKit Go.Proofs.YtmegggomhjgehaaW.PrintWords Go.Proofs.YtmegggomhjgehaaW.PrintLast Go.Proofs.YtmegggomhjgehaaW.PrintMore
set_option maxHeartbeats 8000000
set_option maxRecDepth 100000
attribute [local go_sem] max2_int min2_int max_two min_two max_three min_three max_four min_four
/-- A state of type 82 at block g of W; what its slices lead to came in by w0. -/
def IsS82 (w0 W:World) (g:Nat) (f0:List Int) (f1:Int):Prop := ∃ A0 c0,W.heap[g]? = some (.cells #[.slice A0 f0.length c0,.int .i64 f1] 82 (0,0))∧w0.heap.size≤g∧Kd.C (Kd.int .u8) w0 A0 f0.length f0
theorem IsS82.grown {w0 W:World} {g:Nat} {f0:List Int} {f1:Int} {W1:World} {row:Option Nat} (h:IsS82 w0 W g f0 f1) (hw:W.grownBy W1 row) (hne:some g≠row):IsS82 w0 W1 g f0 f1:=by
  obtain⟨A0,c0,hb,hg,aa⟩:=h
  exact⟨A0,c0,blk_grown hb hw hne,hg,aa⟩
theorem IsS82.own_neN {w0 W:World} {g:Nat} {f0:List Int} {f1:Int} {α:Type} {d:Kd α} {e:Nat} {base:Nat} {ok:Nat→Prop} {v:Value} {xs:List α} (h:IsS82 w0 W g f0 f1) (ho:Kd.N d e W base ok v xs) (ht:e≠82):some g≠v.ownBlock:=by
  obtain⟨A0,c0,hb,hg,aa⟩:=h
  exact Kd.N_ne ho hb ht
theorem IsS82.fresh {w0 W:World} {g:Nat} {f0:List Int} {f1:Int} (h:IsS82 w0 W g f0 f1) : ∀ k,W.heap.size≤k→k≠g:=by
  obtain⟨A0,c0,hb,hg,aa⟩:=h
  exact Kd.freshB hb
theorem IsS82.kept {w0 W:World} {g:Nat} {f0:List Int} {f1:Int} {W1:World} {S:Nat→Prop} (h:IsS82 w0 W g f0 f1) (hk:Kept W W1 S) (hne : ¬ S g):IsS82 w0 W1 g f0 f1:=by
  obtain⟨A0,c0,hb,hg,aa⟩:=h
  exact⟨A0,c0,blk_kept hb hk hne,hg,aa⟩
theorem IsS82.below {w0 W:World} {g:Nat} {f0:List Int} {f1:Int} {W1:World} (h:IsS82 w0 W g f0 f1) (hw:Below W.heap.size W W1):IsS82 w0 W1 g f0 f1:=h.grown (grown_of_below hw none) (by simp)
theorem IsS82.alloc {w0 W:World} {g:Nat} {f0:List Int} {f1:Int} (h:IsS82 w0 W g f0 f1) (o:Obj):IsS82 w0 (W.alloc o) g f0 f1:=h.below (bA (Below.refl _ _) o)
theorem IsS82.drewN {w0 W:World} {g:Nat} {f0:List Int} {f1:Int} (h:IsS82 w0 W g f0 f1) (m:Nat):IsS82 w0 (W.drewN m) g f0 f1:=h
theorem IsS82.drew {w0 W:World} {g:Nat} {f0:List Int} {f1:Int} (h:IsS82 w0 W g f0 f1):IsS82 w0 W.drew g f0 f1:=h
theorem IsS82.at_ {w0 W:World} {g:Nat} {f0:List Int} {f1:Int} {w':World} {m:Nat} (hq:W.drewN m=w') (h:IsS82 w0 W g f0 f1):IsS82 w0 w' g f0 f1:=by subst hq;exact IsS82.drewN h m
theorem IsS82.apart {w0 W:World} {g:Nat} {f0:List Int} {f1:Int} {α:Type} {d:Kd α} {e:Nat} {base:Nat} {ok:Nat→Prop} {v:Value} {xs:List α} (h:IsS82 w0 W g f0 f1) (ho:d.R e W base ok v xs) (ht : ∀ q,q ∈ e :: d.E→q≠82):d.R e W base (fun k=>ok k∧k≠g) v xs:=by
  obtain⟨A0,c0,hb,hg,aa⟩:=h
  exact rY ho hb ht
theorem IsS82.own_ne {w0 W:World} {g:Nat} {f0:List Int} {f1:Int} {α:Type} {d:Kd α} {e:Nat} {base:Nat} {ok:Nat→Prop} {v:Value} {xs:List α} (h:IsS82 w0 W g f0 f1) (ho:d.R e W base ok v xs) (ht:e≠82):some g≠v.ownBlock:=by
  obtain⟨A0,c0,hb,hg,aa⟩:=h
  exact Kd.R_ne ho hb ht
theorem IsS82.apartQ {w0 W:World} {g:Nat} {f0:List Int} {f1:Int} {α:Type} {d:Kd α} {e:Nat} {base:Nat} {ok:Nat→Prop} {v:Value} {xs:List α} (h:IsS82 w0 W g f0 f1) (ho:d.Q e W base ok v xs) (ht : ∀ q,q ∈ e :: d.E→q≠82):d.Q e W base (fun k=>ok k∧k≠g) v xs:=by
  obtain⟨A0,c0,hb,hg,aa⟩:=h
  exact Kd.Q_types ho hb ht
theorem IsS82.own_neQ {w0 W:World} {g:Nat} {f0:List Int} {f1:Int} {α:Type} {d:Kd α} {e:Nat} {base:Nat} {ok:Nat→Prop} {v:Value} {xs:List α} (h:IsS82 w0 W g f0 f1) (ho:d.Q e W base ok v xs) (ht:e≠82):some g≠v.ownBlock:=by
  obtain⟨A0,c0,hb,hg,aa⟩:=h
  exact Kd.Q_ne ho hb ht
theorem IsS82.apartS {w0 W:World} {g:Nat} {f0:List Int} {f1:Int} {α:Type} {d:Kd α} {e:Nat} {base:Nat} {ok:Nat→Prop} {v:Value} {xs:List α} (h:IsS82 w0 W g f0 f1) (ho:d.S e W base ok v xs) (ht : ∀ q,q ∈ e :: d.E→q≠82):d.S e W base (fun k=>ok k∧k≠g) v xs:=by
  obtain⟨A0,c0,hb,hg,aa⟩:=h
  exact Kd.S_types ho hb ht
theorem IsS82.own_neS {w0 W:World} {g:Nat} {f0:List Int} {f1:Int} {α:Type} {d:Kd α} {e:Nat} {base:Nat} {ok:Nat→Prop} {v:Value} {xs:List α} (h:IsS82 w0 W g f0 f1) (ho:d.S e W base ok v xs) (ht:e≠82):some g≠v.ownBlock:=by
  obtain⟨A0,c0,hb,hg,aa⟩:=h
  exact Kd.S_ne ho hb ht
theorem IsS82.lt {w0 W:World} {g:Nat} {f0:List Int} {f1:Int} (h:IsS82 w0 W g f0 f1):g<W.heap.size:=by
  obtain⟨A0,c0,hb,hg,aa⟩:=h
  exact kL hb
theorem IsS82.ge {w0 W:World} {g:Nat} {f0:List Int} {f1:Int} (h:IsS82 w0 W g f0 f1):w0.heap.size≤g:=by
  obtain⟨A0,c0,hb,hg,aa⟩:=h
  exact hg
theorem IsS82.ne_blk {w0 W:World} {g:Nat} {f0:List Int} {f1:Int} {a:Nat} {cs:Array Value} {t:TypeId} {fr:Nat×Nat} (h:IsS82 w0 W g f0 f1) (hb2:W.heap[a]? = some (.cells cs t fr)) (ht:t≠82):g≠a:=by
  obtain⟨A0,c0,hb,hg,aa⟩:=h
  rintro rfl
  rw [hb] at hb2
  injection hb2 with hb2
  injection hb2 with _ ht2
  exact ht ht2.symm
theorem IsS82.far {w0 W:World} {g:Nat} {f0:List Int} {f1:Int} {p:Addr} (h:IsS82 w0 W g f0 f1) (hne:g≠p.block) (u:Value):IsS82 w0 (W.setCell p u) g f0 f1:=by
  obtain⟨A0,c0,hb,hg,aa⟩:=h
  exact⟨A0,c0,blk_far hb hne u,hg,aa⟩
theorem cellS82_0 {W:World} {g:Nat} {A0:Option Addr} {c0:Nat} {f0:List Int} {f1:Int} (h:W.heap[g]? = some (.cells #[.slice A0 f0.length c0,.int .i64 f1] 82 (0,0))):W.cell? ⟨g,0,none⟩=some (.slice A0 f0.length c0):=(kC h 0).trans rfl
theorem cellS82_1 {W:World} {g:Nat} {A0:Option Addr} {c0:Nat} {f0:List Int} {f1:Int} (h:W.heap[g]? = some (.cells #[.slice A0 f0.length c0,.int .i64 f1] 82 (0,0))):W.cell? ⟨g,1,none⟩=some (.int .i64 f1):=(kC h 1).trans rfl
theorem IsS82.set_1 {w0 W:World} {g:Nat} {f0:List Int} {f1:Int} (h:IsS82 w0 W g f0 f1) (x:Int):IsS82 w0 (W.setCell ⟨g,1,none⟩ (.int .i64 x)) g f0 x:=by
  obtain⟨A0,c0,hb,hg,aa⟩:=h
  exact⟨A0,c0,by simpa using blk_set hb 1 (.int .i64 x),hg,aa⟩
theorem IsS82.new (w0 W:World) (A0:Option Addr) (c0:Nat) (f0:List Int) (f1:Int) (hB:Below w0.heap.size w0 W) (aa:Kd.C (Kd.int .u8) w0 A0 f0.length f0):IsS82 w0 (W.alloc (.cells #[.slice A0 f0.length c0,.int .i64 f1] 82)) W.heap.size f0 f1:=⟨A0,c0,by simpa using heap_alloc_new W _,hB.size,aa⟩
theorem zIs {w0 W W2:World} {g:Nat} {f0 f0':List Int} {f1 f1':Int} (h:Aside0 (IsS82 w0 W g f0 f1)) (t:IsS82 w0 W g f0 f1→IsS82 w0 W2 g f0' f1':=by intro h_;repeat(first|(with_reducible first|exact h_|apply IsS82.alloc|apply IsS82.drewN|apply IsS82.drew|apply IsS82.set_1|refine IsS82.far ?_ (Aside0.out (by assumption)) _)|exact h_)):IsS82 w0 W2 g f0' f1':=t h.out
theorem zBw {b:Nat} {w W W2:World} (h:Aside0 (Below b w W)) (t:Below b w W→Below b w W2:=by intro h_;repeat(first|(with_reducible first|exact h_|apply bA|apply bN|apply bD|refine bS ?_ (Aside0.out (by assumption))|refine bS ?_ (IsS82.ge (Aside0.out (by assumption))))|exact h_)):Below b w W2:=t h.out
def s1a_.j0:Nat→Int→Bool→List Int→Int→Option (Int×Int)
  | 0,_,_,_,_=>none
  | k+1,x1,ac,aa,ab=>if ac=true then (some (0,ab)) else (if (wrap64 (ab - 1))<(aa.length:Int) then (if 0≤(wrap64 (ab - 1)) then (if x1=0 then (none) else (some (Int.tmod (wrap64 (rd aa (wrap64 (ab - 1)))) x1,ab))) else (none)) else (if (aa.length:Int)=0 then (none) else (if 0≤(Int.tmod (wrap64 (ab - 1)) (aa.length:Int)) then (if (Int.tmod (wrap64 (ab - 1)) (aa.length:Int))<(aa.length:Int) then (if 0≤(Int.tmod (wrap64 ((wrap64 ((wrap64 (ab - 1))*7))+3)) (aa.length:Int)) then (if (Int.tmod (wrap64 ((wrap64 ((wrap64 (ab - 1))*7))+3)) (aa.length:Int))<(aa.length:Int) then (if x1=0 then (none) else (some (Int.tmod (Go.bits .xor .i64 (wrap64 ((wrap64 ((wrap64 ((wrap64 ((wrap64 (rd aa (Int.tmod (wrap64 (ab - 1)) (aa.length:Int))))*131))+(wrap64 ((wrap64 (rd aa (Int.tmod (wrap64 ((wrap64 ((wrap64 (ab - 1))*7))+3)) (aa.length:Int))))*1117))))+(wrap64 ((wrap64 (ab - 1))*29))))+(wrap64 ((wrap64 (Int.tdiv (wrap64 (ab - 1)) (aa.length:Int)))*53)))) (wrap64 (Int.tdiv (wrap64 ((wrap64 ((wrap64 ((wrap64 ((wrap64 (rd aa (Int.tmod (wrap64 (ab - 1)) (aa.length:Int))))*131))+(wrap64 ((wrap64 (rd aa (Int.tmod (wrap64 ((wrap64 ((wrap64 (ab - 1))*7))+3)) (aa.length:Int))))*1117))))+(wrap64 ((wrap64 (ab - 1))*29))))+(wrap64 ((wrap64 (Int.tdiv (wrap64 (ab - 1)) (aa.length:Int)))*53)))) 64))) x1,ab))) else (none)) else (none)) else (none)) else (none))))
def s1a_.f (k:Nat) (s0_0:List Int) (s0_1:Int) (a1:Int):Option (Int×Int):=if a1<1 then (s1a_.j0 k a1 true s0_0 (wrap64 (s0_1+1))) else (s1a_.j0 k a1 ((s0_0.length:Int) == 0) s0_0 (wrap64 (s0_1+1)))
theorem s1a_.calls (k:Nat) (g:Nat) (s0_0:List Int) (s0_1:Int) (a1:Int) (r1:Int) (r2:Int) (w0 w:World) (hI:IsS82 w0 w g s0_0 s0_1) (hB:Below w0.heap.size w0 w) (h:s1a_.f k s0_0 s0_1 a1=some (r1,r2)) :
    Calls Try.prog 74 #[.pointer (some ⟨g,0,none⟩),.int .i64 a1] w fun e w'=>e = .returned (.int .i64 r1)∧IsS82 w0 w' g s0_0 r2∧Below w0.heap.size w0 w'∧KeepBut w w' g none:=by
 have HI0:=A0_ hI
 have HK:=A0_ (KeepBut.refl w g none)
 have HL:=A0_ hB.size;clear hI;have HW0:=A0_ hB.size;have HB:=A0_ hB;clear hB
 have H:(if a1<1 then (s1a_.j0 k a1 true s0_0 (wrap64 (s0_1+1))) else (s1a_.j0 k a1 ((s0_0.length:Int) == 0) s0_0 (wrap64 (s0_1+1))))=some (r1,r2):=h
 clear h;have au:=A0_ H;clear H;obtain⟨ASz4_0,cSz4_0,HGz4,hgz4,HSz4_0⟩:=HI0.out;have av:=cellS82_0 HGz4;have aw:=cellS82_1 HGz4;have ax:=kF HGz4 1;clear HGz4 hgz4
 go_enter Try.func74,Try.ntmps74
 go_upto_region 2 with(fail)
 repeat(go_quiet (fail);go_upto_region 2 with(fail))
 go_cut [24] (fun v24 wc => ∃ (kq:Nat) (ac:Bool),v24 = .bool ac∧Aside0 (s1a_.j0 kq a1 ac s0_0 (wrap64 (s0_1+1))=some (r1,r2))∧Aside0 (kq≤k)∧Aside0 (IsS82 w0 wc g s0_0 (wrap64 (s0_1+1)))∧Aside0 (KeepBut w wc g none)∧Aside0 (Below w0.heap.size w0 wc))
 case first =>
  have H:=au.out;clear au
  by_cases c5:a1<1
  ·rw [if_pos c5] at H
   have ae:=dT c5;clear c5
   (first|rw [ae]|(simp only [i64_w,i32_w];rw [ae])|skip)
   have H':=A0_ H;clear H
   go_wp2
   repeat(go_quiet (fail);try go_wp2)
   go_meet
   case rel=>exact⟨_,(true),zt,H',zo,⟨zIs HI0⟩,⟨zKp HK⟩,⟨zBw HB⟩⟩
  rw [if_neg c5] at H;have ae:=dF c5;clear c5
  (first|rw [ae]|(simp only [i64_w,i32_w];rw [ae])|skip)
  have H':=A0_ H;clear H;obtain⟨ASz6_0,cSz6_0,HGz6,hgz6,HSz6_0⟩:=HI0.out;have aZ:=cellS82_0 HGz6;have a4:=cellS82_1 HGz6;have a5:=kF HGz6 1;clear HGz6 hgz6
  go_wp2
  repeat(go_quiet (fail);try go_wp2)
  go_meet
  case rel=>exact⟨_,(((s0_0.length:Int) == 0)),zt,H',zo,⟨zIs HI0⟩,⟨zKp HK⟩,⟨zBw HB⟩⟩
 case rest =>
  clear au;(try clear av);(try clear aw);(try clear ax);obtain⟨kq,ac,rfl,HA,bj,HI0,HK,HB⟩:=hcut
  cases kq with
  | zero=>exact absurd HA.out (by simp [s1a_.j0])
  | succ bk =>
   have H:=HA.out;clear HA;simp only [s1a_.j0] at H
   by_cases c7:ac=true
   ·subst c7
    have H1:(some (0,(wrap64 (s0_1+1))))=some (r1,r2):=by rw [if_pos rfl] at H;exact H
    clear H;have H:=H1;clear H1;simp only [Option.some.injEq,Prod.mk.injEq] at H;obtain⟨rfl,rfl⟩:=H
    go_wp2
    repeat(go_quiet (fail);try go_wp2)
    go_ret
    exact⟨by first|rfl|(simp [*] <;> rfl),zIs HI0,zBw HB,zKp HK⟩
   replace c7:=Bool.eq_false_iff.mpr c7;subst c7
   have H1:(if (wrap64 ((wrap64 (s0_1+1)) - 1))<(s0_0.length:Int) then (if 0≤(wrap64 ((wrap64 (s0_1+1)) - 1)) then (if a1=0 then (none) else (some (Int.tmod (wrap64 (rd s0_0 (wrap64 ((wrap64 (s0_1+1)) - 1)))) a1,(wrap64 (s0_1+1))))) else (none)) else (if (s0_0.length:Int)=0 then (none) else (if 0≤(Int.tmod (wrap64 ((wrap64 (s0_1+1)) - 1)) (s0_0.length:Int)) then (if (Int.tmod (wrap64 ((wrap64 (s0_1+1)) - 1)) (s0_0.length:Int))<(s0_0.length:Int) then (if 0≤(Int.tmod (wrap64 ((wrap64 ((wrap64 ((wrap64 (s0_1+1)) - 1))*7))+3)) (s0_0.length:Int)) then (if (Int.tmod (wrap64 ((wrap64 ((wrap64 ((wrap64 (s0_1+1)) - 1))*7))+3)) (s0_0.length:Int))<(s0_0.length:Int) then (if a1=0 then (none) else (some (Int.tmod (Go.bits .xor .i64 (wrap64 ((wrap64 ((wrap64 ((wrap64 ((wrap64 (rd s0_0 (Int.tmod (wrap64 ((wrap64 (s0_1+1)) - 1)) (s0_0.length:Int))))*131))+(wrap64 ((wrap64 (rd s0_0 (Int.tmod (wrap64 ((wrap64 ((wrap64 ((wrap64 (s0_1+1)) - 1))*7))+3)) (s0_0.length:Int))))*1117))))+(wrap64 ((wrap64 ((wrap64 (s0_1+1)) - 1))*29))))+(wrap64 ((wrap64 (Int.tdiv (wrap64 ((wrap64 (s0_1+1)) - 1)) (s0_0.length:Int)))*53)))) (wrap64 (Int.tdiv (wrap64 ((wrap64 ((wrap64 ((wrap64 ((wrap64 (rd s0_0 (Int.tmod (wrap64 ((wrap64 (s0_1+1)) - 1)) (s0_0.length:Int))))*131))+(wrap64 ((wrap64 (rd s0_0 (Int.tmod (wrap64 ((wrap64 ((wrap64 ((wrap64 (s0_1+1)) - 1))*7))+3)) (s0_0.length:Int))))*1117))))+(wrap64 ((wrap64 ((wrap64 (s0_1+1)) - 1))*29))))+(wrap64 ((wrap64 (Int.tdiv (wrap64 ((wrap64 (s0_1+1)) - 1)) (s0_0.length:Int)))*53)))) 64))) a1,(wrap64 (s0_1+1))))) else (none)) else (none)) else (none)) else (none))))=some (r1,r2):=by rw [if_neg (show ¬ (false=true) by decide)] at H;exact H
   clear H;have H:=H1;clear H1
   by_cases c8:(wrap64 ((wrap64 (s0_1+1)) - 1))<(s0_0.length:Int)
   ·rw [if_pos c8] at H
    have ay:=dT c8;clear c8
    obtain⟨ag,af⟩ : ∃ j_:Int,(wrap64 ((wrap64 (s0_1+1)) - 1))=j_:=⟨_,rfl⟩
    replace H:(if 0≤(ag) then (if a1=0 then (none) else (some (Int.tmod (wrap64 (rd s0_0 (ag))) a1,(wrap64 (s0_1+1))))) else (none))=some (r1,r2):=by first|(rw [af] at H;exact H)|(simp only [af] at H ⊢;exact H)
    (try rw [af] at ay)
    have hji9w:(IntKind.i64.wrap ((wrap64 (s0_1+1)) - 1))=ag:=(i64_w _).trans af
    have aD:=zpc H;replace H:=zph H
    have a6:=dT aD;clear aD
    have aE:=zqc H;replace H:=zqh H
    have a7:(a1 == 0)=false:=beq_eq_false_iff_ne.mpr aE
    have a8:(a1 != 0)=true:=bne_iff_ne.mpr aE
    simp only [Option.some.injEq,Prod.mk.injEq] at H;obtain⟨rfl,rfl⟩:=H;obtain⟨ASz12_0,cSz12_0,HGz12,hgz12,HSz12_0⟩:=HI0.out;have aT:=cellS82_0 HGz12;have aU:=cellS82_1 HGz12;have aV:=kF HGz12 1;clear HGz12 hgz12
    have am:0≤((ag):Int):=zd
    have an:(ag)<(s0_0.length:Int):=zd
    obtain⟨a9,aM,ah⟩:=tI HSz12_0 (ag) am an
    cases aM
    replace ah:=pw_cell_below HB.out ah
    replace am:=eq_true am;replace an:=eq_true an
    go_wp2
    repeat(go_quiet (fail);try go_wp2)
    go_ret
    exact⟨by first|rfl|(simp [errW_none,errW_some] <;> rfl)|(simp only [← af];first|rfl|(simp [errW_none,errW_some] <;> rfl))|(simp [*,errW_none,errW_some] <;> rfl),zIs HI0,zBw HB,zKp HK⟩
   rw [if_neg c8] at H;have ay:=dF c8;clear c8
   have az:=zqc H;replace H:=zqh H
   have ba:((s0_0.length:Int) == 0)=false:=beq_eq_false_iff_ne.mpr az
   have bb:((s0_0.length:Int) != 0)=true:=bne_iff_ne.mpr az
   have bc : ¬ (s0_0 = []):=fun h_=>az (by rw [h_];rfl)
   obtain⟨aa,ak⟩ : ∃ j_:Int,(Int.tmod (wrap64 ((wrap64 (s0_1+1)) - 1)) (s0_0.length:Int))=j_:=⟨_,rfl⟩
   replace H:(if 0≤(aa) then (if (aa)<(s0_0.length:Int) then (if 0≤(Int.tmod (wrap64 ((wrap64 ((wrap64 ((wrap64 (s0_1+1)) - 1))*7))+3)) (s0_0.length:Int)) then (if (Int.tmod (wrap64 ((wrap64 ((wrap64 ((wrap64 (s0_1+1)) - 1))*7))+3)) (s0_0.length:Int))<(s0_0.length:Int) then (if a1=0 then (none) else (some (Int.tmod (Go.bits .xor .i64 (wrap64 ((wrap64 ((wrap64 ((wrap64 ((wrap64 (rd s0_0 (aa)))*131))+(wrap64 ((wrap64 (rd s0_0 (Int.tmod (wrap64 ((wrap64 ((wrap64 ((wrap64 (s0_1+1)) - 1))*7))+3)) (s0_0.length:Int))))*1117))))+(wrap64 ((wrap64 ((wrap64 (s0_1+1)) - 1))*29))))+(wrap64 ((wrap64 (Int.tdiv (wrap64 ((wrap64 (s0_1+1)) - 1)) (s0_0.length:Int)))*53)))) (wrap64 (Int.tdiv (wrap64 ((wrap64 ((wrap64 ((wrap64 ((wrap64 (rd s0_0 (aa)))*131))+(wrap64 ((wrap64 (rd s0_0 (Int.tmod (wrap64 ((wrap64 ((wrap64 ((wrap64 (s0_1+1)) - 1))*7))+3)) (s0_0.length:Int))))*1117))))+(wrap64 ((wrap64 ((wrap64 (s0_1+1)) - 1))*29))))+(wrap64 ((wrap64 (Int.tdiv (wrap64 ((wrap64 (s0_1+1)) - 1)) (s0_0.length:Int)))*53)))) 64))) a1,(wrap64 (s0_1+1))))) else (none)) else (none)) else (none)) else (none))=some (r1,r2):=by first|(rw [ak] at H;exact H)|(simp only [ak] at H ⊢;exact H)
   have aG:=zpc H;replace H:=zph H
   have bd:=dT aG;clear aG
   have aH:=zpc H;replace H:=zph H
   have be:=dT aH;clear aH
   obtain⟨ab,al⟩ : ∃ j_:Int,(Int.tmod (wrap64 ((wrap64 ((wrap64 ((wrap64 (s0_1+1)) - 1))*7))+3)) (s0_0.length:Int))=j_:=⟨_,rfl⟩
   replace H:(if 0≤(ab) then (if (ab)<(s0_0.length:Int) then (if a1=0 then (none) else (some (Int.tmod (Go.bits .xor .i64 (wrap64 ((wrap64 ((wrap64 ((wrap64 ((wrap64 (rd s0_0 (aa)))*131))+(wrap64 ((wrap64 (rd s0_0 (ab)))*1117))))+(wrap64 ((wrap64 ((wrap64 (s0_1+1)) - 1))*29))))+(wrap64 ((wrap64 (Int.tdiv (wrap64 ((wrap64 (s0_1+1)) - 1)) (s0_0.length:Int)))*53)))) (wrap64 (Int.tdiv (wrap64 ((wrap64 ((wrap64 ((wrap64 ((wrap64 (rd s0_0 (aa)))*131))+(wrap64 ((wrap64 (rd s0_0 (ab)))*1117))))+(wrap64 ((wrap64 ((wrap64 (s0_1+1)) - 1))*29))))+(wrap64 ((wrap64 (Int.tdiv (wrap64 ((wrap64 (s0_1+1)) - 1)) (s0_0.length:Int)))*53)))) 64))) a1,(wrap64 (s0_1+1))))) else (none)) else (none))=some (r1,r2):=by first|(rw [al] at H;exact H)|(simp only [al] at H ⊢;exact H)
   have aI:=zpc H;replace H:=zph H
   have bf:=dT aI;clear aI
   have aJ:=zpc H;replace H:=zph H
   have bg:=dT aJ;clear aJ
   have aK:=zqc H;replace H:=zqh H
   have bh:(a1 == 0)=false:=beq_eq_false_iff_ne.mpr aK
   have bi:(a1 != 0)=true:=bne_iff_ne.mpr aK
   simp only [Option.some.injEq,Prod.mk.injEq] at H;obtain⟨rfl,rfl⟩:=H;obtain⟨ASz21_0,cSz21_0,HGz21,hgz21,HSz21_0⟩:=HI0.out;have aW:=cellS82_0 HGz21;have aX:=cellS82_1 HGz21;have aY:=kF HGz21 1;clear HGz21 hgz21
   have ao:0≤((aa):Int):=zd
   have ap:(aa)<(s0_0.length:Int):=zd
   obtain⟨aA,aN,ai⟩:=tI HSz21_0 (aa) ao ap
   cases aN
   replace ai:=pw_cell_below HB.out ai
   replace ao:=eq_true ao;replace ap:=eq_true ap
   have aq:0≤((ab):Int):=zd
   have ar:(ab)<(s0_0.length:Int):=zd
   obtain⟨aC,aQ,aj⟩:=tI HSz21_0 (ab) aq ar
   obtain rfl:aA=aC:=(by injection aQ)
   replace aj:=pw_cell_below HB.out aj
   replace aq:=eq_true aq;replace ar:=eq_true ar
   go_wp2
   repeat(go_quiet (fail);try go_wp2)
   go_ret
   exact⟨by first|rfl|(simp [errW_none,errW_some] <;> rfl)|(simp only [← ak,← al];first|rfl|(simp [errW_none,errW_some] <;> rfl))|(simp [*,errW_none,errW_some] <;> rfl),zIs HI0,zBw HB,zKp HK⟩
def s18_.f (a0:Int) (a1:Int) (a2:Int):Option (Bool):=if a0≥a1 then (some (decide (a0≤a2))) else (some false)
theorem s18_.calls (a0:Int) (a1:Int) (a2:Int) (r:Bool) (w:World) (h:s18_.f a0 a1 a2=some r) :
    Calls Try.prog 101 #[.int .i64 a0,.int .i64 a1,.int .i64 a2] w fun e w'=>e = .returned (.bool r)∧Drawn0 w w':=by
 have H:(if a0≥a1 then (some (decide (a0≤a2))) else (some false))=some r:=h
 clear h
 by_cases c4:a0≥a1
 ·rw [if_pos c4] at H
  have aa:decide (a1≤a0)=true:=dT c4
  clear c4;obtain rfl:=sI H
  go_enter Try.func101,Try.ntmps101
  go_wp2
  go_ret
  exact⟨by first|rfl|(simp;done)|(simp [*];done),by repeat(first|exact Drawn0.refl _|apply Drawn0.step)⟩
 rw [if_neg c4] at H
 have aa:decide (a1≤a0)=false:=dF c4
 clear c4;obtain rfl:=sI H
 go_enter Try.func101,Try.ntmps101
 go_wp2
 go_ret
 exact⟨by first|rfl|(simp;done)|(simp [*];done),by repeat(first|exact Drawn0.refl _|apply Drawn0.step)⟩
mutual
def sy_.l0:Nat→List Int→Int→Option (Bool)
  | 0,_,_=>none
  | k+1,x0,x3=>if x3<(x0.length:Int) then (if 0≤x3 then ((s18_.f (rd x0 x3) 0 (wrap64 ((x0.length:Int) - 1))).bind fun aa=>(if aa=true then (sy_.l1 k x0 x3 0) else (some false))) else (none)) else ((s18_.f (x0.length:Int) 1 12).bind fun ab=>(some ab))
def sy_.l1:Nat→List Int→Int→Int→Option (Bool)
  | 0,_,_,_=>none
  | k+1,x0,x3,x4=>if x4<x3 then (if 0≤x4 then (if x4<(x0.length:Int) then (if 0≤x3 then (if x3<(x0.length:Int) then (if (rd x0 x4)=(rd x0 x3) then (some false) else (sy_.l1 k x0 x3 (wrap64 (x4+1)))) else (none)) else (none)) else (none)) else (none)) else (sy_.l0 k x0 (wrap64 (x3+1)))
end
def sy_.f (k:Nat) (l0:List Int):Option (Bool):=sy_.l0 k l0 0
theorem sy_.calls (k:Nat) (A0:Option Addr) (c0:Nat) (l0:List Int) (r:Bool) (w:World) (aE:Kd.C (Kd.int .i64) w A0 l0.length l0) (aG:l0.length≤c0) (h:sy_.f k l0=some r) :
    Calls Try.prog 89 #[.slice A0 l0.length c0] w fun e w'=>e = .returned (.bool r)∧Drawn0 w w':=by
 have al:=A0_ aE;have aU:=A0_ aG;clear aE aG
 have H:(sy_.l0 k l0 0)=some r:=h
 clear h;have H':=A0_ H;clear H
 go_enter Try.func89,Try.ntmps89
 go_wp2
 repeat(go_quiet (fail);try go_wp2)
 go_loopg [3] k (fun kq v3 w' => ∃ (aa:Int),v3 = .int .i64 aa∧Aside0 (sy_.l0 kq l0 aa=some r)∧Aside0 (kq≤k)∧Drawn0 w w')
 case atStart=>exact⟨(0),zt,H',⟨Nat.le_refl _⟩,by repeat(first|exact Drawn0.refl _|apply Drawn0.step)⟩
 case round =>
  clear H';obtain⟨aa,rfl,HA,av,⟨m1,rfl⟩⟩:=hrel
  cases gk with
  | zero=>exact absurd HA.out (by simp [sy_.l0])
  | succ k1 =>
   have H:=HA.out;clear HA;simp only [sy_.l0] at H
   by_cases c2:aa<(l0.length:Int)
   ·rw [if_pos c2] at H
    have az:=dT c2;clear c2
    have c3:=zpc H;replace H:=zph H
    have aI:=dT c3;clear c3;obtain⟨aJ,A4,H⟩:=zbind H
    by_cases c5:aJ=true
    ·subst c5
     rw [if_pos rfl] at H;have H':=A0_ H;clear H
     have ac:0≤(aa:Int):=zd
     have ae:aa<(l0.length:Int):=zd
     obtain⟨af,ap,am⟩:=tI al.out aa ac ae
     cases ap
     replace ac:=eq_true ac;replace ae:=eq_true ae
     go_wp2_with (first|(go_at_call 101;(with_reducible refine(s18_.calls (rd l0 aa) 0 (wrap64 ((l0.length:Int) - 1)) true _ A4.out).mono ?_);rintro e w' ⟨rfl,⟨nd,rfl⟩⟩;(try first|exact⟨rfl,_,World.drewN_drewN _ _ _⟩|exact⟨rfl,_,Eq.trans (World.drewN_drewN _ _ _) (congrArg (World.drewN _) (Nat.add_assoc _ _ _))⟩)))
     repeat(go_quiet (first|(go_at_call 101;(with_reducible refine(s18_.calls (rd l0 aa) 0 (wrap64 ((l0.length:Int) - 1)) true _ A4.out).mono ?_);rintro e w' ⟨rfl,⟨nd,rfl⟩⟩;(try first|exact⟨rfl,_,World.drewN_drewN _ _ _⟩|exact⟨rfl,_,Eq.trans (World.drewN_drewN _ _ _) (congrArg (World.drewN _) (Nat.add_assoc _ _ _))⟩)));try go_wp2_with (first|(go_at_call 101;(with_reducible refine(s18_.calls (rd l0 aa) 0 (wrap64 ((l0.length:Int) - 1)) true _ A4.out).mono ?_);rintro e w' ⟨rfl,⟨nd,rfl⟩⟩;(try first|exact⟨rfl,_,World.drewN_drewN _ _ _⟩|exact⟨rfl,_,Eq.trans (World.drewN_drewN _ _ _) (congrArg (World.drewN _) (Nat.add_assoc _ _ _))⟩))))
     (try generalize Value.pointer (some (af.add (aa:Int).toNat))=pz_)
     go_loopg [4] k1 (fun kq v4 w' => ∃ (ab:Int),v4 = .int .i64 ab∧Aside0 (sy_.l1 kq l0 aa ab=some r)∧Aside0 (kq≤k1)∧Drawn0 w w')
     case atStart=>exact⟨(0),zt,H',⟨Nat.le_refl _⟩,by repeat(first|exact Drawn0.refl _|apply Drawn0.step)⟩
     case round =>
      clear H';(try clear c2);(try clear az);(try clear c3);(try clear aI);(try clear c5);(try clear am);(try clear ac);(try clear ae);obtain⟨ab,rfl,HA,aw,⟨m2,rfl⟩⟩:=hrel
      cases gk with
      | zero=>exact absurd HA.out (by simp [sy_.l1])
      | succ k2 =>
       have H:=HA.out;clear HA;simp only [sy_.l1] at H
       by_cases c6:ab<aa
       ·rw [if_pos c6] at H
        have aK:=dT c6;clear c6
        have c7:=zpc H;replace H:=zph H
        have aN:=dT c7;clear c7
        have c8:=zpc H;replace H:=zph H
        have aQ:=dT c8;clear c8
        have c9:=zpc H;replace H:=zph H
        have aT:=dT c9;clear c9
        have aH:=zpc H;replace H:=zph H
        have aM:=dT aH;clear aH
        by_cases ak:(rd l0 ab)=(rd l0 aa)
        ·rw [if_pos ak] at H
         have aC:((rd l0 ab) == (rd l0 aa))=true:=beq_iff_eq.mpr ak
         have aD:((rd l0 ab) != (rd l0 aa))=false:=bne_eq_false_iff_eq.mpr ak
         clear ak;obtain rfl:=sI H
         have ag:0≤(ab:Int):=zd
         have ah:ab<(l0.length:Int):=zd
         obtain⟨an,aq,ax⟩:=tI al.out ab ag ah
         obtain rfl:af=an:=(by injection aq)
         replace ag:=eq_true ag;replace ah:=eq_true ah
         have ai:0≤(aa:Int):=zd
         have aj:aa<(l0.length:Int):=zd
         obtain⟨ao,ar,ay⟩:=tI al.out aa ai aj
         obtain rfl:af=ao:=(by injection ar)
         replace ai:=eq_true ai;replace aj:=eq_true aj
         go_wp2
         repeat(go_quiet (fail);try go_wp2)
         go_ret
         exact⟨by first|rfl|(simp;done)|(simp [*];done),by repeat(first|exact Drawn0.refl _|apply Drawn0.step)⟩
        rw [if_neg ak] at H
        have aC:((rd l0 ab) == (rd l0 aa))=false:=beq_eq_false_iff_ne.mpr ak
        have aD:((rd l0 ab) != (rd l0 aa))=true:=bne_iff_ne.mpr ak
        have H':=A0_ H;clear H
        have ag:0≤(ab:Int):=zd
        have ah:ab<(l0.length:Int):=zd
        obtain⟨an,aq,ax⟩:=tI al.out ab ag ah
        obtain rfl:af=an:=(by injection aq)
        replace ag:=eq_true ag;replace ah:=eq_true ah
        have ai:0≤(aa:Int):=zd
        have aj:aa<(l0.length:Int):=zd
        obtain⟨ao,ar,ay⟩:=tI al.out aa ai aj
        obtain rfl:af=ao:=(by injection ar)
        replace ai:=eq_true ai;replace aj:=eq_true aj
        go_wp2
        repeat(go_quiet (fail);try go_wp2)
        go_roundg k2
        case measure=>have:=av.out;have:=aw.out;omega
        case rel=>exact⟨(wrap64 (ab+1)),zt,H',⟨by have:=av.out;have:=aw.out;omega⟩,by repeat(first|exact Drawn0.refl _|apply Drawn0.step)⟩
       rw [if_neg c6] at H;have aK:=dF c6;clear c6;have H':=A0_ H;clear H
       go_wp2
       repeat(go_quiet (fail);try go_wp2)
       go_roundg k2
       case measure=>have:=av.out;have:=aw.out;omega
       case rel=>exact⟨(wrap64 (aa+1)),zt,H',⟨by have:=av.out;have:=aw.out;omega⟩,by repeat(first|exact Drawn0.refl _|apply Drawn0.step)⟩
    replace c5:=Bool.eq_false_iff.mpr c5;subst c5
    rw [if_neg (show ¬ (false=true) by decide)] at H
    obtain rfl:=sI H
    have ac:0≤(aa:Int):=zd
    have ae:aa<(l0.length:Int):=zd
    obtain⟨af,ap,am⟩:=tI al.out aa ac ae
    cases ap
    replace ac:=eq_true ac;replace ae:=eq_true ae
    go_wp2_with (first|(go_at_call 101;(with_reducible refine(s18_.calls (rd l0 aa) 0 (wrap64 ((l0.length:Int) - 1)) false _ A4.out).mono ?_);rintro e w' ⟨rfl,⟨nd,rfl⟩⟩;(try first|exact⟨rfl,_,World.drewN_drewN _ _ _⟩|exact⟨rfl,_,Eq.trans (World.drewN_drewN _ _ _) (congrArg (World.drewN _) (Nat.add_assoc _ _ _))⟩)))
    repeat(go_quiet (first|(go_at_call 101;(with_reducible refine(s18_.calls (rd l0 aa) 0 (wrap64 ((l0.length:Int) - 1)) false _ A4.out).mono ?_);rintro e w' ⟨rfl,⟨nd,rfl⟩⟩;(try first|exact⟨rfl,_,World.drewN_drewN _ _ _⟩|exact⟨rfl,_,Eq.trans (World.drewN_drewN _ _ _) (congrArg (World.drewN _) (Nat.add_assoc _ _ _))⟩)));try go_wp2_with (first|(go_at_call 101;(with_reducible refine(s18_.calls (rd l0 aa) 0 (wrap64 ((l0.length:Int) - 1)) false _ A4.out).mono ?_);rintro e w' ⟨rfl,⟨nd,rfl⟩⟩;(try first|exact⟨rfl,_,World.drewN_drewN _ _ _⟩|exact⟨rfl,_,Eq.trans (World.drewN_drewN _ _ _) (congrArg (World.drewN _) (Nat.add_assoc _ _ _))⟩))))
    go_ret
    exact⟨by first|rfl|(simp;done)|(simp [*];done),by repeat(first|exact Drawn0.refl _|apply Drawn0.step)⟩
   rw [if_neg c2] at H;have az:=dF c2;clear c2;obtain⟨au,aA,H⟩:=zbind H;obtain rfl:=sI H
   go_wp2_with (first|(go_at_call 101;(with_reducible refine(s18_.calls (l0.length:Int) 1 12 au _ aA.out).mono ?_);rintro e w' ⟨rfl,⟨nd,rfl⟩⟩;(try first|exact⟨rfl,_,World.drewN_drewN _ _ _⟩|exact⟨rfl,_,Eq.trans (World.drewN_drewN _ _ _) (congrArg (World.drewN _) (Nat.add_assoc _ _ _))⟩)))
   repeat(go_quiet (first|(go_at_call 101;(with_reducible refine(s18_.calls (l0.length:Int) 1 12 au _ aA.out).mono ?_);rintro e w' ⟨rfl,⟨nd,rfl⟩⟩;(try first|exact⟨rfl,_,World.drewN_drewN _ _ _⟩|exact⟨rfl,_,Eq.trans (World.drewN_drewN _ _ _) (congrArg (World.drewN _) (Nat.add_assoc _ _ _))⟩)));try go_wp2_with (first|(go_at_call 101;(with_reducible refine(s18_.calls (l0.length:Int) 1 12 au _ aA.out).mono ?_);rintro e w' ⟨rfl,⟨nd,rfl⟩⟩;(try first|exact⟨rfl,_,World.drewN_drewN _ _ _⟩|exact⟨rfl,_,Eq.trans (World.drewN_drewN _ _ _) (congrArg (World.drewN _) (Nat.add_assoc _ _ _))⟩))))
   go_ret
   exact⟨by first|rfl|(simp;done)|(simp [*];done),by repeat(first|exact Drawn0.refl _|apply Drawn0.step)⟩
def s11_.f (k:Nat) (l0:List Int) (l1:List Int):Option (Bool):=(sy_.f k l0).bind fun aa=>(if aa=true then ((sy_.f k l1).bind fun ab=>(if ab=true then (some ((l0.length:Int) == (l1.length:Int))) else (some false))) else (some false))
theorem s11_.calls (k:Nat) (A0:Option Addr) (c0:Nat) (l0:List Int) (A1:Option Addr) (c1:Nat) (l1:List Int) (r:Bool) (w:World) (ah:Kd.C (Kd.int .i64) w A0 l0.length l0) (ai:l0.length≤c0) (aj:Kd.C (Kd.int .i64) w A1 l1.length l1) (ak:l1.length≤c1) (h:s11_.f k l0 l1=some r) :
    Calls Try.prog 102 #[.slice A0 l0.length c0,.slice A1 l1.length c1] w fun e w'=>e = .returned (.bool r)∧Drawn0 w w':=by
 have af:=A0_ ah;have ag:=A0_ ai;clear ah ai;have al:=A0_ aj;have am:=A0_ ak;clear aj ak
 have H:((sy_.f k l0).bind fun ac=>(if ac=true then ((sy_.f k l1).bind fun ae=>(if ae=true then (some ((l0.length:Int) == (l1.length:Int))) else (some false))) else (some false)))=some r:=h
 clear h;obtain⟨ac,A3,H⟩:=zbind H
 by_cases c4:ac=true
 ·subst c4
  rw [if_pos rfl] at H;obtain⟨ae,A5,H⟩:=zbind H
  by_cases c6:ae=true
  ·subst c6
   rw [if_pos rfl] at H;obtain rfl:=sI H
   go_enter Try.func102,Try.ntmps102
   go_wp2_with (first|((with_reducible refine gC (f:=89) rfl ?_);refine zJ (some 6) Try.func89 #[.slice A0 l0.length c0] ?_;(with_reducible refine(sy_.calls k _ _ l0 true _ ?aa ?ab A3.out).mono ?_);(case aa=>repeat(first|exact af.out|(with_reducible refine cA ?_ _)|(with_reducible refine cN ?_ _)|(with_reducible refine cD ?_)));(case ab=>exact ag.out);rintro e w' ⟨rfl,⟨nd,rfl⟩⟩;refine⟨_,rfl,?_⟩)|(go_at_call 89;(with_reducible refine(sy_.calls k _ _ l1 true _ ?aa ?ab A5.out).mono ?_);(case aa=>repeat(first|exact al.out|(with_reducible refine cA ?_ _)|(with_reducible refine cN ?_ _)|(with_reducible refine cD ?_)));(case ab=>exact am.out);rintro e w' ⟨rfl,⟨nd,rfl⟩⟩))
   go_ret
   exact⟨by first|rfl|(simp;done)|(simp [*];done),by repeat(first|exact Drawn0.refl _|apply Drawn0.step)⟩
  replace c6:=Bool.eq_false_iff.mpr c6;subst c6
  rw [if_neg (show ¬ (false=true) by decide)] at H
  obtain rfl:=sI H
  go_enter Try.func102,Try.ntmps102
  go_wp2_with (first|((with_reducible refine gC (f:=89) rfl ?_);refine zJ (some 6) Try.func89 #[.slice A0 l0.length c0] ?_;(with_reducible refine(sy_.calls k _ _ l0 true _ ?aa ?ab A3.out).mono ?_);(case aa=>repeat(first|exact af.out|(with_reducible refine cA ?_ _)|(with_reducible refine cN ?_ _)|(with_reducible refine cD ?_)));(case ab=>exact ag.out);rintro e w' ⟨rfl,⟨nd,rfl⟩⟩;refine⟨_,rfl,?_⟩)|(go_at_call 89;(with_reducible refine(sy_.calls k _ _ l1 false _ ?aa ?ab A5.out).mono ?_);(case aa=>repeat(first|exact al.out|(with_reducible refine cA ?_ _)|(with_reducible refine cN ?_ _)|(with_reducible refine cD ?_)));(case ab=>exact am.out);rintro e w' ⟨rfl,⟨nd,rfl⟩⟩))
  go_ret
  exact⟨by first|rfl|(simp;done)|(simp [*];done),by repeat(first|exact Drawn0.refl _|apply Drawn0.step)⟩
 replace c4:=Bool.eq_false_iff.mpr c4;subst c4
 rw [if_neg (show ¬ (false=true) by decide)] at H
 obtain rfl:=sI H
 go_enter Try.func102,Try.ntmps102
 go_wp2_with (first|((with_reducible refine gC (f:=89) rfl ?_);refine zJ (some 6) Try.func89 #[.slice A0 l0.length c0] ?_;(with_reducible refine(sy_.calls k _ _ l0 false _ ?aa ?ab A3.out).mono ?_);(case aa=>repeat(first|exact af.out|(with_reducible refine cA ?_ _)|(with_reducible refine cN ?_ _)|(with_reducible refine cD ?_)));(case ab=>exact ag.out);rintro e w' ⟨rfl,⟨nd,rfl⟩⟩;refine⟨_,rfl,?_⟩))
 go_ret
 exact⟨by first|rfl|(simp;done)|(simp [*];done),by repeat(first|exact Drawn0.refl _|apply Drawn0.step)⟩
def s15_.l0:Nat→Int→List Int→Int→Option (List Int)
  | 0,_,_,_=>none
  | k+1,x0,x3,x4=>if x4<x0 then (if x3.length<17592186044416 then (s15_.l0 k x0 (x3 ++ [x4]) (wrap64 (x4+1))) else (none)) else (some x3)
def s15_.f (k:Nat) (a0:Int):Option (List Int):=s15_.l0 k a0 (([]:List Int)) 0
theorem s15_.calls (k:Nat) (a0:Int) (r:List Int) (w:World) (h:s15_.f k a0=some r) :
    Calls Try.prog 79 #[.int .i64 a0] w fun e w' => ∃ v0_:Value,e = .returned (v0_)∧Kd.R (Kd.int .i64) 3 w' w.heap.size (fun _=>True) v0_ r∧Below w.heap.size w w':=by
 have HB:=A0_ (Below.refl w.heap.size w)
 have H:(s15_.l0 k a0 (([]:List Int)) 0)=some r:=h
 clear h
 obtain⟨ai,ac⟩ : ∃ y_:List Int,y_=(([]:List Int)):=⟨_,rfl⟩
 replace H:(s15_.l0 k a0 ai 0)=some r:=zH ac H
 have ah:=A0_ ac;clear ac;have H':=A0_ H;clear H
 go_enter Try.func79,Try.ntmps79
 go_wp2_with (first|((with_reducible refine gD (N:=5) rfl ?_);refine Kd.R_lit (Kd.int .i64) _ 3 ?hg (N:=5) ?hd (xs:=([]:List Int)) (inner := []) (ok:=fun _=>True) (okp:=fun _=>True) ?hr ?hp (fun _ hk=>hk) trivial (Below.refl _ _) (Nat.le_refl _) (by simp) ?_;(case hd=>rfl);(case hg=>rfl);(case hr=>first|(go_simp;done)|(go_simp;rfl));(case hp=>exact(Reps.none _ _));intro aq w2 af hb hg_ hnew_;clear hg_ hnew_;(first|rw [← ah.out] at af|(simp only [Int.reduceToNat] at af;rw [← ah.out] at af));have ak:=A0_ (rL af (bZ (zB_ HB)));replace HB:=zB HB hb;clear hb af))
 go_loopg [3,4] k (fun kq v3 v4 w' => ∃ (ab:List Int) (aa:Int),v4 = .int .i64 aa∧Aside0 (s15_.l0 kq a0 ab aa=some r)∧Aside0 (kq≤k)∧Aside0 (Kd.R (Kd.int .i64) 3 w' w.heap.size (fun _=>True) v3 ab)∧Aside0 (Below w.heap.size w w'))
 case atStart=>exact⟨(ai),(0),zt,H',⟨Nat.le_refl _⟩,⟨zR_ ak⟩,⟨zB_ HB⟩⟩
 case round =>
  clear H';obtain⟨ab,aa,rfl,HA,an,ag,HB⟩:=hrel
  cases gk with
  | zero=>exact absurd HA.out (by simp [s15_.l0])
  | succ k1 =>
   have H:=HA.out;clear HA;simp only [s15_.l0] at H
   by_cases c4:aa<a0
   ·rw [if_pos c4] at H
    have ao:=dT c4;clear c4
    have c5:=zpc H;replace H:=zph H
    have ap:=A0_ c5;clear c5
    obtain⟨aj,ae⟩ : ∃ y_:List Int,y_=(ab ++ [aa]):=⟨_,rfl⟩
    replace H:(s15_.l0 k1 a0 aj (wrap64 (aa+1)))=some r:=zH ae H
    have al:=A0_ ae;clear ae;have H':=A0_ H;clear H
    go_wp2_with (first|((with_reducible refine gB (b := .append) (xs := #[.tmp 11,.tmp 13]) rfl ?_);at_builtin;refine Kd.R_append (Kd.int .i64) (w0:=w) w.heap.size rfl (.tmp 11) (.tmp 13) 23 3 (.int .i64 0) 8 rfl Try.underlying23 info3 rfl (by decide) (by omega) u3 ab aa [.int .i64 aa] (fun _=>True) (fun _=>False) rfl rfl ?aP (fun _ hk=>hk.elim) ?aF ?aO ?aB ?aS ?aL ?_;(case aP=>exact rfl);(case aB=>exact(zB_ HB));(case aF=>exact(fun _ _=>trivial));(case aO=>exact(zR_ ag));(case aS=>exact(bZ (zB_ HB)));(case aL=>have:=ap.out;omega);intro ar w6 ho hb hg hat;rw [← al.out] at ho;replace HB:=A0_ (hb);have am:=A0_ (ho);clear ag ho hb hg hat))
    go_roundg k1
    case measure=>have:=an.out;omega
    case rel=>exact⟨(aj),(wrap64 (aa+1)),zt,H',⟨by have:=an.out;omega⟩,⟨zR_ am⟩,⟨zB_ HB⟩⟩
   rw [if_neg c4] at H;have ao:=dF c4;clear c4;obtain rfl:=sI H
   go_wp2
   go_ret
   exact⟨_,by first|rfl|(simp [*] <;> rfl),zR_ ag,zB_ HB⟩
mutual
def s14_.l0:Nat→List Int→List Int→List Int→Int→Option (List Int)
  | 0,_,_,_,_=>none
  | k+1,x0,x1,x5,x6=>if x6<(x0.length:Int) then (s14_.l1 k x0 x1 x5 x6 0) else (some x5)
def s14_.l1:Nat→List Int→List Int→List Int→Int→Int→Option (List Int)
  | 0,_,_,_,_,_=>none
  | k+1,x0,x1,x5,x6,x7=>if x7<(x0.length:Int) then (if 0≤x7 then (if x7<(x5.length:Int) then (if 0≤(rd x0 x7) then (if (rd x0 x7)<(x5.length:Int) then (if x7<(x1.length:Int) then (if 0≤(rd x1 x7) then (if (rd x1 x7)<(x5.length:Int) then (s14_.l1 k x0 x1 (((x5.set (x7:Int).toNat (mn (rd x5 x7) (mn (rd x5 (rd x0 x7)) (rd x5 (rd x1 x7))))).set ((rd x0 x7):Int).toNat (mn (rd x5 x7) (mn (rd x5 (rd x0 x7)) (rd x5 (rd x1 x7))))).set ((rd x1 x7):Int).toNat (mn (rd x5 x7) (mn (rd x5 (rd x0 x7)) (rd x5 (rd x1 x7))))) x6 (wrap64 (x7+1))) else (none)) else (none)) else (none)) else (none)) else (none)) else (none)) else (none)) else (s14_.l0 k x0 x1 x5 (wrap64 (x6+1)))
end
def s14_.f (k:Nat) (l0:List Int) (l1:List Int):Option (List Int):=(s15_.f k (l0.length:Int)).bind fun aa=>(s14_.l0 k l0 l1 aa 0)
theorem s14_.calls (k:Nat) (A0:Option Addr) (c0:Nat) (l0:List Int) (A1:Option Addr) (c1:Nat) (l1:List Int) (r:List Int) (w:World) (bE:Kd.C (Kd.int .i64) w A0 l0.length l0) (bF:l0.length≤c0) (bG:Kd.C (Kd.int .i64) w A1 l1.length l1) (bH:l1.length≤c1) (h:s14_.f k l0 l1=some r) :
    Calls Try.prog 103 #[.slice A0 l0.length c0,.slice A1 l1.length c1] w fun e w' => ∃ v0_:Value,e = .returned (v0_)∧Kd.R (Kd.int .i64) 3 w' w.heap.size (fun _=>True) v0_ r∧Below w.heap.size w w':=by
 have bm:=A0_ bE;have b8:=A0_ bF;clear bE bF;have bn:=A0_ bG;have b9:=A0_ bH;clear bG bH
 have HB:=A0_ (Below.refl w.heap.size w)
 have H:((s15_.f k (l0.length:Int)).bind fun aE=>(s14_.l0 k l0 l1 aE 0))=some r:=h
 clear h;obtain⟨aE,A3,H⟩:=zbind H;have H':=A0_ H;clear H
 go_enter Try.func103,Try.ntmps103
 go_wp2_with (first|(go_at_call 79;(with_reducible refine(s15_.calls k (l0.length:Int) aE _ A3.out).mono ?_);rintro e w4 ⟨aT,rfl,aI,hb⟩;have aU:=A0_ (rL aI (bZ (zB_ HB)));replace HB:=zB HB hb;(try clear hb);(try clear aI)))
 repeat(go_quiet (first|(go_at_call 79;(with_reducible refine(s15_.calls k (l0.length:Int) aE _ A3.out).mono ?_);rintro e w4 ⟨aT,rfl,aI,hb⟩;have aU:=A0_ (rL aI (bZ (zB_ HB)));replace HB:=zB HB hb;(try clear hb);(try clear aI)));try go_wp2_with (first|(go_at_call 79;(with_reducible refine(s15_.calls k (l0.length:Int) aE _ A3.out).mono ?_);rintro e w4 ⟨aT,rfl,aI,hb⟩;have n0_:=A0_ (rL aI (bZ (zB_ HB)));have n1_:=zB HB hb;clear HB;have aU:=n0_;have HB:=n1_;clear n0_ n1_;(try clear hb);(try clear aI))))
 go_loopg [6] k (fun kq v6 w' => ∃ (aV:List Int) (am:Int),v6 = .int .i64 am∧Aside0 (s14_.l0 kq l0 l1 aV am=some r)∧Aside0 (kq≤k)∧Aside0 (Kd.R (Kd.int .i64) 3 w' w.heap.size (fun _=>True) aT aV)∧Aside0 (Below w.heap.size w w'))
 case atStart=>exact⟨(aE),(0),zt,H',⟨Nat.le_refl _⟩,⟨zR_ aU⟩,⟨zB_ HB⟩⟩
 case round =>
  clear H';(try clear c1);obtain⟨aV,am,rfl,HA,bo,ab,HB⟩:=hrel
  cases gk with
  | zero=>exact absurd HA.out (by simp [s14_.l0])
  | succ k1 =>
   have H:=HA.out;clear HA;simp only [s14_.l0] at H
   by_cases c5:am<(l0.length:Int)
   ·rw [if_pos c5] at H
    have bw:=dT c5;clear c5;have H':=A0_ H;clear H
    go_wp2
    repeat(go_quiet (fail);try go_wp2)
    go_loopg [7] k1 (fun kq v7 w' => ∃ (ac:List Int) (aa:Int),v7 = .int .i64 aa∧Aside0 (s14_.l1 kq l0 l1 ac am aa=some r)∧Aside0 (kq≤k1)∧Aside0 (Kd.R (Kd.int .i64) 3 w' w.heap.size (fun _=>True) aT ac)∧Aside0 (Below w.heap.size w w'))
    case atStart=>exact⟨(aV),(0),zt,H',⟨Nat.le_refl _⟩,⟨zR_ ab⟩,⟨zB_ HB⟩⟩
    case round =>
     clear H';(try clear c1);(try clear c5);(try clear bw);obtain⟨ac,aa,rfl,HA,bp,ab,HB⟩:=hrel
     cases gk with
     | zero=>exact absurd HA.out (by simp [s14_.l1])
     | succ k2 =>
      have H:=HA.out;clear HA;simp only [s14_.l1] at H
      by_cases c6:aa<(l0.length:Int)
      ·rw [if_pos c6] at H
       have bM:=dT c6;clear c6
       have c7:=zpc H;replace H:=zph H
       have b3:=dT c7;clear c7
       have c8:=zpc H;replace H:=zph H
       have b4:=dT c8;clear c8
       have c9:=zpc H;replace H:=zph H
       have b5:=dT c9;clear c9
       have bI:=zpc H;replace H:=zph H
       have bW:=dT bI;clear bI
       have bJ:=zpc H;replace H:=zph H
       have bX:=dT bJ;clear bJ
       have bK:=zpc H;replace H:=zph H
       have bY:=dT bK;clear bK
       have bL:=zpc H;replace H:=zph H
       have b2:=dT bL;clear bL
       obtain⟨aA,ai⟩ : ∃ j_:Int,(mn (rd ac (rd l0 aa)) (rd ac (rd l1 aa)))=j_:=⟨_,rfl⟩
       replace H:(s14_.l1 k2 l0 l1 (((ac.set (aa:Int).toNat (mn (rd ac aa) (aA))).set ((rd l0 aa):Int).toNat (mn (rd ac aa) (aA))).set ((rd l1 aa):Int).toNat (mn (rd ac aa) (aA))) am (wrap64 (aa+1)))=some r:=by first|(rw [ai] at H;exact H)|(simp only [ai] at H ⊢;exact H)
       have hji14_:(if (rd ac (rd l1 aa))<(rd ac (rd l0 aa)) then (rd ac (rd l1 aa)) else (rd ac (rd l0 aa)))=aA:=ai
       obtain⟨ae,aj⟩ : ∃ j_:Int,(mn (rd ac aa) (aA))=j_:=⟨_,rfl⟩
       replace H:(s14_.l1 k2 l0 l1 (((ac.set (aa:Int).toNat (ae)).set ((rd l0 aa):Int).toNat (ae)).set ((rd l1 aa):Int).toNat (ae)) am (wrap64 (aa+1)))=some r:=by first|(rw [aj] at H;exact H)|(simp only [aj] at H ⊢;exact H)
       have hji15_:(if (aA)<(rd ac aa) then (aA) else (rd ac aa))=ae:=aj
       obtain⟨aJ,aW⟩ : ∃ y_:List Int,y_=(ac.set (aa:Int).toNat (ae)):=⟨_,rfl⟩
       replace H:(s14_.l1 k2 l0 l1 ((aJ.set ((rd l0 aa):Int).toNat (ae)).set ((rd l1 aa):Int).toNat (ae)) am (wrap64 (aa+1)))=some r:=zH aW H
       have aX:=A0_ aW;clear aW
       obtain⟨aK,aY⟩ : ∃ y_:List Int,y_=(aJ.set ((rd l0 aa):Int).toNat (ae)):=⟨_,rfl⟩
       replace H:(s14_.l1 k2 l0 l1 (aK.set ((rd l1 aa):Int).toNat (ae)) am (wrap64 (aa+1)))=some r:=zH aY H
       have aZ:=A0_ aY;clear aY
       obtain⟨aM,a4⟩ : ∃ y_:List Int,y_=(aK.set ((rd l1 aa):Int).toNat (ae)):=⟨_,rfl⟩
       replace H:(s14_.l1 k2 l0 l1 aM am (wrap64 (aa+1)))=some r:=zH a4 H
       have a5:=A0_ a4;clear a4;have H':=A0_ H;clear H;obtain⟨b6,ar,bO⟩:=rS ab.out;subst bO
       have bc:0≤(aa:Int):=zd
       have bd:aa<(ac.length:Int):=zd
       obtain⟨bq,bP,br⟩:=tI (rR ab.out).2.2 aa bc bd
       cases bP
       replace bc:=eq_true bc;replace bd:=eq_true bd
       have be:0≤(aa:Int):=zd
       have bf:aa<(l0.length:Int):=zd
       obtain⟨a6,bQ,aG⟩:=tI bm.out aa be bf
       cases bQ
       try replace aG:=(HB.out.cell (wL w _ aG)).trans aG
       replace be:=eq_true be;replace bf:=eq_true bf
       have bg:0≤((rd l0 aa):Int):=zd
       have bh:(rd l0 aa)<(ac.length:Int):=zd
       obtain⟨bB,bR,bu⟩:=tI (rR ab.out).2.2 (rd l0 aa) bg bh
       obtain rfl:bq=bB:=(by injection bR)
       replace bg:=eq_true bg;replace bh:=eq_true bh
       have bi:0≤(aa:Int):=zd
       have bj:aa<(l1.length:Int):=zd
       obtain⟨a7,bU,aH⟩:=tI bn.out aa bi bj
       cases bU
       try replace aH:=(HB.out.cell (wL w _ aH)).trans aH
       replace bi:=eq_true bi;replace bj:=eq_true bj
       have bk:0≤((rd l1 aa):Int):=zd
       have bl:(rd l1 aa)<(ac.length:Int):=zd
       obtain⟨bC,bV,bv⟩:=tI (rR ab.out).2.2 (rd l1 aa) bk bl
       obtain rfl:bq=bC:=(by injection bV)
       replace bk:=eq_true bk;replace bl:=eq_true bl
       have au:0≤(aa:Int):=zd
       have av:(aa:Int)<((ac.length:Int):Int):=zd
       obtain⟨af,b7,bx,bz,gl16,cl16,HG16⟩:=Kd.R_form ab.out (by omega)
       (first|cases bx|(injection bx with ea_ en_ ec_;(first|subst ea_|(injection ea_ with ea_;subst ea_));subst ec_;clear en_))
       have GB16:=A0_ bz;have GG16:=A0_ HG16;clear bz gl16 HG16
       (first|simp only [add_plain] at br|skip)
       (first|simp only [add_plain] at bu|skip)
       (first|simp only [add_plain] at bv|skip)
       obtain⟨ak,al⟩:=Kd.R_celln 0 ab.out (aa:Int) au av
       replace au:=eq_true au;replace av:=eq_true av
       have HP20:=Kd.R_putg ab.out (aa:Int) ae
       go_wp2_with (first|((with_reducible refine gS (t:=3) (p:=47) rfl ?_);(try(rw [drewN_self wr];generalize hq_:World.drewN wr _=wr;have n0_:=A0_ (Kd.R_at hq_ ab.out);have n1_:=A0_ (below_at hq_ HB.out);clear hq_ ab HB;have ab:=n0_;have HB:=n1_;clear n0_ n1_;(try(obtain⟨ak,al⟩:=Kd.R_celln 0 ab.out (aa:Int) (of_eq_true au) (of_eq_true av)));(try(have HP20:=Kd.R_putg ab.out (aa:Int) ae))));refine store_event (t:=3) (p:=47) (v := ?vo_w21) (w1:=(wr.setCell ⟨af,(aa:Int).toNat,none⟩ (.int .i64 ae))) ?hg ?ho ?hn ?hr ?_;(case ho=>rfl);(case hg=>rfl);(case hn=>rfl);(case hr=>first|(go_simp;done)|(go_simp;rfl)|(go_simp;congr 2;rw [← ai];unfold mn;omega)|(go_simp;congr 2;rw [← aj];unfold mn;omega));intro w21 hw;have hg:wr.grownBy w21 (some af):=(by rw [hw];exact HP20.2);have hp_:Kd.R (Kd.int .i64) 3 w21 w.heap.size (fun _=>True) (.slice (some ⟨af,0,none⟩) ac.length ar) aJ:=(by rw [hw,aX.out];exact HP20.1);clear HP20;replace ab:=A0_ (hp_);replace HB:=A0_ ((by rw [hw];exact bS (HB.out) GB16.out:Below w.heap.size w w21));clear hg hw hp_;have an:0≤(aa:Int):=zd;have ao:aa<(l0.length:Int):=zd;obtain⟨aC,aN,ag⟩:=tI bm.out aa an ao;obtain rfl:a6=aC:=(by injection aN);try replace ag:=(HB.out.cell (wL w _ ag)).trans ag;replace an:=eq_true an;replace ao:=eq_true ao;have aw:0≤((rd l0 aa):Int):=zd;have ax:((rd l0 aa):Int)<((ac.length:Int):Int):=zd;obtain⟨a8,a9⟩:=Kd.R_celln 0 ab.out ((rd l0 aa):Int) aw ax;replace aw:=eq_true aw;replace ax:=eq_true ax;obtain⟨hy22_,hz22_⟩:=Kd.R_celln 0 ab.out ((rd l0 aa):Int) (zd) (zd);have HP22:=Kd.R_putg ab.out ((rd l0 aa):Int) ae)|((with_reducible refine gS (t:=3) (p:=54) rfl ?_);(try(rw [drewN_self w21];generalize hq_:World.drewN w21 _=w21;have n0_:=A0_ (Kd.R_at hq_ ab.out);have n1_:=A0_ (below_at hq_ HB.out);clear hq_ ab HB;have ab:=n0_;have HB:=n1_;clear n0_ n1_;(try(obtain⟨ak,al⟩:=Kd.R_celln 0 ab.out (aa:Int) (of_eq_true au) (of_eq_true av)));(try(obtain⟨hy22_,hz22_⟩:=Kd.R_celln 0 ab.out ((rd l0 aa):Int) (zd) (zd)));(try(have HP22:=Kd.R_putg ab.out ((rd l0 aa):Int) ae))));refine store_event (t:=3) (p:=54) (v := ?vo_w23) (w1:=(w21.setCell ⟨af,((rd l0 aa):Int).toNat,none⟩ (.int .i64 ae))) ?hg ?ho ?hn ?hr ?_;(case ho=>rfl);(case hg=>rfl);(case hn=>rfl);(case hr=>first|(go_simp;done)|(go_simp;rfl)|(go_simp;congr 2;rw [← ai];unfold mn;omega)|(go_simp;congr 2;rw [← aj];unfold mn;omega));intro w23 hw;have hg:w21.grownBy w23 (some af):=(by rw [hw];exact HP22.2);have hp_:Kd.R (Kd.int .i64) 3 w23 w.heap.size (fun _=>True) (.slice (some ⟨af,0,none⟩) ac.length ar) aK:=(by rw [hw,aZ.out];exact HP22.1);clear HP22;replace ab:=A0_ (hp_);replace HB:=A0_ ((by rw [hw];exact bS (HB.out) GB16.out:Below w.heap.size w w23));clear hg hw hp_;have ap:0≤(aa:Int):=zd;have aq:aa<(l1.length:Int):=zd;obtain⟨aD,aQ,ah⟩:=tI bn.out aa ap aq;obtain rfl:a7=aD:=(by injection aQ);try replace ah:=(HB.out.cell (wL w _ ah)).trans ah;replace ap:=eq_true ap;replace aq:=eq_true aq;have ay:0≤((rd l1 aa):Int):=zd;have az:((rd l1 aa):Int)<((ac.length:Int):Int):=zd;obtain⟨ba,bb⟩:=Kd.R_celln 0 ab.out ((rd l1 aa):Int) ay az;replace ay:=eq_true ay;replace az:=eq_true az;obtain⟨hy24_,hz24_⟩:=Kd.R_celln 0 ab.out ((rd l1 aa):Int) (zd) (zd);have HP24:=Kd.R_putg ab.out ((rd l1 aa):Int) ae)|((with_reducible refine gS (t:=3) (p:=61) rfl ?_);(try(rw [drewN_self w23];generalize hq_:World.drewN w23 _=w23;have n0_:=A0_ (Kd.R_at hq_ ab.out);have n1_:=A0_ (below_at hq_ HB.out);clear hq_ ab HB;have ab:=n0_;have HB:=n1_;clear n0_ n1_;(try(obtain⟨ak,al⟩:=Kd.R_celln 0 ab.out (aa:Int) (of_eq_true au) (of_eq_true av)));(try(obtain⟨hy24_,hz24_⟩:=Kd.R_celln 0 ab.out ((rd l1 aa):Int) (zd) (zd)));(try(have HP24:=Kd.R_putg ab.out ((rd l1 aa):Int) ae))));refine store_event (t:=3) (p:=61) (v := ?vo_w25) (w1:=(w23.setCell ⟨af,((rd l1 aa):Int).toNat,none⟩ (.int .i64 ae))) ?hg ?ho ?hn ?hr ?_;(case ho=>rfl);(case hg=>rfl);(case hn=>rfl);(case hr=>first|(go_simp;done)|(go_simp;rfl)|(go_simp;congr 2;rw [← ai];unfold mn;omega)|(go_simp;congr 2;rw [← aj];unfold mn;omega));intro w25 hw;have hg:w23.grownBy w25 (some af):=(by rw [hw];exact HP24.2);have hp_:Kd.R (Kd.int .i64) 3 w25 w.heap.size (fun _=>True) (.slice (some ⟨af,0,none⟩) ac.length ar) aM:=(by rw [hw,a5.out];exact HP24.1);clear HP24;replace ab:=A0_ (hp_);replace HB:=A0_ ((by rw [hw];exact bS (HB.out) GB16.out:Below w.heap.size w w25));clear hg hw hp_))
       repeat(go_quiet (first|((with_reducible refine gS (t:=3) (p:=47) rfl ?_);(try(rw [drewN_self wr];generalize hq_:World.drewN wr _=wr;have n0_:=A0_ (Kd.R_at hq_ ab.out);have n1_:=A0_ (below_at hq_ HB.out);clear hq_ ab HB;have ab:=n0_;have HB:=n1_;clear n0_ n1_;(try(obtain⟨ak,al⟩:=Kd.R_celln 0 ab.out (aa:Int) (of_eq_true au) (of_eq_true av)));(try(have HP20:=Kd.R_putg ab.out (aa:Int) ae))));refine store_event (t:=3) (p:=47) (v := ?vo_w21) (w1:=(wr.setCell ⟨af,(aa:Int).toNat,none⟩ (.int .i64 ae))) ?hg ?ho ?hn ?hr ?_;(case ho=>rfl);(case hg=>rfl);(case hn=>rfl);(case hr=>first|(go_simp;done)|(go_simp;rfl)|(go_simp;congr 2;rw [← ai];unfold mn;omega)|(go_simp;congr 2;rw [← aj];unfold mn;omega));intro w21 hw;have hg:wr.grownBy w21 (some af):=(by rw [hw];exact HP20.2);have hp_:Kd.R (Kd.int .i64) 3 w21 w.heap.size (fun _=>True) (.slice (some ⟨af,0,none⟩) ac.length ar) aJ:=(by rw [hw,aX.out];exact HP20.1);clear HP20;replace ab:=A0_ (hp_);replace HB:=A0_ ((by rw [hw];exact bS (HB.out) GB16.out:Below w.heap.size w w21));clear hg hw hp_;have an:0≤(aa:Int):=zd;have ao:aa<(l0.length:Int):=zd;obtain⟨aC,aN,ag⟩:=tI bm.out aa an ao;obtain rfl:a6=aC:=(by injection aN);try replace ag:=(HB.out.cell (wL w _ ag)).trans ag;replace an:=eq_true an;replace ao:=eq_true ao;have aw:0≤((rd l0 aa):Int):=zd;have ax:((rd l0 aa):Int)<((ac.length:Int):Int):=zd;obtain⟨a8,a9⟩:=Kd.R_celln 0 ab.out ((rd l0 aa):Int) aw ax;replace aw:=eq_true aw;replace ax:=eq_true ax;obtain⟨hy22_,hz22_⟩:=Kd.R_celln 0 ab.out ((rd l0 aa):Int) (zd) (zd);have HP22:=Kd.R_putg ab.out ((rd l0 aa):Int) ae)|((with_reducible refine gS (t:=3) (p:=54) rfl ?_);(try(rw [drewN_self w21];generalize hq_:World.drewN w21 _=w21;have n0_:=A0_ (Kd.R_at hq_ ab.out);have n1_:=A0_ (below_at hq_ HB.out);clear hq_ ab HB;have ab:=n0_;have HB:=n1_;clear n0_ n1_;(try(obtain⟨ak,al⟩:=Kd.R_celln 0 ab.out (aa:Int) (of_eq_true au) (of_eq_true av)));(try(obtain⟨hy22_,hz22_⟩:=Kd.R_celln 0 ab.out ((rd l0 aa):Int) (zd) (zd)));(try(have HP22:=Kd.R_putg ab.out ((rd l0 aa):Int) ae))));refine store_event (t:=3) (p:=54) (v := ?vo_w23) (w1:=(w21.setCell ⟨af,((rd l0 aa):Int).toNat,none⟩ (.int .i64 ae))) ?hg ?ho ?hn ?hr ?_;(case ho=>rfl);(case hg=>rfl);(case hn=>rfl);(case hr=>first|(go_simp;done)|(go_simp;rfl)|(go_simp;congr 2;rw [← ai];unfold mn;omega)|(go_simp;congr 2;rw [← aj];unfold mn;omega));intro w23 hw;have hg:w21.grownBy w23 (some af):=(by rw [hw];exact HP22.2);have hp_:Kd.R (Kd.int .i64) 3 w23 w.heap.size (fun _=>True) (.slice (some ⟨af,0,none⟩) ac.length ar) aK:=(by rw [hw,aZ.out];exact HP22.1);clear HP22;replace ab:=A0_ (hp_);replace HB:=A0_ ((by rw [hw];exact bS (HB.out) GB16.out:Below w.heap.size w w23));clear hg hw hp_;have ap:0≤(aa:Int):=zd;have aq:aa<(l1.length:Int):=zd;obtain⟨aD,aQ,ah⟩:=tI bn.out aa ap aq;obtain rfl:a7=aD:=(by injection aQ);try replace ah:=(HB.out.cell (wL w _ ah)).trans ah;replace ap:=eq_true ap;replace aq:=eq_true aq;have ay:0≤((rd l1 aa):Int):=zd;have az:((rd l1 aa):Int)<((ac.length:Int):Int):=zd;obtain⟨ba,bb⟩:=Kd.R_celln 0 ab.out ((rd l1 aa):Int) ay az;replace ay:=eq_true ay;replace az:=eq_true az;obtain⟨hy24_,hz24_⟩:=Kd.R_celln 0 ab.out ((rd l1 aa):Int) (zd) (zd);have HP24:=Kd.R_putg ab.out ((rd l1 aa):Int) ae)|((with_reducible refine gS (t:=3) (p:=61) rfl ?_);(try(rw [drewN_self w23];generalize hq_:World.drewN w23 _=w23;have n0_:=A0_ (Kd.R_at hq_ ab.out);have n1_:=A0_ (below_at hq_ HB.out);clear hq_ ab HB;have ab:=n0_;have HB:=n1_;clear n0_ n1_;(try(obtain⟨ak,al⟩:=Kd.R_celln 0 ab.out (aa:Int) (of_eq_true au) (of_eq_true av)));(try(obtain⟨hy24_,hz24_⟩:=Kd.R_celln 0 ab.out ((rd l1 aa):Int) (zd) (zd)));(try(have HP24:=Kd.R_putg ab.out ((rd l1 aa):Int) ae))));refine store_event (t:=3) (p:=61) (v := ?vo_w25) (w1:=(w23.setCell ⟨af,((rd l1 aa):Int).toNat,none⟩ (.int .i64 ae))) ?hg ?ho ?hn ?hr ?_;(case ho=>rfl);(case hg=>rfl);(case hn=>rfl);(case hr=>first|(go_simp;done)|(go_simp;rfl)|(go_simp;congr 2;rw [← ai];unfold mn;omega)|(go_simp;congr 2;rw [← aj];unfold mn;omega));intro w25 hw;have hg:w23.grownBy w25 (some af):=(by rw [hw];exact HP24.2);have hp_:Kd.R (Kd.int .i64) 3 w25 w.heap.size (fun _=>True) (.slice (some ⟨af,0,none⟩) ac.length ar) aM:=(by rw [hw,a5.out];exact HP24.1);clear HP24;replace ab:=A0_ (hp_);replace HB:=A0_ ((by rw [hw];exact bS (HB.out) GB16.out:Below w.heap.size w w25));clear hg hw hp_));try go_wp2_with (first|((with_reducible refine gS (t:=3) (p:=47) rfl ?_);(try(rw [drewN_self wr];generalize hq_:World.drewN wr _=wr;have n0_:=A0_ (Kd.R_at hq_ ab.out);have n1_:=A0_ (below_at hq_ HB.out);clear hq_ ab HB;have ab:=n0_;have HB:=n1_;clear n0_ n1_;(try(obtain⟨ak,al⟩:=Kd.R_celln 0 ab.out (aa:Int) (of_eq_true au) (of_eq_true av)));(try(have HP20:=Kd.R_putg ab.out (aa:Int) ae))));refine store_event (t:=3) (p:=47) (v := ?vo_w21) (w1:=(wr.setCell ⟨af,(aa:Int).toNat,none⟩ (.int .i64 ae))) ?hg ?ho ?hn ?hr ?_;(case ho=>rfl);(case hg=>rfl);(case hn=>rfl);(case hr=>first|(go_simp;done)|(go_simp;rfl)|(go_simp;congr 2;rw [← ai];unfold mn;omega)|(go_simp;congr 2;rw [← aj];unfold mn;omega));intro w21 hw;have hg:wr.grownBy w21 (some af):=(by rw [hw];exact HP20.2);have hp_:Kd.R (Kd.int .i64) 3 w21 w.heap.size (fun _=>True) (.slice (some ⟨af,0,none⟩) ac.length ar) aJ:=(by rw [hw,aX.out];exact HP20.1);clear HP20;have n0_:=A0_ (hp_);have n1_:=A0_ ((by rw [hw];exact bS (HB.out) GB16.out:Below w.heap.size w w21));clear ab HB;have ab:=n0_;have HB:=n1_;clear n0_ n1_ hg hw hp_;have an:0≤(aa:Int):=zd;have ao:aa<(l0.length:Int):=zd;obtain⟨aC,aN,ag⟩:=tI bm.out aa an ao;obtain rfl:a6=aC:=(by injection aN);try replace ag:=(HB.out.cell (wL w _ ag)).trans ag;replace an:=eq_true an;replace ao:=eq_true ao;have aw:0≤((rd l0 aa):Int):=zd;have ax:((rd l0 aa):Int)<((ac.length:Int):Int):=zd;obtain⟨a8,a9⟩:=Kd.R_celln 0 ab.out ((rd l0 aa):Int) aw ax;replace aw:=eq_true aw;replace ax:=eq_true ax;obtain⟨hy22_,hz22_⟩:=Kd.R_celln 0 ab.out ((rd l0 aa):Int) (zd) (zd);have HP22:=Kd.R_putg ab.out ((rd l0 aa):Int) ae)|((with_reducible refine gS (t:=3) (p:=54) rfl ?_);(try(rw [drewN_self w21];generalize hq_:World.drewN w21 _=w21;have n0_:=A0_ (Kd.R_at hq_ ab.out);have n1_:=A0_ (below_at hq_ HB.out);clear hq_ ab HB;have ab:=n0_;have HB:=n1_;clear n0_ n1_;(try(obtain⟨ak,al⟩:=Kd.R_celln 0 ab.out (aa:Int) (of_eq_true au) (of_eq_true av)));(try(obtain⟨hy22_,hz22_⟩:=Kd.R_celln 0 ab.out ((rd l0 aa):Int) (zd) (zd)));(try(have HP22:=Kd.R_putg ab.out ((rd l0 aa):Int) ae))));refine store_event (t:=3) (p:=54) (v := ?vo_w23) (w1:=(w21.setCell ⟨af,((rd l0 aa):Int).toNat,none⟩ (.int .i64 ae))) ?hg ?ho ?hn ?hr ?_;(case ho=>rfl);(case hg=>rfl);(case hn=>rfl);(case hr=>first|(go_simp;done)|(go_simp;rfl)|(go_simp;congr 2;rw [← ai];unfold mn;omega)|(go_simp;congr 2;rw [← aj];unfold mn;omega));intro w23 hw;have hg:w21.grownBy w23 (some af):=(by rw [hw];exact HP22.2);have hp_:Kd.R (Kd.int .i64) 3 w23 w.heap.size (fun _=>True) (.slice (some ⟨af,0,none⟩) ac.length ar) aK:=(by rw [hw,aZ.out];exact HP22.1);clear HP22;have n0_:=A0_ (hp_);have n1_:=A0_ ((by rw [hw];exact bS (HB.out) GB16.out:Below w.heap.size w w23));clear ab HB;have ab:=n0_;have HB:=n1_;clear n0_ n1_ hg hw hp_;have ap:0≤(aa:Int):=zd;have aq:aa<(l1.length:Int):=zd;obtain⟨aD,aQ,ah⟩:=tI bn.out aa ap aq;obtain rfl:a7=aD:=(by injection aQ);try replace ah:=(HB.out.cell (wL w _ ah)).trans ah;replace ap:=eq_true ap;replace aq:=eq_true aq;have ay:0≤((rd l1 aa):Int):=zd;have az:((rd l1 aa):Int)<((ac.length:Int):Int):=zd;obtain⟨ba,bb⟩:=Kd.R_celln 0 ab.out ((rd l1 aa):Int) ay az;replace ay:=eq_true ay;replace az:=eq_true az;obtain⟨hy24_,hz24_⟩:=Kd.R_celln 0 ab.out ((rd l1 aa):Int) (zd) (zd);have HP24:=Kd.R_putg ab.out ((rd l1 aa):Int) ae)|((with_reducible refine gS (t:=3) (p:=61) rfl ?_);(try(rw [drewN_self w23];generalize hq_:World.drewN w23 _=w23;have n0_:=A0_ (Kd.R_at hq_ ab.out);have n1_:=A0_ (below_at hq_ HB.out);clear hq_ ab HB;have ab:=n0_;have HB:=n1_;clear n0_ n1_;(try(obtain⟨ak,al⟩:=Kd.R_celln 0 ab.out (aa:Int) (of_eq_true au) (of_eq_true av)));(try(obtain⟨hy24_,hz24_⟩:=Kd.R_celln 0 ab.out ((rd l1 aa):Int) (zd) (zd)));(try(have HP24:=Kd.R_putg ab.out ((rd l1 aa):Int) ae))));refine store_event (t:=3) (p:=61) (v := ?vo_w25) (w1:=(w23.setCell ⟨af,((rd l1 aa):Int).toNat,none⟩ (.int .i64 ae))) ?hg ?ho ?hn ?hr ?_;(case ho=>rfl);(case hg=>rfl);(case hn=>rfl);(case hr=>first|(go_simp;done)|(go_simp;rfl)|(go_simp;congr 2;rw [← ai];unfold mn;omega)|(go_simp;congr 2;rw [← aj];unfold mn;omega));intro w25 hw;have hg:w23.grownBy w25 (some af):=(by rw [hw];exact HP24.2);have hp_:Kd.R (Kd.int .i64) 3 w25 w.heap.size (fun _=>True) (.slice (some ⟨af,0,none⟩) ac.length ar) aM:=(by rw [hw,a5.out];exact HP24.1);clear HP24;have n0_:=A0_ (hp_);have n1_:=A0_ ((by rw [hw];exact bS (HB.out) GB16.out:Below w.heap.size w w25));clear ab HB;have ab:=n0_;have HB:=n1_;clear n0_ n1_ hg hw hp_)))
       go_roundg k2
       case measure=>have:=bo.out;have:=bp.out;omega
       case rel=>exact⟨(aM),(wrap64 (aa+1)),zt,H',⟨by have:=bo.out;have:=bp.out;omega⟩,⟨zR_ ab⟩,⟨zB_ HB⟩⟩
      rw [if_neg c6] at H;have bM:=dF c6;clear c6;have H':=A0_ H;clear H
      go_wp2
      repeat(go_quiet (fail);try go_wp2)
      go_roundg k2
      case measure=>have:=bo.out;have:=bp.out;omega
      case rel=>exact⟨(ac),(wrap64 (am+1)),zt,H',⟨by have:=bo.out;have:=bp.out;omega⟩,⟨zR_ ab⟩,⟨zB_ HB⟩⟩
   rw [if_neg c5] at H;have bw:=dF c5;clear c5;obtain rfl:=sI H
   go_wp2
   repeat(go_quiet (fail);try go_wp2)
   go_ret
   exact⟨_,by first|rfl|(simp [*] <;> rfl),zR_ ab,zB_ HB⟩
end Go.Proofs.Ytmegggomhjgehaa.PFnCoverConj
