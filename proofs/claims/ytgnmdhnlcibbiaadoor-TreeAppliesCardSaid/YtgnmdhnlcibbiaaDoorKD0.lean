import Derived.Test.YtgnmdhnlcibbiaaDoorKA0
set_option maxHeartbeats 8000000
set_option maxRecDepth 100000
section
namespace Go.Proofs.PrintWords
open Go.RowKit
namespace Kd
section
variable {P : Program} {ops : Array Oper} {rest : List Oper} {o : Oper} {a : Act} {Q : Exit → Act → World → Prop} {Kc : Act → World → Prop}
variable {α : Type}
theorem room_run {W : World} {t e : TypeId} {x y : Operand} (ho : o.op = .makeSlice t x y) {n : Int} (hx : a.eval x = .int .i64 0) (hy : a.eval y = .int .i64 n) (ht : P.underlying t = some (.slice e)) {z : Value} {sz bytes : Nat}
  (hinfo : (P.info? e).map (fun i => (i.zero,i.size,i.bytes)) = some (some z,sz,bytes)) (hb0 : 0 < bytes) (h0 : 0 ≤ n) (hl : n.toNat * bytes ≤ 281474976710656) :
  (execOp a.eval o).run P W = .ok (.value (.slice (some ⟨W.heap.size,0,none⟩) 0 n.toNat)) (W.alloc (.cells (madeCells z.cells (n.toNat * sz)) e)) := by
 obtain ⟨m,rfl⟩ := Int.eq_ofNat_of_zero_le h0
 simp only [Int.toNat_natCast] at hl ⊢
 obtain ⟨i0,hi,hzz⟩ := Option.map_eq_some_iff.1 hinfo
 simp only [Prod.mk.injEq] at hzz
 obtain ⟨hz0,hz1,hz2⟩ := hzz
 have hm : m ≤ 281474976710656 := Nat.le_trans (Nat.le_mul_of_pos_right _ hb0) hl
 have hr := run_make (P := P) W t e i0 z ht hi hz0 .i64 .i64 0 (m : Int) (by omega) (by omega)
  (by
   have h3 : ((i0.bytes * m : Nat) : Int) ≤ 281474976710656 := by rw [hz2,Nat.mul_comm];omega
   rwa [Int.natCast_mul] at h3) (by omega)
 simp only [Int.toNat_natCast] at hr
 rw [hz1] at hr
 simp [execOp,ho,hx,hy,hr]
theorem room_R (d : Kd α) {W : World} (base e : Nat) {ok : Nat → Prop} (z : Array Value) (n bytes : Nat) (hb0 : 0 < bytes) (hfresh : ok W.heap.size) (hbase : base ≤ W.heap.size) (hl : n * bytes ≤ 281474976710656) :
  d.R e (W.alloc (.cells (madeCells z (n * d.sz)) e)) base ok (.slice (some ⟨W.heap.size,0,none⟩) 0 n) ([] : List α) := by
 have hm : n ≤ 281474976710656 := Nat.le_trans (Nat.le_mul_of_pos_right _ hb0) hl
 refine ⟨fun k hk => ?_,[],⟨by simp,.inr ⟨W.heap.size,n,madeCells z (n * d.sz),rfl,hbase,by unfold World.alloc;simp,Nat.zero_le _,by simp only [maxLen];omega,size_madeCells _ _,by simp⟩⟩,Reps.none _ _⟩
 have : W.heap.size = k := by simpa [Value.ownBlock] using hk
 subst this
 exact hfresh
theorem R_makecap (d : Kd α) {w0 W : World} (base e : Nat) (hgd : o.guard = none) {N : Tmp} (_hd : o.dst = some N) (t : TypeId) (x y : Operand) (ho : o.op = .makeSlice t x y) (n : Int) (hx : a.eval x = .int .i64 0) (hy : a.eval y = .int .i64 n)
  (ht : P.underlying t = some (.slice e)) (z : Value) (bytes : Nat) (hinfo : (P.info? e).map (fun i => (i.zero,i.size,i.bytes)) = some (some z,d.sz,bytes)) (_hz : z.cells.size = d.sz) (_hs0 : 0 < d.sz) (hb0 : 0 < bytes)
  (_z0 : α) {ok okp : Nat → Prop} {Zp : Prop} (_hzero : Zp) (_hok : ∀ k,okp k → ok k) (hfresh : ok W.heap.size) (h0 : 0 ≤ n) (hl : n.toNat * bytes ≤ 281474976710656) (HB : Below base w0 W) (hbase : base ≤ W.heap.size)
  (h : ∀ v1 w1,d.R e w1 base ok v1 ([] : List α) → Below base w0 w1 → W.grownBy w1 none → (∃ b,v1.ownBlock = some b ∧ W.heap.size ≤ b) → wpList P ops Q rest (a.put o.dst v1) w1) : wpList P ops Q (o :: rest) a W :=
 event_run hgd (room_run ho hx hy ht hinfo hb0 h0 hl) (h _ _ (room_R d base e _ _ bytes hb0 hfresh hbase hl) (HB.alloc hbase _) (World.grownBy_alloc W _ none) ⟨W.heap.size,by simp [Value.ownBlock],Nat.le_refl _⟩)
theorem N_makecap (d : Kd α) {w0 W : World} (base e : Nat) (hgd : o.guard = none) {N' : Tmp} (hd : o.dst = some N') (t : TypeId) (x y : Operand) (ho : o.op = .makeSlice t x y) (n : Int) (hx : a.eval x = .int .i64 0) (hy : a.eval y = .int .i64 n)
  (ht : P.underlying t = some (.slice e)) (z : Value) (bytes : Nat) (hinfo : (P.info? e).map (fun i => (i.zero,i.size,i.bytes)) = some (some z,d.sz,bytes)) (hz : z.cells.size = d.sz) (hs0 : 0 < d.sz) (hb0 : 0 < bytes)
  (z0 : α) {ok okp : Nat → Prop} (hzero : FK d W okp z0 z.cells.toList) (_hok : ∀ k,okp k → ok k) (hfresh : ok W.heap.size) (h0 : 0 ≤ n) (hl : n.toNat * bytes ≤ 281474976710656) (HB : Below base w0 W) (hbase : base ≤ W.heap.size)
  (h : ∀ v1 w1,N d e w1 base ok v1 ([] : List α) → Below base w0 w1 → W.grownBy w1 none → (∃ b,v1.ownBlock = some b ∧ W.heap.size ≤ b) → wpList P ops Q rest (a.put o.dst v1) w1) : wpList P ops Q (o :: rest) a W :=
 R_makecap d base e hgd hd t x y ho n hx hy ht z bytes hinfo hz hs0 hb0 z0 (ok := ok) (okp := okp) hzero _hok hfresh h0 hl HB hbase (fun v1 w1 hr hb hg hat => h v1 w1 (R_N hr) hb hg hat)
end
end Kd
end Go.Proofs.PrintWords
end
section
namespace Go.Proofs.YtgnmdhnlcibbiaaDoor.P
open Go.RowKit Go.Proofs.PrintWords Go.Proofs.PrintLast Go.Proofs.PrintMore
attribute [local go_sem] max2_int min2_int max_two min_two max_three min_three max_four min_four
set_option linter.unusedVariables false
set_option linter.unusedSimpArgs false
mutual
def tree_fold.l0 : Nat → List (S25) → Bool → List (S25) → Int → Int → Int → Int → List (S25) → Option (Int × Int × (List (S25)))
 | 0,_,_,_,_,_,_,_,_ => none
 | k + 1,x3,x4,x18,x19,x20,x146000,x146001,x146002 => if x20 < x19 then (if 0 ≤ x20 then (if x20 < (x18.length : Int) then ((tree_fold.f k ((rd_T25 x18 x20).f0) ((rd_T25 x18 x20).f1) ((rd_T25 x18 x20).f2)).bind fun bt152 => (if x3.length < 3518437208883 then ((some (x3 ++ [(⟨bt152.1,bt152.2.1,bt152.2.2⟩ : S25)] : List (S25))).bind fun y157 => (if x4 = true then ((tree_constant.f bt152.1 bt152.2.1 bt152.2.2).bind fun t160 => (tree_fold.l0 k y157 t160 x18 x19 (wrap64 (x20 + 1)) x146000 x146001 x146002)) else (tree_fold.l0 k y157 false x18 x19 (wrap64 (x20 + 1)) x146000 x146001 x146002))) else (none))) else (none)) else (none)) else (if (x3.length : Int) = 0 then (some (x146000,x146001,x146002)) else (if x146000 = 22 then (if 0 < (x3.length : Int) then ((tree_constant.f ((rd_T25 x3 0).f0) ((rd_T25 x3 0).f1) ((rd_T25 x3 0).f2)).bind fun t162 => (tree_fold.j1 k x3 x4 t162 x146000 x146001 x3)) else (none)) else (tree_fold.j1 k x3 x4 false x146000 x146001 x3)))
def tree_fold.j1 : Nat → List (S25) → Bool → Bool → Int → Int → List (S25) → Option (Int × Int × (List (S25)))
 | 0,_,_,_,_,_,_ => none
 | k + 1,x3,x4,x50,x146000,x146001,x146002 => if x50 = true then (if 0 < (x3.length : Int) then ((tree_value.f k ((rd_T25 x3 0).f0) ((rd_T25 x3 0).f1) ((rd_T25 x3 0).f2) 0 0 0).bind fun t164 => (if t164 = 0 then (if 2 < (x3.length : Int) then (some ((rd_T25 x3 2).f0,(rd_T25 x3 2).f1,(rd_T25 x3 2).f2)) else (none)) else (if 1 < (x3.length : Int) then (some ((rd_T25 x3 1).f0,(rd_T25 x3 1).f1,(rd_T25 x3 1).f2)) else (none)))) else (none)) else (if x4 = true then ((tree_constant.f x146000 x146001 x146002).bind fun t167 => (tree_fold.j2 k (!t167) x146000 x146001 x146002)) else (tree_fold.j2 k false x146000 x146001 x146002))
def tree_fold.j2 : Nat → Bool → Int → Int → List (S25) → Option (Int × Int × (List (S25)))
 | 0,_,_,_,_ => none
 | k + 1,x67,x146000,x146001,x146002 => if x67 = true then ((tree_value.f k x146000 x146001 x146002 0 0 0).bind fun t168 => ((tree_literal.f t168).bind fun bt169 => (if bt169.2.2.2 = true then (some (bt169.1,bt169.2.1,bt169.2.2.1)) else (some (x146000,x146001,x146002))))) else (some (x146000,x146001,x146002))
def tree_fold.f : Nat → Int → Int → List (S25) → Option (Int × Int × (List (S25)))
 | 0,_,_,_ => none
 | k + 1,zay,zaK,zam => if 0 ≤ (zam.length : Int) then (if ((zam.length : Int) : Int).toNat ≤ 7036874417766 then (tree_fold.l0 k (([] : List (S25))) (decide ((zam.length : Int) > 0)) zam (zam.length : Int) 0 zay zaK zam) else (none)) else (none)
end
end Go.Proofs.YtgnmdhnlcibbiaaDoor.P
end
section
namespace Go.Proofs.YtgnmdhnlcibbiaaDoor.P
open Go.RowKit Go.Proofs.PrintWords Go.Proofs.PrintLast Go.Proofs.PrintMore
attribute [local go_sem] max2_int min2_int max_two min_two max_three min_three max_four min_four
set_option linter.unusedVariables false
set_option linter.unusedSimpArgs false
theorem tree_fold.calls (k : Nat) : ∀ (zay : Int) (zaK : Int) (zbm : Nat → Prop) (zbc : Option Addr) (za1 : Nat) (zam : List (S25)) (r1 : Int) (r2 : Int) (r3 : List (S25)) (w : World) (hs0_2 : Kd.V k25 25 w w.heap.size (fun k_ => zbm k_) (.slice zbc zam.length za1) zam) (h : tree_fold.f k zay zaK zam = some (r1,r2,r3)),
  Calls Tryd.prog 54 #[.agg #[.int .i64 zay,.int .i64 zaK,.slice zbc zam.length za1]] w fun e w' => ∃ v2_ : Value,e = .returned (.agg #[.int .i64 r1,.int .i64 r2,v2_]) ∧ Kd.V k25 25 w' w.heap.size (fun k_ => (zbm k_ ∨ w.heap.size ≤ k_)) v2_ r3 ∧ Below w.heap.size w w' := by
 induction k using Nat.strongRecOn with
 | _ k ih =>
 intro zay zaK zbm zbc za1 zam r1 r2 r3 w hs0_2 h
 cases k with
 | zero => exact absurd h (by simp [tree_fold.f])
 | succ k =>
 simp only [tree_fold.f] at h
 have zcz := Tryd.underlying25
 have zbQ := am (show Kd.V k25 25 w w.heap.size (fun k_ => (zbm k_ ∨ w.heap.size ≤ k_)) (.slice zbc zam.length za1) zam from Kd.V_mono hs0_2 (fun k_ hk => .inl hk))
 have HB := am (Below.refl w.heap.size w)
 have H : (if 0 ≤ (zam.length : Int) then (if ((zam.length : Int) : Int).toNat ≤ 7036874417766 then (tree_fold.l0 k (([] : List (S25))) (decide ((zam.length : Int) > 0)) zam (zam.length : Int) 0 zay zaK zam) else (none)) else (none)) = some (r1,r2,r3) := h
 clear h
 by_cases c2 : 0 ≤ (zam.length : Int)
 ·rw [if_pos c2] at H
  have zfb := eq_true c2
  have c2b1 : decide (0 ≤ (zam.length : Int)) = true := decide_eq_true c2
  clear c2
  by_cases c3 : ((zam.length : Int) : Int).toNat ≤ 7036874417766
  ·rw [if_pos c3] at H
   have zes := eq_true c3
   have zff : decide (((zam.length : Int) : Int).toNat ≤ 7036874417766) = true := decide_eq_true c3
   clear c3
   obtain ⟨y147,zhC⟩ : ∃ y_ : List (S25),y_ = (([] : List (S25))) := ⟨_,rfl⟩
   replace H : (tree_fold.l0 k y147 (decide ((zam.length : Int) > 0)) zam (zam.length : Int) 0 zay zaK zam) = some (r1,r2,r3) := by first | (rw [zhC];with_reducible exact H) | (have H2_ := (Option.bind_some _ _).symm.trans H;rw [zhC];with_reducible exact H2_) | (have H2_ := (Option.bind_some _ _).symm.trans H;with_reducible exact H2_) | with_reducible exact H | (rw [zhC];exact H) | exact H
   have Ny147 := am zhC
   clear zhC
   have H' := am H
   clear H
   go_enter Tryd.func54,Tryd.ntmps54
   go_wp2_with (first | ((with_reducible refine gate_dst (N := 1) rfl ?_);refine box_event ?hg (N := 1) ?hd (cs := #[.int .i64 zay,.int .i64 zaK,.slice zbc zam.length za1]) (t := 25) ?hr ?_;(case hd => rfl);(case hg => rfl);(case hr => first | (go_simp;done) | (go_simp;rfl));intro gb145 hg w4 zan hb;have n0_ := am (Kd.V_below (Kd.V_elderB zbQ.out gb145 (Nat.le_of_eq hg.symm)) hb);have n1_ := am (below_step HB.out hb);have n2_ := am (zan);have n3_ := am ((by rw [hg];exact (below_size HB.out) : w.heap.size ≤ gb145));have n4_ := am ((by rw [hg];exact (below_size HB.out) : w.heap.size ≤ gb145));clear zbQ;clear HB;have zbQ := n0_;have HB := n1_;have zaA := n2_;have GW145 := n3_;have zbR := n4_;clear n0_ n1_ n2_ n3_ n4_;clear hb zan hg) | ((with_reducible refine gate_dst (N := 2) rfl ?_);refine box_event ?hg (N := 2) ?hd (cs := #[.int .i64 0,.int .i64 0,.slice none 0 0]) (t := 25) ?hr ?_;(case hd => rfl);(case hg => rfl);(case hr => first | (go_simp;done) | (go_simp;rfl));intro gb146 hg w5 zan hb;have n0_ := am (Kd.V_below (Kd.V_elderB zbQ.out gb146 (Nat.le_of_eq hg.symm)) hb);have n1_ := am (blk_below (g := gb145) (o := .cells #[.int .i64 zay,.int .i64 zaK,.slice zbc zam.length za1] 25 (0,0)) zaA.out hb);have n2_ := am (below_step HB.out hb);have n3_ := am (zan);have n4_ := am ((by rw [hg];exact (below_size HB.out) : w.heap.size ≤ gb146));have n5_ := am ((by rw [hg];exact (below_size HB.out) : w.heap.size ≤ gb146));have n6_ := am ((by rw [hg];exact Nat.ne_of_lt (blk_lt (g := gb145) (o := .cells #[.int .i64 zay,.int .i64 zaK,.slice zbc zam.length za1] 25 (0,0)) zaA.out) : gb145 ≠ gb146));have n7_ := am ((by rw [hg];exact Nat.ne_of_gt (blk_lt (g := gb145) (o := .cells #[.int .i64 zay,.int .i64 zaK,.slice zbc zam.length za1] 25 (0,0)) zaA.out) : gb146 ≠ gb145));clear zbQ;clear zaA;clear HB;have zbQ := n0_;have zaA := n1_;have HB := n2_;have zaz := n3_;have GW146 := n4_;have zbA := n5_;have zbT := n6_;have zbO := n7_;clear n0_ n1_ n2_ n3_ n4_ n5_ n6_ n7_;clear hb zan hg;have hnb6 := zbT.out;have hnc6 := zbO.out;have zeS : w5.cell? ⟨gb145,0,none⟩ = some (.int .i64 zay) := (blk_cell zaA.out 0).trans rfl;have zeT : w5.cell? ⟨gb145,1,none⟩ = some (.int .i64 zaK) := (blk_cell zaA.out 1).trans rfl;have zeU : w5.cell? ⟨gb145,2,none⟩ = some (.slice zbc zam.length za1) := (blk_cell zaA.out 2).trans rfl;have zgr := blk_frozen zaA.out 0;have zeV := blk_frozen zaA.out 1;have zeW := blk_frozen zaA.out 2) | ((with_reducible refine gate_dst (N := 12) rfl ?_);refine Kd.N_makecap k25 _ 25 rfl (N' := 12) rfl 23 _ _ rfl (zam.length : Int) rfl rfl Tryd.underlying23 (.agg #[(.int .i64 0),(.int .i64 0),(.slice none 0 0)]) 40 info25 rfl (by decide) (by omega) z25 (ok := fun k_ => w5.heap.size ≤ k_) (okp := fun _ => False) (k25_mkF _ _ z25 (Nat.le_refl _) (Kd.F_nil _ _ _)) (fun _ hk => hk.elim) (Nat.le_refl _) (of_decide_eq_true (by first | (with_reducible assumption) | assumption)) (Nat.le_trans (Nat.mul_le_mul_right _ (of_decide_eq_true (by first | (with_reducible assumption) | assumption) : (zam.length : Int).toNat ≤ 7036874417766)) (by omega)) (Below.refl _ _) (Nat.le_refl _) ?_;intro v148 w8 ho9 hb hg_ zfE;clear hg_ zfE;(first | rw [← Ny147.out] at ho9 | (simp only [Int.reduceToNat] at ho9;rw [← Ny147.out] at ho9));have n0_ := am (Kd.V_elder' zbQ.out (Kd.N_base ho9) hb);have n1_ := am (Kd.N_lower (Kd.N_mono (ok' := fun k_ => (zbm k_ ∨ w.heap.size ≤ k_) ∧ k_ ≠ gb145 ∧ k_ ≠ gb146) ho9 (fun k_ hk_ => ⟨(.inr (Nat.le_trans (below_size HB.out) hk_)),(Kd.freshB (g := gb145) (o := .cells #[.int .i64 zay,.int .i64 zaK,.slice zbc zam.length za1] 25 (0,0)) zaA.out k_ hk_),(Kd.freshB (g := gb146) (o := .cells #[.int .i64 0,.int .i64 0,.slice none 0 0] 25 (0,0)) zaz.out k_ hk_)⟩)) (below_size HB.out));have n2_ := am (blk_below (g := gb145) (o := .cells #[.int .i64 zay,.int .i64 zaK,.slice zbc zam.length za1] 25 (0,0)) zaA.out hb);have n3_ := am (blk_below (g := gb146) (o := .cells #[.int .i64 0,.int .i64 0,.slice none 0 0] 25 (0,0)) zaz.out hb);have n4_ := am (below_step HB.out hb);clear zbQ;clear zaA;clear zaz;clear HB;have zbQ := n0_;have HO149 := n1_;have zaA := n2_;have zaz := n3_;have HB := n4_;clear n0_ n1_ n2_ n3_ n4_;clear hb ho9;have zc0 : w8.cell? ⟨gb145,0,none⟩ = some (.int .i64 zay) := (blk_cell zaA.out 0).trans rfl;have zc1 : w8.cell? ⟨gb145,1,none⟩ = some (.int .i64 zaK) := (blk_cell zaA.out 1).trans rfl;have zc2 : w8.cell? ⟨gb145,2,none⟩ = some (.slice zbc zam.length za1) := (blk_cell zaA.out 2).trans rfl;have zdr := blk_frozen zaA.out 0;have zc3 := blk_frozen zaA.out 1;have zc4 := blk_frozen zaA.out 2))
   go_loopg [3,4,20] k (fun kq v3 v4 v20 w' => ∃ (x3_1 : List (S25)) (x4_1 : Bool) (x20_1 : Int),v4 = .bool x4_1 ∧ v20 = .int .i64 x20_1 ∧ Aside0 (tree_fold.l0 kq x3_1 x4_1 zam (zam.length : Int) x20_1 zay zaK zam = some (r1,r2,r3)) ∧ Aside0 (kq ≤ k) ∧ Aside0 (Kd.N k25 25 w' w.heap.size (fun k_ => (zbm k_ ∨ w.heap.size ≤ k_) ∧ k_ ≠ gb145 ∧ k_ ≠ gb146) v3 x3_1) ∧ Aside0 (Kd.V k25 25 w' w.heap.size (fun k_ => (zbm k_ ∨ w.heap.size ≤ k_) ∧ some k_ ≠ (v3 : Value).ownBlock ∧ k_ ≠ gb145 ∧ k_ ≠ gb146) (.slice zbc zam.length za1) zam) ∧ Aside0 (Kd.V k25 25 w' w.heap.size (fun k_ => (zbm k_ ∨ w.heap.size ≤ k_) ∧ some k_ ≠ (v3 : Value).ownBlock ∧ k_ ≠ gb145 ∧ k_ ≠ gb146) (.slice zbc zam.length za1) zam) ∧ Aside0 (w'.heap[gb145]? = some (.cells #[.int .i64 zay,.int .i64 zaK,(.slice zbc zam.length za1)] 25 (0,0))) ∧ Aside0 (w'.heap[gb146]? = some (.cells #[.int .i64 0,.int .i64 0,(.slice none 0 0)] 25 (0,0))) ∧ Aside0 (Below w.heap.size w w'))
   case atStart => exact ⟨(y147),(decide ((zam.length : Int) > 0)),(0),(by first | rfl | (simp;done) | (simp [*];done)),(by first | rfl | (simp;done) | (simp [*];done)),H',⟨Nat.le_refl _⟩,⟨by (with_reducible repeat (first | apply Kd.N_alloc | apply Kd.N_drewN | apply Kd.N_drew));exact HO149.out⟩,⟨by (with_reducible repeat (first | apply Kd.V_alloc | apply Kd.V_drewN | apply Kd.V_drew));exact Kd.V_mono zbQ.out (fun _ hk => ⟨hk.1.1.1,⟨hk.2,⟨hk.1.1.2,hk.1.2⟩⟩⟩)⟩,⟨by (with_reducible repeat (first | apply Kd.V_alloc | apply Kd.V_drewN | apply Kd.V_drew));exact Kd.V_mono zbQ.out (fun _ hk => ⟨hk.1.1.1,⟨hk.2,⟨hk.1.1.2,hk.1.2⟩⟩⟩)⟩,⟨by (with_reducible repeat (first | refine blk_drewN ?_ _ | refine blk_drew ?_ | refine blk_alloc ?_ _));exact zaA.out⟩,⟨by (with_reducible repeat (first | refine blk_drewN ?_ _ | refine blk_drew ?_ | refine blk_alloc ?_ _));exact zaz.out⟩,⟨by repeat (first | (with_reducible first | exact HB.out | apply below_alloc | apply pw_below_drewN | apply below_drew1 | refine below_set ?_ zbR.out | refine below_set ?_ zbA.out) | exact HB.out)⟩⟩
   case round =>
    clear H'
    try clear c2
    try clear zfb
    try clear c2b1
    try clear p2
    try clear c3
    try clear zes
    try clear zff
    try clear c5
    try clear c6
    try clear zc0
    try clear zc1
    try clear zc2
    try clear zeS
    try clear zeT
    try clear zeU
    try clear zdr
    try clear zc3
    try clear zc4
    try clear zgr
    try clear zeV
    try clear zeW
    obtain ⟨x3_1,x4_1,x20_1,rfl,rfl,HA,HK1,zbU,zbK,zap,zaA,zaz,HB⟩ := hrel
    cases gk with
    | zero => exact absurd HA.out (by simp [tree_fold.l0])
    | succ k1 =>
     have H := HA.out
     clear HA
     simp only [tree_fold.l0] at H
     by_cases c11 : x20_1 < (zam.length : Int)
     ·rw [if_pos c11] at H
      have zds : decide (x20_1 < (zam.length : Int)) = true := decide_eq_true c11
      clear c11
      by_cases c12 : 0 ≤ x20_1
      ·rw [if_pos c12] at H
       have zeZ : decide (0 ≤ x20_1) = true := decide_eq_true c12
       clear c12
       by_cases c13 : x20_1 < (zam.length : Int)
       ·rw [if_pos c13] at H
        have ze0 : decide (x20_1 < (zam.length : Int)) = true := decide_eq_true c13
        clear c13
        replace H := Option.bind_eq_some_iff.mp H
        obtain ⟨⟨t152,t153,t154⟩,A140,H⟩ := H
        replace H : (if x3_1.length < 3518437208883 then ((some (x3_1 ++ [(⟨t152,t153,t154⟩ : S25)] : List (S25))).bind fun y157 => (if x4_1 = true then ((tree_constant.f t152 t153 t154).bind fun t160 => (tree_fold.l0 k1 y157 t160 zam (zam.length : Int) (wrap64 (x20_1 + 1)) zay zaK zam)) else (tree_fold.l0 k1 y157 false zam (zam.length : Int) (wrap64 (x20_1 + 1)) zay zaK zam))) else (none)) = some (r1,r2,r3) := H
        have A14 := am A140
        clear A140
        by_cases c15 : x3_1.length < 3518437208883
        ·rw [if_pos c15] at H
         have LMc15 := am c15
         clear c15
         obtain ⟨y157,zhD⟩ : ∃ y_ : List (S25),y_ = (x3_1 ++ [(⟨t152,t153,t154⟩ : S25)]) := ⟨_,rfl⟩
         replace H : (if x4_1 = true then ((tree_constant.f t152 t153 t154).bind fun t160 => (tree_fold.l0 k1 y157 t160 zam (zam.length : Int) (wrap64 (x20_1 + 1)) zay zaK zam)) else (tree_fold.l0 k1 y157 false zam (zam.length : Int) (wrap64 (x20_1 + 1)) zay zaK zam)) = some (r1,r2,r3) := by first | (rw [zhD];with_reducible exact H) | (have H2_ := (Option.bind_some _ _).symm.trans H;rw [zhD];with_reducible exact H2_) | (have H2_ := (Option.bind_some _ _).symm.trans H;with_reducible exact H2_) | with_reducible exact H | (rw [zhD];exact H) | exact H
         have Ny157 := am zhD
         clear zhD
         by_cases c16 : x4_1 = true
         ·subst c16
          have H1 : ((tree_constant.f t152 t153 t154).bind fun t160 => (tree_fold.l0 k1 y157 t160 zam (zam.length : Int) (wrap64 (x20_1 + 1)) zay zaK zam)) = some (r1,r2,r3) := by rw [if_pos rfl] at H;exact H
          clear H
          have H := H1
          clear H1
          replace H := Option.bind_eq_some_iff.mp H
          obtain ⟨t160,A170,H⟩ := H
          replace H : (tree_fold.l0 k1 y157 t160 zam (zam.length : Int) (wrap64 (x20_1 + 1)) zay zaK zam) = some (r1,r2,r3) := H
          have A17 := am A170
          clear A170
          have H' := am H
          clear H
          have zhE : 0 ≤ (x20_1 : Int) := of_decide_eq_true (by first | (with_reducible assumption) | assumption)
          have zhF : x20_1 < (zam.length : Int) := of_decide_eq_true (by first | (with_reducible assumption) | assumption)
          obtain ⟨ad150,A150_2,c150_2,e150,zga,zgb,zed,zee,zef⟩ := at_T25 (Kd.V_reads' zbK.out).2.2 x20_1 zhE zhF
          cases e150
          obtain ⟨ce150,zhG,hMe150,ze8⟩ := Kd.V_get zbK.out z25 x20_1 zhE (by first | exact zhF | exact of_decide_eq_true (by first | (with_reducible assumption) | assumption) | (have e_ := (Kd.V_reads' zbK.out).1;omega))
          obtain ⟨ua150_2,uc150_2,rfl,zdc,zdd⟩ := k25_openF hMe150
          have zcJ := ze8 2 _ rfl
          rw [add_field _ _ 2 (by omega)] at zcJ
          replace zcJ := Option.some.inj (zcJ.symm.trans zed)
          injection zcJ with zex zgD zey
          rw [zex] at zdd
          rw [zey] at zdc
          have zaV := am (show Kd.V k25 25 _ w.heap.size _ _ ((rd_T25 zam x20_1).f2) from Kd.V_mk zdc zdd)
          clear zex zgD zey zdd zdc
          clear ze8 zhG
          have zbs := am zef
          have HC150_2 := am zee
          clear zef zee
          replace zhE := eq_true zhE
          replace zhF := eq_true zhF
          go_wp2_with (first | ((with_reducible refine gate_dst (N := 6) rfl ?_);refine box_event ?hg (N := 6) ?hd (cs := #[.int .i64 0,.int .i64 0,.slice none 0 0]) (t := 25) ?hr ?_;(case hd => rfl);(case hg => rfl);(case hr => first | (go_simp;done) | (go_simp;rfl));intro gb151 hg w18 zan hb;have n0_ := am (Kd.N_below (Kd.N_elderB zbU.out gb151 (Nat.le_of_eq hg.symm)) hb);have n1_ := am (Kd.V_below (Kd.V_elderB zbK.out gb151 (Nat.le_of_eq hg.symm)) hb);have n2_ := am (Kd.V_below (Kd.V_elderB zap.out gb151 (Nat.le_of_eq hg.symm)) hb);have n3_ := am (Kd.V_below (Kd.V_elderB zaV.out gb151 (Nat.le_of_eq hg.symm)) hb);have n4_ := am (blk_below (g := gb145) (o := .cells #[.int .i64 zay,.int .i64 zaK,.slice (some ad150) zam.length za1] 25 (0,0)) zaA.out hb);have n5_ := am (blk_below (g := gb146) (o := .cells #[.int .i64 0,.int .i64 0,.slice none 0 0] 25 (0,0)) zaz.out hb);have n6_ := am (Kd.C_below (by repeat (first | (with_reducible exact zbs.out) | (with_reducible refine Kd.C_alloc ?_ _) | (with_reducible refine Kd.C_drewN ?_ _) | (with_reducible refine Kd.C_drew ?_) | exact zbs.out)) hb);have n7_ := am (below_step (by repeat (first | (with_reducible first | exact HB.out | apply below_alloc | apply pw_below_drewN | apply below_drew1 | refine below_set ?_ zbR.out | refine below_set ?_ zbA.out) | exact HB.out)) hb);have n8_ := am (zan);have n9_ := am ((by rw [hg];exact (below_size (by repeat (first | (with_reducible first | exact HB.out | apply below_alloc | apply pw_below_drewN | apply below_drew1 | refine below_set ?_ zbR.out | refine below_set ?_ zbA.out) | exact HB.out))) : w.heap.size ≤ gb151));have zhH := am ((by rw [hg];exact (below_size (by repeat (first | (with_reducible first | exact HB.out | apply below_alloc | apply pw_below_drewN | apply below_drew1 | refine below_set ?_ zbR.out | refine below_set ?_ zbA.out) | exact HB.out))) : w.heap.size ≤ gb151));have zhI := am ((by rw [hg];exact Nat.ne_of_lt (blk_lt (g := gb145) (o := .cells #[.int .i64 zay,.int .i64 zaK,.slice (some ad150) zam.length za1] 25 (0,0)) zaA.out) : gb145 ≠ gb151));have n12_ := am ((by rw [hg];exact Nat.ne_of_gt (blk_lt (g := gb145) (o := .cells #[.int .i64 zay,.int .i64 zaK,.slice (some ad150) zam.length za1] 25 (0,0)) zaA.out) : gb151 ≠ gb145));have n13_ := am ((by rw [hg];exact Nat.ne_of_lt (blk_lt (g := gb146) (o := .cells #[.int .i64 0,.int .i64 0,.slice none 0 0] 25 (0,0)) zaz.out) : gb146 ≠ gb151));have n14_ := am ((by rw [hg];exact Nat.ne_of_gt (blk_lt (g := gb146) (o := .cells #[.int .i64 0,.int .i64 0,.slice none 0 0] 25 (0,0)) zaz.out) : gb151 ≠ gb146));clear zbU;clear zbK;clear zap;clear zaV;clear zaA;clear zaz;clear zbs;clear HB;have zbU := n0_;have zbK := n1_;have zap := n2_;have zaV := n3_;have zaA := n4_;have zaz := n5_;have zbs := n6_;have HB := n7_;have za0 := n8_;have GW151 := n9_;have zcE := zhH;have zbD := zhI;have zeg := n12_;have zbE := n13_;have zeh := n14_;clear n0_ n1_ n2_ n3_ n4_ n5_ n6_ n7_ n8_ n9_ zhH zhI n12_ n13_ n14_;clear hb zan hg;have hnb19 := zeg.out;have hnc19 := zbD.out;have hnb20 := zeh.out;have hnc20 := zbE.out;have zc6 : w18.cell? ⟨gb151,0,none⟩ = some (.int .i64 0) := (blk_cell za0.out 0).trans rfl;have zc7 : w18.cell? ⟨gb151,1,none⟩ = some (.int .i64 0) := (blk_cell za0.out 1).trans rfl;have zc8 : w18.cell? ⟨gb151,2,none⟩ = some (.slice none 0 0) := (blk_cell za0.out 2).trans rfl;have zc9 := blk_frozen za0.out 0;have zda := blk_frozen za0.out 1;have zdb := blk_frozen za0.out 2) | ((with_reducible refine gate_store (t := 25) (p := 6) rfl ?_);refine store_event (t := 25) (p := 6) (v := ?vo_w22) (w1 := (((w18.setCell ⟨gb151,0,none⟩ (.int .i64 ((rd_T25 zam x20_1).f0))).setCell ⟨gb151,1,none⟩ (.int .i64 ((rd_T25 zam x20_1).f1))).setCell ⟨gb151,2,none⟩ (.slice A150_2 ((rd_T25 zam x20_1).f2).length c150_2))) ?hg ?ho ?hn ?hr ?_;(case ho => rfl);(case hg => rfl);(case hn => rfl);(case hr => first | (go_simp;done) | (go_simp;rfl));intro w22 hw;have n0_ : Aside0 (Kd.N k25 25 w22 w.heap.size (fun k_ => (zbm k_ ∨ w.heap.size ≤ k_) ∧ k_ ≠ gb145 ∧ k_ ≠ gb146 ∧ k_ ≠ gb151) u3 x3_1) := ⟨(by rw [hw];exact (Kd.N_mono (Kd.N_far (p := ⟨gb151,2,none⟩) (Kd.N_far (p := ⟨gb151,1,none⟩) (Kd.N_far (p := ⟨gb151,0,none⟩) (Kd.N_mono zbU.out (fun k_ hk => (⟨hk,hk.2⟩ : _ ∧ k_ ≠ gb151))) (fun _ hk => hk.2) (.int .i64 ((rd_T25 zam x20_1).f0))) (fun _ hk => hk.2) (.int .i64 ((rd_T25 zam x20_1).f1))) (fun _ hk => hk.2) (.slice A150_2 ((rd_T25 zam x20_1).f2).length c150_2)) (fun _ hk => ⟨hk.1.1.1,⟨hk.1.1.2.1,⟨hk.1.1.2.2,hk.1.2⟩⟩⟩)))⟩;have n1_ : Aside0 (Kd.V k25 25 w22 w.heap.size (fun k_ => (zbm k_ ∨ w.heap.size ≤ k_) ∧ some k_ ≠ (u3 : Value).ownBlock ∧ k_ ≠ gb145 ∧ k_ ≠ gb146 ∧ k_ ≠ gb151) (.slice (some ad150) zam.length za1) zam) := ⟨(by rw [hw];exact (Kd.V_mono (Kd.V_far (p := ⟨gb151,2,none⟩) (Kd.V_far (p := ⟨gb151,1,none⟩) (Kd.V_far (p := ⟨gb151,0,none⟩) (Kd.V_mono zbK.out (fun k_ hk => (⟨hk,hk.2⟩ : _ ∧ k_ ≠ gb151))) (fun _ hk => hk.2) (.int .i64 ((rd_T25 zam x20_1).f0))) (fun _ hk => hk.2) (.int .i64 ((rd_T25 zam x20_1).f1))) (fun _ hk => hk.2) (.slice A150_2 ((rd_T25 zam x20_1).f2).length c150_2)) (fun _ hk => ⟨hk.1.1.1,⟨hk.1.1.2.1,⟨hk.1.1.2.2.1,⟨hk.1.1.2.2.2,hk.1.2⟩⟩⟩⟩)))⟩;have n2_ : Aside0 (Kd.V k25 25 w22 w.heap.size (fun k_ => (zbm k_ ∨ w.heap.size ≤ k_) ∧ some k_ ≠ (u3 : Value).ownBlock ∧ k_ ≠ gb145 ∧ k_ ≠ gb146 ∧ k_ ≠ gb151) (.slice (some ad150) zam.length za1) zam) := ⟨(by rw [hw];exact (Kd.V_mono (Kd.V_far (p := ⟨gb151,2,none⟩) (Kd.V_far (p := ⟨gb151,1,none⟩) (Kd.V_far (p := ⟨gb151,0,none⟩) (Kd.V_mono zap.out (fun k_ hk => (⟨hk,hk.2⟩ : _ ∧ k_ ≠ gb151))) (fun _ hk => hk.2) (.int .i64 ((rd_T25 zam x20_1).f0))) (fun _ hk => hk.2) (.int .i64 ((rd_T25 zam x20_1).f1))) (fun _ hk => hk.2) (.slice A150_2 ((rd_T25 zam x20_1).f2).length c150_2)) (fun _ hk => ⟨hk.1.1.1,⟨hk.1.1.2.1,⟨hk.1.1.2.2.1,⟨hk.1.1.2.2.2,hk.1.2⟩⟩⟩⟩)))⟩;have n3_ : Aside0 (Kd.V k25 25 w22 w.heap.size (fun k_ => (zbm k_ ∨ w.heap.size ≤ k_) ∧ some k_ ≠ (u3 : Value).ownBlock ∧ k_ ≠ gb145 ∧ k_ ≠ gb146 ∧ k_ ≠ gb151) (.slice A150_2 ((rd_T25 zam x20_1).f2).length c150_2) ((rd_T25 zam x20_1).f2)) := ⟨(by rw [hw];exact (Kd.V_mono (Kd.V_far (p := ⟨gb151,2,none⟩) (Kd.V_far (p := ⟨gb151,1,none⟩) (Kd.V_far (p := ⟨gb151,0,none⟩) (Kd.V_mono zaV.out (fun k_ hk => (⟨hk,hk.2⟩ : _ ∧ k_ ≠ gb151))) (fun _ hk => hk.2) (.int .i64 ((rd_T25 zam x20_1).f0))) (fun _ hk => hk.2) (.int .i64 ((rd_T25 zam x20_1).f1))) (fun _ hk => hk.2) (.slice A150_2 ((rd_T25 zam x20_1).f2).length c150_2)) (fun _ hk => ⟨hk.1.1.1,⟨hk.1.1.2.1,⟨hk.1.1.2.2.1,⟨hk.1.1.2.2.2,hk.1.2⟩⟩⟩⟩)))⟩;have n4_ : Aside0 (w22.heap[gb145]? = some (.cells #[.int .i64 zay,.int .i64 zaK,.slice (some ad150) zam.length za1] 25 (0,0))) := ⟨(by rw [hw];exact (by (with_reducible repeat (first | refine blk_drewN ?_ _ | refine blk_drew ?_ | refine blk_alloc ?_ _));refine blk_far ?_ zbD.out _;(with_reducible repeat (first | refine blk_drewN ?_ _ | refine blk_drew ?_ | refine blk_alloc ?_ _));refine blk_far ?_ zbD.out _;(with_reducible repeat (first | refine blk_drewN ?_ _ | refine blk_drew ?_ | refine blk_alloc ?_ _));refine blk_far ?_ zbD.out _;(with_reducible repeat (first | refine blk_drewN ?_ _ | refine blk_drew ?_ | refine blk_alloc ?_ _));exact zaA.out))⟩;have n5_ : Aside0 (w22.heap[gb146]? = some (.cells #[.int .i64 0,.int .i64 0,.slice none 0 0] 25 (0,0))) := ⟨(by rw [hw];exact (by (with_reducible repeat (first | refine blk_drewN ?_ _ | refine blk_drew ?_ | refine blk_alloc ?_ _));refine blk_far ?_ zbE.out _;(with_reducible repeat (first | refine blk_drewN ?_ _ | refine blk_drew ?_ | refine blk_alloc ?_ _));refine blk_far ?_ zbE.out _;(with_reducible repeat (first | refine blk_drewN ?_ _ | refine blk_drew ?_ | refine blk_alloc ?_ _));refine blk_far ?_ zbE.out _;(with_reducible repeat (first | refine blk_drewN ?_ _ | refine blk_drew ?_ | refine blk_alloc ?_ _));exact zaz.out))⟩;have n6_ : Aside0 (w22.heap[gb151]? = some (.cells #[.int .i64 ((rd_T25 zam x20_1).f0),.int .i64 ((rd_T25 zam x20_1).f1),.slice A150_2 ((rd_T25 zam x20_1).f2).length c150_2] 25 (0,0))) := ⟨(by rw [hw];exact (by (with_reducible repeat (first | refine blk_drewN ?_ _ | refine blk_drew ?_ | refine blk_alloc ?_ _));refine blk_put (cs := #[.int .i64 ((rd_T25 zam x20_1).f0),.int .i64 ((rd_T25 zam x20_1).f1),.slice none 0 0]) ?_ 2 _ rfl;(with_reducible repeat (first | refine blk_drewN ?_ _ | refine blk_drew ?_ | refine blk_alloc ?_ _));refine blk_put (cs := #[.int .i64 ((rd_T25 zam x20_1).f0),.int .i64 0,.slice none 0 0]) ?_ 1 _ rfl;(with_reducible repeat (first | refine blk_drewN ?_ _ | refine blk_drew ?_ | refine blk_alloc ?_ _));refine blk_put (cs := #[.int .i64 0,.int .i64 0,.slice none 0 0]) ?_ 0 _ rfl;(with_reducible repeat (first | refine blk_drewN ?_ _ | refine blk_drew ?_ | refine blk_alloc ?_ _));exact za0.out))⟩;have n7_ : Aside0 (Below w.heap.size w w22) := ⟨(by rw [hw];exact (by repeat (first | (with_reducible first | exact HB.out | apply below_alloc | apply pw_below_drewN | apply below_drew1 | refine below_set ?_ zbR.out | refine below_set ?_ zbA.out | refine below_set ?_ zcE.out) | exact HB.out)))⟩;clear hw;clear zbU;clear zbK;clear zap;clear zaV;clear zaA;clear zaz;clear za0;clear HB;have zbU := n0_;have zbK := n1_;have zap := n2_;have zaV := n3_;(try (replace zbs := am (Kd.V_reads' zaV.out).2.2));(try (replace zbs := am (Kd.V_reads' zaV.out).2.2));have zaA := n4_;have zaz := n5_;have za0 := n6_;have HB := n7_;clear n0_ n1_ n2_ n3_ n4_ n5_ n6_ n7_;have zfY : w22.cell? ⟨gb151,0,none⟩ = some (.int .i64 ((rd_T25 zam x20_1).f0)) := (blk_cell za0.out 0).trans rfl;have zfZ : w22.cell? ⟨gb151,1,none⟩ = some (.int .i64 ((rd_T25 zam x20_1).f1)) := (blk_cell za0.out 1).trans rfl;have zf0 : w22.cell? ⟨gb151,2,none⟩ = some (.slice A150_2 ((rd_T25 zam x20_1).f2).length c150_2) := (blk_cell za0.out 2).trans rfl;have zf1 := blk_frozen za0.out 0;have zf2 := blk_frozen za0.out 1;have zf3 := blk_frozen za0.out 2) | ((with_reducible refine gate_callee (f := 54) rfl ?_);refine goesL_ (some 25) rfl rfl Tryd.func54 (by kernel_rfl) rfl #[.agg #[.int .i64 ((rd_T25 zam x20_1).f0),.int .i64 ((rd_T25 zam x20_1).f1),.slice A150_2 ((rd_T25 zam x20_1).f2).length c150_2]] rfl (by (try simp only [List.map_toArray,List.map_cons,List.map_nil]);first | done | rfl | (simp only [List.length_drop,List.length_take];rfl)) ?_;(with_reducible refine (ih k1 (by have := HK1.out;omega) ((rd_T25 zam x20_1).f0) ((rd_T25 zam x20_1).f1) (fun k_ => ((zbm k_ ∨ w.heap.size ≤ k_) ∧ (some k_ ≠ (u3 : Value).ownBlock ∧ (k_ ≠ gb145 ∧ (k_ ≠ gb146 ∧ k_ ≠ gb151))))) _ _ ((rd_T25 zam x20_1).f2) t152 t153 t154 _ ?za8 A14.out).mono ?_);(case za8 => exact zaV.out);rintro e w24 ⟨v155,rfl,ho0,hb⟩;refine ⟨_,rfl,?_⟩;have n0_ := am (Kd.N_below zbU.out hb);have n1_ := am (Kd.V_below zbK.out hb);have n2_ := am (Kd.V_below zap.out hb);have n3_ := am (Kd.V_below zaV.out hb);have n4_ := am (Kd.V_lower (Kd.V_mono (ok' := fun k_ => (zbm k_ ∨ w.heap.size ≤ k_) ∧ some k_ ≠ (u3 : Value).ownBlock ∧ k_ ≠ gb145 ∧ k_ ≠ gb146 ∧ k_ ≠ gb151) ho0 (fun k_ hk_ => ⟨Or.elim hk_ (fun hs_ => hs_.1) (fun hn_ => (.inr (Nat.le_trans (below_size (by repeat (first | (with_reducible first | exact HB.out | apply below_alloc | apply pw_below_drewN | apply below_drew1 | refine below_set ?_ zbR.out | refine below_set ?_ zbA.out | refine below_set ?_ zcE.out) | exact HB.out))) hn_))),Or.elim hk_ (fun hs_ => hs_.2.1) (fun hn_ => (Kd.fresh' (Kd.N_lt zbU.out) k_ hn_)),Or.elim hk_ (fun hs_ => hs_.2.2.1) (fun hn_ => (Kd.freshB (g := gb145) (o := .cells #[.int .i64 zay,.int .i64 zaK,.slice (some ad150) zam.length za1] 25 (0,0)) zaA.out k_ hn_)),Or.elim hk_ (fun hs_ => hs_.2.2.2.1) (fun hn_ => (Kd.freshB (g := gb146) (o := .cells #[.int .i64 0,.int .i64 0,.slice none 0 0] 25 (0,0)) zaz.out k_ hn_)),Or.elim hk_ (fun hs_ => hs_.2.2.2.2) (fun hn_ => (Kd.freshB (g := gb151) (o := .cells #[.int .i64 ((rd_T25 zam x20_1).f0),.int .i64 ((rd_T25 zam x20_1).f1),.slice A150_2 ((rd_T25 zam x20_1).f2).length c150_2] 25 (0,0)) za0.out k_ hn_))⟩)) (below_size (by repeat (first | (with_reducible first | exact HB.out | apply below_alloc | apply pw_below_drewN | apply below_drew1 | refine below_set ?_ zbR.out | refine below_set ?_ zbA.out | refine below_set ?_ zcE.out) | exact HB.out))));have n5_ := am (blk_below (g := gb145) (o := .cells #[.int .i64 zay,.int .i64 zaK,.slice (some ad150) zam.length za1] 25 (0,0)) zaA.out hb);have n6_ := am (blk_below (g := gb146) (o := .cells #[.int .i64 0,.int .i64 0,.slice none 0 0] 25 (0,0)) zaz.out hb);have n7_ := am (Kd.C_below (by repeat (first | (with_reducible exact zbs.out) | (with_reducible refine Kd.C_alloc ?_ _) | (with_reducible refine Kd.C_drewN ?_ _) | (with_reducible refine Kd.C_drew ?_) | exact zbs.out)) hb);have n8_ := am (blk_below (g := gb151) (o := .cells #[.int .i64 ((rd_T25 zam x20_1).f0),.int .i64 ((rd_T25 zam x20_1).f1),.slice A150_2 ((rd_T25 zam x20_1).f2).length c150_2] 25 (0,0)) za0.out hb);have n9_ := am (below_step (by repeat (first | (with_reducible first | exact HB.out | apply below_alloc | apply pw_below_drewN | apply below_drew1 | refine below_set ?_ zbR.out | refine below_set ?_ zbA.out | refine below_set ?_ zcE.out) | exact HB.out)) hb);clear zbU;clear zbK;clear zap;clear zaV;clear zaA;clear zaz;clear zbs;clear za0;clear HB;have zbU := n0_;have zbK := n1_;have zap := n2_;have zaV := n3_;have zcn := n4_;have zaA := n5_;have zaz := n6_;have zbs := n7_;have za0 := n8_;have HB := n9_;clear n0_ n1_ n2_ n3_ n4_ n5_ n6_ n7_ n8_ n9_;(try clear hb);(try clear hb2);(try clear hk);(try clear hi);(try clear ho0);have zdQ : w24.cell? ⟨gb151,0,none⟩ = some (.int .i64 ((rd_T25 zam x20_1).f0)) := (blk_cell za0.out 0).trans rfl;have zdR : w24.cell? ⟨gb151,1,none⟩ = some (.int .i64 ((rd_T25 zam x20_1).f1)) := (blk_cell za0.out 1).trans rfl;have zdS : w24.cell? ⟨gb151,2,none⟩ = some (.slice A150_2 ((rd_T25 zam x20_1).f2).length c150_2) := (blk_cell za0.out 2).trans rfl;have zdT := blk_frozen za0.out 0;have zdU := blk_frozen za0.out 1;have zdV := blk_frozen za0.out 2;obtain ⟨Ao26,co26,eo26⟩ := Kd.V_slice zcn.out;subst eo26) | ((with_reducible refine gate_store (t := 25) (p := 6) rfl ?_);refine store_event (t := 25) (p := 6) (v := ?vo_w27) (w1 := (((w24.setCell ⟨gb151,0,none⟩ (.int .i64 t152)).setCell ⟨gb151,1,none⟩ (.int .i64 t153)).setCell ⟨gb151,2,none⟩ (.slice Ao26 t154.length co26))) ?hg ?ho ?hn ?hr ?_;(case ho => rfl);(case hg => rfl);(case hn => rfl);(case hr => first | (go_simp;done) | (go_simp;rfl));intro w27 hw;have n0_ : Aside0 (Kd.N k25 25 w27 w.heap.size (fun k_ => (zbm k_ ∨ w.heap.size ≤ k_) ∧ k_ ≠ gb145 ∧ k_ ≠ gb146 ∧ k_ ≠ gb151) u3 x3_1) := ⟨(by rw [hw];exact (Kd.N_mono (Kd.N_far (p := ⟨gb151,2,none⟩) (Kd.N_far (p := ⟨gb151,1,none⟩) (Kd.N_far (p := ⟨gb151,0,none⟩) (Kd.N_mono zbU.out (fun k_ hk => (⟨hk,hk.2.2.2⟩ : _ ∧ k_ ≠ gb151))) (fun _ hk => hk.2) (.int .i64 t152)) (fun _ hk => hk.2) (.int .i64 t153)) (fun _ hk => hk.2) (.slice Ao26 t154.length co26)) (fun _ hk => ⟨hk.1.1,⟨hk.1.2.1,⟨hk.1.2.2.1,hk.1.2.2.2⟩⟩⟩)))⟩;have n1_ : Aside0 (Kd.V k25 25 w27 w.heap.size (fun k_ => (zbm k_ ∨ w.heap.size ≤ k_) ∧ some k_ ≠ (u3 : Value).ownBlock ∧ k_ ≠ gb145 ∧ k_ ≠ gb146 ∧ k_ ≠ gb151) (.slice (some ad150) zam.length za1) zam) := ⟨(by rw [hw];exact (Kd.V_mono (Kd.V_far (p := ⟨gb151,2,none⟩) (Kd.V_far (p := ⟨gb151,1,none⟩) (Kd.V_far (p := ⟨gb151,0,none⟩) (Kd.V_mono zbK.out (fun k_ hk => (⟨hk,hk.2.2.2.2⟩ : _ ∧ k_ ≠ gb151))) (fun _ hk => hk.2) (.int .i64 t152)) (fun _ hk => hk.2) (.int .i64 t153)) (fun _ hk => hk.2) (.slice Ao26 t154.length co26)) (fun _ hk => ⟨hk.1.1,⟨hk.1.2.1,⟨hk.1.2.2.1,⟨hk.1.2.2.2.1,hk.1.2.2.2.2⟩⟩⟩⟩)))⟩;have n2_ : Aside0 (Kd.V k25 25 w27 w.heap.size (fun k_ => (zbm k_ ∨ w.heap.size ≤ k_) ∧ some k_ ≠ (u3 : Value).ownBlock ∧ k_ ≠ gb145 ∧ k_ ≠ gb146 ∧ k_ ≠ gb151) (.slice (some ad150) zam.length za1) zam) := ⟨(by rw [hw];exact (Kd.V_mono (Kd.V_far (p := ⟨gb151,2,none⟩) (Kd.V_far (p := ⟨gb151,1,none⟩) (Kd.V_far (p := ⟨gb151,0,none⟩) (Kd.V_mono zap.out (fun k_ hk => (⟨hk,hk.2.2.2.2⟩ : _ ∧ k_ ≠ gb151))) (fun _ hk => hk.2) (.int .i64 t152)) (fun _ hk => hk.2) (.int .i64 t153)) (fun _ hk => hk.2) (.slice Ao26 t154.length co26)) (fun _ hk => ⟨hk.1.1,⟨hk.1.2.1,⟨hk.1.2.2.1,⟨hk.1.2.2.2.1,hk.1.2.2.2.2⟩⟩⟩⟩)))⟩;have n3_ : Aside0 (Kd.V k25 25 w27 w.heap.size (fun k_ => (zbm k_ ∨ w.heap.size ≤ k_) ∧ some k_ ≠ (u3 : Value).ownBlock ∧ k_ ≠ gb145 ∧ k_ ≠ gb146 ∧ k_ ≠ gb151) (.slice A150_2 ((rd_T25 zam x20_1).f2).length c150_2) ((rd_T25 zam x20_1).f2)) := ⟨(by rw [hw];exact (Kd.V_mono (Kd.V_far (p := ⟨gb151,2,none⟩) (Kd.V_far (p := ⟨gb151,1,none⟩) (Kd.V_far (p := ⟨gb151,0,none⟩) (Kd.V_mono zaV.out (fun k_ hk => (⟨hk,hk.2.2.2.2⟩ : _ ∧ k_ ≠ gb151))) (fun _ hk => hk.2) (.int .i64 t152)) (fun _ hk => hk.2) (.int .i64 t153)) (fun _ hk => hk.2) (.slice Ao26 t154.length co26)) (fun _ hk => ⟨hk.1.1,⟨hk.1.2.1,⟨hk.1.2.2.1,⟨hk.1.2.2.2.1,hk.1.2.2.2.2⟩⟩⟩⟩)))⟩;have n4_ : Aside0 (Kd.V k25 25 w27 w.heap.size (fun k_ => (zbm k_ ∨ w.heap.size ≤ k_) ∧ some k_ ≠ (u3 : Value).ownBlock ∧ k_ ≠ gb145 ∧ k_ ≠ gb146 ∧ k_ ≠ gb151) (.slice Ao26 t154.length co26) t154) := ⟨(by rw [hw];exact (Kd.V_mono (Kd.V_far (p := ⟨gb151,2,none⟩) (Kd.V_far (p := ⟨gb151,1,none⟩) (Kd.V_far (p := ⟨gb151,0,none⟩) (Kd.V_mono zcn.out (fun k_ hk => (⟨hk,hk.2.2.2.2⟩ : _ ∧ k_ ≠ gb151))) (fun _ hk => hk.2) (.int .i64 t152)) (fun _ hk => hk.2) (.int .i64 t153)) (fun _ hk => hk.2) (.slice Ao26 t154.length co26)) (fun _ hk => ⟨hk.1.1,⟨hk.1.2.1,⟨hk.1.2.2.1,⟨hk.1.2.2.2.1,hk.1.2.2.2.2⟩⟩⟩⟩)))⟩;have n5_ : Aside0 (w27.heap[gb145]? = some (.cells #[.int .i64 zay,.int .i64 zaK,.slice (some ad150) zam.length za1] 25 (0,0))) := ⟨(by rw [hw];exact (by (with_reducible repeat (first | refine blk_drewN ?_ _ | refine blk_drew ?_ | refine blk_alloc ?_ _));refine blk_far ?_ zbD.out _;(with_reducible repeat (first | refine blk_drewN ?_ _ | refine blk_drew ?_ | refine blk_alloc ?_ _));refine blk_far ?_ zbD.out _;(with_reducible repeat (first | refine blk_drewN ?_ _ | refine blk_drew ?_ | refine blk_alloc ?_ _));refine blk_far ?_ zbD.out _;(with_reducible repeat (first | refine blk_drewN ?_ _ | refine blk_drew ?_ | refine blk_alloc ?_ _));exact zaA.out))⟩;have n6_ : Aside0 (w27.heap[gb146]? = some (.cells #[.int .i64 0,.int .i64 0,.slice none 0 0] 25 (0,0))) := ⟨(by rw [hw];exact (by (with_reducible repeat (first | refine blk_drewN ?_ _ | refine blk_drew ?_ | refine blk_alloc ?_ _));refine blk_far ?_ zbE.out _;(with_reducible repeat (first | refine blk_drewN ?_ _ | refine blk_drew ?_ | refine blk_alloc ?_ _));refine blk_far ?_ zbE.out _;(with_reducible repeat (first | refine blk_drewN ?_ _ | refine blk_drew ?_ | refine blk_alloc ?_ _));refine blk_far ?_ zbE.out _;(with_reducible repeat (first | refine blk_drewN ?_ _ | refine blk_drew ?_ | refine blk_alloc ?_ _));exact zaz.out))⟩;have n7_ : Aside0 (w27.heap[gb151]? = some (.cells #[.int .i64 t152,.int .i64 t153,.slice Ao26 t154.length co26] 25 (0,0))) := ⟨(by rw [hw];exact (by (with_reducible repeat (first | refine blk_drewN ?_ _ | refine blk_drew ?_ | refine blk_alloc ?_ _));refine blk_put (cs := #[.int .i64 t152,.int .i64 t153,.slice A150_2 ((rd_T25 zam x20_1).f2).length c150_2]) ?_ 2 _ rfl;(with_reducible repeat (first | refine blk_drewN ?_ _ | refine blk_drew ?_ | refine blk_alloc ?_ _));refine blk_put (cs := #[.int .i64 t152,.int .i64 ((rd_T25 zam x20_1).f1),.slice A150_2 ((rd_T25 zam x20_1).f2).length c150_2]) ?_ 1 _ rfl;(with_reducible repeat (first | refine blk_drewN ?_ _ | refine blk_drew ?_ | refine blk_alloc ?_ _));refine blk_put (cs := #[.int .i64 ((rd_T25 zam x20_1).f0),.int .i64 ((rd_T25 zam x20_1).f1),.slice A150_2 ((rd_T25 zam x20_1).f2).length c150_2]) ?_ 0 _ rfl;(with_reducible repeat (first | refine blk_drewN ?_ _ | refine blk_drew ?_ | refine blk_alloc ?_ _));exact za0.out))⟩;have n8_ : Aside0 (Below w.heap.size w w27) := ⟨(by rw [hw];exact (by repeat (first | (with_reducible first | exact HB.out | apply below_alloc | apply pw_below_drewN | apply below_drew1 | refine below_set ?_ zbR.out | refine below_set ?_ zbA.out | refine below_set ?_ zcE.out) | exact HB.out)))⟩;clear hw;clear zbU;clear zbK;clear zap;clear zaV;clear zcn;clear zaA;clear zaz;clear za0;clear HB;have zbU := n0_;have zbK := n1_;have zap := n2_;have zaV := n3_;(try (replace zbs := am (Kd.V_reads' zaV.out).2.2));(try (replace zbs := am (Kd.V_reads' zaV.out).2.2));have zcn := n4_;have zaA := n5_;have zaz := n6_;have za0 := n7_;have HB := n8_;clear n0_ n1_ n2_ n3_ n4_ n5_ n6_ n7_ n8_;have zeB : w27.cell? ⟨gb151,0,none⟩ = some (.int .i64 t152) := (blk_cell za0.out 0).trans rfl;have zeC : w27.cell? ⟨gb151,1,none⟩ = some (.int .i64 t153) := (blk_cell za0.out 1).trans rfl;have zeD : w27.cell? ⟨gb151,2,none⟩ = some (.slice Ao26 t154.length co26) := (blk_cell za0.out 2).trans rfl;have zeE := blk_frozen za0.out 0;have zeF := blk_frozen za0.out 1;have zeG := blk_frozen za0.out 2) | ((with_reducible refine gate_builtin (b := .append) (xs := #[.tmp 26,.tmp 28]) rfl ?_);at_builtin;refine Kd.N_append k25 (w0 := w) w.heap.size rfl (.tmp 26) (.tmp 28) 23 25 (.agg #[(.int .i64 0),(.int .i64 0),(.slice none 0 0)]) 40 rfl Tryd.underlying23 info25 rfl (by decide) (by omega) u3 x3_1 (⟨t152,t153,t154⟩ : S25) [.int .i64 t152,.int .i64 t153,.slice Ao26 t154.length co26] (fun k_ => (zbm k_ ∨ w.heap.size ≤ k_) ∧ k_ ≠ gb145 ∧ k_ ≠ gb146 ∧ k_ ≠ gb151) (fun k_ => ((fun k_ => (zbm k_ ∨ w.heap.size ≤ k_) ∧ k_ ≠ gb145 ∧ k_ ≠ gb146 ∧ k_ ≠ gb151)) k_ ∧ some k_ ≠ (u3 : Value).ownBlock) rfl rfl ?aP (fun _ hk => hk) ?aF ?aO ?aB ?aS ?aL ?_;(case aP => exact (k25_mkF _ _ (⟨t152,t153,t154⟩ : S25) (Kd.V_reads' (Kd.V_mono (ok' := (fun k_ => ((fun k_ => (zbm k_ ∨ w.heap.size ≤ k_) ∧ k_ ≠ gb145 ∧ k_ ≠ gb146 ∧ k_ ≠ gb151)) k_ ∧ some k_ ≠ (u3 : Value).ownBlock)) (zcn.out) (fun k_ hk => ⟨⟨hk.1,⟨hk.2.2.1,⟨hk.2.2.2.1,hk.2.2.2.2⟩⟩⟩,hk.2.1⟩))).2.1 (Kd.V_F (Kd.V_mono (ok' := (fun k_ => ((fun k_ => (zbm k_ ∨ w.heap.size ≤ k_) ∧ k_ ≠ gb145 ∧ k_ ≠ gb146 ∧ k_ ≠ gb151)) k_ ∧ some k_ ≠ (u3 : Value).ownBlock)) (zcn.out) (fun k_ hk => ⟨⟨hk.1,⟨hk.2.2.1,⟨hk.2.2.2.1,hk.2.2.2.2⟩⟩⟩,hk.2.1⟩)))));(case aB => exact (by repeat (first | (with_reducible first | exact HB.out | apply below_alloc | apply pw_below_drewN | apply below_drew1 | refine below_set ?_ zbR.out | refine below_set ?_ zbA.out | refine below_set ?_ zcE.out) | exact HB.out)));(case aF => exact (fun k_ hk => ⟨(.inr (Nat.le_trans (below_size (by repeat (first | (with_reducible first | exact HB.out | apply below_alloc | apply pw_below_drewN | apply below_drew1 | refine below_set ?_ zbR.out | refine below_set ?_ zbA.out | refine below_set ?_ zcE.out) | exact HB.out))) hk)),Kd.freshB (g := gb145) (o := .cells #[.int .i64 zay,.int .i64 zaK,.slice (some ad150) zam.length za1] 25 (0,0)) zaA.out k_ hk,Kd.freshB (g := gb146) (o := .cells #[.int .i64 0,.int .i64 0,.slice none 0 0] 25 (0,0)) zaz.out k_ hk,Kd.freshB (g := gb151) (o := .cells #[.int .i64 t152,.int .i64 t153,.slice Ao26 t154.length co26] 25 (0,0)) za0.out k_ hk⟩));(case aO => exact zbU.out);(case aS => exact (below_size (by repeat (first | (with_reducible first | exact HB.out | apply below_alloc | apply pw_below_drewN | apply below_drew1 | refine below_set ?_ zbR.out | refine below_set ?_ zbA.out | refine below_set ?_ zcE.out) | exact HB.out))));(case aL => have := LMc15.out;omega);intro v158 w29 ho hb hg hat;rw [← Ny157.out] at ho;have n0_ := am (Kd.V_afterv (ok := (fun k_ => (zbm k_ ∨ w.heap.size ≤ k_) ∧ k_ ≠ gb145 ∧ k_ ≠ gb146 ∧ k_ ≠ gb151)) (Kd.V_mono zbK.out (fun _ hk => ⟨⟨hk.1,⟨hk.2.2.1,⟨hk.2.2.2.1,hk.2.2.2.2⟩⟩⟩,hk.2.1⟩)) hg hat);have n1_ := am (Kd.V_afterv (ok := (fun k_ => (zbm k_ ∨ w.heap.size ≤ k_) ∧ k_ ≠ gb145 ∧ k_ ≠ gb146 ∧ k_ ≠ gb151)) (Kd.V_mono zap.out (fun _ hk => ⟨⟨hk.1,⟨hk.2.2.1,⟨hk.2.2.2.1,hk.2.2.2.2⟩⟩⟩,hk.2.1⟩)) hg hat);have n2_ := am (blk_grown (g := gb145) (o := .cells #[.int .i64 zay,.int .i64 zaK,.slice (some ad150) zam.length za1] 25 (0,0)) zaA.out hg (Kd.N_away zbU.out (fun _ hk => hk.2.1)));have n3_ := am (blk_grown (g := gb146) (o := .cells #[.int .i64 0,.int .i64 0,.slice none 0 0] 25 (0,0)) zaz.out hg (Kd.N_away zbU.out (fun _ hk => hk.2.2.1)));have n4_ := am (Kd.V_afterv (ok := (fun k_ => (zbm k_ ∨ w.heap.size ≤ k_) ∧ k_ ≠ gb145 ∧ k_ ≠ gb146 ∧ k_ ≠ gb151)) (Kd.V_mono zaV.out (fun _ hk => ⟨⟨hk.1,⟨hk.2.2.1,⟨hk.2.2.2.1,hk.2.2.2.2⟩⟩⟩,hk.2.1⟩)) hg hat);have n5_ := am (blk_grown (g := gb151) (o := .cells #[.int .i64 t152,.int .i64 t153,.slice Ao26 t154.length co26] 25 (0,0)) za0.out hg (Kd.N_away zbU.out (fun _ hk => hk.2.2.2)));have n6_ := am (Kd.V_afterv (ok := (fun k_ => (zbm k_ ∨ w.heap.size ≤ k_) ∧ k_ ≠ gb145 ∧ k_ ≠ gb146 ∧ k_ ≠ gb151)) (Kd.V_mono zcn.out (fun _ hk => ⟨⟨hk.1,⟨hk.2.2.1,⟨hk.2.2.2.1,hk.2.2.2.2⟩⟩⟩,hk.2.1⟩)) hg hat);have n7_ := am (hb);have n8_ := am (ho);clear zbK;clear zap;clear zaA;clear zaz;clear zaV;clear za0;clear zcn;clear HB;clear zbU;have zbK := n0_;have zap := n1_;have zaA := n2_;have zaz := n3_;have zaV := n4_;have za0 := n5_;have zcn := n6_;have HB := n7_;have zgE := n8_;clear n0_ n1_ n2_ n3_ n4_ n5_ n6_ n7_ n8_;clear ho hb hg hat;have zhJ : w29.cell? ⟨gb151,0,none⟩ = some (.int .i64 t152) := (blk_cell za0.out 0).trans rfl;have zhK : w29.cell? ⟨gb151,1,none⟩ = some (.int .i64 t153) := (blk_cell za0.out 1).trans rfl;have zhL : w29.cell? ⟨gb151,2,none⟩ = some (.slice Ao26 t154.length co26) := (blk_cell za0.out 2).trans rfl;have zhM := blk_frozen za0.out 0;have zhN := blk_frozen za0.out 1;have zhO := blk_frozen za0.out 2) | (go_at_call 78;(with_reducible refine (tree_constant.calls t152 t153 _ _ t154 t160 _ ?za8 ?zbh A17.out).mono ?_);(case za8 => repeat (first | exact (Kd.V_reads' zcn.out).2.2 | (with_reducible refine Kd.C_alloc ?_ _) | (with_reducible refine Kd.C_drewN ?_ _) | (with_reducible refine Kd.C_drew ?_)));(case zbh => exact (Kd.V_reads' zcn.out).2.1);rintro e w31 ⟨rfl,hb⟩;have n0_ := am (Kd.V_below zbK.out hb);have n1_ := am (Kd.V_below zap.out hb);have n2_ := am (Kd.V_below zaV.out hb);have n3_ := am (Kd.V_below zcn.out hb);have n4_ := am (Kd.N_below zgE.out hb);have n5_ := am (blk_below (g := gb145) (o := .cells #[.int .i64 zay,.int .i64 zaK,.slice (some ad150) zam.length za1] 25 (0,0)) zaA.out hb);have n6_ := am (blk_below (g := gb146) (o := .cells #[.int .i64 0,.int .i64 0,.slice none 0 0] 25 (0,0)) zaz.out hb);have n7_ := am (blk_below (g := gb151) (o := .cells #[.int .i64 t152,.int .i64 t153,.slice Ao26 t154.length co26] 25 (0,0)) za0.out hb);have n8_ := am (below_step (by repeat (first | (with_reducible first | exact HB.out | apply below_alloc | apply pw_below_drewN | apply below_drew1 | refine below_set ?_ zbR.out | refine below_set ?_ zbA.out | refine below_set ?_ zcE.out) | exact HB.out)) hb);clear zbK;clear zap;clear zaV;clear zcn;clear zgE;clear zaA;clear zaz;clear za0;clear HB;have zbK := n0_;have zap := n1_;have zaV := n2_;have zcn := n3_;have zgE := n4_;have zaA := n5_;have zaz := n6_;have za0 := n7_;have HB := n8_;clear n0_ n1_ n2_ n3_ n4_ n5_ n6_ n7_ n8_;(try clear hb);(try clear hb2);(try clear hk);(try clear hi)))
          go_roundg k1
          case measure => have := HK1.out;omega
          case rel => exact ⟨(y157),(t160),(wrap64 (x20_1 + 1)),(by first | rfl | (simp;done) | (simp [*];done)),(by first | rfl | (simp;done) | (simp [*];done)),H',⟨by have := HK1.out;omega⟩,⟨by (with_reducible repeat (first | apply Kd.N_alloc | apply Kd.N_drewN | apply Kd.N_drew));exact Kd.N_mono zgE.out (fun _ hk => ⟨hk.1,⟨hk.2.1,hk.2.2.1⟩⟩)⟩,⟨by (with_reducible repeat (first | apply Kd.V_alloc | apply Kd.V_drewN | apply Kd.V_drew));exact Kd.V_mono zbK.out (fun _ hk => ⟨hk.1.1,⟨hk.2,⟨hk.1.2.1,hk.1.2.2.1⟩⟩⟩)⟩,⟨by (with_reducible repeat (first | apply Kd.V_alloc | apply Kd.V_drewN | apply Kd.V_drew));exact Kd.V_mono zap.out (fun _ hk => ⟨hk.1.1,⟨hk.2,⟨hk.1.2.1,hk.1.2.2.1⟩⟩⟩)⟩,⟨by (with_reducible repeat (first | refine blk_drewN ?_ _ | refine blk_drew ?_ | refine blk_alloc ?_ _));exact zaA.out⟩,⟨by (with_reducible repeat (first | refine blk_drewN ?_ _ | refine blk_drew ?_ | refine blk_alloc ?_ _));exact zaz.out⟩,⟨by repeat (first | (with_reducible first | exact HB.out | apply below_alloc | apply pw_below_drewN | apply below_drew1 | refine below_set ?_ zbR.out | refine below_set ?_ zbA.out | refine below_set ?_ zcE.out) | exact HB.out)⟩⟩
         ·replace c16 := Bool.eq_false_iff.mpr c16
          subst c16
          have H1 : (tree_fold.l0 k1 y157 false zam (zam.length : Int) (wrap64 (x20_1 + 1)) zay zaK zam) = some (r1,r2,r3) := by rw [if_neg (show ¬ (false = true) by decide)] at H;exact H
          clear H
          have H := H1
          clear H1
          have H' := am H
          clear H
          have zhE : 0 ≤ (x20_1 : Int) := of_decide_eq_true (by first | (with_reducible assumption) | assumption)
          have zhF : x20_1 < (zam.length : Int) := of_decide_eq_true (by first | (with_reducible assumption) | assumption)
          obtain ⟨ad150,A150_2,c150_2,e150,zga,zgb,zed,zee,zef⟩ := at_T25 (Kd.V_reads' zbK.out).2.2 x20_1 zhE zhF
          cases e150
          obtain ⟨ce150,zhG,hMe150,ze8⟩ := Kd.V_get zbK.out z25 x20_1 zhE (by first | exact zhF | exact of_decide_eq_true (by first | (with_reducible assumption) | assumption) | (have e_ := (Kd.V_reads' zbK.out).1;omega))
          obtain ⟨ua150_2,uc150_2,rfl,zdc,zdd⟩ := k25_openF hMe150
          have zcJ := ze8 2 _ rfl
          rw [add_field _ _ 2 (by omega)] at zcJ
          replace zcJ := Option.some.inj (zcJ.symm.trans zed)
          injection zcJ with zex zgD zey
          rw [zex] at zdd
          rw [zey] at zdc
          have zaV := am (show Kd.V k25 25 _ w.heap.size _ _ ((rd_T25 zam x20_1).f2) from Kd.V_mk zdc zdd)
          clear zex zgD zey zdd zdc
          clear ze8 zhG
          have zbs := am zef
          have HC150_2 := am zee
          clear zef zee
          replace zhE := eq_true zhE
          replace zhF := eq_true zhF
          go_wp2_with (first | ((with_reducible refine gate_dst (N := 6) rfl ?_);refine box_event ?hg (N := 6) ?hd (cs := #[.int .i64 0,.int .i64 0,.slice none 0 0]) (t := 25) ?hr ?_;(case hd => rfl);(case hg => rfl);(case hr => first | (go_simp;done) | (go_simp;rfl));intro gb151 hg w32 zan hb;have n0_ := am (Kd.N_below (Kd.N_elderB zbU.out gb151 (Nat.le_of_eq hg.symm)) hb);have n1_ := am (Kd.V_below (Kd.V_elderB zbK.out gb151 (Nat.le_of_eq hg.symm)) hb);have n2_ := am (Kd.V_below (Kd.V_elderB zap.out gb151 (Nat.le_of_eq hg.symm)) hb);have n3_ := am (Kd.V_below (Kd.V_elderB zaV.out gb151 (Nat.le_of_eq hg.symm)) hb);have n4_ := am (blk_below (g := gb145) (o := .cells #[.int .i64 zay,.int .i64 zaK,.slice (some ad150) zam.length za1] 25 (0,0)) zaA.out hb);have n5_ := am (blk_below (g := gb146) (o := .cells #[.int .i64 0,.int .i64 0,.slice none 0 0] 25 (0,0)) zaz.out hb);have n6_ := am (Kd.C_below (by repeat (first | (with_reducible exact zbs.out) | (with_reducible refine Kd.C_alloc ?_ _) | (with_reducible refine Kd.C_drewN ?_ _) | (with_reducible refine Kd.C_drew ?_) | exact zbs.out)) hb);have n7_ := am (below_step (by repeat (first | (with_reducible first | exact HB.out | apply below_alloc | apply pw_below_drewN | apply below_drew1 | refine below_set ?_ zbR.out | refine below_set ?_ zbA.out) | exact HB.out)) hb);have n8_ := am (zan);have n9_ := am ((by rw [hg];exact (below_size (by repeat (first | (with_reducible first | exact HB.out | apply below_alloc | apply pw_below_drewN | apply below_drew1 | refine below_set ?_ zbR.out | refine below_set ?_ zbA.out) | exact HB.out))) : w.heap.size ≤ gb151));have zhH := am ((by rw [hg];exact (below_size (by repeat (first | (with_reducible first | exact HB.out | apply below_alloc | apply pw_below_drewN | apply below_drew1 | refine below_set ?_ zbR.out | refine below_set ?_ zbA.out) | exact HB.out))) : w.heap.size ≤ gb151));have zhI := am ((by rw [hg];exact Nat.ne_of_lt (blk_lt (g := gb145) (o := .cells #[.int .i64 zay,.int .i64 zaK,.slice (some ad150) zam.length za1] 25 (0,0)) zaA.out) : gb145 ≠ gb151));have n12_ := am ((by rw [hg];exact Nat.ne_of_gt (blk_lt (g := gb145) (o := .cells #[.int .i64 zay,.int .i64 zaK,.slice (some ad150) zam.length za1] 25 (0,0)) zaA.out) : gb151 ≠ gb145));have n13_ := am ((by rw [hg];exact Nat.ne_of_lt (blk_lt (g := gb146) (o := .cells #[.int .i64 0,.int .i64 0,.slice none 0 0] 25 (0,0)) zaz.out) : gb146 ≠ gb151));have n14_ := am ((by rw [hg];exact Nat.ne_of_gt (blk_lt (g := gb146) (o := .cells #[.int .i64 0,.int .i64 0,.slice none 0 0] 25 (0,0)) zaz.out) : gb151 ≠ gb146));clear zbU;clear zbK;clear zap;clear zaV;clear zaA;clear zaz;clear zbs;clear HB;have zbU := n0_;have zbK := n1_;have zap := n2_;have zaV := n3_;have zaA := n4_;have zaz := n5_;have zbs := n6_;have HB := n7_;have za0 := n8_;have GW151 := n9_;have zcE := zhH;have zbD := zhI;have zeg := n12_;have zbE := n13_;have zeh := n14_;clear n0_ n1_ n2_ n3_ n4_ n5_ n6_ n7_ n8_ n9_ zhH zhI n12_ n13_ n14_;clear hb zan hg;have hnb33 := zeg.out;have hnc33 := zbD.out;have hnb34 := zeh.out;have hnc34 := zbE.out;have zfG : w32.cell? ⟨gb151,0,none⟩ = some (.int .i64 0) := (blk_cell za0.out 0).trans rfl;have zfH : w32.cell? ⟨gb151,1,none⟩ = some (.int .i64 0) := (blk_cell za0.out 1).trans rfl;have zfI : w32.cell? ⟨gb151,2,none⟩ = some (.slice none 0 0) := (blk_cell za0.out 2).trans rfl;have zfJ := blk_frozen za0.out 0;have zfK := blk_frozen za0.out 1;have zfL := blk_frozen za0.out 2) | ((with_reducible refine gate_store (t := 25) (p := 6) rfl ?_);refine store_event (t := 25) (p := 6) (v := ?vo_w36) (w1 := (((w32.setCell ⟨gb151,0,none⟩ (.int .i64 ((rd_T25 zam x20_1).f0))).setCell ⟨gb151,1,none⟩ (.int .i64 ((rd_T25 zam x20_1).f1))).setCell ⟨gb151,2,none⟩ (.slice A150_2 ((rd_T25 zam x20_1).f2).length c150_2))) ?hg ?ho ?hn ?hr ?_;(case ho => rfl);(case hg => rfl);(case hn => rfl);(case hr => first | (go_simp;done) | (go_simp;rfl));intro w36 hw;have n0_ : Aside0 (Kd.N k25 25 w36 w.heap.size (fun k_ => (zbm k_ ∨ w.heap.size ≤ k_) ∧ k_ ≠ gb145 ∧ k_ ≠ gb146 ∧ k_ ≠ gb151) u3 x3_1) := ⟨(by rw [hw];exact (Kd.N_mono (Kd.N_far (p := ⟨gb151,2,none⟩) (Kd.N_far (p := ⟨gb151,1,none⟩) (Kd.N_far (p := ⟨gb151,0,none⟩) (Kd.N_mono zbU.out (fun k_ hk => (⟨hk,hk.2⟩ : _ ∧ k_ ≠ gb151))) (fun _ hk => hk.2) (.int .i64 ((rd_T25 zam x20_1).f0))) (fun _ hk => hk.2) (.int .i64 ((rd_T25 zam x20_1).f1))) (fun _ hk => hk.2) (.slice A150_2 ((rd_T25 zam x20_1).f2).length c150_2)) (fun _ hk => ⟨hk.1.1.1,⟨hk.1.1.2.1,⟨hk.1.1.2.2,hk.1.2⟩⟩⟩)))⟩;have n1_ : Aside0 (Kd.V k25 25 w36 w.heap.size (fun k_ => (zbm k_ ∨ w.heap.size ≤ k_) ∧ some k_ ≠ (u3 : Value).ownBlock ∧ k_ ≠ gb145 ∧ k_ ≠ gb146 ∧ k_ ≠ gb151) (.slice (some ad150) zam.length za1) zam) := ⟨(by rw [hw];exact (Kd.V_mono (Kd.V_far (p := ⟨gb151,2,none⟩) (Kd.V_far (p := ⟨gb151,1,none⟩) (Kd.V_far (p := ⟨gb151,0,none⟩) (Kd.V_mono zbK.out (fun k_ hk => (⟨hk,hk.2⟩ : _ ∧ k_ ≠ gb151))) (fun _ hk => hk.2) (.int .i64 ((rd_T25 zam x20_1).f0))) (fun _ hk => hk.2) (.int .i64 ((rd_T25 zam x20_1).f1))) (fun _ hk => hk.2) (.slice A150_2 ((rd_T25 zam x20_1).f2).length c150_2)) (fun _ hk => ⟨hk.1.1.1,⟨hk.1.1.2.1,⟨hk.1.1.2.2.1,⟨hk.1.1.2.2.2,hk.1.2⟩⟩⟩⟩)))⟩;have n2_ : Aside0 (Kd.V k25 25 w36 w.heap.size (fun k_ => (zbm k_ ∨ w.heap.size ≤ k_) ∧ some k_ ≠ (u3 : Value).ownBlock ∧ k_ ≠ gb145 ∧ k_ ≠ gb146 ∧ k_ ≠ gb151) (.slice (some ad150) zam.length za1) zam) := ⟨(by rw [hw];exact (Kd.V_mono (Kd.V_far (p := ⟨gb151,2,none⟩) (Kd.V_far (p := ⟨gb151,1,none⟩) (Kd.V_far (p := ⟨gb151,0,none⟩) (Kd.V_mono zap.out (fun k_ hk => (⟨hk,hk.2⟩ : _ ∧ k_ ≠ gb151))) (fun _ hk => hk.2) (.int .i64 ((rd_T25 zam x20_1).f0))) (fun _ hk => hk.2) (.int .i64 ((rd_T25 zam x20_1).f1))) (fun _ hk => hk.2) (.slice A150_2 ((rd_T25 zam x20_1).f2).length c150_2)) (fun _ hk => ⟨hk.1.1.1,⟨hk.1.1.2.1,⟨hk.1.1.2.2.1,⟨hk.1.1.2.2.2,hk.1.2⟩⟩⟩⟩)))⟩;have n3_ : Aside0 (Kd.V k25 25 w36 w.heap.size (fun k_ => (zbm k_ ∨ w.heap.size ≤ k_) ∧ some k_ ≠ (u3 : Value).ownBlock ∧ k_ ≠ gb145 ∧ k_ ≠ gb146 ∧ k_ ≠ gb151) (.slice A150_2 ((rd_T25 zam x20_1).f2).length c150_2) ((rd_T25 zam x20_1).f2)) := ⟨(by rw [hw];exact (Kd.V_mono (Kd.V_far (p := ⟨gb151,2,none⟩) (Kd.V_far (p := ⟨gb151,1,none⟩) (Kd.V_far (p := ⟨gb151,0,none⟩) (Kd.V_mono zaV.out (fun k_ hk => (⟨hk,hk.2⟩ : _ ∧ k_ ≠ gb151))) (fun _ hk => hk.2) (.int .i64 ((rd_T25 zam x20_1).f0))) (fun _ hk => hk.2) (.int .i64 ((rd_T25 zam x20_1).f1))) (fun _ hk => hk.2) (.slice A150_2 ((rd_T25 zam x20_1).f2).length c150_2)) (fun _ hk => ⟨hk.1.1.1,⟨hk.1.1.2.1,⟨hk.1.1.2.2.1,⟨hk.1.1.2.2.2,hk.1.2⟩⟩⟩⟩)))⟩;have n4_ : Aside0 (w36.heap[gb145]? = some (.cells #[.int .i64 zay,.int .i64 zaK,.slice (some ad150) zam.length za1] 25 (0,0))) := ⟨(by rw [hw];exact (by (with_reducible repeat (first | refine blk_drewN ?_ _ | refine blk_drew ?_ | refine blk_alloc ?_ _));refine blk_far ?_ zbD.out _;(with_reducible repeat (first | refine blk_drewN ?_ _ | refine blk_drew ?_ | refine blk_alloc ?_ _));refine blk_far ?_ zbD.out _;(with_reducible repeat (first | refine blk_drewN ?_ _ | refine blk_drew ?_ | refine blk_alloc ?_ _));refine blk_far ?_ zbD.out _;(with_reducible repeat (first | refine blk_drewN ?_ _ | refine blk_drew ?_ | refine blk_alloc ?_ _));exact zaA.out))⟩;have n5_ : Aside0 (w36.heap[gb146]? = some (.cells #[.int .i64 0,.int .i64 0,.slice none 0 0] 25 (0,0))) := ⟨(by rw [hw];exact (by (with_reducible repeat (first | refine blk_drewN ?_ _ | refine blk_drew ?_ | refine blk_alloc ?_ _));refine blk_far ?_ zbE.out _;(with_reducible repeat (first | refine blk_drewN ?_ _ | refine blk_drew ?_ | refine blk_alloc ?_ _));refine blk_far ?_ zbE.out _;(with_reducible repeat (first | refine blk_drewN ?_ _ | refine blk_drew ?_ | refine blk_alloc ?_ _));refine blk_far ?_ zbE.out _;(with_reducible repeat (first | refine blk_drewN ?_ _ | refine blk_drew ?_ | refine blk_alloc ?_ _));exact zaz.out))⟩;have n6_ : Aside0 (w36.heap[gb151]? = some (.cells #[.int .i64 ((rd_T25 zam x20_1).f0),.int .i64 ((rd_T25 zam x20_1).f1),.slice A150_2 ((rd_T25 zam x20_1).f2).length c150_2] 25 (0,0))) := ⟨(by rw [hw];exact (by (with_reducible repeat (first | refine blk_drewN ?_ _ | refine blk_drew ?_ | refine blk_alloc ?_ _));refine blk_put (cs := #[.int .i64 ((rd_T25 zam x20_1).f0),.int .i64 ((rd_T25 zam x20_1).f1),.slice none 0 0]) ?_ 2 _ rfl;(with_reducible repeat (first | refine blk_drewN ?_ _ | refine blk_drew ?_ | refine blk_alloc ?_ _));refine blk_put (cs := #[.int .i64 ((rd_T25 zam x20_1).f0),.int .i64 0,.slice none 0 0]) ?_ 1 _ rfl;(with_reducible repeat (first | refine blk_drewN ?_ _ | refine blk_drew ?_ | refine blk_alloc ?_ _));refine blk_put (cs := #[.int .i64 0,.int .i64 0,.slice none 0 0]) ?_ 0 _ rfl;(with_reducible repeat (first | refine blk_drewN ?_ _ | refine blk_drew ?_ | refine blk_alloc ?_ _));exact za0.out))⟩;have n7_ : Aside0 (Below w.heap.size w w36) := ⟨(by rw [hw];exact (by repeat (first | (with_reducible first | exact HB.out | apply below_alloc | apply pw_below_drewN | apply below_drew1 | refine below_set ?_ zbR.out | refine below_set ?_ zbA.out | refine below_set ?_ zcE.out) | exact HB.out)))⟩;clear hw;clear zbU;clear zbK;clear zap;clear zaV;clear zaA;clear zaz;clear za0;clear HB;have zbU := n0_;have zbK := n1_;have zap := n2_;have zaV := n3_;(try (replace zbs := am (Kd.V_reads' zaV.out).2.2));(try (replace zbs := am (Kd.V_reads' zaV.out).2.2));have zaA := n4_;have zaz := n5_;have za0 := n6_;have HB := n7_;clear n0_ n1_ n2_ n3_ n4_ n5_ n6_ n7_;have zfM : w36.cell? ⟨gb151,0,none⟩ = some (.int .i64 ((rd_T25 zam x20_1).f0)) := (blk_cell za0.out 0).trans rfl;have zfN : w36.cell? ⟨gb151,1,none⟩ = some (.int .i64 ((rd_T25 zam x20_1).f1)) := (blk_cell za0.out 1).trans rfl;have zfO : w36.cell? ⟨gb151,2,none⟩ = some (.slice A150_2 ((rd_T25 zam x20_1).f2).length c150_2) := (blk_cell za0.out 2).trans rfl;have zfP := blk_frozen za0.out 0;have zfQ := blk_frozen za0.out 1;have zfR := blk_frozen za0.out 2) | ((with_reducible refine gate_callee (f := 54) rfl ?_);refine goesL_ (some 25) rfl rfl Tryd.func54 (by kernel_rfl) rfl #[.agg #[.int .i64 ((rd_T25 zam x20_1).f0),.int .i64 ((rd_T25 zam x20_1).f1),.slice A150_2 ((rd_T25 zam x20_1).f2).length c150_2]] rfl (by (try simp only [List.map_toArray,List.map_cons,List.map_nil]);first | done | rfl | (simp only [List.length_drop,List.length_take];rfl)) ?_;(with_reducible refine (ih k1 (by have := HK1.out;omega) ((rd_T25 zam x20_1).f0) ((rd_T25 zam x20_1).f1) (fun k_ => ((zbm k_ ∨ w.heap.size ≤ k_) ∧ (some k_ ≠ (u3 : Value).ownBlock ∧ (k_ ≠ gb145 ∧ (k_ ≠ gb146 ∧ k_ ≠ gb151))))) _ _ ((rd_T25 zam x20_1).f2) t152 t153 t154 _ ?za8 A14.out).mono ?_);(case za8 => exact zaV.out);rintro e w38 ⟨v155,rfl,ho0,hb⟩;refine ⟨_,rfl,?_⟩;have n0_ := am (Kd.N_below zbU.out hb);have n1_ := am (Kd.V_below zbK.out hb);have n2_ := am (Kd.V_below zap.out hb);have n3_ := am (Kd.V_below zaV.out hb);have n4_ := am (Kd.V_lower (Kd.V_mono (ok' := fun k_ => (zbm k_ ∨ w.heap.size ≤ k_) ∧ some k_ ≠ (u3 : Value).ownBlock ∧ k_ ≠ gb145 ∧ k_ ≠ gb146 ∧ k_ ≠ gb151) ho0 (fun k_ hk_ => ⟨Or.elim hk_ (fun hs_ => hs_.1) (fun hn_ => (.inr (Nat.le_trans (below_size (by repeat (first | (with_reducible first | exact HB.out | apply below_alloc | apply pw_below_drewN | apply below_drew1 | refine below_set ?_ zbR.out | refine below_set ?_ zbA.out | refine below_set ?_ zcE.out) | exact HB.out))) hn_))),Or.elim hk_ (fun hs_ => hs_.2.1) (fun hn_ => (Kd.fresh' (Kd.N_lt zbU.out) k_ hn_)),Or.elim hk_ (fun hs_ => hs_.2.2.1) (fun hn_ => (Kd.freshB (g := gb145) (o := .cells #[.int .i64 zay,.int .i64 zaK,.slice (some ad150) zam.length za1] 25 (0,0)) zaA.out k_ hn_)),Or.elim hk_ (fun hs_ => hs_.2.2.2.1) (fun hn_ => (Kd.freshB (g := gb146) (o := .cells #[.int .i64 0,.int .i64 0,.slice none 0 0] 25 (0,0)) zaz.out k_ hn_)),Or.elim hk_ (fun hs_ => hs_.2.2.2.2) (fun hn_ => (Kd.freshB (g := gb151) (o := .cells #[.int .i64 ((rd_T25 zam x20_1).f0),.int .i64 ((rd_T25 zam x20_1).f1),.slice A150_2 ((rd_T25 zam x20_1).f2).length c150_2] 25 (0,0)) za0.out k_ hn_))⟩)) (below_size (by repeat (first | (with_reducible first | exact HB.out | apply below_alloc | apply pw_below_drewN | apply below_drew1 | refine below_set ?_ zbR.out | refine below_set ?_ zbA.out | refine below_set ?_ zcE.out) | exact HB.out))));have n5_ := am (blk_below (g := gb145) (o := .cells #[.int .i64 zay,.int .i64 zaK,.slice (some ad150) zam.length za1] 25 (0,0)) zaA.out hb);have n6_ := am (blk_below (g := gb146) (o := .cells #[.int .i64 0,.int .i64 0,.slice none 0 0] 25 (0,0)) zaz.out hb);have n7_ := am (Kd.C_below (by repeat (first | (with_reducible exact zbs.out) | (with_reducible refine Kd.C_alloc ?_ _) | (with_reducible refine Kd.C_drewN ?_ _) | (with_reducible refine Kd.C_drew ?_) | exact zbs.out)) hb);have n8_ := am (blk_below (g := gb151) (o := .cells #[.int .i64 ((rd_T25 zam x20_1).f0),.int .i64 ((rd_T25 zam x20_1).f1),.slice A150_2 ((rd_T25 zam x20_1).f2).length c150_2] 25 (0,0)) za0.out hb);have n9_ := am (below_step (by repeat (first | (with_reducible first | exact HB.out | apply below_alloc | apply pw_below_drewN | apply below_drew1 | refine below_set ?_ zbR.out | refine below_set ?_ zbA.out | refine below_set ?_ zcE.out) | exact HB.out)) hb);clear zbU;clear zbK;clear zap;clear zaV;clear zaA;clear zaz;clear zbs;clear za0;clear HB;have zbU := n0_;have zbK := n1_;have zap := n2_;have zaV := n3_;have zcn := n4_;have zaA := n5_;have zaz := n6_;have zbs := n7_;have za0 := n8_;have HB := n9_;clear n0_ n1_ n2_ n3_ n4_ n5_ n6_ n7_ n8_ n9_;(try clear hb);(try clear hb2);(try clear hk);(try clear hi);(try clear ho0);have zhP : w38.cell? ⟨gb151,0,none⟩ = some (.int .i64 ((rd_T25 zam x20_1).f0)) := (blk_cell za0.out 0).trans rfl;have zhQ : w38.cell? ⟨gb151,1,none⟩ = some (.int .i64 ((rd_T25 zam x20_1).f1)) := (blk_cell za0.out 1).trans rfl;have zhR : w38.cell? ⟨gb151,2,none⟩ = some (.slice A150_2 ((rd_T25 zam x20_1).f2).length c150_2) := (blk_cell za0.out 2).trans rfl;have zhS := blk_frozen za0.out 0;have zhT := blk_frozen za0.out 1;have zhU := blk_frozen za0.out 2;obtain ⟨Ao40,co40,eo40⟩ := Kd.V_slice zcn.out;subst eo40) | ((with_reducible refine gate_store (t := 25) (p := 6) rfl ?_);refine store_event (t := 25) (p := 6) (v := ?vo_w41) (w1 := (((w38.setCell ⟨gb151,0,none⟩ (.int .i64 t152)).setCell ⟨gb151,1,none⟩ (.int .i64 t153)).setCell ⟨gb151,2,none⟩ (.slice Ao40 t154.length co40))) ?hg ?ho ?hn ?hr ?_;(case ho => rfl);(case hg => rfl);(case hn => rfl);(case hr => first | (go_simp;done) | (go_simp;rfl));intro w41 hw;have n0_ : Aside0 (Kd.N k25 25 w41 w.heap.size (fun k_ => (zbm k_ ∨ w.heap.size ≤ k_) ∧ k_ ≠ gb145 ∧ k_ ≠ gb146 ∧ k_ ≠ gb151) u3 x3_1) := ⟨(by rw [hw];exact (Kd.N_mono (Kd.N_far (p := ⟨gb151,2,none⟩) (Kd.N_far (p := ⟨gb151,1,none⟩) (Kd.N_far (p := ⟨gb151,0,none⟩) (Kd.N_mono zbU.out (fun k_ hk => (⟨hk,hk.2.2.2⟩ : _ ∧ k_ ≠ gb151))) (fun _ hk => hk.2) (.int .i64 t152)) (fun _ hk => hk.2) (.int .i64 t153)) (fun _ hk => hk.2) (.slice Ao40 t154.length co40)) (fun _ hk => ⟨hk.1.1,⟨hk.1.2.1,⟨hk.1.2.2.1,hk.1.2.2.2⟩⟩⟩)))⟩;have n1_ : Aside0 (Kd.V k25 25 w41 w.heap.size (fun k_ => (zbm k_ ∨ w.heap.size ≤ k_) ∧ some k_ ≠ (u3 : Value).ownBlock ∧ k_ ≠ gb145 ∧ k_ ≠ gb146 ∧ k_ ≠ gb151) (.slice (some ad150) zam.length za1) zam) := ⟨(by rw [hw];exact (Kd.V_mono (Kd.V_far (p := ⟨gb151,2,none⟩) (Kd.V_far (p := ⟨gb151,1,none⟩) (Kd.V_far (p := ⟨gb151,0,none⟩) (Kd.V_mono zbK.out (fun k_ hk => (⟨hk,hk.2.2.2.2⟩ : _ ∧ k_ ≠ gb151))) (fun _ hk => hk.2) (.int .i64 t152)) (fun _ hk => hk.2) (.int .i64 t153)) (fun _ hk => hk.2) (.slice Ao40 t154.length co40)) (fun _ hk => ⟨hk.1.1,⟨hk.1.2.1,⟨hk.1.2.2.1,⟨hk.1.2.2.2.1,hk.1.2.2.2.2⟩⟩⟩⟩)))⟩;have n2_ : Aside0 (Kd.V k25 25 w41 w.heap.size (fun k_ => (zbm k_ ∨ w.heap.size ≤ k_) ∧ some k_ ≠ (u3 : Value).ownBlock ∧ k_ ≠ gb145 ∧ k_ ≠ gb146 ∧ k_ ≠ gb151) (.slice (some ad150) zam.length za1) zam) := ⟨(by rw [hw];exact (Kd.V_mono (Kd.V_far (p := ⟨gb151,2,none⟩) (Kd.V_far (p := ⟨gb151,1,none⟩) (Kd.V_far (p := ⟨gb151,0,none⟩) (Kd.V_mono zap.out (fun k_ hk => (⟨hk,hk.2.2.2.2⟩ : _ ∧ k_ ≠ gb151))) (fun _ hk => hk.2) (.int .i64 t152)) (fun _ hk => hk.2) (.int .i64 t153)) (fun _ hk => hk.2) (.slice Ao40 t154.length co40)) (fun _ hk => ⟨hk.1.1,⟨hk.1.2.1,⟨hk.1.2.2.1,⟨hk.1.2.2.2.1,hk.1.2.2.2.2⟩⟩⟩⟩)))⟩;have n3_ : Aside0 (Kd.V k25 25 w41 w.heap.size (fun k_ => (zbm k_ ∨ w.heap.size ≤ k_) ∧ some k_ ≠ (u3 : Value).ownBlock ∧ k_ ≠ gb145 ∧ k_ ≠ gb146 ∧ k_ ≠ gb151) (.slice A150_2 ((rd_T25 zam x20_1).f2).length c150_2) ((rd_T25 zam x20_1).f2)) := ⟨(by rw [hw];exact (Kd.V_mono (Kd.V_far (p := ⟨gb151,2,none⟩) (Kd.V_far (p := ⟨gb151,1,none⟩) (Kd.V_far (p := ⟨gb151,0,none⟩) (Kd.V_mono zaV.out (fun k_ hk => (⟨hk,hk.2.2.2.2⟩ : _ ∧ k_ ≠ gb151))) (fun _ hk => hk.2) (.int .i64 t152)) (fun _ hk => hk.2) (.int .i64 t153)) (fun _ hk => hk.2) (.slice Ao40 t154.length co40)) (fun _ hk => ⟨hk.1.1,⟨hk.1.2.1,⟨hk.1.2.2.1,⟨hk.1.2.2.2.1,hk.1.2.2.2.2⟩⟩⟩⟩)))⟩;have n4_ : Aside0 (Kd.V k25 25 w41 w.heap.size (fun k_ => (zbm k_ ∨ w.heap.size ≤ k_) ∧ some k_ ≠ (u3 : Value).ownBlock ∧ k_ ≠ gb145 ∧ k_ ≠ gb146 ∧ k_ ≠ gb151) (.slice Ao40 t154.length co40) t154) := ⟨(by rw [hw];exact (Kd.V_mono (Kd.V_far (p := ⟨gb151,2,none⟩) (Kd.V_far (p := ⟨gb151,1,none⟩) (Kd.V_far (p := ⟨gb151,0,none⟩) (Kd.V_mono zcn.out (fun k_ hk => (⟨hk,hk.2.2.2.2⟩ : _ ∧ k_ ≠ gb151))) (fun _ hk => hk.2) (.int .i64 t152)) (fun _ hk => hk.2) (.int .i64 t153)) (fun _ hk => hk.2) (.slice Ao40 t154.length co40)) (fun _ hk => ⟨hk.1.1,⟨hk.1.2.1,⟨hk.1.2.2.1,⟨hk.1.2.2.2.1,hk.1.2.2.2.2⟩⟩⟩⟩)))⟩;have n5_ : Aside0 (w41.heap[gb145]? = some (.cells #[.int .i64 zay,.int .i64 zaK,.slice (some ad150) zam.length za1] 25 (0,0))) := ⟨(by rw [hw];exact (by (with_reducible repeat (first | refine blk_drewN ?_ _ | refine blk_drew ?_ | refine blk_alloc ?_ _));refine blk_far ?_ zbD.out _;(with_reducible repeat (first | refine blk_drewN ?_ _ | refine blk_drew ?_ | refine blk_alloc ?_ _));refine blk_far ?_ zbD.out _;(with_reducible repeat (first | refine blk_drewN ?_ _ | refine blk_drew ?_ | refine blk_alloc ?_ _));refine blk_far ?_ zbD.out _;(with_reducible repeat (first | refine blk_drewN ?_ _ | refine blk_drew ?_ | refine blk_alloc ?_ _));exact zaA.out))⟩;have n6_ : Aside0 (w41.heap[gb146]? = some (.cells #[.int .i64 0,.int .i64 0,.slice none 0 0] 25 (0,0))) := ⟨(by rw [hw];exact (by (with_reducible repeat (first | refine blk_drewN ?_ _ | refine blk_drew ?_ | refine blk_alloc ?_ _));refine blk_far ?_ zbE.out _;(with_reducible repeat (first | refine blk_drewN ?_ _ | refine blk_drew ?_ | refine blk_alloc ?_ _));refine blk_far ?_ zbE.out _;(with_reducible repeat (first | refine blk_drewN ?_ _ | refine blk_drew ?_ | refine blk_alloc ?_ _));refine blk_far ?_ zbE.out _;(with_reducible repeat (first | refine blk_drewN ?_ _ | refine blk_drew ?_ | refine blk_alloc ?_ _));exact zaz.out))⟩;have n7_ : Aside0 (w41.heap[gb151]? = some (.cells #[.int .i64 t152,.int .i64 t153,.slice Ao40 t154.length co40] 25 (0,0))) := ⟨(by rw [hw];exact (by (with_reducible repeat (first | refine blk_drewN ?_ _ | refine blk_drew ?_ | refine blk_alloc ?_ _));refine blk_put (cs := #[.int .i64 t152,.int .i64 t153,.slice A150_2 ((rd_T25 zam x20_1).f2).length c150_2]) ?_ 2 _ rfl;(with_reducible repeat (first | refine blk_drewN ?_ _ | refine blk_drew ?_ | refine blk_alloc ?_ _));refine blk_put (cs := #[.int .i64 t152,.int .i64 ((rd_T25 zam x20_1).f1),.slice A150_2 ((rd_T25 zam x20_1).f2).length c150_2]) ?_ 1 _ rfl;(with_reducible repeat (first | refine blk_drewN ?_ _ | refine blk_drew ?_ | refine blk_alloc ?_ _));refine blk_put (cs := #[.int .i64 ((rd_T25 zam x20_1).f0),.int .i64 ((rd_T25 zam x20_1).f1),.slice A150_2 ((rd_T25 zam x20_1).f2).length c150_2]) ?_ 0 _ rfl;(with_reducible repeat (first | refine blk_drewN ?_ _ | refine blk_drew ?_ | refine blk_alloc ?_ _));exact za0.out))⟩;have n8_ : Aside0 (Below w.heap.size w w41) := ⟨(by rw [hw];exact (by repeat (first | (with_reducible first | exact HB.out | apply below_alloc | apply pw_below_drewN | apply below_drew1 | refine below_set ?_ zbR.out | refine below_set ?_ zbA.out | refine below_set ?_ zcE.out) | exact HB.out)))⟩;clear hw;clear zbU;clear zbK;clear zap;clear zaV;clear zcn;clear zaA;clear zaz;clear za0;clear HB;have zbU := n0_;have zbK := n1_;have zap := n2_;have zaV := n3_;(try (replace zbs := am (Kd.V_reads' zaV.out).2.2));(try (replace zbs := am (Kd.V_reads' zaV.out).2.2));have zcn := n4_;have zaA := n5_;have zaz := n6_;have za0 := n7_;have HB := n8_;clear n0_ n1_ n2_ n3_ n4_ n5_ n6_ n7_ n8_;have zhV : w41.cell? ⟨gb151,0,none⟩ = some (.int .i64 t152) := (blk_cell za0.out 0).trans rfl;have zhW : w41.cell? ⟨gb151,1,none⟩ = some (.int .i64 t153) := (blk_cell za0.out 1).trans rfl;have zhX : w41.cell? ⟨gb151,2,none⟩ = some (.slice Ao40 t154.length co40) := (blk_cell za0.out 2).trans rfl;have zhY := blk_frozen za0.out 0;have zhZ := blk_frozen za0.out 1;have zh0 := blk_frozen za0.out 2) | ((with_reducible refine gate_builtin (b := .append) (xs := #[.tmp 26,.tmp 28]) rfl ?_);at_builtin;refine Kd.N_append k25 (w0 := w) w.heap.size rfl (.tmp 26) (.tmp 28) 23 25 (.agg #[(.int .i64 0),(.int .i64 0),(.slice none 0 0)]) 40 rfl Tryd.underlying23 info25 rfl (by decide) (by omega) u3 x3_1 (⟨t152,t153,t154⟩ : S25) [.int .i64 t152,.int .i64 t153,.slice Ao40 t154.length co40] (fun k_ => (zbm k_ ∨ w.heap.size ≤ k_) ∧ k_ ≠ gb145 ∧ k_ ≠ gb146 ∧ k_ ≠ gb151) (fun k_ => ((fun k_ => (zbm k_ ∨ w.heap.size ≤ k_) ∧ k_ ≠ gb145 ∧ k_ ≠ gb146 ∧ k_ ≠ gb151)) k_ ∧ some k_ ≠ (u3 : Value).ownBlock) rfl rfl ?aP (fun _ hk => hk) ?aF ?aO ?aB ?aS ?aL ?_;(case aP => exact (k25_mkF _ _ (⟨t152,t153,t154⟩ : S25) (Kd.V_reads' (Kd.V_mono (ok' := (fun k_ => ((fun k_ => (zbm k_ ∨ w.heap.size ≤ k_) ∧ k_ ≠ gb145 ∧ k_ ≠ gb146 ∧ k_ ≠ gb151)) k_ ∧ some k_ ≠ (u3 : Value).ownBlock)) (zcn.out) (fun k_ hk => ⟨⟨hk.1,⟨hk.2.2.1,⟨hk.2.2.2.1,hk.2.2.2.2⟩⟩⟩,hk.2.1⟩))).2.1 (Kd.V_F (Kd.V_mono (ok' := (fun k_ => ((fun k_ => (zbm k_ ∨ w.heap.size ≤ k_) ∧ k_ ≠ gb145 ∧ k_ ≠ gb146 ∧ k_ ≠ gb151)) k_ ∧ some k_ ≠ (u3 : Value).ownBlock)) (zcn.out) (fun k_ hk => ⟨⟨hk.1,⟨hk.2.2.1,⟨hk.2.2.2.1,hk.2.2.2.2⟩⟩⟩,hk.2.1⟩)))));(case aB => exact (by repeat (first | (with_reducible first | exact HB.out | apply below_alloc | apply pw_below_drewN | apply below_drew1 | refine below_set ?_ zbR.out | refine below_set ?_ zbA.out | refine below_set ?_ zcE.out) | exact HB.out)));(case aF => exact (fun k_ hk => ⟨(.inr (Nat.le_trans (below_size (by repeat (first | (with_reducible first | exact HB.out | apply below_alloc | apply pw_below_drewN | apply below_drew1 | refine below_set ?_ zbR.out | refine below_set ?_ zbA.out | refine below_set ?_ zcE.out) | exact HB.out))) hk)),Kd.freshB (g := gb145) (o := .cells #[.int .i64 zay,.int .i64 zaK,.slice (some ad150) zam.length za1] 25 (0,0)) zaA.out k_ hk,Kd.freshB (g := gb146) (o := .cells #[.int .i64 0,.int .i64 0,.slice none 0 0] 25 (0,0)) zaz.out k_ hk,Kd.freshB (g := gb151) (o := .cells #[.int .i64 t152,.int .i64 t153,.slice Ao40 t154.length co40] 25 (0,0)) za0.out k_ hk⟩));(case aO => exact zbU.out);(case aS => exact (below_size (by repeat (first | (with_reducible first | exact HB.out | apply below_alloc | apply pw_below_drewN | apply below_drew1 | refine below_set ?_ zbR.out | refine below_set ?_ zbA.out | refine below_set ?_ zcE.out) | exact HB.out))));(case aL => have := LMc15.out;omega);intro v158 w43 ho hb hg hat;rw [← Ny157.out] at ho;have n0_ := am (Kd.V_afterv (ok := (fun k_ => (zbm k_ ∨ w.heap.size ≤ k_) ∧ k_ ≠ gb145 ∧ k_ ≠ gb146 ∧ k_ ≠ gb151)) (Kd.V_mono zbK.out (fun _ hk => ⟨⟨hk.1,⟨hk.2.2.1,⟨hk.2.2.2.1,hk.2.2.2.2⟩⟩⟩,hk.2.1⟩)) hg hat);have n1_ := am (Kd.V_afterv (ok := (fun k_ => (zbm k_ ∨ w.heap.size ≤ k_) ∧ k_ ≠ gb145 ∧ k_ ≠ gb146 ∧ k_ ≠ gb151)) (Kd.V_mono zap.out (fun _ hk => ⟨⟨hk.1,⟨hk.2.2.1,⟨hk.2.2.2.1,hk.2.2.2.2⟩⟩⟩,hk.2.1⟩)) hg hat);have n2_ := am (blk_grown (g := gb145) (o := .cells #[.int .i64 zay,.int .i64 zaK,.slice (some ad150) zam.length za1] 25 (0,0)) zaA.out hg (Kd.N_away zbU.out (fun _ hk => hk.2.1)));have n3_ := am (blk_grown (g := gb146) (o := .cells #[.int .i64 0,.int .i64 0,.slice none 0 0] 25 (0,0)) zaz.out hg (Kd.N_away zbU.out (fun _ hk => hk.2.2.1)));have n4_ := am (Kd.V_afterv (ok := (fun k_ => (zbm k_ ∨ w.heap.size ≤ k_) ∧ k_ ≠ gb145 ∧ k_ ≠ gb146 ∧ k_ ≠ gb151)) (Kd.V_mono zaV.out (fun _ hk => ⟨⟨hk.1,⟨hk.2.2.1,⟨hk.2.2.2.1,hk.2.2.2.2⟩⟩⟩,hk.2.1⟩)) hg hat);have n5_ := am (blk_grown (g := gb151) (o := .cells #[.int .i64 t152,.int .i64 t153,.slice Ao40 t154.length co40] 25 (0,0)) za0.out hg (Kd.N_away zbU.out (fun _ hk => hk.2.2.2)));have n6_ := am (Kd.V_afterv (ok := (fun k_ => (zbm k_ ∨ w.heap.size ≤ k_) ∧ k_ ≠ gb145 ∧ k_ ≠ gb146 ∧ k_ ≠ gb151)) (Kd.V_mono zcn.out (fun _ hk => ⟨⟨hk.1,⟨hk.2.2.1,⟨hk.2.2.2.1,hk.2.2.2.2⟩⟩⟩,hk.2.1⟩)) hg hat);have n7_ := am (hb);have n8_ := am (ho);clear zbK;clear zap;clear zaA;clear zaz;clear zaV;clear za0;clear zcn;clear HB;clear zbU;have zbK := n0_;have zap := n1_;have zaA := n2_;have zaz := n3_;have zaV := n4_;have za0 := n5_;have zcn := n6_;have HB := n7_;have zgE := n8_;clear n0_ n1_ n2_ n3_ n4_ n5_ n6_ n7_ n8_;clear ho hb hg hat))
          go_roundg k1
          case measure => have := HK1.out;omega
          case rel => exact ⟨(y157),(false),(wrap64 (x20_1 + 1)),(by first | rfl | (simp;done) | (simp [*];done)),(by first | rfl | (simp;done) | (simp [*];done)),H',⟨by have := HK1.out;omega⟩,⟨by (with_reducible repeat (first | apply Kd.N_alloc | apply Kd.N_drewN | apply Kd.N_drew));exact Kd.N_mono zgE.out (fun _ hk => ⟨hk.1,⟨hk.2.1,hk.2.2.1⟩⟩)⟩,⟨by (with_reducible repeat (first | apply Kd.V_alloc | apply Kd.V_drewN | apply Kd.V_drew));exact Kd.V_mono zbK.out (fun _ hk => ⟨hk.1.1,⟨hk.2,⟨hk.1.2.1,hk.1.2.2.1⟩⟩⟩)⟩,⟨by (with_reducible repeat (first | apply Kd.V_alloc | apply Kd.V_drewN | apply Kd.V_drew));exact Kd.V_mono zap.out (fun _ hk => ⟨hk.1.1,⟨hk.2,⟨hk.1.2.1,hk.1.2.2.1⟩⟩⟩)⟩,⟨by (with_reducible repeat (first | refine blk_drewN ?_ _ | refine blk_drew ?_ | refine blk_alloc ?_ _));exact zaA.out⟩,⟨by (with_reducible repeat (first | refine blk_drewN ?_ _ | refine blk_drew ?_ | refine blk_alloc ?_ _));exact zaz.out⟩,⟨by repeat (first | (with_reducible first | exact HB.out | apply below_alloc | apply pw_below_drewN | apply below_drew1 | refine below_set ?_ zbR.out | refine below_set ?_ zbA.out | refine below_set ?_ zcE.out) | exact HB.out)⟩⟩
        ·rw [if_neg c15] at H
         exact absurd H (by simp)
       ·rw [if_neg c13] at H
        exact absurd H (by simp)
      ·rw [if_neg c12] at H
       exact absurd H (by simp)
     ·rw [if_neg c11] at H
      have zds : decide (x20_1 < (zam.length : Int)) = false := decide_eq_false c11
      clear c11
      by_cases c44 : (x3_1.length : Int) = 0
      ·rw [if_pos c44] at H
       have c44b0 : ((x3_1.length : Int) == 0) = true := beq_iff_eq.mpr c44
       have c44b1 : ((x3_1.length : Int) != 0) = false := bne_eq_false_iff_eq.mpr c44
       clear c44
       simp only [Option.some.injEq,Prod.mk.injEq] at H
       obtain ⟨rfl,rfl,rfl⟩ := H
       obtain ⟨Ao45,co45,eo45⟩ := Kd.N_slice zbU.out
       subst eo45
       have hnb46 := zbT.out
       have hnc46 := zbO.out
       have zh1 : wr.cell? ⟨gb145,0,none⟩ = some (.int .i64 zay) := (blk_cell zaA.out 0).trans rfl
       have zh2 : wr.cell? ⟨gb145,1,none⟩ = some (.int .i64 zaK) := (blk_cell zaA.out 1).trans rfl
       have zh3 : wr.cell? ⟨gb145,2,none⟩ = some (.slice zbc zam.length za1) := (blk_cell zaA.out 2).trans rfl
       have zh4 := blk_frozen zaA.out 0
       have zh5 := blk_frozen zaA.out 1
       have zh6 := blk_frozen zaA.out 2
       have zfy : wr.cell? ⟨gb146,0,none⟩ = some (.int .i64 0) := (blk_cell zaz.out 0).trans rfl
       have zfz : wr.cell? ⟨gb146,1,none⟩ = some (.int .i64 0) := (blk_cell zaz.out 1).trans rfl
       have zfA : wr.cell? ⟨gb146,2,none⟩ = some (.slice none 0 0) := (blk_cell zaz.out 2).trans rfl
       have zfB := blk_frozen zaz.out 0
       have zfC := blk_frozen zaz.out 1
       have zfD := blk_frozen zaz.out 2
       go_wp2
       refine bodyPost_ret (results_cell_row rfl _ _ gb146 25 #[.int .i64 zay,.int .i64 zaK,.slice zbc zam.length za1] (0,0) _ rfl (by (with_reducible repeat (first | refine blk_drewN ?_ _ | refine blk_drew ?_ | refine blk_alloc ?_ _));refine blk_put (cs := #[.int .i64 zay,.int .i64 zaK,.slice none 0 0]) ?_ 2 _ rfl;(with_reducible repeat (first | refine blk_drewN ?_ _ | refine blk_drew ?_ | refine blk_alloc ?_ _));refine blk_put (cs := #[.int .i64 zay,.int .i64 0,.slice none 0 0]) ?_ 1 _ rfl;(with_reducible repeat (first | refine blk_drewN ?_ _ | refine blk_drew ?_ | refine blk_alloc ?_ _));refine blk_put (cs := #[.int .i64 0,.int .i64 0,.slice none 0 0]) ?_ 0 _ rfl;(with_reducible repeat (first | refine blk_drewN ?_ _ | refine blk_drew ?_ | refine blk_alloc ?_ _));exact zaz.out) Tryd.underlying25 rfl (by kernel_rfl)) rfl ?_
       exact ⟨_,by first | rfl | (simp [errW_none,errW_some] <;> rfl) | (simp [*,errW_none,errW_some] <;> rfl),by (with_reducible repeat (first | apply Kd.V_alloc | apply Kd.V_drewN | apply Kd.V_drew));exact Kd.V_mono (Kd.V_far (p := ⟨gb146,2,none⟩) (Kd.V_far (p := ⟨gb146,1,none⟩) (Kd.V_far (p := ⟨gb146,0,none⟩) (Kd.V_mono zap.out (fun k_ hk => (⟨hk,hk.2.2.2⟩ : _ ∧ k_ ≠ gb146))) (fun _ hk => hk.2) (.int .i64 zay)) (fun _ hk => hk.2) (.int .i64 zaK)) (fun _ hk => hk.2) (.slice zbc zam.length za1)) (fun _ hk => hk.1.1),by repeat (first | (with_reducible first | exact HB.out | apply below_alloc | apply pw_below_drewN | apply below_drew1 | refine below_set ?_ zbR.out | refine below_set ?_ zbA.out) | exact HB.out)⟩
      ·rw [if_neg c44] at H
       have c44b0 : ((x3_1.length : Int) == 0) = false := beq_eq_false_iff_ne.mpr c44
       have c44b1 : ((x3_1.length : Int) != 0) = true := bne_iff_ne.mpr c44
       have c44b2 : ¬ (x3_1 = []) := fun h_ => c44 (by rw [h_];rfl)
       have HC49 := am H
       clear H
       obtain ⟨Ao50,co50,eo50⟩ := Kd.N_slice zbU.out
       subst eo50
       have hnb51 := zbT.out
       have hnc51 := zbO.out
       have zfS : wr.cell? ⟨gb145,0,none⟩ = some (.int .i64 zay) := (blk_cell zaA.out 0).trans rfl
       have zfT : wr.cell? ⟨gb145,1,none⟩ = some (.int .i64 zaK) := (blk_cell zaA.out 1).trans rfl
       have zfU : wr.cell? ⟨gb145,2,none⟩ = some (.slice zbc zam.length za1) := (blk_cell zaA.out 2).trans rfl
       have zfV := blk_frozen zaA.out 0
       have zfW := blk_frozen zaA.out 1
       have zfX := blk_frozen zaA.out 2
       go_upto_region 13 with (fail)
       go_cut [50] (fun v50 wc => ∃ (kq : Nat) (x50_48 : Bool),v50 = .bool x50_48 ∧ Aside0 (tree_fold.j1 kq x3_1 x4_1 x50_48 zay zaK x3_1 = some (r1,r2,r3)) ∧ Aside0 (kq ≤ k1) ∧ Aside0 (Kd.N k25 25 wc w.heap.size (fun k_ => (zbm k_ ∨ w.heap.size ≤ k_) ∧ k_ ≠ gb145 ∧ k_ ≠ gb146) (.slice Ao50 x3_1.length co50) x3_1) ∧ Aside0 (Kd.N k25 25 wc w.heap.size (fun k_ => (zbm k_ ∨ w.heap.size ≤ k_) ∧ k_ ≠ gb145 ∧ k_ ≠ gb146) (.slice Ao50 x3_1.length co50) x3_1) ∧ Aside0 (wc.heap[gb145]? = some (.cells #[.int .i64 zay,.int .i64 zaK,(.slice Ao50 x3_1.length co50)] 25 (0,0))) ∧ Aside0 (wc.heap[gb146]? = some (.cells #[.int .i64 0,.int .i64 0,(.slice none 0 0)] 25 (0,0))) ∧ Aside0 (Below w.heap.size w wc))
       case first =>
        have H := HC49.out
        clear HC49
        by_cases c53 : zay = 22
        ·rw [if_pos c53] at H
         have zgc : (zay == 22) = true := beq_iff_eq.mpr c53
         have c53b1 : (zay != 22) = false := bne_eq_false_iff_eq.mpr c53
         clear c53
         (first | rw [zgc] | (simp only [i64_w,i32_w];rw [zgc]) | skip)
         by_cases c54 : 0 < (x3_1.length : Int)
         ·rw [if_pos c54] at H
          have c54b0 : decide (0 < (x3_1.length : Int)) = true := decide_eq_true c54
          have c54b1 : decide (0 < x3_1.length) = true := decide_eq_true (by omega)
          clear c54
          replace H := Option.bind_eq_some_iff.mp H
          obtain ⟨t162,A550,H⟩ := H
          replace H : (tree_fold.j1 k1 x3_1 x4_1 t162 zay zaK x3_1) = some (r1,r2,r3) := H
          have A55 := am A550
          clear A550
          have H' := am H
          clear H
          have hnb56 := zbT.out
          have hnc56 := zbO.out
          have zh7 : wr.cell? ⟨gb145,0,none⟩ = some (.int .i64 zay) := (blk_cell zaA.out 0).trans rfl
          have zh8 : wr.cell? ⟨gb145,1,none⟩ = some (.int .i64 zaK) := (blk_cell zaA.out 1).trans rfl
          have zh9 : wr.cell? ⟨gb145,2,none⟩ = some (.slice zbc zam.length za1) := (blk_cell zaA.out 2).trans rfl
          have zia := blk_frozen zaA.out 0
          have zib := blk_frozen zaA.out 1
          have zic := blk_frozen zaA.out 2
          have p161 : 0 ≤ (0 : Int) := (by omega)
          have q161 : 0 < (x3_1.length : Int) := of_decide_eq_true (by first | (with_reducible assumption) | assumption)
          obtain ⟨ad161,A161_2,c161_2,e161,zde,zdf,zcW,zid,zie⟩ := at_T25 (Kd.N_reads' zbU.out).2.2 0 p161 q161
          cases e161
          obtain ⟨ce161,hce161,hMe161,hcc161⟩ := Kd.N_get zbU.out z25 0 p161 (by first | exact q161 | exact of_decide_eq_true (by first | (with_reducible assumption) | assumption) | (have e_ := (Kd.N_reads' zbU.out).1;omega))
          obtain ⟨ua161_2,uc161_2,rfl,zgd,zge⟩ := k25_openF hMe161
          have zeL := hcc161 2 _ rfl
          rw [add_field _ _ 2 (by omega)] at zeL
          replace zeL := Option.some.inj (zeL.symm.trans zcW)
          injection zeL with zex zgD zey
          rw [zex] at zge
          rw [zey] at zgd
          have zei := am (show Kd.V k25 25 _ w.heap.size _ _ ((rd_T25 x3_1 0).f2) from Kd.V_mk zgd zge)
          clear zex zgD zey zge zgd
          clear hcc161 hce161
          have qi161 : (0 < x3_1.length) = True := eq_true (by omega)
          (try rw [show ((0 : Int)).toNat = 0 from rfl] at zde)
          (try rw [show 0 * 3 = 0 from rfl] at zde)
          (try rw [Addr.add_zero'] at zde)
          (try rw [show ((0 : Int)).toNat = 0 from rfl] at zdf)
          (try rw [show 0 * 3 = 0 from rfl] at zdf)
          (try rw [Addr.add_zero'] at zdf)
          (try rw [show ((0 : Int)).toNat = 0 from rfl] at zcW)
          (try rw [show 0 * 3 = 0 from rfl] at zcW)
          (try rw [Addr.add_zero'] at zcW)
          have zcx : ad161.block ≠ gb145 := Kd.own_blk (Kd.N_away zbU.out (fun k_ hk_ => hk_.2.1))
          have zif := am zie
          have HC161_2 := am zid
          clear zie zid
          replace zde := (cell_far (p := ⟨gb145,2,none⟩) (by first | (rw [add_block];exact zcx) | (show (Addr.add _ _).block ≠ _;rw [add_block];exact zcx) | exact zcx) (.slice (some ad161) x3_1.length co50)).trans zde
          replace zdf := (cell_far (p := ⟨gb145,2,none⟩) (by first | (rw [add_block];exact zcx) | (show (Addr.add _ _).block ≠ _;rw [add_block];exact zcx) | exact zcx) (.slice (some ad161) x3_1.length co50)).trans zdf
          replace zcW := (cell_far (p := ⟨gb145,2,none⟩) (by first | (rw [add_block];exact zcx) | (show (Addr.add _ _).block ≠ _;rw [add_block];exact zcx) | exact zcx) (.slice (some ad161) x3_1.length co50)).trans zcW
          clear zcx
          replace p161 := eq_true p161
          replace q161 := eq_true q161
          go_wp2_with (first | (go_at_call 78;(with_reducible refine (tree_constant.calls ((rd_T25 x3_1 0).f0) ((rd_T25 x3_1 0).f1) _ _ ((rd_T25 x3_1 0).f2) t162 _ ?za8 ?zbh A55.out).mono ?_);(case za8 => repeat (first | exact ((Kd.V_reads' (Kd.V_mono (Kd.V_far (p := ⟨gb145,2,none⟩) (Kd.V_mono zei.out (fun k_ hk => (⟨hk,hk.1.2.1⟩ : _ ∧ k_ ≠ gb145))) (fun _ hk => hk.2) (.slice (some ad161) x3_1.length co50)) (fun _ h_ => h_.1))).2.2) | (with_reducible refine Kd.C_alloc ?_ _) | (with_reducible refine Kd.C_drewN ?_ _) | (with_reducible refine Kd.C_drew ?_)));(case zbh => exact HC161_2.out);rintro e w58 ⟨rfl,hb⟩;have n0_ := am (Kd.N_below (Kd.N_mono (Kd.N_far (p := ⟨gb145,2,none⟩) (Kd.N_mono zbU.out (fun k_ hk => (⟨hk,hk.2.1⟩ : _ ∧ k_ ≠ gb145))) (fun _ hk => hk.2) (.slice (some ad161) x3_1.length co50)) (fun _ h_ => h_.1)) hb);have n1_ := am (Kd.V_below (Kd.V_mono (Kd.V_far (p := ⟨gb145,2,none⟩) (Kd.V_mono zbK.out (fun k_ hk => (⟨hk,hk.2.2.1⟩ : _ ∧ k_ ≠ gb145))) (fun _ hk => hk.2) (.slice (some ad161) x3_1.length co50)) (fun _ h_ => h_.1)) hb);have n2_ := am (Kd.V_below (Kd.V_mono (Kd.V_far (p := ⟨gb145,2,none⟩) (Kd.V_mono zap.out (fun k_ hk => (⟨hk,hk.2.2.1⟩ : _ ∧ k_ ≠ gb145))) (fun _ hk => hk.2) (.slice (some ad161) x3_1.length co50)) (fun _ h_ => h_.1)) hb);have n3_ := am (Kd.V_below (Kd.V_mono (Kd.V_far (p := ⟨gb145,2,none⟩) (Kd.V_mono zei.out (fun k_ hk => (⟨hk,hk.1.2.1⟩ : _ ∧ k_ ≠ gb145))) (fun _ hk => hk.2) (.slice (some ad161) x3_1.length co50)) (fun _ h_ => h_.1)) hb);have n4_ := am (blk_below (g := gb145) (o := .cells #[.int .i64 zay,.int .i64 zaK,.slice (some ad161) x3_1.length co50] 25 (0,0)) (by (with_reducible repeat (first | refine blk_drewN ?_ _ | refine blk_drew ?_ | refine blk_alloc ?_ _));refine blk_put (cs := #[.int .i64 zay,.int .i64 zaK,.slice zbc zam.length za1]) ?_ 2 _ rfl;(with_reducible repeat (first | refine blk_drewN ?_ _ | refine blk_drew ?_ | refine blk_alloc ?_ _));exact zaA.out) hb);have n5_ := am (blk_below (g := gb146) (o := .cells #[.int .i64 0,.int .i64 0,.slice none 0 0] 25 (0,0)) (by (with_reducible repeat (first | refine blk_drewN ?_ _ | refine blk_drew ?_ | refine blk_alloc ?_ _));refine blk_far ?_ zbO.out _;(with_reducible repeat (first | refine blk_drewN ?_ _ | refine blk_drew ?_ | refine blk_alloc ?_ _));exact zaz.out) hb);have n6_ := am (Kd.C_below ((Kd.V_reads' (Kd.V_mono (Kd.V_far (p := ⟨gb145,2,none⟩) (Kd.V_mono zei.out (fun k_ hk => (⟨hk,hk.1.2.1⟩ : _ ∧ k_ ≠ gb145))) (fun _ hk => hk.2) (.slice (some ad161) x3_1.length co50)) (fun _ h_ => h_.1))).2.2) hb);have n7_ := am (below_step (by repeat (first | (with_reducible first | exact HB.out | apply below_alloc | apply pw_below_drewN | apply below_drew1 | refine below_set ?_ zbR.out | refine below_set ?_ zbA.out) | exact HB.out)) hb);clear zbU;clear zbK;clear zap;clear zei;clear zaA;clear zaz;clear zif;clear HB;have zbU := n0_;have zbK := n1_;have zap := n2_;have zei := n3_;have zaA := n4_;have zaz := n5_;have zif := n6_;have HB := n7_;clear n0_ n1_ n2_ n3_ n4_ n5_ n6_ n7_;(try clear hb);(try clear hb2);(try clear hk);(try clear hi)))
          go_meet
          case rel => exact ⟨_,(t162),(by first | rfl | (simp;done) | (simp [*];done)),H',⟨by have := HK1.out;first | omega | exact Nat.le_refl _⟩,⟨by (with_reducible repeat (first | apply Kd.N_alloc | apply Kd.N_drewN | apply Kd.N_drew));exact zbU.out⟩,⟨by (with_reducible repeat (first | apply Kd.N_alloc | apply Kd.N_drewN | apply Kd.N_drew));exact zbU.out⟩,⟨by (with_reducible repeat (first | refine blk_drewN ?_ _ | refine blk_drew ?_ | refine blk_alloc ?_ _));exact zaA.out⟩,⟨by (with_reducible repeat (first | refine blk_drewN ?_ _ | refine blk_drew ?_ | refine blk_alloc ?_ _));exact zaz.out⟩,⟨by repeat (first | (with_reducible first | exact HB.out | apply below_alloc | apply pw_below_drewN | apply below_drew1 | refine below_set ?_ zbR.out | refine below_set ?_ zbA.out) | exact HB.out)⟩⟩
         ·rw [if_neg c54] at H
          exact absurd H (by simp)
        ·rw [if_neg c53] at H
         have zgc : (zay == 22) = false := beq_eq_false_iff_ne.mpr c53
         have c53b1 : (zay != 22) = true := bne_iff_ne.mpr c53
         (first | rw [zgc] | (simp only [i64_w,i32_w];rw [zgc]) | skip)
         have H' := am H
         clear H
         have hnb59 := zbT.out
         have hnc59 := zbO.out
         have zig : wr.cell? ⟨gb145,0,none⟩ = some (.int .i64 zay) := (blk_cell zaA.out 0).trans rfl
         have zih : wr.cell? ⟨gb145,1,none⟩ = some (.int .i64 zaK) := (blk_cell zaA.out 1).trans rfl
         have zii : wr.cell? ⟨gb145,2,none⟩ = some (.slice zbc zam.length za1) := (blk_cell zaA.out 2).trans rfl
         have zij := blk_frozen zaA.out 0
         have zik := blk_frozen zaA.out 1
         have zil := blk_frozen zaA.out 2
         go_wp2
         go_meet
         case rel => exact ⟨_,(false),(by first | rfl | (simp;done) | (simp [*];done)),H',⟨by have := HK1.out;first | omega | exact Nat.le_refl _⟩,⟨by (with_reducible repeat (first | apply Kd.N_alloc | apply Kd.N_drewN | apply Kd.N_drew));exact Kd.N_mono (Kd.N_far (p := ⟨gb145,2,none⟩) (Kd.N_mono zbU.out (fun k_ hk => (⟨hk,hk.2.1⟩ : _ ∧ k_ ≠ gb145))) (fun _ hk => hk.2) (.slice Ao50 x3_1.length co50)) (fun _ hk => ⟨hk.1.1,⟨hk.1.2.1,hk.1.2.2⟩⟩)⟩,⟨by (with_reducible repeat (first | apply Kd.N_alloc | apply Kd.N_drewN | apply Kd.N_drew));exact Kd.N_mono (Kd.N_far (p := ⟨gb145,2,none⟩) (Kd.N_mono zbU.out (fun k_ hk => (⟨hk,hk.2.1⟩ : _ ∧ k_ ≠ gb145))) (fun _ hk => hk.2) (.slice Ao50 x3_1.length co50)) (fun _ hk => ⟨hk.1.1,⟨hk.1.2.1,hk.1.2.2⟩⟩)⟩,⟨by (with_reducible repeat (first | refine blk_drewN ?_ _ | refine blk_drew ?_ | refine blk_alloc ?_ _));refine blk_put (cs := #[.int .i64 zay,.int .i64 zaK,.slice zbc zam.length za1]) ?_ 2 _ rfl;(with_reducible repeat (first | refine blk_drewN ?_ _ | refine blk_drew ?_ | refine blk_alloc ?_ _));exact zaA.out⟩,⟨by (with_reducible repeat (first | refine blk_drewN ?_ _ | refine blk_drew ?_ | refine blk_alloc ?_ _));refine blk_far ?_ zbO.out _;(with_reducible repeat (first | refine blk_drewN ?_ _ | refine blk_drew ?_ | refine blk_alloc ?_ _));exact zaz.out⟩,⟨by repeat (first | (with_reducible first | exact HB.out | apply below_alloc | apply pw_below_drewN | apply below_drew1 | refine below_set ?_ zbR.out | refine below_set ?_ zbA.out) | exact HB.out)⟩⟩
       case rest =>
        clear HC49
        try clear c1
        try clear p1
        try clear q1
        try clear hx1
        try clear qi1
        try clear c2
        try clear zfb
        try clear c2b1
        try clear p2
        try clear c3
        try clear zes
        try clear zff
        try clear c4
        try clear c5
        try clear c6
        try clear p6
        try clear c11
        try clear zds
        try clear c12
        try clear zeZ
        try clear c13
        try clear ze0
        try clear c15
        try clear p15
        try clear q15
        try clear hx15
        try clear c16
        try clear p16
        try clear q16
        try clear hx16
        try clear qi16
        try clear c19
        try clear c20
        try clear c33
        try clear c34
        try clear c44
        try clear c44b0
        try clear c44b1
        try clear c44b2
        try clear c46
        try clear c51
        try clear c53
        try clear zgc
        try clear c53b1
        try clear c54
        try clear c54b0
        try clear c54b1
        try clear c56
        try clear c59
        try clear zc0
        try clear zc1
        try clear zc2
        try clear zc6
        try clear zc7
        try clear zc8
        try clear zfY
        try clear zfZ
        try clear zf0
        try clear zdQ
        try clear zdR
        try clear zdS
        try clear zeB
        try clear zeC
        try clear zeD
        try clear zhJ
        try clear zhK
        try clear zhL
        try clear zfG
        try clear zfH
        try clear zfI
        try clear zfM
        try clear zfN
        try clear zfO
        try clear zhP
        try clear zhQ
        try clear zhR
        try clear zhV
        try clear zhW
        try clear zhX
        try clear zh1
        try clear zh2
        try clear zh3
        try clear zfy
        try clear zfz
        try clear zfA
        try clear zfS
        try clear zfT
        try clear zfU
        try clear zh7
        try clear zh8
        try clear zh9
        try clear zig
        try clear zih
        try clear zii
        try clear zeS
        try clear zeT
        try clear zeU
        try clear zdr
        try clear zc3
        try clear zc4
        try clear zc9
        try clear zda
        try clear zdb
        try clear zf1
        try clear zf2
        try clear zf3
        try clear zdT
        try clear zdU
        try clear zdV
        try clear zeE
        try clear zeF
        try clear zeG
        try clear zhM
        try clear zhN
        try clear zhO
        try clear zfJ
        try clear zfK
        try clear zfL
        try clear zfP
        try clear zfQ
        try clear zfR
        try clear zhS
        try clear zhT
        try clear zhU
        try clear zhY
        try clear zhZ
        try clear zh0
        try clear zh4
        try clear zh5
        try clear zh6
        try clear zfB
        try clear zfC
        try clear zfD
        try clear zfV
        try clear zfW
        try clear zfX
        try clear zia
        try clear zib
        try clear zic
        try clear zij
        try clear zik
        try clear zil
        try clear zgr
        try clear zeV
        try clear zeW
        try clear zga
        try clear zgb
        try clear zed
        try clear zde
        try clear zdf
        try clear zcW
        try clear zhE
        try clear p161
        try clear p2
        try clear zhF
        try clear q161
        obtain ⟨kq,x50_48,rfl,HA,HJ48,zbU,zap,zaA,zaz,HB⟩ := hcut
        cases kq with
        | zero => exact absurd HA.out (by simp [tree_fold.j1])
        | succ kj48 =>
         have H := HA.out
         clear HA
         simp only [tree_fold.j1] at H
         by_cases c61 : x50_48 = true
         ·subst c61
          have H1 : (if 0 < (x3_1.length : Int) then ((tree_value.f kj48 ((rd_T25 x3_1 0).f0) ((rd_T25 x3_1 0).f1) ((rd_T25 x3_1 0).f2) 0 0 0).bind fun t164 => (if t164 = 0 then (if 2 < (x3_1.length : Int) then (some ((rd_T25 x3_1 2).f0,(rd_T25 x3_1 2).f1,(rd_T25 x3_1 2).f2)) else (none)) else (if 1 < (x3_1.length : Int) then (some ((rd_T25 x3_1 1).f0,(rd_T25 x3_1 1).f1,(rd_T25 x3_1 1).f2)) else (none)))) else (none)) = some (r1,r2,r3) := by rw [if_pos rfl] at H;exact H
          clear H
          have H := H1
          clear H1
          by_cases c62 : 0 < (x3_1.length : Int)
          ·rw [if_pos c62] at H
           have c62b0 : decide (0 < (x3_1.length : Int)) = true := decide_eq_true c62
           have c62b1 : decide (0 < x3_1.length) = true := decide_eq_true (by omega)
           clear c62
           replace H := Option.bind_eq_some_iff.mp H
           obtain ⟨t164,A630,H⟩ := H
           replace H : (if t164 = 0 then (if 2 < (x3_1.length : Int) then (some ((rd_T25 x3_1 2).f0,(rd_T25 x3_1 2).f1,(rd_T25 x3_1 2).f2)) else (none)) else (if 1 < (x3_1.length : Int) then (some ((rd_T25 x3_1 1).f0,(rd_T25 x3_1 1).f1,(rd_T25 x3_1 1).f2)) else (none))) = some (r1,r2,r3) := H
           have A63 := am A630
           clear A630
           by_cases c64 : t164 = 0
           ·rw [if_pos c64] at H
            have c64b0 : (t164 == 0) = true := beq_iff_eq.mpr c64
            have c64b1 : (t164 != 0) = false := bne_eq_false_iff_eq.mpr c64
            clear c64
            by_cases c65 : 2 < (x3_1.length : Int)
            ·rw [if_pos c65] at H
             have c65b0 : decide (2 < (x3_1.length : Int)) = true := decide_eq_true c65
             have c65b1 : decide (2 < x3_1.length) = true := decide_eq_true (by omega)
             clear c65
             simp only [Option.some.injEq,Prod.mk.injEq] at H
             obtain ⟨rfl,rfl,rfl⟩ := H
             have p163 : 0 ≤ (0 : Int) := (by omega)
             have q163 : 0 < (x3_1.length : Int) := of_decide_eq_true (by first | (with_reducible assumption) | assumption)
             obtain ⟨ad163,A163_2,c163_2,e163,zcX,zcY,zcy,zej,zek⟩ := at_T25 (Kd.N_reads' zbU.out).2.2 0 p163 q163
             cases e163
             obtain ⟨ce163,zim,hMe163,ze9⟩ := Kd.N_get zbU.out z25 0 p163 (by first | exact q163 | exact of_decide_eq_true (by first | (with_reducible assumption) | assumption) | (have e_ := (Kd.N_reads' zbU.out).1;omega))
             obtain ⟨ua163_2,uc163_2,rfl,zdg,zdh⟩ := k25_openF hMe163
             have zcK := ze9 2 _ rfl
             rw [add_field _ _ 2 (by omega)] at zcK
             replace zcK := Option.some.inj (zcK.symm.trans zcy)
             injection zcK with zex zgD zey
             rw [zex] at zdh
             rw [zey] at zdg
             have zdi := am (show Kd.V k25 25 _ w.heap.size _ _ ((rd_T25 x3_1 0).f2) from Kd.V_mk zdg zdh)
             clear zex zgD zey zdh zdg
             clear ze9 zim
             have qi163 : (0 < x3_1.length) = True := eq_true (by omega)
             (try rw [show ((0 : Int)).toNat = 0 from rfl] at zcX)
             (try rw [show 0 * 3 = 0 from rfl] at zcX)
             (try rw [Addr.add_zero'] at zcX)
             (try rw [show ((0 : Int)).toNat = 0 from rfl] at zcY)
             (try rw [show 0 * 3 = 0 from rfl] at zcY)
             (try rw [Addr.add_zero'] at zcY)
             (try rw [show ((0 : Int)).toNat = 0 from rfl] at zcy)
             (try rw [show 0 * 3 = 0 from rfl] at zcy)
             (try rw [Addr.add_zero'] at zcy)
             have zcb := am zek
             have zgf := am zej
             clear zek zej
             replace p163 := eq_true p163
             replace q163 := eq_true q163
             go_wp2_with (first | ((with_reducible refine gate_callee (f := 52) rfl ?_);refine goesL_ (some 54) rfl rfl Tryd.func52 (by kernel_rfl) rfl #[.agg #[.int .i64 ((rd_T25 x3_1 0).f0),.int .i64 ((rd_T25 x3_1 0).f1),.slice A163_2 ((rd_T25 x3_1 0).f2).length c163_2],.int .i64 0,.int .i64 0,.int .i64 0] rfl (by (try simp only [List.map_toArray,List.map_cons,List.map_nil]);first | done | rfl | (simp only [List.length_drop,List.length_take];rfl)) ?_;(with_reducible refine (tree_value.calls kj48 ((rd_T25 x3_1 0).f0) ((rd_T25 x3_1 0).f1) _ _ ((rd_T25 x3_1 0).f2) 0 0 0 t164 _ ?za8 ?zbh A63.out).mono ?_);(case za8 => repeat (first | exact (by repeat (first | (with_reducible exact zcb.out) | (with_reducible refine Kd.C_alloc ?_ _) | (with_reducible refine Kd.C_drewN ?_ _) | (with_reducible refine Kd.C_drew ?_) | exact zcb.out)) | (with_reducible refine Kd.C_alloc ?_ _) | (with_reducible refine Kd.C_drewN ?_ _) | (with_reducible refine Kd.C_drew ?_)));(case zbh => exact zgf.out);rintro e w66 ⟨rfl,hb⟩;refine ⟨_,rfl,?_⟩;have n0_ := am (Kd.N_below zbU.out hb);have n1_ := am (Kd.N_below zap.out hb);have n2_ := am (Kd.V_below zdi.out hb);have n3_ := am (blk_below (g := gb145) (o := .cells #[.int .i64 zay,.int .i64 zaK,.slice (some ad163) x3_1.length co50] 25 (0,0)) zaA.out hb);have n4_ := am (blk_below (g := gb146) (o := .cells #[.int .i64 0,.int .i64 0,.slice none 0 0] 25 (0,0)) zaz.out hb);have n5_ := am (Kd.C_below (by repeat (first | (with_reducible exact zcb.out) | (with_reducible refine Kd.C_alloc ?_ _) | (with_reducible refine Kd.C_drewN ?_ _) | (with_reducible refine Kd.C_drew ?_) | exact zcb.out)) hb);have n6_ := am (below_step HB.out hb);clear zbU;clear zap;clear zdi;clear zaA;clear zaz;clear zcb;clear HB;have zbU := n0_;have zap := n1_;have zdi := n2_;have zaA := n3_;have zaz := n4_;have zcb := n5_;have HB := n6_;clear n0_ n1_ n2_ n3_ n4_ n5_ n6_;(try clear hb);(try clear hb2);(try clear hk);(try clear hi);have p165 : 0 ≤ (2 : Int) := (by omega);have q165 : 2 < (x3_1.length : Int) := of_decide_eq_true (by first | (with_reducible assumption) | assumption);obtain ⟨ad165,A165_2,c165_2,e165,zeM,zeN,zel,zin,zio⟩ := at_T25 (Kd.N_reads' zbU.out).2.2 2 p165 q165;obtain rfl : ad163 = ad165 := (by injection e165);obtain ⟨ce165,hce165,hMe165,hcc165⟩ := Kd.N_get zbU.out z25 2 p165 (by first | exact q165 | exact of_decide_eq_true (by first | (with_reducible assumption) | assumption) | (have e_ := (Kd.N_reads' zbU.out).1;omega));obtain ⟨ua165_2,uc165_2,rfl,zgg,zgh⟩ := k25_openF hMe165;have zeO := hcc165 2 _ rfl;rw [add_field _ _ 2 (by omega)] at zeO;replace zeO := Option.some.inj (zeO.symm.trans zel);injection zeO with zex zgD zey;rw [zex] at zgh;rw [zey] at zgg;have HL165_2 := am (show Kd.V k25 25 _ w.heap.size _ _ ((rd_T25 x3_1 2).f2) from Kd.V_mk zgg zgh);clear zex zgD zey zgh zgg;clear hcc165 hce165;(try simp only [show (2 : Int).toNat = 2 from rfl,Nat.reduceMul,Nat.reduceEqDiff,Go.Addr.add,↓reduceIte] at zeM);(try simp only [show (2 : Int).toNat = 2 from rfl,Nat.reduceMul,Nat.reduceEqDiff,Go.Addr.add,↓reduceIte] at zeN);(try simp only [show (2 : Int).toNat = 2 from rfl,Nat.reduceMul,Nat.reduceEqDiff,Go.Addr.add,↓reduceIte] at zel);have qi165 : (2 < x3_1.length) = True := eq_true (by omega);(try rw [show ((2 : Int)).toNat = 2 from rfl] at zeM);(try rw [show 2 * 3 = 6 from rfl] at zeM);(try rw [show ((2 : Int)).toNat = 2 from rfl] at zeN);(try rw [show 2 * 3 = 6 from rfl] at zeN);(try rw [show ((2 : Int)).toNat = 2 from rfl] at zel);(try rw [show 2 * 3 = 6 from rfl] at zel);have HR165_2 := am zio;have HC165_2 := am zin;clear zio zin;replace p165 := eq_true p165;replace q165 := eq_true q165;have hnb67 := zbO.out;have hnc67 := zbT.out;have hcz68_0 : w66.cell? ⟨gb146,0,none⟩ = some (.int .i64 0) := (blk_cell zaz.out 0).trans rfl;have hcz68_1 : w66.cell? ⟨gb146,1,none⟩ = some (.int .i64 0) := (blk_cell zaz.out 1).trans rfl;have hcz68_2 : w66.cell? ⟨gb146,2,none⟩ = some (.slice none 0 0) := (blk_cell zaz.out 2).trans rfl;have hfz68_0 := blk_frozen zaz.out 0;have hfz68_1 := blk_frozen zaz.out 1;have hfz68_2 := blk_frozen zaz.out 2))
             refine bodyPost_ret (results_cell_row rfl _ _ gb146 25 #[.int .i64 ((rd_T25 x3_1 2).f0),.int .i64 ((rd_T25 x3_1 2).f1),.slice A165_2 ((rd_T25 x3_1 2).f2).length c165_2] (0,0) _ rfl (by (with_reducible repeat (first | refine blk_drewN ?_ _ | refine blk_drew ?_ | refine blk_alloc ?_ _));refine blk_put (cs := #[.int .i64 ((rd_T25 x3_1 2).f0),.int .i64 ((rd_T25 x3_1 2).f1),.slice none 0 0]) ?_ 2 _ rfl;(with_reducible repeat (first | refine blk_drewN ?_ _ | refine blk_drew ?_ | refine blk_alloc ?_ _));refine blk_put (cs := #[.int .i64 ((rd_T25 x3_1 2).f0),.int .i64 0,.slice none 0 0]) ?_ 1 _ rfl;(with_reducible repeat (first | refine blk_drewN ?_ _ | refine blk_drew ?_ | refine blk_alloc ?_ _));refine blk_put (cs := #[.int .i64 0,.int .i64 0,.slice none 0 0]) ?_ 0 _ rfl;(with_reducible repeat (first | refine blk_drewN ?_ _ | refine blk_drew ?_ | refine blk_alloc ?_ _));exact zaz.out) Tryd.underlying25 rfl (by kernel_rfl)) rfl ?_
             exact ⟨_,by first | rfl | (simp [errW_none,errW_some] <;> rfl) | (simp [*,errW_none,errW_some] <;> rfl),by (with_reducible repeat (first | apply Kd.V_alloc | apply Kd.V_drewN | apply Kd.V_drew));exact Kd.V_mono (Kd.V_far (p := ⟨gb146,2,none⟩) (Kd.V_far (p := ⟨gb146,1,none⟩) (Kd.V_far (p := ⟨gb146,0,none⟩) (Kd.V_mono HL165_2.out (fun k_ hk => (⟨hk,hk.1.2.2⟩ : _ ∧ k_ ≠ gb146))) (fun _ hk => hk.2) (.int .i64 ((rd_T25 x3_1 2).f0))) (fun _ hk => hk.2) (.int .i64 ((rd_T25 x3_1 2).f1))) (fun _ hk => hk.2) (.slice A165_2 ((rd_T25 x3_1 2).f2).length c165_2)) (fun _ hk => hk.1.1.1),by repeat (first | (with_reducible first | exact HB.out | apply below_alloc | apply pw_below_drewN | apply below_drew1 | refine below_set ?_ zbR.out | refine below_set ?_ zbA.out) | exact HB.out)⟩
            ·rw [if_neg c65] at H
             exact absurd H (by simp)
           ·rw [if_neg c64] at H
            have c64b0 : (t164 == 0) = false := beq_eq_false_iff_ne.mpr c64
            have c64b1 : (t164 != 0) = true := bne_iff_ne.mpr c64
            by_cases c69 : 1 < (x3_1.length : Int)
            ·rw [if_pos c69] at H
             have c69b0 : decide (1 < (x3_1.length : Int)) = true := decide_eq_true c69
             have c69b1 : decide (1 < x3_1.length) = true := decide_eq_true (by omega)
             clear c69
             simp only [Option.some.injEq,Prod.mk.injEq] at H
             obtain ⟨rfl,rfl,rfl⟩ := H
             have p163 : 0 ≤ (0 : Int) := (by omega)
             have q163 : 0 < (x3_1.length : Int) := of_decide_eq_true (by first | (with_reducible assumption) | assumption)
             obtain ⟨ad163,A163_2,c163_2,e163,zcX,zcY,zcy,zej,zek⟩ := at_T25 (Kd.N_reads' zbU.out).2.2 0 p163 q163
             cases e163
             obtain ⟨ce163,zim,hMe163,ze9⟩ := Kd.N_get zbU.out z25 0 p163 (by first | exact q163 | exact of_decide_eq_true (by first | (with_reducible assumption) | assumption) | (have e_ := (Kd.N_reads' zbU.out).1;omega))
             obtain ⟨ua163_2,uc163_2,rfl,zdg,zdh⟩ := k25_openF hMe163
             have zcK := ze9 2 _ rfl
             rw [add_field _ _ 2 (by omega)] at zcK
             replace zcK := Option.some.inj (zcK.symm.trans zcy)
             injection zcK with zex zgD zey
             rw [zex] at zdh
             rw [zey] at zdg
             have zdi := am (show Kd.V k25 25 _ w.heap.size _ _ ((rd_T25 x3_1 0).f2) from Kd.V_mk zdg zdh)
             clear zex zgD zey zdh zdg
             clear ze9 zim
             have qi163 : (0 < x3_1.length) = True := eq_true (by omega)
             (try rw [show ((0 : Int)).toNat = 0 from rfl] at zcX)
             (try rw [show 0 * 3 = 0 from rfl] at zcX)
             (try rw [Addr.add_zero'] at zcX)
             (try rw [show ((0 : Int)).toNat = 0 from rfl] at zcY)
             (try rw [show 0 * 3 = 0 from rfl] at zcY)
             (try rw [Addr.add_zero'] at zcY)
             (try rw [show ((0 : Int)).toNat = 0 from rfl] at zcy)
             (try rw [show 0 * 3 = 0 from rfl] at zcy)
             (try rw [Addr.add_zero'] at zcy)
             have zcb := am zek
             have zgf := am zej
             clear zek zej
             replace p163 := eq_true p163
             replace q163 := eq_true q163
             go_wp2_with (first | ((with_reducible refine gate_callee (f := 52) rfl ?_);refine goesL_ (some 54) rfl rfl Tryd.func52 (by kernel_rfl) rfl #[.agg #[.int .i64 ((rd_T25 x3_1 0).f0),.int .i64 ((rd_T25 x3_1 0).f1),.slice A163_2 ((rd_T25 x3_1 0).f2).length c163_2],.int .i64 0,.int .i64 0,.int .i64 0] rfl (by (try simp only [List.map_toArray,List.map_cons,List.map_nil]);first | done | rfl | (simp only [List.length_drop,List.length_take];rfl)) ?_;(with_reducible refine (tree_value.calls kj48 ((rd_T25 x3_1 0).f0) ((rd_T25 x3_1 0).f1) _ _ ((rd_T25 x3_1 0).f2) 0 0 0 t164 _ ?za8 ?zbh A63.out).mono ?_);(case za8 => repeat (first | exact (by repeat (first | (with_reducible exact zcb.out) | (with_reducible refine Kd.C_alloc ?_ _) | (with_reducible refine Kd.C_drewN ?_ _) | (with_reducible refine Kd.C_drew ?_) | exact zcb.out)) | (with_reducible refine Kd.C_alloc ?_ _) | (with_reducible refine Kd.C_drewN ?_ _) | (with_reducible refine Kd.C_drew ?_)));(case zbh => exact zgf.out);rintro e w70 ⟨rfl,hb⟩;refine ⟨_,rfl,?_⟩;have n0_ := am (Kd.N_below zbU.out hb);have n1_ := am (Kd.N_below zap.out hb);have n2_ := am (Kd.V_below zdi.out hb);have n3_ := am (blk_below (g := gb145) (o := .cells #[.int .i64 zay,.int .i64 zaK,.slice (some ad163) x3_1.length co50] 25 (0,0)) zaA.out hb);have n4_ := am (blk_below (g := gb146) (o := .cells #[.int .i64 0,.int .i64 0,.slice none 0 0] 25 (0,0)) zaz.out hb);have n5_ := am (Kd.C_below (by repeat (first | (with_reducible exact zcb.out) | (with_reducible refine Kd.C_alloc ?_ _) | (with_reducible refine Kd.C_drewN ?_ _) | (with_reducible refine Kd.C_drew ?_) | exact zcb.out)) hb);have n6_ := am (below_step HB.out hb);clear zbU;clear zap;clear zdi;clear zaA;clear zaz;clear zcb;clear HB;have zbU := n0_;have zap := n1_;have zdi := n2_;have zaA := n3_;have zaz := n4_;have zcb := n5_;have HB := n6_;clear n0_ n1_ n2_ n3_ n4_ n5_ n6_;(try clear hb);(try clear hb2);(try clear hk);(try clear hi);have p166 : 0 ≤ (1 : Int) := (by omega);have q166 : 1 < (x3_1.length : Int) := of_decide_eq_true (by first | (with_reducible assumption) | assumption);obtain ⟨ad166,A166_2,c166_2,e166,zeP,zeQ,zem,zip,ziq⟩ := at_T25 (Kd.N_reads' zbU.out).2.2 1 p166 q166;obtain rfl : ad163 = ad166 := (by injection e166);obtain ⟨ce166,hce166,hMe166,hcc166⟩ := Kd.N_get zbU.out z25 1 p166 (by first | exact q166 | exact of_decide_eq_true (by first | (with_reducible assumption) | assumption) | (have e_ := (Kd.N_reads' zbU.out).1;omega));obtain ⟨ua166_2,uc166_2,rfl,zgi,zgj⟩ := k25_openF hMe166;have zeR := hcc166 2 _ rfl;rw [add_field _ _ 2 (by omega)] at zeR;replace zeR := Option.some.inj (zeR.symm.trans zem);injection zeR with zex zgD zey;rw [zex] at zgj;rw [zey] at zgi;have HL166_2 := am (show Kd.V k25 25 _ w.heap.size _ _ ((rd_T25 x3_1 1).f2) from Kd.V_mk zgi zgj);clear zex zgD zey zgj zgi;clear hcc166 hce166;(try simp only [show (1 : Int).toNat = 1 from rfl,Nat.reduceMul,Nat.reduceEqDiff,Go.Addr.add,↓reduceIte] at zeP);(try simp only [show (1 : Int).toNat = 1 from rfl,Nat.reduceMul,Nat.reduceEqDiff,Go.Addr.add,↓reduceIte] at zeQ);(try simp only [show (1 : Int).toNat = 1 from rfl,Nat.reduceMul,Nat.reduceEqDiff,Go.Addr.add,↓reduceIte] at zem);have qi166 : (1 < x3_1.length) = True := eq_true (by omega);(try rw [show ((1 : Int)).toNat = 1 from rfl] at zeP);(try rw [show 1 * 3 = 3 from rfl] at zeP);(try rw [show ((1 : Int)).toNat = 1 from rfl] at zeQ);(try rw [show 1 * 3 = 3 from rfl] at zeQ);(try rw [show ((1 : Int)).toNat = 1 from rfl] at zem);(try rw [show 1 * 3 = 3 from rfl] at zem);have HR166_2 := am ziq;have HC166_2 := am zip;clear ziq zip;replace p166 := eq_true p166;replace q166 := eq_true q166;have hnb71 := zbO.out;have hnc71 := zbT.out;have hcz72_0 : w70.cell? ⟨gb146,0,none⟩ = some (.int .i64 0) := (blk_cell zaz.out 0).trans rfl;have hcz72_1 : w70.cell? ⟨gb146,1,none⟩ = some (.int .i64 0) := (blk_cell zaz.out 1).trans rfl;have hcz72_2 : w70.cell? ⟨gb146,2,none⟩ = some (.slice none 0 0) := (blk_cell zaz.out 2).trans rfl;have hfz72_0 := blk_frozen zaz.out 0;have hfz72_1 := blk_frozen zaz.out 1;have hfz72_2 := blk_frozen zaz.out 2))
             refine bodyPost_ret (results_cell_row rfl _ _ gb146 25 #[.int .i64 ((rd_T25 x3_1 1).f0),.int .i64 ((rd_T25 x3_1 1).f1),.slice A166_2 ((rd_T25 x3_1 1).f2).length c166_2] (0,0) _ rfl (by (with_reducible repeat (first | refine blk_drewN ?_ _ | refine blk_drew ?_ | refine blk_alloc ?_ _));refine blk_put (cs := #[.int .i64 ((rd_T25 x3_1 1).f0),.int .i64 ((rd_T25 x3_1 1).f1),.slice none 0 0]) ?_ 2 _ rfl;(with_reducible repeat (first | refine blk_drewN ?_ _ | refine blk_drew ?_ | refine blk_alloc ?_ _));refine blk_put (cs := #[.int .i64 ((rd_T25 x3_1 1).f0),.int .i64 0,.slice none 0 0]) ?_ 1 _ rfl;(with_reducible repeat (first | refine blk_drewN ?_ _ | refine blk_drew ?_ | refine blk_alloc ?_ _));refine blk_put (cs := #[.int .i64 0,.int .i64 0,.slice none 0 0]) ?_ 0 _ rfl;(with_reducible repeat (first | refine blk_drewN ?_ _ | refine blk_drew ?_ | refine blk_alloc ?_ _));exact zaz.out) Tryd.underlying25 rfl (by kernel_rfl)) rfl ?_
             exact ⟨_,by first | rfl | (simp [errW_none,errW_some] <;> rfl) | (simp [*,errW_none,errW_some] <;> rfl),by (with_reducible repeat (first | apply Kd.V_alloc | apply Kd.V_drewN | apply Kd.V_drew));exact Kd.V_mono (Kd.V_far (p := ⟨gb146,2,none⟩) (Kd.V_far (p := ⟨gb146,1,none⟩) (Kd.V_far (p := ⟨gb146,0,none⟩) (Kd.V_mono HL166_2.out (fun k_ hk => (⟨hk,hk.1.2.2⟩ : _ ∧ k_ ≠ gb146))) (fun _ hk => hk.2) (.int .i64 ((rd_T25 x3_1 1).f0))) (fun _ hk => hk.2) (.int .i64 ((rd_T25 x3_1 1).f1))) (fun _ hk => hk.2) (.slice A166_2 ((rd_T25 x3_1 1).f2).length c166_2)) (fun _ hk => hk.1.1.1),by repeat (first | (with_reducible first | exact HB.out | apply below_alloc | apply pw_below_drewN | apply below_drew1 | refine below_set ?_ zbR.out | refine below_set ?_ zbA.out) | exact HB.out)⟩
            ·rw [if_neg c69] at H
             exact absurd H (by simp)
          ·rw [if_neg c62] at H
           exact absurd H (by simp)
         ·replace c61 := Bool.eq_false_iff.mpr c61
          subst c61
          have H1 : (if x4_1 = true then ((tree_constant.f zay zaK x3_1).bind fun t167 => (tree_fold.j2 kj48 (!t167) zay zaK x3_1)) else (tree_fold.j2 kj48 false zay zaK x3_1)) = some (r1,r2,r3) := by rw [if_neg (show ¬ (false = true) by decide)] at H;exact H
          clear H
          have H := H1
          clear H1
          have HC73 := am H
          clear H
          go_upto_region 17 with (fail)
          go_cut [67] (fun v67 wc => ∃ (kq : Nat) (x67_72 : Bool),v67 = .bool x67_72 ∧ Aside0 (tree_fold.j2 kq x67_72 zay zaK x3_1 = some (r1,r2,r3)) ∧ Aside0 (kq ≤ kj48) ∧ Aside0 (Kd.N k25 25 wc w.heap.size (fun k_ => (zbm k_ ∨ w.heap.size ≤ k_) ∧ k_ ≠ gb145 ∧ k_ ≠ gb146) (.slice Ao50 x3_1.length co50) x3_1) ∧ Aside0 (wc.heap[gb145]? = some (.cells #[.int .i64 zay,.int .i64 zaK,(.slice Ao50 x3_1.length co50)] 25 (0,0))) ∧ Aside0 (wc.heap[gb146]? = some (.cells #[.int .i64 0,.int .i64 0,(.slice none 0 0)] 25 (0,0))) ∧ Aside0 (Below w.heap.size w wc))
          case first =>
           have H := HC73.out
           clear HC73
           by_cases c74 : x4_1 = true
           ·subst c74
            have H1 : ((tree_constant.f zay zaK x3_1).bind fun t167 => (tree_fold.j2 kj48 (!t167) zay zaK x3_1)) = some (r1,r2,r3) := by rw [if_pos rfl] at H;exact H
            clear H
            have H := H1
            clear H1
            replace H := Option.bind_eq_some_iff.mp H
            obtain ⟨t167,A750,H⟩ := H
            replace H : (tree_fold.j2 kj48 (!t167) zay zaK x3_1) = some (r1,r2,r3) := H
            have A75 := am A750
            clear A750
            have H' := am H
            clear H
            have hnb76 := zbT.out
            have hnc76 := zbO.out
            have hcz77_0 : wc.cell? ⟨gb145,0,none⟩ = some (.int .i64 zay) := (blk_cell zaA.out 0).trans rfl
            have hcz77_1 : wc.cell? ⟨gb145,1,none⟩ = some (.int .i64 zaK) := (blk_cell zaA.out 1).trans rfl
            have hcz77_2 : wc.cell? ⟨gb145,2,none⟩ = some (.slice Ao50 x3_1.length co50) := (blk_cell zaA.out 2).trans rfl
            have hfz77_0 := blk_frozen zaA.out 0
            have hfz77_1 := blk_frozen zaA.out 1
            have hfz77_2 := blk_frozen zaA.out 2
            go_wp2_with (first | (go_at_call 78;(with_reducible refine (tree_constant.calls zay zaK _ _ x3_1 t167 _ ?za8 ?zbh A75.out).mono ?_);(case za8 => repeat (first | exact (Kd.N_reads' zap.out).2.2 | (with_reducible refine Kd.C_alloc ?_ _) | (with_reducible refine Kd.C_drewN ?_ _) | (with_reducible refine Kd.C_drew ?_)));(case zbh => exact (Kd.N_reads' zap.out).2.1);rintro e w78 ⟨rfl,hb⟩;have n0_ := am (Kd.N_below zbU.out hb);have n1_ := am (Kd.N_below zap.out hb);have n2_ := am (blk_below (g := gb145) (o := .cells #[.int .i64 zay,.int .i64 zaK,.slice Ao50 x3_1.length co50] 25 (0,0)) zaA.out hb);have n3_ := am (blk_below (g := gb146) (o := .cells #[.int .i64 0,.int .i64 0,.slice none 0 0] 25 (0,0)) zaz.out hb);have n4_ := am (below_step HB.out hb);clear zbU;clear zap;clear zaA;clear zaz;clear HB;have zbU := n0_;have zap := n1_;have zaA := n2_;have zaz := n3_;have HB := n4_;clear n0_ n1_ n2_ n3_ n4_;(try clear hb);(try clear hb2);(try clear hk);(try clear hi)))
            go_meet
            case rel => exact ⟨_,(!t167),(by first | rfl | (simp;done) | (simp [*];done)),H',⟨by have := HK1.out;have := HJ48.out;first | omega | exact Nat.le_refl _⟩,⟨by (with_reducible repeat (first | apply Kd.N_alloc | apply Kd.N_drewN | apply Kd.N_drew));exact zap.out⟩,⟨by (with_reducible repeat (first | refine blk_drewN ?_ _ | refine blk_drew ?_ | refine blk_alloc ?_ _));exact zaA.out⟩,⟨by (with_reducible repeat (first | refine blk_drewN ?_ _ | refine blk_drew ?_ | refine blk_alloc ?_ _));exact zaz.out⟩,⟨by repeat (first | (with_reducible first | exact HB.out | apply below_alloc | apply pw_below_drewN | apply below_drew1 | refine below_set ?_ zbR.out | refine below_set ?_ zbA.out) | exact HB.out)⟩⟩
           ·replace c74 := Bool.eq_false_iff.mpr c74
            subst c74
            have H1 : (tree_fold.j2 kj48 false zay zaK x3_1) = some (r1,r2,r3) := by rw [if_neg (show ¬ (false = true) by decide)] at H;exact H
            clear H
            have H := H1
            clear H1
            have H' := am H
            clear H
            go_wp2
            go_meet
            case rel => exact ⟨_,(false),(by first | rfl | (simp;done) | (simp [*];done)),H',⟨by have := HK1.out;have := HJ48.out;first | omega | exact Nat.le_refl _⟩,⟨by (with_reducible repeat (first | apply Kd.N_alloc | apply Kd.N_drewN | apply Kd.N_drew));exact zap.out⟩,⟨by (with_reducible repeat (first | refine blk_drewN ?_ _ | refine blk_drew ?_ | refine blk_alloc ?_ _));exact zaA.out⟩,⟨by (with_reducible repeat (first | refine blk_drewN ?_ _ | refine blk_drew ?_ | refine blk_alloc ?_ _));exact zaz.out⟩,⟨by repeat (first | (with_reducible first | exact HB.out | apply below_alloc | apply pw_below_drewN | apply below_drew1 | refine below_set ?_ zbR.out | refine below_set ?_ zbA.out) | exact HB.out)⟩⟩
          case rest =>
           clear HC73
           try clear c1
           try clear p1
           try clear q1
           try clear hx1
           try clear qi1
           try clear c2
           try clear zfb
           try clear c2b1
           try clear p2
           try clear c3
           try clear zes
           try clear zff
           try clear c4
           try clear c5
           try clear c6
           try clear p6
           try clear c7
           try clear c11
           try clear zds
           try clear c12
           try clear zeZ
           try clear c13
           try clear ze0
           try clear c15
           try clear p15
           try clear q15
           try clear hx15
           try clear c16
           try clear p16
           try clear q16
           try clear hx16
           try clear qi16
           try clear c19
           try clear c20
           try clear c33
           try clear c34
           try clear c44
           try clear c44b0
           try clear c44b1
           try clear c44b2
           try clear c46
           try clear c51
           try clear c52
           try clear c53
           try clear zgc
           try clear c53b1
           try clear c54
           try clear c54b0
           try clear c54b1
           try clear c56
           try clear c59
           try clear c61
           try clear c62
           try clear c62b0
           try clear c62b1
           try clear c64
           try clear c64b0
           try clear c64b1
           try clear p64
           try clear c65
           try clear c65b0
           try clear c65b1
           try clear c67
           try clear c69
           try clear c69b0
           try clear c69b1
           try clear c71
           try clear c74
           try clear c76
           try clear zc0
           try clear zc1
           try clear zc2
           try clear zc6
           try clear zc7
           try clear zc8
           try clear zfY
           try clear zfZ
           try clear zf0
           try clear zdQ
           try clear zdR
           try clear zdS
           try clear zeB
           try clear zeC
           try clear zeD
           try clear zhJ
           try clear zhK
           try clear zhL
           try clear zfG
           try clear zfH
           try clear zfI
           try clear zfM
           try clear zfN
           try clear zfO
           try clear zhP
           try clear zhQ
           try clear zhR
           try clear zhV
           try clear zhW
           try clear zhX
           try clear zh1
           try clear zh2
           try clear zh3
           try clear zfy
           try clear zfz
           try clear zfA
           try clear zfS
           try clear zfT
           try clear zfU
           try clear zh7
           try clear zh8
           try clear zh9
           try clear zig
           try clear zih
           try clear zii
           try clear hcz68_0
           try clear hcz68_1
           try clear hcz68_2
           try clear hcz72_0
           try clear hcz72_1
           try clear hcz72_2
           try clear hcz77_0
           try clear hcz77_1
           try clear hcz77_2
           try clear zeS
           try clear zeT
           try clear zeU
           try clear zdr
           try clear zc3
           try clear zc4
           try clear zc9
           try clear zda
           try clear zdb
           try clear zf1
           try clear zf2
           try clear zf3
           try clear zdT
           try clear zdU
           try clear zdV
           try clear zeE
           try clear zeF
           try clear zeG
           try clear zhM
           try clear zhN
           try clear zhO
           try clear zfJ
           try clear zfK
           try clear zfL
           try clear zfP
           try clear zfQ
           try clear zfR
           try clear zhS
           try clear zhT
           try clear zhU
           try clear zhY
           try clear zhZ
           try clear zh0
           try clear zh4
           try clear zh5
           try clear zh6
           try clear zfB
           try clear zfC
           try clear zfD
           try clear zfV
           try clear zfW
           try clear zfX
           try clear zia
           try clear zib
           try clear zic
           try clear zij
           try clear zik
           try clear zil
           try clear hfz68_0
           try clear hfz68_1
           try clear hfz68_2
           try clear hfz72_0
           try clear hfz72_1
           try clear hfz72_2
           try clear hfz77_0
           try clear hfz77_1
           try clear hfz77_2
           try clear zgr
           try clear zeV
           try clear zeW
           try clear zga
           try clear zgb
           try clear zed
           try clear zde
           try clear zdf
           try clear zcW
           try clear zcX
           try clear zcY
           try clear zcy
           try clear zeM
           try clear zeN
           try clear zel
           try clear zeP
           try clear zeQ
           try clear zem
           try clear p1
           try clear p15
           try clear zhE
           try clear p16
           try clear p161
           try clear p163
           try clear p165
           try clear p166
           try clear p2
           try clear p6
           try clear q1
           try clear q15
           try clear zhF
           try clear q16
           try clear q161
           try clear q163
           try clear q165
           try clear q166
           obtain ⟨kq,x67_72,rfl,HA,HJ72,zap,zaA,zaz,HB⟩ := hcut
           cases kq with
           | zero => exact absurd HA.out (by simp [tree_fold.j2])
           | succ kj72 =>
            have H := HA.out
            clear HA
            simp only [tree_fold.j2] at H
            by_cases c79 : x67_72 = true
            ·subst c79
             have H1 : ((tree_value.f kj72 zay zaK x3_1 0 0 0).bind fun t168 => ((tree_literal.f t168).bind fun bt169 => (if bt169.2.2.2 = true then (some (bt169.1,bt169.2.1,bt169.2.2.1)) else (some (zay,zaK,x3_1))))) = some (r1,r2,r3) := by rw [if_pos rfl] at H;exact H
             clear H
             have H := H1
             clear H1
             replace H := Option.bind_eq_some_iff.mp H
             obtain ⟨t168,A800,H⟩ := H
             replace H : ((tree_literal.f t168).bind fun bt169 => (if bt169.2.2.2 = true then (some (bt169.1,bt169.2.1,bt169.2.2.1)) else (some (zay,zaK,x3_1)))) = some (r1,r2,r3) := H
             have A80 := am A800
             clear A800
             replace H := Option.bind_eq_some_iff.mp H
             obtain ⟨⟨t169,t170,t171,t174⟩,A810,H⟩ := H
             replace H : (if t174 = true then (some (t169,t170,t171)) else (some (zay,zaK,x3_1))) = some (r1,r2,r3) := H
             have A81 := am A810
             clear A810
             by_cases c82 : t174 = true
             ·subst c82
              have H1 : (some (t169,t170,t171)) = some (r1,r2,r3) := by rw [if_pos rfl] at H;exact H
              clear H
              have H := H1
              clear H1
              simp only [Option.some.injEq,Prod.mk.injEq] at H
              obtain ⟨rfl,rfl,rfl⟩ := H
              have hnb83 := zbT.out
              have hnc83 := zbO.out
              have hcz84_0 : wc.cell? ⟨gb145,0,none⟩ = some (.int .i64 zay) := (blk_cell zaA.out 0).trans rfl
              have hcz84_1 : wc.cell? ⟨gb145,1,none⟩ = some (.int .i64 zaK) := (blk_cell zaA.out 1).trans rfl
              have hcz84_2 : wc.cell? ⟨gb145,2,none⟩ = some (.slice Ao50 x3_1.length co50) := (blk_cell zaA.out 2).trans rfl
              have hfz84_0 := blk_frozen zaA.out 0
              have hfz84_1 := blk_frozen zaA.out 1
              have hfz84_2 := blk_frozen zaA.out 2
              go_wp2_with (first | ((with_reducible refine gate_callee (f := 52) rfl ?_);refine goesL_ (some 70) rfl rfl Tryd.func52 (by kernel_rfl) rfl #[.agg #[.int .i64 zay,.int .i64 zaK,.slice Ao50 x3_1.length co50],.int .i64 0,.int .i64 0,.int .i64 0] rfl (by (try simp only [List.map_toArray,List.map_cons,List.map_nil]);first | done | rfl | (simp only [List.length_drop,List.length_take];rfl)) ?_;(with_reducible refine (tree_value.calls kj72 zay zaK _ _ x3_1 0 0 0 t168 _ ?za8 ?zbh A80.out).mono ?_);(case za8 => repeat (first | exact (Kd.N_reads' zap.out).2.2 | (with_reducible refine Kd.C_alloc ?_ _) | (with_reducible refine Kd.C_drewN ?_ _) | (with_reducible refine Kd.C_drew ?_)));(case zbh => exact (Kd.N_reads' zap.out).2.1);rintro e w85 ⟨rfl,hb⟩;refine ⟨_,rfl,?_⟩;have n0_ := am (Kd.N_below zap.out hb);have n1_ := am (blk_below (g := gb145) (o := .cells #[.int .i64 zay,.int .i64 zaK,.slice Ao50 x3_1.length co50] 25 (0,0)) zaA.out hb);have n2_ := am (blk_below (g := gb146) (o := .cells #[.int .i64 0,.int .i64 0,.slice none 0 0] 25 (0,0)) zaz.out hb);have n3_ := am (below_step HB.out hb);clear zap;clear zaA;clear zaz;clear HB;have zap := n0_;have zaA := n1_;have zaz := n2_;have HB := n3_;clear n0_ n1_ n2_ n3_;(try clear hb);(try clear hb2);(try clear hk);(try clear hi)) | ((with_reducible refine gate_callee (f := 79) rfl ?_);refine goesL_ (some 71) rfl rfl Tryd.func79 (by kernel_rfl) rfl #[.int .i64 t168] rfl (by (try simp only [List.map_toArray,List.map_cons,List.map_nil]);first | done | rfl | (simp only [List.length_drop,List.length_take];rfl)) ?_;(with_reducible refine (tree_literal.calls t168 t169 t170 t171 true _ A81.out).mono ?_);rintro e w86 ⟨v172,rfl,ho0,hb⟩;refine ⟨_,rfl,?_⟩;have n0_ := am (Kd.N_elder' zap.out (Kd.N_base (Kd.R_N ho0)) hb);have n1_ := am (Kd.N_lower (Kd.N_mono (ok' := fun k_ => (zbm k_ ∨ w.heap.size ≤ k_) ∧ some k_ ≠ (.slice Ao50 x3_1.length co50 : Value).ownBlock ∧ k_ ≠ gb145 ∧ k_ ≠ gb146) (Kd.R_N (Kd.R_bound ho0)) (fun k_ hk_ => ⟨(.inr (Nat.le_trans (below_size HB.out) hk_.2.1)),(Kd.fresh' (Kd.N_lt zap.out) k_ hk_.2.1),(Kd.freshB (g := gb145) (o := .cells #[.int .i64 zay,.int .i64 zaK,.slice Ao50 x3_1.length co50] 25 (0,0)) zaA.out k_ hk_.2.1),(Kd.freshB (g := gb146) (o := .cells #[.int .i64 0,.int .i64 0,.slice none 0 0] 25 (0,0)) zaz.out k_ hk_.2.1)⟩)) (below_size HB.out));have n2_ := am (blk_below (g := gb145) (o := .cells #[.int .i64 zay,.int .i64 zaK,.slice Ao50 x3_1.length co50] 25 (0,0)) zaA.out hb);have n3_ := am (blk_below (g := gb146) (o := .cells #[.int .i64 0,.int .i64 0,.slice none 0 0] 25 (0,0)) zaz.out hb);have n4_ := am (below_step HB.out hb);clear zap;clear zaA;clear zaz;clear HB;have zap := n0_;have zew := n1_;have zaA := n2_;have zaz := n3_;have HB := n4_;clear n0_ n1_ n2_ n3_ n4_;(try clear hb);(try clear hb2);(try clear hk);(try clear hi);(try clear ho0)) | ((with_reducible refine gate_dst (N := 7) rfl ?_);refine box_event ?hg (N := 7) ?hd (cs := #[.int .i64 0,.int .i64 0,.slice none 0 0]) (t := 25) ?hr ?_;(case hd => rfl);(case hg => rfl);(case hr => first | (go_simp;done) | (go_simp;rfl));intro gb175 hg w87 zan hb;have n0_ := am (Kd.N_below (Kd.N_elderB zap.out gb175 (Nat.le_of_eq hg.symm)) hb);have n1_ := am (Kd.N_below (Kd.N_elderB zew.out gb175 (Nat.le_of_eq hg.symm)) hb);have n2_ := am (blk_below (g := gb145) (o := .cells #[.int .i64 zay,.int .i64 zaK,.slice Ao50 x3_1.length co50] 25 (0,0)) zaA.out hb);have n3_ := am (blk_below (g := gb146) (o := .cells #[.int .i64 0,.int .i64 0,.slice none 0 0] 25 (0,0)) zaz.out hb);have n4_ := am (below_step HB.out hb);have n5_ := am (zan);have n6_ := am ((by rw [hg];exact (below_size HB.out) : w.heap.size ≤ gb175));have n7_ := am ((by rw [hg];exact (below_size HB.out) : w.heap.size ≤ gb175));have n8_ := am ((by rw [hg];exact Nat.ne_of_lt (blk_lt (g := gb145) (o := .cells #[.int .i64 zay,.int .i64 zaK,.slice Ao50 x3_1.length co50] 25 (0,0)) zaA.out) : gb145 ≠ gb175));have n9_ := am ((by rw [hg];exact Nat.ne_of_gt (blk_lt (g := gb145) (o := .cells #[.int .i64 zay,.int .i64 zaK,.slice Ao50 x3_1.length co50] 25 (0,0)) zaA.out) : gb175 ≠ gb145));have zhH := am ((by rw [hg];exact Nat.ne_of_lt (blk_lt (g := gb146) (o := .cells #[.int .i64 0,.int .i64 0,.slice none 0 0] 25 (0,0)) zaz.out) : gb146 ≠ gb175));have zhI := am ((by rw [hg];exact Nat.ne_of_gt (blk_lt (g := gb146) (o := .cells #[.int .i64 0,.int .i64 0,.slice none 0 0] 25 (0,0)) zaz.out) : gb175 ≠ gb146));clear zap;clear zew;clear zaA;clear zaz;clear HB;have zap := n0_;have zew := n1_;have zaA := n2_;have zaz := n3_;have HB := n4_;have zdz := n5_;have GW175 := n6_;have GE175 := n7_;have zen := n8_;have zeo := n9_;have zb5 := zhH;have zep := zhI;clear n0_ n1_ n2_ n3_ n4_ n5_ n6_ n7_ n8_ n9_ zhH zhI;clear hb zan hg;have hnb88 := zeo.out;have hnc88 := zen.out;have hnb89 := zep.out;have hnc89 := zb5.out;have hcz90_0 : w87.cell? ⟨gb175,0,none⟩ = some (.int .i64 0) := (blk_cell zdz.out 0).trans rfl;have hcz90_1 : w87.cell? ⟨gb175,1,none⟩ = some (.int .i64 0) := (blk_cell zdz.out 1).trans rfl;have hcz90_2 : w87.cell? ⟨gb175,2,none⟩ = some (.slice none 0 0) := (blk_cell zdz.out 2).trans rfl;have hfz90_0 := blk_frozen zdz.out 0;have hfz90_1 := blk_frozen zdz.out 1;have hfz90_2 := blk_frozen zdz.out 2;obtain ⟨Ao91,co91,eo91⟩ := Kd.N_slice zew.out;subst eo91;have hcz92_0 : w87.cell? ⟨gb146,0,none⟩ = some (.int .i64 0) := (blk_cell zaz.out 0).trans rfl;have hcz92_1 : w87.cell? ⟨gb146,1,none⟩ = some (.int .i64 0) := (blk_cell zaz.out 1).trans rfl;have hcz92_2 : w87.cell? ⟨gb146,2,none⟩ = some (.slice none 0 0) := (blk_cell zaz.out 2).trans rfl;have hfz92_0 := blk_frozen zaz.out 0;have hfz92_1 := blk_frozen zaz.out 1;have hfz92_2 := blk_frozen zaz.out 2))
              refine bodyPost_ret (results_cell_row rfl _ _ gb146 25 #[.int .i64 t169,.int .i64 t170,.slice Ao91 t171.length co91] (0,0) _ rfl (by (with_reducible repeat (first | refine blk_drewN ?_ _ | refine blk_drew ?_ | refine blk_alloc ?_ _));refine blk_put (cs := #[.int .i64 t169,.int .i64 t170,.slice none 0 0]) ?_ 2 _ rfl;(with_reducible repeat (first | refine blk_drewN ?_ _ | refine blk_drew ?_ | refine blk_alloc ?_ _));refine blk_put (cs := #[.int .i64 t169,.int .i64 0,.slice none 0 0]) ?_ 1 _ rfl;(with_reducible repeat (first | refine blk_drewN ?_ _ | refine blk_drew ?_ | refine blk_alloc ?_ _));refine blk_put (cs := #[.int .i64 0,.int .i64 0,.slice none 0 0]) ?_ 0 _ rfl;(with_reducible repeat (first | refine blk_drewN ?_ _ | refine blk_drew ?_ | refine blk_alloc ?_ _));refine blk_far ?_ zb5.out _;(with_reducible repeat (first | refine blk_drewN ?_ _ | refine blk_drew ?_ | refine blk_alloc ?_ _));refine blk_far ?_ zb5.out _;(with_reducible repeat (first | refine blk_drewN ?_ _ | refine blk_drew ?_ | refine blk_alloc ?_ _));refine blk_far ?_ zb5.out _;(with_reducible repeat (first | refine blk_drewN ?_ _ | refine blk_drew ?_ | refine blk_alloc ?_ _));exact zaz.out) Tryd.underlying25 rfl (by kernel_rfl)) rfl ?_
              exact ⟨_,by first | rfl | (simp [errW_none,errW_some] <;> rfl) | (simp [*,errW_none,errW_some] <;> rfl),Kd.N_V (Kd.N_mono (Kd.N_far (p := ⟨gb146,2,none⟩) (Kd.N_far (p := ⟨gb146,1,none⟩) (Kd.N_far (p := ⟨gb146,0,none⟩) (Kd.N_far (p := ⟨gb175,2,none⟩) (Kd.N_far (p := ⟨gb175,1,none⟩) (Kd.N_far (p := ⟨gb175,0,none⟩) (Kd.N_mono (Kd.N_mono zew.out (fun k_ hk => (⟨hk,hk.2⟩ : _ ∧ k_ ≠ gb175))) (fun k_ hk => (⟨hk,hk.1.1.2.2.2⟩ : _ ∧ k_ ≠ gb146))) (fun _ hk => hk.1.2) (.int .i64 t169)) (fun _ hk => hk.1.2) (.int .i64 t170)) (fun _ hk => hk.1.2) (.slice Ao91 t171.length co91)) (fun _ hk => hk.2) (.int .i64 t169)) (fun _ hk => hk.2) (.int .i64 t170)) (fun _ hk => hk.2) (.slice Ao91 t171.length co91)) (fun _ hk => hk.1.1.1.1)),by repeat (first | (with_reducible first | exact HB.out | apply below_alloc | apply pw_below_drewN | apply below_drew1 | refine below_set ?_ zbR.out | refine below_set ?_ zbA.out | refine below_set ?_ GE175.out) | exact HB.out)⟩
             ·replace c82 := Bool.eq_false_iff.mpr c82
              subst c82
              have H1 : (some (zay,zaK,x3_1)) = some (r1,r2,r3) := by rw [if_neg (show ¬ (false = true) by decide)] at H;exact H
              clear H
              have H := H1
              clear H1
              simp only [Option.some.injEq,Prod.mk.injEq] at H
              obtain ⟨rfl,rfl,rfl⟩ := H
              have hnb93 := zbT.out
              have hnc93 := zbO.out
              have hcz94_0 : wc.cell? ⟨gb145,0,none⟩ = some (.int .i64 zay) := (blk_cell zaA.out 0).trans rfl
              have hcz94_1 : wc.cell? ⟨gb145,1,none⟩ = some (.int .i64 zaK) := (blk_cell zaA.out 1).trans rfl
              have hcz94_2 : wc.cell? ⟨gb145,2,none⟩ = some (.slice Ao50 x3_1.length co50) := (blk_cell zaA.out 2).trans rfl
              have hfz94_0 := blk_frozen zaA.out 0
              have hfz94_1 := blk_frozen zaA.out 1
              have hfz94_2 := blk_frozen zaA.out 2
              go_wp2_with (first | ((with_reducible refine gate_callee (f := 52) rfl ?_);refine goesL_ (some 70) rfl rfl Tryd.func52 (by kernel_rfl) rfl #[.agg #[.int .i64 zay,.int .i64 zaK,.slice Ao50 x3_1.length co50],.int .i64 0,.int .i64 0,.int .i64 0] rfl (by (try simp only [List.map_toArray,List.map_cons,List.map_nil]);first | done | rfl | (simp only [List.length_drop,List.length_take];rfl)) ?_;(with_reducible refine (tree_value.calls kj72 zay zaK _ _ x3_1 0 0 0 t168 _ ?za8 ?zbh A80.out).mono ?_);(case za8 => repeat (first | exact (Kd.N_reads' zap.out).2.2 | (with_reducible refine Kd.C_alloc ?_ _) | (with_reducible refine Kd.C_drewN ?_ _) | (with_reducible refine Kd.C_drew ?_)));(case zbh => exact (Kd.N_reads' zap.out).2.1);rintro e w95 ⟨rfl,hb⟩;refine ⟨_,rfl,?_⟩;have n0_ := am (Kd.N_below zap.out hb);have n1_ := am (blk_below (g := gb145) (o := .cells #[.int .i64 zay,.int .i64 zaK,.slice Ao50 x3_1.length co50] 25 (0,0)) zaA.out hb);have n2_ := am (blk_below (g := gb146) (o := .cells #[.int .i64 0,.int .i64 0,.slice none 0 0] 25 (0,0)) zaz.out hb);have n3_ := am (below_step HB.out hb);clear zap;clear zaA;clear zaz;clear HB;have zap := n0_;have zaA := n1_;have zaz := n2_;have HB := n3_;clear n0_ n1_ n2_ n3_;(try clear hb);(try clear hb2);(try clear hk);(try clear hi)) | ((with_reducible refine gate_callee (f := 79) rfl ?_);refine goesL_ (some 71) rfl rfl Tryd.func79 (by kernel_rfl) rfl #[.int .i64 t168] rfl (by (try simp only [List.map_toArray,List.map_cons,List.map_nil]);first | done | rfl | (simp only [List.length_drop,List.length_take];rfl)) ?_;(with_reducible refine (tree_literal.calls t168 t169 t170 t171 false _ A81.out).mono ?_);rintro e w96 ⟨v172,rfl,ho0,hb⟩;refine ⟨_,rfl,?_⟩;have n0_ := am (Kd.N_elder' zap.out (Kd.N_base (Kd.R_N ho0)) hb);have n1_ := am (Kd.N_lower (Kd.N_mono (ok' := fun k_ => (zbm k_ ∨ w.heap.size ≤ k_) ∧ some k_ ≠ (.slice Ao50 x3_1.length co50 : Value).ownBlock ∧ k_ ≠ gb145 ∧ k_ ≠ gb146) (Kd.R_N (Kd.R_bound ho0)) (fun k_ hk_ => ⟨(.inr (Nat.le_trans (below_size HB.out) hk_.2.1)),(Kd.fresh' (Kd.N_lt zap.out) k_ hk_.2.1),(Kd.freshB (g := gb145) (o := .cells #[.int .i64 zay,.int .i64 zaK,.slice Ao50 x3_1.length co50] 25 (0,0)) zaA.out k_ hk_.2.1),(Kd.freshB (g := gb146) (o := .cells #[.int .i64 0,.int .i64 0,.slice none 0 0] 25 (0,0)) zaz.out k_ hk_.2.1)⟩)) (below_size HB.out));have n2_ := am (blk_below (g := gb145) (o := .cells #[.int .i64 zay,.int .i64 zaK,.slice Ao50 x3_1.length co50] 25 (0,0)) zaA.out hb);have n3_ := am (blk_below (g := gb146) (o := .cells #[.int .i64 0,.int .i64 0,.slice none 0 0] 25 (0,0)) zaz.out hb);have n4_ := am (below_step HB.out hb);clear zap;clear zaA;clear zaz;clear HB;have zap := n0_;have zew := n1_;have zaA := n2_;have zaz := n3_;have HB := n4_;clear n0_ n1_ n2_ n3_ n4_;(try clear hb);(try clear hb2);(try clear hk);(try clear hi);(try clear ho0)) | ((with_reducible refine gate_dst (N := 7) rfl ?_);refine box_event ?hg (N := 7) ?hd (cs := #[.int .i64 0,.int .i64 0,.slice none 0 0]) (t := 25) ?hr ?_;(case hd => rfl);(case hg => rfl);(case hr => first | (go_simp;done) | (go_simp;rfl));intro gb175 hg w97 zan hb;have n0_ := am (Kd.N_below (Kd.N_elderB zap.out gb175 (Nat.le_of_eq hg.symm)) hb);have n1_ := am (Kd.N_below (Kd.N_elderB zew.out gb175 (Nat.le_of_eq hg.symm)) hb);have n2_ := am (blk_below (g := gb145) (o := .cells #[.int .i64 zay,.int .i64 zaK,.slice Ao50 x3_1.length co50] 25 (0,0)) zaA.out hb);have n3_ := am (blk_below (g := gb146) (o := .cells #[.int .i64 0,.int .i64 0,.slice none 0 0] 25 (0,0)) zaz.out hb);have n4_ := am (below_step HB.out hb);have n5_ := am (zan);have n6_ := am ((by rw [hg];exact (below_size HB.out) : w.heap.size ≤ gb175));have n7_ := am ((by rw [hg];exact (below_size HB.out) : w.heap.size ≤ gb175));have n8_ := am ((by rw [hg];exact Nat.ne_of_lt (blk_lt (g := gb145) (o := .cells #[.int .i64 zay,.int .i64 zaK,.slice Ao50 x3_1.length co50] 25 (0,0)) zaA.out) : gb145 ≠ gb175));have n9_ := am ((by rw [hg];exact Nat.ne_of_gt (blk_lt (g := gb145) (o := .cells #[.int .i64 zay,.int .i64 zaK,.slice Ao50 x3_1.length co50] 25 (0,0)) zaA.out) : gb175 ≠ gb145));have zhH := am ((by rw [hg];exact Nat.ne_of_lt (blk_lt (g := gb146) (o := .cells #[.int .i64 0,.int .i64 0,.slice none 0 0] 25 (0,0)) zaz.out) : gb146 ≠ gb175));have zhI := am ((by rw [hg];exact Nat.ne_of_gt (blk_lt (g := gb146) (o := .cells #[.int .i64 0,.int .i64 0,.slice none 0 0] 25 (0,0)) zaz.out) : gb175 ≠ gb146));clear zap;clear zew;clear zaA;clear zaz;clear HB;have zap := n0_;have zew := n1_;have zaA := n2_;have zaz := n3_;have HB := n4_;have zdz := n5_;have GW175 := n6_;have GE175 := n7_;have zen := n8_;have zeo := n9_;have zb5 := zhH;have zep := zhI;clear n0_ n1_ n2_ n3_ n4_ n5_ n6_ n7_ n8_ n9_ zhH zhI;clear hb zan hg;have hnb98 := zeo.out;have hnc98 := zen.out;have hnb99 := zep.out;have hnc99 := zb5.out;have hcz100_0 : w97.cell? ⟨gb175,0,none⟩ = some (.int .i64 0) := (blk_cell zdz.out 0).trans rfl;have hcz100_1 : w97.cell? ⟨gb175,1,none⟩ = some (.int .i64 0) := (blk_cell zdz.out 1).trans rfl;have hcz100_2 : w97.cell? ⟨gb175,2,none⟩ = some (.slice none 0 0) := (blk_cell zdz.out 2).trans rfl;have hfz100_0 := blk_frozen zdz.out 0;have hfz100_1 := blk_frozen zdz.out 1;have hfz100_2 := blk_frozen zdz.out 2;obtain ⟨Ao101,co101,eo101⟩ := Kd.N_slice zew.out;subst eo101;have hcz102_0 : w97.cell? ⟨gb145,0,none⟩ = some (.int .i64 zay) := (blk_cell zaA.out 0).trans rfl;have hcz102_1 : w97.cell? ⟨gb145,1,none⟩ = some (.int .i64 zaK) := (blk_cell zaA.out 1).trans rfl;have hcz102_2 : w97.cell? ⟨gb145,2,none⟩ = some (.slice Ao50 x3_1.length co50) := (blk_cell zaA.out 2).trans rfl;have hfz102_0 := blk_frozen zaA.out 0;have hfz102_1 := blk_frozen zaA.out 1;have hfz102_2 := blk_frozen zaA.out 2;have hcz103_0 : w97.cell? ⟨gb146,0,none⟩ = some (.int .i64 0) := (blk_cell zaz.out 0).trans rfl;have hcz103_1 : w97.cell? ⟨gb146,1,none⟩ = some (.int .i64 0) := (blk_cell zaz.out 1).trans rfl;have hcz103_2 : w97.cell? ⟨gb146,2,none⟩ = some (.slice none 0 0) := (blk_cell zaz.out 2).trans rfl;have hfz103_0 := blk_frozen zaz.out 0;have hfz103_1 := blk_frozen zaz.out 1;have hfz103_2 := blk_frozen zaz.out 2))
              refine bodyPost_ret (results_cell_row rfl _ _ gb146 25 #[.int .i64 zay,.int .i64 zaK,.slice Ao50 x3_1.length co50] (0,0) _ rfl (by (with_reducible repeat (first | refine blk_drewN ?_ _ | refine blk_drew ?_ | refine blk_alloc ?_ _));refine blk_put (cs := #[.int .i64 zay,.int .i64 zaK,.slice none 0 0]) ?_ 2 _ rfl;(with_reducible repeat (first | refine blk_drewN ?_ _ | refine blk_drew ?_ | refine blk_alloc ?_ _));refine blk_put (cs := #[.int .i64 zay,.int .i64 0,.slice none 0 0]) ?_ 1 _ rfl;(with_reducible repeat (first | refine blk_drewN ?_ _ | refine blk_drew ?_ | refine blk_alloc ?_ _));refine blk_put (cs := #[.int .i64 0,.int .i64 0,.slice none 0 0]) ?_ 0 _ rfl;(with_reducible repeat (first | refine blk_drewN ?_ _ | refine blk_drew ?_ | refine blk_alloc ?_ _));refine blk_far ?_ zb5.out _;(with_reducible repeat (first | refine blk_drewN ?_ _ | refine blk_drew ?_ | refine blk_alloc ?_ _));refine blk_far ?_ zb5.out _;(with_reducible repeat (first | refine blk_drewN ?_ _ | refine blk_drew ?_ | refine blk_alloc ?_ _));refine blk_far ?_ zb5.out _;(with_reducible repeat (first | refine blk_drewN ?_ _ | refine blk_drew ?_ | refine blk_alloc ?_ _));exact zaz.out) Tryd.underlying25 rfl (by kernel_rfl)) rfl ?_
              exact ⟨_,by first | rfl | (simp [errW_none,errW_some] <;> rfl) | (simp [*,errW_none,errW_some] <;> rfl),Kd.N_V (Kd.N_mono (Kd.N_far (p := ⟨gb146,2,none⟩) (Kd.N_far (p := ⟨gb146,1,none⟩) (Kd.N_far (p := ⟨gb146,0,none⟩) (Kd.N_far (p := ⟨gb175,2,none⟩) (Kd.N_far (p := ⟨gb175,1,none⟩) (Kd.N_far (p := ⟨gb175,0,none⟩) (Kd.N_mono (Kd.N_mono zap.out (fun k_ hk => (⟨hk,hk.2⟩ : _ ∧ k_ ≠ gb175))) (fun k_ hk => (⟨hk,hk.1.1.1.2.2⟩ : _ ∧ k_ ≠ gb146))) (fun _ hk => hk.1.2) (.int .i64 t169)) (fun _ hk => hk.1.2) (.int .i64 t170)) (fun _ hk => hk.1.2) (.slice Ao101 t171.length co101)) (fun _ hk => hk.2) (.int .i64 zay)) (fun _ hk => hk.2) (.int .i64 zaK)) (fun _ hk => hk.2) (.slice Ao50 x3_1.length co50)) (fun _ hk => hk.1.1.1.1.1)),by repeat (first | (with_reducible first | exact HB.out | apply below_alloc | apply pw_below_drewN | apply below_drew1 | refine below_set ?_ zbR.out | refine below_set ?_ zbA.out | refine below_set ?_ GE175.out) | exact HB.out)⟩
            ·replace c79 := Bool.eq_false_iff.mpr c79
             subst c79
             have H1 : (some (zay,zaK,x3_1)) = some (r1,r2,r3) := by rw [if_neg (show ¬ (false = true) by decide)] at H;exact H
             clear H
             have H := H1
             clear H1
             simp only [Option.some.injEq,Prod.mk.injEq] at H
             obtain ⟨rfl,rfl,rfl⟩ := H
             have hnb104 := zbT.out
             have hnc104 := zbO.out
             have hcz105_0 : wc.cell? ⟨gb145,0,none⟩ = some (.int .i64 zay) := (blk_cell zaA.out 0).trans rfl
             have hcz105_1 : wc.cell? ⟨gb145,1,none⟩ = some (.int .i64 zaK) := (blk_cell zaA.out 1).trans rfl
             have hcz105_2 : wc.cell? ⟨gb145,2,none⟩ = some (.slice Ao50 x3_1.length co50) := (blk_cell zaA.out 2).trans rfl
             have hfz105_0 := blk_frozen zaA.out 0
             have hfz105_1 := blk_frozen zaA.out 1
             have hfz105_2 := blk_frozen zaA.out 2
             have hcz106_0 : wc.cell? ⟨gb146,0,none⟩ = some (.int .i64 0) := (blk_cell zaz.out 0).trans rfl
             have hcz106_1 : wc.cell? ⟨gb146,1,none⟩ = some (.int .i64 0) := (blk_cell zaz.out 1).trans rfl
             have hcz106_2 : wc.cell? ⟨gb146,2,none⟩ = some (.slice none 0 0) := (blk_cell zaz.out 2).trans rfl
             have hfz106_0 := blk_frozen zaz.out 0
             have hfz106_1 := blk_frozen zaz.out 1
             have hfz106_2 := blk_frozen zaz.out 2
             go_wp2
             refine bodyPost_ret (results_cell_row rfl _ _ gb146 25 #[.int .i64 zay,.int .i64 zaK,.slice Ao50 x3_1.length co50] (0,0) _ rfl (by (with_reducible repeat (first | refine blk_drewN ?_ _ | refine blk_drew ?_ | refine blk_alloc ?_ _));refine blk_put (cs := #[.int .i64 zay,.int .i64 zaK,.slice none 0 0]) ?_ 2 _ rfl;(with_reducible repeat (first | refine blk_drewN ?_ _ | refine blk_drew ?_ | refine blk_alloc ?_ _));refine blk_put (cs := #[.int .i64 zay,.int .i64 0,.slice none 0 0]) ?_ 1 _ rfl;(with_reducible repeat (first | refine blk_drewN ?_ _ | refine blk_drew ?_ | refine blk_alloc ?_ _));refine blk_put (cs := #[.int .i64 0,.int .i64 0,.slice none 0 0]) ?_ 0 _ rfl;(with_reducible repeat (first | refine blk_drewN ?_ _ | refine blk_drew ?_ | refine blk_alloc ?_ _));exact zaz.out) Tryd.underlying25 rfl (by kernel_rfl)) rfl ?_
             exact ⟨_,by first | rfl | (simp [errW_none,errW_some] <;> rfl) | (simp [*,errW_none,errW_some] <;> rfl),Kd.N_V (Kd.N_mono (Kd.N_far (p := ⟨gb146,2,none⟩) (Kd.N_far (p := ⟨gb146,1,none⟩) (Kd.N_far (p := ⟨gb146,0,none⟩) (Kd.N_mono zap.out (fun k_ hk => (⟨hk,hk.2.2⟩ : _ ∧ k_ ≠ gb146))) (fun _ hk => hk.2) (.int .i64 zay)) (fun _ hk => hk.2) (.int .i64 zaK)) (fun _ hk => hk.2) (.slice Ao50 x3_1.length co50)) (fun _ hk => hk.1.1)),by repeat (first | (with_reducible first | exact HB.out | apply below_alloc | apply pw_below_drewN | apply below_drew1 | refine below_set ?_ zbR.out | refine below_set ?_ zbA.out) | exact HB.out)⟩
  ·rw [if_neg c3] at H
   exact absurd H (by simp)
 ·rw [if_neg c2] at H
  exact absurd H (by simp)
end Go.Proofs.YtgnmdhnlcibbiaaDoor.P
end
section
namespace Go.Proofs.YtgnmdhnlcibbiaaDoor.P
open Go.RowKit Go.Proofs.PrintWords Go.Proofs.PrintLast Go.Proofs.PrintMore
attribute [local go_sem] max2_int min2_int max_two min_two max_three min_three max_four min_four
set_option linter.unusedVariables false
set_option linter.unusedSimpArgs false
def tree_Fold.f (k : Nat) (zay : Int) (zaK : Int) (zam : List (S25)) : Option (Int × Int × (List (S25)) × Int) := (tree_Check.f k zay zaK zam).bind fun t178 => (if t178 = 0 then ((tree_fold.f k zay zaK zam).bind fun bt179 => (some (bt179.1,bt179.2.1,bt179.2.2,0))) else (some (0,0,([] : List (S25)),1)))
theorem tree_Fold.calls (k : Nat) (zay : Int) (zaK : Int) (zbm : Nat → Prop) (zbc : Option Addr) (za1 : Nat) (zam : List (S25)) (r1 : Int) (r2 : Int) (r3 : List (S25)) (r4 : Int) (w : World) (hs0_2 : Kd.V k25 25 w w.heap.size (fun k_ => zbm k_) (.slice zbc zam.length za1) zam) (h : tree_Fold.f k zay zaK zam = some (r1,r2,r3,r4)) :
  Calls Tryd.prog 29 #[.agg #[.int .i64 zay,.int .i64 zaK,.slice zbc zam.length za1]] w fun e w' => ∃ v2_ : Value,e = .returned (.tuple #[.agg #[.int .i64 r1,.int .i64 r2,v2_],.int .i64 r4]) ∧ Kd.V k25 25 w' w.heap.size (fun k_ => (zbm k_ ∨ w.heap.size ≤ k_)) v2_ r3 ∧ Below w.heap.size w w' := by
 have zcz := Tryd.underlying25
 have zbQ := am (show Kd.V k25 25 w w.heap.size (fun k_ => (zbm k_ ∨ w.heap.size ≤ k_)) (.slice zbc zam.length za1) zam from Kd.V_mono hs0_2 (fun k_ hk => .inl hk))
 have HB := am (Below.refl w.heap.size w)
 have H : ((tree_Check.f k zay zaK zam).bind fun t178 => (if t178 = 0 then ((tree_fold.f k zay zaK zam).bind fun bt179 => (some (bt179.1,bt179.2.1,bt179.2.2,0))) else (some (0,0,([] : List (S25)),1)))) = some (r1,r2,r3,r4) := h
 clear h
 replace H := Option.bind_eq_some_iff.mp H
 obtain ⟨t178,A20,H⟩ := H
 replace H : (if t178 = 0 then ((tree_fold.f k zay zaK zam).bind fun bt179 => (some (bt179.1,bt179.2.1,bt179.2.2,0))) else (some (0,0,([] : List (S25)),1))) = some (r1,r2,r3,r4) := H
 have A2 := am A20
 clear A20
 by_cases c3 : t178 = 0
 ·rw [if_pos c3] at H
  have zes : (t178 == 0) = true := beq_iff_eq.mpr c3
  have zff : (t178 != 0) = false := bne_eq_false_iff_eq.mpr c3
  clear c3
  replace H := Option.bind_eq_some_iff.mp H
  obtain ⟨⟨t179,t180,t181⟩,A40,H⟩ := H
  replace H : (some (t179,t180,t181,0)) = some (r1,r2,r3,r4) := H
  have A4 := am A40
  clear A40
  simp only [Option.some.injEq,Prod.mk.injEq] at H
  obtain ⟨rfl,rfl,rfl,rfl⟩ := H
  go_enter Tryd.func29,Tryd.ntmps29
  go_wp2_with (first | ((with_reducible refine gate_dst (N := 1) rfl ?_);refine box_event ?hg (N := 1) ?hd (cs := #[.int .i64 zay,.int .i64 zaK,.slice zbc zam.length za1]) (t := 25) ?hr ?_;(case hd => rfl);(case hg => rfl);(case hr => first | (go_simp;done) | (go_simp;rfl));intro gb176 hg w5 zan hb;have n0_ := am (Kd.V_below (Kd.V_elderB (by (with_reducible repeat (first | apply Kd.V_alloc | apply Kd.V_drewN | apply Kd.V_drew));exact zbQ.out) gb176 (Nat.le_of_eq hg.symm)) hb);have n1_ := am (below_step (by repeat (first | (with_reducible first | exact HB.out | apply below_alloc | apply pw_below_drewN | apply below_drew1) | exact HB.out)) hb);have n2_ := am (zan);have n3_ := am ((by rw [hg];exact (below_size (by repeat (first | (with_reducible first | exact HB.out | apply below_alloc | apply pw_below_drewN | apply below_drew1) | exact HB.out))) : w.heap.size ≤ gb176));have n4_ := am ((by rw [hg];exact (below_size (by repeat (first | (with_reducible first | exact HB.out | apply below_alloc | apply pw_below_drewN | apply below_drew1) | exact HB.out))) : w.heap.size ≤ gb176));clear zbQ;clear HB;have zbQ := n0_;have HB := n1_;have zbi := n2_;have GW176 := n3_;have zcC := n4_;clear n0_ n1_ n2_ n3_ n4_;clear hb zan hg) | ((with_reducible refine gate_dst (N := 2) rfl ?_);refine box_event ?hg (N := 2) ?hd (cs := #[.int .i64 0,.int .i64 0,.slice none 0 0]) (t := 25) ?hr ?_;(case hd => rfl);(case hg => rfl);(case hr => first | (go_simp;done) | (go_simp;rfl));intro gb177 hg w6 zan hb;have n0_ := am (Kd.V_below (Kd.V_elderB (by (with_reducible repeat (first | apply Kd.V_alloc | apply Kd.V_drewN | apply Kd.V_drew));exact zbQ.out) gb177 (Nat.le_of_eq hg.symm)) hb);have n1_ := am (blk_below (g := gb176) (o := .cells #[.int .i64 zay,.int .i64 zaK,.slice zbc zam.length za1] 25 (0,0)) (by (with_reducible repeat (first | refine blk_drewN ?_ _ | refine blk_drew ?_ | refine blk_alloc ?_ _));exact zbi.out) hb);have n2_ := am (below_step (by repeat (first | (with_reducible first | exact HB.out | apply below_alloc | apply pw_below_drewN | apply below_drew1 | refine below_set ?_ zcC.out) | exact HB.out)) hb);have n3_ := am (zan);have n4_ := am ((by rw [hg];exact (below_size (by repeat (first | (with_reducible first | exact HB.out | apply below_alloc | apply pw_below_drewN | apply below_drew1 | refine below_set ?_ zcC.out) | exact HB.out))) : w.heap.size ≤ gb177));have n5_ := am ((by rw [hg];exact (below_size (by repeat (first | (with_reducible first | exact HB.out | apply below_alloc | apply pw_below_drewN | apply below_drew1 | refine below_set ?_ zcC.out) | exact HB.out))) : w.heap.size ≤ gb177));have n6_ := am ((by rw [hg];exact Nat.ne_of_lt (blk_lt (g := gb176) (o := .cells #[.int .i64 zay,.int .i64 zaK,.slice zbc zam.length za1] 25 (0,0)) (by (with_reducible repeat (first | refine blk_drewN ?_ _ | refine blk_drew ?_ | refine blk_alloc ?_ _));exact zbi.out)) : gb176 ≠ gb177));have n7_ := am ((by rw [hg];exact Nat.ne_of_gt (blk_lt (g := gb176) (o := .cells #[.int .i64 zay,.int .i64 zaK,.slice zbc zam.length za1] 25 (0,0)) (by (with_reducible repeat (first | refine blk_drewN ?_ _ | refine blk_drew ?_ | refine blk_alloc ?_ _));exact zbi.out)) : gb177 ≠ gb176));clear zbQ;clear zbi;clear HB;have zbQ := n0_;have zbi := n1_;have HB := n2_;have zcj := n3_;have GW177 := n4_;have zfa := n5_;have zeq := n6_;have zer := n7_;clear n0_ n1_ n2_ n3_ n4_ n5_ n6_ n7_;clear hb zan hg;have hnb7 := zeq.out;have hnc7 := zer.out;have zgI : w6.cell? ⟨gb176,0,none⟩ = some (.int .i64 zay) := (blk_cell zbi.out 0).trans rfl;have zgJ : w6.cell? ⟨gb176,1,none⟩ = some (.int .i64 zaK) := (blk_cell zbi.out 1).trans rfl;have zgK : w6.cell? ⟨gb176,2,none⟩ = some (.slice zbc zam.length za1) := (blk_cell zbi.out 2).trans rfl;have hfz8_0 := blk_frozen zbi.out 0;have zgL := blk_frozen zbi.out 1;have zgM := blk_frozen zbi.out 2) | ((with_reducible refine gate_callee (f := 21) rfl ?_);refine goesL_ (some 5) rfl rfl Tryd.func21 (by kernel_rfl) rfl #[.agg #[.int .i64 zay,.int .i64 zaK,.slice zbc zam.length za1]] rfl (by (try simp only [List.map_toArray,List.map_cons,List.map_nil]);first | done | rfl | (simp only [List.length_drop,List.length_take];rfl)) ?_;(with_reducible refine (tree_Check.calls k zay zaK _ _ zam t178 _ ?za8 ?zbh A2.out).mono ?_);(case za8 => repeat (first | exact (Kd.V_reads' zbQ.out).2.2 | (with_reducible refine Kd.C_alloc ?_ _) | (with_reducible refine Kd.C_drewN ?_ _) | (with_reducible refine Kd.C_drew ?_)));(case zbh => exact (Kd.V_reads' zbQ.out).2.1);rintro e w9 ⟨rfl,hb⟩;refine ⟨_,rfl,?_⟩;have n0_ := am (Kd.V_below (by (with_reducible repeat (first | apply Kd.V_alloc | apply Kd.V_drewN | apply Kd.V_drew));exact zbQ.out) hb);have n1_ := am (blk_below (g := gb176) (o := .cells #[.int .i64 zay,.int .i64 zaK,.slice zbc zam.length za1] 25 (0,0)) (by (with_reducible repeat (first | refine blk_drewN ?_ _ | refine blk_drew ?_ | refine blk_alloc ?_ _));exact zbi.out) hb);have n2_ := am (blk_below (g := gb177) (o := .cells #[.int .i64 0,.int .i64 0,.slice none 0 0] 25 (0,0)) (by (with_reducible repeat (first | refine blk_drewN ?_ _ | refine blk_drew ?_ | refine blk_alloc ?_ _));exact zcj.out) hb);have n3_ := am (below_step (by repeat (first | (with_reducible first | exact HB.out | apply below_alloc | apply pw_below_drewN | apply below_drew1 | refine below_set ?_ zcC.out | refine below_set ?_ zfa.out) | exact HB.out)) hb);clear zbQ;clear zbi;clear zcj;clear HB;have zbQ := n0_;have zbi := n1_;have zcj := n2_;have HB := n3_;clear n0_ n1_ n2_ n3_;(try clear hb);(try clear hb2);(try clear hk);(try clear hi);have zc0 : w9.cell? ⟨gb176,0,none⟩ = some (.int .i64 zay) := (blk_cell zbi.out 0).trans rfl;have zc1 : w9.cell? ⟨gb176,1,none⟩ = some (.int .i64 zaK) := (blk_cell zbi.out 1).trans rfl;have zc2 : w9.cell? ⟨gb176,2,none⟩ = some (.slice zbc zam.length za1) := (blk_cell zbi.out 2).trans rfl;have zdr := blk_frozen zbi.out 0;have zc3 := blk_frozen zbi.out 1;have zc4 := blk_frozen zbi.out 2) | ((with_reducible refine gate_callee (f := 54) rfl ?_);refine goesL_ (some 9) rfl rfl Tryd.func54 (by kernel_rfl) rfl #[.agg #[.int .i64 zay,.int .i64 zaK,.slice zbc zam.length za1]] rfl (by (try simp only [List.map_toArray,List.map_cons,List.map_nil]);first | done | rfl | (simp only [List.length_drop,List.length_take];rfl)) ?_;(with_reducible refine (tree_fold.calls k zay zaK (fun k_ => (((zbm k_ ∨ w.heap.size ≤ k_) ∧ k_ ≠ gb176) ∧ k_ ≠ gb177)) _ _ zam t179 t180 t181 _ ?za8 A4.out).mono ?_);(case za8 => exact zbQ.out);rintro e w11 ⟨v182,rfl,ho0,hb⟩;refine ⟨_,rfl,?_⟩;have n0_ := am (Kd.V_below (by (with_reducible repeat (first | apply Kd.V_alloc | apply Kd.V_drewN | apply Kd.V_drew));exact zbQ.out) hb);have n1_ := am (Kd.V_lower (Kd.V_mono (ok' := fun k_ => (zbm k_ ∨ w.heap.size ≤ k_) ∧ k_ ≠ gb176 ∧ k_ ≠ gb177) ho0 (fun k_ hk_ => ⟨Or.elim hk_ (fun hs_ => hs_.1.1) (fun hn_ => (.inr (Nat.le_trans (below_size (by repeat (first | (with_reducible first | exact HB.out | apply below_alloc | apply pw_below_drewN | apply below_drew1 | refine below_set ?_ zcC.out | refine below_set ?_ zfa.out) | exact HB.out))) hn_))),Or.elim hk_ (fun hs_ => hs_.1.2) (fun hn_ => (Kd.freshB (g := gb176) (o := .cells #[.int .i64 zay,.int .i64 zaK,.slice zbc zam.length za1] 25 (0,0)) (by (with_reducible repeat (first | refine blk_drewN ?_ _ | refine blk_drew ?_ | refine blk_alloc ?_ _));exact zbi.out) k_ hn_)),Or.elim hk_ (fun hs_ => hs_.2) (fun hn_ => (Kd.freshB (g := gb177) (o := .cells #[.int .i64 0,.int .i64 0,.slice none 0 0] 25 (0,0)) (by (with_reducible repeat (first | refine blk_drewN ?_ _ | refine blk_drew ?_ | refine blk_alloc ?_ _));exact zcj.out) k_ hn_))⟩)) (below_size (by repeat (first | (with_reducible first | exact HB.out | apply below_alloc | apply pw_below_drewN | apply below_drew1 | refine below_set ?_ zcC.out | refine below_set ?_ zfa.out) | exact HB.out))));have n2_ := am (blk_below (g := gb176) (o := .cells #[.int .i64 zay,.int .i64 zaK,.slice zbc zam.length za1] 25 (0,0)) (by (with_reducible repeat (first | refine blk_drewN ?_ _ | refine blk_drew ?_ | refine blk_alloc ?_ _));exact zbi.out) hb);have n3_ := am (blk_below (g := gb177) (o := .cells #[.int .i64 0,.int .i64 0,.slice none 0 0] 25 (0,0)) (by (with_reducible repeat (first | refine blk_drewN ?_ _ | refine blk_drew ?_ | refine blk_alloc ?_ _));exact zcj.out) hb);have n4_ := am (below_step (by repeat (first | (with_reducible first | exact HB.out | apply below_alloc | apply pw_below_drewN | apply below_drew1 | refine below_set ?_ zcC.out | refine below_set ?_ zfa.out) | exact HB.out)) hb);clear zbQ;clear zbi;clear zcj;clear HB;have zbQ := n0_;have HO183 := n1_;have zbi := n2_;have zcj := n3_;have HB := n4_;clear n0_ n1_ n2_ n3_ n4_;(try clear hb);(try clear hb2);(try clear hk);(try clear hi);(try clear ho0);have zfg : w11.cell? ⟨gb177,0,none⟩ = some (.int .i64 0) := (blk_cell zcj.out 0).trans rfl;have zfh : w11.cell? ⟨gb177,1,none⟩ = some (.int .i64 0) := (blk_cell zcj.out 1).trans rfl;have zfi : w11.cell? ⟨gb177,2,none⟩ = some (.slice none 0 0) := (blk_cell zcj.out 2).trans rfl;have zfj := blk_frozen zcj.out 0;have zfk := blk_frozen zcj.out 1;have zfl := blk_frozen zcj.out 2;obtain ⟨Ao13,co13,eo13⟩ := Kd.V_slice HO183.out;subst eo13))
  refine bodyPost_ret (results_ct rfl _ _ gb177 25 #[.int .i64 t179,.int .i64 t180,.slice Ao13 t181.length co13] (0,0) _ rfl (by (with_reducible repeat (first | refine blk_drewN ?_ _ | refine blk_drew ?_ | refine blk_alloc ?_ _));refine blk_put (cs := #[.int .i64 t179,.int .i64 t180,.slice none 0 0]) ?_ 2 _ rfl;(with_reducible repeat (first | refine blk_drewN ?_ _ | refine blk_drew ?_ | refine blk_alloc ?_ _));refine blk_put (cs := #[.int .i64 t179,.int .i64 0,.slice none 0 0]) ?_ 1 _ rfl;(with_reducible repeat (first | refine blk_drewN ?_ _ | refine blk_drew ?_ | refine blk_alloc ?_ _));refine blk_put (cs := #[.int .i64 0,.int .i64 0,.slice none 0 0]) ?_ 0 _ rfl;(with_reducible repeat (first | refine blk_drewN ?_ _ | refine blk_drew ?_ | refine blk_alloc ?_ _));exact zcj.out) Tryd.underlying25 rfl (by kernel_rfl)) rfl ?_
  exact ⟨_,by first | rfl | (simp [errW_none,errW_some] <;> rfl) | (simp [*,errW_none,errW_some] <;> rfl),by (with_reducible repeat (first | apply Kd.V_alloc | apply Kd.V_drewN | apply Kd.V_drew));exact Kd.V_mono (Kd.V_far (p := ⟨gb177,2,none⟩) (Kd.V_far (p := ⟨gb177,1,none⟩) (Kd.V_far (p := ⟨gb177,0,none⟩) (Kd.V_mono HO183.out (fun k_ hk => (⟨hk,hk.2.2⟩ : _ ∧ k_ ≠ gb177))) (fun _ hk => hk.2) (.int .i64 t179)) (fun _ hk => hk.2) (.int .i64 t180)) (fun _ hk => hk.2) (.slice Ao13 t181.length co13)) (fun _ hk => hk.1.1),by repeat (first | (with_reducible first | exact HB.out | apply below_alloc | apply pw_below_drewN | apply below_drew1 | refine below_set ?_ zcC.out | refine below_set ?_ zfa.out) | exact HB.out)⟩
 ·rw [if_neg c3] at H
  have zes : (t178 == 0) = false := beq_eq_false_iff_ne.mpr c3
  have zff : (t178 != 0) = true := bne_iff_ne.mpr c3
  simp only [Option.some.injEq,Prod.mk.injEq] at H
  obtain ⟨rfl,rfl,rfl,rfl⟩ := H
  go_enter Tryd.func29,Tryd.ntmps29
  go_wp2_with (first | ((with_reducible refine gate_dst (N := 1) rfl ?_);refine box_event ?hg (N := 1) ?hd (cs := #[.int .i64 zay,.int .i64 zaK,.slice zbc zam.length za1]) (t := 25) ?hr ?_;(case hd => rfl);(case hg => rfl);(case hr => first | (go_simp;done) | (go_simp;rfl));intro gb176 hg w14 zan hb;have n0_ := am (Kd.V_below (Kd.V_elderB (by (with_reducible repeat (first | apply Kd.V_alloc | apply Kd.V_drewN | apply Kd.V_drew));exact zbQ.out) gb176 (Nat.le_of_eq hg.symm)) hb);have n1_ := am (below_step (by repeat (first | (with_reducible first | exact HB.out | apply below_alloc | apply pw_below_drewN | apply below_drew1) | exact HB.out)) hb);have n2_ := am (zan);have n3_ := am ((by rw [hg];exact (below_size (by repeat (first | (with_reducible first | exact HB.out | apply below_alloc | apply pw_below_drewN | apply below_drew1) | exact HB.out))) : w.heap.size ≤ gb176));have n4_ := am ((by rw [hg];exact (below_size (by repeat (first | (with_reducible first | exact HB.out | apply below_alloc | apply pw_below_drewN | apply below_drew1) | exact HB.out))) : w.heap.size ≤ gb176));clear zbQ;clear HB;have zbQ := n0_;have HB := n1_;have zbi := n2_;have GW176 := n3_;have zcC := n4_;clear n0_ n1_ n2_ n3_ n4_;clear hb zan hg) | ((with_reducible refine gate_dst (N := 2) rfl ?_);refine box_event ?hg (N := 2) ?hd (cs := #[.int .i64 0,.int .i64 0,.slice none 0 0]) (t := 25) ?hr ?_;(case hd => rfl);(case hg => rfl);(case hr => first | (go_simp;done) | (go_simp;rfl));intro gb177 hg w15 zan hb;have n0_ := am (Kd.V_below (Kd.V_elderB (by (with_reducible repeat (first | apply Kd.V_alloc | apply Kd.V_drewN | apply Kd.V_drew));exact zbQ.out) gb177 (Nat.le_of_eq hg.symm)) hb);have n1_ := am (blk_below (g := gb176) (o := .cells #[.int .i64 zay,.int .i64 zaK,.slice zbc zam.length za1] 25 (0,0)) (by (with_reducible repeat (first | refine blk_drewN ?_ _ | refine blk_drew ?_ | refine blk_alloc ?_ _));exact zbi.out) hb);have n2_ := am (below_step (by repeat (first | (with_reducible first | exact HB.out | apply below_alloc | apply pw_below_drewN | apply below_drew1 | refine below_set ?_ zcC.out) | exact HB.out)) hb);have n3_ := am (zan);have n4_ := am ((by rw [hg];exact (below_size (by repeat (first | (with_reducible first | exact HB.out | apply below_alloc | apply pw_below_drewN | apply below_drew1 | refine below_set ?_ zcC.out) | exact HB.out))) : w.heap.size ≤ gb177));have n5_ := am ((by rw [hg];exact (below_size (by repeat (first | (with_reducible first | exact HB.out | apply below_alloc | apply pw_below_drewN | apply below_drew1 | refine below_set ?_ zcC.out) | exact HB.out))) : w.heap.size ≤ gb177));have n6_ := am ((by rw [hg];exact Nat.ne_of_lt (blk_lt (g := gb176) (o := .cells #[.int .i64 zay,.int .i64 zaK,.slice zbc zam.length za1] 25 (0,0)) (by (with_reducible repeat (first | refine blk_drewN ?_ _ | refine blk_drew ?_ | refine blk_alloc ?_ _));exact zbi.out)) : gb176 ≠ gb177));have n7_ := am ((by rw [hg];exact Nat.ne_of_gt (blk_lt (g := gb176) (o := .cells #[.int .i64 zay,.int .i64 zaK,.slice zbc zam.length za1] 25 (0,0)) (by (with_reducible repeat (first | refine blk_drewN ?_ _ | refine blk_drew ?_ | refine blk_alloc ?_ _));exact zbi.out)) : gb177 ≠ gb176));clear zbQ;clear zbi;clear HB;have zbQ := n0_;have zbi := n1_;have HB := n2_;have zcj := n3_;have GW177 := n4_;have zfa := n5_;have zeq := n6_;have zer := n7_;clear n0_ n1_ n2_ n3_ n4_ n5_ n6_ n7_;clear hb zan hg;have hnb16 := zeq.out;have hnc16 := zer.out;have zgR : w15.cell? ⟨gb176,0,none⟩ = some (.int .i64 zay) := (blk_cell zbi.out 0).trans rfl;have zgS : w15.cell? ⟨gb176,1,none⟩ = some (.int .i64 zaK) := (blk_cell zbi.out 1).trans rfl;have zgT : w15.cell? ⟨gb176,2,none⟩ = some (.slice zbc zam.length za1) := (blk_cell zbi.out 2).trans rfl;have zgU := blk_frozen zbi.out 0;have zgV := blk_frozen zbi.out 1;have zgW := blk_frozen zbi.out 2) | ((with_reducible refine gate_callee (f := 21) rfl ?_);refine goesL_ (some 5) rfl rfl Tryd.func21 (by kernel_rfl) rfl #[.agg #[.int .i64 zay,.int .i64 zaK,.slice zbc zam.length za1]] rfl (by (try simp only [List.map_toArray,List.map_cons,List.map_nil]);first | done | rfl | (simp only [List.length_drop,List.length_take];rfl)) ?_;(with_reducible refine (tree_Check.calls k zay zaK _ _ zam t178 _ ?za8 ?zbh A2.out).mono ?_);(case za8 => repeat (first | exact (Kd.V_reads' zbQ.out).2.2 | (with_reducible refine Kd.C_alloc ?_ _) | (with_reducible refine Kd.C_drewN ?_ _) | (with_reducible refine Kd.C_drew ?_)));(case zbh => exact (Kd.V_reads' zbQ.out).2.1);rintro e w18 ⟨rfl,hb⟩;refine ⟨_,rfl,?_⟩;have n0_ := am (Kd.V_below (by (with_reducible repeat (first | apply Kd.V_alloc | apply Kd.V_drewN | apply Kd.V_drew));exact zbQ.out) hb);have n1_ := am (blk_below (g := gb176) (o := .cells #[.int .i64 zay,.int .i64 zaK,.slice zbc zam.length za1] 25 (0,0)) (by (with_reducible repeat (first | refine blk_drewN ?_ _ | refine blk_drew ?_ | refine blk_alloc ?_ _));exact zbi.out) hb);have n2_ := am (blk_below (g := gb177) (o := .cells #[.int .i64 0,.int .i64 0,.slice none 0 0] 25 (0,0)) (by (with_reducible repeat (first | refine blk_drewN ?_ _ | refine blk_drew ?_ | refine blk_alloc ?_ _));exact zcj.out) hb);have n3_ := am (below_step (by repeat (first | (with_reducible first | exact HB.out | apply below_alloc | apply pw_below_drewN | apply below_drew1 | refine below_set ?_ zcC.out | refine below_set ?_ zfa.out) | exact HB.out)) hb);clear zbQ;clear zbi;clear zcj;clear HB;have zbQ := n0_;have zbi := n1_;have zcj := n2_;have HB := n3_;clear n0_ n1_ n2_ n3_;(try clear hb);(try clear hb2);(try clear hk);(try clear hi);have zdL : w18.cell? ⟨gb177,0,none⟩ = some (.int .i64 0) := (blk_cell zcj.out 0).trans rfl;have zdM : w18.cell? ⟨gb177,1,none⟩ = some (.int .i64 0) := (blk_cell zcj.out 1).trans rfl;have zdN : w18.cell? ⟨gb177,2,none⟩ = some (.slice none 0 0) := (blk_cell zcj.out 2).trans rfl;have zeA := blk_frozen zcj.out 0;have zdO := blk_frozen zcj.out 1;have zdP := blk_frozen zcj.out 2))
  refine bodyPost_ret (results_ct rfl _ _ gb177 25 #[.int .i64 0,.int .i64 0,.slice none 0 0] (0,0) _ rfl (by (with_reducible repeat (first | refine blk_drewN ?_ _ | refine blk_drew ?_ | refine blk_alloc ?_ _));refine blk_put (cs := #[.int .i64 0,.int .i64 0,.slice none 0 0]) ?_ 2 _ rfl;(with_reducible repeat (first | refine blk_drewN ?_ _ | refine blk_drew ?_ | refine blk_alloc ?_ _));refine blk_put (cs := #[.int .i64 0,.int .i64 0,.slice none 0 0]) ?_ 1 _ rfl;(with_reducible repeat (first | refine blk_drewN ?_ _ | refine blk_drew ?_ | refine blk_alloc ?_ _));refine blk_put (cs := #[.int .i64 0,.int .i64 0,.slice none 0 0]) ?_ 0 _ rfl;(with_reducible repeat (first | refine blk_drewN ?_ _ | refine blk_drew ?_ | refine blk_alloc ?_ _));exact zcj.out) Tryd.underlying25 rfl (by kernel_rfl)) rfl ?_
  exact ⟨_,by first | rfl | (simp [errW_none,errW_some] <;> rfl) | (simp [*,errW_none,errW_some] <;> rfl),Kd.V_mono ((Kd.V_nil _ _ _ _ _)) (fun k_ hk => by first | exact ⟨(.inr (hk.1)),hk.2⟩ | exact (.inr (hk))),by repeat (first | (with_reducible first | exact HB.out | apply below_alloc | apply pw_below_drewN | apply below_drew1 | refine below_set ?_ zcC.out | refine below_set ?_ zfa.out) | exact HB.out)⟩
end Go.Proofs.YtgnmdhnlcibbiaaDoor.P
end
