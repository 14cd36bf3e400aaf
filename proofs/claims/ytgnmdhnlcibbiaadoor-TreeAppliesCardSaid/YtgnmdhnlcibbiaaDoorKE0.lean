import Derived.Lib.Builder
import Derived.Lib.AppendStr
import Derived.Lib.UnsafeStr
import Derived.Laws.Externs
import Derived.Lib.Strings
import Derived.Shelf.Lay
import Derived.Shelf.LaySoft
import Derived.Ground.FneProg
import Derived.Shelf.LaysM
import Derived.Shelf.Strconv.Itoa3
import Derived.Lib.AppendIntMem
import Derived.LoopN
import Derived.Test.YtgnmdhnlcibbiaaDoorKA0
set_option maxHeartbeats 8000000
set_option maxRecDepth 100000
section
namespace Go.Proofs.YtgnmdhnlcibbiaaDoor.P
open Go.RowKit Go.Proofs.PrintWords Go.Proofs.PrintLast Go.Proofs.PrintMore
set_option linter.unusedVariables false
set_option linter.unusedSimpArgs false
theorem b_size : (Tryd.prog.info? 80).map (·.size) = some 2 := by kernel_rfl
theorem b_lies : liesAt Tryd.prog Tryd.prog.depth 80 (2 / Tryd.prog.cellsOf 80) 0 80 1 = true := by kernel_rfl
theorem byte_info : (Tryd.prog.info? 5).map (fun i => (i.zero,i.size,i.bytes)) = some (some (.int .u8 0),1,1) := by kernel_rfl
theorem copyCheck_used (b : Nat) (w : World) (h0 : w.cell? ⟨b,0,none⟩ = some (.pointer (some ⟨b,0,none⟩))) :
  Calls Tryd.prog 89 #[.pointer (some ⟨b,0,none⟩)] w fun e w' => e = .returned (.tuple #[]) ∧ w' = w := by
 obtain ⟨j,hj,_⟩ := Option.map_eq_some_iff.1 b_size
 have hu80 := Tryd.underlying80
 go_enter Tryd.func89,Tryd.ntmps89
 go_wp2
 rw [Lib.run_neq_ptr_same w _ Tryd.underlying77 hj]
 go_wp2
 go_end0
 exact ⟨rfl,rfl⟩
theorem copyCheck_fresh (b : Nat) (w : World) (h0 : w.cell? ⟨b,0,none⟩ = some (.pointer none)) (hsh : w.shape? b = some (80,2)) (hfz : w.frozen? ⟨b,0,none⟩ = false) :
  Calls Tryd.prog 89 #[.pointer (some ⟨b,0,none⟩)] w fun e w' => e = .returned (.tuple #[]) ∧ w' = w.setCell ⟨b,0,none⟩ (.pointer (some ⟨b,0,none⟩)) := by
 obtain ⟨j,hj,hjs⟩ := Option.map_eq_some_iff.1 b_size
 have hu80 := Tryd.underlying80
 go_enter Tryd.func89,Tryd.ntmps89
 go_wp2
 rw [Lib.run_to_unsafe w ⟨b,0,none⟩ Tryd.underlying77 Tryd.underlying116 hj (by rw [hjs];decide) hsh (Nat.zero_lt_succ 1)]
 simp only [Result.andThen]
 rw [Oper.upon_value]
 go_wp2
 rw [run_callFunc_extern Tryd.func94 (by kernel_rfl) (by kernel_rfl) (by kernel_rfl) (e := Extern.AbiNoEscape.same) (by kernel_rfl)]
 rw [Lib.run_noEscape]
 simp only [Result.andThen]
 rw [Oper.upon_value]
 go_wp2
 rw [Lib.run_from_unsafe w ⟨b,0,none⟩ Tryd.underlying116 Tryd.underlying77 hj hsh b_lies]
 simp only [Result.andThen]
 rw [Oper.upon_value]
 go_wp2
 go_end0
 exact ⟨rfl,rfl⟩
def Rest (b : Nat) (w w' : World) : Prop := w.heap.size ≤ w'.heap.size ∧ ∀ i cs t fz,i ≠ b → w.heap[i]? = some (.cells cs t fz) → t ≠ 5 → w'.heap[i]? = some (.cells cs t fz)
theorem Rest.refl (b : Nat) (w : World) : Rest b w w := ⟨Nat.le_refl _,fun _ _ _ _ _ h _ => h⟩
theorem Rest.trans {b : Nat} {w w1 w2 : World} (h : Rest b w w1) (k : Rest b w1 w2) : Rest b w w2 := ⟨Nat.le_trans h.1 k.1,fun i cs t fz hi hc ht => k.2 i cs t fz hi (h.2 i cs t fz hi hc ht) ht⟩
theorem Rest.of_below {b : Nat} {w w1 : World} (h : Below w.heap.size w w1) : Rest b w w1 := ⟨h.size,fun i cs t fz hi hc ht => (h.block i (Array.getElem?_eq_some_iff.1 hc).1).trans hc⟩
theorem Rest.set_ {b : Nat} {w w1 : World} (h : Rest b w w1) (j : Nat) (v : Value) : Rest b w (w1.setCell ⟨b,j,none⟩ v) := ⟨by rw [World.size_setCell];exact h.1,fun i cs t fz hi hc ht => by
 have := h.2 i cs t fz hi hc ht
 simp only [World.setCell,Array.getElem?_modify]
 rw [if_neg (fun e => hi e.symm)]
 exact this⟩
theorem copyCheck_calls (B b : Nat) (bs : List Value) (w : World) (h : Lib.IsBuilder 80 5 B b bs w) :
  Calls Tryd.prog 89 #[.pointer (some ⟨b,0,none⟩)] w fun e w' => e = .returned (.tuple #[]) ∧ (Lib.BuilderAt 80 5 B b (.pointer (some ⟨b,0,none⟩)) bs w' ∧ Below B w w' ∧ Rest b w w') := by
 rcases h with h | h
 ·refine (copyCheck_fresh b w h.cell0 h.shape h.frozen0).mono ?_
  rintro e w' ⟨rfl,rfl⟩
  exact ⟨rfl,h.used _,(Below.refl B w).setCell (p := ⟨b,0,none⟩) h.1 _,(Rest.refl b w).set_ _ _⟩
 ·refine (copyCheck_used b w h.cell0).mono ?_
  rintro e w' ⟨rfl,rfl⟩
  exact ⟨rfl,h,Below.refl B _,Rest.refl _ _⟩
theorem WriteString_calls (B b : Nat) (bs : List Value) (s : ByteArray) (w : World) (h : Lib.IsBuilder 80 5 B b bs w) (zb6 : bs.length + s.size ≤ 140737488355328) (hBw : B ≤ w.heap.size) :
  Calls Tryd.prog 71 #[.pointer (some ⟨b,0,none⟩),.string s] w fun e w' => e = .returned (.tuple #[.int .i64 s.size,.nilIface]) ∧ (Lib.BuilderAt 80 5 B b (.pointer (some ⟨b,0,none⟩)) (bs ++ Lib.strCells s) w' ∧ Below B w w' ∧ Rest b w w') := by
 obtain ⟨i0,hi,hz0,hz1,hz2⟩ := info_parts byte_info
 have hu80 := Tryd.underlying80
 go_enter Tryd.func71,Tryd.ntmps71
 go_wp2_with ((with_reducible refine (copyCheck_calls B b bs _ h).mono ?_))
 rintro e w1 ⟨rfl,h1,hb1,hr1⟩
 obtain ⟨hB,v,hbk,hown,hne⟩ := h1
 have c0 : w1.cell? ⟨b,0,none⟩ = some (.pointer (some ⟨b,0,none⟩)) := by rw [Lib.cell_of_heap hbk];rfl
 have c1 : w1.cell? ⟨b,1,none⟩ = some v := by rw [Lib.cell_of_heap hbk];rfl
 go_wp2_with (at_builtin;refine Lib.wpList_append_own_string _ rfl _ _ 78 9 rfl B 5 i0 Tryd.underlying78 Tryd.underlying9 hi hz0 hz1 hz2 _ _ _ rfl hown s rfl ?c3 ?c4 ?c5 ?_)
 case c3 => unfold maxLen;omega
 case c4 => omega
 case c5 => have := hb1.size;omega
 intro v' w2 hown' hgrow _
 have hlt : b < w1.heap.size := by
  rcases Nat.lt_or_ge b w1.heap.size with h' | h'
  ·exact h'
  ·simp [Array.getElem?_eq_none h'] at hbk
 have hb2 : w2.heap[b]? = some (.cells #[.pointer (some ⟨b,0,none⟩),v] 80 (0,0)) := by
  rw [hgrow.block b hlt (fun e => hne e.symm)]
  exact hbk
 have d0 : w2.cell? ⟨b,0,none⟩ = some (.pointer (some ⟨b,0,none⟩)) := by rw [Lib.cell_of_heap hb2];rfl
 have d1 : w2.cell? ⟨b,1,none⟩ = some v := by rw [Lib.cell_of_heap hb2];rfl
 have f1 : w2.frozen? ⟨b,1,none⟩ = false := Lib.frozen_of_heap hb2 1
 obtain ⟨ao,n',cap,rfl⟩ : ∃ ao n' cap,v' = .slice ao n' cap := by
  rcases hown'.2 with ⟨hv,_⟩ | ⟨g,cap,cur,hv,_⟩
  ·exact ⟨_,_,_,hv⟩
  ·exact ⟨_,_,_,hv⟩
 go_wp2
 go_ret2
 refine ⟨rfl,?_,?_,?_⟩
 ·exact Lib.BuilderAt.put (T := 80) (e := 5) hB hb2 (bs' := bs ++ Lib.strCells s) (by simpa [Lib.strCells_length] using hown') (by decide)
 ·exact (hb1.grown hgrow (by have := hb1.size;omega) (fun k hk => (hown.lt k hk).1)).setCell (p := ⟨b,1,none⟩) hB _
 ·refine (hr1.trans ⟨hgrow.size,fun i cs t fz hi hc ht => ?_⟩).set_ _ _
  refine (hgrow.block i (Array.getElem?_eq_some_iff.1 hc).1 (fun e => ?_)).trans hc
  obtain ⟨g,cap,cur,hv,_,hg,_⟩ := hown.2.resolve_left (fun hn => by rw [hn.1] at e;cases e)
  rw [hv] at e
  have e : i = g := by simpa [Value.ownBlock] using e
  subst e
  rw [hg] at hc
  injection hc with hc
  injection hc with _ h5 _
  exact ht h5.symm
end Go.Proofs.YtgnmdhnlcibbiaaDoor.P
end
section
namespace Go.Proofs.YtgnmdhnlcibbiaaDoor.P
open Go.RowKit Go.Proofs.PrintWords Go.Proofs.PrintLast Go.Proofs.PrintMore
set_option linter.unusedVariables false
set_option linter.unusedSimpArgs false
theorem byte_cells : Tryd.prog.cellsOf 5 = 1 := by kernel_rfl
theorem String_calls (B b : Nat) (l : List UInt8) (w : World) (h : Lib.IsBuilder 80 5 B b (Lib.byteCells l) w) (h0 : l ≠ []) :
  Calls Tryd.prog 38 #[.pointer (some ⟨b,0,none⟩)] w fun e w' => e = .returned (.string ⟨l.toArray⟩) ∧ Below B w w' := by
 obtain ⟨p,hB,v,hbk,hown,hne⟩ : ∃ p,Lib.BuilderAt 80 5 B b p (Lib.byteCells l) w := by
  rcases h with h | h
  ·exact ⟨_,h⟩
  ·exact ⟨_,h⟩
 have hl0 : l.length ≠ 0 := by simpa using h0
 rw [Lib.byteCells_length] at hown
 obtain ⟨g,cap,cur,rfl,hbg,hg,hnc,hcm,hcs,htake⟩ : ∃ g cap cur,v = .slice (some ⟨g,0,none⟩) l.length cap ∧ B ≤ g ∧ w.heap[g]? = some (.cells cur 5 (0,0)) ∧ l.length ≤ cap ∧ cap ≤ maxLen ∧ cur.size = cap * 1 ∧ cur.toList.take (l.length * 1) = Lib.byteCells l := by
  rcases hown.2 with ⟨_,hz⟩ | ⟨g,cap,cur,hv,r⟩
  ·exact absurd hz hl0
  ·exact ⟨g,cap,cur,hv,r⟩
 have c1 : w.drew.cell? ⟨b,1,none⟩ = some (.slice (some ⟨g,0,none⟩) l.length cap) := by
  have : w.drew.heap[b]? = some (.cells #[p,.slice (some ⟨g,0,none⟩) l.length cap] 80 (0,0)) := hbk
  rw [Lib.cell_of_heap this];rfl
 have hSD : (Builtin.unsafeSliceData_ #[78] 106 #[.slice (some ⟨g,0,none⟩) l.length cap]).run Tryd.prog w.drew = .ok (.pointer (some ⟨g,0,none⟩)) w.drew :=
  Lib.run_unsafeSliceData_row _ _ _ _ _ _ (by omega)
 have hUS : (Builtin.unsafeString_ #[106,3] 9 #[.pointer (some ⟨g,0,none⟩),.int .i64 l.length]).run Tryd.prog w.drew = .ok (.string ⟨l.toArray⟩) (w.drew.freeze ⟨g,0,none⟩ l.length) := by
  refine Lib.run_unsafeString_row w.drew 106 3 9 5 Tryd.underlying106 byte_cells g cur.size (by have hg' : w.drew.heap[g]? = some (.cells cur 5 (0,0)) := hg;simp [World.shape?,hg']) l h0 (by omega) (by unfold maxLen at hcm;omega) ?_
  intro j x hx
  have := hown.cells (g := g) rfl j (.int .u8 x.toNat) (by simp [Lib.byteCells,hx])
  exact this
 have hu80 := Tryd.underlying80
 go_enter Tryd.func38,Tryd.ntmps38
 go_wp2
 go_region
 all_goals (go_wp2;go_ret;exact ⟨rfl,Lib.below_freeze (Below.drew (Below.refl B w)) (p := ⟨g,0,none⟩) hbg _⟩)
end Go.Proofs.YtgnmdhnlcibbiaaDoor.P
end
section
namespace Go.Proofs
open Go.Shelf
set_option linter.unusedVariables false
def Tryd.laysM171_ren : Go.Shelf.Ren := ⟨fun | 171 => 72 | 243 => 90 | 246 => 95 | 283 => 99 | 284 => 100 | 285 => 101 | 286 => 102 | 129 => 106 | 317 => 105 | 318 => 107 | 319 => 108 | 320 => 109 | 337 => 114 | 338 => 115 | n => n, fun | 3 => 3 | 9 => 9 | 2 => 2 | 4 => 4 | 171 => 122 | 0 => 0 | 53 => 123 | 37 => 78 | 5 => 5 | 173 => 126 | 212 => 128 | 51 => 129 | 20 => 20 | 213 => 130 | 46 => 132 | 232 => 142 | 233 => 143 | n => n, fun | 17 => 0 | 18 => 4 | 19 => 5 | n => n⟩
theorem Tryd.laysM171 : Go.Proofs.LaysM.n171 Tryd.prog Tryd.laysM171_ren := {
  mixed := by kernel_rfl
  f129 := Tryd.func106.trans (congrArg some (by kernel_rfl))
  f171 := Tryd.func72.trans (congrArg some (by kernel_rfl))
  f243 := Tryd.func90.trans (congrArg some (by kernel_rfl))
  f246 := Tryd.func95.trans (congrArg some (by kernel_rfl))
  f283 := Tryd.func99.trans (congrArg some (by kernel_rfl))
  f284 := Tryd.func100.trans (congrArg some (by kernel_rfl))
  f285 := Tryd.func101.trans (congrArg some (by kernel_rfl))
  f286 := Tryd.func102.trans (congrArg some (by kernel_rfl))
  f317 := Tryd.func105.trans (congrArg some (by kernel_rfl))
  f318 := Tryd.func107.trans (congrArg some (by kernel_rfl))
  f319 := Tryd.func108.trans (congrArg some (by kernel_rfl))
  f320 := Tryd.func109.trans (congrArg some (by kernel_rfl))
  f337 := Tryd.func114.trans (congrArg some (by kernel_rfl))
  f338 := Tryd.func115.trans (congrArg some (by kernel_rfl))
  t0 := Tryd.underlying0
  a0 := Tryd.isAgg0
  z0 := Tryd.sizeOf0
  v0 := Tryd.zeroValue0
  t2 := Tryd.underlying2
  a2 := Tryd.isAgg2
  z2 := Tryd.sizeOf2
  v2 := Tryd.zeroValue2
  t3 := Tryd.underlying3
  a3 := Tryd.isAgg3
  z3 := Tryd.sizeOf3
  v3 := Tryd.zeroValue3
  t4 := Tryd.underlying4
  a4 := Tryd.isAgg4
  z4 := Tryd.sizeOf4
  v4 := Tryd.zeroValue4
  t5 := Tryd.underlying5
  a5 := Tryd.isAgg5
  z5 := Tryd.sizeOf5
  v5 := Tryd.zeroValue5
  t9 := Tryd.underlying9
  a9 := Tryd.isAgg9
  z9 := Tryd.sizeOf9
  v9 := Tryd.zeroValue9
  t20 := Tryd.underlying20
  a20 := Tryd.isAgg20
  z20 := Tryd.sizeOf20
  v20 := Tryd.zeroValue20
  t37 := Tryd.underlying78
  a37 := Tryd.isAgg78
  z37 := Tryd.sizeOf78
  v37 := Tryd.zeroValue78
  t46 := Tryd.underlying132
  a46 := Tryd.isAgg132
  z46 := Tryd.sizeOf132
  v46 := Tryd.zeroValue132
  t51 := Tryd.underlying129
  a51 := Tryd.isAgg129
  z51 := Tryd.sizeOf129
  v51 := Tryd.zeroValue129
  t53 := Tryd.underlying123
  a53 := Tryd.isAgg123
  z53 := Tryd.sizeOf123
  v53 := Tryd.zeroValue123
  t171 := Tryd.underlying122
  a171 := Tryd.isAgg122
  z171 := Tryd.sizeOf122
  v171 := Tryd.zeroValue122
  t173 := Tryd.underlying126
  a173 := Tryd.isAgg126
  z173 := Tryd.sizeOf126
  v173 := Tryd.zeroValue126
  t212 := Tryd.underlying128
  a212 := Tryd.isAgg128
  z212 := Tryd.sizeOf128
  v212 := Tryd.zeroValue128
  t213 := Tryd.underlying130
  a213 := Tryd.isAgg130
  z213 := Tryd.sizeOf130
  t232 := Tryd.underlying142
  a232 := Tryd.isAgg142
  z232 := Tryd.sizeOf142
  v232 := Tryd.zeroValue142
  t233 := Tryd.underlying143
  a233 := Tryd.isAgg143
  z233 := Tryd.sizeOf143
  v233 := Tryd.zeroValue143
  g17 := by kernel_rfl
  g18 := by kernel_rfl
  g19 := by kernel_rfl
  i0 := by kernel_rfl
  i2 := by kernel_rfl
  i3 := by kernel_rfl
  i4 := by kernel_rfl
  i5 := by kernel_rfl
  i9 := by kernel_rfl
  i20 := by kernel_rfl
  i37 := by kernel_rfl
  i46 := by kernel_rfl
  i51 := by kernel_rfl
  i53 := by kernel_rfl
  i171 := by kernel_rfl
  i173 := by kernel_rfl
  i212 := by kernel_rfl
  i232 := by kernel_rfl
  i233 := by kernel_rfl
  m17 := by kernel_rfl
  m18 := by kernel_rfl
  m19 := by kernel_rfl }
open Go.RowKit Go.Sort Go.Lib in
theorem Tryd.strconv_Itoa (n : Int) (h0 : -9223372036854775808 ≤ n) (h1 : n ≤ 9223372036854775807) (w : World) (htab : Lib.TabIs Tryd.prog w "internal/strconv.uint64pow10" .u64 Lib.pow10Tab) :
  Calls Tryd.prog 72 #[.int .i64 n] w fun e w' => e = .returned (.string ⟨(Lib.itoa n).toArray⟩) ∧ ∃ k os,w' = grow (w.drewN k) os := Any.strconv_Itoa Tryd.laysM171 n h0 h1 w htab
end Go.Proofs
end
section
namespace Go.Proofs.YtgnmdhnlcibbiaaDoor.P
open Go.RowKit Go.Proofs.PrintWords Go.Proofs.PrintLast Go.Proofs.PrintMore
set_option linter.unusedVariables false
set_option linter.unusedSimpArgs false
structure WS (wp : World) (b : Nat) (acc : List UInt8) (w : World) : Prop where
 hI : Lib.IsBuilder 80 5 wp.heap.size b (Lib.byteCells acc) w
 hB : Below wp.heap.size wp w
theorem builder_keeps {B b : Nat} {p : Value} {bs : List Value} {w w' : World} (h : Lib.BuilderAt 80 5 B b p bs w) (hs : w'.heap[b]? = w.heap[b]?) (hr : ∀ (i : Nat) (cs : Array Value) (fz : Nat × Nat),w.heap[i]? = some (Obj.cells cs 5 fz) → w'.heap[i]? = w.heap[i]?) : Lib.BuilderAt 80 5 B b p bs w' := by
 obtain ⟨h0,v,hb,ho,hn⟩ := h
 refine ⟨h0,v,hs.trans hb,⟨ho.1,?_⟩,hn⟩
 rcases ho.2 with hn' | ⟨g,cap,cur,e,hg,hgc,rest⟩
 ·exact .inl hn'
 ·exact .inr ⟨g,cap,cur,e,hg,(hr g _ _ hgc).trans hgc,rest⟩
theorem WS.lt {wp w : World} {b : Nat} {acc : List UInt8} (h : WS wp b acc w) : b < w.heap.size := h.hI.elim (fun x => x.lt) (fun x => x.lt)
theorem WS.below {wp w w' : World} {b : Nat} {acc : List UInt8} (h : WS wp b acc w) (hb : Below w.heap.size w w') : WS wp b acc w' := by
 have k : ∀ i,i < w.heap.size → w'.heap[i]? = w.heap[i]? := hb.block
 have hlt := h.lt
 refine ⟨?_,below_step h.hB hb⟩
 rcases h.hI with x | x
 ·exact .inl (builder_keeps x (k _ hlt) (fun i cs fz hc => k _ (Array.getElem?_eq_some_iff.1 hc).1))
 ·exact .inr (builder_keeps x (k _ hlt) (fun i cs fz hc => k _ (Array.getElem?_eq_some_iff.1 hc).1))
theorem ws_calls {wp w : World} {b : Nat} {acc : List UInt8} (h : WS wp b acc w) (s : ByteArray) (zb6 : acc.length + s.size ≤ 140737488355328) :
  Calls Tryd.prog 71 #[.pointer (some ⟨b,0,none⟩),.string s] w fun e w' => e = .returned (.tuple #[.int .i64 s.size,.nilIface]) ∧ WS wp b (acc ++ s.data.toList) w' ∧ Rest b w w' := by
 refine (WriteString_calls wp.heap.size b _ s w h.hI (by rw [Lib.byteCells_length];exact zb6) h.hB.size).mono ?_
 rintro e w' ⟨rfl,h1,h2,h3⟩
 rw [Lib.strCells_eq,← Lib.byteCells_append] at h1
 exact ⟨rfl,⟨.inr h1,h.hB.trans h2⟩,h3⟩
theorem itoa_calls {wp w : World} (n : Int) (h0 : -9223372036854775808 ≤ n) (h1 : n ≤ 9223372036854775807) (ht : Lib.TabBelow Tryd.prog wp.heap.size wp "internal/strconv.uint64pow10" .u64 Lib.pow10Tab) (hB : Below wp.heap.size wp w) :
  Calls Tryd.prog 72 #[.int .i64 n] w fun e w' => e = .returned (.string ⟨(Lib.itoa n).toArray⟩) ∧ Below w.heap.size w w' := by
 refine (Tryd.strconv_Itoa n h0 h1 w (ht _ hB)).mono ?_
 rintro e w' ⟨rfl,k,os,rfl⟩
 refine ⟨rfl,?_⟩
 exact Lib.below_grow _ _ (Nat.le_refl _) k os
def kidText (f : Int → Int → List S25 → Int → Option (List UInt8)) (l : List S25) (i : Int) (lev : Int) : Option (List UInt8) := if i < (l.length : Int) then f (rd_T25 l i).f0 (rd_T25 l i).f1 (rd_T25 l i).f2 lev else none
def bodyText (f : Int → Int → List S25 → Int → Option (List UInt8)) (op n : Int) (l : List S25) (word : ByteArray) (lev ben : Int) : Option (List UInt8) :=
 if op = 1 then (if -9223372036854775808 ≤ n ∧ n ≤ 9223372036854775807 then some (Lib.itoa n) else none)
 else if ben = 0 then some word.data.toList
 else if op = 5 then (kidText f l 0 7).bind fun a => some ([45] ++ a)
 else if op = 6 then (kidText f l 0 3).bind fun a => some ([110,111,116,32] ++ a)
 else if op = 22 then (kidText f l 0 1).bind fun a => (kidText f l 1 1).bind fun b => (kidText f l 2 1).bind fun c => some ([105,102,32] ++ a ++ [32,116,104,101,110,32] ++ b ++ [32,101,108,115,101,32] ++ c ++ [32,101,110,100])
 else if lev = 8 then (kidText f l 0 1).bind fun a => (kidText f l 1 1).bind fun b => some ((word.data.toList ++ [40]) ++ a ++ [44,32] ++ b ++ [41])
 else (kidText f l 0 (if lev = 4 then wrap64 (lev + 1) else lev)).bind fun a => (kidText f l 1 (wrap64 (lev + 1))).bind fun b => some (a ++ ([32] ++ word.data.toList ++ [32]) ++ b)
def tree_write.f : Nat → Int → Int → List S25 → Int → Option (List UInt8)
 | 0,_,_,_,_ => none
 | k + 1,op,n,l,level => (tree_of.f op).bind fun x => (bodyText (tree_write.f k) op n l x.1 x.2.1 x.2.2.1).bind fun t => some (if x.2.1 < level then [40] ++ t ++ [41] else t)
end Go.Proofs.YtgnmdhnlcibbiaaDoor.P
end
section
namespace Go.Proofs.YtgnmdhnlcibbiaaDoor.P
open Go.RowKit Go.Proofs.PrintWords Go.Proofs.PrintLast Go.Proofs.PrintMore
set_option linter.unusedVariables false
set_option linter.unusedSimpArgs false
theorem lenX {acc : List UInt8} {m n M : Nat} (h : acc.length + m ≤ M) (hM : M ≤ 140737488355328) (e : n ≤ m) : acc.length + n ≤ 140737488355328 := by omega
theorem kid_some {f : Int → Int → List S25 → Int → Option (List UInt8)} {l : List S25} {i lev : Int} {t : List UInt8} (h : kidText f l i lev = some t) : i < (l.length : Int) ∧ f (rd_T25 l i).f0 (rd_T25 l i).f1 (rd_T25 l i).f2 lev = some t := by
 unfold kidText at h
 by_cases hi : i < (l.length : Int)
 ·rw [if_pos hi] at h;exact ⟨hi,h⟩
 ·rw [if_neg hi] at h;cases h
theorem str_size (a : ByteArray) : a.data.toList.length = a.size := Array.length_toList
theorem add_size (a b : ByteArray) : (a ++ b).size = a.size + b.size := ByteArray.size_append
theorem lit_size (l : List UInt8) : (⟨l.toArray⟩ : ByteArray).size = l.length := List.size_toArray
theorem wsl_calls {wp w : World} {b : Nat} {acc : List UInt8} (h : WS wp b acc w) (bs : List UInt8) (zb6 : acc.length + bs.length ≤ 140737488355328) :
  Calls Tryd.prog 71 #[.pointer (some ⟨b,0,none⟩),.string ⟨bs.toArray⟩] w fun e w' => e = .returned (.tuple #[.int .i64 bs.length,.nilIface]) ∧ WS wp b (acc ++ bs) w' ∧ Rest b w w' := by
 refine (ws_calls h ⟨bs.toArray⟩ (by rw [lit_size];exact zb6)).mono ?_
 rintro e w' ⟨rfl,h1,h2⟩
 exact ⟨by rw [lit_size],h1,h2⟩
theorem WS.drew {wp w : World} {b : Nat} {acc : List UInt8} (h : WS wp b acc w) : WS wp b acc w.drew := h.below (below_drew1 (Below.refl _ _))
theorem Rest.drew {b : Nat} {w0 w : World} (h : Rest b w0 w) : Rest b w0 w.drew := h.trans (Rest.of_below (below_drew1 (Below.refl _ _)))
theorem lit_row {P : Program} {ops : Array Oper} {rest : List Oper} {o : Oper} {a : Act} {Q : Exit → Act → World → Prop} {W : World} (hgd : o.guard = none) {cs : Array Value} {t : TypeId} (zcA : (execOp a.eval o).run P W = .ok (.value (.slice (some ⟨W.heap.size,0,none⟩) 3 3)) (W.alloc (.cells cs t)))
  (h : ∀ g w',g = W.heap.size → w'.heap[g]? = some (.cells cs t (0,0)) → Below W.heap.size W w' → wpList P ops Q rest (a.put o.dst (.slice (some ⟨g,0,none⟩) 3 3)) w') : wpList P ops Q (o :: rest) a W :=
 Kd.event_run hgd zcA (h _ _ rfl (blk_new _ _) (below_alloc (Below.refl _ _) _))
theorem add_str (a b : ByteArray) : (a ++ b).data.toList = a.data.toList ++ b.data.toList := by simp [ByteArray.data_append]
theorem Rest.kept {b g : Nat} {w w1 w2 : World} (h : Rest b w w1) (hg : w.heap.size ≤ g) (hk : Kept w1 w2 (fun k => k = g)) : Rest b w w2 := ⟨Nat.le_trans h.1 hk.1,fun i cs t fz hi hc ht => by
 have hl := (Array.getElem?_eq_some_iff.1 hc).1
 have h1 := h.2 i cs t fz hi hc ht
 exact (hk.2 i (Array.getElem?_eq_some_iff.1 h1).1 (by omega)).trans h1⟩
theorem WS.kept {wp w w' : World} {b g t : Nat} {acc : List UInt8} {cs : Array Value} {fz : Nat × Nat} (h : WS wp b acc w) (hg : w.heap[g]? = some (.cells cs t fz)) (ht : t ≠ 5) (hgb : g ≠ b) (hk : Kept w w' (fun k => k = g)) (hB : Below wp.heap.size wp w') : WS wp b acc w' := by
 have kr : ∀ (i : Nat) (cs : Array Value) (fz : Nat × Nat),w.heap[i]? = some (Obj.cells cs 5 fz) → w'.heap[i]? = w.heap[i]? := fun i cs' fz' hc => hk.2 i (Array.getElem?_eq_some_iff.1 hc).1 (fun e => by
  subst e
  rw [hg] at hc
  injection hc with hc
  injection hc with _ h5 _
  exact ht h5)
 have ks := hk.2 b h.lt (fun e => hgb e.symm)
 refine ⟨?_,hB⟩
 rcases h.hI with x | x
 ·exact .inl (builder_keeps x ks kr)
 ·exact .inr (builder_keeps x ks kr)
def WR (wp : World) (b : Nat) (w : World) (op n : Int) (A : Option Addr) (c : Nat) (l : List S25) (level : Int) (t : List UInt8) : Prop := Calls Tryd.prog 37 #[.pointer (some ⟨b,0,none⟩),.agg #[.int .i64 op,.int .i64 n,.slice A l.length c],.int .i64 level] w fun e w' => e = .returned (.tuple #[]) ∧ WS wp b t w' ∧ Rest b w w'
abbrev WIH (wp : World) (b M k : Nat) : Prop := ∀ (op n : Int) (A : Option Addr) (c : Nat) (l : List S25) (level : Int) (acc t : List UInt8) (w : World),Kd.C k25 wp A l.length l → WS wp b acc w → tree_write.f k op n l level = some t → acc.length + t.length ≤ M → Calls Tryd.prog 37 #[.pointer (some ⟨b,0,none⟩),.agg #[.int .i64 op,.int .i64 n,.slice A l.length c],.int .i64 level] w fun e w' => e = .returned (.tuple #[]) ∧ WS wp b (acc ++ t) w' ∧ Rest b w w'
set_option maxHeartbeats 8000000
set_option maxRecDepth 100000
theorem write_num (wp : World) (b : Nat) (htab : Lib.TabBelow Tryd.prog wp.heap.size wp "internal/strconv.uint64pow10" .u64 Lib.pow10Tab) (M : Nat) (hM : M ≤ 140737488355328) (k : Nat) (ih : WIH wp b M k)
  (op n : Int) (A : Option Addr) (c : Nat) (l : List S25) (level : Int) (acc : List UInt8) (w : World) (word : ByteArray) (lev : Int) (ben : Int) (ok : Bool)
  (hC : Kd.C k25 wp A l.length l) (hS : WS wp b acc w) (hof : tree_of.f 1 = some (word,lev,ben,ok)) (hn : -9223372036854775808 ≤ n ∧ n ≤ 9223372036854775807)
  (zb6 : acc.length + (if lev < level then [40] ++ (Lib.itoa n) ++ [41] else Lib.itoa n).length ≤ M) : WR wp b w 1 n A c l level (acc ++ (if lev < level then [40] ++ (Lib.itoa n) ++ [41] else Lib.itoa n)) := by
 unfold WR;by_cases hin : lev < level
 case' pos => rw [if_pos hin] at zb6 ⊢;have zgk := decide_eq_true hin
 case' neg => rw [if_neg hin] at zb6 ⊢;have zgk := decide_eq_false hin
 all_goals
  have HO := am hof
  have HS := am hS
  have HR := am (Rest.refl b w)
  have HL := am zb6
  clear hof hS zb6 hC
  go_enter Tryd.func37,Tryd.ntmps37
  go_wp2_with (first | ((with_reducible refine gate_dst (N := 4) rfl ?_);refine box_event ?hg (N := 4) ?hd (cs := #[.int .i64 1,.int .i64 n,.slice A l.length c]) (t := 25) ?hr ?_;(case hd => rfl);(case hg => rfl);(case hr => (go_simp;try rfl));intro gn hg w1 zan hb;have NEn := am ((by rw [hg];exact Nat.ne_of_gt HS.out.lt) : gn ≠ b);have GEn := am ((by rw [hg];exact HS.out.hB.size) : wp.heap.size ≤ gn);replace HR := am (HR.out.trans (Rest.of_below hb));replace HS := am (HS.out.below hb);clear hb;have HN := am zan;clear zan hg;obtain ⟨hn0,hm0,hn1,hm1,hn2,hm2⟩ := cells3 HN.out) | ((with_reducible refine (tree_of.calls 1 word lev ben ok _ HO.out).mono ?_);rintro e w2 ⟨rfl,hb⟩;clear hn0 hm0 hn1 hm1 hn2 hm2;replace HN := am (blk_below HN.out hb);replace HR := am (HR.out.trans (Rest.of_below hb));replace HS := am (HS.out.below hb);clear hb;obtain ⟨hn0,hm0,hn1,hm1,hn2,hm2⟩ := cells3 HN.out) | ((with_reducible refine gate_dst (N := 6) rfl ?_);refine box_event ?hg (N := 6) ?hd (cs := #[.string ⟨#[]⟩,.int .i64 0,.int .i64 0]) (t := 85) ?hr ?_;(case hd => rfl);(case hg => rfl);(case hr => (go_simp;try rfl));intro gx hg w3 zan hb;have NEx := am ((by rw [hg];exact Nat.ne_of_gt HS.out.lt) : gx ≠ b);have GEx := am ((by rw [hg];exact HS.out.hB.size) : wp.heap.size ≤ gx);have GWx := am ((by rw [hg];exact HR.out.1) : w.heap.size ≤ gx);have zgl := am ((by rw [hg];exact Nat.ne_of_lt (blk_lt HN.out)) : gn ≠ gx);clear hn0 hm0 hn1 hm1 hn2 hm2;replace HN := am (blk_below HN.out hb);replace HR := am (HR.out.trans (Rest.of_below hb));replace HS := am (HS.out.below hb);clear hb;obtain ⟨hn0,hm0,hn1,hm1,hn2,hm2⟩ := cells3 HN.out;clear hn0 hm0 hn1 hm1 hn2 hm2;have HX := am zan;clear zan hg;obtain ⟨hn0,hm0,hn1,hm1,hn2,hm2⟩ := cells3 HN.out;obtain ⟨hx0,hy0,hx1,hy1,hx2,hy2⟩ := cells3 HX.out) | ((with_reducible refine gate_store (t := 85) (p := 6) rfl ?_);refine store3_event (b := gx) (y0 := .string word) (y1 := .int .i64 lev) (y2 := .int .i64 ben) ?hgd ?hN ?hr HX.out ?_;(case hgd => rfl);(case hN => rfl);(case hr => (obtain ⟨q0_,f0_,q1_,f1_,q2_,f2_⟩ := cells3 HX.out;go_simp;try rfl));intro w4 hx hk zax;clear hn0 hm0 hn1 hm1 hn2 hm2 hx0 hy0 hx1 hy1 hx2 hy2;replace HN := am (blk_kept HN.out hk zgl.out);replace HS := am (HS.out.kept HX.out (by decide) NEx.out hk (zax _ HS.out.hB GEx.out));replace HR := am (HR.out.kept GWx.out hk);replace HX := am hx;clear hx hk zax;obtain ⟨hn0,hm0,hn1,hm1,hn2,hm2⟩ := cells3 HN.out;obtain ⟨hx0,hy0,hx1,hy1,hx2,hy2⟩ := cells3 HX.out) | ((with_reducible refine (wsl_calls HS.out _ (Nat.le_trans (by have h_ := HL.out;simp only [List.length_append,List.length_cons,List.length_nil,str_size,add_size,lit_size] at h_ ⊢;omega) hM)).mono ?_);rintro e w5 ⟨rfl,hs,hr⟩;clear hn0 hm0 hn1 hm1 hn2 hm2 hx0 hy0 hx1 hy1 hx2 hy2;replace HN := am (hr.2 _ _ _ _ NEn.out HN.out (by decide));replace HX := am (hr.2 _ _ _ _ NEx.out HX.out (by decide));replace HR := am (HR.out.trans hr);replace HS := am hs;clear hs hr;obtain ⟨hn0,hm0,hn1,hm1,hn2,hm2⟩ := cells3 HN.out;obtain ⟨hx0,hy0,hx1,hy1,hx2,hy2⟩ := cells3 HX.out) | ((with_reducible refine (ws_calls HS.out _ (Nat.le_trans (by have h_ := HL.out;simp only [List.length_append,List.length_cons,List.length_nil,str_size,add_size,lit_size] at h_ ⊢;omega) hM)).mono ?_);rintro e w6 ⟨rfl,hs,hr⟩;clear hn0 hm0 hn1 hm1 hn2 hm2 hx0 hy0 hx1 hy1 hx2 hy2;replace HN := am (hr.2 _ _ _ _ NEn.out HN.out (by decide));replace HX := am (hr.2 _ _ _ _ NEx.out HX.out (by decide));replace HR := am (HR.out.trans hr);replace HS := am hs;clear hs hr;obtain ⟨hn0,hm0,hn1,hm1,hn2,hm2⟩ := cells3 HN.out;obtain ⟨hx0,hy0,hx1,hy1,hx2,hy2⟩ := cells3 HX.out) | ((with_reducible refine (itoa_calls n hn.1 hn.2 htab HS.out.hB).mono ?_);rintro e w7 ⟨rfl,hb⟩;clear hn0 hm0 hn1 hm1 hn2 hm2 hx0 hy0 hx1 hy1 hx2 hy2;replace HN := am (blk_below HN.out hb);replace HX := am (blk_below HX.out hb);replace HR := am (HR.out.trans (Rest.of_below hb));replace HS := am (HS.out.below hb);clear hb;obtain ⟨hn0,hm0,hn1,hm1,hn2,hm2⟩ := cells3 HN.out;obtain ⟨hx0,hy0,hx1,hy1,hx2,hy2⟩ := cells3 HX.out))
  go_end0
  refine ⟨rfl,?_,HR.out⟩
  have h_ := HS.out
  simpa [add_str] using h_
theorem write_leaf (wp : World) (b : Nat) (htab : Lib.TabBelow Tryd.prog wp.heap.size wp "internal/strconv.uint64pow10" .u64 Lib.pow10Tab) (M : Nat) (hM : M ≤ 140737488355328) (k : Nat) (ih : WIH wp b M k)
  (op n : Int) (A : Option Addr) (c : Nat) (l : List S25) (level : Int) (acc : List UInt8) (w : World) (word : ByteArray) (lev : Int) (ben : Int) (ok : Bool)
  (hC : Kd.C k25 wp A l.length l) (hS : WS wp b acc w) (hof : tree_of.f op = some (word,lev,ben,ok)) (h1 : ¬ op = 1) (h2 : ben = 0)
  (zb6 : acc.length + (if lev < level then [40] ++ (word.data.toList) ++ [41] else word.data.toList).length ≤ M) : WR wp b w op n A c l level (acc ++ (if lev < level then [40] ++ (word.data.toList) ++ [41] else word.data.toList)) := by
 unfold WR;by_cases hin : lev < level
 case' pos => rw [if_pos hin] at zb6 ⊢;have zgk := decide_eq_true hin
 case' neg => rw [if_neg hin] at zb6 ⊢;have zgk := decide_eq_false hin
 all_goals
  have HO := am hof
  have HS := am hS
  have HR := am (Rest.refl b w)
  have HL := am zb6
  clear hof hS zb6 hC
  go_enter Tryd.func37,Tryd.ntmps37
  go_wp2_with (first | ((with_reducible refine gate_dst (N := 4) rfl ?_);refine box_event ?hg (N := 4) ?hd (cs := #[.int .i64 op,.int .i64 n,.slice A l.length c]) (t := 25) ?hr ?_;(case hd => rfl);(case hg => rfl);(case hr => (go_simp;try rfl));intro gn hg w1 zan hb;have NEn := am ((by rw [hg];exact Nat.ne_of_gt HS.out.lt) : gn ≠ b);have GEn := am ((by rw [hg];exact HS.out.hB.size) : wp.heap.size ≤ gn);replace HR := am (HR.out.trans (Rest.of_below hb));replace HS := am (HS.out.below hb);clear hb;have HN := am zan;clear zan hg;obtain ⟨hn0,hm0,hn1,hm1,hn2,hm2⟩ := cells3 HN.out) | ((with_reducible refine (tree_of.calls op word lev ben ok _ HO.out).mono ?_);rintro e w2 ⟨rfl,hb⟩;clear hn0 hm0 hn1 hm1 hn2 hm2;replace HN := am (blk_below HN.out hb);replace HR := am (HR.out.trans (Rest.of_below hb));replace HS := am (HS.out.below hb);clear hb;obtain ⟨hn0,hm0,hn1,hm1,hn2,hm2⟩ := cells3 HN.out) | ((with_reducible refine gate_dst (N := 6) rfl ?_);refine box_event ?hg (N := 6) ?hd (cs := #[.string ⟨#[]⟩,.int .i64 0,.int .i64 0]) (t := 85) ?hr ?_;(case hd => rfl);(case hg => rfl);(case hr => (go_simp;try rfl));intro gx hg w3 zan hb;have NEx := am ((by rw [hg];exact Nat.ne_of_gt HS.out.lt) : gx ≠ b);have GEx := am ((by rw [hg];exact HS.out.hB.size) : wp.heap.size ≤ gx);have GWx := am ((by rw [hg];exact HR.out.1) : w.heap.size ≤ gx);have zgl := am ((by rw [hg];exact Nat.ne_of_lt (blk_lt HN.out)) : gn ≠ gx);clear hn0 hm0 hn1 hm1 hn2 hm2;replace HN := am (blk_below HN.out hb);replace HR := am (HR.out.trans (Rest.of_below hb));replace HS := am (HS.out.below hb);clear hb;obtain ⟨hn0,hm0,hn1,hm1,hn2,hm2⟩ := cells3 HN.out;clear hn0 hm0 hn1 hm1 hn2 hm2;have HX := am zan;clear zan hg;obtain ⟨hn0,hm0,hn1,hm1,hn2,hm2⟩ := cells3 HN.out;obtain ⟨hx0,hy0,hx1,hy1,hx2,hy2⟩ := cells3 HX.out) | ((with_reducible refine gate_store (t := 85) (p := 6) rfl ?_);refine store3_event (b := gx) (y0 := .string word) (y1 := .int .i64 lev) (y2 := .int .i64 ben) ?hgd ?hN ?hr HX.out ?_;(case hgd => rfl);(case hN => rfl);(case hr => (obtain ⟨q0_,f0_,q1_,f1_,q2_,f2_⟩ := cells3 HX.out;go_simp;try rfl));intro w4 hx hk zax;clear hn0 hm0 hn1 hm1 hn2 hm2 hx0 hy0 hx1 hy1 hx2 hy2;replace HN := am (blk_kept HN.out hk zgl.out);replace HS := am (HS.out.kept HX.out (by decide) NEx.out hk (zax _ HS.out.hB GEx.out));replace HR := am (HR.out.kept GWx.out hk);replace HX := am hx;clear hx hk zax;obtain ⟨hn0,hm0,hn1,hm1,hn2,hm2⟩ := cells3 HN.out;obtain ⟨hx0,hy0,hx1,hy1,hx2,hy2⟩ := cells3 HX.out) | ((with_reducible refine (wsl_calls HS.out _ (Nat.le_trans (by have h_ := HL.out;simp only [List.length_append,List.length_cons,List.length_nil,str_size,add_size,lit_size] at h_ ⊢;omega) hM)).mono ?_);rintro e w5 ⟨rfl,hs,hr⟩;clear hn0 hm0 hn1 hm1 hn2 hm2 hx0 hy0 hx1 hy1 hx2 hy2;replace HN := am (hr.2 _ _ _ _ NEn.out HN.out (by decide));replace HX := am (hr.2 _ _ _ _ NEx.out HX.out (by decide));replace HR := am (HR.out.trans hr);replace HS := am hs;clear hs hr;obtain ⟨hn0,hm0,hn1,hm1,hn2,hm2⟩ := cells3 HN.out;obtain ⟨hx0,hy0,hx1,hy1,hx2,hy2⟩ := cells3 HX.out) | ((with_reducible refine (ws_calls HS.out _ (Nat.le_trans (by have h_ := HL.out;simp only [List.length_append,List.length_cons,List.length_nil,str_size,add_size,lit_size] at h_ ⊢;omega) hM)).mono ?_);rintro e w6 ⟨rfl,hs,hr⟩;clear hn0 hm0 hn1 hm1 hn2 hm2 hx0 hy0 hx1 hy1 hx2 hy2;replace HN := am (hr.2 _ _ _ _ NEn.out HN.out (by decide));replace HX := am (hr.2 _ _ _ _ NEx.out HX.out (by decide));replace HR := am (HR.out.trans hr);replace HS := am hs;clear hs hr;obtain ⟨hn0,hm0,hn1,hm1,hn2,hm2⟩ := cells3 HN.out;obtain ⟨hx0,hy0,hx1,hy1,hx2,hy2⟩ := cells3 HX.out))
  go_end0
  refine ⟨rfl,?_,HR.out⟩
  have h_ := HS.out
  simpa [add_str] using h_
theorem write_neg (wp : World) (b : Nat) (htab : Lib.TabBelow Tryd.prog wp.heap.size wp "internal/strconv.uint64pow10" .u64 Lib.pow10Tab) (M : Nat) (hM : M ≤ 140737488355328) (k : Nat) (ih : WIH wp b M k)
  (op n : Int) (A : Option Addr) (c : Nat) (l : List S25) (level : Int) (acc : List UInt8) (w : World) (word : ByteArray) (lev : Int) (ben : Int) (ok : Bool)
  (hC : Kd.C k25 wp A l.length l) (hS : WS wp b acc w) (hof : tree_of.f 5 = some (word,lev,ben,ok)) (h2 : ¬ ben = 0)  (t0 : List UInt8) (hk0 : kidText (tree_write.f k) l 0 (7) = some t0)
  (zb6 : acc.length + (if lev < level then [40] ++ ([45] ++ t0) ++ [41] else [45] ++ t0).length ≤ M) : WR wp b w 5 n A c l level (acc ++ (if lev < level then [40] ++ ([45] ++ t0) ++ [41] else [45] ++ t0)) := by
 unfold WR;by_cases hin : lev < level
 case' pos => rw [if_pos hin] at zb6 ⊢;have zgk := decide_eq_true hin
 case' neg => rw [if_neg hin] at zb6 ⊢;have zgk := decide_eq_false hin
 all_goals
  have HO := am hof
  have HS := am hS
  have HR := am (Rest.refl b w)
  have HL := am zb6
  obtain ⟨hl0,hf0⟩ := kid_some hk0
  have A0 := am hf0
  obtain ⟨ad,A0_,c0,e0,zck,zcl,zcm,kl0,kc0⟩ := at_T25 hC 0 (by omega) hl0
  cases e0
  (try rw [show ((0 : Int)).toNat = 0 from rfl] at zck);(try rw [show 0 * 3 = 0 from rfl] at zck);(try rw [Addr.add_zero'] at zck)
  have zbW := am zck
  (try rw [show ((0 : Int)).toNat = 0 from rfl] at zcl);(try rw [show 0 * 3 = 0 from rfl] at zcl);(try rw [Addr.add_zero'] at zcl)
  have zbX := am zcl
  (try rw [show ((0 : Int)).toNat = 0 from rfl] at zcm);(try rw [show 0 * 3 = 0 from rfl] at zcm);(try rw [Addr.add_zero'] at zcm)
  have zbY := am zcm
  have ki0 := am kc0
  have hl0' : (0 < l.length) = True := eq_true (by omega)
  clear hof hS zb6 hC hk0 hf0 zck zcl zcm kc0 kl0
  go_enter Tryd.func37,Tryd.ntmps37
  go_wp2_with (first | ((with_reducible refine gate_dst (N := 4) rfl ?_);refine box_event ?hg (N := 4) ?hd (cs := #[.int .i64 5,.int .i64 n,.slice (some ad) l.length c]) (t := 25) ?hr ?_;(case hd => rfl);(case hg => rfl);(case hr => (go_simp;try rfl));intro gn hg w1 zan hb;have NEn := am ((by rw [hg];exact Nat.ne_of_gt HS.out.lt) : gn ≠ b);have GEn := am ((by rw [hg];exact HS.out.hB.size) : wp.heap.size ≤ gn);replace HR := am (HR.out.trans (Rest.of_below hb));replace HS := am (HS.out.below hb);clear hb;have zaR := pcb HS.out.hB zbW.out;have zaS := pcb HS.out.hB zbX.out;have zaT := pcb HS.out.hB zbY.out;clear zaR zaS zaT;have HN := am zan;clear zan hg;obtain ⟨hn0,hm0,hn1,hm1,hn2,hm2⟩ := cells3 HN.out;have zaR := pcb HS.out.hB zbW.out;have zaS := pcb HS.out.hB zbX.out;have zaT := pcb HS.out.hB zbY.out) | ((with_reducible refine (tree_of.calls 5 word lev ben ok _ HO.out).mono ?_);rintro e w2 ⟨rfl,hb⟩;clear hn0 hm0 hn1 hm1 hn2 hm2 zaR zaS zaT;replace HN := am (blk_below HN.out hb);replace HR := am (HR.out.trans (Rest.of_below hb));replace HS := am (HS.out.below hb);clear hb;obtain ⟨hn0,hm0,hn1,hm1,hn2,hm2⟩ := cells3 HN.out;have zaR := pcb HS.out.hB zbW.out;have zaS := pcb HS.out.hB zbX.out;have zaT := pcb HS.out.hB zbY.out) | ((with_reducible refine gate_dst (N := 6) rfl ?_);refine box_event ?hg (N := 6) ?hd (cs := #[.string ⟨#[]⟩,.int .i64 0,.int .i64 0]) (t := 85) ?hr ?_;(case hd => rfl);(case hg => rfl);(case hr => (go_simp;try rfl));intro gx hg w3 zan hb;have NEx := am ((by rw [hg];exact Nat.ne_of_gt HS.out.lt) : gx ≠ b);have GEx := am ((by rw [hg];exact HS.out.hB.size) : wp.heap.size ≤ gx);have GWx := am ((by rw [hg];exact HR.out.1) : w.heap.size ≤ gx);have zgl := am ((by rw [hg];exact Nat.ne_of_lt (blk_lt HN.out)) : gn ≠ gx);clear hn0 hm0 hn1 hm1 hn2 hm2 zaR zaS zaT;replace HN := am (blk_below HN.out hb);replace HR := am (HR.out.trans (Rest.of_below hb));replace HS := am (HS.out.below hb);clear hb;obtain ⟨hn0,hm0,hn1,hm1,hn2,hm2⟩ := cells3 HN.out;have zaR := pcb HS.out.hB zbW.out;have zaS := pcb HS.out.hB zbX.out;have zaT := pcb HS.out.hB zbY.out;clear hn0 hm0 hn1 hm1 hn2 hm2 zaR zaS zaT;have HX := am zan;clear zan hg;obtain ⟨hn0,hm0,hn1,hm1,hn2,hm2⟩ := cells3 HN.out;obtain ⟨hx0,hy0,hx1,hy1,hx2,hy2⟩ := cells3 HX.out;have zaR := pcb HS.out.hB zbW.out;have zaS := pcb HS.out.hB zbX.out;have zaT := pcb HS.out.hB zbY.out) | ((with_reducible refine gate_store (t := 85) (p := 6) rfl ?_);refine store3_event (b := gx) (y0 := .string word) (y1 := .int .i64 lev) (y2 := .int .i64 ben) ?hgd ?hN ?hr HX.out ?_;(case hgd => rfl);(case hN => rfl);(case hr => (obtain ⟨q0_,f0_,q1_,f1_,q2_,f2_⟩ := cells3 HX.out;go_simp;try rfl));intro w4 hx hk zax;clear hn0 hm0 hn1 hm1 hn2 hm2 hx0 hy0 hx1 hy1 hx2 hy2 zaR zaS zaT;replace HN := am (blk_kept HN.out hk zgl.out);replace HS := am (HS.out.kept HX.out (by decide) NEx.out hk (zax _ HS.out.hB GEx.out));replace HR := am (HR.out.kept GWx.out hk);replace HX := am hx;clear hx hk zax;obtain ⟨hn0,hm0,hn1,hm1,hn2,hm2⟩ := cells3 HN.out;obtain ⟨hx0,hy0,hx1,hy1,hx2,hy2⟩ := cells3 HX.out;have zaR := pcb HS.out.hB zbW.out;have zaS := pcb HS.out.hB zbX.out;have zaT := pcb HS.out.hB zbY.out) | ((with_reducible refine (wsl_calls HS.out _ (Nat.le_trans (by have h_ := HL.out;simp only [List.length_append,List.length_cons,List.length_nil,str_size,add_size,lit_size] at h_ ⊢;omega) hM)).mono ?_);rintro e w5 ⟨rfl,hs,hr⟩;clear hn0 hm0 hn1 hm1 hn2 hm2 hx0 hy0 hx1 hy1 hx2 hy2 zaR zaS zaT;replace HN := am (hr.2 _ _ _ _ NEn.out HN.out (by decide));replace HX := am (hr.2 _ _ _ _ NEx.out HX.out (by decide));replace HR := am (HR.out.trans hr);replace HS := am hs;clear hs hr;obtain ⟨hn0,hm0,hn1,hm1,hn2,hm2⟩ := cells3 HN.out;obtain ⟨hx0,hy0,hx1,hy1,hx2,hy2⟩ := cells3 HX.out;have zaR := pcb HS.out.hB zbW.out;have zaS := pcb HS.out.hB zbX.out;have zaT := pcb HS.out.hB zbY.out) | ((with_reducible refine (ih _ _ _ _ _ _ _ _ _ ki0.out HS.out A0.out (by have h_ := HL.out;simp only [List.length_append,List.length_cons,List.length_nil,str_size,add_size,lit_size] at h_ ⊢;omega)).mono ?_);rintro e w6 ⟨rfl,hs,hr⟩;clear hn0 hm0 hn1 hm1 hn2 hm2 hx0 hy0 hx1 hy1 hx2 hy2 zaR zaS zaT;replace HN := am (hr.2 _ _ _ _ NEn.out HN.out (by decide));replace HX := am (hr.2 _ _ _ _ NEx.out HX.out (by decide));replace HR := am (HR.out.trans hr);replace HS := am hs;clear hs hr;obtain ⟨hn0,hm0,hn1,hm1,hn2,hm2⟩ := cells3 HN.out;obtain ⟨hx0,hy0,hx1,hy1,hx2,hy2⟩ := cells3 HX.out;have zaR := pcb HS.out.hB zbW.out;have zaS := pcb HS.out.hB zbX.out;have zaT := pcb HS.out.hB zbY.out) | ((with_reducible refine (ws_calls HS.out _ (Nat.le_trans (by have h_ := HL.out;simp only [List.length_append,List.length_cons,List.length_nil,str_size,add_size,lit_size] at h_ ⊢;omega) hM)).mono ?_);rintro e w7 ⟨rfl,hs,hr⟩;clear hn0 hm0 hn1 hm1 hn2 hm2 hx0 hy0 hx1 hy1 hx2 hy2 zaR zaS zaT;replace HN := am (hr.2 _ _ _ _ NEn.out HN.out (by decide));replace HX := am (hr.2 _ _ _ _ NEx.out HX.out (by decide));replace HR := am (HR.out.trans hr);replace HS := am hs;clear hs hr;obtain ⟨hn0,hm0,hn1,hm1,hn2,hm2⟩ := cells3 HN.out;obtain ⟨hx0,hy0,hx1,hy1,hx2,hy2⟩ := cells3 HX.out;have zaR := pcb HS.out.hB zbW.out;have zaS := pcb HS.out.hB zbX.out;have zaT := pcb HS.out.hB zbY.out))
  go_end0
  refine ⟨rfl,?_,HR.out⟩
  have h_ := HS.out
  simpa [add_str] using h_
theorem write_not (wp : World) (b : Nat) (htab : Lib.TabBelow Tryd.prog wp.heap.size wp "internal/strconv.uint64pow10" .u64 Lib.pow10Tab) (M : Nat) (hM : M ≤ 140737488355328) (k : Nat) (ih : WIH wp b M k)
  (op n : Int) (A : Option Addr) (c : Nat) (l : List S25) (level : Int) (acc : List UInt8) (w : World) (word : ByteArray) (lev : Int) (ben : Int) (ok : Bool)
  (hC : Kd.C k25 wp A l.length l) (hS : WS wp b acc w) (hof : tree_of.f 6 = some (word,lev,ben,ok)) (h2 : ¬ ben = 0) (t0 : List UInt8) (hk0 : kidText (tree_write.f k) l 0 (3) = some t0)
  (zb6 : acc.length + (if lev < level then [40] ++ ([110,111,116,32] ++ t0) ++ [41] else [110,111,116,32] ++ t0).length ≤ M) : WR wp b w 6 n A c l level (acc ++ (if lev < level then [40] ++ ([110,111,116,32] ++ t0) ++ [41] else [110,111,116,32] ++ t0)) := by
 unfold WR;by_cases hin : lev < level
 case' pos => rw [if_pos hin] at zb6 ⊢;have zgk := decide_eq_true hin
 case' neg => rw [if_neg hin] at zb6 ⊢;have zgk := decide_eq_false hin
 all_goals
  have HO := am hof
  have HS := am hS
  have HR := am (Rest.refl b w)
  have HL := am zb6
  obtain ⟨hl0,hf0⟩ := kid_some hk0
  have A0 := am hf0
  obtain ⟨ad,A0_,c0,e0,zck,zcl,zcm,kl0,kc0⟩ := at_T25 hC 0 (by omega) hl0
  cases e0
  (try rw [show ((0 : Int)).toNat = 0 from rfl] at zck);(try rw [show 0 * 3 = 0 from rfl] at zck);(try rw [Addr.add_zero'] at zck)
  have zbW := am zck
  (try rw [show ((0 : Int)).toNat = 0 from rfl] at zcl);(try rw [show 0 * 3 = 0 from rfl] at zcl);(try rw [Addr.add_zero'] at zcl)
  have zbX := am zcl
  (try rw [show ((0 : Int)).toNat = 0 from rfl] at zcm);(try rw [show 0 * 3 = 0 from rfl] at zcm);(try rw [Addr.add_zero'] at zcm)
  have zbY := am zcm
  have ki0 := am kc0
  have hl0' : (0 < l.length) = True := eq_true (by omega)
  clear hof hS zb6 hC hk0 hf0 zck zcl zcm kc0 kl0
  go_enter Tryd.func37,Tryd.ntmps37
  go_wp2_with (first | ((with_reducible refine gate_dst (N := 4) rfl ?_);refine box_event ?hg (N := 4) ?hd (cs := #[.int .i64 6,.int .i64 n,.slice (some ad) l.length c]) (t := 25) ?hr ?_;(case hd => rfl);(case hg => rfl);(case hr => (go_simp;try rfl));intro gn hg w1 zan hb;have NEn := am ((by rw [hg];exact Nat.ne_of_gt HS.out.lt) : gn ≠ b);have GEn := am ((by rw [hg];exact HS.out.hB.size) : wp.heap.size ≤ gn);replace HR := am (HR.out.trans (Rest.of_below hb));replace HS := am (HS.out.below hb);clear hb;have zaR := pcb HS.out.hB zbW.out;have zaS := pcb HS.out.hB zbX.out;have zaT := pcb HS.out.hB zbY.out;clear zaR zaS zaT;have HN := am zan;clear zan hg;obtain ⟨hn0,hm0,hn1,hm1,hn2,hm2⟩ := cells3 HN.out;have zaR := pcb HS.out.hB zbW.out;have zaS := pcb HS.out.hB zbX.out;have zaT := pcb HS.out.hB zbY.out) | ((with_reducible refine (tree_of.calls 6 word lev ben ok _ HO.out).mono ?_);rintro e w2 ⟨rfl,hb⟩;clear hn0 hm0 hn1 hm1 hn2 hm2 zaR zaS zaT;replace HN := am (blk_below HN.out hb);replace HR := am (HR.out.trans (Rest.of_below hb));replace HS := am (HS.out.below hb);clear hb;obtain ⟨hn0,hm0,hn1,hm1,hn2,hm2⟩ := cells3 HN.out;have zaR := pcb HS.out.hB zbW.out;have zaS := pcb HS.out.hB zbX.out;have zaT := pcb HS.out.hB zbY.out) | ((with_reducible refine gate_dst (N := 6) rfl ?_);refine box_event ?hg (N := 6) ?hd (cs := #[.string ⟨#[]⟩,.int .i64 0,.int .i64 0]) (t := 85) ?hr ?_;(case hd => rfl);(case hg => rfl);(case hr => (go_simp;try rfl));intro gx hg w3 zan hb;have NEx := am ((by rw [hg];exact Nat.ne_of_gt HS.out.lt) : gx ≠ b);have GEx := am ((by rw [hg];exact HS.out.hB.size) : wp.heap.size ≤ gx);have GWx := am ((by rw [hg];exact HR.out.1) : w.heap.size ≤ gx);have zgl := am ((by rw [hg];exact Nat.ne_of_lt (blk_lt HN.out)) : gn ≠ gx);clear hn0 hm0 hn1 hm1 hn2 hm2 zaR zaS zaT;replace HN := am (blk_below HN.out hb);replace HR := am (HR.out.trans (Rest.of_below hb));replace HS := am (HS.out.below hb);clear hb;obtain ⟨hn0,hm0,hn1,hm1,hn2,hm2⟩ := cells3 HN.out;have zaR := pcb HS.out.hB zbW.out;have zaS := pcb HS.out.hB zbX.out;have zaT := pcb HS.out.hB zbY.out;clear hn0 hm0 hn1 hm1 hn2 hm2 zaR zaS zaT;have HX := am zan;clear zan hg;obtain ⟨hn0,hm0,hn1,hm1,hn2,hm2⟩ := cells3 HN.out;obtain ⟨hx0,hy0,hx1,hy1,hx2,hy2⟩ := cells3 HX.out;have zaR := pcb HS.out.hB zbW.out;have zaS := pcb HS.out.hB zbX.out;have zaT := pcb HS.out.hB zbY.out) | ((with_reducible refine gate_store (t := 85) (p := 6) rfl ?_);refine store3_event (b := gx) (y0 := .string word) (y1 := .int .i64 lev) (y2 := .int .i64 ben) ?hgd ?hN ?hr HX.out ?_;(case hgd => rfl);(case hN => rfl);(case hr => (obtain ⟨q0_,f0_,q1_,f1_,q2_,f2_⟩ := cells3 HX.out;go_simp;try rfl));intro w4 hx hk zax;clear hn0 hm0 hn1 hm1 hn2 hm2 hx0 hy0 hx1 hy1 hx2 hy2 zaR zaS zaT;replace HN := am (blk_kept HN.out hk zgl.out);replace HS := am (HS.out.kept HX.out (by decide) NEx.out hk (zax _ HS.out.hB GEx.out));replace HR := am (HR.out.kept GWx.out hk);replace HX := am hx;clear hx hk zax;obtain ⟨hn0,hm0,hn1,hm1,hn2,hm2⟩ := cells3 HN.out;obtain ⟨hx0,hy0,hx1,hy1,hx2,hy2⟩ := cells3 HX.out;have zaR := pcb HS.out.hB zbW.out;have zaS := pcb HS.out.hB zbX.out;have zaT := pcb HS.out.hB zbY.out) | ((with_reducible refine (wsl_calls HS.out _ (Nat.le_trans (by have h_ := HL.out;simp only [List.length_append,List.length_cons,List.length_nil,str_size,add_size,lit_size] at h_ ⊢;omega) hM)).mono ?_);rintro e w5 ⟨rfl,hs,hr⟩;clear hn0 hm0 hn1 hm1 hn2 hm2 hx0 hy0 hx1 hy1 hx2 hy2 zaR zaS zaT;replace HN := am (hr.2 _ _ _ _ NEn.out HN.out (by decide));replace HX := am (hr.2 _ _ _ _ NEx.out HX.out (by decide));replace HR := am (HR.out.trans hr);replace HS := am hs;clear hs hr;obtain ⟨hn0,hm0,hn1,hm1,hn2,hm2⟩ := cells3 HN.out;obtain ⟨hx0,hy0,hx1,hy1,hx2,hy2⟩ := cells3 HX.out;have zaR := pcb HS.out.hB zbW.out;have zaS := pcb HS.out.hB zbX.out;have zaT := pcb HS.out.hB zbY.out) | ((with_reducible refine (ih _ _ _ _ _ _ _ _ _ ki0.out HS.out A0.out (by have h_ := HL.out;simp only [List.length_append,List.length_cons,List.length_nil,str_size,add_size,lit_size] at h_ ⊢;omega)).mono ?_);rintro e w6 ⟨rfl,hs,hr⟩;clear hn0 hm0 hn1 hm1 hn2 hm2 hx0 hy0 hx1 hy1 hx2 hy2 zaR zaS zaT;replace HN := am (hr.2 _ _ _ _ NEn.out HN.out (by decide));replace HX := am (hr.2 _ _ _ _ NEx.out HX.out (by decide));replace HR := am (HR.out.trans hr);replace HS := am hs;clear hs hr;obtain ⟨hn0,hm0,hn1,hm1,hn2,hm2⟩ := cells3 HN.out;obtain ⟨hx0,hy0,hx1,hy1,hx2,hy2⟩ := cells3 HX.out;have zaR := pcb HS.out.hB zbW.out;have zaS := pcb HS.out.hB zbX.out;have zaT := pcb HS.out.hB zbY.out) | ((with_reducible refine (ws_calls HS.out _ (Nat.le_trans (by have h_ := HL.out;simp only [List.length_append,List.length_cons,List.length_nil,str_size,add_size,lit_size] at h_ ⊢;omega) hM)).mono ?_);rintro e w7 ⟨rfl,hs,hr⟩;clear hn0 hm0 hn1 hm1 hn2 hm2 hx0 hy0 hx1 hy1 hx2 hy2 zaR zaS zaT;replace HN := am (hr.2 _ _ _ _ NEn.out HN.out (by decide));replace HX := am (hr.2 _ _ _ _ NEx.out HX.out (by decide));replace HR := am (HR.out.trans hr);replace HS := am hs;clear hs hr;obtain ⟨hn0,hm0,hn1,hm1,hn2,hm2⟩ := cells3 HN.out;obtain ⟨hx0,hy0,hx1,hy1,hx2,hy2⟩ := cells3 HX.out;have zaR := pcb HS.out.hB zbW.out;have zaS := pcb HS.out.hB zbX.out;have zaT := pcb HS.out.hB zbY.out))
  go_end0
  refine ⟨rfl,?_,HR.out⟩
  have h_ := HS.out
  simpa [add_str] using h_
theorem write_call (wp : World) (b : Nat) (htab : Lib.TabBelow Tryd.prog wp.heap.size wp "internal/strconv.uint64pow10" .u64 Lib.pow10Tab) (M : Nat) (hM : M ≤ 140737488355328) (k : Nat) (ih : WIH wp b M k)
  (op n : Int) (A : Option Addr) (c : Nat) (l : List S25) (level : Int) (acc : List UInt8) (w : World) (word : ByteArray) (ben : Int) (ok : Bool)
  (hC : Kd.C k25 wp A l.length l) (hS : WS wp b acc w) (hof : tree_of.f op = some (word,8,ben,ok)) (h1 : ¬ op = 1) (h2 : ¬ ben = 0) (h3 : ¬ op = 5) (h4 : ¬ op = 6) (h5 : ¬ op = 22) (t0 : List UInt8) (hk0 : kidText (tree_write.f k) l 0 (1) = some t0) (t1 : List UInt8) (hk1 : kidText (tree_write.f k) l 1 (1) = some t1)
  (zb6 : acc.length + (if 8 < level then [40] ++ ((word.data.toList ++ [40]) ++ t0 ++ [44,32] ++ t1 ++ [41]) ++ [41] else (word.data.toList ++ [40]) ++ t0 ++ [44,32] ++ t1 ++ [41]).length ≤ M) : WR wp b w op n A c l level (acc ++ (if 8 < level then [40] ++ ((word.data.toList ++ [40]) ++ t0 ++ [44,32] ++ t1 ++ [41]) ++ [41] else (word.data.toList ++ [40]) ++ t0 ++ [44,32] ++ t1 ++ [41])) := by
 unfold WR;by_cases hin : 8 < level
 case' pos => rw [if_pos hin] at zb6 ⊢;have zgk := decide_eq_true hin
 case' neg => rw [if_neg hin] at zb6 ⊢;have zgk := decide_eq_false hin
 all_goals
  have HO := am hof
  have HS := am hS
  have HR := am (Rest.refl b w)
  have HL := am zb6
  have hz0 : word.size ≤ 140737488355328 := (by have h_ := zb6;simp only [List.length_append,List.length_cons,List.length_nil,str_size,add_size,lit_size] at h_;omega)
  have hz1 : (9223372036854775807 < word.size + 1) = False := eq_false (by omega)
  have hz2 : (9223372036854775807 < 1 + word.size) = False := eq_false (by omega)
  have hz3 : (9223372036854775807 < 1 + word.size + 1) = False := eq_false (by omega)
  clear hz0
  obtain ⟨hl0,hf0⟩ := kid_some hk0
  have A0 := am hf0
  obtain ⟨ad,A0_,c0,e0,zck,zcl,zcm,kl0,kc0⟩ := at_T25 hC 0 (by omega) hl0
  cases e0
  (try rw [show ((0 : Int)).toNat = 0 from rfl] at zck);(try rw [show 0 * 3 = 0 from rfl] at zck);(try rw [Addr.add_zero'] at zck)
  have zbW := am zck
  (try rw [show ((0 : Int)).toNat = 0 from rfl] at zcl);(try rw [show 0 * 3 = 0 from rfl] at zcl);(try rw [Addr.add_zero'] at zcl)
  have zbX := am zcl
  (try rw [show ((0 : Int)).toNat = 0 from rfl] at zcm);(try rw [show 0 * 3 = 0 from rfl] at zcm);(try rw [Addr.add_zero'] at zcm)
  have zbY := am zcm
  have ki0 := am kc0
  have hl0' : (0 < l.length) = True := eq_true (by omega)
  obtain ⟨hl1,hf1⟩ := kid_some hk1
  have A1 := am hf1
  obtain ⟨ad1,A1_,c1,e1,zd1,zd2,zd3,kl1,kc1⟩ := at_T25 hC 1 (by omega) hl1
  obtain rfl : ad = ad1 := by injection e1
  (try simp only [show (1 : Int).toNat = 1 from rfl,Nat.reduceMul,Nat.reduceEqDiff,Go.Addr.add,↓reduceIte] at zd1)
  have zco := am zd1
  (try simp only [show (1 : Int).toNat = 1 from rfl,Nat.reduceMul,Nat.reduceEqDiff,Go.Addr.add,↓reduceIte] at zd2)
  have zcp := am zd2
  (try simp only [show (1 : Int).toNat = 1 from rfl,Nat.reduceMul,Nat.reduceEqDiff,Go.Addr.add,↓reduceIte] at zd3)
  have zcq := am zd3
  have ki1 := am kc1
  have hl1' : (1 < l.length) = True := eq_true (by omega)
  clear hof hS zb6 hC hk0 hf0 zck zcl zcm kc0 kl0 hk1 hf1 zd1 zd2 zd3 kc1 kl1
  go_enter Tryd.func37,Tryd.ntmps37
  go_wp2_with (first | ((with_reducible refine gate_dst (N := 4) rfl ?_);refine box_event ?hg (N := 4) ?hd (cs := #[.int .i64 op,.int .i64 n,.slice (some ad) l.length c]) (t := 25) ?hr ?_;(case hd => rfl);(case hg => rfl);(case hr => (go_simp;try rfl));intro gn hg w1 zan hb;have NEn := am ((by rw [hg];exact Nat.ne_of_gt HS.out.lt) : gn ≠ b);have GEn := am ((by rw [hg];exact HS.out.hB.size) : wp.heap.size ≤ gn);replace HR := am (HR.out.trans (Rest.of_below hb));replace HS := am (HS.out.below hb);clear hb;have zaR := pcb HS.out.hB zbW.out;have zaS := pcb HS.out.hB zbX.out;have zaT := pcb HS.out.hB zbY.out;have zaW := pcb HS.out.hB zco.out;have zaX := pcb HS.out.hB zcp.out;have zaY := pcb HS.out.hB zcq.out;clear zaR zaS zaT zaW zaX zaY;have HN := am zan;clear zan hg;obtain ⟨hn0,hm0,hn1,hm1,hn2,hm2⟩ := cells3 HN.out;have zaR := pcb HS.out.hB zbW.out;have zaS := pcb HS.out.hB zbX.out;have zaT := pcb HS.out.hB zbY.out;have zaW := pcb HS.out.hB zco.out;have zaX := pcb HS.out.hB zcp.out;have zaY := pcb HS.out.hB zcq.out) | ((with_reducible refine (tree_of.calls op word 8 ben ok _ HO.out).mono ?_);rintro e w2 ⟨rfl,hb⟩;clear hn0 hm0 hn1 hm1 hn2 hm2 zaR zaS zaT zaW zaX zaY;replace HN := am (blk_below HN.out hb);replace HR := am (HR.out.trans (Rest.of_below hb));replace HS := am (HS.out.below hb);clear hb;obtain ⟨hn0,hm0,hn1,hm1,hn2,hm2⟩ := cells3 HN.out;have zaR := pcb HS.out.hB zbW.out;have zaS := pcb HS.out.hB zbX.out;have zaT := pcb HS.out.hB zbY.out;have zaW := pcb HS.out.hB zco.out;have zaX := pcb HS.out.hB zcp.out;have zaY := pcb HS.out.hB zcq.out) | ((with_reducible refine gate_dst (N := 6) rfl ?_);refine box_event ?hg (N := 6) ?hd (cs := #[.string ⟨#[]⟩,.int .i64 0,.int .i64 0]) (t := 85) ?hr ?_;(case hd => rfl);(case hg => rfl);(case hr => (go_simp;try rfl));intro gx hg w3 zan hb;have NEx := am ((by rw [hg];exact Nat.ne_of_gt HS.out.lt) : gx ≠ b);have GEx := am ((by rw [hg];exact HS.out.hB.size) : wp.heap.size ≤ gx);have GWx := am ((by rw [hg];exact HR.out.1) : w.heap.size ≤ gx);have zgl := am ((by rw [hg];exact Nat.ne_of_lt (blk_lt HN.out)) : gn ≠ gx);clear hn0 hm0 hn1 hm1 hn2 hm2 zaR zaS zaT zaW zaX zaY;replace HN := am (blk_below HN.out hb);replace HR := am (HR.out.trans (Rest.of_below hb));replace HS := am (HS.out.below hb);clear hb;obtain ⟨hn0,hm0,hn1,hm1,hn2,hm2⟩ := cells3 HN.out;have zaR := pcb HS.out.hB zbW.out;have zaS := pcb HS.out.hB zbX.out;have zaT := pcb HS.out.hB zbY.out;have zaW := pcb HS.out.hB zco.out;have zaX := pcb HS.out.hB zcp.out;have zaY := pcb HS.out.hB zcq.out;clear hn0 hm0 hn1 hm1 hn2 hm2 zaR zaS zaT zaW zaX zaY;have HX := am zan;clear zan hg;obtain ⟨hn0,hm0,hn1,hm1,hn2,hm2⟩ := cells3 HN.out;obtain ⟨hx0,hy0,hx1,hy1,hx2,hy2⟩ := cells3 HX.out;have zaR := pcb HS.out.hB zbW.out;have zaS := pcb HS.out.hB zbX.out;have zaT := pcb HS.out.hB zbY.out;have zaW := pcb HS.out.hB zco.out;have zaX := pcb HS.out.hB zcp.out;have zaY := pcb HS.out.hB zcq.out) | ((with_reducible refine gate_store (t := 85) (p := 6) rfl ?_);refine store3_event (b := gx) (y0 := .string word) (y1 := .int .i64 8) (y2 := .int .i64 ben) ?hgd ?hN ?hr HX.out ?_;(case hgd => rfl);(case hN => rfl);(case hr => (obtain ⟨q0_,f0_,q1_,f1_,q2_,f2_⟩ := cells3 HX.out;go_simp;try rfl));intro w4 hx hk zax;clear hn0 hm0 hn1 hm1 hn2 hm2 hx0 hy0 hx1 hy1 hx2 hy2 zaR zaS zaT zaW zaX zaY;replace HN := am (blk_kept HN.out hk zgl.out);replace HS := am (HS.out.kept HX.out (by decide) NEx.out hk (zax _ HS.out.hB GEx.out));replace HR := am (HR.out.kept GWx.out hk);replace HX := am hx;clear hx hk zax;obtain ⟨hn0,hm0,hn1,hm1,hn2,hm2⟩ := cells3 HN.out;obtain ⟨hx0,hy0,hx1,hy1,hx2,hy2⟩ := cells3 HX.out;have zaR := pcb HS.out.hB zbW.out;have zaS := pcb HS.out.hB zbX.out;have zaT := pcb HS.out.hB zbY.out;have zaW := pcb HS.out.hB zco.out;have zaX := pcb HS.out.hB zcp.out;have zaY := pcb HS.out.hB zcq.out) | ((with_reducible refine (wsl_calls HS.out _ (Nat.le_trans (by have h_ := HL.out;simp only [List.length_append,List.length_cons,List.length_nil,str_size,add_size,lit_size] at h_ ⊢;omega) hM)).mono ?_);rintro e w5 ⟨rfl,hs,hr⟩;clear hn0 hm0 hn1 hm1 hn2 hm2 hx0 hy0 hx1 hy1 hx2 hy2 zaR zaS zaT zaW zaX zaY;replace HN := am (hr.2 _ _ _ _ NEn.out HN.out (by decide));replace HX := am (hr.2 _ _ _ _ NEx.out HX.out (by decide));replace HR := am (HR.out.trans hr);replace HS := am hs;clear hs hr;obtain ⟨hn0,hm0,hn1,hm1,hn2,hm2⟩ := cells3 HN.out;obtain ⟨hx0,hy0,hx1,hy1,hx2,hy2⟩ := cells3 HX.out;have zaR := pcb HS.out.hB zbW.out;have zaS := pcb HS.out.hB zbX.out;have zaT := pcb HS.out.hB zbY.out;have zaW := pcb HS.out.hB zco.out;have zaX := pcb HS.out.hB zcp.out;have zaY := pcb HS.out.hB zcq.out) | ((with_reducible refine (ih _ _ _ _ _ _ _ _ _ ki0.out HS.out A0.out (by have h_ := HL.out;simp only [List.length_append,List.length_cons,List.length_nil,str_size,add_size,lit_size] at h_ ⊢;omega)).mono ?_);rintro e w6 ⟨rfl,hs,hr⟩;clear hn0 hm0 hn1 hm1 hn2 hm2 hx0 hy0 hx1 hy1 hx2 hy2 zaR zaS zaT zaW zaX zaY;replace HN := am (hr.2 _ _ _ _ NEn.out HN.out (by decide));replace HX := am (hr.2 _ _ _ _ NEx.out HX.out (by decide));replace HR := am (HR.out.trans hr);replace HS := am hs;clear hs hr;obtain ⟨hn0,hm0,hn1,hm1,hn2,hm2⟩ := cells3 HN.out;obtain ⟨hx0,hy0,hx1,hy1,hx2,hy2⟩ := cells3 HX.out;have zaR := pcb HS.out.hB zbW.out;have zaS := pcb HS.out.hB zbX.out;have zaT := pcb HS.out.hB zbY.out;have zaW := pcb HS.out.hB zco.out;have zaX := pcb HS.out.hB zcp.out;have zaY := pcb HS.out.hB zcq.out) | ((with_reducible refine (ih _ _ _ _ _ _ _ _ _ ki1.out HS.out A1.out (by have h_ := HL.out;simp only [List.length_append,List.length_cons,List.length_nil,str_size,add_size,lit_size] at h_ ⊢;omega)).mono ?_);rintro e w7 ⟨rfl,hs,hr⟩;clear hn0 hm0 hn1 hm1 hn2 hm2 hx0 hy0 hx1 hy1 hx2 hy2 zaR zaS zaT zaW zaX zaY;replace HN := am (hr.2 _ _ _ _ NEn.out HN.out (by decide));replace HX := am (hr.2 _ _ _ _ NEx.out HX.out (by decide));replace HR := am (HR.out.trans hr);replace HS := am hs;clear hs hr;obtain ⟨hn0,hm0,hn1,hm1,hn2,hm2⟩ := cells3 HN.out;obtain ⟨hx0,hy0,hx1,hy1,hx2,hy2⟩ := cells3 HX.out;have zaR := pcb HS.out.hB zbW.out;have zaS := pcb HS.out.hB zbX.out;have zaT := pcb HS.out.hB zbY.out;have zaW := pcb HS.out.hB zco.out;have zaX := pcb HS.out.hB zcp.out;have zaY := pcb HS.out.hB zcq.out) | ((with_reducible refine (ws_calls HS.out _ (Nat.le_trans (by have h_ := HL.out;simp only [List.length_append,List.length_cons,List.length_nil,str_size,add_size,lit_size] at h_ ⊢;omega) hM)).mono ?_);rintro e w8 ⟨rfl,hs,hr⟩;clear hn0 hm0 hn1 hm1 hn2 hm2 hx0 hy0 hx1 hy1 hx2 hy2 zaR zaS zaT zaW zaX zaY;replace HN := am (hr.2 _ _ _ _ NEn.out HN.out (by decide));replace HX := am (hr.2 _ _ _ _ NEx.out HX.out (by decide));replace HR := am (HR.out.trans hr);replace HS := am hs;clear hs hr;obtain ⟨hn0,hm0,hn1,hm1,hn2,hm2⟩ := cells3 HN.out;obtain ⟨hx0,hy0,hx1,hy1,hx2,hy2⟩ := cells3 HX.out;have zaR := pcb HS.out.hB zbW.out;have zaS := pcb HS.out.hB zbX.out;have zaT := pcb HS.out.hB zbY.out;have zaW := pcb HS.out.hB zco.out;have zaX := pcb HS.out.hB zcp.out;have zaY := pcb HS.out.hB zcq.out))
  go_end0
  refine ⟨rfl,?_,HR.out⟩
  have h_ := HS.out
  simpa [add_str] using h_
theorem write_four (wp : World) (b : Nat) (htab : Lib.TabBelow Tryd.prog wp.heap.size wp "internal/strconv.uint64pow10" .u64 Lib.pow10Tab) (M : Nat) (hM : M ≤ 140737488355328) (k : Nat) (ih : WIH wp b M k)
  (op n : Int) (A : Option Addr) (c : Nat) (l : List S25) (level : Int) (acc : List UInt8) (w : World) (word : ByteArray) (ben : Int) (ok : Bool)
  (hC : Kd.C k25 wp A l.length l) (hS : WS wp b acc w) (hof : tree_of.f op = some (word,4,ben,ok)) (h1 : ¬ op = 1) (h2 : ¬ ben = 0) (h3 : ¬ op = 5) (h4 : ¬ op = 6) (h5 : ¬ op = 22) (t0 : List UInt8) (hk0 : kidText (tree_write.f k) l 0 (5) = some t0) (t1 : List UInt8) (hk1 : kidText (tree_write.f k) l 1 (5) = some t1)
  (zb6 : acc.length + (if 4 < level then [40] ++ (t0 ++ ([32] ++ word.data.toList ++ [32]) ++ t1) ++ [41] else t0 ++ ([32] ++ word.data.toList ++ [32]) ++ t1).length ≤ M) : WR wp b w op n A c l level (acc ++ (if 4 < level then [40] ++ (t0 ++ ([32] ++ word.data.toList ++ [32]) ++ t1) ++ [41] else t0 ++ ([32] ++ word.data.toList ++ [32]) ++ t1)) := by
 unfold WR;by_cases hin : 4 < level
 case' pos => rw [if_pos hin] at zb6 ⊢;have zgk := decide_eq_true hin
 case' neg => rw [if_neg hin] at zb6 ⊢;have zgk := decide_eq_false hin
 all_goals
  have HO := am hof
  have HS := am hS
  have HR := am (Rest.refl b w)
  have HL := am zb6
  have hz0 : word.size ≤ 140737488355328 := (by have h_ := zb6;simp only [List.length_append,List.length_cons,List.length_nil,str_size,add_size,lit_size] at h_;omega)
  have hz1 : (9223372036854775807 < word.size + 1) = False := eq_false (by omega)
  have hz2 : (9223372036854775807 < 1 + word.size) = False := eq_false (by omega)
  have hz3 : (9223372036854775807 < 1 + word.size + 1) = False := eq_false (by omega)
  clear hz0
  obtain ⟨hl0,hf0⟩ := kid_some hk0
  have A0 := am hf0
  obtain ⟨ad,A0_,c0,e0,zck,zcl,zcm,kl0,kc0⟩ := at_T25 hC 0 (by omega) hl0
  cases e0
  (try rw [show ((0 : Int)).toNat = 0 from rfl] at zck);(try rw [show 0 * 3 = 0 from rfl] at zck);(try rw [Addr.add_zero'] at zck)
  have zbW := am zck
  (try rw [show ((0 : Int)).toNat = 0 from rfl] at zcl);(try rw [show 0 * 3 = 0 from rfl] at zcl);(try rw [Addr.add_zero'] at zcl)
  have zbX := am zcl
  (try rw [show ((0 : Int)).toNat = 0 from rfl] at zcm);(try rw [show 0 * 3 = 0 from rfl] at zcm);(try rw [Addr.add_zero'] at zcm)
  have zbY := am zcm
  have ki0 := am kc0
  have hl0' : (0 < l.length) = True := eq_true (by omega)
  obtain ⟨hl1,hf1⟩ := kid_some hk1
  have A1 := am hf1
  obtain ⟨ad1,A1_,c1,e1,zd1,zd2,zd3,kl1,kc1⟩ := at_T25 hC 1 (by omega) hl1
  obtain rfl : ad = ad1 := by injection e1
  (try simp only [show (1 : Int).toNat = 1 from rfl,Nat.reduceMul,Nat.reduceEqDiff,Go.Addr.add,↓reduceIte] at zd1)
  have zco := am zd1
  (try simp only [show (1 : Int).toNat = 1 from rfl,Nat.reduceMul,Nat.reduceEqDiff,Go.Addr.add,↓reduceIte] at zd2)
  have zcp := am zd2
  (try simp only [show (1 : Int).toNat = 1 from rfl,Nat.reduceMul,Nat.reduceEqDiff,Go.Addr.add,↓reduceIte] at zd3)
  have zcq := am zd3
  have ki1 := am kc1
  have hl1' : (1 < l.length) = True := eq_true (by omega)
  clear hof hS zb6 hC hk0 hf0 zck zcl zcm kc0 kl0 hk1 hf1 zd1 zd2 zd3 kc1 kl1
  go_enter Tryd.func37,Tryd.ntmps37
  go_wp2_with (first | ((with_reducible refine gate_dst (N := 4) rfl ?_);refine box_event ?hg (N := 4) ?hd (cs := #[.int .i64 op,.int .i64 n,.slice (some ad) l.length c]) (t := 25) ?hr ?_;(case hd => rfl);(case hg => rfl);(case hr => (go_simp;try rfl));intro gn hg w1 zan hb;have NEn := am ((by rw [hg];exact Nat.ne_of_gt HS.out.lt) : gn ≠ b);have GEn := am ((by rw [hg];exact HS.out.hB.size) : wp.heap.size ≤ gn);replace HR := am (HR.out.trans (Rest.of_below hb));replace HS := am (HS.out.below hb);clear hb;have zaR := pcb HS.out.hB zbW.out;have zaS := pcb HS.out.hB zbX.out;have zaT := pcb HS.out.hB zbY.out;have zaW := pcb HS.out.hB zco.out;have zaX := pcb HS.out.hB zcp.out;have zaY := pcb HS.out.hB zcq.out;clear zaR zaS zaT zaW zaX zaY;have HN := am zan;clear zan hg;obtain ⟨hn0,hm0,hn1,hm1,hn2,hm2⟩ := cells3 HN.out;have zaR := pcb HS.out.hB zbW.out;have zaS := pcb HS.out.hB zbX.out;have zaT := pcb HS.out.hB zbY.out;have zaW := pcb HS.out.hB zco.out;have zaX := pcb HS.out.hB zcp.out;have zaY := pcb HS.out.hB zcq.out) | ((with_reducible refine (tree_of.calls op word 4 ben ok _ HO.out).mono ?_);rintro e w2 ⟨rfl,hb⟩;clear hn0 hm0 hn1 hm1 hn2 hm2 zaR zaS zaT zaW zaX zaY;replace HN := am (blk_below HN.out hb);replace HR := am (HR.out.trans (Rest.of_below hb));replace HS := am (HS.out.below hb);clear hb;obtain ⟨hn0,hm0,hn1,hm1,hn2,hm2⟩ := cells3 HN.out;have zaR := pcb HS.out.hB zbW.out;have zaS := pcb HS.out.hB zbX.out;have zaT := pcb HS.out.hB zbY.out;have zaW := pcb HS.out.hB zco.out;have zaX := pcb HS.out.hB zcp.out;have zaY := pcb HS.out.hB zcq.out) | ((with_reducible refine gate_dst (N := 6) rfl ?_);refine box_event ?hg (N := 6) ?hd (cs := #[.string ⟨#[]⟩,.int .i64 0,.int .i64 0]) (t := 85) ?hr ?_;(case hd => rfl);(case hg => rfl);(case hr => (go_simp;try rfl));intro gx hg w3 zan hb;have NEx := am ((by rw [hg];exact Nat.ne_of_gt HS.out.lt) : gx ≠ b);have GEx := am ((by rw [hg];exact HS.out.hB.size) : wp.heap.size ≤ gx);have GWx := am ((by rw [hg];exact HR.out.1) : w.heap.size ≤ gx);have zgl := am ((by rw [hg];exact Nat.ne_of_lt (blk_lt HN.out)) : gn ≠ gx);clear hn0 hm0 hn1 hm1 hn2 hm2 zaR zaS zaT zaW zaX zaY;replace HN := am (blk_below HN.out hb);replace HR := am (HR.out.trans (Rest.of_below hb));replace HS := am (HS.out.below hb);clear hb;obtain ⟨hn0,hm0,hn1,hm1,hn2,hm2⟩ := cells3 HN.out;have zaR := pcb HS.out.hB zbW.out;have zaS := pcb HS.out.hB zbX.out;have zaT := pcb HS.out.hB zbY.out;have zaW := pcb HS.out.hB zco.out;have zaX := pcb HS.out.hB zcp.out;have zaY := pcb HS.out.hB zcq.out;clear hn0 hm0 hn1 hm1 hn2 hm2 zaR zaS zaT zaW zaX zaY;have HX := am zan;clear zan hg;obtain ⟨hn0,hm0,hn1,hm1,hn2,hm2⟩ := cells3 HN.out;obtain ⟨hx0,hy0,hx1,hy1,hx2,hy2⟩ := cells3 HX.out;have zaR := pcb HS.out.hB zbW.out;have zaS := pcb HS.out.hB zbX.out;have zaT := pcb HS.out.hB zbY.out;have zaW := pcb HS.out.hB zco.out;have zaX := pcb HS.out.hB zcp.out;have zaY := pcb HS.out.hB zcq.out) | ((with_reducible refine gate_store (t := 85) (p := 6) rfl ?_);refine store3_event (b := gx) (y0 := .string word) (y1 := .int .i64 4) (y2 := .int .i64 ben) ?hgd ?hN ?hr HX.out ?_;(case hgd => rfl);(case hN => rfl);(case hr => (obtain ⟨q0_,f0_,q1_,f1_,q2_,f2_⟩ := cells3 HX.out;go_simp;try rfl));intro w4 hx hk zax;clear hn0 hm0 hn1 hm1 hn2 hm2 hx0 hy0 hx1 hy1 hx2 hy2 zaR zaS zaT zaW zaX zaY;replace HN := am (blk_kept HN.out hk zgl.out);replace HS := am (HS.out.kept HX.out (by decide) NEx.out hk (zax _ HS.out.hB GEx.out));replace HR := am (HR.out.kept GWx.out hk);replace HX := am hx;clear hx hk zax;obtain ⟨hn0,hm0,hn1,hm1,hn2,hm2⟩ := cells3 HN.out;obtain ⟨hx0,hy0,hx1,hy1,hx2,hy2⟩ := cells3 HX.out;have zaR := pcb HS.out.hB zbW.out;have zaS := pcb HS.out.hB zbX.out;have zaT := pcb HS.out.hB zbY.out;have zaW := pcb HS.out.hB zco.out;have zaX := pcb HS.out.hB zcp.out;have zaY := pcb HS.out.hB zcq.out) | ((with_reducible refine (wsl_calls HS.out _ (Nat.le_trans (by have h_ := HL.out;simp only [List.length_append,List.length_cons,List.length_nil,str_size,add_size,lit_size] at h_ ⊢;omega) hM)).mono ?_);rintro e w5 ⟨rfl,hs,hr⟩;clear hn0 hm0 hn1 hm1 hn2 hm2 hx0 hy0 hx1 hy1 hx2 hy2 zaR zaS zaT zaW zaX zaY;replace HN := am (hr.2 _ _ _ _ NEn.out HN.out (by decide));replace HX := am (hr.2 _ _ _ _ NEx.out HX.out (by decide));replace HR := am (HR.out.trans hr);replace HS := am hs;clear hs hr;obtain ⟨hn0,hm0,hn1,hm1,hn2,hm2⟩ := cells3 HN.out;obtain ⟨hx0,hy0,hx1,hy1,hx2,hy2⟩ := cells3 HX.out;have zaR := pcb HS.out.hB zbW.out;have zaS := pcb HS.out.hB zbX.out;have zaT := pcb HS.out.hB zbY.out;have zaW := pcb HS.out.hB zco.out;have zaX := pcb HS.out.hB zcp.out;have zaY := pcb HS.out.hB zcq.out) | ((with_reducible refine (ih _ _ _ _ _ _ _ _ _ ki0.out HS.out A0.out (by have h_ := HL.out;simp only [List.length_append,List.length_cons,List.length_nil,str_size,add_size,lit_size] at h_ ⊢;omega)).mono ?_);rintro e w6 ⟨rfl,hs,hr⟩;clear hn0 hm0 hn1 hm1 hn2 hm2 hx0 hy0 hx1 hy1 hx2 hy2 zaR zaS zaT zaW zaX zaY;replace HN := am (hr.2 _ _ _ _ NEn.out HN.out (by decide));replace HX := am (hr.2 _ _ _ _ NEx.out HX.out (by decide));replace HR := am (HR.out.trans hr);replace HS := am hs;clear hs hr;obtain ⟨hn0,hm0,hn1,hm1,hn2,hm2⟩ := cells3 HN.out;obtain ⟨hx0,hy0,hx1,hy1,hx2,hy2⟩ := cells3 HX.out;have zaR := pcb HS.out.hB zbW.out;have zaS := pcb HS.out.hB zbX.out;have zaT := pcb HS.out.hB zbY.out;have zaW := pcb HS.out.hB zco.out;have zaX := pcb HS.out.hB zcp.out;have zaY := pcb HS.out.hB zcq.out) | ((with_reducible refine (ih _ _ _ _ _ _ _ _ _ ki1.out HS.out A1.out (by have h_ := HL.out;simp only [List.length_append,List.length_cons,List.length_nil,str_size,add_size,lit_size] at h_ ⊢;omega)).mono ?_);rintro e w7 ⟨rfl,hs,hr⟩;clear hn0 hm0 hn1 hm1 hn2 hm2 hx0 hy0 hx1 hy1 hx2 hy2 zaR zaS zaT zaW zaX zaY;replace HN := am (hr.2 _ _ _ _ NEn.out HN.out (by decide));replace HX := am (hr.2 _ _ _ _ NEx.out HX.out (by decide));replace HR := am (HR.out.trans hr);replace HS := am hs;clear hs hr;obtain ⟨hn0,hm0,hn1,hm1,hn2,hm2⟩ := cells3 HN.out;obtain ⟨hx0,hy0,hx1,hy1,hx2,hy2⟩ := cells3 HX.out;have zaR := pcb HS.out.hB zbW.out;have zaS := pcb HS.out.hB zbX.out;have zaT := pcb HS.out.hB zbY.out;have zaW := pcb HS.out.hB zco.out;have zaX := pcb HS.out.hB zcp.out;have zaY := pcb HS.out.hB zcq.out) | ((with_reducible refine (ws_calls HS.out _ (Nat.le_trans (by have h_ := HL.out;simp only [List.length_append,List.length_cons,List.length_nil,str_size,add_size,lit_size] at h_ ⊢;omega) hM)).mono ?_);rintro e w8 ⟨rfl,hs,hr⟩;clear hn0 hm0 hn1 hm1 hn2 hm2 hx0 hy0 hx1 hy1 hx2 hy2 zaR zaS zaT zaW zaX zaY;replace HN := am (hr.2 _ _ _ _ NEn.out HN.out (by decide));replace HX := am (hr.2 _ _ _ _ NEx.out HX.out (by decide));replace HR := am (HR.out.trans hr);replace HS := am hs;clear hs hr;obtain ⟨hn0,hm0,hn1,hm1,hn2,hm2⟩ := cells3 HN.out;obtain ⟨hx0,hy0,hx1,hy1,hx2,hy2⟩ := cells3 HX.out;have zaR := pcb HS.out.hB zbW.out;have zaS := pcb HS.out.hB zbX.out;have zaT := pcb HS.out.hB zbY.out;have zaW := pcb HS.out.hB zco.out;have zaX := pcb HS.out.hB zcp.out;have zaY := pcb HS.out.hB zcq.out))
  have hw5 : IntKind.i64.wrap (5) = 5 := by decide
  go_region_with (go_at_call 37;(try rw [hw5]);(with_reducible refine (ih _ _ _ _ _ _ _ _ _ ki1.out HS.out.drew A1.out (by have h_ := HL.out;simp only [List.length_append,List.length_cons,List.length_nil,str_size,add_size,lit_size] at h_ ⊢;omega)).mono ?_);rintro e w8 ⟨rfl,hs,hr⟩)
  all_goals (replace HR := am (HR.out.drew.trans hr);replace HS := am hs;clear hs hr;(go_wp2_with (first | ((with_reducible refine (wsl_calls HS.out _ (Nat.le_trans (by have h_ := HL.out;simp only [List.length_append,List.length_cons,List.length_nil,str_size,add_size,lit_size] at h_ ⊢;omega) hM)).mono ?_);rintro e w9 ⟨rfl,hs,hr⟩;replace HR := am (HR.out.trans hr);replace HS := am hs)));go_end0;refine ⟨rfl,?_,HR.out⟩;have h_ := HS.out;simpa [add_str] using h_)
theorem write_bin (wp : World) (b : Nat) (htab : Lib.TabBelow Tryd.prog wp.heap.size wp "internal/strconv.uint64pow10" .u64 Lib.pow10Tab) (M : Nat) (hM : M ≤ 140737488355328) (k : Nat) (ih : WIH wp b M k)
  (op n : Int) (A : Option Addr) (c : Nat) (l : List S25) (level : Int) (acc : List UInt8) (w : World) (word : ByteArray) (lev : Int) (ben : Int) (ok : Bool)
  (hC : Kd.C k25 wp A l.length l) (hS : WS wp b acc w) (hof : tree_of.f op = some (word,lev,ben,ok)) (h1 : ¬ op = 1) (h2 : ¬ ben = 0) (h3 : ¬ op = 5) (h4 : ¬ op = 6) (h5 : ¬ op = 22) (h6 : ¬ lev = 8) (h7 : ¬ lev = 4) (t0 : List UInt8) (hk0 : kidText (tree_write.f k) l 0 (lev) = some t0) (t1 : List UInt8) (hk1 : kidText (tree_write.f k) l 1 (wrap64 (lev + 1)) = some t1)
  (zb6 : acc.length + (if lev < level then [40] ++ (t0 ++ ([32] ++ word.data.toList ++ [32]) ++ t1) ++ [41] else t0 ++ ([32] ++ word.data.toList ++ [32]) ++ t1).length ≤ M) : WR wp b w op n A c l level (acc ++ (if lev < level then [40] ++ (t0 ++ ([32] ++ word.data.toList ++ [32]) ++ t1) ++ [41] else t0 ++ ([32] ++ word.data.toList ++ [32]) ++ t1)) := by
 unfold WR;by_cases hin : lev < level
 case' pos => rw [if_pos hin] at zb6 ⊢;have zgk := decide_eq_true hin
 case' neg => rw [if_neg hin] at zb6 ⊢;have zgk := decide_eq_false hin
 all_goals
  have HO := am hof
  have HS := am hS
  have HR := am (Rest.refl b w)
  have HL := am zb6
  have hz0 : word.size ≤ 140737488355328 := (by have h_ := zb6;simp only [List.length_append,List.length_cons,List.length_nil,str_size,add_size,lit_size] at h_;omega)
  have hz1 : (9223372036854775807 < word.size + 1) = False := eq_false (by omega)
  have hz2 : (9223372036854775807 < 1 + word.size) = False := eq_false (by omega)
  have hz3 : (9223372036854775807 < 1 + word.size + 1) = False := eq_false (by omega)
  clear hz0
  obtain ⟨hl0,hf0⟩ := kid_some hk0
  have A0 := am hf0
  obtain ⟨ad,A0_,c0,e0,zck,zcl,zcm,kl0,kc0⟩ := at_T25 hC 0 (by omega) hl0
  cases e0
  (try rw [show ((0 : Int)).toNat = 0 from rfl] at zck);(try rw [show 0 * 3 = 0 from rfl] at zck);(try rw [Addr.add_zero'] at zck)
  have zbW := am zck
  (try rw [show ((0 : Int)).toNat = 0 from rfl] at zcl);(try rw [show 0 * 3 = 0 from rfl] at zcl);(try rw [Addr.add_zero'] at zcl)
  have zbX := am zcl
  (try rw [show ((0 : Int)).toNat = 0 from rfl] at zcm);(try rw [show 0 * 3 = 0 from rfl] at zcm);(try rw [Addr.add_zero'] at zcm)
  have zbY := am zcm
  have ki0 := am kc0
  have hl0' : (0 < l.length) = True := eq_true (by omega)
  obtain ⟨hl1,hf1⟩ := kid_some hk1
  have A1 := am hf1
  obtain ⟨ad1,A1_,c1,e1,zd1,zd2,zd3,kl1,kc1⟩ := at_T25 hC 1 (by omega) hl1
  obtain rfl : ad = ad1 := by injection e1
  (try simp only [show (1 : Int).toNat = 1 from rfl,Nat.reduceMul,Nat.reduceEqDiff,Go.Addr.add,↓reduceIte] at zd1)
  have zco := am zd1
  (try simp only [show (1 : Int).toNat = 1 from rfl,Nat.reduceMul,Nat.reduceEqDiff,Go.Addr.add,↓reduceIte] at zd2)
  have zcp := am zd2
  (try simp only [show (1 : Int).toNat = 1 from rfl,Nat.reduceMul,Nat.reduceEqDiff,Go.Addr.add,↓reduceIte] at zd3)
  have zcq := am zd3
  have ki1 := am kc1
  have hl1' : (1 < l.length) = True := eq_true (by omega)
  clear hof hS zb6 hC hk0 hf0 zck zcl zcm kc0 kl0 hk1 hf1 zd1 zd2 zd3 kc1 kl1
  go_enter Tryd.func37,Tryd.ntmps37
  go_wp2_with (first | ((with_reducible refine gate_dst (N := 4) rfl ?_);refine box_event ?hg (N := 4) ?hd (cs := #[.int .i64 op,.int .i64 n,.slice (some ad) l.length c]) (t := 25) ?hr ?_;(case hd => rfl);(case hg => rfl);(case hr => (go_simp;try rfl));intro gn hg w1 zan hb;have NEn := am ((by rw [hg];exact Nat.ne_of_gt HS.out.lt) : gn ≠ b);have GEn := am ((by rw [hg];exact HS.out.hB.size) : wp.heap.size ≤ gn);replace HR := am (HR.out.trans (Rest.of_below hb));replace HS := am (HS.out.below hb);clear hb;have zaR := pcb HS.out.hB zbW.out;have zaS := pcb HS.out.hB zbX.out;have zaT := pcb HS.out.hB zbY.out;have zaW := pcb HS.out.hB zco.out;have zaX := pcb HS.out.hB zcp.out;have zaY := pcb HS.out.hB zcq.out;clear zaR zaS zaT zaW zaX zaY;have HN := am zan;clear zan hg;obtain ⟨hn0,hm0,hn1,hm1,hn2,hm2⟩ := cells3 HN.out;have zaR := pcb HS.out.hB zbW.out;have zaS := pcb HS.out.hB zbX.out;have zaT := pcb HS.out.hB zbY.out;have zaW := pcb HS.out.hB zco.out;have zaX := pcb HS.out.hB zcp.out;have zaY := pcb HS.out.hB zcq.out) | ((with_reducible refine (tree_of.calls op word lev ben ok _ HO.out).mono ?_);rintro e w2 ⟨rfl,hb⟩;clear hn0 hm0 hn1 hm1 hn2 hm2 zaR zaS zaT zaW zaX zaY;replace HN := am (blk_below HN.out hb);replace HR := am (HR.out.trans (Rest.of_below hb));replace HS := am (HS.out.below hb);clear hb;obtain ⟨hn0,hm0,hn1,hm1,hn2,hm2⟩ := cells3 HN.out;have zaR := pcb HS.out.hB zbW.out;have zaS := pcb HS.out.hB zbX.out;have zaT := pcb HS.out.hB zbY.out;have zaW := pcb HS.out.hB zco.out;have zaX := pcb HS.out.hB zcp.out;have zaY := pcb HS.out.hB zcq.out) | ((with_reducible refine gate_dst (N := 6) rfl ?_);refine box_event ?hg (N := 6) ?hd (cs := #[.string ⟨#[]⟩,.int .i64 0,.int .i64 0]) (t := 85) ?hr ?_;(case hd => rfl);(case hg => rfl);(case hr => (go_simp;try rfl));intro gx hg w3 zan hb;have NEx := am ((by rw [hg];exact Nat.ne_of_gt HS.out.lt) : gx ≠ b);have GEx := am ((by rw [hg];exact HS.out.hB.size) : wp.heap.size ≤ gx);have GWx := am ((by rw [hg];exact HR.out.1) : w.heap.size ≤ gx);have zgl := am ((by rw [hg];exact Nat.ne_of_lt (blk_lt HN.out)) : gn ≠ gx);clear hn0 hm0 hn1 hm1 hn2 hm2 zaR zaS zaT zaW zaX zaY;replace HN := am (blk_below HN.out hb);replace HR := am (HR.out.trans (Rest.of_below hb));replace HS := am (HS.out.below hb);clear hb;obtain ⟨hn0,hm0,hn1,hm1,hn2,hm2⟩ := cells3 HN.out;have zaR := pcb HS.out.hB zbW.out;have zaS := pcb HS.out.hB zbX.out;have zaT := pcb HS.out.hB zbY.out;have zaW := pcb HS.out.hB zco.out;have zaX := pcb HS.out.hB zcp.out;have zaY := pcb HS.out.hB zcq.out;clear hn0 hm0 hn1 hm1 hn2 hm2 zaR zaS zaT zaW zaX zaY;have HX := am zan;clear zan hg;obtain ⟨hn0,hm0,hn1,hm1,hn2,hm2⟩ := cells3 HN.out;obtain ⟨hx0,hy0,hx1,hy1,hx2,hy2⟩ := cells3 HX.out;have zaR := pcb HS.out.hB zbW.out;have zaS := pcb HS.out.hB zbX.out;have zaT := pcb HS.out.hB zbY.out;have zaW := pcb HS.out.hB zco.out;have zaX := pcb HS.out.hB zcp.out;have zaY := pcb HS.out.hB zcq.out) | ((with_reducible refine gate_store (t := 85) (p := 6) rfl ?_);refine store3_event (b := gx) (y0 := .string word) (y1 := .int .i64 lev) (y2 := .int .i64 ben) ?hgd ?hN ?hr HX.out ?_;(case hgd => rfl);(case hN => rfl);(case hr => (obtain ⟨q0_,f0_,q1_,f1_,q2_,f2_⟩ := cells3 HX.out;go_simp;try rfl));intro w4 hx hk zax;clear hn0 hm0 hn1 hm1 hn2 hm2 hx0 hy0 hx1 hy1 hx2 hy2 zaR zaS zaT zaW zaX zaY;replace HN := am (blk_kept HN.out hk zgl.out);replace HS := am (HS.out.kept HX.out (by decide) NEx.out hk (zax _ HS.out.hB GEx.out));replace HR := am (HR.out.kept GWx.out hk);replace HX := am hx;clear hx hk zax;obtain ⟨hn0,hm0,hn1,hm1,hn2,hm2⟩ := cells3 HN.out;obtain ⟨hx0,hy0,hx1,hy1,hx2,hy2⟩ := cells3 HX.out;have zaR := pcb HS.out.hB zbW.out;have zaS := pcb HS.out.hB zbX.out;have zaT := pcb HS.out.hB zbY.out;have zaW := pcb HS.out.hB zco.out;have zaX := pcb HS.out.hB zcp.out;have zaY := pcb HS.out.hB zcq.out) | ((with_reducible refine (wsl_calls HS.out _ (Nat.le_trans (by have h_ := HL.out;simp only [List.length_append,List.length_cons,List.length_nil,str_size,add_size,lit_size] at h_ ⊢;omega) hM)).mono ?_);rintro e w5 ⟨rfl,hs,hr⟩;clear hn0 hm0 hn1 hm1 hn2 hm2 hx0 hy0 hx1 hy1 hx2 hy2 zaR zaS zaT zaW zaX zaY;replace HN := am (hr.2 _ _ _ _ NEn.out HN.out (by decide));replace HX := am (hr.2 _ _ _ _ NEx.out HX.out (by decide));replace HR := am (HR.out.trans hr);replace HS := am hs;clear hs hr;obtain ⟨hn0,hm0,hn1,hm1,hn2,hm2⟩ := cells3 HN.out;obtain ⟨hx0,hy0,hx1,hy1,hx2,hy2⟩ := cells3 HX.out;have zaR := pcb HS.out.hB zbW.out;have zaS := pcb HS.out.hB zbX.out;have zaT := pcb HS.out.hB zbY.out;have zaW := pcb HS.out.hB zco.out;have zaX := pcb HS.out.hB zcp.out;have zaY := pcb HS.out.hB zcq.out) | ((with_reducible refine (ih _ _ _ _ _ _ _ _ _ ki0.out HS.out A0.out (by have h_ := HL.out;simp only [List.length_append,List.length_cons,List.length_nil,str_size,add_size,lit_size] at h_ ⊢;omega)).mono ?_);rintro e w6 ⟨rfl,hs,hr⟩;clear hn0 hm0 hn1 hm1 hn2 hm2 hx0 hy0 hx1 hy1 hx2 hy2 zaR zaS zaT zaW zaX zaY;replace HN := am (hr.2 _ _ _ _ NEn.out HN.out (by decide));replace HX := am (hr.2 _ _ _ _ NEx.out HX.out (by decide));replace HR := am (HR.out.trans hr);replace HS := am hs;clear hs hr;obtain ⟨hn0,hm0,hn1,hm1,hn2,hm2⟩ := cells3 HN.out;obtain ⟨hx0,hy0,hx1,hy1,hx2,hy2⟩ := cells3 HX.out;have zaR := pcb HS.out.hB zbW.out;have zaS := pcb HS.out.hB zbX.out;have zaT := pcb HS.out.hB zbY.out;have zaW := pcb HS.out.hB zco.out;have zaX := pcb HS.out.hB zcp.out;have zaY := pcb HS.out.hB zcq.out) | ((with_reducible refine (ih _ _ _ _ _ _ _ _ _ ki1.out HS.out A1.out (by have h_ := HL.out;simp only [List.length_append,List.length_cons,List.length_nil,str_size,add_size,lit_size] at h_ ⊢;omega)).mono ?_);rintro e w7 ⟨rfl,hs,hr⟩;clear hn0 hm0 hn1 hm1 hn2 hm2 hx0 hy0 hx1 hy1 hx2 hy2 zaR zaS zaT zaW zaX zaY;replace HN := am (hr.2 _ _ _ _ NEn.out HN.out (by decide));replace HX := am (hr.2 _ _ _ _ NEx.out HX.out (by decide));replace HR := am (HR.out.trans hr);replace HS := am hs;clear hs hr;obtain ⟨hn0,hm0,hn1,hm1,hn2,hm2⟩ := cells3 HN.out;obtain ⟨hx0,hy0,hx1,hy1,hx2,hy2⟩ := cells3 HX.out;have zaR := pcb HS.out.hB zbW.out;have zaS := pcb HS.out.hB zbX.out;have zaT := pcb HS.out.hB zbY.out;have zaW := pcb HS.out.hB zco.out;have zaX := pcb HS.out.hB zcp.out;have zaY := pcb HS.out.hB zcq.out) | ((with_reducible refine (ws_calls HS.out _ (Nat.le_trans (by have h_ := HL.out;simp only [List.length_append,List.length_cons,List.length_nil,str_size,add_size,lit_size] at h_ ⊢;omega) hM)).mono ?_);rintro e w8 ⟨rfl,hs,hr⟩;clear hn0 hm0 hn1 hm1 hn2 hm2 hx0 hy0 hx1 hy1 hx2 hy2 zaR zaS zaT zaW zaX zaY;replace HN := am (hr.2 _ _ _ _ NEn.out HN.out (by decide));replace HX := am (hr.2 _ _ _ _ NEx.out HX.out (by decide));replace HR := am (HR.out.trans hr);replace HS := am hs;clear hs hr;obtain ⟨hn0,hm0,hn1,hm1,hn2,hm2⟩ := cells3 HN.out;obtain ⟨hx0,hy0,hx1,hy1,hx2,hy2⟩ := cells3 HX.out;have zaR := pcb HS.out.hB zbW.out;have zaS := pcb HS.out.hB zbX.out;have zaT := pcb HS.out.hB zbY.out;have zaW := pcb HS.out.hB zco.out;have zaX := pcb HS.out.hB zcp.out;have zaY := pcb HS.out.hB zcq.out))
  have hw5 : IntKind.i64.wrap (lev + 1) = wrap64 (lev + 1) := by first | exact IntKind.wrap_i64 _ | (rw [IntKind.wrap_i64];rfl) | (unfold wrap64;rw [IntKind.wrap_i64])
  go_region_with (go_at_call 37;(try rw [hw5]);(with_reducible refine (ih _ _ _ _ _ _ _ _ _ ki1.out HS.out.drew A1.out (by have h_ := HL.out;simp only [List.length_append,List.length_cons,List.length_nil,str_size,add_size,lit_size] at h_ ⊢;omega)).mono ?_);rintro e w8 ⟨rfl,hs,hr⟩)
  all_goals (replace HR := am (HR.out.drew.trans hr);replace HS := am hs;clear hs hr;(go_wp2_with (first | ((with_reducible refine (wsl_calls HS.out _ (Nat.le_trans (by have h_ := HL.out;simp only [List.length_append,List.length_cons,List.length_nil,str_size,add_size,lit_size] at h_ ⊢;omega) hM)).mono ?_);rintro e w9 ⟨rfl,hs,hr⟩;replace HR := am (HR.out.trans hr);replace HS := am hs)));go_end0;refine ⟨rfl,?_,HR.out⟩;have h_ := HS.out;simpa [add_str] using h_)
theorem write_if (wp : World) (b : Nat) (htab : Lib.TabBelow Tryd.prog wp.heap.size wp "internal/strconv.uint64pow10" .u64 Lib.pow10Tab) (M : Nat) (hM : M ≤ 140737488355328) (k : Nat) (ih : WIH wp b M k)
  (op n : Int) (A : Option Addr) (c : Nat) (l : List S25) (level : Int) (acc : List UInt8) (w : World) (word : ByteArray) (lev : Int) (ben : Int) (ok : Bool)
  (hC : Kd.C k25 wp A l.length l) (hS : WS wp b acc w) (hof : tree_of.f 22 = some (word,lev,ben,ok)) (h2 : ¬ ben = 0) (t0 : List UInt8) (hk0 : kidText (tree_write.f k) l 0 (1) = some t0) (t1 : List UInt8) (hk1 : kidText (tree_write.f k) l 1 (1) = some t1) (t2 : List UInt8) (hk2 : kidText (tree_write.f k) l 2 (1) = some t2)
  (zb6 : acc.length + (if lev < level then [40] ++ ([105,102,32] ++ t0 ++ [32,116,104,101,110,32] ++ t1 ++ [32,101,108,115,101,32] ++ t2 ++ [32,101,110,100]) ++ [41] else [105,102,32] ++ t0 ++ [32,116,104,101,110,32] ++ t1 ++ [32,101,108,115,101,32] ++ t2 ++ [32,101,110,100]).length ≤ M) : WR wp b w 22 n A c l level (acc ++ (if lev < level then [40] ++ ([105,102,32] ++ t0 ++ [32,116,104,101,110,32] ++ t1 ++ [32,101,108,115,101,32] ++ t2 ++ [32,101,110,100]) ++ [41] else [105,102,32] ++ t0 ++ [32,116,104,101,110,32] ++ t1 ++ [32,101,108,115,101,32] ++ t2 ++ [32,101,110,100])) := by
 unfold WR;by_cases hin : lev < level
 case' pos => rw [if_pos hin] at zb6 ⊢;have zgk := decide_eq_true hin
 case' neg => rw [if_neg hin] at zb6 ⊢;have zgk := decide_eq_false hin
 all_goals
  have HO := am hof
  have HS := am hS
  have HR := am (Rest.refl b w)
  have HL := am zb6
  obtain ⟨hl0,hf0⟩ := kid_some hk0
  have A0 := am hf0
  obtain ⟨ad,A0_,c0,e0,zck,zcl,zcm,kl0,kc0⟩ := at_T25 hC 0 (by omega) hl0
  cases e0
  (try rw [show ((0 : Int)).toNat = 0 from rfl] at zck);(try rw [show 0 * 3 = 0 from rfl] at zck);(try rw [Addr.add_zero'] at zck)
  have zbW := am zck
  (try rw [show ((0 : Int)).toNat = 0 from rfl] at zcl);(try rw [show 0 * 3 = 0 from rfl] at zcl);(try rw [Addr.add_zero'] at zcl)
  have zbX := am zcl
  (try rw [show ((0 : Int)).toNat = 0 from rfl] at zcm);(try rw [show 0 * 3 = 0 from rfl] at zcm);(try rw [Addr.add_zero'] at zcm)
  have zbY := am zcm
  have ki0 := am kc0
  have hl0' : (0 < l.length) = True := eq_true (by omega)
  obtain ⟨hl1,hf1⟩ := kid_some hk1
  have A1 := am hf1
  obtain ⟨ad1,A1_,c1,e1,zd1,zd2,zd3,kl1,kc1⟩ := at_T25 hC 1 (by omega) hl1
  obtain rfl : ad = ad1 := by injection e1
  (try simp only [show (1 : Int).toNat = 1 from rfl,Nat.reduceMul,Nat.reduceEqDiff,Go.Addr.add,↓reduceIte] at zd1)
  have zco := am zd1
  (try simp only [show (1 : Int).toNat = 1 from rfl,Nat.reduceMul,Nat.reduceEqDiff,Go.Addr.add,↓reduceIte] at zd2)
  have zcp := am zd2
  (try simp only [show (1 : Int).toNat = 1 from rfl,Nat.reduceMul,Nat.reduceEqDiff,Go.Addr.add,↓reduceIte] at zd3)
  have zcq := am zd3
  have ki1 := am kc1
  have hl1' : (1 < l.length) = True := eq_true (by omega)
  obtain ⟨hl2,hf2⟩ := kid_some hk2
  have A2 := am hf2
  obtain ⟨ad2,A2_,c2,e2,q2_0,q2_1,q2_2,kl2,kc2⟩ := at_T25 hC 2 (by omega) hl2
  obtain rfl : ad = ad2 := by injection e2
  (try simp only [show (2 : Int).toNat = 2 from rfl,Nat.reduceMul,Nat.reduceEqDiff,Go.Addr.add,↓reduceIte] at q2_0)
  have zfc := am q2_0
  (try simp only [show (2 : Int).toNat = 2 from rfl,Nat.reduceMul,Nat.reduceEqDiff,Go.Addr.add,↓reduceIte] at q2_1)
  have zfd := am q2_1
  (try simp only [show (2 : Int).toNat = 2 from rfl,Nat.reduceMul,Nat.reduceEqDiff,Go.Addr.add,↓reduceIte] at q2_2)
  have zfe := am q2_2
  have ki2 := am kc2
  have hl2' : (2 < l.length) = True := eq_true (by omega)
  clear hof hS zb6 hC hk0 hf0 zck zcl zcm kc0 kl0 hk1 hf1 zd1 zd2 zd3 kc1 kl1 hk2 hf2 q2_0 q2_1 q2_2 kc2 kl2
  go_enter Tryd.func37,Tryd.ntmps37
  go_wp2_with (first | ((with_reducible refine gate_dst (N := 4) rfl ?_);refine box_event ?hg (N := 4) ?hd (cs := #[.int .i64 22,.int .i64 n,.slice (some ad) l.length c]) (t := 25) ?hr ?_;(case hd => rfl);(case hg => rfl);(case hr => (go_simp;try rfl));intro gn hg w1 zan hb;have NEn := am ((by rw [hg];exact Nat.ne_of_gt HS.out.lt) : gn ≠ b);have GEn := am ((by rw [hg];exact HS.out.hB.size) : wp.heap.size ≤ gn);replace HR := am (HR.out.trans (Rest.of_below hb));replace HS := am (HS.out.below hb);clear hb;have zaR := pcb HS.out.hB zbW.out;have zaS := pcb HS.out.hB zbX.out;have zaT := pcb HS.out.hB zbY.out;have zaW := pcb HS.out.hB zco.out;have zaX := pcb HS.out.hB zcp.out;have zaY := pcb HS.out.hB zcq.out;have zb1 := pcb HS.out.hB zfc.out;have zb2 := pcb HS.out.hB zfd.out;have zb3 := pcb HS.out.hB zfe.out;clear zaR zaS zaT zaW zaX zaY zb1 zb2 zb3;have HN := am zan;clear zan hg;obtain ⟨hn0,hm0,hn1,hm1,hn2,hm2⟩ := cells3 HN.out;have zaR := pcb HS.out.hB zbW.out;have zaS := pcb HS.out.hB zbX.out;have zaT := pcb HS.out.hB zbY.out;have zaW := pcb HS.out.hB zco.out;have zaX := pcb HS.out.hB zcp.out;have zaY := pcb HS.out.hB zcq.out;have zb1 := pcb HS.out.hB zfc.out;have zb2 := pcb HS.out.hB zfd.out;have zb3 := pcb HS.out.hB zfe.out) | ((with_reducible refine (tree_of.calls 22 word lev ben ok _ HO.out).mono ?_);rintro e w2 ⟨rfl,hb⟩;clear hn0 hm0 hn1 hm1 hn2 hm2 zaR zaS zaT zaW zaX zaY zb1 zb2 zb3;replace HN := am (blk_below HN.out hb);replace HR := am (HR.out.trans (Rest.of_below hb));replace HS := am (HS.out.below hb);clear hb;obtain ⟨hn0,hm0,hn1,hm1,hn2,hm2⟩ := cells3 HN.out;have zaR := pcb HS.out.hB zbW.out;have zaS := pcb HS.out.hB zbX.out;have zaT := pcb HS.out.hB zbY.out;have zaW := pcb HS.out.hB zco.out;have zaX := pcb HS.out.hB zcp.out;have zaY := pcb HS.out.hB zcq.out;have zb1 := pcb HS.out.hB zfc.out;have zb2 := pcb HS.out.hB zfd.out;have zb3 := pcb HS.out.hB zfe.out) | ((with_reducible refine gate_dst (N := 6) rfl ?_);refine box_event ?hg (N := 6) ?hd (cs := #[.string ⟨#[]⟩,.int .i64 0,.int .i64 0]) (t := 85) ?hr ?_;(case hd => rfl);(case hg => rfl);(case hr => (go_simp;try rfl));intro gx hg w3 zan hb;have NEx := am ((by rw [hg];exact Nat.ne_of_gt HS.out.lt) : gx ≠ b);have GEx := am ((by rw [hg];exact HS.out.hB.size) : wp.heap.size ≤ gx);have GWx := am ((by rw [hg];exact HR.out.1) : w.heap.size ≤ gx);have zgl := am ((by rw [hg];exact Nat.ne_of_lt (blk_lt HN.out)) : gn ≠ gx);clear hn0 hm0 hn1 hm1 hn2 hm2 zaR zaS zaT zaW zaX zaY zb1 zb2 zb3;replace HN := am (blk_below HN.out hb);replace HR := am (HR.out.trans (Rest.of_below hb));replace HS := am (HS.out.below hb);clear hb;obtain ⟨hn0,hm0,hn1,hm1,hn2,hm2⟩ := cells3 HN.out;have zaR := pcb HS.out.hB zbW.out;have zaS := pcb HS.out.hB zbX.out;have zaT := pcb HS.out.hB zbY.out;have zaW := pcb HS.out.hB zco.out;have zaX := pcb HS.out.hB zcp.out;have zaY := pcb HS.out.hB zcq.out;have zb1 := pcb HS.out.hB zfc.out;have zb2 := pcb HS.out.hB zfd.out;have zb3 := pcb HS.out.hB zfe.out;clear hn0 hm0 hn1 hm1 hn2 hm2 zaR zaS zaT zaW zaX zaY zb1 zb2 zb3;have HX := am zan;clear zan hg;obtain ⟨hn0,hm0,hn1,hm1,hn2,hm2⟩ := cells3 HN.out;obtain ⟨hx0,hy0,hx1,hy1,hx2,hy2⟩ := cells3 HX.out;have zaR := pcb HS.out.hB zbW.out;have zaS := pcb HS.out.hB zbX.out;have zaT := pcb HS.out.hB zbY.out;have zaW := pcb HS.out.hB zco.out;have zaX := pcb HS.out.hB zcp.out;have zaY := pcb HS.out.hB zcq.out;have zb1 := pcb HS.out.hB zfc.out;have zb2 := pcb HS.out.hB zfd.out;have zb3 := pcb HS.out.hB zfe.out) | ((with_reducible refine gate_store (t := 85) (p := 6) rfl ?_);refine store3_event (b := gx) (y0 := .string word) (y1 := .int .i64 lev) (y2 := .int .i64 ben) ?hgd ?hN ?hr HX.out ?_;(case hgd => rfl);(case hN => rfl);(case hr => (obtain ⟨q0_,f0_,q1_,f1_,q2_,f2_⟩ := cells3 HX.out;go_simp;try rfl));intro w4 hx hk zax;clear hn0 hm0 hn1 hm1 hn2 hm2 hx0 hy0 hx1 hy1 hx2 hy2 zaR zaS zaT zaW zaX zaY zb1 zb2 zb3;replace HN := am (blk_kept HN.out hk zgl.out);replace HS := am (HS.out.kept HX.out (by decide) NEx.out hk (zax _ HS.out.hB GEx.out));replace HR := am (HR.out.kept GWx.out hk);replace HX := am hx;clear hx hk zax;obtain ⟨hn0,hm0,hn1,hm1,hn2,hm2⟩ := cells3 HN.out;obtain ⟨hx0,hy0,hx1,hy1,hx2,hy2⟩ := cells3 HX.out;have zaR := pcb HS.out.hB zbW.out;have zaS := pcb HS.out.hB zbX.out;have zaT := pcb HS.out.hB zbY.out;have zaW := pcb HS.out.hB zco.out;have zaX := pcb HS.out.hB zcp.out;have zaY := pcb HS.out.hB zcq.out;have zb1 := pcb HS.out.hB zfc.out;have zb2 := pcb HS.out.hB zfd.out;have zb3 := pcb HS.out.hB zfe.out) | ((with_reducible refine (wsl_calls HS.out _ (Nat.le_trans (by have h_ := HL.out;simp only [List.length_append,List.length_cons,List.length_nil,str_size,add_size,lit_size] at h_ ⊢;omega) hM)).mono ?_);rintro e w5 ⟨rfl,hs,hr⟩;clear hn0 hm0 hn1 hm1 hn2 hm2 hx0 hy0 hx1 hy1 hx2 hy2 zaR zaS zaT zaW zaX zaY zb1 zb2 zb3;replace HN := am (hr.2 _ _ _ _ NEn.out HN.out (by decide));replace HX := am (hr.2 _ _ _ _ NEx.out HX.out (by decide));replace HR := am (HR.out.trans hr);replace HS := am hs;clear hs hr;obtain ⟨hn0,hm0,hn1,hm1,hn2,hm2⟩ := cells3 HN.out;obtain ⟨hx0,hy0,hx1,hy1,hx2,hy2⟩ := cells3 HX.out;have zaR := pcb HS.out.hB zbW.out;have zaS := pcb HS.out.hB zbX.out;have zaT := pcb HS.out.hB zbY.out;have zaW := pcb HS.out.hB zco.out;have zaX := pcb HS.out.hB zcp.out;have zaY := pcb HS.out.hB zcq.out;have zb1 := pcb HS.out.hB zfc.out;have zb2 := pcb HS.out.hB zfd.out;have zb3 := pcb HS.out.hB zfe.out) | ((with_reducible refine gate_dst (N := 98) rfl ?_);refine lit_row ?hg (cs := #[.string ⟨#[105,102,32]⟩,.string ⟨#[32,116,104,101,110,32]⟩,.string ⟨#[32,101,108,115,101,32]⟩]) (t := 9) ?hr ?_;(case hg => rfl);(case hr => (go_simp;try rfl));intro gl w6 hg zan hb;have NEl := am ((by rw [hg];exact Nat.ne_of_gt HS.out.lt) : gl ≠ b);clear hn0 hm0 hn1 hm1 hn2 hm2 hx0 hy0 hx1 hy1 hx2 hy2 zaR zaS zaT zaW zaX zaY zb1 zb2 zb3;replace HN := am (blk_below HN.out hb);replace HX := am (blk_below HX.out hb);replace HR := am (HR.out.trans (Rest.of_below hb));replace HS := am (HS.out.below hb);clear hb;obtain ⟨hn0,hm0,hn1,hm1,hn2,hm2⟩ := cells3 HN.out;obtain ⟨hx0,hy0,hx1,hy1,hx2,hy2⟩ := cells3 HX.out;have zaR := pcb HS.out.hB zbW.out;have zaS := pcb HS.out.hB zbX.out;have zaT := pcb HS.out.hB zbY.out;have zaW := pcb HS.out.hB zco.out;have zaX := pcb HS.out.hB zcp.out;have zaY := pcb HS.out.hB zcq.out;have zb1 := pcb HS.out.hB zfc.out;have zb2 := pcb HS.out.hB zfd.out;have zb3 := pcb HS.out.hB zfe.out;clear hn0 hm0 hn1 hm1 hn2 hm2 hx0 hy0 hx1 hy1 hx2 hy2 zaR zaS zaT zaW zaX zaY zb1 zb2 zb3;have HW := am zan;clear zan hg;obtain ⟨hn0,hm0,hn1,hm1,hn2,hm2⟩ := cells3 HN.out;obtain ⟨hx0,hy0,hx1,hy1,hx2,hy2⟩ := cells3 HX.out;obtain ⟨hw0,hv0,hw1,hv1,hw2,hv2⟩ := cells3 HW.out;have zaR := pcb HS.out.hB zbW.out;have zaS := pcb HS.out.hB zbX.out;have zaT := pcb HS.out.hB zbY.out;have zaW := pcb HS.out.hB zco.out;have zaX := pcb HS.out.hB zcp.out;have zaY := pcb HS.out.hB zcq.out;have zb1 := pcb HS.out.hB zfc.out;have zb2 := pcb HS.out.hB zfd.out;have zb3 := pcb HS.out.hB zfe.out))
  refine wp_loop_rounds 4 ?_
  rw [rounds_succ]
  go_wp2_with (first | ((with_reducible refine (wsl_calls HS.out _ (Nat.le_trans (by have h_ := HL.out;simp only [List.length_append,List.length_cons,List.length_nil,str_size,add_size,lit_size] at h_ ⊢;omega) hM)).mono ?_);rintro e w7 ⟨rfl,hs,hr⟩;clear hn0 hm0 hn1 hm1 hn2 hm2 hx0 hy0 hx1 hy1 hx2 hy2 hw0 hv0 hw1 hv1 hw2 hv2 zaR zaS zaT zaW zaX zaY zb1 zb2 zb3;replace HN := am (hr.2 _ _ _ _ NEn.out HN.out (by decide));replace HX := am (hr.2 _ _ _ _ NEx.out HX.out (by decide));replace HW := am (hr.2 _ _ _ _ NEl.out HW.out (by decide));replace HR := am (HR.out.trans hr);replace HS := am hs;clear hs hr;obtain ⟨hn0,hm0,hn1,hm1,hn2,hm2⟩ := cells3 HN.out;obtain ⟨hx0,hy0,hx1,hy1,hx2,hy2⟩ := cells3 HX.out;obtain ⟨hw0,hv0,hw1,hv1,hw2,hv2⟩ := cells3 HW.out;have zaR := pcb HS.out.hB zbW.out;have zaS := pcb HS.out.hB zbX.out;have zaT := pcb HS.out.hB zbY.out;have zaW := pcb HS.out.hB zco.out;have zaX := pcb HS.out.hB zcp.out;have zaY := pcb HS.out.hB zcq.out;have zb1 := pcb HS.out.hB zfc.out;have zb2 := pcb HS.out.hB zfd.out;have zb3 := pcb HS.out.hB zfe.out) | ((with_reducible refine (ih _ _ _ _ _ _ _ _ _ ki0.out HS.out A0.out (by have h_ := HL.out;simp only [List.length_append,List.length_cons,List.length_nil,str_size,add_size,lit_size] at h_ ⊢;omega)).mono ?_);rintro e w8 ⟨rfl,hs,hr⟩;clear hn0 hm0 hn1 hm1 hn2 hm2 hx0 hy0 hx1 hy1 hx2 hy2 hw0 hv0 hw1 hv1 hw2 hv2 zaR zaS zaT zaW zaX zaY zb1 zb2 zb3;replace HN := am (hr.2 _ _ _ _ NEn.out HN.out (by decide));replace HX := am (hr.2 _ _ _ _ NEx.out HX.out (by decide));replace HW := am (hr.2 _ _ _ _ NEl.out HW.out (by decide));replace HR := am (HR.out.trans hr);replace HS := am hs;clear hs hr;obtain ⟨hn0,hm0,hn1,hm1,hn2,hm2⟩ := cells3 HN.out;obtain ⟨hx0,hy0,hx1,hy1,hx2,hy2⟩ := cells3 HX.out;obtain ⟨hw0,hv0,hw1,hv1,hw2,hv2⟩ := cells3 HW.out;have zaR := pcb HS.out.hB zbW.out;have zaS := pcb HS.out.hB zbX.out;have zaT := pcb HS.out.hB zbY.out;have zaW := pcb HS.out.hB zco.out;have zaX := pcb HS.out.hB zcp.out;have zaY := pcb HS.out.hB zcq.out;have zb1 := pcb HS.out.hB zfc.out;have zb2 := pcb HS.out.hB zfd.out;have zb3 := pcb HS.out.hB zfe.out))
  rw [rounds_succ]
  go_wp2_with (first | ((with_reducible refine (wsl_calls HS.out _ (Nat.le_trans (by have h_ := HL.out;simp only [List.length_append,List.length_cons,List.length_nil,str_size,add_size,lit_size] at h_ ⊢;omega) hM)).mono ?_);rintro e w9 ⟨rfl,hs,hr⟩;clear hn0 hm0 hn1 hm1 hn2 hm2 hx0 hy0 hx1 hy1 hx2 hy2 hw0 hv0 hw1 hv1 hw2 hv2 zaR zaS zaT zaW zaX zaY zb1 zb2 zb3;replace HN := am (hr.2 _ _ _ _ NEn.out HN.out (by decide));replace HX := am (hr.2 _ _ _ _ NEx.out HX.out (by decide));replace HW := am (hr.2 _ _ _ _ NEl.out HW.out (by decide));replace HR := am (HR.out.trans hr);replace HS := am hs;clear hs hr;obtain ⟨hn0,hm0,hn1,hm1,hn2,hm2⟩ := cells3 HN.out;obtain ⟨hx0,hy0,hx1,hy1,hx2,hy2⟩ := cells3 HX.out;obtain ⟨hw0,hv0,hw1,hv1,hw2,hv2⟩ := cells3 HW.out;have zaR := pcb HS.out.hB zbW.out;have zaS := pcb HS.out.hB zbX.out;have zaT := pcb HS.out.hB zbY.out;have zaW := pcb HS.out.hB zco.out;have zaX := pcb HS.out.hB zcp.out;have zaY := pcb HS.out.hB zcq.out;have zb1 := pcb HS.out.hB zfc.out;have zb2 := pcb HS.out.hB zfd.out;have zb3 := pcb HS.out.hB zfe.out) | ((with_reducible refine (ih _ _ _ _ _ _ _ _ _ ki1.out HS.out A1.out (by have h_ := HL.out;simp only [List.length_append,List.length_cons,List.length_nil,str_size,add_size,lit_size] at h_ ⊢;omega)).mono ?_);rintro e w10 ⟨rfl,hs,hr⟩;clear hn0 hm0 hn1 hm1 hn2 hm2 hx0 hy0 hx1 hy1 hx2 hy2 hw0 hv0 hw1 hv1 hw2 hv2 zaR zaS zaT zaW zaX zaY zb1 zb2 zb3;replace HN := am (hr.2 _ _ _ _ NEn.out HN.out (by decide));replace HX := am (hr.2 _ _ _ _ NEx.out HX.out (by decide));replace HW := am (hr.2 _ _ _ _ NEl.out HW.out (by decide));replace HR := am (HR.out.trans hr);replace HS := am hs;clear hs hr;obtain ⟨hn0,hm0,hn1,hm1,hn2,hm2⟩ := cells3 HN.out;obtain ⟨hx0,hy0,hx1,hy1,hx2,hy2⟩ := cells3 HX.out;obtain ⟨hw0,hv0,hw1,hv1,hw2,hv2⟩ := cells3 HW.out;have zaR := pcb HS.out.hB zbW.out;have zaS := pcb HS.out.hB zbX.out;have zaT := pcb HS.out.hB zbY.out;have zaW := pcb HS.out.hB zco.out;have zaX := pcb HS.out.hB zcp.out;have zaY := pcb HS.out.hB zcq.out;have zb1 := pcb HS.out.hB zfc.out;have zb2 := pcb HS.out.hB zfd.out;have zb3 := pcb HS.out.hB zfe.out))
  rw [rounds_succ]
  go_wp2_with (first | ((with_reducible refine (wsl_calls HS.out _ (Nat.le_trans (by have h_ := HL.out;simp only [List.length_append,List.length_cons,List.length_nil,str_size,add_size,lit_size] at h_ ⊢;omega) hM)).mono ?_);rintro e w11 ⟨rfl,hs,hr⟩;clear hn0 hm0 hn1 hm1 hn2 hm2 hx0 hy0 hx1 hy1 hx2 hy2 hw0 hv0 hw1 hv1 hw2 hv2 zaR zaS zaT zaW zaX zaY zb1 zb2 zb3;replace HN := am (hr.2 _ _ _ _ NEn.out HN.out (by decide));replace HX := am (hr.2 _ _ _ _ NEx.out HX.out (by decide));replace HW := am (hr.2 _ _ _ _ NEl.out HW.out (by decide));replace HR := am (HR.out.trans hr);replace HS := am hs;clear hs hr;obtain ⟨hn0,hm0,hn1,hm1,hn2,hm2⟩ := cells3 HN.out;obtain ⟨hx0,hy0,hx1,hy1,hx2,hy2⟩ := cells3 HX.out;obtain ⟨hw0,hv0,hw1,hv1,hw2,hv2⟩ := cells3 HW.out;have zaR := pcb HS.out.hB zbW.out;have zaS := pcb HS.out.hB zbX.out;have zaT := pcb HS.out.hB zbY.out;have zaW := pcb HS.out.hB zco.out;have zaX := pcb HS.out.hB zcp.out;have zaY := pcb HS.out.hB zcq.out;have zb1 := pcb HS.out.hB zfc.out;have zb2 := pcb HS.out.hB zfd.out;have zb3 := pcb HS.out.hB zfe.out) | ((with_reducible refine (ih _ _ _ _ _ _ _ _ _ ki2.out HS.out A2.out (by have h_ := HL.out;simp only [List.length_append,List.length_cons,List.length_nil,str_size,add_size,lit_size] at h_ ⊢;omega)).mono ?_);rintro e w12 ⟨rfl,hs,hr⟩;clear hn0 hm0 hn1 hm1 hn2 hm2 hx0 hy0 hx1 hy1 hx2 hy2 hw0 hv0 hw1 hv1 hw2 hv2 zaR zaS zaT zaW zaX zaY zb1 zb2 zb3;replace HN := am (hr.2 _ _ _ _ NEn.out HN.out (by decide));replace HX := am (hr.2 _ _ _ _ NEx.out HX.out (by decide));replace HW := am (hr.2 _ _ _ _ NEl.out HW.out (by decide));replace HR := am (HR.out.trans hr);replace HS := am hs;clear hs hr;obtain ⟨hn0,hm0,hn1,hm1,hn2,hm2⟩ := cells3 HN.out;obtain ⟨hx0,hy0,hx1,hy1,hx2,hy2⟩ := cells3 HX.out;obtain ⟨hw0,hv0,hw1,hv1,hw2,hv2⟩ := cells3 HW.out;have zaR := pcb HS.out.hB zbW.out;have zaS := pcb HS.out.hB zbX.out;have zaT := pcb HS.out.hB zbY.out;have zaW := pcb HS.out.hB zco.out;have zaX := pcb HS.out.hB zcp.out;have zaY := pcb HS.out.hB zcq.out;have zb1 := pcb HS.out.hB zfc.out;have zb2 := pcb HS.out.hB zfd.out;have zb3 := pcb HS.out.hB zfe.out))
  rw [rounds_succ]
  go_wp2_with (first | ((with_reducible refine (wsl_calls HS.out _ (Nat.le_trans (by have h_ := HL.out;simp only [List.length_append,List.length_cons,List.length_nil,str_size,add_size,lit_size] at h_ ⊢;omega) hM)).mono ?_);rintro e w13 ⟨rfl,hs,hr⟩;clear hn0 hm0 hn1 hm1 hn2 hm2 hx0 hy0 hx1 hy1 hx2 hy2 hw0 hv0 hw1 hv1 hw2 hv2 zaR zaS zaT zaW zaX zaY zb1 zb2 zb3;replace HN := am (hr.2 _ _ _ _ NEn.out HN.out (by decide));replace HX := am (hr.2 _ _ _ _ NEx.out HX.out (by decide));replace HW := am (hr.2 _ _ _ _ NEl.out HW.out (by decide));replace HR := am (HR.out.trans hr);replace HS := am hs;clear hs hr;obtain ⟨hn0,hm0,hn1,hm1,hn2,hm2⟩ := cells3 HN.out;obtain ⟨hx0,hy0,hx1,hy1,hx2,hy2⟩ := cells3 HX.out;obtain ⟨hw0,hv0,hw1,hv1,hw2,hv2⟩ := cells3 HW.out;have zaR := pcb HS.out.hB zbW.out;have zaS := pcb HS.out.hB zbX.out;have zaT := pcb HS.out.hB zbY.out;have zaW := pcb HS.out.hB zco.out;have zaX := pcb HS.out.hB zcp.out;have zaY := pcb HS.out.hB zcq.out;have zb1 := pcb HS.out.hB zfc.out;have zb2 := pcb HS.out.hB zfd.out;have zb3 := pcb HS.out.hB zfe.out))
  go_end0
  refine ⟨rfl,?_,HR.out⟩
  have h_ := HS.out
  simpa [add_str] using h_
end Go.Proofs.YtgnmdhnlcibbiaaDoor.P
end
section
namespace Go.Proofs.YtgnmdhnlcibbiaaDoor.P
open Go.RowKit Go.Proofs.PrintWords Go.Proofs.PrintLast Go.Proofs.PrintMore
set_option linter.unusedVariables false
set_option linter.unusedSimpArgs false
theorem tab_on {w w2 : World} (h : Lib.TabBelow Tryd.prog w.heap.size w "internal/strconv.uint64pow10" .u64 Lib.pow10Tab) (hb : Below w.heap.size w w2) : Lib.TabBelow Tryd.prog w2.heap.size w2 "internal/strconv.uint64pow10" .u64 Lib.pow10Tab := fun w' h' => h w' (below_step hb h')
theorem tree_write.calls (wp : World) (b : Nat) (htab : Lib.TabBelow Tryd.prog wp.heap.size wp "internal/strconv.uint64pow10" .u64 Lib.pow10Tab) (M : Nat) (hM : M ≤ 140737488355328) : ∀ (k : Nat) (op n : Int) (A : Option Addr) (c : Nat) (l : List S25) (level : Int) (acc t : List UInt8) (w : World)
  (hC : Kd.C k25 wp A l.length l) (hS : WS wp b acc w) (h : tree_write.f k op n l level = some t) (zb6 : acc.length + t.length ≤ M),
  Calls Tryd.prog 37 #[.pointer (some ⟨b,0,none⟩),.agg #[.int .i64 op,.int .i64 n,.slice A l.length c],.int .i64 level] w fun e w' => e = .returned (.tuple #[]) ∧ WS wp b (acc ++ t) w' ∧ Rest b w w' := by
 intro k
 induction k with
 | zero => intro op n A c l level acc t w hC hS h;cases h
 | succ k ih =>
  intro op n A c l level acc t w hC hS h zb6
  unfold tree_write.f at h
  obtain ⟨⟨word,lev,ben,ok⟩,hof,h⟩ := Option.bind_eq_some_iff.mp h
  obtain ⟨t0,hbody,h⟩ := Option.bind_eq_some_iff.mp h
  simp only at hbody h
  unfold bodyText at hbody
  obtain rfl := Option.some.inj h
  by_cases h1 : op = 1
  ·subst h1
   rw [if_pos rfl] at hbody
   by_cases hn : -9223372036854775808 ≤ n ∧ n ≤ 9223372036854775807
   ·rw [if_pos hn] at hbody
    obtain rfl := Option.some.inj hbody
    exact write_num wp b htab M hM k ih 1 n A c l level acc w word lev ben ok hC hS hof hn zb6
   ·rw [if_neg hn] at hbody;cases hbody
  ·rw [if_neg h1] at hbody
   by_cases h2 : ben = 0
   ·rw [if_pos h2] at hbody
    obtain rfl := Option.some.inj hbody
    exact write_leaf wp b htab M hM k ih op n A c l level acc w word lev ben ok hC hS hof h1 h2 zb6
   ·rw [if_neg h2] at hbody
    by_cases h3 : op = 5
    ·subst h3
     rw [if_pos rfl] at hbody
     obtain ⟨a0,k0,hbody⟩ := Option.bind_eq_some_iff.mp hbody
     obtain rfl := Option.some.inj hbody
     exact write_neg wp b htab M hM k ih 5 n A c l level acc w word lev ben ok hC hS hof h2 a0 k0 zb6
    ·rw [if_neg h3] at hbody
     by_cases h4 : op = 6
     ·subst h4
      rw [if_pos rfl] at hbody
      obtain ⟨a0,k0,hbody⟩ := Option.bind_eq_some_iff.mp hbody
      obtain rfl := Option.some.inj hbody
      exact write_not wp b htab M hM k ih 6 n A c l level acc w word lev ben ok hC hS hof h2 a0 k0 zb6
     ·rw [if_neg h4] at hbody
      by_cases h5 : op = 22
      ·subst h5
       rw [if_pos rfl] at hbody
       obtain ⟨a0,k0,hbody⟩ := Option.bind_eq_some_iff.mp hbody
       obtain ⟨a1,k1,hbody⟩ := Option.bind_eq_some_iff.mp hbody
       obtain ⟨a2,k2,hbody⟩ := Option.bind_eq_some_iff.mp hbody
       obtain rfl := Option.some.inj hbody
       exact write_if wp b htab M hM k ih 22 n A c l level acc w word lev ben ok hC hS hof h2 a0 k0 a1 k1 a2 k2 zb6
      ·rw [if_neg h5] at hbody
       by_cases h6 : lev = 8
       ·subst h6
        rw [if_pos rfl] at hbody
        obtain ⟨a0,k0,hbody⟩ := Option.bind_eq_some_iff.mp hbody
        obtain ⟨a1,k1,hbody⟩ := Option.bind_eq_some_iff.mp hbody
        obtain rfl := Option.some.inj hbody
        exact write_call wp b htab M hM k ih op n A c l level acc w word ben ok hC hS hof h1 h2 h3 h4 h5 a0 k0 a1 k1 zb6
       ·rw [if_neg h6] at hbody
        by_cases h7 : lev = 4
        ·subst h7
         rw [if_pos rfl] at hbody
         obtain ⟨a0,k0,hbody⟩ := Option.bind_eq_some_iff.mp hbody
         obtain ⟨a1,k1,hbody⟩ := Option.bind_eq_some_iff.mp hbody
         obtain rfl := Option.some.inj hbody
         rw [show wrap64 (4 + 1) = 5 from by unfold wrap64;omega] at k0 k1
         exact write_four wp b htab M hM k ih op n A c l level acc w word ben ok hC hS hof h1 h2 h3 h4 h5 a0 k0 a1 k1 zb6
        ·rw [if_neg h7] at hbody
         obtain ⟨a0,k0,hbody⟩ := Option.bind_eq_some_iff.mp hbody
         obtain ⟨a1,k1,hbody⟩ := Option.bind_eq_some_iff.mp hbody
         obtain rfl := Option.some.inj hbody
         exact write_bin wp b htab M hM k ih op n A c l level acc w word lev ben ok hC hS hof h1 h2 h3 h4 h5 h6 h7 a0 k0 a1 k1 zb6
def tree_Print.f (k : Nat) (op n : Int) (l : List S25) : Option (ByteArray × Int) := (tree_Check.f k op n l).bind fun c => if c = 0 then ((tree_write.f k op n l 1).bind fun t => if t.length ≤ 140737488355328 ∧ t ≠ [] then some (⟨t.toArray⟩,0) else none) else some (⟨#[]⟩,1)
theorem tree_Print.calls (k : Nat) (op n : Int) (A : Option Addr) (c : Nat) (l : List S25) (r1 : ByteArray) (r2 : Int) (w : World) (hC : Kd.C k25 w A l.length l) (hc : l.length ≤ c) (h : tree_Print.f k op n l = some (r1,r2)) (htab : Lib.TabBelow Tryd.prog w.heap.size w "internal/strconv.uint64pow10" .u64 Lib.pow10Tab) :
  Calls Tryd.prog 17 #[.agg #[.int .i64 op,.int .i64 n,.slice A l.length c]] w fun e w' => e = .returned (.tuple #[.string r1,.int .i64 r2]) ∧ Below w.heap.size w w' := by
 unfold tree_Print.f at h
 obtain ⟨cc,hcheck,h⟩ := Option.bind_eq_some_iff.mp h
 have HK := am hcheck
 clear hcheck
 by_cases h0 : cc = 0
 ·subst h0
  rw [if_pos rfl] at h
  obtain ⟨t,hw,h⟩ := Option.bind_eq_some_iff.mp h
  by_cases hl : t.length ≤ 140737488355328 ∧ t ≠ []
  ·rw [if_pos hl] at h
   simp only [Option.some.injEq,Prod.mk.injEq] at h
   obtain ⟨rfl,rfl⟩ := h
   obtain ⟨hl,hne⟩ := hl
   have hl0 : ([] : List UInt8).length + t.length ≤ 140737488355328 := by rw [List.length_nil,Nat.zero_add];exact hl
   have HCC := am hC
   have HW := am hw
   clear hC hw
   go_enter Tryd.func17,Tryd.ntmps17
   go_wp2_with (first | ((with_reducible refine gate_dst (N := 1) rfl ?_);refine box_event ?hg (N := 1) ?hd (cs := #[.int .i64 op,.int .i64 n,.slice A l.length c]) (t := 25) ?hr ?_;(case hd => rfl);(case hg => rfl);(case hr => (go_simp;try rfl));intro gn hg w1 zan hb;have HN := am zan;obtain ⟨hn0,hm0,hn1,hm1,hn2,hm2⟩ := cells3 HN.out;have HCD := am (Kd.C_below HCC.out hb);have HB := am hb;clear zan hb hg) | ((with_reducible refine (tree_Check.calls k op n A c l 0 _ ?za8 ?zbh HK.out).mono ?_);(case za8 => exact HCD.out);(case zbh => exact hc);rintro e w2 ⟨rfl,hb⟩;clear hn0 hm0 hn1 hm1 hn2 hm2;replace HN := am (blk_below HN.out hb);obtain ⟨hn0,hm0,hn1,hm1,hn2,hm2⟩ := cells3 HN.out;replace HCD := am (Kd.C_below HCD.out hb);replace HB := am (below_step HB.out hb);have HT := am (tab_on htab HB.out);clear hb) | ((with_reducible refine gate_dst (N := 4) rfl ?_);refine box_event ?hg (N := 4) ?hd (cs := #[.pointer none,.slice none 0 0]) (t := 80) ?hr ?_;(case hd => rfl);(case hg => rfl);(case hr => (go_simp;try rfl));intro b hg w3 zan hb;clear hn0 hm0 hn1 hm1 hn2 hm2;replace HN := am (blk_below HN.out hb);obtain ⟨hn0,hm0,hn1,hm1,hn2,hm2⟩ := cells3 HN.out;have HS := am ((⟨.inl ⟨Nat.le_of_eq hg.symm,.slice none 0 0,zan,⟨rfl,.inl ⟨rfl,rfl⟩⟩,by simp [Value.ownBlock]⟩,hb⟩ : WS w2 b [] w3));have HB3 := am (below_step HB.out hb);clear zan hb hg) | ((with_reducible refine (tree_write.calls w2 b HT.out 140737488355328 (Nat.le_refl _) k op n A c l 1 [] t _ HCD.out HS.out HW.out hl0).mono ?_);rintro e w4 ⟨rfl,hs,hr⟩;rw [List.nil_append] at hs;clear hn0 hm0 hn1 hm1 hn2 hm2;replace HS := am hs;clear hs hr) | ((with_reducible refine (String_calls w2.heap.size b t _ HS.out.hI hne).mono ?_);rintro e w5 ⟨rfl,hb⟩;have HE := am (HS.out.hB.trans hb);clear hb))
   go_ret2
   exact ⟨rfl,below_step HB.out HE.out⟩
  ·rw [if_neg hl] at h;cases h
 ·rw [if_neg h0] at h
  simp only [Option.some.injEq,Prod.mk.injEq] at h
  obtain ⟨rfl,rfl⟩ := h
  have HCC := am hC
  clear hC
  have h0b : (cc == 0) = false := by simpa using h0
  go_enter Tryd.func17,Tryd.ntmps17
  go_wp2_with (first | ((with_reducible refine gate_dst (N := 1) rfl ?_);refine box_event ?hg (N := 1) ?hd (cs := #[.int .i64 op,.int .i64 n,.slice A l.length c]) (t := 25) ?hr ?_;(case hd => rfl);(case hg => rfl);(case hr => (go_simp;try rfl));intro gn hg w1 zan hb;obtain ⟨hn0,hm0,hn1,hm1,hn2,hm2⟩ := cells3 zan;have HCD := am (Kd.C_below HCC.out hb);have HB := am hb;clear zan hb hg) | ((with_reducible refine (tree_Check.calls k op n A c l cc _ ?za8 ?zbh HK.out).mono ?_);(case za8 => exact HCD.out);(case zbh => exact hc);rintro e w2 ⟨rfl,hb⟩;replace HB := am (below_step HB.out hb)))
  go_ret2
  exact ⟨rfl,HB.out⟩
end Go.Proofs.YtgnmdhnlcibbiaaDoor.P
end
