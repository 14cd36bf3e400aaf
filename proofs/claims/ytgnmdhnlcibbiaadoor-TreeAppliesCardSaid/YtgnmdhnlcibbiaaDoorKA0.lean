import Derived.Test.YtgnmdhnlcibbiaaDoorProg
import Derived.Below
import Derived.Deep.Draws
import Derived.Deep.AppendLies
import Derived.Maps.AppendAt
import Derived.OwnWalk
import Derived.Laws.BytesArg
import Derived.Laws.MakeOwn
import Derived.Laws.OwnMore
import Derived.Deep.OwnRows
import Derived.Tactics
import Derived.Lib.ConvBytes
import Derived.Laws.Slices
import Derived.WalkKit
import Derived.KernelRfl
import Derived.RowKit3
import Derived.Deep.LoopGhost
import Derived.Deep.QuietTactic
import Derived.BigQuiet
import Derived.WideLaws
import Derived.Deep.DeepCutAuto
import Derived.Deep.CutBlock
import Derived.Deep.RegionHeld3
import Derived.Laws.Rows
import Derived.Lib.AppendStr
import Derived.ArgAppend
import Derived.Laws.IdiomCopy
import Derived.OrdersHeld
import Derived.Laws.BitsLemmas
import Derived.RowKit
import Derived.Maps.OwnOps
import Derived.Test.YtgnmdhnlcibbiaaDoorKW0
set_option maxHeartbeats 8000000
set_option maxRecDepth 100000
section
namespace Go.Proofs.YtgnmdhnlcibbiaaDoor.P
open Go.RowKit Go.Proofs.PrintWords Go.Proofs.PrintLast Go.Proofs.PrintMore
theorem pcb {w w1 : World} (h : Below w.heap.size w w1) {a : Addr} {v : Value} (hc : w.cell? a = some v) : w1.cell? a = some v := pw_cell_below h hc
theorem am {p : Prop} (h : p) : Aside0 p := ⟨h⟩
attribute [local go_sem] max2_int min2_int max_two min_two max_three min_three max_four min_four   -- for this text's walks alone
set_option linter.unusedVariables false
set_option linter.unusedSimpArgs false
theorem info25 : (Tryd.prog.info? 25).map (fun i => (i.zero,i.size,i.bytes)) = some (some (.agg #[(.int .i64 0),(.int .i64 0),(.slice none 0 0)]),3,40) := by kernel_rfl
structure S63 where
 f0 : Int
 f1 : Int
 f2 : ByteArray
 f3 : Int
def z63 : S63 := ⟨(0 : Int),(0 : Int),(⟨#[]⟩ : ByteArray),(0 : Int)⟩
def k63 : Kd S63 := Kd.iso (Kd.pair (Kd.int .i64) (Kd.pair (Kd.int .i64) (Kd.pair Kd.string (Kd.int .i64)))) (fun x : S63 => (x.f0,x.f1,x.f2,x.f3))
theorem k63_open {w : World} {x : S63} {cs : List Value} (h : k63.K w x cs) : cs = [.int .i64 x.f0,.int .i64 x.f1,.string x.f2,.int .i64 x.f3] := by
 obtain ⟨_,_,rfl,rfl,⟨_,_,rfl,rfl,⟨_,_,rfl,rfl,rfl⟩⟩⟩ := h
 exact rfl
theorem k63_mkM (w : World) (base : Nat) (ok : Nat → Prop) (x : S63)  : k63.M w base ok x [.int .i64 x.f0,.int .i64 x.f1,.string x.f2,.int .i64 x.f3] := ⟨[.int .i64 x.f0],[.int .i64 x.f1,.string x.f2,.int .i64 x.f3],rfl,rfl,⟨[.int .i64 x.f1],[.string x.f2,.int .i64 x.f3],rfl,rfl,⟨[.string x.f2],[.int .i64 x.f3],rfl,rfl,rfl⟩⟩⟩
def rd_T63 (xs : List S63) (i : Int) : S63 := xs.getD i.toNat z63
theorem at_T63 {w : World} {A : Option Addr} {n : Nat} {xs : List S63} (h : Kd.C k63 w A n xs) (i : Int) (h0 : 0 ≤ i) (h1 : i < n) : ∃ ad ,A = some ad ∧ w.cell? (ad.add (i.toNat * 4)) = some (.int .i64 (rd_T63 xs i).f0) ∧ w.cell? ⟨(ad.add (i.toNat * 4)).block,(ad.add (i.toNat * 4)).off + 1,none⟩ = some (.int .i64 (rd_T63 xs i).f1) ∧ w.cell? ⟨(ad.add (i.toNat * 4)).block,(ad.add (i.toNat * 4)).off + 2,none⟩ = some (.string (rd_T63 xs i).f2) ∧ w.cell? ⟨(ad.add (i.toNat * 4)).block,(ad.add (i.toNat * 4)).off + 3,none⟩ = some (.int .i64 (rd_T63 xs i).f3) := by
 obtain ⟨ad,c,e,_,hK,hc0⟩ := Kd.C_get h z63 i h0 h1
 have hc : ∀ j u,c[j]? = some u → w.cell? (ad.add (i.toNat * 4 + j)) = some u := hc0
 obtain rfl := k63_open hK
 exact ⟨ad,e,hc 0 _ rfl,by rw [← add_field _ _ 1 (by omega)];exact hc 1 _ rfl,by rw [← add_field _ _ 2 (by omega)];exact hc 2 _ rfl,by rw [← add_field _ _ 3 (by omega)];exact hc 3 _ rfl⟩
structure S25 where
 f0 : Int
 f1 : Int
 f2 : (List S25)
def z25 : S25 := ⟨(0 : Int),(0 : Int),([] : List S25)⟩
def F25 (d : Kd S25) : Kd S25 := Kd.iso (Kd.pair (Kd.int .i64) (Kd.pair (Kd.int .i64) (Kd.slice 25 d))) (fun x : S25 => (x.f0,x.f1,x.f2))
theorem mono25 : Kd.Mono F25 := Kd.mono_iso _ (Kd.mono_pair (Kd.mono_const _) (Kd.mono_pair (Kd.mono_const _) (Kd.mono_slice 25 Kd.mono_id)))
theorem sub25 : Kd.Sub F25 [25] := Kd.sub_iso _ (Kd.sub_pair (Kd.sub_const _ (by decide)) (Kd.sub_pair (Kd.sub_const _ (by decide)) (Kd.sub_slice 25 (by decide) Kd.sub_id)))
theorem sz25 : ∀ n,(Kd.upto F25 3 [25] n).sz = 3 := Kd.upto_sz (fun _ => rfl)
def k25 : Kd S25 := Kd.fix F25 3 [25] sz25 (Kd.upto_E sub25)
theorem k25_open {w : World} {x : S25} {cs : List Value} (h : k25.K w x cs) : ∃ A2 c2,cs = [.int .i64 x.f0,.int .i64 x.f1,.slice A2 x.f2.length c2] ∧ x.f2.length ≤ c2 ∧ k25.C w A2 x.f2.length x.f2 := by
 obtain ⟨n,h⟩ := h
 cases n with
 | zero => exact h.elim
 | succ n =>
  obtain ⟨_,_,rfl,rfl,⟨_,_,rfl,rfl,⟨A2,c2,rfl,l2,g2⟩⟩⟩ := h
  exact ⟨A2,c2,rfl,l2,Kd.fix_C g2⟩
theorem k25_mk (w : World) (x : S25) {A2 : Option Addr} {c2 : Nat} (l2 : x.f2.length ≤ c2) (g2 : k25.C w A2 x.f2.length x.f2) : k25.K w x [.int .i64 x.f0,.int .i64 x.f1,.slice A2 x.f2.length c2] := by
 obtain ⟨n2,q2⟩ := Kd.fix_C_back mono25 g2
 have r2 := Kd.upto_C_le mono25 sz25 (show n2 ≤ n2 by omega) q2
 exact ⟨n2 + 1,⟨[.int .i64 x.f0],[.int .i64 x.f1,.slice A2 x.f2.length c2],rfl,rfl,⟨[.int .i64 x.f1],[.slice A2 x.f2.length c2],rfl,rfl,⟨A2,c2,rfl,l2,r2⟩⟩⟩⟩
theorem k25_mkM (w : World) (base : Nat) (ok : Nat → Prop) (x : S25) {v2 : Value} (g2 : k25.R 25 w base ok v2 x.f2) : k25.M w base ok x [.int .i64 x.f0,.int .i64 x.f1,v2] := by
 obtain ⟨n2,q2⟩ := Kd.fix_R_back mono25 g2
 have r2 := Kd.upto_R_le mono25 sz25 (show n2 ≤ n2 by omega) q2
 exact ⟨n2 + 1,⟨[.int .i64 x.f0],[.int .i64 x.f1,v2],rfl,rfl,⟨[.int .i64 x.f1],[v2],rfl,rfl,⟨v2,rfl,r2⟩⟩⟩⟩
theorem k25_openF {W : World} {ok : Nat → Prop} {x : S25} {cs : List Value} (h : Kd.FK k25 W ok x cs) : ∃ A2 c2,cs = [.int .i64 x.f0,.int .i64 x.f1,.slice A2 x.f2.length c2] ∧ x.f2.length ≤ c2 ∧ Kd.F k25 W ok A2 x.f2.length x.f2 := by
 obtain ⟨A2,c2,rfl,l2,_⟩ := k25_open (Kd.FK_now h)
 exact ⟨A2,c2,rfl,l2,(fun W' hW => by obtain ⟨A2_,c2_,he,l2_,g2_⟩ := k25_open (h W' hW);injection (Option.some.inj (show some (Value.slice A2 x.f2.length c2) = some (Value.slice A2_ x.f2.length c2_) from congrArg (fun l => l[2]?) he)) with ha_ _ _;rw [ha_];exact g2_)⟩
theorem k25_mkF (W : World) (ok : Nat → Prop) (x : S25) {A2 : Option Addr} {c2 : Nat} (l2 : x.f2.length ≤ c2) (g2 : Kd.F k25 W ok A2 x.f2.length x.f2) : Kd.FK k25 W ok x [.int .i64 x.f0,.int .i64 x.f1,.slice A2 x.f2.length c2] := fun W2 hW => k25_mk W2 x l2 (g2 W2 hW)
def rd_T25 (xs : List S25) (i : Int) : S25 := xs.getD i.toNat z25
theorem at_T25 {w : World} {A : Option Addr} {n : Nat} {xs : List S25} (h : Kd.C k25 w A n xs) (i : Int) (h0 : 0 ≤ i) (h1 : i < n) : ∃ ad A2 c2,A = some ad ∧ w.cell? (ad.add (i.toNat * 3)) = some (.int .i64 (rd_T25 xs i).f0) ∧ w.cell? ⟨(ad.add (i.toNat * 3)).block,(ad.add (i.toNat * 3)).off + 1,none⟩ = some (.int .i64 (rd_T25 xs i).f1) ∧ w.cell? ⟨(ad.add (i.toNat * 3)).block,(ad.add (i.toNat * 3)).off + 2,none⟩ = some (.slice A2 (rd_T25 xs i).f2.length c2) ∧ (rd_T25 xs i).f2.length ≤ c2 ∧ k25.C w A2 (rd_T25 xs i).f2.length (rd_T25 xs i).f2 := by
 obtain ⟨ad,c,e,_,hK,hc0⟩ := Kd.C_get h z25 i h0 h1
 have hc : ∀ j u,c[j]? = some u → w.cell? (ad.add (i.toNat * 3 + j)) = some u := hc0
 obtain ⟨A2,c2,rfl,l2,g2⟩ := k25_open hK
 exact ⟨ad,A2,c2,e,hc 0 _ rfl,by rw [← add_field _ _ 1 (by omega)];exact hc 1 _ rfl,by rw [← add_field _ _ 2 (by omega)];exact hc 2 _ rfl,l2,g2⟩
end Go.Proofs.YtgnmdhnlcibbiaaDoor.P
end
section
namespace Go.Proofs.YtgnmdhnlcibbiaaDoor.P
open Go.RowKit Go.Proofs.PrintWords Go.Proofs.PrintLast Go.Proofs.PrintMore
attribute [local go_sem] max2_int min2_int max_two min_two max_three min_three max_four min_four   -- for this text's walks alone
set_option linter.unusedVariables false
set_option linter.unusedSimpArgs false
def IsS72 (w0 W : World) (g : Nat) (f0 : List (S63)) (f1 : Int) (f2 : Int) (f3 : Int) (f4 : Int) : Prop := ∃ A0 c0,W.heap[g]? = some (.cells #[.slice A0 f0.length c0,.int .i64 f1,.int .i64 f2,.int .i64 f3,.int .i64 f4] 72 (0,0)) ∧ w0.heap.size ≤ g ∧ Kd.C k63 w0 A0 f0.length f0
theorem IsS72.grown {w0 W : World} {g : Nat} {f0 : List (S63)} {f1 : Int} {f2 : Int} {f3 : Int} {f4 : Int} {W1 : World} {row : Option Nat} (h : IsS72 w0 W g f0 f1 f2 f3 f4) (hw : W.grownBy W1 row) (hne : some g ≠ row) : IsS72 w0 W1 g f0 f1 f2 f3 f4 := by
 obtain ⟨A0,c0,hb,hg,hr0⟩ := h
 exact ⟨A0,c0,blk_grown hb hw hne,hg,hr0⟩
theorem IsS72.kept {w0 W : World} {g : Nat} {f0 : List (S63)} {f1 : Int} {f2 : Int} {f3 : Int} {f4 : Int} {W1 : World} {S : Nat → Prop} (h : IsS72 w0 W g f0 f1 f2 f3 f4) (hk : Kept W W1 S) (hne : ¬ S g) : IsS72 w0 W1 g f0 f1 f2 f3 f4 := by
 obtain ⟨A0,c0,hb,hg,hr0⟩ := h
 exact ⟨A0,c0,blk_kept hb hk hne,hg,hr0⟩
theorem IsS72.below {w0 W : World} {g : Nat} {f0 : List (S63)} {f1 : Int} {f2 : Int} {f3 : Int} {f4 : Int} {W1 : World} (h : IsS72 w0 W g f0 f1 f2 f3 f4) (hw : Below W.heap.size W W1) : IsS72 w0 W1 g f0 f1 f2 f3 f4 := h.grown (grown_of_below hw none) (by simp)
theorem IsS72.drewN {w0 W : World} {g : Nat} {f0 : List (S63)} {f1 : Int} {f2 : Int} {f3 : Int} {f4 : Int} (h : IsS72 w0 W g f0 f1 f2 f3 f4) (m : Nat) : IsS72 w0 (W.drewN m) g f0 f1 f2 f3 f4 := h
theorem IsS72.lt {w0 W : World} {g : Nat} {f0 : List (S63)} {f1 : Int} {f2 : Int} {f3 : Int} {f4 : Int} (h : IsS72 w0 W g f0 f1 f2 f3 f4) : g < W.heap.size := by
 obtain ⟨A0,c0,hb,hg,hr0⟩ := h
 exact blk_lt hb
theorem IsS72.ge {w0 W : World} {g : Nat} {f0 : List (S63)} {f1 : Int} {f2 : Int} {f3 : Int} {f4 : Int} (h : IsS72 w0 W g f0 f1 f2 f3 f4) : w0.heap.size ≤ g := by
 obtain ⟨A0,c0,hb,hg,hr0⟩ := h
 exact hg
theorem IsS72.ne_blk {w0 W : World} {g : Nat} {f0 : List (S63)} {f1 : Int} {f2 : Int} {f3 : Int} {f4 : Int} {a : Nat} {cs : Array Value} {t : TypeId} {fr : Nat × Nat} (h : IsS72 w0 W g f0 f1 f2 f3 f4) (hb2 : W.heap[a]? = some (.cells cs t fr)) (ht : t ≠ 72) : g ≠ a := by
 obtain ⟨A0,c0,hb,hg,hr0⟩ := h
 rintro rfl
 rw [hb] at hb2
 injection hb2 with hb2
 injection hb2 with _ ht2
 exact ht ht2.symm
theorem IsS72.far {w0 W : World} {g : Nat} {f0 : List (S63)} {f1 : Int} {f2 : Int} {f3 : Int} {f4 : Int} {p : Addr} (h : IsS72 w0 W g f0 f1 f2 f3 f4) (hne : g ≠ p.block) (u : Value) : IsS72 w0 (W.setCell p u) g f0 f1 f2 f3 f4 := by
 obtain ⟨A0,c0,hb,hg,hr0⟩ := h
 exact ⟨A0,c0,blk_far hb hne u,hg,hr0⟩
theorem cellS72_0 {W : World} {g : Nat} {A0 : Option Addr} {c0 : Nat} {f0 : List (S63)} {f1 : Int} {f2 : Int} {f3 : Int} {f4 : Int} (h : W.heap[g]? = some (.cells #[.slice A0 f0.length c0,.int .i64 f1,.int .i64 f2,.int .i64 f3,.int .i64 f4] 72 (0,0))) : W.cell? ⟨g,0,none⟩ = some (.slice A0 f0.length c0) := (blk_cell h 0).trans rfl
theorem cellS72_1 {W : World} {g : Nat} {A0 : Option Addr} {c0 : Nat} {f0 : List (S63)} {f1 : Int} {f2 : Int} {f3 : Int} {f4 : Int} (h : W.heap[g]? = some (.cells #[.slice A0 f0.length c0,.int .i64 f1,.int .i64 f2,.int .i64 f3,.int .i64 f4] 72 (0,0))) : W.cell? ⟨g,1,none⟩ = some (.int .i64 f1) := (blk_cell h 1).trans rfl
theorem IsS72.set_1 {w0 W : World} {g : Nat} {f0 : List (S63)} {f1 : Int} {f2 : Int} {f3 : Int} {f4 : Int} (h : IsS72 w0 W g f0 f1 f2 f3 f4) (x : Int) : IsS72 w0 (W.setCell ⟨g,1,none⟩ (.int .i64 x)) g f0 x f2 f3 f4 := by
 obtain ⟨A0,c0,hb,hg,hr0⟩ := h
 exact ⟨A0,c0,by simpa using blk_set hb 1 (.int .i64 x),hg,hr0⟩
theorem cellS72_2 {W : World} {g : Nat} {A0 : Option Addr} {c0 : Nat} {f0 : List (S63)} {f1 : Int} {f2 : Int} {f3 : Int} {f4 : Int} (h : W.heap[g]? = some (.cells #[.slice A0 f0.length c0,.int .i64 f1,.int .i64 f2,.int .i64 f3,.int .i64 f4] 72 (0,0))) : W.cell? ⟨g,2,none⟩ = some (.int .i64 f2) := (blk_cell h 2).trans rfl
theorem IsS72.set_2 {w0 W : World} {g : Nat} {f0 : List (S63)} {f1 : Int} {f2 : Int} {f3 : Int} {f4 : Int} (h : IsS72 w0 W g f0 f1 f2 f3 f4) (x : Int) : IsS72 w0 (W.setCell ⟨g,2,none⟩ (.int .i64 x)) g f0 f1 x f3 f4 := by
 obtain ⟨A0,c0,hb,hg,hr0⟩ := h
 exact ⟨A0,c0,by simpa using blk_set hb 2 (.int .i64 x),hg,hr0⟩
theorem cellS72_3 {W : World} {g : Nat} {A0 : Option Addr} {c0 : Nat} {f0 : List (S63)} {f1 : Int} {f2 : Int} {f3 : Int} {f4 : Int} (h : W.heap[g]? = some (.cells #[.slice A0 f0.length c0,.int .i64 f1,.int .i64 f2,.int .i64 f3,.int .i64 f4] 72 (0,0))) : W.cell? ⟨g,3,none⟩ = some (.int .i64 f3) := (blk_cell h 3).trans rfl
theorem IsS72.set_3 {w0 W : World} {g : Nat} {f0 : List (S63)} {f1 : Int} {f2 : Int} {f3 : Int} {f4 : Int} (h : IsS72 w0 W g f0 f1 f2 f3 f4) (x : Int) : IsS72 w0 (W.setCell ⟨g,3,none⟩ (.int .i64 x)) g f0 f1 f2 x f4 := by
 obtain ⟨A0,c0,hb,hg,hr0⟩ := h
 exact ⟨A0,c0,by simpa using blk_set hb 3 (.int .i64 x),hg,hr0⟩
theorem cellS72_4 {W : World} {g : Nat} {A0 : Option Addr} {c0 : Nat} {f0 : List (S63)} {f1 : Int} {f2 : Int} {f3 : Int} {f4 : Int} (h : W.heap[g]? = some (.cells #[.slice A0 f0.length c0,.int .i64 f1,.int .i64 f2,.int .i64 f3,.int .i64 f4] 72 (0,0))) : W.cell? ⟨g,4,none⟩ = some (.int .i64 f4) := (blk_cell h 4).trans rfl
theorem IsS72.set_4 {w0 W : World} {g : Nat} {f0 : List (S63)} {f1 : Int} {f2 : Int} {f3 : Int} {f4 : Int} (h : IsS72 w0 W g f0 f1 f2 f3 f4) (x : Int) : IsS72 w0 (W.setCell ⟨g,4,none⟩ (.int .i64 x)) g f0 f1 f2 f3 x := by
 obtain ⟨A0,c0,hb,hg,hr0⟩ := h
 exact ⟨A0,c0,by simpa using blk_set hb 4 (.int .i64 x),hg,hr0⟩
def tree_parser_is.f (s0_0 : List (S63)) (s0_1 : Int) (s0_2 : Int) (s0_3 : Int) (s0_4 : Int) (a1 : ByteArray) : Option (Bool × Int × Int × Int × Int) := if s0_4 = 0 then (if s0_1 < (s0_0.length : Int) then (if 0 ≤ s0_1 then (if ((rd_T63 s0_0 s0_1).f0) = 1 then (some (false,s0_1,s0_2,s0_3,s0_4)) else (some ((((rd_T63 s0_0 s0_1).f2).toList == a1.toList),s0_1,s0_2,s0_3,s0_4))) else (none)) else (some (false,s0_1,s0_2,s0_3,s0_4))) else (some (false,s0_1,s0_2,s0_3,s0_4))
theorem tree_parser_is.calls (g : Nat) (s0_0 : List (S63)) (s0_1 : Int) (s0_2 : Int) (s0_3 : Int) (s0_4 : Int) (a1 : ByteArray) (r1 : Bool) (r2 : Int) (r3 : Int) (r4 : Int) (r5 : Int) (w0 w : World) (hI : IsS72 w0 w g s0_0 s0_1 s0_2 s0_3 s0_4) (hB : Below w0.heap.size w0 w) (h : tree_parser_is.f s0_0 s0_1 s0_2 s0_3 s0_4 a1 = some (r1,r2,r3,r4,r5)) :
  Calls Tryd.prog 59 #[.pointer (some ⟨g,0,none⟩),.string a1] w fun e w' => e = .returned (.bool r1) ∧ IsS72 w0 w' g s0_0 r2 r3 r4 r5 ∧ Below w0.heap.size w0 w' ∧ KeepBut w w' g none := by
 have HI0 := am hI
 have HK := am (KeepBut.refl w g none)
 have HL := am hB.size
 clear hI
 have HW0 := am hB.size
 have HB := am hB
 clear hB
 have H : (if s0_4 = 0 then (if s0_1 < (s0_0.length : Int) then (if 0 ≤ s0_1 then (if ((rd_T63 s0_0 s0_1).f0) = 1 then (some (false,s0_1,s0_2,s0_3,s0_4)) else (some ((((rd_T63 s0_0 s0_1).f2).toList == a1.toList),s0_1,s0_2,s0_3,s0_4))) else (none)) else (some (false,s0_1,s0_2,s0_3,s0_4))) else (some (false,s0_1,s0_2,s0_3,s0_4))) = some (r1,r2,r3,r4,r5) := h
 clear h
 by_cases c3 : s0_4 = 0
 ·rw [if_pos c3] at H
  have zes : (s0_4 == 0) = true := beq_iff_eq.mpr c3
  have zff : (s0_4 != 0) = false := bne_eq_false_iff_eq.mpr c3
  clear c3
  by_cases c4 : s0_1 < (s0_0.length : Int)
  ·rw [if_pos c4] at H
   have c4b0 : decide (s0_1 < (s0_0.length : Int)) = true := decide_eq_true c4
   clear c4
   by_cases c5 : 0 ≤ s0_1
   ·rw [if_pos c5] at H
    have zgH : decide (0 ≤ s0_1) = true := decide_eq_true c5
    clear c5
    by_cases c6 : ((rd_T63 s0_0 s0_1).f0) = 1
    ·rw [if_pos c6] at H
     have c6b0 : (((rd_T63 s0_0 s0_1).f0) == 1) = true := beq_iff_eq.mpr c6
     have c6b1 : (((rd_T63 s0_0 s0_1).f0) != 1) = false := bne_eq_false_iff_eq.mpr c6
     clear c6
     simp only [Option.some.injEq,Prod.mk.injEq] at H
     obtain ⟨rfl,rfl,rfl,rfl,rfl⟩ := H
     obtain ⟨ASz7_0,cSz7_0,HGz7,hgz7,HSz7_0⟩ := HI0.out
     have zeS := cellS72_0 HGz7
     have zeT := cellS72_1 HGz7
     have zeU := cellS72_2 HGz7
     have hcz7_3 := cellS72_3 HGz7
     have hcz7_4 := cellS72_4 HGz7
     have zeV := blk_frozen HGz7 1
     have zeW := blk_frozen HGz7 2
     have hfz7_3 := blk_frozen HGz7 3
     have hfz7_4 := blk_frozen HGz7 4
     clear HGz7 hgz7
     have p101 : 0 ≤ (s0_1 : Int) := of_decide_eq_true (by first | (with_reducible assumption) | assumption)
     have q101 : s0_1 < (s0_0.length : Int) := of_decide_eq_true (by first | (with_reducible assumption) | assumption)
     obtain ⟨ad101,e101,zdB,zdC,zdD,zdE⟩ := at_T63 HSz7_0 s0_1 p101 q101
     cases e101
     replace zdB := pcb HB.out zdB
     replace zdC := pcb HB.out zdC
     replace zdD := pcb HB.out zdD
     replace zdE := pcb HB.out zdE
     replace p101 := eq_true p101
     replace q101 := eq_true q101
     go_enter Tryd.func59,Tryd.ntmps59
     go_wp2
     repeat (go_quiet (fail);try go_wp2)
     go_ret
     exact ⟨by first | rfl | (simp [errW_none,errW_some] <;> rfl) | (simp [*,errW_none,errW_some] <;> rfl),by repeat (first | (with_reducible first | exact HI0.out | apply IsS72.alloc | apply IsS72.drewN | apply IsS72.drew | apply IsS72.set_1 | apply IsS72.set_2 | apply IsS72.set_3 | apply IsS72.set_4) | exact HI0.out),by repeat (first | (with_reducible first | exact HB.out | apply below_alloc | apply pw_below_drewN | apply below_drew1 | refine below_set ?_ (IsS72.ge HI0.out)) | exact HB.out),by repeat (first | (with_reducible first | exact HK.out | apply KeepBut.set_ | apply keep_drewN | apply keep_drew | apply keep_alloc) | exact HK.out)⟩
    ·rw [if_neg c6] at H
     have c6b0 : (((rd_T63 s0_0 s0_1).f0) == 1) = false := beq_eq_false_iff_ne.mpr c6
     have c6b1 : (((rd_T63 s0_0 s0_1).f0) != 1) = true := bne_iff_ne.mpr c6
     simp only [Option.some.injEq,Prod.mk.injEq] at H
     obtain ⟨rfl,rfl,rfl,rfl,rfl⟩ := H
     obtain ⟨ASz8_0,cSz8_0,HGz8,hgz8,HSz8_0⟩ := HI0.out
     have zgI := cellS72_0 HGz8
     have zgJ := cellS72_1 HGz8
     have zgK := cellS72_2 HGz8
     have hcz8_3 := cellS72_3 HGz8
     have hcz8_4 := cellS72_4 HGz8
     have zgL := blk_frozen HGz8 1
     have zgM := blk_frozen HGz8 2
     have hfz8_3 := blk_frozen HGz8 3
     have hfz8_4 := blk_frozen HGz8 4
     clear HGz8 hgz8
     have p101 : 0 ≤ (s0_1 : Int) := of_decide_eq_true (by first | (with_reducible assumption) | assumption)
     have q101 : s0_1 < (s0_0.length : Int) := of_decide_eq_true (by first | (with_reducible assumption) | assumption)
     obtain ⟨ad101,e101,zdB,zdC,zdD,zdE⟩ := at_T63 HSz8_0 s0_1 p101 q101
     cases e101
     replace zdB := pcb HB.out zdB
     replace zdC := pcb HB.out zdC
     replace zdD := pcb HB.out zdD
     replace zdE := pcb HB.out zdE
     replace p101 := eq_true p101
     replace q101 := eq_true q101
     have p102 : 0 ≤ (s0_1 : Int) := of_decide_eq_true (by first | (with_reducible assumption) | assumption)
     have q102 : s0_1 < (s0_0.length : Int) := of_decide_eq_true (by first | (with_reducible assumption) | assumption)
     obtain ⟨ad102,e102,zgN,zgO,zgP,zgQ⟩ := at_T63 HSz8_0 s0_1 p102 q102
     obtain rfl : ad101 = ad102 := (by injection e102)
     replace zgN := pcb HB.out zgN
     replace zgO := pcb HB.out zgO
     replace zgP := pcb HB.out zgP
     replace zgQ := pcb HB.out zgQ
     replace p102 := eq_true p102
     replace q102 := eq_true q102
     go_enter Tryd.func59,Tryd.ntmps59
     go_wp2
     repeat (go_quiet (fail);try go_wp2)
     go_ret
     exact ⟨by first | rfl | (simp [errW_none,errW_some] <;> rfl) | (simp [*,errW_none,errW_some] <;> rfl),by repeat (first | (with_reducible first | exact HI0.out | apply IsS72.alloc | apply IsS72.drewN | apply IsS72.drew | apply IsS72.set_1 | apply IsS72.set_2 | apply IsS72.set_3 | apply IsS72.set_4) | exact HI0.out),by repeat (first | (with_reducible first | exact HB.out | apply below_alloc | apply pw_below_drewN | apply below_drew1 | refine below_set ?_ (IsS72.ge HI0.out)) | exact HB.out),by repeat (first | (with_reducible first | exact HK.out | apply KeepBut.set_ | apply keep_drewN | apply keep_drew | apply keep_alloc) | exact HK.out)⟩
   ·rw [if_neg c5] at H
    exact absurd H (by simp)
  ·rw [if_neg c4] at H
   have c4b0 : decide (s0_1 < (s0_0.length : Int)) = false := decide_eq_false c4
   clear c4
   simp only [Option.some.injEq,Prod.mk.injEq] at H
   obtain ⟨rfl,rfl,rfl,rfl,rfl⟩ := H
   obtain ⟨ASz9_0,cSz9_0,zcZ,hgz9,HSz9_0⟩ := HI0.out
   have zdF := cellS72_0 zcZ
   have zdG := cellS72_1 zcZ
   have zdH := cellS72_2 zcZ
   have hcz9_3 := cellS72_3 zcZ
   have hcz9_4 := cellS72_4 zcZ
   have zdI := blk_frozen zcZ 1
   have zdJ := blk_frozen zcZ 2
   have hfz9_3 := blk_frozen zcZ 3
   have hfz9_4 := blk_frozen zcZ 4
   clear zcZ hgz9
   go_enter Tryd.func59,Tryd.ntmps59
   go_wp2
   repeat (go_quiet (fail);try go_wp2)
   go_ret
   exact ⟨by first | rfl | (simp [errW_none,errW_some] <;> rfl) | (simp [*,errW_none,errW_some] <;> rfl),by repeat (first | (with_reducible first | exact HI0.out | apply IsS72.alloc | apply IsS72.drewN | apply IsS72.drew | apply IsS72.set_1 | apply IsS72.set_2 | apply IsS72.set_3 | apply IsS72.set_4) | exact HI0.out),by repeat (first | (with_reducible first | exact HB.out | apply below_alloc | apply pw_below_drewN | apply below_drew1 | refine below_set ?_ (IsS72.ge HI0.out)) | exact HB.out),by repeat (first | (with_reducible first | exact HK.out | apply KeepBut.set_ | apply keep_drewN | apply keep_drew | apply keep_alloc) | exact HK.out)⟩
 ·rw [if_neg c3] at H
  have zes : (s0_4 == 0) = false := beq_eq_false_iff_ne.mpr c3
  have zff : (s0_4 != 0) = true := bne_iff_ne.mpr c3
  simp only [Option.some.injEq,Prod.mk.injEq] at H
  obtain ⟨rfl,rfl,rfl,rfl,rfl⟩ := H
  obtain ⟨ASz10_0,cSz10_0,zet,hgz10,HSz10_0⟩ := HI0.out
  have zc0 := cellS72_0 zet
  have zc1 := cellS72_1 zet
  have zc2 := cellS72_2 zet
  have hcz10_3 := cellS72_3 zet
  have hcz10_4 := cellS72_4 zet
  have zc3 := blk_frozen zet 1
  have zc4 := blk_frozen zet 2
  have hfz10_3 := blk_frozen zet 3
  have hfz10_4 := blk_frozen zet 4
  clear zet hgz10
  go_enter Tryd.func59,Tryd.ntmps59
  go_wp2
  repeat (go_quiet (fail);try go_wp2)
  go_ret
  exact ⟨by first | rfl | (simp [errW_none,errW_some] <;> rfl) | (simp [*,errW_none,errW_some] <;> rfl),by repeat (first | (with_reducible first | exact HI0.out | apply IsS72.alloc | apply IsS72.drewN | apply IsS72.drew | apply IsS72.set_1 | apply IsS72.set_2 | apply IsS72.set_3 | apply IsS72.set_4) | exact HI0.out),by repeat (first | (with_reducible first | exact HB.out | apply below_alloc | apply pw_below_drewN | apply below_drew1 | refine below_set ?_ (IsS72.ge HI0.out)) | exact HB.out),by repeat (first | (with_reducible first | exact HK.out | apply KeepBut.set_ | apply keep_drewN | apply keep_drew | apply keep_alloc) | exact HK.out)⟩
end Go.Proofs.YtgnmdhnlcibbiaaDoor.P
end
section
namespace Go.Proofs.YtgnmdhnlcibbiaaDoor.P
open Go.RowKit Go.Proofs.PrintWords Go.Proofs.PrintLast Go.Proofs.PrintMore
attribute [local go_sem] max2_int min2_int max_two min_two max_three min_three max_four min_four   -- for this text's walks alone
set_option linter.unusedVariables false
set_option linter.unusedSimpArgs false
def tree_parser_fail.f (s0_0 : List (S63)) (s0_1 : Int) (s0_2 : Int) (s0_3 : Int) (s0_4 : Int) (a1 : Int) : Option (Int × Int × (List (S25)) × Int × Int × Int × Int) := if s0_4 = 0 then (some (0,0,([] : List (S25)),s0_1,s0_2,s0_3,a1)) else (some (0,0,([] : List (S25)),s0_1,s0_2,s0_3,s0_4))
theorem tree_parser_fail.calls (g : Nat) (s0_0 : List (S63)) (s0_1 : Int) (s0_2 : Int) (s0_3 : Int) (s0_4 : Int) (a1 : Int) (r1 : Int) (r2 : Int) (r3 : List (S25)) (r4 : Int) (r5 : Int) (r6 : Int) (r7 : Int) (w0 w : World) (hI : IsS72 w0 w g s0_0 s0_1 s0_2 s0_3 s0_4) (hB : Below w0.heap.size w0 w) (h : tree_parser_fail.f s0_0 s0_1 s0_2 s0_3 s0_4 a1 = some (r1,r2,r3,r4,r5,r6,r7)) :
  Calls Tryd.prog 83 #[.pointer (some ⟨g,0,none⟩),.int .i64 a1] w fun e w' => ∃ v2_ : Value,e = .returned (.agg #[.int .i64 r1,.int .i64 r2,v2_]) ∧ Kd.R k25 25 w' w.heap.size (fun _ => True) v2_ r3 ∧ IsS72 w0 w' g s0_0 r4 r5 r6 r7 ∧ Below w0.heap.size w0 w' ∧ KeepBut w w' g none := by
 have zcz := Tryd.underlying25
 have HI0 := am hI
 have HK := am (KeepBut.refl w g none)
 have HL := am hB.size
 clear hI
 have HW0 := am hB.size
 have HB := am hB
 clear hB
 have H : (if s0_4 = 0 then (some (0,0,([] : List (S25)),s0_1,s0_2,s0_3,a1)) else (some (0,0,([] : List (S25)),s0_1,s0_2,s0_3,s0_4))) = some (r1,r2,r3,r4,r5,r6,r7) := h
 clear h
 by_cases c3 : s0_4 = 0
 ·rw [if_pos c3] at H
  have zes : (s0_4 == 0) = true := beq_iff_eq.mpr c3
  have zff : (s0_4 != 0) = false := bne_eq_false_iff_eq.mpr c3
  clear c3
  simp only [Option.some.injEq,Prod.mk.injEq] at H
  obtain ⟨rfl,rfl,rfl,rfl,rfl,rfl,rfl⟩ := H
  go_enter Tryd.func83,Tryd.ntmps83
  go_wp2_with (first | ((with_reducible refine gate_dst (N := 4) rfl ?_);refine box_event ?hg (N := 4) ?hd (cs := #[.int .i64 0,.int .i64 0,.slice none 0 0]) (t := 25) ?hr ?_;(case hd => rfl);(case hg => rfl);(case hr => first | (go_simp;done) | (go_simp;rfl));intro gb103 hg w4 zan hb;have n0_ := am (IsS72.below (by repeat (first | (with_reducible first | exact HI0.out | apply IsS72.alloc | apply IsS72.drewN | apply IsS72.drew | apply IsS72.set_1 | apply IsS72.set_2 | apply IsS72.set_3 | apply IsS72.set_4) | exact HI0.out)) hb);have n1_ := am (KeepBut.trans (by repeat (first | (with_reducible first | exact HK.out | apply KeepBut.set_ | apply keep_drewN | apply keep_drew | apply keep_alloc) | exact HK.out)) (KeepBut.of_below hb g none) (.inl rfl));have n2_ := am (below_step HB.out hb);have n3_ := am (zan);have n4_ := am ((by rw [hg];exact (keep_size (w := w) (g := g) (row := none) (by repeat (first | (with_reducible first | exact HK.out | apply KeepBut.set_ | apply keep_drewN | apply keep_drew | apply keep_alloc) | exact HK.out))) : w.heap.size ≤ gb103));have n5_ := am ((Nat.le_trans HW0.out (by rw [hg];exact (keep_size (w := w) (g := g) (row := none) (by repeat (first | (with_reducible first | exact HK.out | apply KeepBut.set_ | apply keep_drewN | apply keep_drew | apply keep_alloc) | exact HK.out))) : w.heap.size ≤ gb103) : w0.heap.size ≤ gb103));have n6_ := am ((by rw [hg];exact Nat.ne_of_lt (IsS72.lt (show IsS72 w0 _ g s0_0 s0_1 s0_2 s0_3 s0_4 from by repeat (first | (with_reducible first | exact HI0.out | apply IsS72.alloc | apply IsS72.drewN | apply IsS72.drew | apply IsS72.set_1 | apply IsS72.set_2 | apply IsS72.set_3 | apply IsS72.set_4) | exact HI0.out))) : g ≠ gb103));have n7_ := am ((by rw [hg];exact Nat.ne_of_gt (IsS72.lt (show IsS72 w0 _ g s0_0 s0_1 s0_2 s0_3 s0_4 from by repeat (first | (with_reducible first | exact HI0.out | apply IsS72.alloc | apply IsS72.drewN | apply IsS72.drew | apply IsS72.set_1 | apply IsS72.set_2 | apply IsS72.set_3 | apply IsS72.set_4) | exact HI0.out))) : gb103 ≠ g));clear HI0;clear HK;clear HB;have HI0 := n0_;have HK := n1_;have HB := n2_;have zc5 := n3_;have GW103 := n4_;have GE103 := n5_;have zdK := n6_;have zez := n7_;clear n0_ n1_ n2_ n3_ n4_ n5_ n6_ n7_;clear hb zan hg;obtain ⟨ASz5_0,cSz5_0,HGz5,hgz5,HSz5_0⟩ := HI0.out;have zgm := cellS72_0 HGz5;have zgn := cellS72_1 HGz5;have zgo := cellS72_2 HGz5;have hcz5_3 := cellS72_3 HGz5;have hcz5_4 := cellS72_4 HGz5;have zgp := blk_frozen HGz5 1;have zgq := blk_frozen HGz5 2;have hfz5_3 := blk_frozen HGz5 3;have hfz5_4 := blk_frozen HGz5 4;clear HGz5 hgz5;have hnb6 := zez.out;have hnc6 := zdK.out;have zeS : w4.cell? ⟨gb103,0,none⟩ = some (.int .i64 0) := (blk_cell zc5.out 0).trans rfl;have zeT : w4.cell? ⟨gb103,1,none⟩ = some (.int .i64 0) := (blk_cell zc5.out 1).trans rfl;have zeU : w4.cell? ⟨gb103,2,none⟩ = some (.slice none 0 0) := (blk_cell zc5.out 2).trans rfl;have zgr := blk_frozen zc5.out 0;have zeV := blk_frozen zc5.out 1;have zeW := blk_frozen zc5.out 2))
  refine bodyPost_ret (results_cell_row rfl _ _ gb103 25 #[.int .i64 0,.int .i64 0,.slice none 0 0] (0,0) _ rfl (by (with_reducible repeat (first | refine blk_drewN ?_ _ | refine blk_drew ?_ | refine blk_alloc ?_ _));refine blk_put (cs := #[.int .i64 0,.int .i64 0,.slice none 0 0]) ?_ 2 _ rfl;(with_reducible repeat (first | refine blk_drewN ?_ _ | refine blk_drew ?_ | refine blk_alloc ?_ _));refine blk_put (cs := #[.int .i64 0,.int .i64 0,.slice none 0 0]) ?_ 1 _ rfl;(with_reducible repeat (first | refine blk_drewN ?_ _ | refine blk_drew ?_ | refine blk_alloc ?_ _));refine blk_put (cs := #[.int .i64 0,.int .i64 0,.slice none 0 0]) ?_ 0 _ rfl;(with_reducible repeat (first | refine blk_drewN ?_ _ | refine blk_drew ?_ | refine blk_alloc ?_ _));refine blk_far ?_ zez.out _;(with_reducible repeat (first | refine blk_drewN ?_ _ | refine blk_drew ?_ | refine blk_alloc ?_ _));exact zc5.out) Tryd.underlying25 rfl (by kernel_rfl)) rfl ?_
  exact ⟨_,by first | rfl | (simp [errW_none,errW_some] <;> rfl) | (simp [*,errW_none,errW_some] <;> rfl),by first | exact Kd.R_nil _ _ _ _ _ | exact Kd.N_nil _ _ _ _ _ | exact Kd.V_nil _ _ _ _ _ | exact Kd.Q_nil _ _ _ _ _ | exact Kd.S_nil _ _ _ _ _,by repeat (first | (with_reducible first | exact HI0.out | apply IsS72.alloc | apply IsS72.drewN | apply IsS72.drew | apply IsS72.set_1 | apply IsS72.set_2 | apply IsS72.set_3 | apply IsS72.set_4 | refine IsS72.far ?_ zdK.out _) | exact HI0.out),by repeat (first | (with_reducible first | exact HB.out | apply below_alloc | apply pw_below_drewN | apply below_drew1 | refine below_set ?_ (IsS72.ge HI0.out) | refine below_set ?_ GE103.out) | exact HB.out),by repeat (first | (with_reducible first | exact HK.out | apply KeepBut.set_ | apply keep_drewN | apply keep_drew | apply keep_alloc | refine keep_far ?_ GW103.out _) | exact HK.out)⟩
 ·rw [if_neg c3] at H
  have zes : (s0_4 == 0) = false := beq_eq_false_iff_ne.mpr c3
  have zff : (s0_4 != 0) = true := bne_iff_ne.mpr c3
  simp only [Option.some.injEq,Prod.mk.injEq] at H
  obtain ⟨rfl,rfl,rfl,rfl,rfl,rfl,rfl⟩ := H
  go_enter Tryd.func83,Tryd.ntmps83
  go_wp2_with (first | ((with_reducible refine gate_dst (N := 4) rfl ?_);refine box_event ?hg (N := 4) ?hd (cs := #[.int .i64 0,.int .i64 0,.slice none 0 0]) (t := 25) ?hr ?_;(case hd => rfl);(case hg => rfl);(case hr => first | (go_simp;done) | (go_simp;rfl));intro gb103 hg w8 zan hb;have n0_ := am (IsS72.below (by repeat (first | (with_reducible first | exact HI0.out | apply IsS72.alloc | apply IsS72.drewN | apply IsS72.drew | apply IsS72.set_1 | apply IsS72.set_2 | apply IsS72.set_3 | apply IsS72.set_4) | exact HI0.out)) hb);have n1_ := am (KeepBut.trans (by repeat (first | (with_reducible first | exact HK.out | apply KeepBut.set_ | apply keep_drewN | apply keep_drew | apply keep_alloc) | exact HK.out)) (KeepBut.of_below hb g none) (.inl rfl));have n2_ := am (below_step HB.out hb);have n3_ := am (zan);have n4_ := am ((by rw [hg];exact (keep_size (w := w) (g := g) (row := none) (by repeat (first | (with_reducible first | exact HK.out | apply KeepBut.set_ | apply keep_drewN | apply keep_drew | apply keep_alloc) | exact HK.out))) : w.heap.size ≤ gb103));have n5_ := am ((Nat.le_trans HW0.out (by rw [hg];exact (keep_size (w := w) (g := g) (row := none) (by repeat (first | (with_reducible first | exact HK.out | apply KeepBut.set_ | apply keep_drewN | apply keep_drew | apply keep_alloc) | exact HK.out))) : w.heap.size ≤ gb103) : w0.heap.size ≤ gb103));have n6_ := am ((by rw [hg];exact Nat.ne_of_lt (IsS72.lt (show IsS72 w0 _ g s0_0 s0_1 s0_2 s0_3 s0_4 from by repeat (first | (with_reducible first | exact HI0.out | apply IsS72.alloc | apply IsS72.drewN | apply IsS72.drew | apply IsS72.set_1 | apply IsS72.set_2 | apply IsS72.set_3 | apply IsS72.set_4) | exact HI0.out))) : g ≠ gb103));have n7_ := am ((by rw [hg];exact Nat.ne_of_gt (IsS72.lt (show IsS72 w0 _ g s0_0 s0_1 s0_2 s0_3 s0_4 from by repeat (first | (with_reducible first | exact HI0.out | apply IsS72.alloc | apply IsS72.drewN | apply IsS72.drew | apply IsS72.set_1 | apply IsS72.set_2 | apply IsS72.set_3 | apply IsS72.set_4) | exact HI0.out))) : gb103 ≠ g));clear HI0;clear HK;clear HB;have HI0 := n0_;have HK := n1_;have HB := n2_;have zc5 := n3_;have GW103 := n4_;have GE103 := n5_;have zdK := n6_;have zez := n7_;clear n0_ n1_ n2_ n3_ n4_ n5_ n6_ n7_;clear hb zan hg;obtain ⟨ASz9_0,cSz9_0,zcZ,hgz9,HSz9_0⟩ := HI0.out;have zdF := cellS72_0 zcZ;have zdG := cellS72_1 zcZ;have zdH := cellS72_2 zcZ;have hcz9_3 := cellS72_3 zcZ;have hcz9_4 := cellS72_4 zcZ;have zdI := blk_frozen zcZ 1;have zdJ := blk_frozen zcZ 2;have hfz9_3 := blk_frozen zcZ 3;have hfz9_4 := blk_frozen zcZ 4;clear zcZ hgz9;have hnb10 := zez.out;have hnc10 := zdK.out;have hcz11_0 : w8.cell? ⟨gb103,0,none⟩ = some (.int .i64 0) := (blk_cell zc5.out 0).trans rfl;have hcz11_1 : w8.cell? ⟨gb103,1,none⟩ = some (.int .i64 0) := (blk_cell zc5.out 1).trans rfl;have hcz11_2 : w8.cell? ⟨gb103,2,none⟩ = some (.slice none 0 0) := (blk_cell zc5.out 2).trans rfl;have hfz11_0 := blk_frozen zc5.out 0;have hfz11_1 := blk_frozen zc5.out 1;have hfz11_2 := blk_frozen zc5.out 2))
  refine bodyPost_ret (results_cell_row rfl _ _ gb103 25 #[.int .i64 0,.int .i64 0,.slice none 0 0] (0,0) _ rfl (by (with_reducible repeat (first | refine blk_drewN ?_ _ | refine blk_drew ?_ | refine blk_alloc ?_ _));refine blk_put (cs := #[.int .i64 0,.int .i64 0,.slice none 0 0]) ?_ 2 _ rfl;(with_reducible repeat (first | refine blk_drewN ?_ _ | refine blk_drew ?_ | refine blk_alloc ?_ _));refine blk_put (cs := #[.int .i64 0,.int .i64 0,.slice none 0 0]) ?_ 1 _ rfl;(with_reducible repeat (first | refine blk_drewN ?_ _ | refine blk_drew ?_ | refine blk_alloc ?_ _));refine blk_put (cs := #[.int .i64 0,.int .i64 0,.slice none 0 0]) ?_ 0 _ rfl;(with_reducible repeat (first | refine blk_drewN ?_ _ | refine blk_drew ?_ | refine blk_alloc ?_ _));exact zc5.out) Tryd.underlying25 rfl (by kernel_rfl)) rfl ?_
  exact ⟨_,by first | rfl | (simp [errW_none,errW_some] <;> rfl) | (simp [*,errW_none,errW_some] <;> rfl),by first | exact Kd.R_nil _ _ _ _ _ | exact Kd.N_nil _ _ _ _ _ | exact Kd.V_nil _ _ _ _ _ | exact Kd.Q_nil _ _ _ _ _ | exact Kd.S_nil _ _ _ _ _,by repeat (first | (with_reducible first | exact HI0.out | apply IsS72.alloc | apply IsS72.drewN | apply IsS72.drew | apply IsS72.set_1 | apply IsS72.set_2 | apply IsS72.set_3 | apply IsS72.set_4 | refine IsS72.far ?_ zdK.out _) | exact HI0.out),by repeat (first | (with_reducible first | exact HB.out | apply below_alloc | apply pw_below_drewN | apply below_drew1 | refine below_set ?_ (IsS72.ge HI0.out) | refine below_set ?_ GE103.out) | exact HB.out),by repeat (first | (with_reducible first | exact HK.out | apply KeepBut.set_ | apply keep_drewN | apply keep_drew | apply keep_alloc | refine keep_far ?_ GW103.out _) | exact HK.out)⟩
def tree_parser_node.f (s0_0 : List (S63)) (s0_1 : Int) (s0_2 : Int) (s0_3 : Int) (s0_4 : Int) (a1 : Int) (a2 : Int) (l3 : List (S25)) : Option (Int × Int × (List (S25)) × Int × Int × Int × Int) := if s0_4 = 0 then (if (wrap64 (s0_2 + 1)) > 256 then ((tree_parser_fail.f s0_0 s0_1 (wrap64 (s0_2 + 1)) s0_3 s0_4 5).bind fun bt105 => (some (bt105.1,bt105.2.1,bt105.2.2.1,bt105.2.2.2.1,bt105.2.2.2.2.1,bt105.2.2.2.2.2.1,bt105.2.2.2.2.2.2))) else (some (a1,a2,l3,s0_1,wrap64 (s0_2 + 1),s0_3,s0_4))) else (some (0,0,([] : List (S25)),s0_1,s0_2,s0_3,s0_4))
theorem tree_parser_node.calls (g : Nat) (s0_0 : List (S63)) (s0_1 : Int) (s0_2 : Int) (s0_3 : Int) (s0_4 : Int) (a1 : Int) (a2 : Int) (P3_ : Nat → Prop) (A3 : Option Addr) (c3 : Nat) (l3 : List (S25)) (r1 : Int) (r2 : Int) (r3 : List (S25)) (r4 : Int) (r5 : Int) (r6 : Int) (r7 : Int) (w0 w : World) (hI : IsS72 w0 w g s0_0 s0_1 s0_2 s0_3 s0_4) (hB : Below w0.heap.size w0 w) (hs3 : Kd.V k25 25 w w.heap.size (fun k_ => P3_ k_ ∧ k_ ≠ g) (.slice A3 l3.length c3) l3) (h : tree_parser_node.f s0_0 s0_1 s0_2 s0_3 s0_4 a1 a2 l3 = some (r1,r2,r3,r4,r5,r6,r7)) :
  Calls Tryd.prog 62 #[.pointer (some ⟨g,0,none⟩),.int .i64 a1,.int .i64 a2,.slice A3 l3.length c3] w fun e w' => ∃ v2_ : Value,e = .returned (.agg #[.int .i64 r1,.int .i64 r2,v2_]) ∧ Kd.V k25 25 w' w.heap.size (fun k_ => (P3_ k_ ∨ w.heap.size ≤ k_)) v2_ r3 ∧ IsS72 w0 w' g s0_0 r4 r5 r6 r7 ∧ Below w0.heap.size w0 w' ∧ KeepBut w w' g none := by
 have zcz := Tryd.underlying25
 have HO3 := am (show Kd.V k25 25 w w.heap.size (fun k_ => (P3_ k_ ∨ w.heap.size ≤ k_) ∧ k_ ≠ g) (.slice A3 l3.length c3) l3 from Kd.V_mono hs3 (fun k_ hk => ⟨.inl hk.1,hk.2⟩))
 have HI0 := am hI
 have HK := am (KeepBut.refl w g none)
 have HL := am hB.size
 clear hI
 have HW0 := am hB.size
 have HB := am hB
 clear hB
 have H : (if s0_4 = 0 then (if (wrap64 (s0_2 + 1)) > 256 then ((tree_parser_fail.f s0_0 s0_1 (wrap64 (s0_2 + 1)) s0_3 s0_4 5).bind fun bt105 => (some (bt105.1,bt105.2.1,bt105.2.2.1,bt105.2.2.2.1,bt105.2.2.2.2.1,bt105.2.2.2.2.2.1,bt105.2.2.2.2.2.2))) else (some (a1,a2,l3,s0_1,wrap64 (s0_2 + 1),s0_3,s0_4))) else (some (0,0,([] : List (S25)),s0_1,s0_2,s0_3,s0_4))) = some (r1,r2,r3,r4,r5,r6,r7) := h
 clear h
 by_cases c5 : s0_4 = 0
 ·rw [if_pos c5] at H
  have zgH : (s0_4 == 0) = true := beq_iff_eq.mpr c5
  have c5b1 : (s0_4 != 0) = false := bne_eq_false_iff_eq.mpr c5
  clear c5
  by_cases c6 : (wrap64 (s0_2 + 1)) > 256
  ·rw [if_pos c6] at H
   have c6b0 : decide (256 < (wrap64 (s0_2 + 1))) = true := decide_eq_true c6
   clear c6
   replace H := Option.bind_eq_some_iff.mp H
   obtain ⟨⟨t105,t106,t107,t110,t111,t112,t113⟩,A70,H⟩ := H
   replace H : (some (t105,t106,t107,t110,t111,t112,t113)) = some (r1,r2,r3,r4,r5,r6,r7) := H
   have A7 := am A70
   clear A70
   simp only [Option.some.injEq,Prod.mk.injEq] at H
   obtain ⟨rfl,rfl,rfl,rfl,rfl,rfl,rfl⟩ := H
   go_enter Tryd.func62,Tryd.ntmps62
   go_wp2_with (first | ((with_reducible refine gate_dst (N := 8) rfl ?_);refine box_event ?hg (N := 8) ?hd (cs := #[.int .i64 0,.int .i64 0,.slice none 0 0]) (t := 25) ?hr ?_;(case hd => rfl);(case hg => rfl);(case hr => first | (go_simp;done) | (go_simp;rfl));intro gb104 hg w8 zan hb;have n0_ := am (Kd.V_below (Kd.V_elderB HO3.out gb104 (Nat.le_of_eq hg.symm)) hb);have n1_ := am (IsS72.below (by repeat (first | (with_reducible first | exact HI0.out | apply IsS72.alloc | apply IsS72.drewN | apply IsS72.drew | apply IsS72.set_1 | apply IsS72.set_2 | apply IsS72.set_3 | apply IsS72.set_4) | exact HI0.out)) hb);have n2_ := am (KeepBut.trans (by repeat (first | (with_reducible first | exact HK.out | apply KeepBut.set_ | apply keep_drewN | apply keep_drew | apply keep_alloc) | exact HK.out)) (KeepBut.of_below hb g none) (.inl rfl));have n3_ := am (below_step HB.out hb);have n4_ := am (zan);have n5_ := am ((by rw [hg];exact (keep_size (w := w) (g := g) (row := none) (by repeat (first | (with_reducible first | exact HK.out | apply KeepBut.set_ | apply keep_drewN | apply keep_drew | apply keep_alloc) | exact HK.out))) : w.heap.size ≤ gb104));have n6_ := am ((Nat.le_trans HW0.out (by rw [hg];exact (keep_size (w := w) (g := g) (row := none) (by repeat (first | (with_reducible first | exact HK.out | apply KeepBut.set_ | apply keep_drewN | apply keep_drew | apply keep_alloc) | exact HK.out))) : w.heap.size ≤ gb104) : w0.heap.size ≤ gb104));have n7_ := am ((by rw [hg];exact Nat.ne_of_lt (IsS72.lt (show IsS72 w0 _ g s0_0 s0_1 s0_2 s0_3 s0_4 from by repeat (first | (with_reducible first | exact HI0.out | apply IsS72.alloc | apply IsS72.drewN | apply IsS72.drew | apply IsS72.set_1 | apply IsS72.set_2 | apply IsS72.set_3 | apply IsS72.set_4) | exact HI0.out))) : g ≠ gb104));have n8_ := am ((by rw [hg];exact Nat.ne_of_gt (IsS72.lt (show IsS72 w0 _ g s0_0 s0_1 s0_2 s0_3 s0_4 from by repeat (first | (with_reducible first | exact HI0.out | apply IsS72.alloc | apply IsS72.drewN | apply IsS72.drew | apply IsS72.set_1 | apply IsS72.set_2 | apply IsS72.set_3 | apply IsS72.set_4) | exact HI0.out))) : gb104 ≠ g));clear HO3;clear HI0;clear HK;clear HB;have HO3 := n0_;have HI0 := n1_;have HK := n2_;have HB := n3_;have zb8 := n4_;have zeX := n5_;have zgt := n6_;have zcF := n7_;have zcG := n8_;clear n0_ n1_ n2_ n3_ n4_ n5_ n6_ n7_ n8_;clear hb zan hg;obtain ⟨ASz9_0,cSz9_0,zcZ,hgz9,HSz9_0⟩ := HI0.out;have zdF := cellS72_0 zcZ;have zdG := cellS72_1 zcZ;have zdH := cellS72_2 zcZ;have hcz9_3 := cellS72_3 zcZ;have hcz9_4 := cellS72_4 zcZ;have zdI := blk_frozen zcZ 1;have zdJ := blk_frozen zcZ 2;have hfz9_3 := blk_frozen zcZ 3;have hfz9_4 := blk_frozen zcZ 4;clear zcZ hgz9) | ((with_reducible refine gate_callee (f := 83) rfl ?_);refine goesL_ (some 28) rfl rfl Tryd.func83 (by kernel_rfl) rfl #[.pointer (some ⟨g,0,none⟩),.int .i64 5] rfl (by (try simp only [List.map_toArray,List.map_cons,List.map_nil]);first | done | rfl | (simp only [List.length_drop,List.length_take];rfl)) ?_;(with_reducible refine (tree_parser_fail.calls g s0_0 s0_1 (wrap64 (s0_2 + 1)) s0_3 s0_4 5 t105 t106 t107 t110 t111 t112 t113 w0 _ ?za8 ?zbh A7.out).mono ?_);(case za8 => repeat (first | (with_reducible first | exact HI0.out | apply IsS72.alloc | apply IsS72.drewN | apply IsS72.drew | apply IsS72.set_1 | apply IsS72.set_2 | apply IsS72.set_3 | apply IsS72.set_4 | refine IsS72.far ?_ zcF.out _) | exact HI0.out));(case zbh => repeat (first | (with_reducible first | exact HB.out | apply below_alloc | apply pw_below_drewN | apply below_drew1 | refine below_set ?_ (IsS72.ge HI0.out) | refine below_set ?_ zgt.out) | exact HB.out));rintro e w10 ⟨v108,rfl,ho0,hi,hb,hk⟩;refine ⟨_,rfl,?_⟩;have n0_ := am (Kd.V_mono (Kd.V_told (Kd.V_oldK (Kd.V_mono (ok := fun k_ => ((((P3_ k_ ∨ w.heap.size ≤ k_)) ∧ k_ ≠ g) ∧ k_ ≠ gb104)) (Kd.V_mono (Kd.V_far (p := ⟨g,2,none⟩) (Kd.V_mono HO3.out (fun k_ hk => (⟨hk,hk.1.2⟩ : _ ∧ k_ ≠ g))) (fun _ hk => hk.2) (.int .i64 (wrap64 (s0_2 + 1)))) (fun _ h_ => h_.1)) (fun k_ hk_ => (⟨hk_,hk_.1.2⟩ : _ ∧ k_ ≠ g))) hk) (Kd.R_base ho0)) (fun _ h_ => h_.1));have n1_ := am (KeepBut.blk hk (g' := gb104) (o := .cells #[.int .i64 0,.int .i64 0,.slice none 0 0] 25 (0,0)) (by (with_reducible repeat (first | refine blk_drewN ?_ _ | refine blk_drew ?_ | refine blk_alloc ?_ _));refine blk_far ?_ zcG.out _;(with_reducible repeat (first | refine blk_drewN ?_ _ | refine blk_drew ?_ | refine blk_alloc ?_ _));exact zb8.out) zcG.out (by simp));have n2_ := am (Kd.R_lower (Kd.R_newB (Kd.R_newM (M := fun k_ => (w.heap.size ≤ k_)) ho0 (keep_size (w := w) (g := g) (row := none) (by repeat (first | (with_reducible first | exact HK.out | apply KeepBut.set_ | apply keep_drewN | apply keep_drew | apply keep_alloc | refine keep_far ?_ zeX.out _) | exact HK.out))) (fun k_ h_ => h_)) (g := gb104) (o := .cells #[.int .i64 0,.int .i64 0,.slice none 0 0] 25 (0,0)) (by (with_reducible repeat (first | refine blk_drewN ?_ _ | refine blk_drew ?_ | refine blk_alloc ?_ _));refine blk_far ?_ zcG.out _;(with_reducible repeat (first | refine blk_drewN ?_ _ | refine blk_drew ?_ | refine blk_alloc ?_ _));exact zb8.out)) (keep_size (w := w) (g := g) (row := none) (by repeat (first | (with_reducible first | exact HK.out | apply KeepBut.set_ | apply keep_drewN | apply keep_drew | apply keep_alloc | refine keep_far ?_ zeX.out _) | exact HK.out))));have n3_ := am (KeepBut.trans (by repeat (first | (with_reducible first | exact HK.out | apply KeepBut.set_ | apply keep_drewN | apply keep_drew | apply keep_alloc | refine keep_far ?_ zeX.out _) | exact HK.out)) hk (.inl rfl));have n4_ := am (hb);have n5_ := am (hi);clear HO3;clear zb8;clear HK;clear HB;clear HI0;have HO3 := n0_;have zb8 := n1_;have HO109 := n2_;have HK := n3_;have HB := n4_;have HI0 := n5_;clear n0_ n1_ n2_ n3_ n4_ n5_;(try clear hb);(try clear hb2);(try clear hk);(try clear hi);(try clear ho0);have hnb11 := zcG.out;have hnc11 := zcF.out;have zfg : w10.cell? ⟨gb104,0,none⟩ = some (.int .i64 0) := (blk_cell zb8.out 0).trans rfl;have zfh : w10.cell? ⟨gb104,1,none⟩ = some (.int .i64 0) := (blk_cell zb8.out 1).trans rfl;have zfi : w10.cell? ⟨gb104,2,none⟩ = some (.slice none 0 0) := (blk_cell zb8.out 2).trans rfl;have zfj := blk_frozen zb8.out 0;have zfk := blk_frozen zb8.out 1;have zfl := blk_frozen zb8.out 2;obtain ⟨Ao13,co13,eo13⟩ := Kd.R_slice HO109.out;subst eo13))
   refine bodyPost_ret (results_cell_row rfl _ _ gb104 25 #[.int .i64 t105,.int .i64 t106,.slice Ao13 t107.length co13] (0,0) _ rfl (by (with_reducible repeat (first | refine blk_drewN ?_ _ | refine blk_drew ?_ | refine blk_alloc ?_ _));refine blk_put (cs := #[.int .i64 t105,.int .i64 t106,.slice none 0 0]) ?_ 2 _ rfl;(with_reducible repeat (first | refine blk_drewN ?_ _ | refine blk_drew ?_ | refine blk_alloc ?_ _));refine blk_put (cs := #[.int .i64 t105,.int .i64 0,.slice none 0 0]) ?_ 1 _ rfl;(with_reducible repeat (first | refine blk_drewN ?_ _ | refine blk_drew ?_ | refine blk_alloc ?_ _));refine blk_put (cs := #[.int .i64 0,.int .i64 0,.slice none 0 0]) ?_ 0 _ rfl;(with_reducible repeat (first | refine blk_drewN ?_ _ | refine blk_drew ?_ | refine blk_alloc ?_ _));exact zb8.out) Tryd.underlying25 rfl (by kernel_rfl)) rfl ?_
   exact ⟨_,by first | rfl | (simp [errW_none,errW_some] <;> rfl) | (simp [*,errW_none,errW_some] <;> rfl),Kd.V_mono (Kd.R_V (Kd.R_mono (Kd.R_far (p := ⟨gb104,2,none⟩) (Kd.R_far (p := ⟨gb104,1,none⟩) (Kd.R_far (p := ⟨gb104,0,none⟩) (Kd.R_mono HO109.out (fun k_ hk => (⟨hk,hk.2⟩ : _ ∧ k_ ≠ gb104))) (fun _ hk => hk.2) (.int .i64 t105)) (fun _ hk => hk.2) (.int .i64 t106)) (fun _ hk => hk.2) (.slice Ao13 t107.length co13)) (fun _ hk => hk.1.1.1))) (fun k_ hk => by first | exact ⟨(.inr (hk.1)),hk.2⟩ | exact (.inr (hk))),by repeat (first | (with_reducible first | exact HI0.out | apply IsS72.alloc | apply IsS72.drewN | apply IsS72.drew | apply IsS72.set_1 | apply IsS72.set_2 | apply IsS72.set_3 | apply IsS72.set_4 | refine IsS72.far ?_ zcF.out _) | exact HI0.out),by repeat (first | (with_reducible first | exact HB.out | apply below_alloc | apply pw_below_drewN | apply below_drew1 | refine below_set ?_ (IsS72.ge HI0.out) | refine below_set ?_ zgt.out) | exact HB.out),by repeat (first | (with_reducible first | exact HK.out | apply KeepBut.set_ | apply keep_drewN | apply keep_drew | apply keep_alloc | refine keep_far ?_ zeX.out _) | exact HK.out)⟩
  ·rw [if_neg c6] at H
   have c6b0 : decide (256 < (wrap64 (s0_2 + 1))) = false := decide_eq_false c6
   clear c6
   simp only [Option.some.injEq,Prod.mk.injEq] at H
   obtain ⟨rfl,rfl,rfl,rfl,rfl,rfl,rfl⟩ := H
   go_enter Tryd.func62,Tryd.ntmps62
   go_wp2_with (first | ((with_reducible refine gate_dst (N := 8) rfl ?_);refine box_event ?hg (N := 8) ?hd (cs := #[.int .i64 0,.int .i64 0,.slice none 0 0]) (t := 25) ?hr ?_;(case hd => rfl);(case hg => rfl);(case hr => first | (go_simp;done) | (go_simp;rfl));intro gb104 hg w14 zan hb;have n0_ := am (Kd.V_below (Kd.V_elderB HO3.out gb104 (Nat.le_of_eq hg.symm)) hb);have n1_ := am (IsS72.below (by repeat (first | (with_reducible first | exact HI0.out | apply IsS72.alloc | apply IsS72.drewN | apply IsS72.drew | apply IsS72.set_1 | apply IsS72.set_2 | apply IsS72.set_3 | apply IsS72.set_4) | exact HI0.out)) hb);have n2_ := am (KeepBut.trans (by repeat (first | (with_reducible first | exact HK.out | apply KeepBut.set_ | apply keep_drewN | apply keep_drew | apply keep_alloc) | exact HK.out)) (KeepBut.of_below hb g none) (.inl rfl));have n3_ := am (below_step HB.out hb);have n4_ := am (zan);have n5_ := am ((by rw [hg];exact (keep_size (w := w) (g := g) (row := none) (by repeat (first | (with_reducible first | exact HK.out | apply KeepBut.set_ | apply keep_drewN | apply keep_drew | apply keep_alloc) | exact HK.out))) : w.heap.size ≤ gb104));have n6_ := am ((Nat.le_trans HW0.out (by rw [hg];exact (keep_size (w := w) (g := g) (row := none) (by repeat (first | (with_reducible first | exact HK.out | apply KeepBut.set_ | apply keep_drewN | apply keep_drew | apply keep_alloc) | exact HK.out))) : w.heap.size ≤ gb104) : w0.heap.size ≤ gb104));have n7_ := am ((by rw [hg];exact Nat.ne_of_lt (IsS72.lt (show IsS72 w0 _ g s0_0 s0_1 s0_2 s0_3 s0_4 from by repeat (first | (with_reducible first | exact HI0.out | apply IsS72.alloc | apply IsS72.drewN | apply IsS72.drew | apply IsS72.set_1 | apply IsS72.set_2 | apply IsS72.set_3 | apply IsS72.set_4) | exact HI0.out))) : g ≠ gb104));have n8_ := am ((by rw [hg];exact Nat.ne_of_gt (IsS72.lt (show IsS72 w0 _ g s0_0 s0_1 s0_2 s0_3 s0_4 from by repeat (first | (with_reducible first | exact HI0.out | apply IsS72.alloc | apply IsS72.drewN | apply IsS72.drew | apply IsS72.set_1 | apply IsS72.set_2 | apply IsS72.set_3 | apply IsS72.set_4) | exact HI0.out))) : gb104 ≠ g));clear HO3;clear HI0;clear HK;clear HB;have HO3 := n0_;have HI0 := n1_;have HK := n2_;have HB := n3_;have zb8 := n4_;have zeX := n5_;have zgt := n6_;have zcF := n7_;have zcG := n8_;clear n0_ n1_ n2_ n3_ n4_ n5_ n6_ n7_ n8_;clear hb zan hg;obtain ⟨ASz15_0,cSz15_0,zeu,hgz15,HSz15_0⟩ := HI0.out;have zfm := cellS72_0 zeu;have zfn := cellS72_1 zeu;have zfo := cellS72_2 zeu;have hcz15_3 := cellS72_3 zeu;have hcz15_4 := cellS72_4 zeu;have zfp := blk_frozen zeu 1;have zfq := blk_frozen zeu 2;have hfz15_3 := blk_frozen zeu 3;have hfz15_4 := blk_frozen zeu 4;clear zeu hgz15;have hnb16 := zcG.out;have hnc16 := zcF.out;have zgR : w14.cell? ⟨gb104,0,none⟩ = some (.int .i64 0) := (blk_cell zb8.out 0).trans rfl;have zgS : w14.cell? ⟨gb104,1,none⟩ = some (.int .i64 0) := (blk_cell zb8.out 1).trans rfl;have zgT : w14.cell? ⟨gb104,2,none⟩ = some (.slice none 0 0) := (blk_cell zb8.out 2).trans rfl;have zgU := blk_frozen zb8.out 0;have zgV := blk_frozen zb8.out 1;have zgW := blk_frozen zb8.out 2))
   refine bodyPost_ret (results_cell_row rfl _ _ gb104 25 #[.int .i64 a1,.int .i64 a2,.slice A3 l3.length c3] (0,0) _ rfl (by (with_reducible repeat (first | refine blk_drewN ?_ _ | refine blk_drew ?_ | refine blk_alloc ?_ _));refine blk_put (cs := #[.int .i64 a1,.int .i64 a2,.slice none 0 0]) ?_ 2 _ rfl;(with_reducible repeat (first | refine blk_drewN ?_ _ | refine blk_drew ?_ | refine blk_alloc ?_ _));refine blk_put (cs := #[.int .i64 a1,.int .i64 0,.slice none 0 0]) ?_ 1 _ rfl;(with_reducible repeat (first | refine blk_drewN ?_ _ | refine blk_drew ?_ | refine blk_alloc ?_ _));refine blk_put (cs := #[.int .i64 0,.int .i64 0,.slice none 0 0]) ?_ 0 _ rfl;(with_reducible repeat (first | refine blk_drewN ?_ _ | refine blk_drew ?_ | refine blk_alloc ?_ _));refine blk_far ?_ zcG.out _;(with_reducible repeat (first | refine blk_drewN ?_ _ | refine blk_drew ?_ | refine blk_alloc ?_ _));exact zb8.out) Tryd.underlying25 rfl (by kernel_rfl)) rfl ?_
   exact ⟨_,by first | rfl | (simp [errW_none,errW_some] <;> rfl) | (simp [*,errW_none,errW_some] <;> rfl),by (with_reducible repeat (first | apply Kd.V_alloc | apply Kd.V_drewN | apply Kd.V_drew));exact Kd.V_mono (Kd.V_far (p := ⟨gb104,2,none⟩) (Kd.V_far (p := ⟨gb104,1,none⟩) (Kd.V_far (p := ⟨gb104,0,none⟩) (Kd.V_far (p := ⟨g,2,none⟩) (Kd.V_mono (Kd.V_mono HO3.out (fun k_ hk => (⟨hk,hk.1.2⟩ : _ ∧ k_ ≠ g))) (fun k_ hk => (⟨hk,hk.1.2⟩ : _ ∧ k_ ≠ gb104))) (fun _ hk => hk.1.2) (.int .i64 (wrap64 (s0_2 + 1)))) (fun _ hk => hk.2) (.int .i64 a1)) (fun _ hk => hk.2) (.int .i64 a2)) (fun _ hk => hk.2) (.slice A3 l3.length c3)) (fun _ hk => hk.1.1.1.1),by repeat (first | (with_reducible first | exact HI0.out | apply IsS72.alloc | apply IsS72.drewN | apply IsS72.drew | apply IsS72.set_1 | apply IsS72.set_2 | apply IsS72.set_3 | apply IsS72.set_4 | refine IsS72.far ?_ zcF.out _) | exact HI0.out),by repeat (first | (with_reducible first | exact HB.out | apply below_alloc | apply pw_below_drewN | apply below_drew1 | refine below_set ?_ (IsS72.ge HI0.out) | refine below_set ?_ zgt.out) | exact HB.out),by repeat (first | (with_reducible first | exact HK.out | apply KeepBut.set_ | apply keep_drewN | apply keep_drew | apply keep_alloc | refine keep_far ?_ zeX.out _) | exact HK.out)⟩
 ·rw [if_neg c5] at H
  have zgH : (s0_4 == 0) = false := beq_eq_false_iff_ne.mpr c5
  have c5b1 : (s0_4 != 0) = true := bne_iff_ne.mpr c5
  simp only [Option.some.injEq,Prod.mk.injEq] at H
  obtain ⟨rfl,rfl,rfl,rfl,rfl,rfl,rfl⟩ := H
  go_enter Tryd.func62,Tryd.ntmps62
  go_wp2_with (first | ((with_reducible refine gate_dst (N := 8) rfl ?_);refine box_event ?hg (N := 8) ?hd (cs := #[.int .i64 0,.int .i64 0,.slice none 0 0]) (t := 25) ?hr ?_;(case hd => rfl);(case hg => rfl);(case hr => first | (go_simp;done) | (go_simp;rfl));intro gb104 hg w18 zan hb;have n0_ := am (Kd.V_below (Kd.V_elderB HO3.out gb104 (Nat.le_of_eq hg.symm)) hb);have n1_ := am (IsS72.below (by repeat (first | (with_reducible first | exact HI0.out | apply IsS72.alloc | apply IsS72.drewN | apply IsS72.drew | apply IsS72.set_1 | apply IsS72.set_2 | apply IsS72.set_3 | apply IsS72.set_4) | exact HI0.out)) hb);have n2_ := am (KeepBut.trans (by repeat (first | (with_reducible first | exact HK.out | apply KeepBut.set_ | apply keep_drewN | apply keep_drew | apply keep_alloc) | exact HK.out)) (KeepBut.of_below hb g none) (.inl rfl));have n3_ := am (below_step HB.out hb);have n4_ := am (zan);have n5_ := am ((by rw [hg];exact (keep_size (w := w) (g := g) (row := none) (by repeat (first | (with_reducible first | exact HK.out | apply KeepBut.set_ | apply keep_drewN | apply keep_drew | apply keep_alloc) | exact HK.out))) : w.heap.size ≤ gb104));have n6_ := am ((Nat.le_trans HW0.out (by rw [hg];exact (keep_size (w := w) (g := g) (row := none) (by repeat (first | (with_reducible first | exact HK.out | apply KeepBut.set_ | apply keep_drewN | apply keep_drew | apply keep_alloc) | exact HK.out))) : w.heap.size ≤ gb104) : w0.heap.size ≤ gb104));have n7_ := am ((by rw [hg];exact Nat.ne_of_lt (IsS72.lt (show IsS72 w0 _ g s0_0 s0_1 s0_2 s0_3 s0_4 from by repeat (first | (with_reducible first | exact HI0.out | apply IsS72.alloc | apply IsS72.drewN | apply IsS72.drew | apply IsS72.set_1 | apply IsS72.set_2 | apply IsS72.set_3 | apply IsS72.set_4) | exact HI0.out))) : g ≠ gb104));have n8_ := am ((by rw [hg];exact Nat.ne_of_gt (IsS72.lt (show IsS72 w0 _ g s0_0 s0_1 s0_2 s0_3 s0_4 from by repeat (first | (with_reducible first | exact HI0.out | apply IsS72.alloc | apply IsS72.drewN | apply IsS72.drew | apply IsS72.set_1 | apply IsS72.set_2 | apply IsS72.set_3 | apply IsS72.set_4) | exact HI0.out))) : gb104 ≠ g));clear HO3;clear HI0;clear HK;clear HB;have HO3 := n0_;have HI0 := n1_;have HK := n2_;have HB := n3_;have zb8 := n4_;have zeX := n5_;have zgt := n6_;have zcF := n7_;have zcG := n8_;clear n0_ n1_ n2_ n3_ n4_ n5_ n6_ n7_ n8_;clear hb zan hg;obtain ⟨ASz19_0,cSz19_0,zev,hgz19,HSz19_0⟩ := HI0.out;have zdL := cellS72_0 zev;have zdM := cellS72_1 zev;have zdN := cellS72_2 zev;have hcz19_3 := cellS72_3 zev;have hcz19_4 := cellS72_4 zev;have zdO := blk_frozen zev 1;have zdP := blk_frozen zev 2;have hfz19_3 := blk_frozen zev 3;have hfz19_4 := blk_frozen zev 4;clear zev hgz19;have hnb20 := zcG.out;have hnc20 := zcF.out;have zc6 : w18.cell? ⟨gb104,0,none⟩ = some (.int .i64 0) := (blk_cell zb8.out 0).trans rfl;have zc7 : w18.cell? ⟨gb104,1,none⟩ = some (.int .i64 0) := (blk_cell zb8.out 1).trans rfl;have zc8 : w18.cell? ⟨gb104,2,none⟩ = some (.slice none 0 0) := (blk_cell zb8.out 2).trans rfl;have zc9 := blk_frozen zb8.out 0;have zda := blk_frozen zb8.out 1;have zdb := blk_frozen zb8.out 2))
  refine bodyPost_ret (results_cell_row rfl _ _ gb104 25 #[.int .i64 0,.int .i64 0,.slice none 0 0] (0,0) _ rfl (by (with_reducible repeat (first | refine blk_drewN ?_ _ | refine blk_drew ?_ | refine blk_alloc ?_ _));refine blk_put (cs := #[.int .i64 0,.int .i64 0,.slice none 0 0]) ?_ 2 _ rfl;(with_reducible repeat (first | refine blk_drewN ?_ _ | refine blk_drew ?_ | refine blk_alloc ?_ _));refine blk_put (cs := #[.int .i64 0,.int .i64 0,.slice none 0 0]) ?_ 1 _ rfl;(with_reducible repeat (first | refine blk_drewN ?_ _ | refine blk_drew ?_ | refine blk_alloc ?_ _));refine blk_put (cs := #[.int .i64 0,.int .i64 0,.slice none 0 0]) ?_ 0 _ rfl;(with_reducible repeat (first | refine blk_drewN ?_ _ | refine blk_drew ?_ | refine blk_alloc ?_ _));exact zb8.out) Tryd.underlying25 rfl (by kernel_rfl)) rfl ?_
  exact ⟨_,by first | rfl | (simp [errW_none,errW_some] <;> rfl) | (simp [*,errW_none,errW_some] <;> rfl),Kd.V_mono ((Kd.V_nil _ _ _ _ _)) (fun k_ hk => by first | exact ⟨(.inr (hk.1)),hk.2⟩ | exact (.inr (hk))),by repeat (first | (with_reducible first | exact HI0.out | apply IsS72.alloc | apply IsS72.drewN | apply IsS72.drew | apply IsS72.set_1 | apply IsS72.set_2 | apply IsS72.set_3 | apply IsS72.set_4 | refine IsS72.far ?_ zcF.out _) | exact HI0.out),by repeat (first | (with_reducible first | exact HB.out | apply below_alloc | apply pw_below_drewN | apply below_drew1 | refine below_set ?_ (IsS72.ge HI0.out) | refine below_set ?_ zgt.out) | exact HB.out),by repeat (first | (with_reducible first | exact HK.out | apply KeepBut.set_ | apply keep_drewN | apply keep_drew | apply keep_alloc | refine keep_far ?_ zeX.out _) | exact HK.out)⟩
end Go.Proofs.YtgnmdhnlcibbiaaDoor.P
end
section
namespace Go.Proofs.YtgnmdhnlcibbiaaDoor.P
open Go.RowKit Go.Proofs.PrintWords Go.Proofs.PrintLast Go.Proofs.PrintMore
attribute [local go_sem] max2_int min2_int max_two min_two max_three min_three max_four min_four   -- for this text's walks alone
set_option linter.unusedVariables false
set_option linter.unusedSimpArgs false
def tree_parser_takes.f (s0_0 : List (S63)) (s0_1 : Int) (s0_2 : Int) (s0_3 : Int) (s0_4 : Int) (a1 : ByteArray) : Option (Bool × Int × Int × Int × Int) := (tree_parser_is.f s0_0 s0_1 s0_2 s0_3 s0_4 a1).bind fun bt114 => (if bt114.1 = true then (some (true,wrap64 (bt114.2.1 + 1),bt114.2.2.1,bt114.2.2.2.1,bt114.2.2.2.2)) else (some (false,bt114.2.1,bt114.2.2.1,bt114.2.2.2.1,bt114.2.2.2.2)))
theorem tree_parser_takes.calls (g : Nat) (s0_0 : List (S63)) (s0_1 : Int) (s0_2 : Int) (s0_3 : Int) (s0_4 : Int) (a1 : ByteArray) (r1 : Bool) (r2 : Int) (r3 : Int) (r4 : Int) (r5 : Int) (w0 w : World) (hI : IsS72 w0 w g s0_0 s0_1 s0_2 s0_3 s0_4) (hB : Below w0.heap.size w0 w) (h : tree_parser_takes.f s0_0 s0_1 s0_2 s0_3 s0_4 a1 = some (r1,r2,r3,r4,r5)) :
  Calls Tryd.prog 93 #[.pointer (some ⟨g,0,none⟩),.string a1] w fun e w' => e = .returned (.bool r1) ∧ IsS72 w0 w' g s0_0 r2 r3 r4 r5 ∧ Below w0.heap.size w0 w' ∧ KeepBut w w' g none := by
 have HI0 := am hI
 have HK := am (KeepBut.refl w g none)
 have HL := am hB.size
 clear hI
 have HW0 := am hB.size
 have HB := am hB
 clear hB
 have H : ((tree_parser_is.f s0_0 s0_1 s0_2 s0_3 s0_4 a1).bind fun bt114 => (if bt114.1 = true then (some (true,wrap64 (bt114.2.1 + 1),bt114.2.2.1,bt114.2.2.2.1,bt114.2.2.2.2)) else (some (false,bt114.2.1,bt114.2.2.1,bt114.2.2.2.1,bt114.2.2.2.2)))) = some (r1,r2,r3,r4,r5) := h
 clear h
 replace H := Option.bind_eq_some_iff.mp H
 obtain ⟨⟨t114,t115,t116,t117,t118⟩,A30,H⟩ := H
 replace H : (if t114 = true then (some (true,wrap64 (t115 + 1),t116,t117,t118)) else (some (false,t115,t116,t117,t118))) = some (r1,r2,r3,r4,r5) := H
 have A3 := am A30
 clear A30
 by_cases c4 : t114 = true
 ·subst c4
  have H1 : (some (true,wrap64 (t115 + 1),t116,t117,t118)) = some (r1,r2,r3,r4,r5) := by rw [if_pos rfl] at H;exact H
  clear H
  have H := H1
  clear H1
  simp only [Option.some.injEq,Prod.mk.injEq] at H
  obtain ⟨rfl,rfl,rfl,rfl,rfl⟩ := H
  go_enter Tryd.func93,Tryd.ntmps93
  go_wp2_with (first | ((with_reducible refine gate_callee (f := 59) rfl ?_);refine goesL_ (some 7) rfl rfl Tryd.func59 (by kernel_rfl) rfl #[.pointer (some ⟨g,0,none⟩),.string a1] rfl (by (try simp only [List.map_toArray,List.map_cons,List.map_nil]);first | done | rfl | (simp only [List.length_drop,List.length_take];rfl)) ?_;(with_reducible refine (tree_parser_is.calls g s0_0 s0_1 s0_2 s0_3 s0_4 a1 true t115 t116 t117 t118 w0 _ ?za8 ?zbh A3.out).mono ?_);(case za8 => repeat (first | (with_reducible first | exact HI0.out | apply IsS72.alloc | apply IsS72.drewN | apply IsS72.drew | apply IsS72.set_1 | apply IsS72.set_2 | apply IsS72.set_3 | apply IsS72.set_4) | exact HI0.out));(case zbh => repeat (first | (with_reducible first | exact HB.out | apply below_alloc | apply pw_below_drewN | apply below_drew1 | refine below_set ?_ (IsS72.ge HI0.out)) | exact HB.out));rintro e w5 ⟨rfl,hi,hb,hk⟩;refine ⟨_,rfl,?_⟩;have n0_ := am (KeepBut.trans (by repeat (first | (with_reducible first | exact HK.out | apply KeepBut.set_ | apply keep_drewN | apply keep_drew | apply keep_alloc) | exact HK.out)) hk (.inl rfl));have n1_ := am (hb);have n2_ := am (hi);clear HK;clear HB;clear HI0;have HK := n0_;have HB := n1_;have HI0 := n2_;clear n0_ n1_ n2_;(try clear hb);(try clear hb2);(try clear hk);(try clear hi);obtain ⟨ASz6_0,cSz6_0,HGz6,hgz6,HSz6_0⟩ := HI0.out;have hcz6_0 := cellS72_0 HGz6;have hcz6_1 := cellS72_1 HGz6;have hcz6_2 := cellS72_2 HGz6;have hcz6_3 := cellS72_3 HGz6;have hcz6_4 := cellS72_4 HGz6;have hfz6_1 := blk_frozen HGz6 1;have hfz6_2 := blk_frozen HGz6 2;have hfz6_3 := blk_frozen HGz6 3;have hfz6_4 := blk_frozen HGz6 4;clear HGz6 hgz6))
  go_ret
  exact ⟨by first | rfl | (simp [errW_none,errW_some] <;> rfl) | (simp [*,errW_none,errW_some] <;> rfl),by repeat (first | (with_reducible first | exact HI0.out | apply IsS72.alloc | apply IsS72.drewN | apply IsS72.drew | apply IsS72.set_1 | apply IsS72.set_2 | apply IsS72.set_3 | apply IsS72.set_4) | exact HI0.out),by repeat (first | (with_reducible first | exact HB.out | apply below_alloc | apply pw_below_drewN | apply below_drew1 | refine below_set ?_ (IsS72.ge HI0.out)) | exact HB.out),by repeat (first | (with_reducible first | exact HK.out | apply KeepBut.set_ | apply keep_drewN | apply keep_drew | apply keep_alloc) | exact HK.out)⟩
 ·replace c4 := Bool.eq_false_iff.mpr c4
  subst c4
  have H1 : (some (false,t115,t116,t117,t118)) = some (r1,r2,r3,r4,r5) := by rw [if_neg (show ¬ (false = true) by decide)] at H;exact H
  clear H
  have H := H1
  clear H1
  simp only [Option.some.injEq,Prod.mk.injEq] at H
  obtain ⟨rfl,rfl,rfl,rfl,rfl⟩ := H
  go_enter Tryd.func93,Tryd.ntmps93
  go_wp2_with (first | ((with_reducible refine gate_callee (f := 59) rfl ?_);refine goesL_ (some 7) rfl rfl Tryd.func59 (by kernel_rfl) rfl #[.pointer (some ⟨g,0,none⟩),.string a1] rfl (by (try simp only [List.map_toArray,List.map_cons,List.map_nil]);first | done | rfl | (simp only [List.length_drop,List.length_take];rfl)) ?_;(with_reducible refine (tree_parser_is.calls g s0_0 s0_1 s0_2 s0_3 s0_4 a1 false t115 t116 t117 t118 w0 _ ?za8 ?zbh A3.out).mono ?_);(case za8 => repeat (first | (with_reducible first | exact HI0.out | apply IsS72.alloc | apply IsS72.drewN | apply IsS72.drew | apply IsS72.set_1 | apply IsS72.set_2 | apply IsS72.set_3 | apply IsS72.set_4) | exact HI0.out));(case zbh => repeat (first | (with_reducible first | exact HB.out | apply below_alloc | apply pw_below_drewN | apply below_drew1 | refine below_set ?_ (IsS72.ge HI0.out)) | exact HB.out));rintro e w7 ⟨rfl,hi,hb,hk⟩;refine ⟨_,rfl,?_⟩;have n0_ := am (KeepBut.trans (by repeat (first | (with_reducible first | exact HK.out | apply KeepBut.set_ | apply keep_drewN | apply keep_drew | apply keep_alloc) | exact HK.out)) hk (.inl rfl));have n1_ := am (hb);have n2_ := am (hi);clear HK;clear HB;clear HI0;have HK := n0_;have HB := n1_;have HI0 := n2_;clear n0_ n1_ n2_;(try clear hb);(try clear hb2);(try clear hk);(try clear hi)))
  go_ret
  exact ⟨by first | rfl | (simp [errW_none,errW_some] <;> rfl) | (simp [*,errW_none,errW_some] <;> rfl),by repeat (first | (with_reducible first | exact HI0.out | apply IsS72.alloc | apply IsS72.drewN | apply IsS72.drew | apply IsS72.set_1 | apply IsS72.set_2 | apply IsS72.set_3 | apply IsS72.set_4) | exact HI0.out),by repeat (first | (with_reducible first | exact HB.out | apply below_alloc | apply pw_below_drewN | apply below_drew1 | refine below_set ?_ (IsS72.ge HI0.out)) | exact HB.out),by repeat (first | (with_reducible first | exact HK.out | apply KeepBut.set_ | apply keep_drewN | apply keep_drew | apply keep_alloc) | exact HK.out)⟩
def tree_parser_must.f (s0_0 : List (S63)) (s0_1 : Int) (s0_2 : Int) (s0_3 : Int) (s0_4 : Int) (a1 : ByteArray) : Option (Int × Int × Int × Int) := (tree_parser_takes.f s0_0 s0_1 s0_2 s0_3 s0_4 a1).bind fun bt119 => (if bt119.1 = true then (some (bt119.2.1,bt119.2.2.1,bt119.2.2.2.1,bt119.2.2.2.2)) else ((tree_parser_fail.f s0_0 bt119.2.1 bt119.2.2.1 bt119.2.2.2.1 bt119.2.2.2.2 2).bind fun bt124 => (some (bt124.2.2.2.1,bt124.2.2.2.2.1,bt124.2.2.2.2.2.1,bt124.2.2.2.2.2.2))))
theorem tree_parser_must.calls (g : Nat) (s0_0 : List (S63)) (s0_1 : Int) (s0_2 : Int) (s0_3 : Int) (s0_4 : Int) (a1 : ByteArray) (r1 : Int) (r2 : Int) (r3 : Int) (r4 : Int) (w0 w : World) (hI : IsS72 w0 w g s0_0 s0_1 s0_2 s0_3 s0_4) (hB : Below w0.heap.size w0 w) (h : tree_parser_must.f s0_0 s0_1 s0_2 s0_3 s0_4 a1 = some (r1,r2,r3,r4)) :
  Calls Tryd.prog 85 #[.pointer (some ⟨g,0,none⟩),.string a1] w fun e w' => e = .returned (.tuple #[]) ∧ IsS72 w0 w' g s0_0 r1 r2 r3 r4 ∧ Below w0.heap.size w0 w' ∧ KeepBut w w' g none := by
 have HI0 := am hI
 have HK := am (KeepBut.refl w g none)
 have HL := am hB.size
 clear hI
 have HW0 := am hB.size
 have HB := am hB
 clear hB
 have H : ((tree_parser_takes.f s0_0 s0_1 s0_2 s0_3 s0_4 a1).bind fun bt119 => (if bt119.1 = true then (some (bt119.2.1,bt119.2.2.1,bt119.2.2.2.1,bt119.2.2.2.2)) else ((tree_parser_fail.f s0_0 bt119.2.1 bt119.2.2.1 bt119.2.2.2.1 bt119.2.2.2.2 2).bind fun bt124 => (some (bt124.2.2.2.1,bt124.2.2.2.2.1,bt124.2.2.2.2.2.1,bt124.2.2.2.2.2.2))))) = some (r1,r2,r3,r4) := h
 clear h
 replace H := Option.bind_eq_some_iff.mp H
 obtain ⟨⟨t119,t120,t121,t122,t123⟩,A30,H⟩ := H
 replace H : (if t119 = true then (some (t120,t121,t122,t123)) else ((tree_parser_fail.f s0_0 t120 t121 t122 t123 2).bind fun bt124 => (some (bt124.2.2.2.1,bt124.2.2.2.2.1,bt124.2.2.2.2.2.1,bt124.2.2.2.2.2.2)))) = some (r1,r2,r3,r4) := H
 have A3 := am A30
 clear A30
 by_cases c4 : t119 = true
 ·subst c4
  have H1 : (some (t120,t121,t122,t123)) = some (r1,r2,r3,r4) := by rw [if_pos rfl] at H;exact H
  clear H
  have H := H1
  clear H1
  simp only [Option.some.injEq,Prod.mk.injEq] at H
  obtain ⟨rfl,rfl,rfl,rfl⟩ := H
  go_enter Tryd.func85,Tryd.ntmps85
  go_wp2_with (first | ((with_reducible refine gate_callee (f := 93) rfl ?_);refine goesL_ (some 6) rfl rfl Tryd.func93 (by kernel_rfl) rfl #[.pointer (some ⟨g,0,none⟩),.string a1] rfl (by (try simp only [List.map_toArray,List.map_cons,List.map_nil]);first | done | rfl | (simp only [List.length_drop,List.length_take];rfl)) ?_;(with_reducible refine (tree_parser_takes.calls g s0_0 s0_1 s0_2 s0_3 s0_4 a1 true t120 t121 t122 t123 w0 _ ?za8 ?zbh A3.out).mono ?_);(case za8 => repeat (first | (with_reducible first | exact HI0.out | apply IsS72.alloc | apply IsS72.drewN | apply IsS72.drew | apply IsS72.set_1 | apply IsS72.set_2 | apply IsS72.set_3 | apply IsS72.set_4) | exact HI0.out));(case zbh => repeat (first | (with_reducible first | exact HB.out | apply below_alloc | apply pw_below_drewN | apply below_drew1 | refine below_set ?_ (IsS72.ge HI0.out)) | exact HB.out));rintro e w5 ⟨rfl,hi,hb,hk⟩;refine ⟨_,rfl,?_⟩;have n0_ := am (KeepBut.trans (by repeat (first | (with_reducible first | exact HK.out | apply KeepBut.set_ | apply keep_drewN | apply keep_drew | apply keep_alloc) | exact HK.out)) hk (.inl rfl));have n1_ := am (hb);have n2_ := am (hi);clear HK;clear HB;clear HI0;have HK := n0_;have HB := n1_;have HI0 := n2_;clear n0_ n1_ n2_;(try clear hb);(try clear hb2);(try clear hk);(try clear hi)))
  first | go_end0 | ((try simp only [Exit.inBlock,Exit.then]);refine bodyPost_ret (results_none rfl _ _ _) rfl ?_)
  exact ⟨by first | rfl | (simp [errW_none,errW_some] <;> rfl) | (simp [*,errW_none,errW_some] <;> rfl),by repeat (first | (with_reducible first | exact HI0.out | apply IsS72.alloc | apply IsS72.drewN | apply IsS72.drew | apply IsS72.set_1 | apply IsS72.set_2 | apply IsS72.set_3 | apply IsS72.set_4) | exact HI0.out),by repeat (first | (with_reducible first | exact HB.out | apply below_alloc | apply pw_below_drewN | apply below_drew1 | refine below_set ?_ (IsS72.ge HI0.out)) | exact HB.out),by repeat (first | (with_reducible first | exact HK.out | apply KeepBut.set_ | apply keep_drewN | apply keep_drew | apply keep_alloc) | exact HK.out)⟩
 ·replace c4 := Bool.eq_false_iff.mpr c4
  subst c4
  have H1 : ((tree_parser_fail.f s0_0 t120 t121 t122 t123 2).bind fun bt124 => (some (bt124.2.2.2.1,bt124.2.2.2.2.1,bt124.2.2.2.2.2.1,bt124.2.2.2.2.2.2))) = some (r1,r2,r3,r4) := by rw [if_neg (show ¬ (false = true) by decide)] at H;exact H
  clear H
  have H := H1
  clear H1
  replace H := Option.bind_eq_some_iff.mp H
  obtain ⟨⟨t124,t125,t126,t129,t130,t131,t132⟩,A60,H⟩ := H
  replace H : (some (t129,t130,t131,t132)) = some (r1,r2,r3,r4) := H
  have A6 := am A60
  clear A60
  simp only [Option.some.injEq,Prod.mk.injEq] at H
  obtain ⟨rfl,rfl,rfl,rfl⟩ := H
  go_enter Tryd.func85,Tryd.ntmps85
  go_wp2_with (first | ((with_reducible refine gate_callee (f := 93) rfl ?_);refine goesL_ (some 6) rfl rfl Tryd.func93 (by kernel_rfl) rfl #[.pointer (some ⟨g,0,none⟩),.string a1] rfl (by (try simp only [List.map_toArray,List.map_cons,List.map_nil]);first | done | rfl | (simp only [List.length_drop,List.length_take];rfl)) ?_;(with_reducible refine (tree_parser_takes.calls g s0_0 s0_1 s0_2 s0_3 s0_4 a1 false t120 t121 t122 t123 w0 _ ?za8 ?zbh A3.out).mono ?_);(case za8 => repeat (first | (with_reducible first | exact HI0.out | apply IsS72.alloc | apply IsS72.drewN | apply IsS72.drew | apply IsS72.set_1 | apply IsS72.set_2 | apply IsS72.set_3 | apply IsS72.set_4) | exact HI0.out));(case zbh => repeat (first | (with_reducible first | exact HB.out | apply below_alloc | apply pw_below_drewN | apply below_drew1 | refine below_set ?_ (IsS72.ge HI0.out)) | exact HB.out));rintro e w7 ⟨rfl,hi,hb,hk⟩;refine ⟨_,rfl,?_⟩;have n0_ := am (KeepBut.trans (by repeat (first | (with_reducible first | exact HK.out | apply KeepBut.set_ | apply keep_drewN | apply keep_drew | apply keep_alloc) | exact HK.out)) hk (.inl rfl));have n1_ := am (hb);have n2_ := am (hi);clear HK;clear HB;clear HI0;have HK := n0_;have HB := n1_;have HI0 := n2_;clear n0_ n1_ n2_;(try clear hb);(try clear hb2);(try clear hk);(try clear hi)) | ((with_reducible refine gate_callee (f := 83) rfl ?_);refine goesL_ (some 9) rfl rfl Tryd.func83 (by kernel_rfl) rfl #[.pointer (some ⟨g,0,none⟩),.int .i64 2] rfl (by (try simp only [List.map_toArray,List.map_cons,List.map_nil]);first | done | rfl | (simp only [List.length_drop,List.length_take];rfl)) ?_;(with_reducible refine (tree_parser_fail.calls g s0_0 t120 t121 t122 t123 2 t124 t125 t126 t129 t130 t131 t132 w0 _ ?za8 ?zbh A6.out).mono ?_);(case za8 => repeat (first | (with_reducible first | exact HI0.out | apply IsS72.alloc | apply IsS72.drewN | apply IsS72.drew | apply IsS72.set_1 | apply IsS72.set_2 | apply IsS72.set_3 | apply IsS72.set_4) | exact HI0.out));(case zbh => repeat (first | (with_reducible first | exact HB.out | apply below_alloc | apply pw_below_drewN | apply below_drew1 | refine below_set ?_ (IsS72.ge HI0.out)) | exact HB.out));rintro e w8 ⟨v127,rfl,ho0,hi,hb,hk⟩;refine ⟨_,rfl,?_⟩;have n0_ := am (Kd.R_lower ho0 (keep_size (w := w) (g := g) (row := none) (by repeat (first | (with_reducible first | exact HK.out | apply KeepBut.set_ | apply keep_drewN | apply keep_drew | apply keep_alloc) | exact HK.out))));have n1_ := am (KeepBut.trans (by repeat (first | (with_reducible first | exact HK.out | apply KeepBut.set_ | apply keep_drewN | apply keep_drew | apply keep_alloc) | exact HK.out)) hk (.inl rfl));have n2_ := am (hb);have n3_ := am (hi);clear HK;clear HB;clear HI0;have HO128 := n0_;have HK := n1_;have HB := n2_;have HI0 := n3_;clear n0_ n1_ n2_ n3_;(try clear hb);(try clear hb2);(try clear hk);(try clear hi);(try clear ho0)))
  first | go_end0 | ((try simp only [Exit.inBlock,Exit.then]);refine bodyPost_ret (results_none rfl _ _ _) rfl ?_)
  exact ⟨by first | rfl | (simp [errW_none,errW_some] <;> rfl) | (simp [*,errW_none,errW_some] <;> rfl),by repeat (first | (with_reducible first | exact HI0.out | apply IsS72.alloc | apply IsS72.drewN | apply IsS72.drew | apply IsS72.set_1 | apply IsS72.set_2 | apply IsS72.set_3 | apply IsS72.set_4) | exact HI0.out),by repeat (first | (with_reducible first | exact HB.out | apply below_alloc | apply pw_below_drewN | apply below_drew1 | refine below_set ?_ (IsS72.ge HI0.out)) | exact HB.out),by repeat (first | (with_reducible first | exact HK.out | apply KeepBut.set_ | apply keep_drewN | apply keep_drew | apply keep_alloc) | exact HK.out)⟩
end Go.Proofs.YtgnmdhnlcibbiaaDoor.P
end
section
namespace Go.Proofs.YtgnmdhnlcibbiaaDoor.P
open Go.RowKit Go.Proofs.PrintWords Go.Proofs.PrintLast Go.Proofs.PrintMore
attribute [local go_sem] max2_int min2_int max_two min_two max_three min_three max_four min_four   -- for this text's walks alone
set_option linter.unusedVariables false
set_option linter.unusedSimpArgs false
def tree_of.f (a0 : Int) : Option (ByteArray × Int × Int × Bool) := if a0 = 1 then (some ((⟨#[]⟩ : ByteArray),8,0,true)) else (if a0 = 2 then (some ((⟨#[107,101,121]⟩ : ByteArray),8,0,true)) else (if a0 = 3 then (some ((⟨#[116,105,109,101]⟩ : ByteArray),8,0,true)) else (if a0 = 4 then (some ((⟨#[118,97,108,117,101]⟩ : ByteArray),8,0,true)) else (if a0 = 5 then (some ((⟨#[45]⟩ : ByteArray),7,1,true)) else (if a0 = 6 then (some ((⟨#[110,111,116]⟩ : ByteArray),3,1,true)) else (if a0 = 7 then (some ((⟨#[42]⟩ : ByteArray),6,2,true)) else (if a0 = 8 then (some ((⟨#[47]⟩ : ByteArray),6,2,true)) else (if a0 = 9 then (some ((⟨#[37]⟩ : ByteArray),6,2,true)) else (if a0 = 10 then (some ((⟨#[43]⟩ : ByteArray),5,2,true)) else (if a0 = 11 then (some ((⟨#[45]⟩ : ByteArray),5,2,true)) else (if a0 = 12 then (some ((⟨#[61]⟩ : ByteArray),4,2,true)) else (if a0 = 13 then (some ((⟨#[60,62]⟩ : ByteArray),4,2,true)) else (if a0 = 14 then (some ((⟨#[60]⟩ : ByteArray),4,2,true)) else (if a0 = 15 then (some ((⟨#[60,61]⟩ : ByteArray),4,2,true)) else (if a0 = 16 then (some ((⟨#[62]⟩ : ByteArray),4,2,true)) else (if a0 = 17 then (some ((⟨#[62,61]⟩ : ByteArray),4,2,true)) else (if a0 = 18 then (some ((⟨#[97,110,100]⟩ : ByteArray),2,2,true)) else (if a0 = 19 then (some ((⟨#[111,114]⟩ : ByteArray),1,2,true)) else (if a0 = 20 then (some ((⟨#[109,105,110]⟩ : ByteArray),8,2,true)) else (if a0 = 21 then (some ((⟨#[109,97,120]⟩ : ByteArray),8,2,true)) else (if a0 = 22 then (some ((⟨#[105,102]⟩ : ByteArray),8,3,true)) else (some ((⟨#[]⟩ : ByteArray),0,0,false)))))))))))))))))))))))
theorem tree_of.calls (a0 : Int) (r1 : ByteArray) (r2 : Int) (r3 : Int) (r4 : Bool) (w : World) (h : tree_of.f a0 = some (r1,r2,r3,r4)) :
  Calls Tryd.prog 40 #[.int .i64 a0] w fun e w' => e = .returned (.tuple #[.agg #[.string r1,.int .i64 r2,.int .i64 r3],.bool r4]) ∧ Below w.heap.size w w' := by
 have hx : a0 = 1 ∨ a0 = 2 ∨ a0 = 3 ∨ a0 = 4 ∨ a0 = 5 ∨ a0 = 6 ∨ a0 = 7 ∨ a0 = 8 ∨ a0 = 9 ∨ a0 = 10 ∨ a0 = 11 ∨ a0 = 12 ∨ a0 = 13 ∨ a0 = 14 ∨ a0 = 15 ∨ a0 = 16 ∨ a0 = 17 ∨ a0 = 18 ∨ a0 = 19 ∨ a0 = 20 ∨ a0 = 21 ∨ a0 = 22 ∨ ¬ (1 ≤ a0 ∧ a0 ≤ 22) := by omega
 rcases hx with rfl | rfl | rfl | rfl | rfl | rfl | rfl | rfl | rfl | rfl | rfl | rfl | rfl | rfl | rfl | rfl | rfl | rfl | rfl | rfl | rfl | rfl | hx
 iterate 22 · (obtain ⟨rfl,rfl,rfl,rfl⟩ : _ ∧ _ ∧ _ ∧ _ := by simpa [tree_of.f] using h);go_enter Tryd.func40,Tryd.ntmps40;go_wp2;refine bodyPost_ret (results_ct rfl _ _ w.heap.size 85 _ (0,0) _ rfl (blk_new w _) Tryd.underlying85 rfl (by kernel_rfl)) rfl ?_;exact ⟨by simp,below_alloc (Below.refl _ _) _⟩
 obtain ⟨rfl,rfl,rfl,rfl⟩ : r1 = ⟨#[]⟩ ∧ r2 = 0 ∧ r3 = 0 ∧ r4 = false := by
  unfold tree_of.f at h
  repeat rw [if_neg (by omega)] at h
  simpa [eq_comm] using h
 have e : ∀ q : Int,1 ≤ q → q ≤ 22 → (a0 == q) = false := fun q h1 h2 => beq_eq_false_iff_ne.mpr (fun e => hx (by omega))
 have e1 := e 1 (by omega) (by omega);have e2 := e 2 (by omega) (by omega);have e3 := e 3 (by omega) (by omega);have e4 := e 4 (by omega) (by omega);have e5 := e 5 (by omega) (by omega);have e6 := e 6 (by omega) (by omega);have e7 := e 7 (by omega) (by omega);have e8 := e 8 (by omega) (by omega);have e9 := e 9 (by omega) (by omega);have e10 := e 10 (by omega) (by omega);have e11 := e 11 (by omega) (by omega);have e12 := e 12 (by omega) (by omega);have e13 := e 13 (by omega) (by omega);have e14 := e 14 (by omega) (by omega);have e15 := e 15 (by omega) (by omega);have e16 := e 16 (by omega) (by omega);have e17 := e 17 (by omega) (by omega);have e18 := e 18 (by omega) (by omega);have e19 := e 19 (by omega) (by omega);have e20 := e 20 (by omega) (by omega);have e21 := e 21 (by omega) (by omega);have e22 := e 22 (by omega) (by omega)
 go_enter Tryd.func40,Tryd.ntmps40;go_wp2;refine bodyPost_ret (results_ct rfl _ _ w.heap.size 85 _ (0,0) _ rfl (blk_new w _) Tryd.underlying85 rfl (by kernel_rfl)) rfl ?_;exact ⟨by simp,below_alloc (Below.refl _ _) _⟩
end Go.Proofs.YtgnmdhnlcibbiaaDoor.P
end
section
namespace Go.Proofs.YtgnmdhnlcibbiaaDoor.P
open Go.RowKit Go.Proofs.PrintWords Go.Proofs.PrintLast Go.Proofs.PrintMore
attribute [local go_sem] max2_int min2_int max_two min_two max_three min_three max_four min_four   -- for this text's walks alone
set_option linter.unusedVariables false
set_option linter.unusedSimpArgs false
def tree_binary.l0 : Nat → ByteArray → Int → Int → Option (Int)
 | 0,_,_,_ => none
 | k + 1,x0,x1,x5 => if x5 ≤ 19 then ((tree_of.f x5).bind fun bt134 => (if bt134.2.2.2 = true then (if bt134.1.toList = x0.toList then (if bt134.2.1 = x1 then (some x5) else (tree_binary.l0 k x0 x1 (wrap64 (x5 + 1)))) else (tree_binary.l0 k x0 x1 (wrap64 (x5 + 1)))) else (tree_binary.l0 k x0 x1 (wrap64 (x5 + 1))))) else (some 0)
def tree_binary.f (k : Nat) (a0 : ByteArray) (a1 : Int) : Option (Int) := tree_binary.l0 k a0 a1 7
theorem tree_binary.calls (k : Nat) (a0 : ByteArray) (a1 : Int) (r : Int) (w : World) (h : tree_binary.f k a0 a1 = some r) :
  Calls Tryd.prog 65 #[.string a0,.int .i64 a1] w fun e w' => e = .returned (.int .i64 r) ∧ Below w.heap.size w w' := by
 have hu85 := Tryd.underlying85
 have HB := am (Below.refl w.heap.size w)
 have H : (tree_binary.l0 k a0 a1 7) = some r := h
 clear h
 have H' := am H
 clear H
 go_enter Tryd.func65,Tryd.ntmps65
 go_wp2
 go_loopg [5] k (fun kq v5 w' => ∃ (x5_1 : Int),v5 = .int .i64 x5_1 ∧ Aside0 (tree_binary.l0 kq a0 a1 x5_1 = some r) ∧ Aside0 (kq ≤ k) ∧ Aside0 (Below w.heap.size w w'))
 case atStart => exact ⟨(7),(by first | rfl | (simp;done) | (simp [*];done)),H',⟨Nat.le_refl _⟩,⟨by repeat (first | (with_reducible first | exact HB.out | apply below_alloc | apply pw_below_drewN | apply below_drew1) | exact HB.out)⟩⟩
 case round =>
  clear H'
  try clear p2
  obtain ⟨x5_1,rfl,HA,HK1,HB⟩ := hrel
  cases gk with
  | zero => exact absurd HA.out (by simp [tree_binary.l0])
  | succ k1 =>
   have H := HA.out
   clear HA
   simp only [tree_binary.l0] at H
   by_cases c3 : x5_1 ≤ 19
   ·rw [if_pos c3] at H
    have zes : decide (x5_1 ≤ 19) = true := decide_eq_true c3
    clear c3
    replace H := Option.bind_eq_some_iff.mp H
    obtain ⟨⟨t134,t135,t136,t137⟩,A40,H⟩ := H
    replace H : (if t137 = true then (if t134.toList = a0.toList then (if t135 = a1 then (some x5_1) else (tree_binary.l0 k1 a0 a1 (wrap64 (x5_1 + 1)))) else (tree_binary.l0 k1 a0 a1 (wrap64 (x5_1 + 1)))) else (tree_binary.l0 k1 a0 a1 (wrap64 (x5_1 + 1)))) = some r := H
    have A4 := am A40
    clear A40
    by_cases c5 : t137 = true
    ·subst c5
     have H1 : (if t134.toList = a0.toList then (if t135 = a1 then (some x5_1) else (tree_binary.l0 k1 a0 a1 (wrap64 (x5_1 + 1)))) else (tree_binary.l0 k1 a0 a1 (wrap64 (x5_1 + 1)))) = some r := by rw [if_pos rfl] at H;exact H
     clear H
     have H := H1
     clear H1
     by_cases c6 : t134.toList = a0.toList
     ·rw [if_pos c6] at H
      have c6b0 : (t134.toList == a0.toList) = true := beq_iff_eq.mpr c6
      have c6b1 : (t134.toList != a0.toList) = false := bne_eq_false_iff_eq.mpr c6
      clear c6
      by_cases c7 : t135 = a1
      ·rw [if_pos c7] at H
       have c7b0 : (t135 == a1) = true := beq_iff_eq.mpr c7
       have c7b1 : (t135 != a1) = false := bne_eq_false_iff_eq.mpr c7
       clear c7
       obtain rfl := Option.some.inj H
       go_wp2_with (first | ((with_reducible refine gate_callee (f := 40) rfl ?_);refine goesL_ (some 14) rfl rfl Tryd.func40 (by kernel_rfl) rfl #[.int .i64 x5_1] rfl (by (try simp only [List.map_toArray,List.map_cons,List.map_nil]);first | done | rfl | (simp only [List.length_drop,List.length_take];rfl)) ?_;(with_reducible refine (tree_of.calls x5_1 t134 t135 t136 true _ A4.out).mono ?_);rintro e w8 ⟨rfl,hb⟩;refine ⟨_,rfl,?_⟩;have n0_ := am (below_step (by repeat (first | (with_reducible first | exact HB.out | apply below_alloc | apply pw_below_drewN | apply below_drew1) | exact HB.out)) hb);clear HB;have HB := n0_;clear n0_;(try clear hb);(try clear hb2);(try clear hk);(try clear hi)) | ((with_reducible refine gate_dst (N := 6) rfl ?_);refine box_event ?hg (N := 6) ?hd (cs := #[.string (⟨#[]⟩ : ByteArray),.int .i64 0,.int .i64 0]) (t := 85) ?hr ?_;(case hd => rfl);(case hg => rfl);(case hr => first | (go_simp;done) | (go_simp;rfl));intro gb138 hg w9 zan hb;have n0_ := am (below_step (by repeat (first | (with_reducible first | exact HB.out | apply below_alloc | apply pw_below_drewN | apply below_drew1) | exact HB.out)) hb);have n1_ := am (zan);have n2_ := am ((by rw [hg];exact (below_size (by repeat (first | (with_reducible first | exact HB.out | apply below_alloc | apply pw_below_drewN | apply below_drew1) | exact HB.out))) : w.heap.size ≤ gb138));have n3_ := am ((by rw [hg];exact (below_size (by repeat (first | (with_reducible first | exact HB.out | apply below_alloc | apply pw_below_drewN | apply below_drew1) | exact HB.out))) : w.heap.size ≤ gb138));clear HB;have HB := n0_;have zb9 := n1_;have GW138 := n2_;have zfr := n3_;clear n0_ n1_ n2_ n3_;clear hb zan hg;have zc0 : w9.cell? ⟨gb138,0,none⟩ = some (.string (⟨#[]⟩ : ByteArray)) := (blk_cell zb9.out 0).trans rfl;have zc1 : w9.cell? ⟨gb138,1,none⟩ = some (.int .i64 0) := (blk_cell zb9.out 1).trans rfl;have zc2 : w9.cell? ⟨gb138,2,none⟩ = some (.int .i64 0) := (blk_cell zb9.out 2).trans rfl;have zdr := blk_frozen zb9.out 0;have zc3 := blk_frozen zb9.out 1;have zc4 := blk_frozen zb9.out 2))
       go_ret
       exact ⟨by first | rfl | (simp [errW_none,errW_some] <;> rfl) | (simp [*,errW_none,errW_some] <;> rfl),by repeat (first | (with_reducible first | exact HB.out | apply below_alloc | apply pw_below_drewN | apply below_drew1 | refine below_set ?_ zfr.out) | exact HB.out)⟩
      ·rw [if_neg c7] at H
       have c7b0 : (t135 == a1) = false := beq_eq_false_iff_ne.mpr c7
       have c7b1 : (t135 != a1) = true := bne_iff_ne.mpr c7
       have H' := am H
       clear H
       go_wp2_with (first | ((with_reducible refine gate_callee (f := 40) rfl ?_);refine goesL_ (some 14) rfl rfl Tryd.func40 (by kernel_rfl) rfl #[.int .i64 x5_1] rfl (by (try simp only [List.map_toArray,List.map_cons,List.map_nil]);first | done | rfl | (simp only [List.length_drop,List.length_take];rfl)) ?_;(with_reducible refine (tree_of.calls x5_1 t134 t135 t136 true _ A4.out).mono ?_);rintro e w11 ⟨rfl,hb⟩;refine ⟨_,rfl,?_⟩;have n0_ := am (below_step (by repeat (first | (with_reducible first | exact HB.out | apply below_alloc | apply pw_below_drewN | apply below_drew1) | exact HB.out)) hb);clear HB;have HB := n0_;clear n0_;(try clear hb);(try clear hb2);(try clear hk);(try clear hi)) | ((with_reducible refine gate_dst (N := 6) rfl ?_);refine box_event ?hg (N := 6) ?hd (cs := #[.string (⟨#[]⟩ : ByteArray),.int .i64 0,.int .i64 0]) (t := 85) ?hr ?_;(case hd => rfl);(case hg => rfl);(case hr => first | (go_simp;done) | (go_simp;rfl));intro gb138 hg w12 zan hb;have n0_ := am (below_step (by repeat (first | (with_reducible first | exact HB.out | apply below_alloc | apply pw_below_drewN | apply below_drew1) | exact HB.out)) hb);have n1_ := am (zan);have n2_ := am ((by rw [hg];exact (below_size (by repeat (first | (with_reducible first | exact HB.out | apply below_alloc | apply pw_below_drewN | apply below_drew1) | exact HB.out))) : w.heap.size ≤ gb138));have n3_ := am ((by rw [hg];exact (below_size (by repeat (first | (with_reducible first | exact HB.out | apply below_alloc | apply pw_below_drewN | apply below_drew1) | exact HB.out))) : w.heap.size ≤ gb138));clear HB;have HB := n0_;have zb9 := n1_;have GW138 := n2_;have zfr := n3_;clear n0_ n1_ n2_ n3_;clear hb zan hg;have hcz13_0 : w12.cell? ⟨gb138,0,none⟩ = some (.string (⟨#[]⟩ : ByteArray)) := (blk_cell zb9.out 0).trans rfl;have hcz13_1 : w12.cell? ⟨gb138,1,none⟩ = some (.int .i64 0) := (blk_cell zb9.out 1).trans rfl;have hcz13_2 : w12.cell? ⟨gb138,2,none⟩ = some (.int .i64 0) := (blk_cell zb9.out 2).trans rfl;have hfz13_0 := blk_frozen zb9.out 0;have hfz13_1 := blk_frozen zb9.out 1;have hfz13_2 := blk_frozen zb9.out 2))
       go_roundg k1
       case measure => have := HK1.out;omega
       case rel => exact ⟨(wrap64 (x5_1 + 1)),(by first | rfl | (simp;done) | (simp [*];done)),H',⟨by have := HK1.out;omega⟩,⟨by repeat (first | (with_reducible first | exact HB.out | apply below_alloc | apply pw_below_drewN | apply below_drew1 | refine below_set ?_ zfr.out) | exact HB.out)⟩⟩
     ·rw [if_neg c6] at H
      have c6b0 : (t134.toList == a0.toList) = false := beq_eq_false_iff_ne.mpr c6
      have c6b1 : (t134.toList != a0.toList) = true := bne_iff_ne.mpr c6
      have H' := am H
      clear H
      go_wp2_with (first | ((with_reducible refine gate_callee (f := 40) rfl ?_);refine goesL_ (some 14) rfl rfl Tryd.func40 (by kernel_rfl) rfl #[.int .i64 x5_1] rfl (by (try simp only [List.map_toArray,List.map_cons,List.map_nil]);first | done | rfl | (simp only [List.length_drop,List.length_take];rfl)) ?_;(with_reducible refine (tree_of.calls x5_1 t134 t135 t136 true _ A4.out).mono ?_);rintro e w14 ⟨rfl,hb⟩;refine ⟨_,rfl,?_⟩;have n0_ := am (below_step (by repeat (first | (with_reducible first | exact HB.out | apply below_alloc | apply pw_below_drewN | apply below_drew1) | exact HB.out)) hb);clear HB;have HB := n0_;clear n0_;(try clear hb);(try clear hb2);(try clear hk);(try clear hi)) | ((with_reducible refine gate_dst (N := 6) rfl ?_);refine box_event ?hg (N := 6) ?hd (cs := #[.string (⟨#[]⟩ : ByteArray),.int .i64 0,.int .i64 0]) (t := 85) ?hr ?_;(case hd => rfl);(case hg => rfl);(case hr => first | (go_simp;done) | (go_simp;rfl));intro gb138 hg w15 zan hb;have n0_ := am (below_step (by repeat (first | (with_reducible first | exact HB.out | apply below_alloc | apply pw_below_drewN | apply below_drew1) | exact HB.out)) hb);have n1_ := am (zan);have n2_ := am ((by rw [hg];exact (below_size (by repeat (first | (with_reducible first | exact HB.out | apply below_alloc | apply pw_below_drewN | apply below_drew1) | exact HB.out))) : w.heap.size ≤ gb138));have n3_ := am ((by rw [hg];exact (below_size (by repeat (first | (with_reducible first | exact HB.out | apply below_alloc | apply pw_below_drewN | apply below_drew1) | exact HB.out))) : w.heap.size ≤ gb138));clear HB;have HB := n0_;have zb9 := n1_;have GW138 := n2_;have zfr := n3_;clear n0_ n1_ n2_ n3_;clear hb zan hg;have zfs : w15.cell? ⟨gb138,0,none⟩ = some (.string (⟨#[]⟩ : ByteArray)) := (blk_cell zb9.out 0).trans rfl;have zft : w15.cell? ⟨gb138,1,none⟩ = some (.int .i64 0) := (blk_cell zb9.out 1).trans rfl;have zfu : w15.cell? ⟨gb138,2,none⟩ = some (.int .i64 0) := (blk_cell zb9.out 2).trans rfl;have zfv := blk_frozen zb9.out 0;have zfw := blk_frozen zb9.out 1;have zfx := blk_frozen zb9.out 2))
      go_roundg k1
      case measure => have := HK1.out;omega
      case rel => exact ⟨(wrap64 (x5_1 + 1)),(by first | rfl | (simp;done) | (simp [*];done)),H',⟨by have := HK1.out;omega⟩,⟨by repeat (first | (with_reducible first | exact HB.out | apply below_alloc | apply pw_below_drewN | apply below_drew1 | refine below_set ?_ zfr.out) | exact HB.out)⟩⟩
    ·replace c5 := Bool.eq_false_iff.mpr c5
     subst c5
     have H1 : (tree_binary.l0 k1 a0 a1 (wrap64 (x5_1 + 1))) = some r := by rw [if_neg (show ¬ (false = true) by decide)] at H;exact H
     clear H
     have H := H1
     clear H1
     have H' := am H
     clear H
     go_wp2_with (first | ((with_reducible refine gate_callee (f := 40) rfl ?_);refine goesL_ (some 14) rfl rfl Tryd.func40 (by kernel_rfl) rfl #[.int .i64 x5_1] rfl (by (try simp only [List.map_toArray,List.map_cons,List.map_nil]);first | done | rfl | (simp only [List.length_drop,List.length_take];rfl)) ?_;(with_reducible refine (tree_of.calls x5_1 t134 t135 t136 false _ A4.out).mono ?_);rintro e w17 ⟨rfl,hb⟩;refine ⟨_,rfl,?_⟩;have n0_ := am (below_step (by repeat (first | (with_reducible first | exact HB.out | apply below_alloc | apply pw_below_drewN | apply below_drew1) | exact HB.out)) hb);clear HB;have HB := n0_;clear n0_;(try clear hb);(try clear hb2);(try clear hk);(try clear hi)) | ((with_reducible refine gate_dst (N := 6) rfl ?_);refine box_event ?hg (N := 6) ?hd (cs := #[.string (⟨#[]⟩ : ByteArray),.int .i64 0,.int .i64 0]) (t := 85) ?hr ?_;(case hd => rfl);(case hg => rfl);(case hr => first | (go_simp;done) | (go_simp;rfl));intro gb138 hg w18 zan hb;have n0_ := am (below_step (by repeat (first | (with_reducible first | exact HB.out | apply below_alloc | apply pw_below_drewN | apply below_drew1) | exact HB.out)) hb);have n1_ := am (zan);have n2_ := am ((by rw [hg];exact (below_size (by repeat (first | (with_reducible first | exact HB.out | apply below_alloc | apply pw_below_drewN | apply below_drew1) | exact HB.out))) : w.heap.size ≤ gb138));have n3_ := am ((by rw [hg];exact (below_size (by repeat (first | (with_reducible first | exact HB.out | apply below_alloc | apply pw_below_drewN | apply below_drew1) | exact HB.out))) : w.heap.size ≤ gb138));clear HB;have HB := n0_;have zb9 := n1_;have GW138 := n2_;have zfr := n3_;clear n0_ n1_ n2_ n3_;clear hb zan hg;have zdL : w18.cell? ⟨gb138,0,none⟩ = some (.string (⟨#[]⟩ : ByteArray)) := (blk_cell zb9.out 0).trans rfl;have zdM : w18.cell? ⟨gb138,1,none⟩ = some (.int .i64 0) := (blk_cell zb9.out 1).trans rfl;have zdN : w18.cell? ⟨gb138,2,none⟩ = some (.int .i64 0) := (blk_cell zb9.out 2).trans rfl;have zeA := blk_frozen zb9.out 0;have zdO := blk_frozen zb9.out 1;have zdP := blk_frozen zb9.out 2))
     go_roundg k1
     case measure => have := HK1.out;omega
     case rel => exact ⟨(wrap64 (x5_1 + 1)),(by first | rfl | (simp;done) | (simp [*];done)),H',⟨by have := HK1.out;omega⟩,⟨by repeat (first | (with_reducible first | exact HB.out | apply below_alloc | apply pw_below_drewN | apply below_drew1 | refine below_set ?_ zfr.out) | exact HB.out)⟩⟩
   ·rw [if_neg c3] at H
    have zes : decide (x5_1 ≤ 19) = false := decide_eq_false c3
    clear c3
    obtain rfl := Option.some.inj H
    go_wp2
    go_ret
    exact ⟨by first | rfl | (simp [errW_none,errW_some] <;> rfl) | (simp [*,errW_none,errW_some] <;> rfl),by repeat (first | (with_reducible first | exact HB.out | apply below_alloc | apply pw_below_drewN | apply below_drew1) | exact HB.out)⟩
end Go.Proofs.YtgnmdhnlcibbiaaDoor.P
end
section
namespace Go.Proofs.YtgnmdhnlcibbiaaDoor.P
open Go.RowKit Go.Proofs.PrintWords Go.Proofs.PrintLast Go.Proofs.PrintMore
attribute [local go_sem] max2_int min2_int max_two min_two max_three min_three max_four min_four   -- for this text's walks alone
set_option linter.unusedVariables false
set_option linter.unusedSimpArgs false
mutual
def tree_Size.j0 : Nat → Bool → Int → Int → List (S25) → Option (Int × Bool)
 | 0,_,_,_,_ => none
 | k + 1,x46,x140000,x140001,x140002 => if x46 = true then (some (0,false)) else (tree_Size.l0 k 1 x140002 (x140002.length : Int) 0)
def tree_Size.l0 : Nat → Int → List (S25) → Int → Int → Option (Int × Bool)
 | 0,_,_,_,_ => none
 | k + 1,x6,x48,x49,x50 => if x50 < x49 then (if 0 ≤ x50 then (if x50 < (x48.length : Int) then ((tree_Size.f k ((rd_T25 x48 x50).f0) ((rd_T25 x48 x50).f1) ((rd_T25 x48 x50).f2)).bind fun bt147 => (if bt147.2 = true then (if (wrap64 (x6 + bt147.1)) > 256 then (some (0,false)) else (tree_Size.l0 k (wrap64 (x6 + bt147.1)) x48 x49 (wrap64 (x50 + 1)))) else (some (0,false)))) else (none)) else (none)) else (some (x6,true))
def tree_Size.f : Nat → Int → Int → List (S25) → Option (Int × Bool)
 | 0,_,_,_ => none
 | k + 1,zay,zaK,zam => (tree_of.f zay).bind fun bt140 => (if bt140.2.2.2 = true then (if (zam.length : Int) = bt140.2.2.1 then (if zay = 1 then (if zaK < 0 then (tree_Size.j0 k true zay zaK zam) else (tree_Size.j0 k false zay zaK zam)) else (tree_Size.j0 k (zaK != 0) zay zaK zam)) else (tree_Size.j0 k true zay zaK zam)) else (tree_Size.j0 k true zay zaK zam))
end
theorem tree_Size.calls (k : Nat) : ∀ (zay : Int) (zaK : Int) (zbc : Option Addr) (za1 : Nat) (zam : List (S25)) (r1 : Int) (r2 : Bool) (w : World) (zbM : Kd.C k25 w zbc zam.length zam) (zca : zam.length ≤ za1) (h : tree_Size.f k zay zaK zam = some (r1,r2)),
  Calls Tryd.prog 19 #[.agg #[.int .i64 zay,.int .i64 zaK,.slice zbc zam.length za1]] w fun e w' => e = .returned (.tuple #[.int .i64 r1,.bool r2]) ∧ Below w.heap.size w w' := by
 induction k using Nat.strongRecOn with
 | _ k ih =>
 intro zay zaK zbc za1 zam r1 r2 w zbM zca h
 cases k with
 | zero => exact absurd h (by simp [tree_Size.f])
 | succ k =>
 simp only [tree_Size.f] at h
 have zcz := Tryd.underlying25
 have hu85 := Tryd.underlying85
 have zdA := am zbM
 have zeY := am zca
 clear zbM zca
 have HB := am (Below.refl w.heap.size w)
 have H : ((tree_of.f zay).bind fun bt140 => (if bt140.2.2.2 = true then (if (zam.length : Int) = bt140.2.2.1 then (if zay = 1 then (if zaK < 0 then (tree_Size.j0 k true zay zaK zam) else (tree_Size.j0 k false zay zaK zam)) else (tree_Size.j0 k (zaK != 0) zay zaK zam)) else (tree_Size.j0 k true zay zaK zam)) else (tree_Size.j0 k true zay zaK zam))) = some (r1,r2) := h
 clear h
 replace H := Option.bind_eq_some_iff.mp H
 obtain ⟨⟨t140,t141,t142,t143⟩,A20,H⟩ := H
 replace H : (if t143 = true then (if (zam.length : Int) = t142 then (if zay = 1 then (if zaK < 0 then (tree_Size.j0 k true zay zaK zam) else (tree_Size.j0 k false zay zaK zam)) else (tree_Size.j0 k (zaK != 0) zay zaK zam)) else (tree_Size.j0 k true zay zaK zam)) else (tree_Size.j0 k true zay zaK zam)) = some (r1,r2) := H
 have A2 := am A20
 clear A20
 have HC3 := am H
 clear H
 go_enter Tryd.func19,Tryd.ntmps19
 go_upto_region 2 with (first | ((with_reducible refine gate_dst (N := 1) rfl ?_);(try (refine gate_guard (by rfl) ?_;dsimp only));refine box_event ?hg (N := 1) ?hd (cs := #[.int .i64 zay,.int .i64 zaK,.slice zbc zam.length za1]) (t := 25) ?hr ?_;(case hd => rfl);(case hg => rfl);(case hr => first | (go_simp;done) | (go_simp;rfl));intro gb139 hg w4 zan hb;have n0_ := am (below_step HB.out hb);have n1_ := am (zan);have n2_ := am ((by rw [hg];exact (below_size HB.out) : w.heap.size ≤ gb139));have n3_ := am ((by rw [hg];exact (below_size HB.out) : w.heap.size ≤ gb139));clear HB;have HB := n0_;have za6 := n1_;have GW139 := n2_;have zcc := n3_;clear n0_ n1_ n2_ n3_;clear hb zan hg;have zgm : w4.cell? ⟨gb139,0,none⟩ = some (.int .i64 zay) := (blk_cell za6.out 0).trans rfl;have zgn : w4.cell? ⟨gb139,1,none⟩ = some (.int .i64 zaK) := (blk_cell za6.out 1).trans rfl;have zgo : w4.cell? ⟨gb139,2,none⟩ = some (.slice zbc zam.length za1) := (blk_cell za6.out 2).trans rfl;have zgX := blk_frozen za6.out 0;have zgp := blk_frozen za6.out 1;have zgq := blk_frozen za6.out 2) | ((with_reducible refine gate_callee (f := 40) rfl ?_);refine goesL_ (some 14) rfl rfl Tryd.func40 (by kernel_rfl) rfl #[.int .i64 zay] rfl (by (try simp only [List.map_toArray,List.map_cons,List.map_nil]);first | done | rfl | (simp only [List.length_drop,List.length_take];rfl)) ?_;(with_reducible refine (tree_of.calls zay t140 t141 t142 t143 _ A2.out).mono ?_);rintro e w6 ⟨rfl,hb⟩;refine ⟨_,rfl,?_⟩;have n0_ := am (blk_below (g := gb139) (o := .cells #[.int .i64 zay,.int .i64 zaK,.slice zbc zam.length za1] 25 (0,0)) za6.out hb);have n1_ := am (below_step HB.out hb);clear za6;clear HB;have za6 := n0_;have HB := n1_;clear n0_ n1_;(try clear hb);(try clear hb2);(try clear hk);(try clear hi)) | ((with_reducible refine gate_dst (N := 4) rfl ?_);(try (refine gate_guard (by rfl) ?_;dsimp only));refine box_event ?hg (N := 4) ?hd (cs := #[.string (⟨#[]⟩ : ByteArray),.int .i64 0,.int .i64 0]) (t := 85) ?hr ?_;(case hd => rfl);(case hg => rfl);(case hr => first | (go_simp;done) | (go_simp;rfl));intro gb144 hg w7 zan hb;have n0_ := am (blk_below (g := gb139) (o := .cells #[.int .i64 zay,.int .i64 zaK,.slice zbc zam.length za1] 25 (0,0)) za6.out hb);have n1_ := am (below_step HB.out hb);have n2_ := am (zan);have n3_ := am ((by rw [hg];exact (below_size HB.out) : w.heap.size ≤ gb144));have n4_ := am ((by rw [hg];exact (below_size HB.out) : w.heap.size ≤ gb144));have n5_ := am ((by rw [hg];exact Nat.ne_of_lt (blk_lt (g := gb139) (o := .cells #[.int .i64 zay,.int .i64 zaK,.slice zbc zam.length za1] 25 (0,0)) za6.out) : gb139 ≠ gb144));have n6_ := am ((by rw [hg];exact Nat.ne_of_gt (blk_lt (g := gb139) (o := .cells #[.int .i64 zay,.int .i64 zaK,.slice zbc zam.length za1] 25 (0,0)) za6.out) : gb144 ≠ gb139));clear za6;clear HB;have za6 := n0_;have HB := n1_;have zbd := n2_;have GW144 := n3_;have zcd := n4_;have zbb := n5_;have zcB := n6_;clear n0_ n1_ n2_ n3_ n4_ n5_ n6_;clear hb zan hg;have hnb8 := zcB.out;have hnc8 := zbb.out;have zdF : w7.cell? ⟨gb144,0,none⟩ = some (.string (⟨#[]⟩ : ByteArray)) := (blk_cell zbd.out 0).trans rfl;have zdG : w7.cell? ⟨gb144,1,none⟩ = some (.int .i64 0) := (blk_cell zbd.out 1).trans rfl;have zdH : w7.cell? ⟨gb144,2,none⟩ = some (.int .i64 0) := (blk_cell zbd.out 2).trans rfl;have zgs := blk_frozen zbd.out 0;have zdI := blk_frozen zbd.out 1;have zdJ := blk_frozen zbd.out 2))
 (try simp only [Act.put,List.setIfInBounds_toArray,List.set_cons_zero,List.set_cons_succ])
 go_cut [46] (fun v46 wc => ∃ (kq : Nat) (x46_2 : Bool),v46 = .bool x46_2 ∧ Aside0 (tree_Size.j0 kq x46_2 zay zaK zam = some (r1,r2)) ∧ Aside0 (kq ≤ k) ∧ Aside0 (wc.heap[gb139]? = some (.cells #[.int .i64 zay,.int .i64 zaK,(.slice zbc zam.length za1)] 25 (0,0))) ∧ Aside0 (wc.heap[gb144]? = some (.cells #[.string t140,.int .i64 t141,.int .i64 t142] 85 (0,0))) ∧ Aside0 (Below w.heap.size w wc))
 case first =>
  have H := HC3.out
  clear HC3
  by_cases c10 : t143 = true
  ·subst c10
   have H1 : (if (zam.length : Int) = t142 then (if zay = 1 then (if zaK < 0 then (tree_Size.j0 k true zay zaK zam) else (tree_Size.j0 k false zay zaK zam)) else (tree_Size.j0 k (zaK != 0) zay zaK zam)) else (tree_Size.j0 k true zay zaK zam)) = some (r1,r2) := by rw [if_pos rfl] at H;exact H
   clear H
   have H := H1
   clear H1
   by_cases c11 : (zam.length : Int) = t142
   ·rw [if_pos c11] at H
    have zds : ((zam.length : Int) == t142) = true := beq_iff_eq.mpr c11
    have zgY : ((zam.length : Int) != t142) = false := bne_eq_false_iff_eq.mpr c11
    clear c11
    (first | rw [zds] | (simp only [i64_w,i32_w];rw [zds]) | skip)
    by_cases c12 : zay = 1
    ·rw [if_pos c12] at H
     have zeZ : (zay == 1) = true := beq_iff_eq.mpr c12
     have zgZ : (zay != 1) = false := bne_eq_false_iff_eq.mpr c12
     clear c12
     by_cases c13 : zaK < 0
     ·rw [if_pos c13] at H
      have ze0 : decide (zaK < 0) = true := decide_eq_true c13
      clear c13
      have H' := am H
      clear H
      have hnb14 := zbb.out
      have hnc14 := zcB.out
      have zfm : w7.cell? ⟨gb139,0,none⟩ = some (.int .i64 zay) := (blk_cell za6.out 0).trans rfl
      have zfn : w7.cell? ⟨gb139,1,none⟩ = some (.int .i64 zaK) := (blk_cell za6.out 1).trans rfl
      have zfo : w7.cell? ⟨gb139,2,none⟩ = some (.slice zbc zam.length za1) := (blk_cell za6.out 2).trans rfl
      have zg0 := blk_frozen za6.out 0
      have zfp := blk_frozen za6.out 1
      have zfq := blk_frozen za6.out 2
      have zfs : w7.cell? ⟨gb144,0,none⟩ = some (.string (⟨#[]⟩ : ByteArray)) := (blk_cell zbd.out 0).trans rfl
      have zft : w7.cell? ⟨gb144,1,none⟩ = some (.int .i64 0) := (blk_cell zbd.out 1).trans rfl
      have zfu : w7.cell? ⟨gb144,2,none⟩ = some (.int .i64 0) := (blk_cell zbd.out 2).trans rfl
      have zfv := blk_frozen zbd.out 0
      have zfw := blk_frozen zbd.out 1
      have zfx := blk_frozen zbd.out 2
      go_wp2
      go_meet
      case rel => exact ⟨_,(true),(by first | rfl | (simp;done) | (simp [*];done)),H',⟨by first | omega | exact Nat.le_refl _⟩,⟨by (with_reducible repeat (first | refine blk_drewN ?_ _ | refine blk_drew ?_ | refine blk_alloc ?_ _));refine blk_far ?_ zbb.out _;(with_reducible repeat (first | refine blk_drewN ?_ _ | refine blk_drew ?_ | refine blk_alloc ?_ _));refine blk_far ?_ zbb.out _;(with_reducible repeat (first | refine blk_drewN ?_ _ | refine blk_drew ?_ | refine blk_alloc ?_ _));refine blk_far ?_ zbb.out _;(with_reducible repeat (first | refine blk_drewN ?_ _ | refine blk_drew ?_ | refine blk_alloc ?_ _));exact za6.out⟩,⟨by (with_reducible repeat (first | refine blk_drewN ?_ _ | refine blk_drew ?_ | refine blk_alloc ?_ _));refine blk_put (cs := #[.string t140,.int .i64 t141,.int .i64 0]) ?_ 2 _ rfl;(with_reducible repeat (first | refine blk_drewN ?_ _ | refine blk_drew ?_ | refine blk_alloc ?_ _));refine blk_put (cs := #[.string t140,.int .i64 0,.int .i64 0]) ?_ 1 _ rfl;(with_reducible repeat (first | refine blk_drewN ?_ _ | refine blk_drew ?_ | refine blk_alloc ?_ _));refine blk_put (cs := #[.string (⟨#[]⟩ : ByteArray),.int .i64 0,.int .i64 0]) ?_ 0 _ rfl;(with_reducible repeat (first | refine blk_drewN ?_ _ | refine blk_drew ?_ | refine blk_alloc ?_ _));exact zbd.out⟩,⟨by repeat (first | (with_reducible first | exact HB.out | apply below_alloc | apply pw_below_drewN | apply below_drew1 | refine below_set ?_ zcc.out | refine below_set ?_ zcd.out) | exact HB.out)⟩⟩
     ·rw [if_neg c13] at H
      have ze0 : decide (zaK < 0) = false := decide_eq_false c13
      clear c13
      have H' := am H
      clear H
      have hnb17 := zbb.out
      have hnc17 := zcB.out
      have zg1 : w7.cell? ⟨gb139,0,none⟩ = some (.int .i64 zay) := (blk_cell za6.out 0).trans rfl
      have zg2 : w7.cell? ⟨gb139,1,none⟩ = some (.int .i64 zaK) := (blk_cell za6.out 1).trans rfl
      have zg3 : w7.cell? ⟨gb139,2,none⟩ = some (.slice zbc zam.length za1) := (blk_cell za6.out 2).trans rfl
      have zg4 := blk_frozen za6.out 0
      have zg5 := blk_frozen za6.out 1
      have zg6 := blk_frozen za6.out 2
      have zdL : w7.cell? ⟨gb144,0,none⟩ = some (.string (⟨#[]⟩ : ByteArray)) := (blk_cell zbd.out 0).trans rfl
      have zdM : w7.cell? ⟨gb144,1,none⟩ = some (.int .i64 0) := (blk_cell zbd.out 1).trans rfl
      have zdN : w7.cell? ⟨gb144,2,none⟩ = some (.int .i64 0) := (blk_cell zbd.out 2).trans rfl
      have zeA := blk_frozen zbd.out 0
      have zdO := blk_frozen zbd.out 1
      have zdP := blk_frozen zbd.out 2
      go_wp2
      go_meet
      case rel => exact ⟨_,(false),(by first | rfl | (simp;done) | (simp [*];done)),H',⟨by first | omega | exact Nat.le_refl _⟩,⟨by (with_reducible repeat (first | refine blk_drewN ?_ _ | refine blk_drew ?_ | refine blk_alloc ?_ _));refine blk_far ?_ zbb.out _;(with_reducible repeat (first | refine blk_drewN ?_ _ | refine blk_drew ?_ | refine blk_alloc ?_ _));refine blk_far ?_ zbb.out _;(with_reducible repeat (first | refine blk_drewN ?_ _ | refine blk_drew ?_ | refine blk_alloc ?_ _));refine blk_far ?_ zbb.out _;(with_reducible repeat (first | refine blk_drewN ?_ _ | refine blk_drew ?_ | refine blk_alloc ?_ _));exact za6.out⟩,⟨by (with_reducible repeat (first | refine blk_drewN ?_ _ | refine blk_drew ?_ | refine blk_alloc ?_ _));refine blk_put (cs := #[.string t140,.int .i64 t141,.int .i64 0]) ?_ 2 _ rfl;(with_reducible repeat (first | refine blk_drewN ?_ _ | refine blk_drew ?_ | refine blk_alloc ?_ _));refine blk_put (cs := #[.string t140,.int .i64 0,.int .i64 0]) ?_ 1 _ rfl;(with_reducible repeat (first | refine blk_drewN ?_ _ | refine blk_drew ?_ | refine blk_alloc ?_ _));refine blk_put (cs := #[.string (⟨#[]⟩ : ByteArray),.int .i64 0,.int .i64 0]) ?_ 0 _ rfl;(with_reducible repeat (first | refine blk_drewN ?_ _ | refine blk_drew ?_ | refine blk_alloc ?_ _));exact zbd.out⟩,⟨by repeat (first | (with_reducible first | exact HB.out | apply below_alloc | apply pw_below_drewN | apply below_drew1 | refine below_set ?_ zcc.out | refine below_set ?_ zcd.out) | exact HB.out)⟩⟩
    ·rw [if_neg c12] at H
     have zeZ : (zay == 1) = false := beq_eq_false_iff_ne.mpr c12
     have zgZ : (zay != 1) = true := bne_iff_ne.mpr c12
     have H' := am H
     clear H
     have hnb20 := zbb.out
     have hnc20 := zcB.out
     have zc6 : w7.cell? ⟨gb139,0,none⟩ = some (.int .i64 zay) := (blk_cell za6.out 0).trans rfl
     have zc7 : w7.cell? ⟨gb139,1,none⟩ = some (.int .i64 zaK) := (blk_cell za6.out 1).trans rfl
     have zc8 : w7.cell? ⟨gb139,2,none⟩ = some (.slice zbc zam.length za1) := (blk_cell za6.out 2).trans rfl
     have zc9 := blk_frozen za6.out 0
     have zda := blk_frozen za6.out 1
     have zdb := blk_frozen za6.out 2
     have zg7 : w7.cell? ⟨gb144,0,none⟩ = some (.string (⟨#[]⟩ : ByteArray)) := (blk_cell zbd.out 0).trans rfl
     have zg8 : w7.cell? ⟨gb144,1,none⟩ = some (.int .i64 0) := (blk_cell zbd.out 1).trans rfl
     have zg9 : w7.cell? ⟨gb144,2,none⟩ = some (.int .i64 0) := (blk_cell zbd.out 2).trans rfl
     have zha := blk_frozen zbd.out 0
     have zhb := blk_frozen zbd.out 1
     have zhc := blk_frozen zbd.out 2
     go_wp2
     go_meet
     case rel => exact ⟨_,((zaK != 0)),(by first | rfl | (simp;done) | (simp [*];done)),H',⟨by first | omega | exact Nat.le_refl _⟩,⟨by (with_reducible repeat (first | refine blk_drewN ?_ _ | refine blk_drew ?_ | refine blk_alloc ?_ _));refine blk_far ?_ zbb.out _;(with_reducible repeat (first | refine blk_drewN ?_ _ | refine blk_drew ?_ | refine blk_alloc ?_ _));refine blk_far ?_ zbb.out _;(with_reducible repeat (first | refine blk_drewN ?_ _ | refine blk_drew ?_ | refine blk_alloc ?_ _));refine blk_far ?_ zbb.out _;(with_reducible repeat (first | refine blk_drewN ?_ _ | refine blk_drew ?_ | refine blk_alloc ?_ _));exact za6.out⟩,⟨by (with_reducible repeat (first | refine blk_drewN ?_ _ | refine blk_drew ?_ | refine blk_alloc ?_ _));refine blk_put (cs := #[.string t140,.int .i64 t141,.int .i64 0]) ?_ 2 _ rfl;(with_reducible repeat (first | refine blk_drewN ?_ _ | refine blk_drew ?_ | refine blk_alloc ?_ _));refine blk_put (cs := #[.string t140,.int .i64 0,.int .i64 0]) ?_ 1 _ rfl;(with_reducible repeat (first | refine blk_drewN ?_ _ | refine blk_drew ?_ | refine blk_alloc ?_ _));refine blk_put (cs := #[.string (⟨#[]⟩ : ByteArray),.int .i64 0,.int .i64 0]) ?_ 0 _ rfl;(with_reducible repeat (first | refine blk_drewN ?_ _ | refine blk_drew ?_ | refine blk_alloc ?_ _));exact zbd.out⟩,⟨by repeat (first | (with_reducible first | exact HB.out | apply below_alloc | apply pw_below_drewN | apply below_drew1 | refine below_set ?_ zcc.out | refine below_set ?_ zcd.out) | exact HB.out)⟩⟩
   ·rw [if_neg c11] at H
    have zds : ((zam.length : Int) == t142) = false := beq_eq_false_iff_ne.mpr c11
    have zgY : ((zam.length : Int) != t142) = true := bne_iff_ne.mpr c11
    (first | rw [zds] | (simp only [i64_w,i32_w];rw [zds]) | skip)
    have H' := am H
    clear H
    have hnb23 := zbb.out
    have hnc23 := zcB.out
    have zhd : w7.cell? ⟨gb139,0,none⟩ = some (.int .i64 zay) := (blk_cell za6.out 0).trans rfl
    have zhe : w7.cell? ⟨gb139,1,none⟩ = some (.int .i64 zaK) := (blk_cell za6.out 1).trans rfl
    have zhf : w7.cell? ⟨gb139,2,none⟩ = some (.slice zbc zam.length za1) := (blk_cell za6.out 2).trans rfl
    have zhg := blk_frozen za6.out 0
    have zhh := blk_frozen za6.out 1
    have zhi := blk_frozen za6.out 2
    have zdQ : w7.cell? ⟨gb144,0,none⟩ = some (.string (⟨#[]⟩ : ByteArray)) := (blk_cell zbd.out 0).trans rfl
    have zdR : w7.cell? ⟨gb144,1,none⟩ = some (.int .i64 0) := (blk_cell zbd.out 1).trans rfl
    have zdS : w7.cell? ⟨gb144,2,none⟩ = some (.int .i64 0) := (blk_cell zbd.out 2).trans rfl
    have zdT := blk_frozen zbd.out 0
    have zdU := blk_frozen zbd.out 1
    have zdV := blk_frozen zbd.out 2
    go_wp2
    go_meet
    case rel => exact ⟨_,(true),(by first | rfl | (simp;done) | (simp [*];done)),H',⟨by first | omega | exact Nat.le_refl _⟩,⟨by (with_reducible repeat (first | refine blk_drewN ?_ _ | refine blk_drew ?_ | refine blk_alloc ?_ _));refine blk_far ?_ zbb.out _;(with_reducible repeat (first | refine blk_drewN ?_ _ | refine blk_drew ?_ | refine blk_alloc ?_ _));refine blk_far ?_ zbb.out _;(with_reducible repeat (first | refine blk_drewN ?_ _ | refine blk_drew ?_ | refine blk_alloc ?_ _));refine blk_far ?_ zbb.out _;(with_reducible repeat (first | refine blk_drewN ?_ _ | refine blk_drew ?_ | refine blk_alloc ?_ _));exact za6.out⟩,⟨by (with_reducible repeat (first | refine blk_drewN ?_ _ | refine blk_drew ?_ | refine blk_alloc ?_ _));refine blk_put (cs := #[.string t140,.int .i64 t141,.int .i64 0]) ?_ 2 _ rfl;(with_reducible repeat (first | refine blk_drewN ?_ _ | refine blk_drew ?_ | refine blk_alloc ?_ _));refine blk_put (cs := #[.string t140,.int .i64 0,.int .i64 0]) ?_ 1 _ rfl;(with_reducible repeat (first | refine blk_drewN ?_ _ | refine blk_drew ?_ | refine blk_alloc ?_ _));refine blk_put (cs := #[.string (⟨#[]⟩ : ByteArray),.int .i64 0,.int .i64 0]) ?_ 0 _ rfl;(with_reducible repeat (first | refine blk_drewN ?_ _ | refine blk_drew ?_ | refine blk_alloc ?_ _));exact zbd.out⟩,⟨by repeat (first | (with_reducible first | exact HB.out | apply below_alloc | apply pw_below_drewN | apply below_drew1 | refine below_set ?_ zcc.out | refine below_set ?_ zcd.out) | exact HB.out)⟩⟩
  ·replace c10 := Bool.eq_false_iff.mpr c10
   subst c10
   have H1 : (tree_Size.j0 k true zay zaK zam) = some (r1,r2) := by rw [if_neg (show ¬ (false = true) by decide)] at H;exact H
   clear H
   have H := H1
   clear H1
   have H' := am H
   clear H
   go_wp2
   go_meet
   case rel => exact ⟨_,(true),(by first | rfl | (simp;done) | (simp [*];done)),H',⟨by first | omega | exact Nat.le_refl _⟩,⟨by (with_reducible repeat (first | refine blk_drewN ?_ _ | refine blk_drew ?_ | refine blk_alloc ?_ _));refine blk_far ?_ zbb.out _;(with_reducible repeat (first | refine blk_drewN ?_ _ | refine blk_drew ?_ | refine blk_alloc ?_ _));refine blk_far ?_ zbb.out _;(with_reducible repeat (first | refine blk_drewN ?_ _ | refine blk_drew ?_ | refine blk_alloc ?_ _));refine blk_far ?_ zbb.out _;(with_reducible repeat (first | refine blk_drewN ?_ _ | refine blk_drew ?_ | refine blk_alloc ?_ _));exact za6.out⟩,⟨by (with_reducible repeat (first | refine blk_drewN ?_ _ | refine blk_drew ?_ | refine blk_alloc ?_ _));refine blk_put (cs := #[.string t140,.int .i64 t141,.int .i64 0]) ?_ 2 _ rfl;(with_reducible repeat (first | refine blk_drewN ?_ _ | refine blk_drew ?_ | refine blk_alloc ?_ _));refine blk_put (cs := #[.string t140,.int .i64 0,.int .i64 0]) ?_ 1 _ rfl;(with_reducible repeat (first | refine blk_drewN ?_ _ | refine blk_drew ?_ | refine blk_alloc ?_ _));refine blk_put (cs := #[.string (⟨#[]⟩ : ByteArray),.int .i64 0,.int .i64 0]) ?_ 0 _ rfl;(with_reducible repeat (first | refine blk_drewN ?_ _ | refine blk_drew ?_ | refine blk_alloc ?_ _));exact zbd.out⟩,⟨by repeat (first | (with_reducible first | exact HB.out | apply below_alloc | apply pw_below_drewN | apply below_drew1 | refine below_set ?_ zcc.out | refine below_set ?_ zcd.out) | exact HB.out)⟩⟩
 case rest =>
  clear HC3
  try clear c1
  try clear c2
  try clear p2
  try clear c4
  try clear c8
  try clear c10
  try clear c11
  try clear zds
  try clear zgY
  try clear c12
  try clear zeZ
  try clear zgZ
  try clear c13
  try clear ze0
  try clear c14
  try clear c17
  try clear c19
  try clear c20
  try clear c23
  try clear zfm
  try clear zfn
  try clear zfo
  try clear zfs
  try clear zft
  try clear zfu
  try clear zg1
  try clear zg2
  try clear zg3
  try clear zdL
  try clear zdM
  try clear zdN
  try clear zc6
  try clear zc7
  try clear zc8
  try clear zg7
  try clear zg8
  try clear zg9
  try clear zhd
  try clear zhe
  try clear zhf
  try clear zdQ
  try clear zdR
  try clear zdS
  try clear zgm
  try clear zgn
  try clear zgo
  try clear zdF
  try clear zdG
  try clear zdH
  try clear zg0
  try clear zfp
  try clear zfq
  try clear zfv
  try clear zfw
  try clear zfx
  try clear zg4
  try clear zg5
  try clear zg6
  try clear zeA
  try clear zdO
  try clear zdP
  try clear zc9
  try clear zda
  try clear zdb
  try clear zha
  try clear zhb
  try clear zhc
  try clear zhg
  try clear zhh
  try clear zhi
  try clear zdT
  try clear zdU
  try clear zdV
  try clear zgX
  try clear zgp
  try clear zgq
  try clear zgs
  try clear zdI
  try clear zdJ
  obtain ⟨kq,x46_2,rfl,HA,HJ2,za6,zbd,HB⟩ := hcut
  cases kq with
  | zero => exact absurd HA.out (by simp [tree_Size.j0])
  | succ kj2 =>
   have H := HA.out
   clear HA
   simp only [tree_Size.j0] at H
   by_cases c26 : x46_2 = true
   ·subst c26
    have H1 : (some (0,false)) = some (r1,r2) := by rw [if_pos rfl] at H;exact H
    clear H
    have H := H1
    clear H1
    simp only [Option.some.injEq,Prod.mk.injEq] at H
    obtain ⟨rfl,rfl⟩ := H
    go_wp2
    go_ret2
    exact ⟨by first | rfl | (simp [errW_none,errW_some] <;> rfl) | (simp [*,errW_none,errW_some] <;> rfl),by repeat (first | (with_reducible first | exact HB.out | apply below_alloc | apply pw_below_drewN | apply below_drew1 | refine below_set ?_ zcc.out | refine below_set ?_ zcd.out) | exact HB.out)⟩
   ·replace c26 := Bool.eq_false_iff.mpr c26
    subst c26
    have H1 : (tree_Size.l0 kj2 1 zam (zam.length : Int) 0) = some (r1,r2) := by rw [if_neg (show ¬ (false = true) by decide)] at H;exact H
    clear H
    have H := H1
    clear H1
    have H' := am H
    clear H
    have hnb27 := zbb.out
    have hnc27 := zcB.out
    have zeB : wc.cell? ⟨gb139,0,none⟩ = some (.int .i64 zay) := (blk_cell za6.out 0).trans rfl
    have zeC : wc.cell? ⟨gb139,1,none⟩ = some (.int .i64 zaK) := (blk_cell za6.out 1).trans rfl
    have zeD : wc.cell? ⟨gb139,2,none⟩ = some (.slice zbc zam.length za1) := (blk_cell za6.out 2).trans rfl
    have zeE := blk_frozen za6.out 0
    have zeF := blk_frozen za6.out 1
    have zeG := blk_frozen za6.out 2
    go_wp2
    go_loopg [6,50] kj2 (fun kq v6 v50 w' => ∃ (x6_2 : Int) (x50_2 : Int),v6 = .int .i64 x6_2 ∧ v50 = .int .i64 x50_2 ∧ Aside0 (tree_Size.l0 kq x6_2 zam (zam.length : Int) x50_2 = some (r1,r2)) ∧ Aside0 (kq ≤ kj2) ∧ Aside0 (w'.heap[gb139]? = some (.cells #[.int .i64 zay,.int .i64 zaK,(.slice zbc zam.length za1)] 25 (0,0))) ∧ Aside0 (w'.heap[gb144]? = some (.cells #[.string t140,.int .i64 t141,.int .i64 t142] 85 (0,0))) ∧ Aside0 (Below w.heap.size w w'))
    case atStart => exact ⟨(1),(0),(by first | rfl | (simp;done) | (simp [*];done)),(by first | rfl | (simp;done) | (simp [*];done)),H',⟨Nat.le_refl _⟩,⟨by (with_reducible repeat (first | refine blk_drewN ?_ _ | refine blk_drew ?_ | refine blk_alloc ?_ _));exact za6.out⟩,⟨by (with_reducible repeat (first | refine blk_drewN ?_ _ | refine blk_drew ?_ | refine blk_alloc ?_ _));exact zbd.out⟩,⟨by repeat (first | (with_reducible first | exact HB.out | apply below_alloc | apply pw_below_drewN | apply below_drew1 | refine below_set ?_ zcc.out | refine below_set ?_ zcd.out) | exact HB.out)⟩⟩
    case round =>
     clear H'
     try clear c1
     try clear c2
     try clear p2
     try clear c4
     try clear c8
     try clear c10
     try clear c11
     try clear zds
     try clear zgY
     try clear c12
     try clear zeZ
     try clear zgZ
     try clear c13
     try clear ze0
     try clear c14
     try clear c17
     try clear c19
     try clear c20
     try clear c23
     try clear c26
     try clear c27
     try clear zfm
     try clear zfn
     try clear zfo
     try clear zfs
     try clear zft
     try clear zfu
     try clear zg1
     try clear zg2
     try clear zg3
     try clear zdL
     try clear zdM
     try clear zdN
     try clear zc6
     try clear zc7
     try clear zc8
     try clear zg7
     try clear zg8
     try clear zg9
     try clear zhd
     try clear zhe
     try clear zhf
     try clear zdQ
     try clear zdR
     try clear zdS
     try clear zeB
     try clear zeC
     try clear zeD
     try clear zgm
     try clear zgn
     try clear zgo
     try clear zdF
     try clear zdG
     try clear zdH
     try clear zg0
     try clear zfp
     try clear zfq
     try clear zfv
     try clear zfw
     try clear zfx
     try clear zg4
     try clear zg5
     try clear zg6
     try clear zeA
     try clear zdO
     try clear zdP
     try clear zc9
     try clear zda
     try clear zdb
     try clear zha
     try clear zhb
     try clear zhc
     try clear zhg
     try clear zhh
     try clear zhi
     try clear zdT
     try clear zdU
     try clear zdV
     try clear zeE
     try clear zeF
     try clear zeG
     try clear zgX
     try clear zgp
     try clear zgq
     try clear zgs
     try clear zdI
     try clear zdJ
     try clear p2
     obtain ⟨x6_2,x50_2,rfl,rfl,HA,HK2,za6,zbd,HB⟩ := hrel
     cases gk with
     | zero => exact absurd HA.out (by simp [tree_Size.l0])
     | succ k2 =>
      have H := HA.out
      clear HA
      simp only [tree_Size.l0] at H
      by_cases c29 : x50_2 < (zam.length : Int)
      ·rw [if_pos c29] at H
       have c29b0 : decide (x50_2 < (zam.length : Int)) = true := decide_eq_true c29
       clear c29
       by_cases c30 : 0 ≤ x50_2
       ·rw [if_pos c30] at H
        have c30b0 : decide (0 ≤ x50_2) = true := decide_eq_true c30
        clear c30
        by_cases c31 : x50_2 < (zam.length : Int)
        ·rw [if_pos c31] at H
         have c31b0 : decide (x50_2 < (zam.length : Int)) = true := decide_eq_true c31
         clear c31
         replace H := Option.bind_eq_some_iff.mp H
         obtain ⟨⟨t147,t148⟩,A320,H⟩ := H
         replace H : (if t148 = true then (if (wrap64 (x6_2 + t147)) > 256 then (some (0,false)) else (tree_Size.l0 k2 (wrap64 (x6_2 + t147)) zam (zam.length : Int) (wrap64 (x50_2 + 1)))) else (some (0,false))) = some (r1,r2) := H
         have A32 := am A320
         clear A320
         by_cases c33 : t148 = true
         ·subst c33
          have H1 : (if (wrap64 (x6_2 + t147)) > 256 then (some (0,false)) else (tree_Size.l0 k2 (wrap64 (x6_2 + t147)) zam (zam.length : Int) (wrap64 (x50_2 + 1)))) = some (r1,r2) := by rw [if_pos rfl] at H;exact H
          clear H
          have H := H1
          clear H1
          by_cases c34 : (wrap64 (x6_2 + t147)) > 256
          ·rw [if_pos c34] at H
           have c34b0 : decide (256 < (wrap64 (x6_2 + t147))) = true := decide_eq_true c34
           clear c34
           simp only [Option.some.injEq,Prod.mk.injEq] at H
           obtain ⟨rfl,rfl⟩ := H
           have zhj : 0 ≤ (x50_2 : Int) := of_decide_eq_true (by first | (with_reducible assumption) | assumption)
           have zhk : x50_2 < (zam.length : Int) := of_decide_eq_true (by first | (with_reducible assumption) | assumption)
           obtain ⟨ad145,A145_2,c145_2,e145,zcr,zcs,zct,zcL,zcM⟩ := at_T25 zdA.out x50_2 zhj zhk
           cases e145
           replace zcr := (HB.out.cell (World.block_lt_of_cell? w _ zcr)).trans zcr
           replace zcs := (HB.out.cell (World.block_lt_of_cell? w _ zcs)).trans zcs
           replace zct := (HB.out.cell (World.block_lt_of_cell? w _ zct)).trans zct
           have zdW := am zcM
           have zdX := am zcL
           clear zcM zcL
           replace zhj := eq_true zhj
           replace zhk := eq_true zhk
           go_wp2_with (first | ((with_reducible refine gate_dst (N := 8) rfl ?_);(try (refine gate_guard (by rfl) ?_;dsimp only));refine box_event ?hg (N := 8) ?hd (cs := #[.int .i64 0,.int .i64 0,.slice none 0 0]) (t := 25) ?hr ?_;(case hd => rfl);(case hg => rfl);(case hr => first | (go_simp;done) | (go_simp;rfl));intro gb146 hg w35 zan hb;have n0_ := am (blk_below (g := gb139) (o := .cells #[.int .i64 zay,.int .i64 zaK,.slice (some ad145) zam.length za1] 25 (0,0)) za6.out hb);have n1_ := am (blk_below (g := gb144) (o := .cells #[.string t140,.int .i64 t141,.int .i64 t142] 85 (0,0)) zbd.out hb);have n2_ := am (below_step (by repeat (first | (with_reducible first | exact HB.out | apply below_alloc | apply pw_below_drewN | apply below_drew1 | refine below_set ?_ zcc.out | refine below_set ?_ zcd.out) | exact HB.out)) hb);have n3_ := am (zan);have n4_ := am ((by rw [hg];exact (below_size (by repeat (first | (with_reducible first | exact HB.out | apply below_alloc | apply pw_below_drewN | apply below_drew1 | refine below_set ?_ zcc.out | refine below_set ?_ zcd.out) | exact HB.out))) : w.heap.size ≤ gb146));have n5_ := am ((by rw [hg];exact (below_size (by repeat (first | (with_reducible first | exact HB.out | apply below_alloc | apply pw_below_drewN | apply below_drew1 | refine below_set ?_ zcc.out | refine below_set ?_ zcd.out) | exact HB.out))) : w.heap.size ≤ gb146));have n6_ := am ((by rw [hg];exact Nat.ne_of_lt (blk_lt (g := gb139) (o := .cells #[.int .i64 zay,.int .i64 zaK,.slice (some ad145) zam.length za1] 25 (0,0)) za6.out) : gb139 ≠ gb146));have n7_ := am ((by rw [hg];exact Nat.ne_of_gt (blk_lt (g := gb139) (o := .cells #[.int .i64 zay,.int .i64 zaK,.slice (some ad145) zam.length za1] 25 (0,0)) za6.out) : gb146 ≠ gb139));have n8_ := am ((by rw [hg];exact Nat.ne_of_lt (blk_lt (g := gb144) (o := .cells #[.string t140,.int .i64 t141,.int .i64 t142] 85 (0,0)) zbd.out) : gb144 ≠ gb146));have n9_ := am ((by rw [hg];exact Nat.ne_of_gt (blk_lt (g := gb144) (o := .cells #[.string t140,.int .i64 t141,.int .i64 t142] 85 (0,0)) zbd.out) : gb146 ≠ gb144));clear za6;clear zbd;clear HB;have za6 := n0_;have zbd := n1_;have HB := n2_;have zaz := n3_;have GW146 := n4_;have zbA := n5_;have zbG := n6_;have zcN := n7_;have zbH := n8_;have zcO := n9_;clear n0_ n1_ n2_ n3_ n4_ n5_ n6_ n7_ n8_ n9_;clear hb zan hg;have hnb36 := zcN.out;have hnc36 := zbG.out;have hnb37 := zcO.out;have hnc37 := zbH.out;have hcz38_0 : w35.cell? ⟨gb146,0,none⟩ = some (.int .i64 0) := (blk_cell zaz.out 0).trans rfl;have hcz38_1 : w35.cell? ⟨gb146,1,none⟩ = some (.int .i64 0) := (blk_cell zaz.out 1).trans rfl;have hcz38_2 : w35.cell? ⟨gb146,2,none⟩ = some (.slice none 0 0) := (blk_cell zaz.out 2).trans rfl;have hfz38_0 := blk_frozen zaz.out 0;have hfz38_1 := blk_frozen zaz.out 1;have hfz38_2 := blk_frozen zaz.out 2) | ((with_reducible refine gate_callee (f := 19) rfl ?_);refine goesL_ (some 56) rfl rfl Tryd.func19 (by kernel_rfl) rfl #[.agg #[.int .i64 ((rd_T25 zam x50_2).f0),.int .i64 ((rd_T25 zam x50_2).f1),.slice A145_2 ((rd_T25 zam x50_2).f2).length c145_2]] rfl (by (try simp only [List.map_toArray,List.map_cons,List.map_nil]);first | done | rfl | (simp only [List.length_drop,List.length_take];rfl)) ?_;(with_reducible refine (ih k2 (by have := HJ2.out;have := HK2.out;omega) ((rd_T25 zam x50_2).f0) ((rd_T25 zam x50_2).f1) _ _ ((rd_T25 zam x50_2).f2) t147 true _ ?za8 ?zbh A32.out).mono ?_);(case za8 => exact Kd.C_below zdW.out (by repeat (first | (with_reducible first | exact HB.out | apply below_alloc | apply pw_below_drewN | apply below_drew1 | refine below_set ?_ zcc.out | refine below_set ?_ zcd.out | refine below_set ?_ zbA.out) | exact HB.out)));(case zbh => exact zdX.out);rintro e w39 ⟨rfl,hb⟩;refine ⟨_,rfl,?_⟩;have n0_ := am (blk_below (g := gb139) (o := .cells #[.int .i64 zay,.int .i64 zaK,.slice (some ad145) zam.length za1] 25 (0,0)) (by (with_reducible repeat (first | refine blk_drewN ?_ _ | refine blk_drew ?_ | refine blk_alloc ?_ _));refine blk_far ?_ zbG.out _;(with_reducible repeat (first | refine blk_drewN ?_ _ | refine blk_drew ?_ | refine blk_alloc ?_ _));refine blk_far ?_ zbG.out _;(with_reducible repeat (first | refine blk_drewN ?_ _ | refine blk_drew ?_ | refine blk_alloc ?_ _));refine blk_far ?_ zbG.out _;(with_reducible repeat (first | refine blk_drewN ?_ _ | refine blk_drew ?_ | refine blk_alloc ?_ _));exact za6.out) hb);have n1_ := am (blk_below (g := gb144) (o := .cells #[.string t140,.int .i64 t141,.int .i64 t142] 85 (0,0)) (by (with_reducible repeat (first | refine blk_drewN ?_ _ | refine blk_drew ?_ | refine blk_alloc ?_ _));refine blk_far ?_ zbH.out _;(with_reducible repeat (first | refine blk_drewN ?_ _ | refine blk_drew ?_ | refine blk_alloc ?_ _));refine blk_far ?_ zbH.out _;(with_reducible repeat (first | refine blk_drewN ?_ _ | refine blk_drew ?_ | refine blk_alloc ?_ _));refine blk_far ?_ zbH.out _;(with_reducible repeat (first | refine blk_drewN ?_ _ | refine blk_drew ?_ | refine blk_alloc ?_ _));exact zbd.out) hb);have n2_ := am (blk_below (g := gb146) (o := .cells #[.int .i64 ((rd_T25 zam x50_2).f0),.int .i64 ((rd_T25 zam x50_2).f1),.slice A145_2 ((rd_T25 zam x50_2).f2).length c145_2] 25 (0,0)) (by (with_reducible repeat (first | refine blk_drewN ?_ _ | refine blk_drew ?_ | refine blk_alloc ?_ _));refine blk_put (cs := #[.int .i64 ((rd_T25 zam x50_2).f0),.int .i64 ((rd_T25 zam x50_2).f1),.slice none 0 0]) ?_ 2 _ rfl;(with_reducible repeat (first | refine blk_drewN ?_ _ | refine blk_drew ?_ | refine blk_alloc ?_ _));refine blk_put (cs := #[.int .i64 ((rd_T25 zam x50_2).f0),.int .i64 0,.slice none 0 0]) ?_ 1 _ rfl;(with_reducible repeat (first | refine blk_drewN ?_ _ | refine blk_drew ?_ | refine blk_alloc ?_ _));refine blk_put (cs := #[.int .i64 0,.int .i64 0,.slice none 0 0]) ?_ 0 _ rfl;(with_reducible repeat (first | refine blk_drewN ?_ _ | refine blk_drew ?_ | refine blk_alloc ?_ _));exact zaz.out) hb);have n3_ := am (below_step (by repeat (first | (with_reducible first | exact HB.out | apply below_alloc | apply pw_below_drewN | apply below_drew1 | refine below_set ?_ zcc.out | refine below_set ?_ zcd.out | refine below_set ?_ zbA.out) | exact HB.out)) hb);clear za6;clear zbd;clear zaz;clear HB;have za6 := n0_;have zbd := n1_;have zaz := n2_;have HB := n3_;clear n0_ n1_ n2_ n3_;(try clear hb);(try clear hb2);(try clear hk);(try clear hi)))
           go_ret2
           exact ⟨by first | rfl | (simp [errW_none,errW_some] <;> rfl) | (simp [*,errW_none,errW_some] <;> rfl),by repeat (first | (with_reducible first | exact HB.out | apply below_alloc | apply pw_below_drewN | apply below_drew1 | refine below_set ?_ zcc.out | refine below_set ?_ zcd.out | refine below_set ?_ zbA.out) | exact HB.out)⟩
          ·rw [if_neg c34] at H
           have c34b0 : decide (256 < (wrap64 (x6_2 + t147))) = false := decide_eq_false c34
           clear c34
           have H' := am H
           clear H
           have zhj : 0 ≤ (x50_2 : Int) := of_decide_eq_true (by first | (with_reducible assumption) | assumption)
           have zhk : x50_2 < (zam.length : Int) := of_decide_eq_true (by first | (with_reducible assumption) | assumption)
           obtain ⟨ad145,A145_2,c145_2,e145,zcr,zcs,zct,zcL,zcM⟩ := at_T25 zdA.out x50_2 zhj zhk
           cases e145
           replace zcr := (HB.out.cell (World.block_lt_of_cell? w _ zcr)).trans zcr
           replace zcs := (HB.out.cell (World.block_lt_of_cell? w _ zcs)).trans zcs
           replace zct := (HB.out.cell (World.block_lt_of_cell? w _ zct)).trans zct
           have zdW := am zcM
           have zdX := am zcL
           clear zcM zcL
           replace zhj := eq_true zhj
           replace zhk := eq_true zhk
           go_wp2_with (first | ((with_reducible refine gate_dst (N := 8) rfl ?_);(try (refine gate_guard (by rfl) ?_;dsimp only));refine box_event ?hg (N := 8) ?hd (cs := #[.int .i64 0,.int .i64 0,.slice none 0 0]) (t := 25) ?hr ?_;(case hd => rfl);(case hg => rfl);(case hr => first | (go_simp;done) | (go_simp;rfl));intro gb146 hg w40 zan hb;have n0_ := am (blk_below (g := gb139) (o := .cells #[.int .i64 zay,.int .i64 zaK,.slice (some ad145) zam.length za1] 25 (0,0)) za6.out hb);have n1_ := am (blk_below (g := gb144) (o := .cells #[.string t140,.int .i64 t141,.int .i64 t142] 85 (0,0)) zbd.out hb);have n2_ := am (below_step (by repeat (first | (with_reducible first | exact HB.out | apply below_alloc | apply pw_below_drewN | apply below_drew1 | refine below_set ?_ zcc.out | refine below_set ?_ zcd.out) | exact HB.out)) hb);have n3_ := am (zan);have n4_ := am ((by rw [hg];exact (below_size (by repeat (first | (with_reducible first | exact HB.out | apply below_alloc | apply pw_below_drewN | apply below_drew1 | refine below_set ?_ zcc.out | refine below_set ?_ zcd.out) | exact HB.out))) : w.heap.size ≤ gb146));have n5_ := am ((by rw [hg];exact (below_size (by repeat (first | (with_reducible first | exact HB.out | apply below_alloc | apply pw_below_drewN | apply below_drew1 | refine below_set ?_ zcc.out | refine below_set ?_ zcd.out) | exact HB.out))) : w.heap.size ≤ gb146));have n6_ := am ((by rw [hg];exact Nat.ne_of_lt (blk_lt (g := gb139) (o := .cells #[.int .i64 zay,.int .i64 zaK,.slice (some ad145) zam.length za1] 25 (0,0)) za6.out) : gb139 ≠ gb146));have n7_ := am ((by rw [hg];exact Nat.ne_of_gt (blk_lt (g := gb139) (o := .cells #[.int .i64 zay,.int .i64 zaK,.slice (some ad145) zam.length za1] 25 (0,0)) za6.out) : gb146 ≠ gb139));have n8_ := am ((by rw [hg];exact Nat.ne_of_lt (blk_lt (g := gb144) (o := .cells #[.string t140,.int .i64 t141,.int .i64 t142] 85 (0,0)) zbd.out) : gb144 ≠ gb146));have n9_ := am ((by rw [hg];exact Nat.ne_of_gt (blk_lt (g := gb144) (o := .cells #[.string t140,.int .i64 t141,.int .i64 t142] 85 (0,0)) zbd.out) : gb146 ≠ gb144));clear za6;clear zbd;clear HB;have za6 := n0_;have zbd := n1_;have HB := n2_;have zaz := n3_;have GW146 := n4_;have zbA := n5_;have zbG := n6_;have zcN := n7_;have zbH := n8_;have zcO := n9_;clear n0_ n1_ n2_ n3_ n4_ n5_ n6_ n7_ n8_ n9_;clear hb zan hg;have hnb41 := zcN.out;have hnc41 := zbG.out;have hnb42 := zcO.out;have hnc42 := zbH.out;have hcz43_0 : w40.cell? ⟨gb146,0,none⟩ = some (.int .i64 0) := (blk_cell zaz.out 0).trans rfl;have hcz43_1 : w40.cell? ⟨gb146,1,none⟩ = some (.int .i64 0) := (blk_cell zaz.out 1).trans rfl;have hcz43_2 : w40.cell? ⟨gb146,2,none⟩ = some (.slice none 0 0) := (blk_cell zaz.out 2).trans rfl;have hfz43_0 := blk_frozen zaz.out 0;have hfz43_1 := blk_frozen zaz.out 1;have hfz43_2 := blk_frozen zaz.out 2) | ((with_reducible refine gate_callee (f := 19) rfl ?_);refine goesL_ (some 56) rfl rfl Tryd.func19 (by kernel_rfl) rfl #[.agg #[.int .i64 ((rd_T25 zam x50_2).f0),.int .i64 ((rd_T25 zam x50_2).f1),.slice A145_2 ((rd_T25 zam x50_2).f2).length c145_2]] rfl (by (try simp only [List.map_toArray,List.map_cons,List.map_nil]);first | done | rfl | (simp only [List.length_drop,List.length_take];rfl)) ?_;(with_reducible refine (ih k2 (by have := HJ2.out;have := HK2.out;omega) ((rd_T25 zam x50_2).f0) ((rd_T25 zam x50_2).f1) _ _ ((rd_T25 zam x50_2).f2) t147 true _ ?za8 ?zbh A32.out).mono ?_);(case za8 => exact Kd.C_below zdW.out (by repeat (first | (with_reducible first | exact HB.out | apply below_alloc | apply pw_below_drewN | apply below_drew1 | refine below_set ?_ zcc.out | refine below_set ?_ zcd.out | refine below_set ?_ zbA.out) | exact HB.out)));(case zbh => exact zdX.out);rintro e w44 ⟨rfl,hb⟩;refine ⟨_,rfl,?_⟩;have n0_ := am (blk_below (g := gb139) (o := .cells #[.int .i64 zay,.int .i64 zaK,.slice (some ad145) zam.length za1] 25 (0,0)) (by (with_reducible repeat (first | refine blk_drewN ?_ _ | refine blk_drew ?_ | refine blk_alloc ?_ _));refine blk_far ?_ zbG.out _;(with_reducible repeat (first | refine blk_drewN ?_ _ | refine blk_drew ?_ | refine blk_alloc ?_ _));refine blk_far ?_ zbG.out _;(with_reducible repeat (first | refine blk_drewN ?_ _ | refine blk_drew ?_ | refine blk_alloc ?_ _));refine blk_far ?_ zbG.out _;(with_reducible repeat (first | refine blk_drewN ?_ _ | refine blk_drew ?_ | refine blk_alloc ?_ _));exact za6.out) hb);have n1_ := am (blk_below (g := gb144) (o := .cells #[.string t140,.int .i64 t141,.int .i64 t142] 85 (0,0)) (by (with_reducible repeat (first | refine blk_drewN ?_ _ | refine blk_drew ?_ | refine blk_alloc ?_ _));refine blk_far ?_ zbH.out _;(with_reducible repeat (first | refine blk_drewN ?_ _ | refine blk_drew ?_ | refine blk_alloc ?_ _));refine blk_far ?_ zbH.out _;(with_reducible repeat (first | refine blk_drewN ?_ _ | refine blk_drew ?_ | refine blk_alloc ?_ _));refine blk_far ?_ zbH.out _;(with_reducible repeat (first | refine blk_drewN ?_ _ | refine blk_drew ?_ | refine blk_alloc ?_ _));exact zbd.out) hb);have n2_ := am (blk_below (g := gb146) (o := .cells #[.int .i64 ((rd_T25 zam x50_2).f0),.int .i64 ((rd_T25 zam x50_2).f1),.slice A145_2 ((rd_T25 zam x50_2).f2).length c145_2] 25 (0,0)) (by (with_reducible repeat (first | refine blk_drewN ?_ _ | refine blk_drew ?_ | refine blk_alloc ?_ _));refine blk_put (cs := #[.int .i64 ((rd_T25 zam x50_2).f0),.int .i64 ((rd_T25 zam x50_2).f1),.slice none 0 0]) ?_ 2 _ rfl;(with_reducible repeat (first | refine blk_drewN ?_ _ | refine blk_drew ?_ | refine blk_alloc ?_ _));refine blk_put (cs := #[.int .i64 ((rd_T25 zam x50_2).f0),.int .i64 0,.slice none 0 0]) ?_ 1 _ rfl;(with_reducible repeat (first | refine blk_drewN ?_ _ | refine blk_drew ?_ | refine blk_alloc ?_ _));refine blk_put (cs := #[.int .i64 0,.int .i64 0,.slice none 0 0]) ?_ 0 _ rfl;(with_reducible repeat (first | refine blk_drewN ?_ _ | refine blk_drew ?_ | refine blk_alloc ?_ _));exact zaz.out) hb);have n3_ := am (below_step (by repeat (first | (with_reducible first | exact HB.out | apply below_alloc | apply pw_below_drewN | apply below_drew1 | refine below_set ?_ zcc.out | refine below_set ?_ zcd.out | refine below_set ?_ zbA.out) | exact HB.out)) hb);clear za6;clear zbd;clear zaz;clear HB;have za6 := n0_;have zbd := n1_;have zaz := n2_;have HB := n3_;clear n0_ n1_ n2_ n3_;(try clear hb);(try clear hb2);(try clear hk);(try clear hi)))
           go_roundg k2
           case measure => have := HJ2.out;have := HK2.out;omega
           case rel => exact ⟨(wrap64 (x6_2 + t147)),(wrap64 (x50_2 + 1)),(by first | rfl | (simp;done) | (simp [*];done)),(by first | rfl | (simp;done) | (simp [*];done)),H',⟨by have := HJ2.out;have := HK2.out;omega⟩,⟨by (with_reducible repeat (first | refine blk_drewN ?_ _ | refine blk_drew ?_ | refine blk_alloc ?_ _));exact za6.out⟩,⟨by (with_reducible repeat (first | refine blk_drewN ?_ _ | refine blk_drew ?_ | refine blk_alloc ?_ _));exact zbd.out⟩,⟨by repeat (first | (with_reducible first | exact HB.out | apply below_alloc | apply pw_below_drewN | apply below_drew1 | refine below_set ?_ zcc.out | refine below_set ?_ zcd.out | refine below_set ?_ zbA.out) | exact HB.out)⟩⟩
         ·replace c33 := Bool.eq_false_iff.mpr c33
          subst c33
          have H1 : (some (0,false)) = some (r1,r2) := by rw [if_neg (show ¬ (false = true) by decide)] at H;exact H
          clear H
          have H := H1
          clear H1
          simp only [Option.some.injEq,Prod.mk.injEq] at H
          obtain ⟨rfl,rfl⟩ := H
          have zhj : 0 ≤ (x50_2 : Int) := of_decide_eq_true (by first | (with_reducible assumption) | assumption)
          have zhk : x50_2 < (zam.length : Int) := of_decide_eq_true (by first | (with_reducible assumption) | assumption)
          obtain ⟨ad145,A145_2,c145_2,e145,zcr,zcs,zct,zcL,zcM⟩ := at_T25 zdA.out x50_2 zhj zhk
          cases e145
          replace zcr := (HB.out.cell (World.block_lt_of_cell? w _ zcr)).trans zcr
          replace zcs := (HB.out.cell (World.block_lt_of_cell? w _ zcs)).trans zcs
          replace zct := (HB.out.cell (World.block_lt_of_cell? w _ zct)).trans zct
          have zdW := am zcM
          have zdX := am zcL
          clear zcM zcL
          replace zhj := eq_true zhj
          replace zhk := eq_true zhk
          go_wp2_with (first | ((with_reducible refine gate_dst (N := 8) rfl ?_);(try (refine gate_guard (by rfl) ?_;dsimp only));refine box_event ?hg (N := 8) ?hd (cs := #[.int .i64 0,.int .i64 0,.slice none 0 0]) (t := 25) ?hr ?_;(case hd => rfl);(case hg => rfl);(case hr => first | (go_simp;done) | (go_simp;rfl));intro gb146 hg w45 zan hb;have n0_ := am (blk_below (g := gb139) (o := .cells #[.int .i64 zay,.int .i64 zaK,.slice (some ad145) zam.length za1] 25 (0,0)) za6.out hb);have n1_ := am (blk_below (g := gb144) (o := .cells #[.string t140,.int .i64 t141,.int .i64 t142] 85 (0,0)) zbd.out hb);have n2_ := am (below_step (by repeat (first | (with_reducible first | exact HB.out | apply below_alloc | apply pw_below_drewN | apply below_drew1 | refine below_set ?_ zcc.out | refine below_set ?_ zcd.out) | exact HB.out)) hb);have n3_ := am (zan);have n4_ := am ((by rw [hg];exact (below_size (by repeat (first | (with_reducible first | exact HB.out | apply below_alloc | apply pw_below_drewN | apply below_drew1 | refine below_set ?_ zcc.out | refine below_set ?_ zcd.out) | exact HB.out))) : w.heap.size ≤ gb146));have n5_ := am ((by rw [hg];exact (below_size (by repeat (first | (with_reducible first | exact HB.out | apply below_alloc | apply pw_below_drewN | apply below_drew1 | refine below_set ?_ zcc.out | refine below_set ?_ zcd.out) | exact HB.out))) : w.heap.size ≤ gb146));have n6_ := am ((by rw [hg];exact Nat.ne_of_lt (blk_lt (g := gb139) (o := .cells #[.int .i64 zay,.int .i64 zaK,.slice (some ad145) zam.length za1] 25 (0,0)) za6.out) : gb139 ≠ gb146));have n7_ := am ((by rw [hg];exact Nat.ne_of_gt (blk_lt (g := gb139) (o := .cells #[.int .i64 zay,.int .i64 zaK,.slice (some ad145) zam.length za1] 25 (0,0)) za6.out) : gb146 ≠ gb139));have n8_ := am ((by rw [hg];exact Nat.ne_of_lt (blk_lt (g := gb144) (o := .cells #[.string t140,.int .i64 t141,.int .i64 t142] 85 (0,0)) zbd.out) : gb144 ≠ gb146));have n9_ := am ((by rw [hg];exact Nat.ne_of_gt (blk_lt (g := gb144) (o := .cells #[.string t140,.int .i64 t141,.int .i64 t142] 85 (0,0)) zbd.out) : gb146 ≠ gb144));clear za6;clear zbd;clear HB;have za6 := n0_;have zbd := n1_;have HB := n2_;have zaz := n3_;have GW146 := n4_;have zbA := n5_;have zbG := n6_;have zcN := n7_;have zbH := n8_;have zcO := n9_;clear n0_ n1_ n2_ n3_ n4_ n5_ n6_ n7_ n8_ n9_;clear hb zan hg;have hnb46 := zcN.out;have hnc46 := zbG.out;have hnb47 := zcO.out;have hnc47 := zbH.out;have zfy : w45.cell? ⟨gb146,0,none⟩ = some (.int .i64 0) := (blk_cell zaz.out 0).trans rfl;have zfz : w45.cell? ⟨gb146,1,none⟩ = some (.int .i64 0) := (blk_cell zaz.out 1).trans rfl;have zfA : w45.cell? ⟨gb146,2,none⟩ = some (.slice none 0 0) := (blk_cell zaz.out 2).trans rfl;have zfB := blk_frozen zaz.out 0;have zfC := blk_frozen zaz.out 1;have zfD := blk_frozen zaz.out 2) | ((with_reducible refine gate_callee (f := 19) rfl ?_);refine goesL_ (some 56) rfl rfl Tryd.func19 (by kernel_rfl) rfl #[.agg #[.int .i64 ((rd_T25 zam x50_2).f0),.int .i64 ((rd_T25 zam x50_2).f1),.slice A145_2 ((rd_T25 zam x50_2).f2).length c145_2]] rfl (by (try simp only [List.map_toArray,List.map_cons,List.map_nil]);first | done | rfl | (simp only [List.length_drop,List.length_take];rfl)) ?_;(with_reducible refine (ih k2 (by have := HJ2.out;have := HK2.out;omega) ((rd_T25 zam x50_2).f0) ((rd_T25 zam x50_2).f1) _ _ ((rd_T25 zam x50_2).f2) t147 false _ ?za8 ?zbh A32.out).mono ?_);(case za8 => exact Kd.C_below zdW.out (by repeat (first | (with_reducible first | exact HB.out | apply below_alloc | apply pw_below_drewN | apply below_drew1 | refine below_set ?_ zcc.out | refine below_set ?_ zcd.out | refine below_set ?_ zbA.out) | exact HB.out)));(case zbh => exact zdX.out);rintro e w49 ⟨rfl,hb⟩;refine ⟨_,rfl,?_⟩;have n0_ := am (blk_below (g := gb139) (o := .cells #[.int .i64 zay,.int .i64 zaK,.slice (some ad145) zam.length za1] 25 (0,0)) (by (with_reducible repeat (first | refine blk_drewN ?_ _ | refine blk_drew ?_ | refine blk_alloc ?_ _));refine blk_far ?_ zbG.out _;(with_reducible repeat (first | refine blk_drewN ?_ _ | refine blk_drew ?_ | refine blk_alloc ?_ _));refine blk_far ?_ zbG.out _;(with_reducible repeat (first | refine blk_drewN ?_ _ | refine blk_drew ?_ | refine blk_alloc ?_ _));refine blk_far ?_ zbG.out _;(with_reducible repeat (first | refine blk_drewN ?_ _ | refine blk_drew ?_ | refine blk_alloc ?_ _));exact za6.out) hb);have n1_ := am (blk_below (g := gb144) (o := .cells #[.string t140,.int .i64 t141,.int .i64 t142] 85 (0,0)) (by (with_reducible repeat (first | refine blk_drewN ?_ _ | refine blk_drew ?_ | refine blk_alloc ?_ _));refine blk_far ?_ zbH.out _;(with_reducible repeat (first | refine blk_drewN ?_ _ | refine blk_drew ?_ | refine blk_alloc ?_ _));refine blk_far ?_ zbH.out _;(with_reducible repeat (first | refine blk_drewN ?_ _ | refine blk_drew ?_ | refine blk_alloc ?_ _));refine blk_far ?_ zbH.out _;(with_reducible repeat (first | refine blk_drewN ?_ _ | refine blk_drew ?_ | refine blk_alloc ?_ _));exact zbd.out) hb);have n2_ := am (blk_below (g := gb146) (o := .cells #[.int .i64 ((rd_T25 zam x50_2).f0),.int .i64 ((rd_T25 zam x50_2).f1),.slice A145_2 ((rd_T25 zam x50_2).f2).length c145_2] 25 (0,0)) (by (with_reducible repeat (first | refine blk_drewN ?_ _ | refine blk_drew ?_ | refine blk_alloc ?_ _));refine blk_put (cs := #[.int .i64 ((rd_T25 zam x50_2).f0),.int .i64 ((rd_T25 zam x50_2).f1),.slice none 0 0]) ?_ 2 _ rfl;(with_reducible repeat (first | refine blk_drewN ?_ _ | refine blk_drew ?_ | refine blk_alloc ?_ _));refine blk_put (cs := #[.int .i64 ((rd_T25 zam x50_2).f0),.int .i64 0,.slice none 0 0]) ?_ 1 _ rfl;(with_reducible repeat (first | refine blk_drewN ?_ _ | refine blk_drew ?_ | refine blk_alloc ?_ _));refine blk_put (cs := #[.int .i64 0,.int .i64 0,.slice none 0 0]) ?_ 0 _ rfl;(with_reducible repeat (first | refine blk_drewN ?_ _ | refine blk_drew ?_ | refine blk_alloc ?_ _));exact zaz.out) hb);have n3_ := am (below_step (by repeat (first | (with_reducible first | exact HB.out | apply below_alloc | apply pw_below_drewN | apply below_drew1 | refine below_set ?_ zcc.out | refine below_set ?_ zcd.out | refine below_set ?_ zbA.out) | exact HB.out)) hb);clear za6;clear zbd;clear zaz;clear HB;have za6 := n0_;have zbd := n1_;have zaz := n2_;have HB := n3_;clear n0_ n1_ n2_ n3_;(try clear hb);(try clear hb2);(try clear hk);(try clear hi)))
          go_ret2
          exact ⟨by first | rfl | (simp [errW_none,errW_some] <;> rfl) | (simp [*,errW_none,errW_some] <;> rfl),by repeat (first | (with_reducible first | exact HB.out | apply below_alloc | apply pw_below_drewN | apply below_drew1 | refine below_set ?_ zcc.out | refine below_set ?_ zcd.out | refine below_set ?_ zbA.out) | exact HB.out)⟩
        ·rw [if_neg c31] at H
         exact absurd H (by simp)
       ·rw [if_neg c30] at H
        exact absurd H (by simp)
      ·rw [if_neg c29] at H
       have c29b0 : decide (x50_2 < (zam.length : Int)) = false := decide_eq_false c29
       clear c29
       simp only [Option.some.injEq,Prod.mk.injEq] at H
       obtain ⟨rfl,rfl⟩ := H
       go_wp2
       go_ret2
       exact ⟨by first | rfl | (simp [errW_none,errW_some] <;> rfl) | (simp [*,errW_none,errW_some] <;> rfl),by repeat (first | (with_reducible first | exact HB.out | apply below_alloc | apply pw_below_drewN | apply below_drew1 | refine below_set ?_ zcc.out | refine below_set ?_ zcd.out) | exact HB.out)⟩
end Go.Proofs.YtgnmdhnlcibbiaaDoor.P
end
section
namespace Go.Proofs.YtgnmdhnlcibbiaaDoor.P
open Go.RowKit Go.Proofs.PrintWords Go.Proofs.PrintLast Go.Proofs.PrintMore
attribute [local go_sem] max2_int min2_int max_two min_two max_three min_three max_four min_four   -- for this text's walks alone
set_option linter.unusedVariables false
set_option linter.unusedSimpArgs false
def tree_Check.f (k : Nat) (zay : Int) (zaK : Int) (zam : List (S25)) : Option (Int) := (tree_Size.f k zay zaK zam).bind fun bt150 => (if bt150.2 = true then (some 0) else (some 1))
theorem tree_Check.calls (k : Nat) (zay : Int) (zaK : Int) (zbc : Option Addr) (za1 : Nat) (zam : List (S25)) (r : Int) (w : World) (zbM : Kd.C k25 w zbc zam.length zam) (zca : zam.length ≤ za1) (h : tree_Check.f k zay zaK zam = some r) :
  Calls Tryd.prog 21 #[.agg #[.int .i64 zay,.int .i64 zaK,.slice zbc zam.length za1]] w fun e w' => e = .returned (.int .i64 r) ∧ Below w.heap.size w w' := by
 have zcz := Tryd.underlying25
 have zdA := am zbM
 have zeY := am zca
 clear zbM zca
 have HB := am (Below.refl w.heap.size w)
 have H : ((tree_Size.f k zay zaK zam).bind fun bt150 => (if bt150.2 = true then (some 0) else (some 1))) = some r := h
 clear h
 replace H := Option.bind_eq_some_iff.mp H
 obtain ⟨⟨t150,t151⟩,A20,H⟩ := H
 replace H : (if t151 = true then (some 0) else (some 1)) = some r := H
 have A2 := am A20
 clear A20
 by_cases c3 : t151 = true
 ·subst c3
  have H1 : (some 0) = some r := by rw [if_pos rfl] at H;exact H
  clear H
  have H := H1
  clear H1
  obtain rfl := Option.some.inj H
  go_enter Tryd.func21,Tryd.ntmps21
  go_wp2_with (first | ((with_reducible refine gate_dst (N := 1) rfl ?_);refine box_event ?hg (N := 1) ?hd (cs := #[.int .i64 zay,.int .i64 zaK,.slice zbc zam.length za1]) (t := 25) ?hr ?_;(case hd => rfl);(case hg => rfl);(case hr => first | (go_simp;done) | (go_simp;rfl));intro gb149 hg w4 zan hb;have n0_ := am (below_step (by repeat (first | (with_reducible first | exact HB.out | apply below_alloc | apply pw_below_drewN | apply below_drew1) | exact HB.out)) hb);have n1_ := am (zan);have n2_ := am ((by rw [hg];exact (below_size (by repeat (first | (with_reducible first | exact HB.out | apply below_alloc | apply pw_below_drewN | apply below_drew1) | exact HB.out))) : w.heap.size ≤ gb149));have n3_ := am ((by rw [hg];exact (below_size (by repeat (first | (with_reducible first | exact HB.out | apply below_alloc | apply pw_below_drewN | apply below_drew1) | exact HB.out))) : w.heap.size ≤ gb149));clear HB;have HB := n0_;have zcH := n1_;have GW149 := n2_;have zhl := n3_;clear n0_ n1_ n2_ n3_;clear hb zan hg;have zgm : w4.cell? ⟨gb149,0,none⟩ = some (.int .i64 zay) := (blk_cell zcH.out 0).trans rfl;have zgn : w4.cell? ⟨gb149,1,none⟩ = some (.int .i64 zaK) := (blk_cell zcH.out 1).trans rfl;have zgo : w4.cell? ⟨gb149,2,none⟩ = some (.slice zbc zam.length za1) := (blk_cell zcH.out 2).trans rfl;have zgX := blk_frozen zcH.out 0;have zgp := blk_frozen zcH.out 1;have zgq := blk_frozen zcH.out 2) | ((with_reducible refine gate_callee (f := 19) rfl ?_);refine goesL_ (some 7) rfl rfl Tryd.func19 (by kernel_rfl) rfl #[.agg #[.int .i64 zay,.int .i64 zaK,.slice zbc zam.length za1]] rfl (by (try simp only [List.map_toArray,List.map_cons,List.map_nil]);first | done | rfl | (simp only [List.length_drop,List.length_take];rfl)) ?_;(with_reducible refine (tree_Size.calls k zay zaK _ _ zam t150 true _ ?za8 ?zbh A2.out).mono ?_);(case za8 => repeat (first | exact (Kd.C_below zdA.out HB.out) | (with_reducible refine Kd.C_alloc ?_ _) | (with_reducible refine Kd.C_drewN ?_ _) | (with_reducible refine Kd.C_drew ?_)));(case zbh => exact zeY.out);rintro e w6 ⟨rfl,hb⟩;refine ⟨_,rfl,?_⟩;have n0_ := am (blk_below (g := gb149) (o := .cells #[.int .i64 zay,.int .i64 zaK,.slice zbc zam.length za1] 25 (0,0)) (by (with_reducible repeat (first | refine blk_drewN ?_ _ | refine blk_drew ?_ | refine blk_alloc ?_ _));exact zcH.out) hb);have n1_ := am (below_step (by repeat (first | (with_reducible first | exact HB.out | apply below_alloc | apply pw_below_drewN | apply below_drew1 | refine below_set ?_ zhl.out) | exact HB.out)) hb);clear zcH;clear HB;have zcH := n0_;have HB := n1_;clear n0_ n1_;(try clear hb);(try clear hb2);(try clear hk);(try clear hi)))
  go_ret
  exact ⟨by first | rfl | (simp [errW_none,errW_some] <;> rfl) | (simp [*,errW_none,errW_some] <;> rfl),by repeat (first | (with_reducible first | exact HB.out | apply below_alloc | apply pw_below_drewN | apply below_drew1 | refine below_set ?_ zhl.out) | exact HB.out)⟩
 ·replace c3 := Bool.eq_false_iff.mpr c3
  subst c3
  have H1 : (some 1) = some r := by rw [if_neg (show ¬ (false = true) by decide)] at H;exact H
  clear H
  have H := H1
  clear H1
  obtain rfl := Option.some.inj H
  go_enter Tryd.func21,Tryd.ntmps21
  go_wp2_with (first | ((with_reducible refine gate_dst (N := 1) rfl ?_);refine box_event ?hg (N := 1) ?hd (cs := #[.int .i64 zay,.int .i64 zaK,.slice zbc zam.length za1]) (t := 25) ?hr ?_;(case hd => rfl);(case hg => rfl);(case hr => first | (go_simp;done) | (go_simp;rfl));intro gb149 hg w7 zan hb;have n0_ := am (below_step (by repeat (first | (with_reducible first | exact HB.out | apply below_alloc | apply pw_below_drewN | apply below_drew1) | exact HB.out)) hb);have n1_ := am (zan);have n2_ := am ((by rw [hg];exact (below_size (by repeat (first | (with_reducible first | exact HB.out | apply below_alloc | apply pw_below_drewN | apply below_drew1) | exact HB.out))) : w.heap.size ≤ gb149));have n3_ := am ((by rw [hg];exact (below_size (by repeat (first | (with_reducible first | exact HB.out | apply below_alloc | apply pw_below_drewN | apply below_drew1) | exact HB.out))) : w.heap.size ≤ gb149));clear HB;have HB := n0_;have zcH := n1_;have GW149 := n2_;have zhl := n3_;clear n0_ n1_ n2_ n3_;clear hb zan hg;have zgI : w7.cell? ⟨gb149,0,none⟩ = some (.int .i64 zay) := (blk_cell zcH.out 0).trans rfl;have zgJ : w7.cell? ⟨gb149,1,none⟩ = some (.int .i64 zaK) := (blk_cell zcH.out 1).trans rfl;have zgK : w7.cell? ⟨gb149,2,none⟩ = some (.slice zbc zam.length za1) := (blk_cell zcH.out 2).trans rfl;have hfz8_0 := blk_frozen zcH.out 0;have zgL := blk_frozen zcH.out 1;have zgM := blk_frozen zcH.out 2) | ((with_reducible refine gate_callee (f := 19) rfl ?_);refine goesL_ (some 7) rfl rfl Tryd.func19 (by kernel_rfl) rfl #[.agg #[.int .i64 zay,.int .i64 zaK,.slice zbc zam.length za1]] rfl (by (try simp only [List.map_toArray,List.map_cons,List.map_nil]);first | done | rfl | (simp only [List.length_drop,List.length_take];rfl)) ?_;(with_reducible refine (tree_Size.calls k zay zaK _ _ zam t150 false _ ?za8 ?zbh A2.out).mono ?_);(case za8 => repeat (first | exact (Kd.C_below zdA.out HB.out) | (with_reducible refine Kd.C_alloc ?_ _) | (with_reducible refine Kd.C_drewN ?_ _) | (with_reducible refine Kd.C_drew ?_)));(case zbh => exact zeY.out);rintro e w9 ⟨rfl,hb⟩;refine ⟨_,rfl,?_⟩;have n0_ := am (blk_below (g := gb149) (o := .cells #[.int .i64 zay,.int .i64 zaK,.slice zbc zam.length za1] 25 (0,0)) (by (with_reducible repeat (first | refine blk_drewN ?_ _ | refine blk_drew ?_ | refine blk_alloc ?_ _));exact zcH.out) hb);have n1_ := am (below_step (by repeat (first | (with_reducible first | exact HB.out | apply below_alloc | apply pw_below_drewN | apply below_drew1 | refine below_set ?_ zhl.out) | exact HB.out)) hb);clear zcH;clear HB;have zcH := n0_;have HB := n1_;clear n0_ n1_;(try clear hb);(try clear hb2);(try clear hk);(try clear hi)))
  go_ret
  exact ⟨by first | rfl | (simp [errW_none,errW_some] <;> rfl) | (simp [*,errW_none,errW_some] <;> rfl),by repeat (first | (with_reducible first | exact HB.out | apply below_alloc | apply pw_below_drewN | apply below_drew1 | refine below_set ?_ zhl.out) | exact HB.out)⟩
def tree_truth.f (a0 : Bool) : Option (Int) := if a0 = true then (some 1) else (some 0)
theorem tree_truth.calls (a0 : Bool) (r : Int) (w : World) (h : tree_truth.f a0 = some r) :
  Calls Tryd.prog 50 #[.bool a0] w fun e w' => e = .returned (.int .i64 r) ∧ Drawn0 w w' := by
 have H : (if a0 = true then (some 1) else (some 0)) = some r := h
 clear h
 by_cases c2 : a0 = true
 ·subst c2
  have H1 : (some 1) = some r := by rw [if_pos rfl] at H;exact H
  clear H
  have H := H1
  clear H1
  obtain rfl := Option.some.inj H
  go_enter Tryd.func50,Tryd.ntmps50
  go_wp2
  go_ret
  exact ⟨by first | rfl | (simp;done) | (simp [*];done),by repeat (first | exact Drawn0.refl _ | apply Drawn0.step)⟩
 ·replace c2 := Bool.eq_false_iff.mpr c2
  subst c2
  have H1 : (some 0) = some r := by rw [if_neg (show ¬ (false = true) by decide)] at H;exact H
  clear H
  have H := H1
  clear H1
  obtain rfl := Option.some.inj H
  go_enter Tryd.func50,Tryd.ntmps50
  go_wp2
  go_ret
  exact ⟨by first | rfl | (simp;done) | (simp [*];done),by repeat (first | exact Drawn0.refl _ | apply Drawn0.step)⟩
end Go.Proofs.YtgnmdhnlcibbiaaDoor.P
end
section
namespace Go.Proofs.YtgnmdhnlcibbiaaDoor.P
open Go.RowKit Go.Proofs.PrintWords Go.Proofs.PrintLast Go.Proofs.PrintMore
attribute [local go_sem] max2_int min2_int max_two min_two max_three min_three max_four min_four   -- for this text's walks alone
set_option linter.unusedVariables false
set_option linter.unusedSimpArgs false
def tree_Apply.j0 : Nat → Int → Int → Int → Int → Bool → Option (Int)
 | 0,_,_,_,_,_ => none
 | k + 1,x0,x1,x2,x7,x22 => if x22 = true then (if x2 = 0 then (some 0) else (if x0 = 8 then (some (wrap64 (Int.tdiv x1 x2))) else (some (Int.tmod x1 x2)))) else (if x7 = 10 then (some (wrap64 (x1 + x2))) else (if x7 = 11 then (some (wrap64 (x1 - x2))) else (if x7 = 12 then ((tree_truth.f (x1 == x2)).bind fun t153 => (some t153)) else (if x7 = 13 then ((tree_truth.f (x1 != x2)).bind fun t154 => (some t154)) else (if x7 = 14 then ((tree_truth.f (decide (x1 < x2))).bind fun t155 => (some t155)) else (if x7 = 15 then ((tree_truth.f (decide (x1 ≤ x2))).bind fun t156 => (some t156)) else (if x7 = 16 then ((tree_truth.f (decide (x1 > x2))).bind fun t157 => (some t157)) else (if x7 = 17 then ((tree_truth.f (decide (x1 ≥ x2))).bind fun t158 => (some t158)) else (if x7 = 18 then (if x1 = 0 then ((tree_truth.f false).bind fun t159 => (some t159)) else ((tree_truth.f (x2 != 0)).bind fun t160 => (some t160))) else (if x7 = 19 then (if x1 = 0 then ((tree_truth.f (x2 != 0)).bind fun t161 => (some t161)) else ((tree_truth.f true).bind fun t162 => (some t162))) else (if x7 = 20 then (some (mn x1 x2)) else (if x7 = 21 then (some (mx x1 x2)) else (some 0)))))))))))))
def tree_Apply.f (k : Nat) (a0 : Int) (a1 : Int) (a2 : Int) : Option (Int) := if a0 = 5 then (some (wrap64 (-a1))) else (if a0 = 6 then ((tree_truth.f (a1 == 0)).bind fun t152 => (some t152)) else (if a0 = 7 then (some (wrap64 (a1 * a2))) else (if a0 = 8 then (tree_Apply.j0 k a0 a1 a2 a0 (a0 == 8)) else (tree_Apply.j0 k a0 a1 a2 a0 (a0 == 9)))))
theorem tree_Apply.calls (k : Nat) (a0 : Int) (a1 : Int) (a2 : Int) (r : Int) (w : World) (h : tree_Apply.f k a0 a1 a2 = some r) :
  Calls Tryd.prog 25 #[.int .i64 a0,.int .i64 a1,.int .i64 a2] w fun e w' => e = .returned (.int .i64 r) ∧ Below w.heap.size w w' := by
 have HB := am (Below.refl w.heap.size w)
 have H : (if a0 = 5 then (some (wrap64 (-a1))) else (if a0 = 6 then ((tree_truth.f (a1 == 0)).bind fun t152 => (some t152)) else (if a0 = 7 then (some (wrap64 (a1 * a2))) else (if a0 = 8 then (tree_Apply.j0 k a0 a1 a2 a0 (a0 == 8)) else (tree_Apply.j0 k a0 a1 a2 a0 (a0 == 9)))))) = some r := h
 clear h
 by_cases c4 : a0 = 5
 ·rw [if_pos c4] at H
  have c4b0 : (a0 == 5) = true := beq_iff_eq.mpr c4
  have c4b1 : (a0 != 5) = false := bne_eq_false_iff_eq.mpr c4
  clear c4
  obtain rfl := Option.some.inj H
  go_enter Tryd.func25,Tryd.ntmps25
  go_wp2
  go_ret
  exact ⟨by first | rfl | (simp [errW_none,errW_some] <;> rfl) | (simp [*,errW_none,errW_some] <;> rfl),by repeat (first | (with_reducible first | exact HB.out | apply below_alloc | apply pw_below_drewN | apply below_drew1) | exact HB.out)⟩
 ·rw [if_neg c4] at H
  have c4b0 : (a0 == 5) = false := beq_eq_false_iff_ne.mpr c4
  have c4b1 : (a0 != 5) = true := bne_iff_ne.mpr c4
  by_cases c5 : a0 = 6
  ·rw [if_pos c5] at H
   have zgH : (a0 == 6) = true := beq_iff_eq.mpr c5
   have c5b1 : (a0 != 6) = false := bne_eq_false_iff_eq.mpr c5
   clear c5
   replace H := Option.bind_eq_some_iff.mp H
   obtain ⟨t152,A60,H⟩ := H
   replace H : (some t152) = some r := H
   have A6 := am A60
   clear A60
   obtain rfl := Option.some.inj H
   go_enter Tryd.func25,Tryd.ntmps25
   go_wp2_with (first | ((with_reducible refine gate_callee (f := 50) rfl ?_);refine goesL_ (some 16) rfl rfl Tryd.func50 (by kernel_rfl) rfl #[.bool (a1 == 0)] rfl (by (try simp only [List.map_toArray,List.map_cons,List.map_nil]);first | done | rfl | (simp only [List.length_drop,List.length_take];rfl)) ?_;(with_reducible refine (tree_truth.calls (a1 == 0) t152 _ A6.out).mono ?_);rintro e w' ⟨rfl,⟨nd,rfl⟩⟩;refine ⟨_,rfl,?_⟩))
   go_ret
   exact ⟨by first | rfl | (simp [errW_none,errW_some] <;> rfl) | (simp [*,errW_none,errW_some] <;> rfl),by repeat (first | (with_reducible first | exact HB.out | apply below_alloc | apply pw_below_drewN | apply below_drew1) | exact HB.out)⟩
  ·rw [if_neg c5] at H
   have zgH : (a0 == 6) = false := beq_eq_false_iff_ne.mpr c5
   have c5b1 : (a0 != 6) = true := bne_iff_ne.mpr c5
   by_cases c7 : a0 = 7
   ·rw [if_pos c7] at H
    have c7b0 : (a0 == 7) = true := beq_iff_eq.mpr c7
    have c7b1 : (a0 != 7) = false := bne_eq_false_iff_eq.mpr c7
    clear c7
    obtain rfl := Option.some.inj H
    go_enter Tryd.func25,Tryd.ntmps25
    go_wp2
    go_ret
    exact ⟨by first | rfl | (simp [errW_none,errW_some] <;> rfl) | (simp [*,errW_none,errW_some] <;> rfl),by repeat (first | (with_reducible first | exact HB.out | apply below_alloc | apply pw_below_drewN | apply below_drew1) | exact HB.out)⟩
   ·rw [if_neg c7] at H
    have c7b0 : (a0 == 7) = false := beq_eq_false_iff_ne.mpr c7
    have c7b1 : (a0 != 7) = true := bne_iff_ne.mpr c7
    have HC8 := am H
    clear H
    go_enter Tryd.func25,Tryd.ntmps25
    go_upto_if 22 with (fail)
    go_cut [22] (fun v22 wc => ∃ (kq : Nat) (x22_7 : Bool),v22 = .bool x22_7 ∧ Aside0 (tree_Apply.j0 kq a0 a1 a2 a0 x22_7 = some r) ∧ Aside0 (kq ≤ k) ∧ Aside0 (Below w.heap.size w wc))
    case first =>
     have H := HC8.out
     clear HC8
     by_cases c9 : a0 = 8
     ·rw [if_pos c9] at H
      have c9b0 : (a0 == 8) = true := beq_iff_eq.mpr c9
      have c9b1 : (a0 != 8) = false := bne_eq_false_iff_eq.mpr c9
      clear c9
      (first | rw [c9b0] | (simp only [i64_w,i32_w];rw [c9b0]) | skip)
      have H' := am H
      clear H
      go_wp2
      go_meet
      case rel => exact ⟨_,((a0 == 8)),(by first | rfl | (simp;done) | (simp [*];done)),H',⟨by first | omega | exact Nat.le_refl _⟩,⟨by repeat (first | (with_reducible first | exact HB.out | apply below_alloc | apply pw_below_drewN | apply below_drew1) | exact HB.out)⟩⟩
     ·rw [if_neg c9] at H
      have c9b0 : (a0 == 8) = false := beq_eq_false_iff_ne.mpr c9
      have c9b1 : (a0 != 8) = true := bne_iff_ne.mpr c9
      (first | rw [c9b0] | (simp only [i64_w,i32_w];rw [c9b0]) | skip)
      have H' := am H
      clear H
      go_wp2
      go_meet
      case rel => exact ⟨_,((a0 == 9)),(by first | rfl | (simp;done) | (simp [*];done)),H',⟨by first | omega | exact Nat.le_refl _⟩,⟨by repeat (first | (with_reducible first | exact HB.out | apply below_alloc | apply pw_below_drewN | apply below_drew1) | exact HB.out)⟩⟩
    case rest =>
     clear HC8
     try clear c2
     try clear p2
     try clear c4
     try clear c4b0
     try clear c4b1
     try clear c5
     try clear zgH
     try clear c5b1
     try clear p6
     try clear c7
     try clear c7b0
     try clear c7b1
     try clear c9
     try clear c9b0
     try clear c9b1
     obtain ⟨kq,x22_7,rfl,HA,HJ7,HB⟩ := hcut
     cases kq with
     | zero => exact absurd HA.out (by simp [tree_Apply.j0])
     | succ kj7 =>
      have H := HA.out
      clear HA
      simp only [tree_Apply.j0] at H
      by_cases c10 : x22_7 = true
      ·subst c10
       have H1 : (if a2 = 0 then (some 0) else (if a0 = 8 then (some (wrap64 (Int.tdiv a1 a2))) else (some (Int.tmod a1 a2)))) = some r := by rw [if_pos rfl] at H;exact H
       clear H
       have H := H1
       clear H1
       by_cases c11 : a2 = 0
       ·rw [if_pos c11] at H
        have zds : (a2 == 0) = true := beq_iff_eq.mpr c11
        have zgY : (a2 != 0) = false := bne_eq_false_iff_eq.mpr c11
        clear c11
        obtain rfl := Option.some.inj H
        go_wp2
        go_ret
        exact ⟨by first | rfl | (simp [errW_none,errW_some] <;> rfl) | (simp [*,errW_none,errW_some] <;> rfl),by repeat (first | (with_reducible first | exact HB.out | apply below_alloc | apply pw_below_drewN | apply below_drew1) | exact HB.out)⟩
       ·rw [if_neg c11] at H
        have zds : (a2 == 0) = false := beq_eq_false_iff_ne.mpr c11
        have zgY : (a2 != 0) = true := bne_iff_ne.mpr c11
        by_cases c12 : a0 = 8
        ·rw [if_pos c12] at H
         have zeZ : (a0 == 8) = true := beq_iff_eq.mpr c12
         have zgZ : (a0 != 8) = false := bne_eq_false_iff_eq.mpr c12
         clear c12
         obtain rfl := Option.some.inj H
         go_wp2
         go_ret
         exact ⟨by first | rfl | (simp [errW_none,errW_some] <;> rfl) | (simp [*,errW_none,errW_some] <;> rfl),by repeat (first | (with_reducible first | exact HB.out | apply below_alloc | apply pw_below_drewN | apply below_drew1) | exact HB.out)⟩
        ·rw [if_neg c12] at H
         have zeZ : (a0 == 8) = false := beq_eq_false_iff_ne.mpr c12
         have zgZ : (a0 != 8) = true := bne_iff_ne.mpr c12
         obtain rfl := Option.some.inj H
         go_wp2
         go_ret
         exact ⟨by first | rfl | (simp [errW_none,errW_some] <;> rfl) | (simp [*,errW_none,errW_some] <;> rfl),by repeat (first | (with_reducible first | exact HB.out | apply below_alloc | apply pw_below_drewN | apply below_drew1) | exact HB.out)⟩
      ·replace c10 := Bool.eq_false_iff.mpr c10
       subst c10
       have H1 : (if a0 = 10 then (some (wrap64 (a1 + a2))) else (if a0 = 11 then (some (wrap64 (a1 - a2))) else (if a0 = 12 then ((tree_truth.f (a1 == a2)).bind fun t153 => (some t153)) else (if a0 = 13 then ((tree_truth.f (a1 != a2)).bind fun t154 => (some t154)) else (if a0 = 14 then ((tree_truth.f (decide (a1 < a2))).bind fun t155 => (some t155)) else (if a0 = 15 then ((tree_truth.f (decide (a1 ≤ a2))).bind fun t156 => (some t156)) else (if a0 = 16 then ((tree_truth.f (decide (a1 > a2))).bind fun t157 => (some t157)) else (if a0 = 17 then ((tree_truth.f (decide (a1 ≥ a2))).bind fun t158 => (some t158)) else (if a0 = 18 then (if a1 = 0 then ((tree_truth.f false).bind fun t159 => (some t159)) else ((tree_truth.f (a2 != 0)).bind fun t160 => (some t160))) else (if a0 = 19 then (if a1 = 0 then ((tree_truth.f (a2 != 0)).bind fun t161 => (some t161)) else ((tree_truth.f true).bind fun t162 => (some t162))) else (if a0 = 20 then (some (mn a1 a2)) else (if a0 = 21 then (some (mx a1 a2)) else (some 0))))))))))))) = some r := by rw [if_neg (show ¬ (false = true) by decide)] at H;exact H
       clear H
       have H := H1
       clear H1
       by_cases c13 : a0 = 10
       ·rw [if_pos c13] at H
        have ze0 : (a0 == 10) = true := beq_iff_eq.mpr c13
        have c13b1 : (a0 != 10) = false := bne_eq_false_iff_eq.mpr c13
        clear c13
        obtain rfl := Option.some.inj H
        go_wp2
        go_ret
        exact ⟨by first | rfl | (simp [errW_none,errW_some] <;> rfl) | (simp [*,errW_none,errW_some] <;> rfl),by repeat (first | (with_reducible first | exact HB.out | apply below_alloc | apply pw_below_drewN | apply below_drew1) | exact HB.out)⟩
       ·rw [if_neg c13] at H
        have ze0 : (a0 == 10) = false := beq_eq_false_iff_ne.mpr c13
        have c13b1 : (a0 != 10) = true := bne_iff_ne.mpr c13
        by_cases c14 : a0 = 11
        ·rw [if_pos c14] at H
         have c14b0 : (a0 == 11) = true := beq_iff_eq.mpr c14
         have c14b1 : (a0 != 11) = false := bne_eq_false_iff_eq.mpr c14
         clear c14
         obtain rfl := Option.some.inj H
         go_wp2
         go_ret
         exact ⟨by first | rfl | (simp [errW_none,errW_some] <;> rfl) | (simp [*,errW_none,errW_some] <;> rfl),by repeat (first | (with_reducible first | exact HB.out | apply below_alloc | apply pw_below_drewN | apply below_drew1) | exact HB.out)⟩
        ·rw [if_neg c14] at H
         have c14b0 : (a0 == 11) = false := beq_eq_false_iff_ne.mpr c14
         have c14b1 : (a0 != 11) = true := bne_iff_ne.mpr c14
         by_cases c15 : a0 = 12
         ·rw [if_pos c15] at H
          have c15b0 : (a0 == 12) = true := beq_iff_eq.mpr c15
          have c15b1 : (a0 != 12) = false := bne_eq_false_iff_eq.mpr c15
          clear c15
          replace H := Option.bind_eq_some_iff.mp H
          obtain ⟨t153,A160,H⟩ := H
          replace H : (some t153) = some r := H
          have A16 := am A160
          clear A160
          obtain rfl := Option.some.inj H
          go_wp2_with (first | ((with_reducible refine gate_callee (f := 50) rfl ?_);refine goesL_ (some 52) rfl rfl Tryd.func50 (by kernel_rfl) rfl #[.bool (a1 == a2)] rfl (by (try simp only [List.map_toArray,List.map_cons,List.map_nil]);first | done | rfl | (simp only [List.length_drop,List.length_take];rfl)) ?_;(with_reducible refine (tree_truth.calls (a1 == a2) t153 _ A16.out).mono ?_);rintro e w' ⟨rfl,⟨nd,rfl⟩⟩;refine ⟨_,rfl,?_⟩))
          go_ret
          exact ⟨by first | rfl | (simp [errW_none,errW_some] <;> rfl) | (simp [*,errW_none,errW_some] <;> rfl),by repeat (first | (with_reducible first | exact HB.out | apply below_alloc | apply pw_below_drewN | apply below_drew1) | exact HB.out)⟩
         ·rw [if_neg c15] at H
          have c15b0 : (a0 == 12) = false := beq_eq_false_iff_ne.mpr c15
          have c15b1 : (a0 != 12) = true := bne_iff_ne.mpr c15
          by_cases c17 : a0 = 13
          ·rw [if_pos c17] at H
           have c17b0 : (a0 == 13) = true := beq_iff_eq.mpr c17
           have c17b1 : (a0 != 13) = false := bne_eq_false_iff_eq.mpr c17
           clear c17
           replace H := Option.bind_eq_some_iff.mp H
           obtain ⟨t154,A180,H⟩ := H
           replace H : (some t154) = some r := H
           have A18 := am A180
           clear A180
           obtain rfl := Option.some.inj H
           go_wp2_with (first | ((with_reducible refine gate_callee (f := 50) rfl ?_);refine goesL_ (some 58) rfl rfl Tryd.func50 (by kernel_rfl) rfl #[.bool (a1 != a2)] rfl (by (try simp only [List.map_toArray,List.map_cons,List.map_nil]);first | done | rfl | (simp only [List.length_drop,List.length_take];rfl)) ?_;(with_reducible refine (tree_truth.calls (a1 != a2) t154 _ A18.out).mono ?_);rintro e w' ⟨rfl,⟨nd,rfl⟩⟩;refine ⟨_,rfl,?_⟩))
           go_ret
           exact ⟨by first | rfl | (simp [errW_none,errW_some] <;> rfl) | (simp [*,errW_none,errW_some] <;> rfl),by repeat (first | (with_reducible first | exact HB.out | apply below_alloc | apply pw_below_drewN | apply below_drew1) | exact HB.out)⟩
          ·rw [if_neg c17] at H
           have c17b0 : (a0 == 13) = false := beq_eq_false_iff_ne.mpr c17
           have c17b1 : (a0 != 13) = true := bne_iff_ne.mpr c17
           by_cases c19 : a0 = 14
           ·rw [if_pos c19] at H
            have c19b0 : (a0 == 14) = true := beq_iff_eq.mpr c19
            have c19b1 : (a0 != 14) = false := bne_eq_false_iff_eq.mpr c19
            clear c19
            replace H := Option.bind_eq_some_iff.mp H
            obtain ⟨t155,A200,H⟩ := H
            replace H : (some t155) = some r := H
            have A20 := am A200
            clear A200
            obtain rfl := Option.some.inj H
            go_wp2_with (first | ((with_reducible refine gate_callee (f := 50) rfl ?_);refine goesL_ (some 64) rfl rfl Tryd.func50 (by kernel_rfl) rfl #[.bool (decide (a1 < a2))] rfl (by (try simp only [List.map_toArray,List.map_cons,List.map_nil]);first | done | rfl | (simp only [List.length_drop,List.length_take];rfl)) ?_;(with_reducible refine (tree_truth.calls (decide (a1 < a2)) t155 _ A20.out).mono ?_);rintro e w' ⟨rfl,⟨nd,rfl⟩⟩;refine ⟨_,rfl,?_⟩))
            go_ret
            exact ⟨by first | rfl | (simp [errW_none,errW_some] <;> rfl) | (simp [*,errW_none,errW_some] <;> rfl),by repeat (first | (with_reducible first | exact HB.out | apply below_alloc | apply pw_below_drewN | apply below_drew1) | exact HB.out)⟩
           ·rw [if_neg c19] at H
            have c19b0 : (a0 == 14) = false := beq_eq_false_iff_ne.mpr c19
            have c19b1 : (a0 != 14) = true := bne_iff_ne.mpr c19
            by_cases c21 : a0 = 15
            ·rw [if_pos c21] at H
             have c21b0 : (a0 == 15) = true := beq_iff_eq.mpr c21
             have c21b1 : (a0 != 15) = false := bne_eq_false_iff_eq.mpr c21
             clear c21
             replace H := Option.bind_eq_some_iff.mp H
             obtain ⟨t156,A220,H⟩ := H
             replace H : (some t156) = some r := H
             have A22 := am A220
             clear A220
             obtain rfl := Option.some.inj H
             go_wp2_with (first | ((with_reducible refine gate_callee (f := 50) rfl ?_);refine goesL_ (some 70) rfl rfl Tryd.func50 (by kernel_rfl) rfl #[.bool (decide (a1 ≤ a2))] rfl (by (try simp only [List.map_toArray,List.map_cons,List.map_nil]);first | done | rfl | (simp only [List.length_drop,List.length_take];rfl)) ?_;(with_reducible refine (tree_truth.calls (decide (a1 ≤ a2)) t156 _ A22.out).mono ?_);rintro e w' ⟨rfl,⟨nd,rfl⟩⟩;refine ⟨_,rfl,?_⟩))
             go_ret
             exact ⟨by first | rfl | (simp [errW_none,errW_some] <;> rfl) | (simp [*,errW_none,errW_some] <;> rfl),by repeat (first | (with_reducible first | exact HB.out | apply below_alloc | apply pw_below_drewN | apply below_drew1) | exact HB.out)⟩
            ·rw [if_neg c21] at H
             have c21b0 : (a0 == 15) = false := beq_eq_false_iff_ne.mpr c21
             have c21b1 : (a0 != 15) = true := bne_iff_ne.mpr c21
             by_cases c23 : a0 = 16
             ·rw [if_pos c23] at H
              have c23b0 : (a0 == 16) = true := beq_iff_eq.mpr c23
              have c23b1 : (a0 != 16) = false := bne_eq_false_iff_eq.mpr c23
              clear c23
              replace H := Option.bind_eq_some_iff.mp H
              obtain ⟨t157,A240,H⟩ := H
              replace H : (some t157) = some r := H
              have A24 := am A240
              clear A240
              obtain rfl := Option.some.inj H
              go_wp2_with (first | ((with_reducible refine gate_callee (f := 50) rfl ?_);refine goesL_ (some 76) rfl rfl Tryd.func50 (by kernel_rfl) rfl #[.bool (decide (a1 > a2))] rfl (by (try simp only [List.map_toArray,List.map_cons,List.map_nil]);first | done | rfl | (simp only [List.length_drop,List.length_take];rfl)) ?_;(with_reducible refine (tree_truth.calls (decide (a1 > a2)) t157 _ A24.out).mono ?_);rintro e w' ⟨rfl,⟨nd,rfl⟩⟩;refine ⟨_,rfl,?_⟩))
              go_ret
              exact ⟨by first | rfl | (simp [errW_none,errW_some] <;> rfl) | (simp [*,errW_none,errW_some] <;> rfl),by repeat (first | (with_reducible first | exact HB.out | apply below_alloc | apply pw_below_drewN | apply below_drew1) | exact HB.out)⟩
             ·rw [if_neg c23] at H
              have c23b0 : (a0 == 16) = false := beq_eq_false_iff_ne.mpr c23
              have c23b1 : (a0 != 16) = true := bne_iff_ne.mpr c23
              by_cases c25 : a0 = 17
              ·rw [if_pos c25] at H
               have c25b0 : (a0 == 17) = true := beq_iff_eq.mpr c25
               have c25b1 : (a0 != 17) = false := bne_eq_false_iff_eq.mpr c25
               clear c25
               replace H := Option.bind_eq_some_iff.mp H
               obtain ⟨t158,A260,H⟩ := H
               replace H : (some t158) = some r := H
               have A26 := am A260
               clear A260
               obtain rfl := Option.some.inj H
               go_wp2_with (first | ((with_reducible refine gate_callee (f := 50) rfl ?_);refine goesL_ (some 82) rfl rfl Tryd.func50 (by kernel_rfl) rfl #[.bool (decide (a1 ≥ a2))] rfl (by (try simp only [List.map_toArray,List.map_cons,List.map_nil]);first | done | rfl | (simp only [List.length_drop,List.length_take];rfl)) ?_;(with_reducible refine (tree_truth.calls (decide (a1 ≥ a2)) t158 _ A26.out).mono ?_);rintro e w' ⟨rfl,⟨nd,rfl⟩⟩;refine ⟨_,rfl,?_⟩))
               go_ret
               exact ⟨by first | rfl | (simp [errW_none,errW_some] <;> rfl) | (simp [*,errW_none,errW_some] <;> rfl),by repeat (first | (with_reducible first | exact HB.out | apply below_alloc | apply pw_below_drewN | apply below_drew1) | exact HB.out)⟩
              ·rw [if_neg c25] at H
               have c25b0 : (a0 == 17) = false := beq_eq_false_iff_ne.mpr c25
               have c25b1 : (a0 != 17) = true := bne_iff_ne.mpr c25
               by_cases c27 : a0 = 18
               ·rw [if_pos c27] at H
                have c27b0 : (a0 == 18) = true := beq_iff_eq.mpr c27
                have c27b1 : (a0 != 18) = false := bne_eq_false_iff_eq.mpr c27
                clear c27
                by_cases c28 : a1 = 0
                ·rw [if_pos c28] at H
                 have c28b0 : (a1 == 0) = true := beq_iff_eq.mpr c28
                 have c28b1 : (a1 != 0) = false := bne_eq_false_iff_eq.mpr c28
                 clear c28
                 replace H := Option.bind_eq_some_iff.mp H
                 obtain ⟨t159,A290,H⟩ := H
                 replace H : (some t159) = some r := H
                 have A29 := am A290
                 clear A290
                 obtain rfl := Option.some.inj H
                 go_wp2_with (first | ((with_reducible refine gate_callee (f := 50) rfl ?_);refine goesL_ (some 91) rfl rfl Tryd.func50 (by kernel_rfl) rfl #[.bool false] rfl (by (try simp only [List.map_toArray,List.map_cons,List.map_nil]);first | done | rfl | (simp only [List.length_drop,List.length_take];rfl)) ?_;(with_reducible refine (tree_truth.calls false t159 _ A29.out).mono ?_);rintro e w' ⟨rfl,⟨nd,rfl⟩⟩;refine ⟨_,rfl,?_⟩))
                 go_ret
                 exact ⟨by first | rfl | (simp [errW_none,errW_some] <;> rfl) | (simp [*,errW_none,errW_some] <;> rfl),by repeat (first | (with_reducible first | exact HB.out | apply below_alloc | apply pw_below_drewN | apply below_drew1) | exact HB.out)⟩
                ·rw [if_neg c28] at H
                 have c28b0 : (a1 == 0) = false := beq_eq_false_iff_ne.mpr c28
                 have c28b1 : (a1 != 0) = true := bne_iff_ne.mpr c28
                 replace H := Option.bind_eq_some_iff.mp H
                 obtain ⟨t160,A300,H⟩ := H
                 replace H : (some t160) = some r := H
                 have A30 := am A300
                 clear A300
                 obtain rfl := Option.some.inj H
                 go_wp2_with (first | ((with_reducible refine gate_callee (f := 50) rfl ?_);refine goesL_ (some 91) rfl rfl Tryd.func50 (by kernel_rfl) rfl #[.bool (a2 != 0)] rfl (by (try simp only [List.map_toArray,List.map_cons,List.map_nil]);first | done | rfl | (simp only [List.length_drop,List.length_take];rfl)) ?_;(with_reducible refine (tree_truth.calls (a2 != 0) t160 _ A30.out).mono ?_);rintro e w' ⟨rfl,⟨nd,rfl⟩⟩;refine ⟨_,rfl,?_⟩))
                 go_ret
                 exact ⟨by first | rfl | (simp [errW_none,errW_some] <;> rfl) | (simp [*,errW_none,errW_some] <;> rfl),by repeat (first | (with_reducible first | exact HB.out | apply below_alloc | apply pw_below_drewN | apply below_drew1) | exact HB.out)⟩
               ·rw [if_neg c27] at H
                have c27b0 : (a0 == 18) = false := beq_eq_false_iff_ne.mpr c27
                have c27b1 : (a0 != 18) = true := bne_iff_ne.mpr c27
                by_cases c31 : a0 = 19
                ·rw [if_pos c31] at H
                 have c31b0 : (a0 == 19) = true := beq_iff_eq.mpr c31
                 have c31b1 : (a0 != 19) = false := bne_eq_false_iff_eq.mpr c31
                 clear c31
                 by_cases c32 : a1 = 0
                 ·rw [if_pos c32] at H
                  have c32b0 : (a1 == 0) = true := beq_iff_eq.mpr c32
                  have c32b1 : (a1 != 0) = false := bne_eq_false_iff_eq.mpr c32
                  clear c32
                  replace H := Option.bind_eq_some_iff.mp H
                  obtain ⟨t161,A330,H⟩ := H
                  replace H : (some t161) = some r := H
                  have A33 := am A330
                  clear A330
                  obtain rfl := Option.some.inj H
                  go_wp2_with (first | ((with_reducible refine gate_callee (f := 50) rfl ?_);refine goesL_ (some 100) rfl rfl Tryd.func50 (by kernel_rfl) rfl #[.bool (a2 != 0)] rfl (by (try simp only [List.map_toArray,List.map_cons,List.map_nil]);first | done | rfl | (simp only [List.length_drop,List.length_take];rfl)) ?_;(with_reducible refine (tree_truth.calls (a2 != 0) t161 _ A33.out).mono ?_);rintro e w' ⟨rfl,⟨nd,rfl⟩⟩;refine ⟨_,rfl,?_⟩))
                  go_ret
                  exact ⟨by first | rfl | (simp [errW_none,errW_some] <;> rfl) | (simp [*,errW_none,errW_some] <;> rfl),by repeat (first | (with_reducible first | exact HB.out | apply below_alloc | apply pw_below_drewN | apply below_drew1) | exact HB.out)⟩
                 ·rw [if_neg c32] at H
                  have c32b0 : (a1 == 0) = false := beq_eq_false_iff_ne.mpr c32
                  have c32b1 : (a1 != 0) = true := bne_iff_ne.mpr c32
                  replace H := Option.bind_eq_some_iff.mp H
                  obtain ⟨t162,A340,H⟩ := H
                  replace H : (some t162) = some r := H
                  have A34 := am A340
                  clear A340
                  obtain rfl := Option.some.inj H
                  go_wp2_with (first | ((with_reducible refine gate_callee (f := 50) rfl ?_);refine goesL_ (some 100) rfl rfl Tryd.func50 (by kernel_rfl) rfl #[.bool true] rfl (by (try simp only [List.map_toArray,List.map_cons,List.map_nil]);first | done | rfl | (simp only [List.length_drop,List.length_take];rfl)) ?_;(with_reducible refine (tree_truth.calls true t162 _ A34.out).mono ?_);rintro e w' ⟨rfl,⟨nd,rfl⟩⟩;refine ⟨_,rfl,?_⟩))
                  go_ret
                  exact ⟨by first | rfl | (simp [errW_none,errW_some] <;> rfl) | (simp [*,errW_none,errW_some] <;> rfl),by repeat (first | (with_reducible first | exact HB.out | apply below_alloc | apply pw_below_drewN | apply below_drew1) | exact HB.out)⟩
                ·rw [if_neg c31] at H
                 have c31b0 : (a0 == 19) = false := beq_eq_false_iff_ne.mpr c31
                 have c31b1 : (a0 != 19) = true := bne_iff_ne.mpr c31
                 by_cases c35 : a0 = 20
                 ·rw [if_pos c35] at H
                  have c35b0 : (a0 == 20) = true := beq_iff_eq.mpr c35
                  have c35b1 : (a0 != 20) = false := bne_eq_false_iff_eq.mpr c35
                  clear c35
                  obtain ⟨ji36,hji36⟩ : ∃ j_ : Int,(mn a1 a2) = j_ := ⟨_,rfl⟩
                  replace H : (some ji36) = some r := by first | (rw [hji36] at H;exact H) | (simp only [hji36] at H ⊢;exact H)
                  have hji36_ : (if a2 < a1 then a2 else a1) = ji36 := hji36
                  obtain rfl := Option.some.inj H
                  go_wp2
                  go_ret
                  exact ⟨by first | rfl | (simp [errW_none,errW_some] <;> rfl) | (simp only [← hji36];first | rfl | (simp [errW_none,errW_some] <;> rfl)) | (simp [*,errW_none,errW_some] <;> rfl),by repeat (first | (with_reducible first | exact HB.out | apply below_alloc | apply pw_below_drewN | apply below_drew1) | exact HB.out)⟩
                 ·rw [if_neg c35] at H
                  have c35b0 : (a0 == 20) = false := beq_eq_false_iff_ne.mpr c35
                  have c35b1 : (a0 != 20) = true := bne_iff_ne.mpr c35
                  by_cases c37 : a0 = 21
                  ·rw [if_pos c37] at H
                   have c37b0 : (a0 == 21) = true := beq_iff_eq.mpr c37
                   have c37b1 : (a0 != 21) = false := bne_eq_false_iff_eq.mpr c37
                   clear c37
                   obtain ⟨ji38,hji38⟩ : ∃ j_ : Int,(mx a1 a2) = j_ := ⟨_,rfl⟩
                   replace H : (some ji38) = some r := by first | (rw [hji38] at H;exact H) | (simp only [hji38] at H ⊢;exact H)
                   have hji38_ : (if a1 < a2 then a2 else a1) = ji38 := hji38
                   obtain rfl := Option.some.inj H
                   go_wp2
                   go_ret
                   exact ⟨by first | rfl | (simp [errW_none,errW_some] <;> rfl) | (simp only [← hji38];first | rfl | (simp [errW_none,errW_some] <;> rfl)) | (simp [*,errW_none,errW_some] <;> rfl),by repeat (first | (with_reducible first | exact HB.out | apply below_alloc | apply pw_below_drewN | apply below_drew1) | exact HB.out)⟩
                  ·rw [if_neg c37] at H
                   have c37b0 : (a0 == 21) = false := beq_eq_false_iff_ne.mpr c37
                   have c37b1 : (a0 != 21) = true := bne_iff_ne.mpr c37
                   obtain rfl := Option.some.inj H
                   go_wp2
                   go_ret
                   exact ⟨by first | rfl | (simp [errW_none,errW_some] <;> rfl) | (simp [*,errW_none,errW_some] <;> rfl),by repeat (first | (with_reducible first | exact HB.out | apply below_alloc | apply pw_below_drewN | apply below_drew1) | exact HB.out)⟩
end Go.Proofs.YtgnmdhnlcibbiaaDoor.P
end
section
namespace Go.Proofs.YtgnmdhnlcibbiaaDoor.P
open Go.RowKit Go.Proofs.PrintWords Go.Proofs.PrintLast Go.Proofs.PrintMore
attribute [local go_sem] max2_int min2_int max_two min_two max_three min_three max_four min_four   -- for this text's walks alone
set_option linter.unusedVariables false
set_option linter.unusedSimpArgs false
theorem cells3v {w : World} {b : Nat} {x0 x1 x2 : Value} {t : TypeId} (h : w.heap[b]? = some (.cells #[x0,x1,x2] t (0,0))) : w.cell? ⟨b,0,none⟩ = some x0 ∧ w.frozen? ⟨b,0,none⟩ = false ∧ w.cell? ⟨b,1,none⟩ = some x1 ∧ w.frozen? ⟨b,1,none⟩ = false ∧ w.cell? ⟨b,2,none⟩ = some x2 ∧ w.frozen? ⟨b,2,none⟩ = false := ⟨(blk_cell h 0).trans rfl,blk_frozen h 0,(blk_cell h 1).trans rfl,blk_frozen h 1,(blk_cell h 2).trans rfl,blk_frozen h 2⟩
def tree_value.f : Nat → Int → Int → List (S25) → Int → Int → Int → Option (Int)
 | 0,_,_,_,_,_,_ => none
 | k + 1,zay,zaK,zam,a1,a2,a3 => if zay = 1 then (some zaK) else (if zay = 2 then (some a1) else (if zay = 3 then (some a2) else (if zay = 4 then (some a3) else (if zay = 22 then (if 0 < (zam.length : Int) then ((tree_value.f k ((rd_T25 zam 0).f0) ((rd_T25 zam 0).f1) ((rd_T25 zam 0).f2) a1 a2 a3).bind fun t165 => (if t165 = 0 then (if 2 < (zam.length : Int) then ((tree_value.f k ((rd_T25 zam 2).f0) ((rd_T25 zam 2).f1) ((rd_T25 zam 2).f2) a1 a2 a3).bind fun t167 => (some t167)) else (none)) else (if 1 < (zam.length : Int) then ((tree_value.f k ((rd_T25 zam 1).f0) ((rd_T25 zam 1).f1) ((rd_T25 zam 1).f2) a1 a2 a3).bind fun t169 => (some t169)) else (none)))) else (none)) else (if 0 < (zam.length : Int) then ((tree_value.f k ((rd_T25 zam 0).f0) ((rd_T25 zam 0).f1) ((rd_T25 zam 0).f2) a1 a2 a3).bind fun t171 => (if (zam.length : Int) > 1 then (if 1 < (zam.length : Int) then ((tree_value.f k ((rd_T25 zam 1).f0) ((rd_T25 zam 1).f1) ((rd_T25 zam 1).f2) a1 a2 a3).bind fun t173 => ((tree_Apply.f k zay t171 t173).bind fun t174 => (some t174))) else (none)) else ((tree_Apply.f k zay t171 0).bind fun t175 => (some t175)))) else (none))))))
theorem value_if0 (k : Nat) (ih : ∀ (zay : Int) (zaK : Int) (zbc : Option Addr) (za1 : Nat) (zam : List (S25)) (a1 : Int) (a2 : Int) (a3 : Int) (r : Int) (w : World) (zbM : Kd.C k25 w zbc zam.length zam) (zca : zam.length ≤ za1) (h : tree_value.f k zay zaK zam a1 a2 a3 = some r),Calls Tryd.prog 52 #[.agg #[.int .i64 zay,.int .i64 zaK,.slice zbc zam.length za1],.int .i64 a1,.int .i64 a2,.int .i64 a3] w fun e w' => e = .returned (.int .i64 r) ∧ Below w.heap.size w w') (zaK : Int) (zbc : Option Addr) (za1 : Nat) (zam : List (S25)) (a1 : Int) (a2 : Int) (a3 : Int) (r : Int) (w : World) (zbM : Kd.C k25 w zbc zam.length zam) (zca : zam.length ≤ za1) (hl0 : 0 < (zam.length : Int)) (hl2 : 2 < (zam.length : Int)) (hk0 : tree_value.f k (rd_T25 zam 0).f0 (rd_T25 zam 0).f1 (rd_T25 zam 0).f2 a1 a2 a3 = some 0) (hk2 : tree_value.f k (rd_T25 zam 2).f0 (rd_T25 zam 2).f1 (rd_T25 zam 2).f2 a1 a2 a3 = some r) : Calls Tryd.prog 52 #[.agg #[.int .i64 22,.int .i64 zaK,.slice zbc zam.length za1],.int .i64 a1,.int .i64 a2,.int .i64 a3] w fun e w' => e = .returned (.int .i64 r) ∧ Below w.heap.size w w' := by
 have HR := am zbM
 have HB := am (Below.refl w.heap.size w)
 obtain ⟨ad,A0,c0,e0,zdY,zdZ,zd0,l0,g0⟩ := at_T25 zbM 0 (by omega) hl0
 cases e0
 (try rw [show ((0 : Int)).toNat = 0 from rfl] at zdY);(try rw [show 0 * 3 = 0 from rfl] at zdY);(try rw [Addr.add_zero'] at zdY)
 have zck := am zdY
 (try rw [show ((0 : Int)).toNat = 0 from rfl] at zdZ);(try rw [show 0 * 3 = 0 from rfl] at zdZ);(try rw [Addr.add_zero'] at zdZ)
 have zcl := am zdZ
 (try rw [show ((0 : Int)).toNat = 0 from rfl] at zd0);(try rw [show 0 * 3 = 0 from rfl] at zd0);(try rw [Addr.add_zero'] at zd0)
 have zcm := am zd0
 have hl0' : (0 < zam.length) = True := eq_true (by omega)
 have g0 := am g0
 have a0_ := am hk0
 clear hk0 zdY zdZ zd0
 obtain ⟨ad2,A2,c2,e2,p2_0,p2_1,p2_2,l2,g2⟩ := at_T25 zbM 2 (by omega) hl2
 obtain rfl : ad = ad2 := by injection e2
 (try simp only [show (2 : Int).toNat = 2 from rfl,Nat.reduceMul,Nat.reduceEqDiff,Go.Addr.add,↓reduceIte] at p2_0)
 have q2_0 := am p2_0
 (try simp only [show (2 : Int).toNat = 2 from rfl,Nat.reduceMul,Nat.reduceEqDiff,Go.Addr.add,↓reduceIte] at p2_1)
 have q2_1 := am p2_1
 (try simp only [show (2 : Int).toNat = 2 from rfl,Nat.reduceMul,Nat.reduceEqDiff,Go.Addr.add,↓reduceIte] at p2_2)
 have q2_2 := am p2_2
 have hl2' : (2 < zam.length) = True := eq_true (by omega)
 have g2 := am g2
 have a2_ := am hk2
 clear hk2 p2_0 p2_1 p2_2
 clear zbM
 go_enter Tryd.func52,Tryd.ntmps52
 go_wp2_with (first | ((with_reducible refine gate_dst (N := 4) rfl ?_);refine box_event ?hg (N := 4) ?hd (cs := #[.int .i64 22,.int .i64 zaK,.slice (some ad) zam.length za1]) (t := 25) ?hr ?_;(case hd => rfl);(case hg => rfl);(case hr => (go_simp;try rfl));intro g hg w1 zan hb;replace HB := am hb;have HN := am zan;clear zan hg hb;obtain ⟨n0,m0,n1,m1,n2,m2⟩ := cells3v HN.out;have zeH := pcb HB.out zck.out;have zeI := pcb HB.out zcl.out;have zeJ := pcb HB.out zcm.out;have e2_0 := pcb HB.out q2_0.out;have e2_1 := pcb HB.out q2_1.out;have e2_2 := pcb HB.out q2_2.out) | ((with_reducible refine (ih _ _ _ _ _ _ _ _ _ _ (Kd.C_below g0.out HB.out) l0 a0_.out).mono ?_);rintro e w2 ⟨rfl,hb⟩;clear n0 m0 n1 m1 n2 m2 zeH zeI zeJ e2_0 e2_1 e2_2;replace HB := am (below_step HB.out hb);replace HN := am (blk_below HN.out hb);clear hb;obtain ⟨n0,m0,n1,m1,n2,m2⟩ := cells3v HN.out;have zeH := pcb HB.out zck.out;have zeI := pcb HB.out zcl.out;have zeJ := pcb HB.out zcm.out;have e2_0 := pcb HB.out q2_0.out;have e2_1 := pcb HB.out q2_1.out;have e2_2 := pcb HB.out q2_2.out) | ((with_reducible refine (ih _ _ _ _ _ _ _ _ _ _ (Kd.C_below g2.out HB.out) l2 a2_.out).mono ?_);rintro e w3 ⟨rfl,hb⟩;clear n0 m0 n1 m1 n2 m2 zeH zeI zeJ e2_0 e2_1 e2_2;replace HB := am (below_step HB.out hb);replace HN := am (blk_below HN.out hb);clear hb;obtain ⟨n0,m0,n1,m1,n2,m2⟩ := cells3v HN.out;have zeH := pcb HB.out zck.out;have zeI := pcb HB.out zcl.out;have zeJ := pcb HB.out zcm.out;have e2_0 := pcb HB.out q2_0.out;have e2_1 := pcb HB.out q2_1.out;have e2_2 := pcb HB.out q2_2.out))
 go_ret
 exact ⟨rfl,HB.out⟩
theorem value_if1 (k : Nat) (ih : ∀ (zay : Int) (zaK : Int) (zbc : Option Addr) (za1 : Nat) (zam : List (S25)) (a1 : Int) (a2 : Int) (a3 : Int) (r : Int) (w : World) (zbM : Kd.C k25 w zbc zam.length zam) (zca : zam.length ≤ za1) (h : tree_value.f k zay zaK zam a1 a2 a3 = some r),Calls Tryd.prog 52 #[.agg #[.int .i64 zay,.int .i64 zaK,.slice zbc zam.length za1],.int .i64 a1,.int .i64 a2,.int .i64 a3] w fun e w' => e = .returned (.int .i64 r) ∧ Below w.heap.size w w') (zaK : Int) (zbc : Option Addr) (za1 : Nat) (zam : List (S25)) (a1 : Int) (a2 : Int) (a3 : Int) (r : Int) (w : World) (zbM : Kd.C k25 w zbc zam.length zam) (zca : zam.length ≤ za1) (v : Int) (hv : ¬ v = 0) (hl0 : 0 < (zam.length : Int)) (hl1 : 1 < (zam.length : Int)) (hk0 : tree_value.f k (rd_T25 zam 0).f0 (rd_T25 zam 0).f1 (rd_T25 zam 0).f2 a1 a2 a3 = some v) (hk1 : tree_value.f k (rd_T25 zam 1).f0 (rd_T25 zam 1).f1 (rd_T25 zam 1).f2 a1 a2 a3 = some r) : Calls Tryd.prog 52 #[.agg #[.int .i64 22,.int .i64 zaK,.slice zbc zam.length za1],.int .i64 a1,.int .i64 a2,.int .i64 a3] w fun e w' => e = .returned (.int .i64 r) ∧ Below w.heap.size w w' := by
 have hv0 : (v == 0) = false := beq_eq_false_iff_ne.mpr hv
 have hv1 : (v != 0) = true := bne_iff_ne.mpr hv
 have HR := am zbM
 have HB := am (Below.refl w.heap.size w)
 obtain ⟨ad,A0,c0,e0,zdY,zdZ,zd0,l0,g0⟩ := at_T25 zbM 0 (by omega) hl0
 cases e0
 (try rw [show ((0 : Int)).toNat = 0 from rfl] at zdY);(try rw [show 0 * 3 = 0 from rfl] at zdY);(try rw [Addr.add_zero'] at zdY)
 have zck := am zdY
 (try rw [show ((0 : Int)).toNat = 0 from rfl] at zdZ);(try rw [show 0 * 3 = 0 from rfl] at zdZ);(try rw [Addr.add_zero'] at zdZ)
 have zcl := am zdZ
 (try rw [show ((0 : Int)).toNat = 0 from rfl] at zd0);(try rw [show 0 * 3 = 0 from rfl] at zd0);(try rw [Addr.add_zero'] at zd0)
 have zcm := am zd0
 have hl0' : (0 < zam.length) = True := eq_true (by omega)
 have g0 := am g0
 have a0_ := am hk0
 clear hk0 zdY zdZ zd0
 obtain ⟨ad1,A1,c1,e1,p1_0,p1_1,p1_2,l1,g1⟩ := at_T25 zbM 1 (by omega) hl1
 obtain rfl : ad = ad1 := by injection e1
 (try simp only [show (1 : Int).toNat = 1 from rfl,Nat.reduceMul,Nat.reduceEqDiff,Go.Addr.add,↓reduceIte] at p1_0)
 have zd1 := am p1_0
 (try simp only [show (1 : Int).toNat = 1 from rfl,Nat.reduceMul,Nat.reduceEqDiff,Go.Addr.add,↓reduceIte] at p1_1)
 have zd2 := am p1_1
 (try simp only [show (1 : Int).toNat = 1 from rfl,Nat.reduceMul,Nat.reduceEqDiff,Go.Addr.add,↓reduceIte] at p1_2)
 have zd3 := am p1_2
 have hl1' : (1 < zam.length) = True := eq_true (by omega)
 have g1 := am g1
 have a1_ := am hk1
 clear hk1 p1_0 p1_1 p1_2
 clear zbM
 go_enter Tryd.func52,Tryd.ntmps52
 go_wp2_with (first | ((with_reducible refine gate_dst (N := 4) rfl ?_);refine box_event ?hg (N := 4) ?hd (cs := #[.int .i64 22,.int .i64 zaK,.slice (some ad) zam.length za1]) (t := 25) ?hr ?_;(case hd => rfl);(case hg => rfl);(case hr => (go_simp;try rfl));intro g hg w1 zan hb;replace HB := am hb;have HN := am zan;clear zan hg hb;obtain ⟨n0,m0,n1,m1,n2,m2⟩ := cells3v HN.out;have zeH := pcb HB.out zck.out;have zeI := pcb HB.out zcl.out;have zeJ := pcb HB.out zcm.out;have e1_0 := pcb HB.out zd1.out;have e1_1 := pcb HB.out zd2.out;have e1_2 := pcb HB.out zd3.out) | ((with_reducible refine (ih _ _ _ _ _ _ _ _ _ _ (Kd.C_below g0.out HB.out) l0 a0_.out).mono ?_);rintro e w2 ⟨rfl,hb⟩;clear n0 m0 n1 m1 n2 m2 zeH zeI zeJ e1_0 e1_1 e1_2;replace HB := am (below_step HB.out hb);replace HN := am (blk_below HN.out hb);clear hb;obtain ⟨n0,m0,n1,m1,n2,m2⟩ := cells3v HN.out;have zeH := pcb HB.out zck.out;have zeI := pcb HB.out zcl.out;have zeJ := pcb HB.out zcm.out;have e1_0 := pcb HB.out zd1.out;have e1_1 := pcb HB.out zd2.out;have e1_2 := pcb HB.out zd3.out) | ((with_reducible refine (ih _ _ _ _ _ _ _ _ _ _ (Kd.C_below g1.out HB.out) l1 a1_.out).mono ?_);rintro e w3 ⟨rfl,hb⟩;clear n0 m0 n1 m1 n2 m2 zeH zeI zeJ e1_0 e1_1 e1_2;replace HB := am (below_step HB.out hb);replace HN := am (blk_below HN.out hb);clear hb;obtain ⟨n0,m0,n1,m1,n2,m2⟩ := cells3v HN.out;have zeH := pcb HB.out zck.out;have zeI := pcb HB.out zcl.out;have zeJ := pcb HB.out zcm.out;have e1_0 := pcb HB.out zd1.out;have e1_1 := pcb HB.out zd2.out;have e1_2 := pcb HB.out zd3.out))
 go_ret
 exact ⟨rfl,HB.out⟩
theorem value_two (k : Nat) (ih : ∀ (zay : Int) (zaK : Int) (zbc : Option Addr) (za1 : Nat) (zam : List (S25)) (a1 : Int) (a2 : Int) (a3 : Int) (r : Int) (w : World) (zbM : Kd.C k25 w zbc zam.length zam) (zca : zam.length ≤ za1) (h : tree_value.f k zay zaK zam a1 a2 a3 = some r),Calls Tryd.prog 52 #[.agg #[.int .i64 zay,.int .i64 zaK,.slice zbc zam.length za1],.int .i64 a1,.int .i64 a2,.int .i64 a3] w fun e w' => e = .returned (.int .i64 r) ∧ Below w.heap.size w w') (zay : Int) (zaK : Int) (zbc : Option Addr) (za1 : Nat) (zam : List (S25)) (a1 : Int) (a2 : Int) (a3 : Int) (r : Int) (w : World) (zbM : Kd.C k25 w zbc zam.length zam) (zca : zam.length ≤ za1) (h1 : ¬ zay = 1) (h2 : ¬ zay = 2) (h3 : ¬ zay = 3) (h4 : ¬ zay = 4) (h5 : ¬ zay = 22) (u v : Int) (hl0 : 0 < (zam.length : Int)) (hl1 : 1 < (zam.length : Int)) (hk0 : tree_value.f k (rd_T25 zam 0).f0 (rd_T25 zam 0).f1 (rd_T25 zam 0).f2 a1 a2 a3 = some u) (hk1 : tree_value.f k (rd_T25 zam 1).f0 (rd_T25 zam 1).f1 (rd_T25 zam 1).f2 a1 a2 a3 = some v) (ha : tree_Apply.f k zay u v = some r) : Calls Tryd.prog 52 #[.agg #[.int .i64 zay,.int .i64 zaK,.slice zbc zam.length za1],.int .i64 a1,.int .i64 a2,.int .i64 a3] w fun e w' => e = .returned (.int .i64 r) ∧ Below w.heap.size w w' := by
 have i1 : (zay == 1) = false := beq_eq_false_iff_ne.mpr h1
 have i2 : (zay == 2) = false := beq_eq_false_iff_ne.mpr h2
 have i3 : (zay == 3) = false := beq_eq_false_iff_ne.mpr h3
 have i4 : (zay == 4) = false := beq_eq_false_iff_ne.mpr h4
 have i5 : (zay == 22) = false := beq_eq_false_iff_ne.mpr h5
 have HA := am ha
 have hg : ((zam.length : Int) > 1) = True := eq_true (by omega)
 clear ha
 have HR := am zbM
 have HB := am (Below.refl w.heap.size w)
 obtain ⟨ad,A0,c0,e0,zdY,zdZ,zd0,l0,g0⟩ := at_T25 zbM 0 (by omega) hl0
 cases e0
 (try rw [show ((0 : Int)).toNat = 0 from rfl] at zdY);(try rw [show 0 * 3 = 0 from rfl] at zdY);(try rw [Addr.add_zero'] at zdY)
 have zck := am zdY
 (try rw [show ((0 : Int)).toNat = 0 from rfl] at zdZ);(try rw [show 0 * 3 = 0 from rfl] at zdZ);(try rw [Addr.add_zero'] at zdZ)
 have zcl := am zdZ
 (try rw [show ((0 : Int)).toNat = 0 from rfl] at zd0);(try rw [show 0 * 3 = 0 from rfl] at zd0);(try rw [Addr.add_zero'] at zd0)
 have zcm := am zd0
 have hl0' : (0 < zam.length) = True := eq_true (by omega)
 have g0 := am g0
 have a0_ := am hk0
 clear hk0 zdY zdZ zd0
 obtain ⟨ad1,A1,c1,e1,p1_0,p1_1,p1_2,l1,g1⟩ := at_T25 zbM 1 (by omega) hl1
 obtain rfl : ad = ad1 := by injection e1
 (try simp only [show (1 : Int).toNat = 1 from rfl,Nat.reduceMul,Nat.reduceEqDiff,Go.Addr.add,↓reduceIte] at p1_0)
 have zd1 := am p1_0
 (try simp only [show (1 : Int).toNat = 1 from rfl,Nat.reduceMul,Nat.reduceEqDiff,Go.Addr.add,↓reduceIte] at p1_1)
 have zd2 := am p1_1
 (try simp only [show (1 : Int).toNat = 1 from rfl,Nat.reduceMul,Nat.reduceEqDiff,Go.Addr.add,↓reduceIte] at p1_2)
 have zd3 := am p1_2
 have hl1' : (1 < zam.length) = True := eq_true (by omega)
 have g1 := am g1
 have a1_ := am hk1
 clear hk1 p1_0 p1_1 p1_2
 clear zbM
 go_enter Tryd.func52,Tryd.ntmps52
 go_wp2_with (first | ((with_reducible refine gate_dst (N := 4) rfl ?_);refine box_event ?hg (N := 4) ?hd (cs := #[.int .i64 zay,.int .i64 zaK,.slice (some ad) zam.length za1]) (t := 25) ?hr ?_;(case hd => rfl);(case hg => rfl);(case hr => (go_simp;try rfl));intro g hg w1 zan hb;replace HB := am hb;have HN := am zan;clear zan hg hb;obtain ⟨n0,m0,n1,m1,n2,m2⟩ := cells3v HN.out;have zeH := pcb HB.out zck.out;have zeI := pcb HB.out zcl.out;have zeJ := pcb HB.out zcm.out;have e1_0 := pcb HB.out zd1.out;have e1_1 := pcb HB.out zd2.out;have e1_2 := pcb HB.out zd3.out) | ((with_reducible refine (ih _ _ _ _ _ _ _ _ _ _ (Kd.C_below g0.out HB.out) l0 a0_.out).mono ?_);rintro e w2 ⟨rfl,hb⟩;clear n0 m0 n1 m1 n2 m2 zeH zeI zeJ e1_0 e1_1 e1_2;replace HB := am (below_step HB.out hb);replace HN := am (blk_below HN.out hb);clear hb;obtain ⟨n0,m0,n1,m1,n2,m2⟩ := cells3v HN.out;have zeH := pcb HB.out zck.out;have zeI := pcb HB.out zcl.out;have zeJ := pcb HB.out zcm.out;have e1_0 := pcb HB.out zd1.out;have e1_1 := pcb HB.out zd2.out;have e1_2 := pcb HB.out zd3.out) | ((with_reducible refine (ih _ _ _ _ _ _ _ _ _ _ (Kd.C_below g1.out HB.out) l1 a1_.out).mono ?_);rintro e w3 ⟨rfl,hb⟩;clear n0 m0 n1 m1 n2 m2 zeH zeI zeJ e1_0 e1_1 e1_2;replace HB := am (below_step HB.out hb);replace HN := am (blk_below HN.out hb);clear hb;obtain ⟨n0,m0,n1,m1,n2,m2⟩ := cells3v HN.out;have zeH := pcb HB.out zck.out;have zeI := pcb HB.out zcl.out;have zeJ := pcb HB.out zcm.out;have e1_0 := pcb HB.out zd1.out;have e1_1 := pcb HB.out zd2.out;have e1_2 := pcb HB.out zd3.out) | ((with_reducible refine (tree_Apply.calls k _ _ _ r _ HA.out).mono ?_);rintro e w9 ⟨rfl,hb⟩;clear n0 m0 n1 m1 n2 m2 zeH zeI zeJ e1_0 e1_1 e1_2;replace HB := am (below_step HB.out hb);clear hb))
 go_ret
 exact ⟨rfl,HB.out⟩
theorem value_one (k : Nat) (ih : ∀ (zay : Int) (zaK : Int) (zbc : Option Addr) (za1 : Nat) (zam : List (S25)) (a1 : Int) (a2 : Int) (a3 : Int) (r : Int) (w : World) (zbM : Kd.C k25 w zbc zam.length zam) (zca : zam.length ≤ za1) (h : tree_value.f k zay zaK zam a1 a2 a3 = some r),Calls Tryd.prog 52 #[.agg #[.int .i64 zay,.int .i64 zaK,.slice zbc zam.length za1],.int .i64 a1,.int .i64 a2,.int .i64 a3] w fun e w' => e = .returned (.int .i64 r) ∧ Below w.heap.size w w') (zay : Int) (zaK : Int) (zbc : Option Addr) (za1 : Nat) (zam : List (S25)) (a1 : Int) (a2 : Int) (a3 : Int) (r : Int) (w : World) (zbM : Kd.C k25 w zbc zam.length zam) (zca : zam.length ≤ za1) (h1 : ¬ zay = 1) (h2 : ¬ zay = 2) (h3 : ¬ zay = 3) (h4 : ¬ zay = 4) (h5 : ¬ zay = 22) (u : Int) (hn : ¬ (zam.length : Int) > 1) (hl0 : 0 < (zam.length : Int)) (hk0 : tree_value.f k (rd_T25 zam 0).f0 (rd_T25 zam 0).f1 (rd_T25 zam 0).f2 a1 a2 a3 = some u) (ha : tree_Apply.f k zay u 0 = some r) : Calls Tryd.prog 52 #[.agg #[.int .i64 zay,.int .i64 zaK,.slice zbc zam.length za1],.int .i64 a1,.int .i64 a2,.int .i64 a3] w fun e w' => e = .returned (.int .i64 r) ∧ Below w.heap.size w w' := by
 have i1 : (zay == 1) = false := beq_eq_false_iff_ne.mpr h1
 have i2 : (zay == 2) = false := beq_eq_false_iff_ne.mpr h2
 have i3 : (zay == 3) = false := beq_eq_false_iff_ne.mpr h3
 have i4 : (zay == 4) = false := beq_eq_false_iff_ne.mpr h4
 have i5 : (zay == 22) = false := beq_eq_false_iff_ne.mpr h5
 have HA := am ha
 have hg : (1 < zam.length) = False := eq_false (by omega)
 clear ha
 have HR := am zbM
 have HB := am (Below.refl w.heap.size w)
 obtain ⟨ad,A0,c0,e0,zdY,zdZ,zd0,l0,g0⟩ := at_T25 zbM 0 (by omega) hl0
 cases e0
 (try rw [show ((0 : Int)).toNat = 0 from rfl] at zdY);(try rw [show 0 * 3 = 0 from rfl] at zdY);(try rw [Addr.add_zero'] at zdY)
 have zck := am zdY
 (try rw [show ((0 : Int)).toNat = 0 from rfl] at zdZ);(try rw [show 0 * 3 = 0 from rfl] at zdZ);(try rw [Addr.add_zero'] at zdZ)
 have zcl := am zdZ
 (try rw [show ((0 : Int)).toNat = 0 from rfl] at zd0);(try rw [show 0 * 3 = 0 from rfl] at zd0);(try rw [Addr.add_zero'] at zd0)
 have zcm := am zd0
 have hl0' : (0 < zam.length) = True := eq_true (by omega)
 have g0 := am g0
 have a0_ := am hk0
 clear hk0 zdY zdZ zd0
 clear zbM
 go_enter Tryd.func52,Tryd.ntmps52
 go_wp2_with (first | ((with_reducible refine gate_dst (N := 4) rfl ?_);refine box_event ?hg (N := 4) ?hd (cs := #[.int .i64 zay,.int .i64 zaK,.slice (some ad) zam.length za1]) (t := 25) ?hr ?_;(case hd => rfl);(case hg => rfl);(case hr => (go_simp;try rfl));intro g hg w1 zan hb;replace HB := am hb;have HN := am zan;clear zan hg hb;obtain ⟨n0,m0,n1,m1,n2,m2⟩ := cells3v HN.out;have zeH := pcb HB.out zck.out;have zeI := pcb HB.out zcl.out;have zeJ := pcb HB.out zcm.out) | ((with_reducible refine (ih _ _ _ _ _ _ _ _ _ _ (Kd.C_below g0.out HB.out) l0 a0_.out).mono ?_);rintro e w2 ⟨rfl,hb⟩;clear n0 m0 n1 m1 n2 m2 zeH zeI zeJ;replace HB := am (below_step HB.out hb);replace HN := am (blk_below HN.out hb);clear hb;obtain ⟨n0,m0,n1,m1,n2,m2⟩ := cells3v HN.out;have zeH := pcb HB.out zck.out;have zeI := pcb HB.out zcl.out;have zeJ := pcb HB.out zcm.out) | ((with_reducible refine (tree_Apply.calls k _ _ _ r _ HA.out).mono ?_);rintro e w9 ⟨rfl,hb⟩;clear n0 m0 n1 m1 n2 m2 zeH zeI zeJ;replace HB := am (below_step HB.out hb);clear hb))
 go_ret
 exact ⟨rfl,HB.out⟩
theorem tree_value.calls (k : Nat) : ∀ (zay : Int) (zaK : Int) (zbc : Option Addr) (za1 : Nat) (zam : List (S25)) (a1 : Int) (a2 : Int) (a3 : Int) (r : Int) (w : World) (zbM : Kd.C k25 w zbc zam.length zam) (zca : zam.length ≤ za1) (h : tree_value.f k zay zaK zam a1 a2 a3 = some r),
  Calls Tryd.prog 52 #[.agg #[.int .i64 zay,.int .i64 zaK,.slice zbc zam.length za1],.int .i64 a1,.int .i64 a2,.int .i64 a3] w fun e w' => e = .returned (.int .i64 r) ∧ Below w.heap.size w w' := by
 induction k with
 | zero => intro zay zaK zbc za1 zam a1 a2 a3 r w zbM zca h;exact absurd h (by simp [tree_value.f])
 | succ k ih =>
  intro zay zaK zbc za1 zam a1 a2 a3 r w zbM zca h
  unfold tree_value.f at h
  have base : zay = 1 ∧ zaK = r ∨ zay = 2 ∧ a1 = r ∨ zay = 3 ∧ a2 = r ∨ zay = 4 ∧ a3 = r ∨ ¬ zay = 1 ∧ ¬ zay = 2 ∧ ¬ zay = 3 ∧ ¬ zay = 4 := by
   by_cases h1 : zay = 1
   ·rw [if_pos h1] at h;exact .inl ⟨h1,Option.some.inj h⟩
   rw [if_neg h1] at h
   by_cases h2 : zay = 2
   ·rw [if_pos h2] at h;exact .inr (.inl ⟨h2,Option.some.inj h⟩)
   rw [if_neg h2] at h
   by_cases h3 : zay = 3
   ·rw [if_pos h3] at h;exact .inr (.inr (.inl ⟨h3,Option.some.inj h⟩))
   rw [if_neg h3] at h
   by_cases h4 : zay = 4
   ·rw [if_pos h4] at h;exact .inr (.inr (.inr (.inl ⟨h4,Option.some.inj h⟩)))
   exact .inr (.inr (.inr (.inr ⟨h1,h2,h3,h4⟩)))
  rcases base with ⟨rfl,rfl⟩ | ⟨rfl,rfl⟩ | ⟨rfl,rfl⟩ | ⟨rfl,rfl⟩ | ⟨h1,h2,h3,h4⟩
  iterate 4 · (go_enter Tryd.func52,Tryd.ntmps52;go_wp2;go_ret;exact ⟨rfl,below_alloc (Below.refl _ _) _⟩)
  rw [if_neg h1,if_neg h2,if_neg h3,if_neg h4] at h
  by_cases h5 : zay = 22
  ·subst h5
   rw [if_pos rfl] at h
   by_cases hl0 : 0 < (zam.length : Int)
   ·rw [if_pos hl0] at h
    obtain ⟨v,hv,h⟩ := Option.bind_eq_some_iff.mp h
    by_cases v0 : v = 0
    ·subst v0
     rw [if_pos rfl] at h
     by_cases hl2 : 2 < (zam.length : Int)
     ·rw [if_pos hl2] at h
      obtain ⟨u,hu,h⟩ := Option.bind_eq_some_iff.mp h
      obtain rfl := Option.some.inj h
      exact value_if0 k ih zaK zbc za1 zam a1 a2 a3 u w zbM zca hl0 hl2 hv hu
     ·rw [if_neg hl2] at h;cases h
    ·rw [if_neg v0] at h
     by_cases hl1 : 1 < (zam.length : Int)
     ·rw [if_pos hl1] at h
      obtain ⟨u,hu,h⟩ := Option.bind_eq_some_iff.mp h
      obtain rfl := Option.some.inj h
      exact value_if1 k ih zaK zbc za1 zam a1 a2 a3 u w zbM zca v v0 hl0 hl1 hv hu
     ·rw [if_neg hl1] at h;cases h
   ·rw [if_neg hl0] at h;cases h
  ·rw [if_neg h5] at h
   by_cases hl0 : 0 < (zam.length : Int)
   ·rw [if_pos hl0] at h
    obtain ⟨v,hv,h⟩ := Option.bind_eq_some_iff.mp h
    by_cases hg : (zam.length : Int) > 1
    ·rw [if_pos hg,if_pos hg] at h
     obtain ⟨u,hu,h⟩ := Option.bind_eq_some_iff.mp h
     obtain ⟨z,hz,h⟩ := Option.bind_eq_some_iff.mp h
     obtain rfl := Option.some.inj h
     exact value_two k ih zay zaK zbc za1 zam a1 a2 a3 z w zbM zca h1 h2 h3 h4 h5 v u hl0 hg hv hu hz
    ·rw [if_neg hg] at h
     obtain ⟨z,hz,h⟩ := Option.bind_eq_some_iff.mp h
     obtain rfl := Option.some.inj h
     exact value_one k ih zay zaK zbc za1 zam a1 a2 a3 z w zbM zca h1 h2 h3 h4 h5 v hg hl0 hv hz
   ·rw [if_neg hl0] at h;cases h
end Go.Proofs.YtgnmdhnlcibbiaaDoor.P
end
section
namespace Go.Proofs.YtgnmdhnlcibbiaaDoor.P
open Go.RowKit Go.Proofs.PrintWords Go.Proofs.PrintLast Go.Proofs.PrintMore
attribute [local go_sem] max2_int min2_int max_two min_two max_three min_three max_four min_four   -- for this text's walks alone
set_option linter.unusedVariables false
set_option linter.unusedSimpArgs false
def tree_constant.f (zay : Int) (zaK : Int) (zam : List (S25)) : Option (Bool) := if zay = 1 then (some true) else (if zay = 5 then (if 0 < (zam.length : Int) then (some (((rd_T25 zam 0).f0) == 1)) else (none)) else (some false))
theorem tree_constant.calls (zay : Int) (zaK : Int) (zbc : Option Addr) (za1 : Nat) (zam : List (S25)) (r : Bool) (w : World) (zbM : Kd.C k25 w zbc zam.length zam) (zca : zam.length ≤ za1) (h : tree_constant.f zay zaK zam = some r) :
  Calls Tryd.prog 78 #[.agg #[.int .i64 zay,.int .i64 zaK,.slice zbc zam.length za1]] w fun e w' => e = .returned (.bool r) ∧ Below w.heap.size w w' := by
 have zcz := Tryd.underlying25
 have zdA := am zbM
 have zeY := am zca
 clear zbM zca
 have HB := am (Below.refl w.heap.size w)
 have H : (if zay = 1 then (some true) else (if zay = 5 then (if 0 < (zam.length : Int) then (some (((rd_T25 zam 0).f0) == 1)) else (none)) else (some false))) = some r := h
 clear h
 by_cases c2 : zay = 1
 ·rw [if_pos c2] at H
  have zfb : (zay == 1) = true := beq_iff_eq.mpr c2
  have c2b1 : (zay != 1) = false := bne_eq_false_iff_eq.mpr c2
  clear c2
  obtain rfl := Option.some.inj H
  go_enter Tryd.func78,Tryd.ntmps78
  go_wp2_with (first | ((with_reducible refine gate_dst (N := 1) rfl ?_);refine box_event ?hg (N := 1) ?hd (cs := #[.int .i64 zay,.int .i64 zaK,.slice zbc zam.length za1]) (t := 25) ?hr ?_;(case hd => rfl);(case hg => rfl);(case hr => first | (go_simp;done) | (go_simp;rfl));intro gb176 hg w3 zan hb;have n0_ := am (below_step (by repeat (first | (with_reducible first | exact HB.out | apply below_alloc | apply pw_below_drewN | apply below_drew1) | exact HB.out)) hb);have n1_ := am (zan);have n2_ := am ((by rw [hg];exact (below_size (by repeat (first | (with_reducible first | exact HB.out | apply below_alloc | apply pw_below_drewN | apply below_drew1) | exact HB.out))) : w.heap.size ≤ gb176));have n3_ := am ((by rw [hg];exact (below_size (by repeat (first | (with_reducible first | exact HB.out | apply below_alloc | apply pw_below_drewN | apply below_drew1) | exact HB.out))) : w.heap.size ≤ gb176));clear HB;have HB := n0_;have zbi := n1_;have GW176 := n2_;have zcC := n3_;clear n0_ n1_ n2_ n3_;clear hb zan hg;have hcz4_0 : w3.cell? ⟨gb176,0,none⟩ = some (.int .i64 zay) := (blk_cell zbi.out 0).trans rfl;have hcz4_1 : w3.cell? ⟨gb176,1,none⟩ = some (.int .i64 zaK) := (blk_cell zbi.out 1).trans rfl;have hcz4_2 : w3.cell? ⟨gb176,2,none⟩ = some (.slice zbc zam.length za1) := (blk_cell zbi.out 2).trans rfl;have hfz4_0 := blk_frozen zbi.out 0;have hfz4_1 := blk_frozen zbi.out 1;have hfz4_2 := blk_frozen zbi.out 2))
  go_ret
  exact ⟨by first | rfl | (simp [errW_none,errW_some] <;> rfl) | (simp [*,errW_none,errW_some] <;> rfl),by repeat (first | (with_reducible first | exact HB.out | apply below_alloc | apply pw_below_drewN | apply below_drew1 | refine below_set ?_ zcC.out) | exact HB.out)⟩
 ·rw [if_neg c2] at H
  have zfb : (zay == 1) = false := beq_eq_false_iff_ne.mpr c2
  have c2b1 : (zay != 1) = true := bne_iff_ne.mpr c2
  by_cases c5 : zay = 5
  ·rw [if_pos c5] at H
   have zgH : (zay == 5) = true := beq_iff_eq.mpr c5
   have c5b1 : (zay != 5) = false := bne_eq_false_iff_eq.mpr c5
   clear c5
   by_cases c6 : 0 < (zam.length : Int)
   ·rw [if_pos c6] at H
    have c6b0 : decide (0 < (zam.length : Int)) = true := decide_eq_true c6
    have c6b1 : decide (0 < zam.length) = true := decide_eq_true (by omega)
    clear c6
    obtain rfl := Option.some.inj H
    go_enter Tryd.func78,Tryd.ntmps78
    go_wp2_with (first | ((with_reducible refine gate_dst (N := 1) rfl ?_);refine box_event ?hg (N := 1) ?hd (cs := #[.int .i64 zay,.int .i64 zaK,.slice zbc zam.length za1]) (t := 25) ?hr ?_;(case hd => rfl);(case hg => rfl);(case hr => first | (go_simp;done) | (go_simp;rfl));intro gb176 hg w7 zan hb;have n0_ := am (below_step (by repeat (first | (with_reducible first | exact HB.out | apply below_alloc | apply pw_below_drewN | apply below_drew1) | exact HB.out)) hb);have n1_ := am (zan);have n2_ := am ((by rw [hg];exact (below_size (by repeat (first | (with_reducible first | exact HB.out | apply below_alloc | apply pw_below_drewN | apply below_drew1) | exact HB.out))) : w.heap.size ≤ gb176));have n3_ := am ((by rw [hg];exact (below_size (by repeat (first | (with_reducible first | exact HB.out | apply below_alloc | apply pw_below_drewN | apply below_drew1) | exact HB.out))) : w.heap.size ≤ gb176));clear HB;have HB := n0_;have zbi := n1_;have GW176 := n2_;have zcC := n3_;clear n0_ n1_ n2_ n3_;clear hb zan hg;have zgI : w7.cell? ⟨gb176,0,none⟩ = some (.int .i64 zay) := (blk_cell zbi.out 0).trans rfl;have zgJ : w7.cell? ⟨gb176,1,none⟩ = some (.int .i64 zaK) := (blk_cell zbi.out 1).trans rfl;have zgK : w7.cell? ⟨gb176,2,none⟩ = some (.slice zbc zam.length za1) := (blk_cell zbi.out 2).trans rfl;have hfz8_0 := blk_frozen zbi.out 0;have zgL := blk_frozen zbi.out 1;have zgM := blk_frozen zbi.out 2;have p177 : 0 ≤ (0 : Int) := (by omega);have q177 : 0 < (zam.length : Int) := of_decide_eq_true (by first | (with_reducible assumption) | assumption);obtain ⟨ad177,A177_2,c177_2,e177,zdt,zdu,zdv,zhm,zhn⟩ := at_T25 zdA.out 0 p177 q177;cases e177;have qi177 : (0 < zam.length) = True := eq_true (by omega);(try rw [show ((0 : Int)).toNat = 0 from rfl] at zdt);(try rw [show 0 * 3 = 0 from rfl] at zdt);(try rw [Addr.add_zero'] at zdt);(try rw [show ((0 : Int)).toNat = 0 from rfl] at zdu);(try rw [show 0 * 3 = 0 from rfl] at zdu);(try rw [Addr.add_zero'] at zdu);(try rw [show ((0 : Int)).toNat = 0 from rfl] at zdv);(try rw [show 0 * 3 = 0 from rfl] at zdv);(try rw [Addr.add_zero'] at zdv);replace zdt := (HB.out.cell (World.block_lt_of_cell? w _ zdt)).trans zdt;replace zdu := (HB.out.cell (World.block_lt_of_cell? w _ zdu)).trans zdu;replace zdv := (HB.out.cell (World.block_lt_of_cell? w _ zdv)).trans zdv;have HR177_2 := am zhn;have HC177_2 := am zhm;clear zhn zhm;replace p177 := eq_true p177;replace q177 := eq_true q177))
    go_ret
    exact ⟨by first | rfl | (simp [errW_none,errW_some] <;> rfl) | (simp [*,errW_none,errW_some] <;> rfl),by repeat (first | (with_reducible first | exact HB.out | apply below_alloc | apply pw_below_drewN | apply below_drew1 | refine below_set ?_ zcC.out) | exact HB.out)⟩
   ·rw [if_neg c6] at H
    exact absurd H (by simp)
  ·rw [if_neg c5] at H
   have zgH : (zay == 5) = false := beq_eq_false_iff_ne.mpr c5
   have c5b1 : (zay != 5) = true := bne_iff_ne.mpr c5
   obtain rfl := Option.some.inj H
   go_enter Tryd.func78,Tryd.ntmps78
   go_wp2_with (first | ((with_reducible refine gate_dst (N := 1) rfl ?_);refine box_event ?hg (N := 1) ?hd (cs := #[.int .i64 zay,.int .i64 zaK,.slice zbc zam.length za1]) (t := 25) ?hr ?_;(case hd => rfl);(case hg => rfl);(case hr => first | (go_simp;done) | (go_simp;rfl));intro gb176 hg w9 zan hb;have n0_ := am (below_step (by repeat (first | (with_reducible first | exact HB.out | apply below_alloc | apply pw_below_drewN | apply below_drew1) | exact HB.out)) hb);have n1_ := am (zan);have n2_ := am ((by rw [hg];exact (below_size (by repeat (first | (with_reducible first | exact HB.out | apply below_alloc | apply pw_below_drewN | apply below_drew1) | exact HB.out))) : w.heap.size ≤ gb176));have n3_ := am ((by rw [hg];exact (below_size (by repeat (first | (with_reducible first | exact HB.out | apply below_alloc | apply pw_below_drewN | apply below_drew1) | exact HB.out))) : w.heap.size ≤ gb176));clear HB;have HB := n0_;have zbi := n1_;have GW176 := n2_;have zcC := n3_;clear n0_ n1_ n2_ n3_;clear hb zan hg;have zc0 : w9.cell? ⟨gb176,0,none⟩ = some (.int .i64 zay) := (blk_cell zbi.out 0).trans rfl;have zc1 : w9.cell? ⟨gb176,1,none⟩ = some (.int .i64 zaK) := (blk_cell zbi.out 1).trans rfl;have zc2 : w9.cell? ⟨gb176,2,none⟩ = some (.slice zbc zam.length za1) := (blk_cell zbi.out 2).trans rfl;have zdr := blk_frozen zbi.out 0;have zc3 := blk_frozen zbi.out 1;have zc4 := blk_frozen zbi.out 2))
   go_ret
   exact ⟨by first | rfl | (simp [errW_none,errW_some] <;> rfl) | (simp [*,errW_none,errW_some] <;> rfl),by repeat (first | (with_reducible first | exact HB.out | apply below_alloc | apply pw_below_drewN | apply below_drew1 | refine below_set ?_ zcC.out) | exact HB.out)⟩
def tree_literal.f (a0 : Int) : Option (Int × Int × (List (S25)) × Bool) := if a0 ≥ 0 then (some (1,a0,([] : List (S25)),true)) else (some (5,0,(([(⟨1,wrap64 (-a0),([] : List (S25))⟩ : S25)] : List (S25))),decide ((wrap64 (-a0)) > 0)))
theorem tree_literal.calls (a0 : Int) (r1 : Int) (r2 : Int) (r3 : List (S25)) (r4 : Bool) (w : World) (h : tree_literal.f a0 = some (r1,r2,r3,r4)) :
  Calls Tryd.prog 79 #[.int .i64 a0] w fun e w' => ∃ v2_ : Value,e = .returned (.tuple #[.agg #[.int .i64 r1,.int .i64 r2,v2_],.bool r4]) ∧ Kd.R k25 25 w' w.heap.size (fun _ => True) v2_ r3 ∧ Below w.heap.size w w' := by
 have zcz := Tryd.underlying25
 have HB := am (Below.refl w.heap.size w)
 have H : (if a0 ≥ 0 then (some (1,a0,([] : List (S25)),true)) else (some (5,0,(([(⟨1,wrap64 (-a0),([] : List (S25))⟩ : S25)] : List (S25))),decide ((wrap64 (-a0)) > 0)))) = some (r1,r2,r3,r4) := h
 clear h
 by_cases c2 : a0 ≥ 0
 ·rw [if_pos c2] at H
  have zfb : decide (0 ≤ a0) = true := decide_eq_true c2
  clear c2
  simp only [Option.some.injEq,Prod.mk.injEq] at H
  obtain ⟨rfl,rfl,rfl,rfl⟩ := H
  go_enter Tryd.func79,Tryd.ntmps79
  go_wp2_with (first | ((with_reducible refine gate_dst (N := 2) rfl ?_);refine box_event ?hg (N := 2) ?hd (cs := #[.int .i64 0,.int .i64 0,.slice none 0 0]) (t := 25) ?hr ?_;(case hd => rfl);(case hg => rfl);(case hr => first | (go_simp;done) | (go_simp;rfl));intro gb178 hg w3 zan hb;have n0_ := am (below_step (by repeat (first | (with_reducible first | exact HB.out | apply below_alloc | apply pw_below_drewN | apply below_drew1) | exact HB.out)) hb);have n1_ := am (zan);have n2_ := am ((by rw [hg];exact (below_size (by repeat (first | (with_reducible first | exact HB.out | apply below_alloc | apply pw_below_drewN | apply below_drew1) | exact HB.out))) : w.heap.size ≤ gb178));have n3_ := am ((by rw [hg];exact (below_size (by repeat (first | (with_reducible first | exact HB.out | apply below_alloc | apply pw_below_drewN | apply below_drew1) | exact HB.out))) : w.heap.size ≤ gb178));clear HB;have HB := n0_;have zcI := n1_;have GW178 := n2_;have zho := n3_;clear n0_ n1_ n2_ n3_;clear hb zan hg;have hcz4_0 : w3.cell? ⟨gb178,0,none⟩ = some (.int .i64 0) := (blk_cell zcI.out 0).trans rfl;have hcz4_1 : w3.cell? ⟨gb178,1,none⟩ = some (.int .i64 0) := (blk_cell zcI.out 1).trans rfl;have hcz4_2 : w3.cell? ⟨gb178,2,none⟩ = some (.slice none 0 0) := (blk_cell zcI.out 2).trans rfl;have hfz4_0 := blk_frozen zcI.out 0;have hfz4_1 := blk_frozen zcI.out 1;have hfz4_2 := blk_frozen zcI.out 2))
  refine bodyPost_ret (results_ct rfl _ _ gb178 25 #[.int .i64 1,.int .i64 a0,.slice none 0 0] (0,0) _ rfl (by (with_reducible repeat (first | refine blk_drewN ?_ _ | refine blk_drew ?_ | refine blk_alloc ?_ _));refine blk_put (cs := #[.int .i64 1,.int .i64 a0,.slice none 0 0]) ?_ 2 _ rfl;(with_reducible repeat (first | refine blk_drewN ?_ _ | refine blk_drew ?_ | refine blk_alloc ?_ _));refine blk_put (cs := #[.int .i64 1,.int .i64 0,.slice none 0 0]) ?_ 1 _ rfl;(with_reducible repeat (first | refine blk_drewN ?_ _ | refine blk_drew ?_ | refine blk_alloc ?_ _));refine blk_put (cs := #[.int .i64 0,.int .i64 0,.slice none 0 0]) ?_ 0 _ rfl;(with_reducible repeat (first | refine blk_drewN ?_ _ | refine blk_drew ?_ | refine blk_alloc ?_ _));exact zcI.out) Tryd.underlying25 rfl (by kernel_rfl)) rfl ?_
  exact ⟨_,by first | rfl | (simp [errW_none,errW_some] <;> rfl) | (simp [*,errW_none,errW_some] <;> rfl),by first | exact Kd.R_nil _ _ _ _ _ | exact Kd.N_nil _ _ _ _ _ | exact Kd.V_nil _ _ _ _ _ | exact Kd.Q_nil _ _ _ _ _ | exact Kd.S_nil _ _ _ _ _,by repeat (first | (with_reducible first | exact HB.out | apply below_alloc | apply pw_below_drewN | apply below_drew1 | refine below_set ?_ zho.out) | exact HB.out)⟩
 ·rw [if_neg c2] at H
  have zfb : decide (0 ≤ a0) = false := decide_eq_false c2
  clear c2
  obtain ⟨y179,zhp⟩ : ∃ y_ : List (S25),y_ = (([(⟨1,wrap64 (-a0),([] : List (S25))⟩ : S25)] : List (S25))) := ⟨_,rfl⟩
  replace H : (some (5,0,y179,decide ((wrap64 (-a0)) > 0))) = some (r1,r2,r3,r4) := by first | (rw [zhp];with_reducible exact H) | (have H2_ := (Option.bind_some _ _).symm.trans H;rw [zhp];with_reducible exact H2_) | (have H2_ := (Option.bind_some _ _).symm.trans H;with_reducible exact H2_) | with_reducible exact H | (rw [zhp];exact H) | exact H
  have Ny179 := am zhp
  clear zhp
  simp only [Option.some.injEq,Prod.mk.injEq] at H
  obtain ⟨rfl,rfl,rfl,rfl⟩ := H
  go_enter Tryd.func79,Tryd.ntmps79
  go_wp2_with (first | ((with_reducible refine gate_dst (N := 2) rfl ?_);refine box_event ?hg (N := 2) ?hd (cs := #[.int .i64 0,.int .i64 0,.slice none 0 0]) (t := 25) ?hr ?_;(case hd => rfl);(case hg => rfl);(case hr => first | (go_simp;done) | (go_simp;rfl));intro gb178 hg w5 zan hb;have n0_ := am (below_step (by repeat (first | (with_reducible first | exact HB.out | apply below_alloc | apply pw_below_drewN | apply below_drew1) | exact HB.out)) hb);have n1_ := am (zan);have n2_ := am ((by rw [hg];exact (below_size (by repeat (first | (with_reducible first | exact HB.out | apply below_alloc | apply pw_below_drewN | apply below_drew1) | exact HB.out))) : w.heap.size ≤ gb178));have n3_ := am ((by rw [hg];exact (below_size (by repeat (first | (with_reducible first | exact HB.out | apply below_alloc | apply pw_below_drewN | apply below_drew1) | exact HB.out))) : w.heap.size ≤ gb178));clear HB;have HB := n0_;have zcI := n1_;have GW178 := n2_;have zho := n3_;clear n0_ n1_ n2_ n3_;clear hb zan hg) | ((with_reducible refine gate_dst (N := 11) rfl ?_);refine Kd.R_lit k25 _ 25 ?hg (N := 11) ?hd (xs := ([(⟨1,wrap64 (-a0),([] : List (S25))⟩ : S25)] : List (S25))) (inner := [.int .i64 1,.int .i64 (wrap64 (-a0)),.slice none 0 0]) (ok := fun _ => True) (okp := fun _ => True) ?hr ?hp (fun _ hk => hk) trivial (Below.refl _ _) (Nat.le_refl _) (by simp) ?_;(case hd => rfl);(case hg => rfl);(case hr => first | (go_simp;done) | (go_simp;rfl));(case hp => exact (Reps.c3 (show Kd.M k25 _ _ _ (⟨1,wrap64 (-a0),([] : List (S25))⟩ : S25) [.int .i64 1,.int .i64 (wrap64 (-a0)),.slice none 0 0] from (k25_mkM _ _ _ (⟨1,wrap64 (-a0),([] : List (S25))⟩ : S25) (Kd.R_nil _ _ _ _ _))) (Reps.none _ _)));intro v180 w6 ho7 hb hg_ zfE;clear hg_ zfE;(first | rw [← Ny179.out] at ho7 | (simp only [Int.reduceToNat] at ho7;rw [← Ny179.out] at ho7));have n0_ := am (Kd.R_lower (Kd.R_newB ho7 (g := gb178) (o := .cells #[.int .i64 0,.int .i64 0,.slice none 0 0] 25 (0,0)) (by (with_reducible repeat (first | refine blk_drewN ?_ _ | refine blk_drew ?_ | refine blk_alloc ?_ _));exact zcI.out)) (below_size (by repeat (first | (with_reducible first | exact HB.out | apply below_alloc | apply pw_below_drewN | apply below_drew1 | refine below_set ?_ zho.out) | exact HB.out))));have n1_ := am (blk_below (g := gb178) (o := .cells #[.int .i64 0,.int .i64 0,.slice none 0 0] 25 (0,0)) (by (with_reducible repeat (first | refine blk_drewN ?_ _ | refine blk_drew ?_ | refine blk_alloc ?_ _));exact zcI.out) hb);have n2_ := am (below_step (by repeat (first | (with_reducible first | exact HB.out | apply below_alloc | apply pw_below_drewN | apply below_drew1 | refine below_set ?_ zho.out) | exact HB.out)) hb);clear zcI;clear HB;have HO181 := n0_;have zcI := n1_;have HB := n2_;clear n0_ n1_ n2_;clear hb ho7;obtain ⟨Ao8,co8,eo8⟩ := Kd.R_slice HO181.out;subst eo8;have zdF : w6.cell? ⟨gb178,0,none⟩ = some (.int .i64 0) := (blk_cell zcI.out 0).trans rfl;have zdG : w6.cell? ⟨gb178,1,none⟩ = some (.int .i64 0) := (blk_cell zcI.out 1).trans rfl;have zdH : w6.cell? ⟨gb178,2,none⟩ = some (.slice none 0 0) := (blk_cell zcI.out 2).trans rfl;have zgs := blk_frozen zcI.out 0;have zdI := blk_frozen zcI.out 1;have zdJ := blk_frozen zcI.out 2))
  refine bodyPost_ret (results_ct rfl _ _ gb178 25 #[.int .i64 5,.int .i64 0,.slice Ao8 y179.length co8] (0,0) _ rfl (by (with_reducible repeat (first | refine blk_drewN ?_ _ | refine blk_drew ?_ | refine blk_alloc ?_ _));refine blk_put (cs := #[.int .i64 5,.int .i64 0,.slice none 0 0]) ?_ 2 _ rfl;(with_reducible repeat (first | refine blk_drewN ?_ _ | refine blk_drew ?_ | refine blk_alloc ?_ _));refine blk_put (cs := #[.int .i64 5,.int .i64 0,.slice none 0 0]) ?_ 1 _ rfl;(with_reducible repeat (first | refine blk_drewN ?_ _ | refine blk_drew ?_ | refine blk_alloc ?_ _));refine blk_put (cs := #[.int .i64 0,.int .i64 0,.slice none 0 0]) ?_ 0 _ rfl;(with_reducible repeat (first | refine blk_drewN ?_ _ | refine blk_drew ?_ | refine blk_alloc ?_ _));exact zcI.out) Tryd.underlying25 rfl (by kernel_rfl)) rfl ?_
  exact ⟨_,by first | rfl | (simp [errW_none,errW_some] <;> rfl) | (simp [*,errW_none,errW_some] <;> rfl),by (with_reducible repeat (first | apply Kd.R_alloc | apply Kd.R_drewN | apply Kd.R_drew));exact Kd.R_mono (Kd.R_far (p := ⟨gb178,2,none⟩) (Kd.R_far (p := ⟨gb178,1,none⟩) (Kd.R_far (p := ⟨gb178,0,none⟩) (Kd.R_mono HO181.out (fun k_ hk => (⟨hk,hk.2⟩ : _ ∧ k_ ≠ gb178))) (fun _ hk => hk.2) (.int .i64 5)) (fun _ hk => hk.2) (.int .i64 0)) (fun _ hk => hk.2) (.slice Ao8 y179.length co8)) (fun _ hk => trivial),by repeat (first | (with_reducible first | exact HB.out | apply below_alloc | apply pw_below_drewN | apply below_drew1 | refine below_set ?_ zho.out) | exact HB.out)⟩
end Go.Proofs.YtgnmdhnlcibbiaaDoor.P
end
section
namespace Go.Proofs.YtgnmdhnlcibbiaaDoor.P
open Go.RowKit Go.Proofs.PrintWords Go.Proofs.PrintLast Go.Proofs.PrintMore
attribute [local go_sem] max2_int min2_int max_two min_two max_three min_three max_four min_four   -- for this text's walks alone
set_option linter.unusedVariables false
set_option linter.unusedSimpArgs false
def tree_Eval.f (k : Nat) (zay : Int) (zaK : Int) (zam : List (S25)) (a1 : Int) (a2 : Int) (a3 : Int) : Option (Int × Int) := (tree_Check.f k zay zaK zam).bind fun t183 => (if t183 = 0 then ((tree_value.f k zay zaK zam a1 a2 a3).bind fun t184 => (some (t184,0))) else (some (0,1)))
theorem tree_Eval.calls (k : Nat) (zay : Int) (zaK : Int) (zbc : Option Addr) (za1 : Nat) (zam : List (S25)) (a1 : Int) (a2 : Int) (a3 : Int) (r1 : Int) (r2 : Int) (w : World) (zbM : Kd.C k25 w zbc zam.length zam) (zca : zam.length ≤ za1) (h : tree_Eval.f k zay zaK zam a1 a2 a3 = some (r1,r2)) :
  Calls Tryd.prog 27 #[.agg #[.int .i64 zay,.int .i64 zaK,.slice zbc zam.length za1],.int .i64 a1,.int .i64 a2,.int .i64 a3] w fun e w' => e = .returned (.tuple #[.int .i64 r1,.int .i64 r2]) ∧ Below w.heap.size w w' := by
 have zcz := Tryd.underlying25
 have zdA := am zbM
 have zeY := am zca
 clear zbM zca
 have HB := am (Below.refl w.heap.size w)
 have H : ((tree_Check.f k zay zaK zam).bind fun t183 => (if t183 = 0 then ((tree_value.f k zay zaK zam a1 a2 a3).bind fun t184 => (some (t184,0))) else (some (0,1)))) = some (r1,r2) := h
 clear h
 replace H := Option.bind_eq_some_iff.mp H
 obtain ⟨t183,A50,H⟩ := H
 replace H : (if t183 = 0 then ((tree_value.f k zay zaK zam a1 a2 a3).bind fun t184 => (some (t184,0))) else (some (0,1))) = some (r1,r2) := H
 have A5 := am A50
 clear A50
 by_cases c6 : t183 = 0
 ·rw [if_pos c6] at H
  have c6b0 : (t183 == 0) = true := beq_iff_eq.mpr c6
  have c6b1 : (t183 != 0) = false := bne_eq_false_iff_eq.mpr c6
  clear c6
  replace H := Option.bind_eq_some_iff.mp H
  obtain ⟨t184,A70,H⟩ := H
  replace H : (some (t184,0)) = some (r1,r2) := H
  have A7 := am A70
  clear A70
  simp only [Option.some.injEq,Prod.mk.injEq] at H
  obtain ⟨rfl,rfl⟩ := H
  go_enter Tryd.func27,Tryd.ntmps27
  go_wp2_with (first | ((with_reducible refine gate_dst (N := 4) rfl ?_);refine box_event ?hg (N := 4) ?hd (cs := #[.int .i64 zay,.int .i64 zaK,.slice zbc zam.length za1]) (t := 25) ?hr ?_;(case hd => rfl);(case hg => rfl);(case hr => first | (go_simp;done) | (go_simp;rfl));intro gb182 hg w8 zan hb;have n0_ := am (below_step (by repeat (first | (with_reducible first | exact HB.out | apply below_alloc | apply pw_below_drewN | apply below_drew1) | exact HB.out)) hb);have n1_ := am (zan);have n2_ := am ((by rw [hg];exact (below_size (by repeat (first | (with_reducible first | exact HB.out | apply below_alloc | apply pw_below_drewN | apply below_drew1) | exact HB.out))) : w.heap.size ≤ gb182));have n3_ := am ((by rw [hg];exact (below_size (by repeat (first | (with_reducible first | exact HB.out | apply below_alloc | apply pw_below_drewN | apply below_drew1) | exact HB.out))) : w.heap.size ≤ gb182));clear HB;have HB := n0_;have zb7 := n1_;have GW182 := n2_;have zgu := n3_;clear n0_ n1_ n2_ n3_;clear hb zan hg;have zdF : w8.cell? ⟨gb182,0,none⟩ = some (.int .i64 zay) := (blk_cell zb7.out 0).trans rfl;have zdG : w8.cell? ⟨gb182,1,none⟩ = some (.int .i64 zaK) := (blk_cell zb7.out 1).trans rfl;have zdH : w8.cell? ⟨gb182,2,none⟩ = some (.slice zbc zam.length za1) := (blk_cell zb7.out 2).trans rfl;have zgs := blk_frozen zb7.out 0;have zdI := blk_frozen zb7.out 1;have zdJ := blk_frozen zb7.out 2) | ((with_reducible refine gate_callee (f := 21) rfl ?_);refine goesL_ (some 11) rfl rfl Tryd.func21 (by kernel_rfl) rfl #[.agg #[.int .i64 zay,.int .i64 zaK,.slice zbc zam.length za1]] rfl (by (try simp only [List.map_toArray,List.map_cons,List.map_nil]);first | done | rfl | (simp only [List.length_drop,List.length_take];rfl)) ?_;(with_reducible refine (tree_Check.calls k zay zaK _ _ zam t183 _ ?za8 ?zbh A5.out).mono ?_);(case za8 => repeat (first | exact (Kd.C_below zdA.out HB.out) | (with_reducible refine Kd.C_alloc ?_ _) | (with_reducible refine Kd.C_drewN ?_ _) | (with_reducible refine Kd.C_drew ?_)));(case zbh => exact zeY.out);rintro e w10 ⟨rfl,hb⟩;refine ⟨_,rfl,?_⟩;have n0_ := am (blk_below (g := gb182) (o := .cells #[.int .i64 zay,.int .i64 zaK,.slice zbc zam.length za1] 25 (0,0)) (by (with_reducible repeat (first | refine blk_drewN ?_ _ | refine blk_drew ?_ | refine blk_alloc ?_ _));exact zb7.out) hb);have n1_ := am (below_step (by repeat (first | (with_reducible first | exact HB.out | apply below_alloc | apply pw_below_drewN | apply below_drew1 | refine below_set ?_ zgu.out) | exact HB.out)) hb);clear zb7;clear HB;have zb7 := n0_;have HB := n1_;clear n0_ n1_;(try clear hb);(try clear hb2);(try clear hk);(try clear hi);have hcz11_0 : w10.cell? ⟨gb182,0,none⟩ = some (.int .i64 zay) := (blk_cell zb7.out 0).trans rfl;have hcz11_1 : w10.cell? ⟨gb182,1,none⟩ = some (.int .i64 zaK) := (blk_cell zb7.out 1).trans rfl;have hcz11_2 : w10.cell? ⟨gb182,2,none⟩ = some (.slice zbc zam.length za1) := (blk_cell zb7.out 2).trans rfl;have hfz11_0 := blk_frozen zb7.out 0;have hfz11_1 := blk_frozen zb7.out 1;have hfz11_2 := blk_frozen zb7.out 2) | ((with_reducible refine gate_callee (f := 52) rfl ?_);refine goesL_ (some 17) rfl rfl Tryd.func52 (by kernel_rfl) rfl #[.agg #[.int .i64 zay,.int .i64 zaK,.slice zbc zam.length za1],.int .i64 a1,.int .i64 a2,.int .i64 a3] rfl (by (try simp only [List.map_toArray,List.map_cons,List.map_nil]);first | done | rfl | (simp only [List.length_drop,List.length_take];rfl)) ?_;(with_reducible refine (tree_value.calls k zay zaK _ _ zam a1 a2 a3 t184 _ ?za8 ?zbh A7.out).mono ?_);(case za8 => repeat (first | exact (Kd.C_below zdA.out HB.out) | (with_reducible refine Kd.C_alloc ?_ _) | (with_reducible refine Kd.C_drewN ?_ _) | (with_reducible refine Kd.C_drew ?_)));(case zbh => exact zeY.out);rintro e w12 ⟨rfl,hb⟩;refine ⟨_,rfl,?_⟩;have n0_ := am (blk_below (g := gb182) (o := .cells #[.int .i64 zay,.int .i64 zaK,.slice zbc zam.length za1] 25 (0,0)) (by (with_reducible repeat (first | refine blk_drewN ?_ _ | refine blk_drew ?_ | refine blk_alloc ?_ _));exact zb7.out) hb);have n1_ := am (below_step (by repeat (first | (with_reducible first | exact HB.out | apply below_alloc | apply pw_below_drewN | apply below_drew1 | refine below_set ?_ zgu.out) | exact HB.out)) hb);clear zb7;clear HB;have zb7 := n0_;have HB := n1_;clear n0_ n1_;(try clear hb);(try clear hb2);(try clear hk);(try clear hi)))
  go_ret2
  exact ⟨by first | rfl | (simp [errW_none,errW_some] <;> rfl) | (simp [*,errW_none,errW_some] <;> rfl),by repeat (first | (with_reducible first | exact HB.out | apply below_alloc | apply pw_below_drewN | apply below_drew1 | refine below_set ?_ zgu.out) | exact HB.out)⟩
 ·rw [if_neg c6] at H
  have c6b0 : (t183 == 0) = false := beq_eq_false_iff_ne.mpr c6
  have c6b1 : (t183 != 0) = true := bne_iff_ne.mpr c6
  simp only [Option.some.injEq,Prod.mk.injEq] at H
  obtain ⟨rfl,rfl⟩ := H
  go_enter Tryd.func27,Tryd.ntmps27
  go_wp2_with (first | ((with_reducible refine gate_dst (N := 4) rfl ?_);refine box_event ?hg (N := 4) ?hd (cs := #[.int .i64 zay,.int .i64 zaK,.slice zbc zam.length za1]) (t := 25) ?hr ?_;(case hd => rfl);(case hg => rfl);(case hr => first | (go_simp;done) | (go_simp;rfl));intro gb182 hg w13 zan hb;have n0_ := am (below_step (by repeat (first | (with_reducible first | exact HB.out | apply below_alloc | apply pw_below_drewN | apply below_drew1) | exact HB.out)) hb);have n1_ := am (zan);have n2_ := am ((by rw [hg];exact (below_size (by repeat (first | (with_reducible first | exact HB.out | apply below_alloc | apply pw_below_drewN | apply below_drew1) | exact HB.out))) : w.heap.size ≤ gb182));have n3_ := am ((by rw [hg];exact (below_size (by repeat (first | (with_reducible first | exact HB.out | apply below_alloc | apply pw_below_drewN | apply below_drew1) | exact HB.out))) : w.heap.size ≤ gb182));clear HB;have HB := n0_;have zb7 := n1_;have GW182 := n2_;have zgu := n3_;clear n0_ n1_ n2_ n3_;clear hb zan hg;have hcz14_0 : w13.cell? ⟨gb182,0,none⟩ = some (.int .i64 zay) := (blk_cell zb7.out 0).trans rfl;have hcz14_1 : w13.cell? ⟨gb182,1,none⟩ = some (.int .i64 zaK) := (blk_cell zb7.out 1).trans rfl;have hcz14_2 : w13.cell? ⟨gb182,2,none⟩ = some (.slice zbc zam.length za1) := (blk_cell zb7.out 2).trans rfl;have hfz14_0 := blk_frozen zb7.out 0;have hfz14_1 := blk_frozen zb7.out 1;have hfz14_2 := blk_frozen zb7.out 2) | ((with_reducible refine gate_callee (f := 21) rfl ?_);refine goesL_ (some 11) rfl rfl Tryd.func21 (by kernel_rfl) rfl #[.agg #[.int .i64 zay,.int .i64 zaK,.slice zbc zam.length za1]] rfl (by (try simp only [List.map_toArray,List.map_cons,List.map_nil]);first | done | rfl | (simp only [List.length_drop,List.length_take];rfl)) ?_;(with_reducible refine (tree_Check.calls k zay zaK _ _ zam t183 _ ?za8 ?zbh A5.out).mono ?_);(case za8 => repeat (first | exact (Kd.C_below zdA.out HB.out) | (with_reducible refine Kd.C_alloc ?_ _) | (with_reducible refine Kd.C_drewN ?_ _) | (with_reducible refine Kd.C_drew ?_)));(case zbh => exact zeY.out);rintro e w15 ⟨rfl,hb⟩;refine ⟨_,rfl,?_⟩;have n0_ := am (blk_below (g := gb182) (o := .cells #[.int .i64 zay,.int .i64 zaK,.slice zbc zam.length za1] 25 (0,0)) (by (with_reducible repeat (first | refine blk_drewN ?_ _ | refine blk_drew ?_ | refine blk_alloc ?_ _));exact zb7.out) hb);have n1_ := am (below_step (by repeat (first | (with_reducible first | exact HB.out | apply below_alloc | apply pw_below_drewN | apply below_drew1 | refine below_set ?_ zgu.out) | exact HB.out)) hb);clear zb7;clear HB;have zb7 := n0_;have HB := n1_;clear n0_ n1_;(try clear hb);(try clear hb2);(try clear hk);(try clear hi)))
  go_ret2
  exact ⟨by first | rfl | (simp [errW_none,errW_some] <;> rfl) | (simp [*,errW_none,errW_some] <;> rfl),by repeat (first | (with_reducible first | exact HB.out | apply below_alloc | apply pw_below_drewN | apply below_drew1 | refine below_set ?_ zgu.out) | exact HB.out)⟩
end Go.Proofs.YtgnmdhnlcibbiaaDoor.P
end
section
namespace Go.Proofs.YtgnmdhnlcibbiaaDoor.P
open Go.RowKit Go.Proofs.PrintWords Go.Proofs.PrintLast Go.Proofs.PrintMore
attribute [local go_sem] max2_int min2_int max_two min_two max_three min_three max_four min_four   -- for this text's walks alone
set_option linter.unusedVariables false
set_option linter.unusedSimpArgs false
def lex_space.f (a0 : Int) : Option (Bool) := if a0 = 32 then (some true) else (if a0 = 9 then (some true) else (if a0 = 10 then (some true) else (some (a0 == 13))))
theorem lex_space.calls (a0 : Int) (r : Bool) (w : World) (h : lex_space.f a0 = some r) :
  Calls Tryd.prog 42 #[.int .u8 a0] w fun e w' => e = .returned (.bool r) ∧ Drawn0 w w' := by
 have H : (if a0 = 32 then (some true) else (if a0 = 9 then (some true) else (if a0 = 10 then (some true) else (some (a0 == 13))))) = some r := h
 clear h
 by_cases c2 : a0 = 32
 ·rw [if_pos c2] at H
  have zfb : (a0 == 32) = true := beq_iff_eq.mpr c2
  have c2b1 : (a0 != 32) = false := bne_eq_false_iff_eq.mpr c2
  clear c2
  obtain rfl := Option.some.inj H
  go_enter Tryd.func42,Tryd.ntmps42
  go_wp2
  go_ret
  exact ⟨by first | rfl | (simp;done) | (simp [*];done),by repeat (first | exact Drawn0.refl _ | apply Drawn0.step)⟩
 ·rw [if_neg c2] at H
  have zfb : (a0 == 32) = false := beq_eq_false_iff_ne.mpr c2
  have c2b1 : (a0 != 32) = true := bne_iff_ne.mpr c2
  by_cases c3 : a0 = 9
  ·rw [if_pos c3] at H
   have zes : (a0 == 9) = true := beq_iff_eq.mpr c3
   have zff : (a0 != 9) = false := bne_eq_false_iff_eq.mpr c3
   clear c3
   obtain rfl := Option.some.inj H
   go_enter Tryd.func42,Tryd.ntmps42
   go_wp2
   go_ret
   exact ⟨by first | rfl | (simp;done) | (simp [*];done),by repeat (first | exact Drawn0.refl _ | apply Drawn0.step)⟩
  ·rw [if_neg c3] at H
   have zes : (a0 == 9) = false := beq_eq_false_iff_ne.mpr c3
   have zff : (a0 != 9) = true := bne_iff_ne.mpr c3
   by_cases c4 : a0 = 10
   ·rw [if_pos c4] at H
    have c4b0 : (a0 == 10) = true := beq_iff_eq.mpr c4
    have c4b1 : (a0 != 10) = false := bne_eq_false_iff_eq.mpr c4
    clear c4
    obtain rfl := Option.some.inj H
    go_enter Tryd.func42,Tryd.ntmps42
    go_wp2
    go_ret
    exact ⟨by first | rfl | (simp;done) | (simp [*];done),by repeat (first | exact Drawn0.refl _ | apply Drawn0.step)⟩
   ·rw [if_neg c4] at H
    have c4b0 : (a0 == 10) = false := beq_eq_false_iff_ne.mpr c4
    have c4b1 : (a0 != 10) = true := bne_iff_ne.mpr c4
    obtain rfl := Option.some.inj H
    go_enter Tryd.func42,Tryd.ntmps42
    go_wp2
    go_ret
    exact ⟨by first | rfl | (simp;done) | (simp [*];done),by repeat (first | exact Drawn0.refl _ | apply Drawn0.step)⟩
def lex_digit.f (a0 : Int) : Option (Bool) := if a0 ≥ 48 then (some (decide (a0 ≤ 57))) else (some false)
theorem lex_digit.calls (a0 : Int) (r : Bool) (w : World) (h : lex_digit.f a0 = some r) :
  Calls Tryd.prog 45 #[.int .u8 a0] w fun e w' => e = .returned (.bool r) ∧ Drawn0 w w' := by
 have H : (if a0 ≥ 48 then (some (decide (a0 ≤ 57))) else (some false)) = some r := h
 clear h
 by_cases c2 : a0 ≥ 48
 ·rw [if_pos c2] at H
  have zfb : decide (48 ≤ a0) = true := decide_eq_true c2
  clear c2
  obtain rfl := Option.some.inj H
  go_enter Tryd.func45,Tryd.ntmps45
  go_wp2
  go_ret
  exact ⟨by first | rfl | (simp;done) | (simp [*];done),by repeat (first | exact Drawn0.refl _ | apply Drawn0.step)⟩
 ·rw [if_neg c2] at H
  have zfb : decide (48 ≤ a0) = false := decide_eq_false c2
  clear c2
  obtain rfl := Option.some.inj H
  go_enter Tryd.func45,Tryd.ntmps45
  go_wp2
  go_ret
  exact ⟨by first | rfl | (simp;done) | (simp [*];done),by repeat (first | exact Drawn0.refl _ | apply Drawn0.step)⟩
end Go.Proofs.YtgnmdhnlcibbiaaDoor.P
end
section
namespace Go.Proofs.YtgnmdhnlcibbiaaDoor.P
open Go.RowKit Go.Proofs.PrintWords Go.Proofs.PrintLast Go.Proofs.PrintMore
attribute [local go_sem] max2_int min2_int max_two min_two max_three min_three max_four min_four   -- for this text's walks alone
set_option linter.unusedVariables false
set_option linter.unusedSimpArgs false
def lex_letter.f (a0 : Int) : Option (Bool) := if a0 ≥ 97 then (if a0 ≤ 122 then (some true) else (some (a0 == 95))) else (some (a0 == 95))
theorem lex_letter.calls (a0 : Int) (r : Bool) (w : World) (h : lex_letter.f a0 = some r) :
  Calls Tryd.prog 47 #[.int .u8 a0] w fun e w' => e = .returned (.bool r) ∧ Drawn0 w w' := by
 have H : (if a0 ≥ 97 then (if a0 ≤ 122 then (some true) else (some (a0 == 95))) else (some (a0 == 95))) = some r := h
 clear h
 by_cases c2 : a0 ≥ 97
 ·rw [if_pos c2] at H
  have zfb : decide (97 ≤ a0) = true := decide_eq_true c2
  clear c2
  by_cases c3 : a0 ≤ 122
  ·rw [if_pos c3] at H
   have zes : decide (a0 ≤ 122) = true := decide_eq_true c3
   clear c3
   obtain rfl := Option.some.inj H
   go_enter Tryd.func47,Tryd.ntmps47
   go_wp2
   go_ret
   exact ⟨by first | rfl | (simp;done) | (simp [*];done),by repeat (first | exact Drawn0.refl _ | apply Drawn0.step)⟩
  ·rw [if_neg c3] at H
   have zes : decide (a0 ≤ 122) = false := decide_eq_false c3
   clear c3
   obtain rfl := Option.some.inj H
   go_enter Tryd.func47,Tryd.ntmps47
   go_wp2
   go_ret
   exact ⟨by first | rfl | (simp;done) | (simp [*];done),by repeat (first | exact Drawn0.refl _ | apply Drawn0.step)⟩
 ·rw [if_neg c2] at H
  have zfb : decide (97 ≤ a0) = false := decide_eq_false c2
  clear c2
  obtain rfl := Option.some.inj H
  go_enter Tryd.func47,Tryd.ntmps47
  go_wp2
  go_ret
  exact ⟨by first | rfl | (simp;done) | (simp [*];done),by repeat (first | exact Drawn0.refl _ | apply Drawn0.step)⟩
def stringslite_HasPrefix.f (a0 : ByteArray) (a1 : ByteArray) : Option (Bool) := if (a0.size : Int) ≥ (a1.size : Int) then (if 0 ≤ (a1.size : Int) then (if (a1.size : Int) ≤ (a0.size : Int) then (some ((a0.extract 0 ((a1.size : Int) : Int).toNat).toList == a1.toList)) else (none)) else (none)) else (some false)
theorem stringslite_HasPrefix.calls (a0 : ByteArray) (a1 : ByteArray) (r : Bool) (w : World) (h : stringslite_HasPrefix.f a0 a1 = some r) :
  Calls Tryd.prog 92 #[.string a0,.string a1] w fun e w' => e = .returned (.bool r) ∧ Drawn0 w w' := by
 have H : (if (a0.size : Int) ≥ (a1.size : Int) then (if 0 ≤ (a1.size : Int) then (if (a1.size : Int) ≤ (a0.size : Int) then (some ((a0.extract 0 ((a1.size : Int) : Int).toNat).toList == a1.toList)) else (none)) else (none)) else (some false)) = some r := h
 clear h
 by_cases c3 : (a0.size : Int) ≥ (a1.size : Int)
 ·rw [if_pos c3] at H
  have zes : decide ((a1.size : Int) ≤ (a0.size : Int)) = true := decide_eq_true c3
  have zff : decide (a1.size ≤ a0.size) = true := decide_eq_true (Int.ofNat_le.mp c3)
  clear c3
  by_cases c4 : 0 ≤ (a1.size : Int)
  ·rw [if_pos c4] at H
   have c4b0 := eq_true c4
   have c4b1 : decide (0 ≤ (a1.size : Int)) = true := decide_eq_true c4
   clear c4
   by_cases c5 : (a1.size : Int) ≤ (a0.size : Int)
   ·rw [if_pos c5] at H
    have zgH := eq_true c5
    have c5b1 : decide ((a1.size : Int) ≤ (a0.size : Int)) = true := decide_eq_true c5
    clear c5
    obtain rfl := Option.some.inj H
    go_enter Tryd.func92,Tryd.ntmps92
    go_wp2
    go_ret
    exact ⟨by first | rfl | (simp;done) | (simp [*];done),by repeat (first | exact Drawn0.refl _ | apply Drawn0.step)⟩
   ·rw [if_neg c5] at H
    exact absurd H (by simp)
  ·rw [if_neg c4] at H
   exact absurd H (by simp)
 ·rw [if_neg c3] at H
  have zes : decide ((a1.size : Int) ≤ (a0.size : Int)) = false := decide_eq_false c3
  have zff : decide (a1.size ≤ a0.size) = false := decide_eq_false (fun h => c3 (Int.ofNat_le.mpr h))
  clear c3
  obtain rfl := Option.some.inj H
  go_enter Tryd.func92,Tryd.ntmps92
  go_wp2
  go_ret
  exact ⟨by first | rfl | (simp;done) | (simp [*];done),by repeat (first | exact Drawn0.refl _ | apply Drawn0.step)⟩
def strings_HasPrefix.f (a0 : ByteArray) (a1 : ByteArray) : Option (Bool) := (stringslite_HasPrefix.f a0 a1).bind fun t185 => (some t185)
theorem strings_HasPrefix.calls (a0 : ByteArray) (a1 : ByteArray) (r : Bool) (w : World) (h : strings_HasPrefix.f a0 a1 = some r) :
  Calls Tryd.prog 77 #[.string a0,.string a1] w fun e w' => e = .returned (.bool r) ∧ Drawn0 w w' := by
 have H : ((stringslite_HasPrefix.f a0 a1).bind fun t185 => (some t185)) = some r := h
 clear h
 replace H := Option.bind_eq_some_iff.mp H
 obtain ⟨t185,A30,H⟩ := H
 replace H : (some t185) = some r := H
 have A3 := am A30
 clear A30
 obtain rfl := Option.some.inj H
 go_enter Tryd.func77,Tryd.ntmps77
 go_wp2_with (first | ((with_reducible refine gate_callee (f := 92) rfl ?_);refine goesL_ (some 7) rfl rfl Tryd.func92 (by kernel_rfl) rfl #[.string a0,.string a1] rfl (by (try simp only [List.map_toArray,List.map_cons,List.map_nil]);first | done | rfl | (simp only [List.length_drop,List.length_take];rfl)) ?_;(with_reducible refine (stringslite_HasPrefix.calls a0 a1 t185 _ A3.out).mono ?_);rintro e w' ⟨rfl,⟨nd,rfl⟩⟩;refine ⟨_,rfl,?_⟩))
 go_ret
 exact ⟨by first | rfl | (simp;done) | (simp [*];done),by repeat (first | exact Drawn0.refl _ | apply Drawn0.step)⟩
end Go.Proofs.YtgnmdhnlcibbiaaDoor.P
end
section
namespace Go.Proofs.YtgnmdhnlcibbiaaDoor.P
open Go.RowKit Go.Proofs.PrintWords Go.Proofs.PrintLast Go.Proofs.PrintMore
set_option linter.unusedVariables false
set_option linter.unusedSimpArgs false
abbrev Nd := S25
abbrev Tk := S63
theorem cells1 {w : World} {b : Nat} {x0 : Value} {t : TypeId} (h : w.heap[b]? = some (.cells #[x0] t (0,0))) : w.cell? ⟨b,0,none⟩ = some x0 ∧ w.frozen? ⟨b,0,none⟩ = false := ⟨(blk_cell h 0).trans rfl,blk_frozen h 0⟩
theorem cells3 {w : World} {b : Nat} {x0 x1 x2 : Value} {t : TypeId} (h : w.heap[b]? = some (.cells #[x0,x1,x2] t (0,0))) : w.cell? ⟨b,0,none⟩ = some x0 ∧ w.frozen? ⟨b,0,none⟩ = false ∧ w.cell? ⟨b,1,none⟩ = some x1 ∧ w.frozen? ⟨b,1,none⟩ = false ∧ w.cell? ⟨b,2,none⟩ = some x2 ∧ w.frozen? ⟨b,2,none⟩ = false :=
 ⟨(blk_cell h 0).trans rfl,blk_frozen h 0,(blk_cell h 1).trans rfl,blk_frozen h 1,(blk_cell h 2).trans rfl,blk_frozen h 2⟩
theorem cells4 {w : World} {b : Nat} {x0 x1 x2 x3 : Value} {t : TypeId} (h : w.heap[b]? = some (.cells #[x0,x1,x2,x3] t (0,0))) : w.cell? ⟨b,0,none⟩ = some x0 ∧ w.frozen? ⟨b,0,none⟩ = false ∧ w.cell? ⟨b,1,none⟩ = some x1 ∧ w.frozen? ⟨b,1,none⟩ = false ∧ w.cell? ⟨b,2,none⟩ = some x2 ∧ w.frozen? ⟨b,2,none⟩ = false ∧ w.cell? ⟨b,3,none⟩ = some x3 ∧ w.frozen? ⟨b,3,none⟩ = false :=
 ⟨(blk_cell h 0).trans rfl,blk_frozen h 0,(blk_cell h 1).trans rfl,blk_frozen h 1,(blk_cell h 2).trans rfl,blk_frozen h 2,(blk_cell h 3).trans rfl,blk_frozen h 3⟩
theorem cells5 {w : World} {b : Nat} {x0 x1 x2 x3 x4 : Value} {t : TypeId} (h : w.heap[b]? = some (.cells #[x0,x1,x2,x3,x4] t (0,0))) : w.cell? ⟨b,0,none⟩ = some x0 ∧ w.frozen? ⟨b,0,none⟩ = false ∧ w.cell? ⟨b,1,none⟩ = some x1 ∧ w.frozen? ⟨b,1,none⟩ = false ∧ w.cell? ⟨b,2,none⟩ = some x2 ∧ w.frozen? ⟨b,2,none⟩ = false ∧ w.cell? ⟨b,3,none⟩ = some x3 ∧ w.frozen? ⟨b,3,none⟩ = false ∧ w.cell? ⟨b,4,none⟩ = some x4 ∧ w.frozen? ⟨b,4,none⟩ = false :=
 ⟨(blk_cell h 0).trans rfl,blk_frozen h 0,(blk_cell h 1).trans rfl,blk_frozen h 1,(blk_cell h 2).trans rfl,blk_frozen h 2,(blk_cell h 3).trans rfl,blk_frozen h 3,(blk_cell h 4).trans rfl,blk_frozen h 4⟩
theorem wp_act {P : Program} {c : Code} {Q : Exit → Act → World → Prop} {a a' : Act} {w : World} (e : a = a') (h : c.wp P Q a' w) : c.wp P Q a w := e ▸ h
structure Loc (we w0 : World) (g : Nat) (L : List Nat) (w : World) : Prop where
 below : Below w0.heap.size w0 w
 keep : Kept we w (fun k => k ∈ L)
 lt : ∀ b ∈ L,b < w.heap.size
 ge : ∀ b ∈ L,w0.heap.size ≤ b
 own : ∀ b ∈ L,b = g ∨ we.heap.size ≤ b
 me : g ∈ L
theorem Loc.init {we w0 : World} {g : Nat} (hB : Below w0.heap.size w0 we) (hg : g < we.heap.size) (h0 : w0.heap.size ≤ g) : Loc we w0 g [g] we :=
 ⟨hB,Kept.refl _ _,by simpa using hg,by simpa using h0,by simp,by simp⟩
theorem Loc.first {w w2 : World} {g b : Nat} (hB : Below w.heap.size w w2) (hg : g < w2.heap.size) (h0 : w.heap.size ≤ g) (hb : b < w2.heap.size) (h1 : w.heap.size ≤ b) : Loc w w g [g,b] w2 :=
 ⟨hB,Kept.of_below hB _,fun x hx => by simp at hx;rcases hx with rfl | rfl <;> assumption,fun x hx => by simp at hx;rcases hx with rfl | rfl <;> assumption,fun x hx => by simp at hx;rcases hx with rfl | rfl <;> exact .inr (by assumption),by simp⟩
theorem Loc.alloc {we w0 w w1 : World} {g b : Nat} {L : List Nat} (h : Loc we w0 g L w) (hb : Below w.heap.size w w1) (e : b = w.heap.size) (hlt : b < w1.heap.size) : Loc we w0 g (b :: L) w1 := by
 have hz := h.keep.1
 refine ⟨below_weaken h.below h.below.size hb,(h.keep.below hb).mono (fun k hk => List.mem_cons_of_mem _ hk),?_,?_,?_,List.mem_cons_of_mem _ h.me⟩
 ·intro x hx
  rcases List.mem_cons.1 hx with rfl | hx
  ·exact hlt
  ·have := h.lt x hx;have := hb.size;omega
 ·intro x hx
  rcases List.mem_cons.1 hx with rfl | hx
  ·have := h.below.size;omega
  ·exact h.ge x hx
 ·intro x hx
  rcases List.mem_cons.1 hx with rfl | hx
  ·right;omega
  ·exact h.own x hx
theorem Loc.fresh {we w0 w : World} {g b : Nat} {L : List Nat} (h : Loc we w0 g L w) (e : w.heap.size ≤ b) : b ∉ L := fun hm => by have := h.lt b hm;omega
theorem Loc.made {we w0 w w1 : World} {g : Nat} {L : List Nat} (h : Loc we w0 g L w) (hb : Below w.heap.size w w1) : Loc we w0 g L w1 :=
 ⟨below_weaken h.below h.below.size hb,h.keep.below hb,fun x hx => Nat.lt_of_lt_of_le (h.lt x hx) hb.size,h.ge,h.own,h.me⟩
theorem Loc.call {we w0 w w1 : World} {g : Nat} {L : List Nat} (h : Loc we w0 g L w) (hk : KeepBut w w1 g none) (hB : Below w0.heap.size w0 w1) : Loc we w0 g L w1 :=
 ⟨hB,h.keep.of_keep hk (.inl h.me),fun x hx => Nat.lt_of_lt_of_le (h.lt x hx) hk.1,h.ge,h.own,h.me⟩
theorem Loc.store {we w0 w w1 : World} {g b : Nat} {L : List Nat} (h : Loc we w0 g L w) (hm : b ∈ L) (hk : Kept w w1 (fun k => k = b)) (hB : Below w0.heap.size w0 w → w0.heap.size ≤ b → Below w0.heap.size w0 w1) : Loc we w0 g L w1 :=
 ⟨hB h.below (h.ge b hm),h.keep.then_ hk (fun k e => .inl (by rw [e];exact hm)),fun x hx => Nat.lt_of_lt_of_le (h.lt x hx) hk.1,h.ge,h.own,h.me⟩
theorem Loc.drew {we w0 w : World} {g : Nat} {L : List Nat} (h : Loc we w0 g L w) : Loc we w0 g L w.drew := ⟨below_drew1 h.below,h.keep,h.lt,h.ge,h.own,h.me⟩
theorem Loc.drewN {we w0 w : World} {g : Nat} {L : List Nat} (h : Loc we w0 g L w) (m : Nat) : Loc we w0 g L (w.drewN m) := ⟨pw_below_drewN h.below m,h.keep,h.lt,h.ge,h.own,h.me⟩
theorem Loc.out {we w0 w : World} {g : Nat} {L : List Nat} (h : Loc we w0 g L w) : Below w0.heap.size w0 w ∧ KeepBut we w g none :=
 ⟨h.below,h.keep.1,fun i hi hg _ => h.keep.2 i hi (fun hm => by rcases h.own i hm with e | e;exact hg e;omega)⟩
def VV (we : World) (L : List Nat) (w : World) (v : Value) (xs : List Nd) : Prop := Kd.V k25 25 w 0 (fun k => we.heap.size ≤ k ∧ k ∉ L) v xs
theorem VV.nil (we : World) (L : List Nat) (w : World) : VV we L w (.slice none 0 0) [] := Kd.V_nil _ _ _ _ _
theorem VV.alloc {we w w1 : World} {L : List Nat} {v : Value} {xs : List Nd} {b : Nat} (h : VV we L w v xs) (hb : Below w.heap.size w w1) (e : b = w.heap.size) : VV we (b :: L) w1 v xs :=
 Kd.V_mono (Kd.V_below (Kd.V_bound h) hb) (fun k hk => ⟨hk.1.1,fun hm => by rcases List.mem_cons.1 hm with rfl | hm;have := hk.2;omega;exact hk.1.2 hm⟩)
theorem VV.made {we w w1 : World} {L : List Nat} {v : Value} {xs : List Nd} (h : VV we L w v xs) (hb : Below w.heap.size w w1) : VV we L w1 v xs := Kd.V_below h hb
theorem VV.call {we w w1 : World} {L : List Nat} {v : Value} {xs : List Nd} {g : Nat} (h : VV we L w v xs) (hk : KeepBut w w1 g none) (hg : g ∈ L) : VV we L w1 v xs :=
 Kd.V_keep h hk (fun k hk e => hk.2 (by rw [e];exact hg))
theorem VV.store {we w w1 : World} {L : List Nat} {v : Value} {xs : List Nd} {b : Nat} (h : VV we L w v xs) (hk : Kept w w1 (fun k => k = b)) (hb : b ∈ L) : VV we L w1 v xs :=
 Kd.V_kept h hk (fun k hk e => hk.2 (by rw [e];exact hb))
theorem VV.of_call {we w0 w w1 : World} {L : List Nat} {v : Value} {xs : List Nd} {g base : Nat} (h : Kd.V k25 25 w1 base (fun k => w.heap.size ≤ k) v xs) (hl : Loc we w0 g L w) : VV we L w1 v xs :=
 Kd.V_lower (base := base) (Kd.V_mono h (fun k hk => ⟨Nat.le_trans hl.keep.1 hk,hl.fresh hk⟩)) (Nat.zero_le _)
theorem VV.of_node {we w0 w w1 : World} {L : List Nat} {v : Value} {xs : List Nd} {g base : Nat} (h : Kd.V k25 25 w1 base (fun k => (we.heap.size ≤ k ∧ k ∉ L) ∨ w.heap.size ≤ k) v xs) (hl : Loc we w0 g L w) : VV we L w1 v xs :=
 Kd.V_lower (base := base) (Kd.V_mono h (fun k hk => hk.elim id (fun hk => ⟨Nat.le_trans hl.keep.1 hk,hl.fresh hk⟩))) (Nat.zero_le _)
theorem VV.out {we w : World} {L : List Nat} {v : Value} {xs : List Nd} (h : VV we L w v xs) : Kd.V k25 25 w we.heap.size (fun k => we.heap.size ≤ k) v xs :=
 Kd.V_mono (Kd.V_map h (fun _ hf => hf)) (fun _ hk => hk.1)
theorem VV.drew {we w : World} {L : List Nat} {v : Value} {xs : List Nd} (h : VV we L w v xs) : VV we L w.drew v xs := Kd.V_drew h
def NodePost (we w0 : World) (g : Nat) (I : World → Prop) (t : Nd) (e : Ending) (w' : World) : Prop :=
 ∃ A c,e = .returned (.agg #[.int .i64 t.f0,.int .i64 t.f1,.slice A t.f2.length c]) ∧ Kd.V k25 25 w' we.heap.size (fun k => we.heap.size ≤ k) (.slice A t.f2.length c) t.f2 ∧ I w' ∧ Below w0.heap.size w0 w' ∧ KeepBut we w' g none
abbrev ncells (t : Nd) (A : Option Addr) (c : Nat) : Array Value := #[.int .i64 t.f0,.int .i64 t.f1,.slice A t.f2.length c]
section
variable {P : Program} {ops : Array Oper} {rest : List Oper} {o : Oper} {a : Act} {Q : Exit → Act → World → Prop}
theorem event_store {W w1 : World} (hgd : o.guard = none) (hN : o.dst = none) (zcA : (execOp a.eval o).run P W = .ok .skip w1) (h : ∀ w',w' = w1 → wpList P ops Q rest a w') : wpList P ops Q (o :: rest) a W := by
 refine wpList_plain hgd fun K hK => ?_
 unfold Oper.wp
 rw [zcA]
 show K (a.put o.dst undef) w1
 rw [hN]
 exact hK _ _ (h w1 rfl)
theorem store3_event {W : World} (hgd : o.guard = none) (hN : o.dst = none) {b : Nat} {x0 x1 x2 y0 y1 y2 : Value} {tt : TypeId}
  (zcA : (execOp a.eval o).run P W = .ok .skip (((W.setCell ⟨b,0,none⟩ y0).setCell ⟨b,1,none⟩ y1).setCell ⟨b,2,none⟩ y2)) (hb : W.heap[b]? = some (.cells #[x0,x1,x2] tt (0,0)))
  (h : ∀ w',w'.heap[b]? = some (.cells #[y0,y1,y2] tt (0,0)) → Kept W w' (fun k => k = b) → (∀ w0 : World,Below w0.heap.size w0 W → w0.heap.size ≤ b → Below w0.heap.size w0 w') → wpList P ops Q rest a w') : wpList P ops Q (o :: rest) a W := by
 refine event_store hgd hN zcA ?_
 rintro w' rfl
 refine h _ ?_ ?_ ?_
 ·exact blk_put (blk_put (blk_put hb 0 y0 rfl) 1 y1 rfl) 2 y2 rfl
 ·exact (((Kept.refl W (fun k => k = b)).setCell (p := ⟨b,0,none⟩) (.inl rfl) y0).setCell (p := ⟨b,1,none⟩) (.inl rfl) y1).setCell (p := ⟨b,2,none⟩) (.inl rfl) y2
 ·intro w0 hB hle
  exact below_set (below_set (below_set hB hle) hle) hle
abbrev NodeReps (we : World) (L : List Nat) (W : World) (xs : List Nd) (inner : List Value) : Prop := Reps (Kd.FK k25 W (fun k => we.heap.size ≤ k ∧ k ∉ L)) 3 xs inner
theorem NodeReps.nil {we W : World} {L : List Nat} : NodeReps we L W [] [] := ⟨rfl,fun j y h => by simp at h⟩
theorem NodeReps.cons {we W : World} {L : List Nat} {t : Nd} {A : Option Addr} {c : Nat} {xs : List Nd} {inner : List Value} (h : VV we L W (.slice A t.f2.length c) t.f2) (hr : NodeReps we L W xs inner) :
  NodeReps we L W (t :: xs) (.int .i64 t.f0 :: .int .i64 t.f1 :: .slice A t.f2.length c :: inner) :=
 Reps.c3 (k25_mkF W _ t (Kd.V_reads' h).2.1 (Kd.V_F h)) hr
theorem lit_event {W we w0 : World} {g : Nat} {L : List Nat} (hgd : o.guard = none) {N : Tmp} (hd : o.dst = some N) {xs : List Nd} {inner : List Value}
  (zcA : (execOp a.eval o).run P W = .ok (.value (.slice (some ⟨W.heap.size,0,none⟩) xs.length xs.length)) (W.alloc (.cells inner.toArray 25)))
  (hrep : NodeReps we L W xs inner) (hl : Loc we w0 g L W) (hm : xs.length ≤ 9223372036854775807)
  (h : ∀ A c w1,VV we L w1 (.slice A xs.length c) xs → Below W.heap.size W w1 → wpList P ops Q rest (a.put o.dst (.slice A xs.length c)) w1) : wpList P ops Q (o :: rest) a W := by
 refine Kd.N_lit k25 W.heap.size 25 hgd hd zcA hrep (fun k hk => hk) ⟨hl.keep.1,hl.fresh (Nat.le_refl _)⟩ (Below.refl _ W) (Nat.le_refl _) hm ?_
 intro v1 w1 hn hb _ _
 obtain ⟨A,c,rfl⟩ := Kd.N_slice hn
 exact h A c w1 (Kd.N_V hn) hb
theorem box_step {W : World} {K : Act → World → Prop} (hw : Region.wanted o (yielded ops a.tmps) = true) {N : Tmp} (hd : o.dst = some N) {cs : Array Value} {t : TypeId}
  (zcA : (execOp a.eval o).run P W = .ok (.value (.pointer (some ⟨W.heap.size,0,none⟩))) (W.alloc (.cells cs t (0,0))))
  (h : ∀ g w1,g = W.heap.size → w1.heap[g]? = some (.cells cs t (0,0)) → Below W.heap.size W w1 → K (a.put (some N) (.pointer (some ⟨g,0,none⟩))) w1) :
  if Region.wanted o (yielded ops a.tmps) = true then Oper.wp P o a W K Q else K (a.put (some N) undef) W :=
 value_ hw hd zcA (h _ _ rfl (blk_new W _) (below_alloc (Below.refl _ _) _))
theorem set4 {W : World} {b : Nat} {x0 x1 x2 x3 y0 y1 y2 y3 : Value} {tt : TypeId} (hb : W.heap[b]? = some (.cells #[x0,x1,x2,x3] tt (0,0))) :
  ∃ w',w' = ((((W.setCell ⟨b,0,none⟩ y0).setCell ⟨b,1,none⟩ y1).setCell ⟨b,2,none⟩ y2).setCell ⟨b,3,none⟩ y3) ∧ w'.heap[b]? = some (.cells #[y0,y1,y2,y3] tt (0,0)) ∧ Kept W w' (fun k => k = b) ∧ (∀ w0 : World,Below w0.heap.size w0 W → w0.heap.size ≤ b → Below w0.heap.size w0 w') := by
 refine ⟨_,rfl,?_,?_,?_⟩
 ·exact blk_put (blk_put (blk_put (blk_put hb 0 y0 rfl) 1 y1 rfl) 2 y2 rfl) 3 y3 rfl
 ·exact ((((Kept.refl W (fun k => k = b)).setCell (p := ⟨b,0,none⟩) (.inl rfl) y0).setCell (p := ⟨b,1,none⟩) (.inl rfl) y1).setCell (p := ⟨b,2,none⟩) (.inl rfl) y2).setCell (p := ⟨b,3,none⟩) (.inl rfl) y3
 ·intro w0 hB hle
  exact below_set (below_set (below_set (below_set hB hle) hle) hle) hle
theorem store4_step {W : World} {K : Act → World → Prop} (hw : Region.wanted o (yielded ops a.tmps) = true) (hN : o.dst = none) {b : Nat} {x0 x1 x2 x3 y0 y1 y2 y3 : Value} {tt : TypeId}
  (zcA : (execOp a.eval o).run P W = .ok .skip ((((W.setCell ⟨b,0,none⟩ y0).setCell ⟨b,1,none⟩ y1).setCell ⟨b,2,none⟩ y2).setCell ⟨b,3,none⟩ y3)) (hb : W.heap[b]? = some (.cells #[x0,x1,x2,x3] tt (0,0)))
  (h : ∀ w',w'.heap[b]? = some (.cells #[y0,y1,y2,y3] tt (0,0)) → Kept W w' (fun k => k = b) → (∀ w0 : World,Below w0.heap.size w0 W → w0.heap.size ≤ b → Below w0.heap.size w0 w') → K a w') :
  if Region.wanted o (yielded ops a.tmps) = true then Oper.wp P o a W K Q else K (a.put none undef) W := by
 obtain ⟨w',e,h1,h2,h3⟩ := set4 hb (y0 := y0) (y1 := y1) (y2 := y2) (y3 := y3)
 exact skip_ hw hN (e ▸ zcA) (h w' h1 h2 h3)
theorem set3 {W : World} {b : Nat} {x0 x1 x2 y0 y1 y2 : Value} {tt : TypeId} (hb : W.heap[b]? = some (.cells #[x0,x1,x2] tt (0,0))) :
  ∃ w',w' = (((W.setCell ⟨b,0,none⟩ y0).setCell ⟨b,1,none⟩ y1).setCell ⟨b,2,none⟩ y2) ∧ w'.heap[b]? = some (.cells #[y0,y1,y2] tt (0,0)) ∧ Kept W w' (fun k => k = b) ∧ (∀ w0 : World,Below w0.heap.size w0 W → w0.heap.size ≤ b → Below w0.heap.size w0 w') := by
 refine ⟨_,rfl,?_,?_,?_⟩
 ·exact blk_put (blk_put (blk_put hb 0 y0 rfl) 1 y1 rfl) 2 y2 rfl
 ·exact (((Kept.refl W (fun k => k = b)).setCell (p := ⟨b,0,none⟩) (.inl rfl) y0).setCell (p := ⟨b,1,none⟩) (.inl rfl) y1).setCell (p := ⟨b,2,none⟩) (.inl rfl) y2
 ·intro w0 hB hle
  exact below_set (below_set (below_set hB hle) hle) hle
theorem store3_step {W : World} {K : Act → World → Prop} (hw : Region.wanted o (yielded ops a.tmps) = true) (hN : o.dst = none) {b : Nat} {x0 x1 x2 y0 y1 y2 : Value} {tt : TypeId}
  (zcA : (execOp a.eval o).run P W = .ok .skip (((W.setCell ⟨b,0,none⟩ y0).setCell ⟨b,1,none⟩ y1).setCell ⟨b,2,none⟩ y2)) (hb : W.heap[b]? = some (.cells #[x0,x1,x2] tt (0,0)))
  (h : ∀ w',w'.heap[b]? = some (.cells #[y0,y1,y2] tt (0,0)) → Kept W w' (fun k => k = b) → (∀ w0 : World,Below w0.heap.size w0 W → w0.heap.size ≤ b → Below w0.heap.size w0 w') → K a w') :
  if Region.wanted o (yielded ops a.tmps) = true then Oper.wp P o a W K Q else K (a.put none undef) W := by
 obtain ⟨w',e,h1,h2,h3⟩ := set3 hb (y0 := y0) (y1 := y1) (y2 := y2)
 exact skip_ hw hN (e ▸ zcA) (h w' h1 h2 h3)
abbrev OM (P : Program) (w : World) (b n : Nat) (D : DataW Unit) : Prop := w.ownsMap P 9 (plainElem P 3) b n D
theorem map_event {W : World} (hgd : o.guard = none) {N : Tmp} (hd : o.dst = some N) (zcA : (execOp a.eval o).run P W = .ok (.value (.map (some W.heap.size))) (W.alloc (.map #[] 0)))
  (h : ∀ b w1,b = W.heap.size → b < w1.heap.size → OM P w1 b 0 (.map []) → Below W.heap.size W w1 → wpList P ops Q rest (a.put o.dst (.map (some b))) w1) : wpList P ops Q (o :: rest) a W :=
 Kd.event_run hgd zcA (h _ _ rfl (World.ownsMap.lt (show OM P (W.alloc (.map #[] 0)) W.heap.size 0 (.map []) from World.ownsMap_made _ _ _ _)) (World.ownsMap_made _ _ _ _) (below_alloc (Below.refl _ _) _))
theorem gate_insert {W : World} (key : ByteArray) {t : TypeId} {m v : Operand} (_ho : o.op = .insert t m (.const (.string key)) v) (h : wpList P ops Q (o :: rest) a W) : wpList P ops Q (o :: rest) a W := h
theorem mapput_event {W : World} (hg : o.guard = none) (hN : o.dst = none) (m x v : Operand) (t : TypeId) (hop : o.op = Op.insert t m x v) (h9 : P.underlying 9 = some .string) (h3 : P.underlying 3 = some (.int .i64)) (ht : P.underlying t = some (.map 9 3)) {b n : Nat} {D : DataW Unit}
  (hown : OM P W b n D) (hn : n < maxLen) (hm : a.eval m = .map (some b)) (key : ByteArray) (y : Int) (hx : a.eval x = .string key) (hk : key.size ≤ maxLen) (hv : a.eval v = .int .i64 y) (hy : (Lit.int .i64 y).wf = true)
  (h : ∀ w',OM P w' b (n + 1) (D.put (.string key.data.toList) (.lit (.int .i64 y))) → Kept W w' (fun k => k = b) → (∀ w0 : World,Below w0.heap.size w0 W → w0.heap.size ≤ b → Below w0.heap.size w0 w') → wpList P ops Q rest a w') : wpList P ops Q (o :: rest) a W := by
 refine wpList_plain hg fun K' hK' => ?_
 obtain ⟨w',zcA,h1,h2⟩ := hown.update (Go.Maps.string_keyed h9) ht hn (WideMaps.keyOf_string_mk h9 hk) (plainElem_int h3 hy)
 unfold Oper.wp
 simp [execOp,hop,hm,hx,hv,zcA,Result.andThen]
 refine hK' _ _ ?_
 have := h w' h1 (Kept.of_grown h2 (Kept.refl W _) (fun k e => .inl (by injection e with e;exact e.symm))) (fun w0 hB hle => hB.grown h2 hB.size (fun k e => by injection e with e;omega))
 rw [hN]
 exact this
theorem mapget_event {W : World} (hg : o.guard = none) (m x : Operand) (t : TypeId) (hop : o.op = Op.lookup t m x false) (h9 : P.underlying 9 = some .string) (h3 : P.underlying 3 = some (.int .i64)) (ht : P.underlying t = some (.map 9 3)) (hz : (zeroValue 3).run P W = .ok (.int .i64 0) W) {b n : Nat} {D : DataW Unit}
  (hown : OM P W b n D) (hm : a.eval m = .map (some b)) (key : ByteArray) (hx : a.eval x = .string key) (hk : key.size ≤ maxLen) (y : Int) (hat : D.atKey (.string key.data.toList) (.lit (.int .i64 0)) = .lit (.int .i64 y))
  (h : wpList P ops Q rest (a.put o.dst (.int .i64 y)) W) : wpList P ops Q (o :: rest) a W := by
 refine wpList_lookup_own_int W hg m x t hop 9 3 .i64 (Go.Maps.string_keyed h9) ht h3 hz b n D hm hown _ _ hx (WideMaps.keyOf_string_mk h9 hk) ?_
 intro c hc _
 rw [hat] at hc
 injection hc with hc
 injection hc with _ hc
 rw [← hc]
 exact h
end
end Go.Proofs.YtgnmdhnlcibbiaaDoor.P
end
