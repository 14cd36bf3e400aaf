import Derived.Test.YtgnmdhnlcibbiaaDoorKX0
import Derived.RangeFuncNested
import Derived.RangeFuncBound
import Derived.RangeFuncCalls
import Derived.RangeFuncLeaves
import Derived.Shelf.Abstract
import Derived.Shelf.RegionOpen
import Derived.WalkKit
import Derived.OwnWalkIn
import Derived.TacticsInMore
import Derived.LoopNIn
import Derived.Sort.LoopGhostIn
import Derived.LoopIn
import Derived.Deep.Heap
import Derived.Shelf.Lay
import Derived.Shelf.Strings.Search3
import Derived.Test.YtgnmdhnlcibbiaaDoorKA0
set_option maxHeartbeats 8000000
set_option maxRecDepth 100000
section
namespace Go.Proofs.YtgnmdhnlcibbiaaDoor.P
open Go.RowKit Go.Proofs.PrintWords Go.Proofs.PrintLast Go.Proofs.PrintMore
set_option linter.unusedVariables false
set_option linter.unusedSimpArgs false
def lex_Cut1.f (a0 : Int) : Option Bool := some (a0 != 10)
theorem lex_Cut1.calls (a0 : Int) (r : Bool) (w : World) (h : lex_Cut1.f a0 = some r) :
  Calls Tryd.prog 44 #[.int .u8 a0] w fun e w' => e = .returned (.bool r) ∧ Drawn0 w w' := by
 obtain rfl := Option.some.inj h
 go_enter Tryd.func44,Tryd.ntmps44
 go_wp2
 go_ret
 exact ⟨by first | rfl | (simp;done) | (simp [*];done),by repeat (first | exact Drawn0.refl _ | apply Drawn0.step)⟩
def lex_Cut2.f (a0 : Int) : Option Bool := (lex_letter.f a0).bind fun t => if t = true then some true else lex_digit.f a0
theorem lex_Cut2.calls (a0 : Int) (r : Bool) (w : World) (h : lex_Cut2.f a0 = some r) :
  Calls Tryd.prog 48 #[.int .u8 a0] w fun e w' => e = .returned (.bool r) ∧ Below w.heap.size w w' := by
 unfold lex_Cut2.f at h
 obtain ⟨t,h1,h⟩ := Option.bind_eq_some_iff.mp h
 have H1 := am h1
 clear h1
 have HB := am (Below.refl w.heap.size w)
 cases t with
 | true =>
  rw [if_pos rfl] at h
  obtain rfl := Option.some.inj h
  clear h
  go_enter Tryd.func48,Tryd.ntmps48
  go_wp2_with ((with_reducible refine (lex_letter.calls a0 true _ H1.out).mono ?_);rintro e w1 ⟨rfl,hd⟩;replace HB := am (below_step HB.out hd.below);clear hd)
  go_ret
  exact ⟨rfl,HB.out⟩
 | false =>
  rw [if_neg (by decide)] at h
  have H2 := am h
  clear h
  go_enter Tryd.func48,Tryd.ntmps48
  go_wp2_with (first | ((with_reducible refine (lex_letter.calls a0 false _ H1.out).mono ?_);rintro e w1 ⟨rfl,hd⟩;replace HB := am (below_step HB.out hd.below);clear hd) | ((with_reducible refine (lex_digit.calls a0 r _ H2.out).mono ?_);rintro e w2 ⟨rfl,hd⟩;replace HB := am (below_step HB.out hd.below);clear hd))
  go_ret
  exact ⟨rfl,HB.out⟩
def lex_span42.l0 : Nat → ByteArray → Int → Option Int
 | 0,_,_ => none
 | k + 1,x0,x => if x < (x0.size : Int) then (if 0 ≤ x then ((lex_space.f (bt x0 x)).bind fun t => (if t = true then (lex_span42.l0 k x0 (wrap64 (x + 1))) else (some x))) else (none)) else (some x)
def lex_span42.f (a0 : ByteArray) : Option Int := lex_span42.l0 (a0.size + 1) a0 0
theorem lex_span42.calls (a0 : ByteArray) (r : Int) (w : World) (h : lex_span42.f a0 = some r) :
  Calls Tryd.prog 43 #[.string a0,.func (.func 42) #[] #[]] w fun e w' => e = .returned (.int .i64 r) ∧ Below w.heap.size w w' := by
 have HL := am (show lex_span42.l0 (a0.size + 1) a0 0 = some r from h)
 clear h
 generalize a0.size + 1 = k at HL
 have HB := am (Below.refl w.heap.size w)
 go_enter Tryd.func43,Tryd.ntmps43
 go_wp2
 go_loopg [5] k (fun kq v5 w' => ∃ (x : Int),v5 = .int .i64 x ∧ Aside0 (lex_span42.l0 kq a0 x = some r) ∧ Aside0 (kq ≤ k) ∧ Aside0 (Below w.heap.size w w'))
 case atStart => exact ⟨0,rfl,HL,⟨Nat.le_refl _⟩,HB⟩
 case round =>
  clear HL HB
  obtain ⟨x,rfl,HR,HK,HB⟩ := hrel
  cases gk with
  | zero => exact absurd HR.out (by simp [lex_span42.l0])
  | succ k1 =>
   have h := HR.out
   clear HR
   simp only [lex_span42.l0] at h
   by_cases c1 : x < (a0.size : Int)
   ·rw [if_pos c1] at h
    have c1b : decide (x < (a0.size : Int)) = true := decide_eq_true c1
    by_cases p1 : 0 ≤ x
    ·rw [if_pos p1] at h
     obtain ⟨t,h1,h⟩ := Option.bind_eq_some_iff.mp h
     have HC := am h1
     have hx := bt_at a0 x
     replace p1 := eq_true p1
     replace c1 := eq_true c1
     clear h1
     cases t with
     | true =>
      rw [if_pos rfl] at h
      have HR1 := am h
      clear h
      go_wp2_with ((with_reducible refine (lex_space.calls (bt a0 x) _ _ HC.out).mono ?_);rintro e w9 ⟨rfl,hd⟩;replace HB := am (below_step HB.out hd.below);clear hd)
      go_roundg k1
      case measure => have := HK.out;omega
      case rel => exact ⟨wrap64 (x + 1),rfl,HR1,⟨by have := HK.out;omega⟩,HB⟩
     | false =>
      rw [if_neg (by decide)] at h
      obtain rfl := Option.some.inj h
      clear h
      go_wp2_with ((with_reducible refine (lex_space.calls (bt a0 x) _ _ HC.out).mono ?_);rintro e w9 ⟨rfl,hd⟩;replace HB := am (below_step HB.out hd.below);clear hd)
      go_ret
      exact ⟨rfl,HB.out⟩
    ·rw [if_neg p1] at h
     cases h
   ·rw [if_neg c1] at h
    have c1b : decide (x < (a0.size : Int)) = false := decide_eq_false c1
    obtain rfl := Option.some.inj h
    clear h c1
    go_wp2
    go_ret
    exact ⟨rfl,HB.out⟩
def lex_span44.l0 : Nat → ByteArray → Int → Option Int
 | 0,_,_ => none
 | k + 1,x0,x => if x < (x0.size : Int) then (if 0 ≤ x then ((lex_Cut1.f (bt x0 x)).bind fun t => (if t = true then (lex_span44.l0 k x0 (wrap64 (x + 1))) else (some x))) else (none)) else (some x)
def lex_span44.f (a0 : ByteArray) : Option Int := lex_span44.l0 (a0.size + 1) a0 0
theorem lex_span44.calls (a0 : ByteArray) (r : Int) (w : World) (h : lex_span44.f a0 = some r) :
  Calls Tryd.prog 43 #[.string a0,.func (.func 44) #[] #[]] w fun e w' => e = .returned (.int .i64 r) ∧ Below w.heap.size w w' := by
 have HL := am (show lex_span44.l0 (a0.size + 1) a0 0 = some r from h)
 clear h
 generalize a0.size + 1 = k at HL
 have HB := am (Below.refl w.heap.size w)
 go_enter Tryd.func43,Tryd.ntmps43
 go_wp2
 go_loopg [5] k (fun kq v5 w' => ∃ (x : Int),v5 = .int .i64 x ∧ Aside0 (lex_span44.l0 kq a0 x = some r) ∧ Aside0 (kq ≤ k) ∧ Aside0 (Below w.heap.size w w'))
 case atStart => exact ⟨0,rfl,HL,⟨Nat.le_refl _⟩,HB⟩
 case round =>
  clear HL HB
  obtain ⟨x,rfl,HR,HK,HB⟩ := hrel
  cases gk with
  | zero => exact absurd HR.out (by simp [lex_span44.l0])
  | succ k1 =>
   have h := HR.out
   clear HR
   simp only [lex_span44.l0] at h
   by_cases c1 : x < (a0.size : Int)
   ·rw [if_pos c1] at h
    have c1b : decide (x < (a0.size : Int)) = true := decide_eq_true c1
    by_cases p1 : 0 ≤ x
    ·rw [if_pos p1] at h
     obtain ⟨t,h1,h⟩ := Option.bind_eq_some_iff.mp h
     have HC := am h1
     have hx := bt_at a0 x
     replace p1 := eq_true p1
     replace c1 := eq_true c1
     clear h1
     cases t with
     | true =>
      rw [if_pos rfl] at h
      have HR1 := am h
      clear h
      go_wp2_with ((with_reducible refine (lex_Cut1.calls (bt a0 x) _ _ HC.out).mono ?_);rintro e w9 ⟨rfl,hd⟩;replace HB := am (below_step HB.out hd.below);clear hd)
      go_roundg k1
      case measure => have := HK.out;omega
      case rel => exact ⟨wrap64 (x + 1),rfl,HR1,⟨by have := HK.out;omega⟩,HB⟩
     | false =>
      rw [if_neg (by decide)] at h
      obtain rfl := Option.some.inj h
      clear h
      go_wp2_with ((with_reducible refine (lex_Cut1.calls (bt a0 x) _ _ HC.out).mono ?_);rintro e w9 ⟨rfl,hd⟩;replace HB := am (below_step HB.out hd.below);clear hd)
      go_ret
      exact ⟨rfl,HB.out⟩
    ·rw [if_neg p1] at h
     cases h
   ·rw [if_neg c1] at h
    have c1b : decide (x < (a0.size : Int)) = false := decide_eq_false c1
    obtain rfl := Option.some.inj h
    clear h c1
    go_wp2
    go_ret
    exact ⟨rfl,HB.out⟩
def lex_span45.l0 : Nat → ByteArray → Int → Option Int
 | 0,_,_ => none
 | k + 1,x0,x => if x < (x0.size : Int) then (if 0 ≤ x then ((lex_digit.f (bt x0 x)).bind fun t => (if t = true then (lex_span45.l0 k x0 (wrap64 (x + 1))) else (some x))) else (none)) else (some x)
def lex_span45.f (a0 : ByteArray) : Option Int := lex_span45.l0 (a0.size + 1) a0 0
theorem lex_span45.calls (a0 : ByteArray) (r : Int) (w : World) (h : lex_span45.f a0 = some r) :
  Calls Tryd.prog 43 #[.string a0,.func (.func 45) #[] #[]] w fun e w' => e = .returned (.int .i64 r) ∧ Below w.heap.size w w' := by
 have HL := am (show lex_span45.l0 (a0.size + 1) a0 0 = some r from h)
 clear h
 generalize a0.size + 1 = k at HL
 have HB := am (Below.refl w.heap.size w)
 go_enter Tryd.func43,Tryd.ntmps43
 go_wp2
 go_loopg [5] k (fun kq v5 w' => ∃ (x : Int),v5 = .int .i64 x ∧ Aside0 (lex_span45.l0 kq a0 x = some r) ∧ Aside0 (kq ≤ k) ∧ Aside0 (Below w.heap.size w w'))
 case atStart => exact ⟨0,rfl,HL,⟨Nat.le_refl _⟩,HB⟩
 case round =>
  clear HL HB
  obtain ⟨x,rfl,HR,HK,HB⟩ := hrel
  cases gk with
  | zero => exact absurd HR.out (by simp [lex_span45.l0])
  | succ k1 =>
   have h := HR.out
   clear HR
   simp only [lex_span45.l0] at h
   by_cases c1 : x < (a0.size : Int)
   ·rw [if_pos c1] at h
    have c1b : decide (x < (a0.size : Int)) = true := decide_eq_true c1
    by_cases p1 : 0 ≤ x
    ·rw [if_pos p1] at h
     obtain ⟨t,h1,h⟩ := Option.bind_eq_some_iff.mp h
     have HC := am h1
     have hx := bt_at a0 x
     replace p1 := eq_true p1
     replace c1 := eq_true c1
     clear h1
     cases t with
     | true =>
      rw [if_pos rfl] at h
      have HR1 := am h
      clear h
      go_wp2_with ((with_reducible refine (lex_digit.calls (bt a0 x) _ _ HC.out).mono ?_);rintro e w9 ⟨rfl,hd⟩;replace HB := am (below_step HB.out hd.below);clear hd)
      go_roundg k1
      case measure => have := HK.out;omega
      case rel => exact ⟨wrap64 (x + 1),rfl,HR1,⟨by have := HK.out;omega⟩,HB⟩
     | false =>
      rw [if_neg (by decide)] at h
      obtain rfl := Option.some.inj h
      clear h
      go_wp2_with ((with_reducible refine (lex_digit.calls (bt a0 x) _ _ HC.out).mono ?_);rintro e w9 ⟨rfl,hd⟩;replace HB := am (below_step HB.out hd.below);clear hd)
      go_ret
      exact ⟨rfl,HB.out⟩
    ·rw [if_neg p1] at h
     cases h
   ·rw [if_neg c1] at h
    have c1b : decide (x < (a0.size : Int)) = false := decide_eq_false c1
    obtain rfl := Option.some.inj h
    clear h c1
    go_wp2
    go_ret
    exact ⟨rfl,HB.out⟩
def lex_span48.l0 : Nat → ByteArray → Int → Option Int
 | 0,_,_ => none
 | k + 1,x0,x => if x < (x0.size : Int) then (if 0 ≤ x then ((lex_Cut2.f (bt x0 x)).bind fun t => (if t = true then (lex_span48.l0 k x0 (wrap64 (x + 1))) else (some x))) else (none)) else (some x)
def lex_span48.f (a0 : ByteArray) : Option Int := lex_span48.l0 (a0.size + 1) a0 0
theorem lex_span48.calls (a0 : ByteArray) (r : Int) (w : World) (h : lex_span48.f a0 = some r) :
  Calls Tryd.prog 43 #[.string a0,.func (.func 48) #[] #[]] w fun e w' => e = .returned (.int .i64 r) ∧ Below w.heap.size w w' := by
 have HL := am (show lex_span48.l0 (a0.size + 1) a0 0 = some r from h)
 clear h
 generalize a0.size + 1 = k at HL
 have HB := am (Below.refl w.heap.size w)
 go_enter Tryd.func43,Tryd.ntmps43
 go_wp2
 go_loopg [5] k (fun kq v5 w' => ∃ (x : Int),v5 = .int .i64 x ∧ Aside0 (lex_span48.l0 kq a0 x = some r) ∧ Aside0 (kq ≤ k) ∧ Aside0 (Below w.heap.size w w'))
 case atStart => exact ⟨0,rfl,HL,⟨Nat.le_refl _⟩,HB⟩
 case round =>
  clear HL HB
  obtain ⟨x,rfl,HR,HK,HB⟩ := hrel
  cases gk with
  | zero => exact absurd HR.out (by simp [lex_span48.l0])
  | succ k1 =>
   have h := HR.out
   clear HR
   simp only [lex_span48.l0] at h
   by_cases c1 : x < (a0.size : Int)
   ·rw [if_pos c1] at h
    have c1b : decide (x < (a0.size : Int)) = true := decide_eq_true c1
    by_cases p1 : 0 ≤ x
    ·rw [if_pos p1] at h
     obtain ⟨t,h1,h⟩ := Option.bind_eq_some_iff.mp h
     have HC := am h1
     have hx := bt_at a0 x
     replace p1 := eq_true p1
     replace c1 := eq_true c1
     clear h1
     cases t with
     | true =>
      rw [if_pos rfl] at h
      have HR1 := am h
      clear h
      go_wp2_with ((with_reducible refine (lex_Cut2.calls (bt a0 x) _ _ HC.out).mono ?_);rintro e w9 ⟨rfl,hd⟩;replace HB := am (below_step HB.out hd);clear hd)
      go_roundg k1
      case measure => have := HK.out;omega
      case rel => exact ⟨wrap64 (x + 1),rfl,HR1,⟨by have := HK.out;omega⟩,HB⟩
     | false =>
      rw [if_neg (by decide)] at h
      obtain rfl := Option.some.inj h
      clear h
      go_wp2_with ((with_reducible refine (lex_Cut2.calls (bt a0 x) _ _ HC.out).mono ?_);rintro e w9 ⟨rfl,hd⟩;replace HB := am (below_step HB.out hd);clear hd)
      go_ret
      exact ⟨rfl,HB.out⟩
    ·rw [if_neg p1] at h
     cases h
   ·rw [if_neg c1] at h
    have c1b : decide (x < (a0.size : Int)) = false := decide_eq_false c1
    obtain rfl := Option.some.inj h
    clear h c1
    go_wp2
    go_ret
    exact ⟨rfl,HB.out⟩
end Go.Proofs.YtgnmdhnlcibbiaaDoor.P
end
section
namespace Go.Proofs.YtgnmdhnlcibbiaaDoor.P
open Go.RowKit Go.Proofs.PrintWords Go.Proofs.PrintLast Go.Proofs.PrintMore
set_option linter.unusedVariables false
set_option linter.unusedSimpArgs false
section
variable {P : Program} {ops : Array Oper} {rest : List Oper} {o : Oper} {a : Act} {Q : Exit → Act → World → Prop}
theorem bytes_event {W : World} (hgd : o.guard = none) {N : Tmp} (hd : o.dst = some N) (s : ByteArray) (e : TypeId) (hs : s.size ≤ 9223372036854775807)
  (zcA : (execOp a.eval o).run P W = .ok (.value (.slice (some ⟨W.heap.size,0,none⟩) s.size (grownCap W s.size 0 e))) (Lib.bytesWorld W e s))
  (h : ∀ ad c w1,ReadsInt w1 .u8 (some ad) s.size (bytesOf s) → Below W.heap.size W w1 → wpList P ops Q rest (a.put o.dst (.slice (some ad) s.size c)) w1) : wpList P ops Q (o :: rest) a W :=
 Kd.event_run hgd zcA (h _ _ _ (bytes_reads W e s hs) (bytes_below (Below.refl _ W) (Nat.le_refl _) e s))
end
def lex_number.l0 : Nat → ByteArray → Int → Int → Option (Int × Bool)
 | 0,_,_,_ => none
 | k + 1,x0,n,i => if i < (x0.size : Int) then (if 0 ≤ i then (if (9223372036854775807 - (((bt x0 i) - 48) % 256)) / 10 < n then some (0,false) else lex_number.l0 k x0 (wrap64 ((wrap64 (10 * n)) + (((bt x0 i) - 48) % 256))) (wrap64 (i + 1))) else none) else some (n,true)
def lex_number.f (a0 : ByteArray) : Option (Int × Bool) := if a0.size ≤ 9223372036854775807 then lex_number.l0 (a0.size + 1) a0 0 0 else none
theorem lex_number.calls (a0 : ByteArray) (r1 : Int) (r2 : Bool) (w : World) (h : lex_number.f a0 = some (r1,r2)) :
  Calls Tryd.prog 46 #[.string a0] w fun e w' => e = .returned (.tuple #[.int .i64 r1,.bool r2]) ∧ Below w.heap.size w w' := by
 unfold lex_number.f at h
 by_cases hz : a0.size ≤ 9223372036854775807
 ·rw [if_pos hz] at h
  have HL := am h
  have HZ := am hz
  clear h hz
  generalize a0.size + 1 = k at HL
  have hcv := fun W => Lib.run_convert_string_bytes (P := Tryd.prog) W 9 78 5 a0 Tryd.underlying9 Tryd.underlying78 Tryd.underlying5
  go_enter Tryd.func46,Tryd.ntmps46
  go_wp2_with ((with_reducible refine gate_dst (N := 9) rfl ?_);refine bytes_event ?hg (N := 9) ?hd a0 5 HZ.out ?hr ?_;(case hd => rfl);(case hg => rfl);(case hr => (go_simp;try rfl));intro ad c w1 hrd hb;have HR := am hrd;have HB := am hb;clear hrd hb)
  go_loopg [4,11] k (fun kq v4 v11 w' => ∃ (n : Int) (i : Int),v4 = .int .i64 n ∧ v11 = .int .i64 i ∧ Aside0 (lex_number.l0 kq a0 n i = some (r1,r2)) ∧ Aside0 (kq ≤ k) ∧ Aside0 (ReadsInt w' .u8 (some ad) a0.size (bytesOf a0)) ∧ Aside0 (Below w.heap.size w w'))
  case atStart => exact ⟨0,0,rfl,rfl,HL,⟨Nat.le_refl _⟩,HR,HB⟩
  case round =>
   clear HL HR HB hcv
   obtain ⟨n,i,rfl,rfl,HL,HK,HR,HB⟩ := hrel
   cases gk with
   | zero => exact absurd HL.out (by simp [lex_number.l0])
   | succ k1 =>
    have h := HL.out
    clear HL
    simp only [lex_number.l0] at h
    by_cases c1 : i < (a0.size : Int)
    ·rw [if_pos c1] at h
     have c1b : decide (i < (a0.size : Int)) = true := decide_eq_true c1
     by_cases p1 : 0 ≤ i
     ·rw [if_pos p1] at h
      obtain ⟨ad2,e2,hc⟩ := ReadsInt.at_ HR.out i p1 c1
      cases e2
      rw [rd_bytesOf] at hc
      replace p1 := eq_true p1
      replace c1 := eq_true c1
      by_cases c2 : (9223372036854775807 - (((bt a0 i) - 48) % 256)) / 10 < n
      ·rw [if_pos c2] at h
       have c2b : decide ((9223372036854775807 - (((bt a0 i) - 48) % 256)) / 10 < n) = true := decide_eq_true c2
       simp only [Option.some.injEq,Prod.mk.injEq] at h
       obtain ⟨rfl,rfl⟩ := h
       clear c2
       go_wp2
       go_ret2
       exact ⟨rfl,HB.out⟩
      ·rw [if_neg c2] at h
       have c2b : decide ((9223372036854775807 - (((bt a0 i) - 48) % 256)) / 10 < n) = false := decide_eq_false c2
       have HL := am h
       clear h c2
       go_wp2
       go_roundg k1
       case measure => have := HK.out;omega
       case rel => exact ⟨_,_,rfl,rfl,HL,⟨by have := HK.out;omega⟩,HR,HB⟩
     ·rw [if_neg p1] at h
      cases h
    ·rw [if_neg c1] at h
     have c1b : decide (i < (a0.size : Int)) = false := decide_eq_false c1
     simp only [Option.some.injEq,Prod.mk.injEq] at h
     obtain ⟨rfl,rfl⟩ := h
     clear c1
     go_wp2
     go_ret2
     exact ⟨rfl,HB.out⟩
 ·rw [if_neg hz] at h
  cases h
end Go.Proofs.YtgnmdhnlcibbiaaDoor.P
end
section
namespace Go.Proofs
open Go.RowKit Go.Shelf
def Tryd.lays143_ren : Go.Shelf.Ren := ⟨fun | 143 => 98 | 219 => 104 | 217 => 110 | 225 => 111 | 224 => 112 | 267 => 113 | 266 => 116 | 314 => 117 | n => n, fun | 9 => 9 | 3 => 3 | 4 => 4 | 5 => 5 | 46 => 132 | 146 => 140 | 51 => 129 | n => n, fun | 1 => 3 | n => n⟩
theorem Tryd.lays143 : Go.Proofs.Lays.n143 Tryd.prog Tryd.lays143_ren := {
  mixed := by kernel_rfl
  f143 := Tryd.func98.trans (congrArg some (by kernel_rfl))
  f217 := Tryd.func110.trans (congrArg some (by kernel_rfl))
  f219 := Tryd.func104.trans (congrArg some (by kernel_rfl))
  f224 := Tryd.func112.trans (congrArg some (by kernel_rfl))
  f225 := Tryd.func111.trans (congrArg some (by kernel_rfl))
  f266 := Tryd.func116.trans (congrArg some (by kernel_rfl))
  f267 := Tryd.func113.trans (congrArg some (by kernel_rfl))
  f314 := Tryd.func117.trans (congrArg some (by kernel_rfl))
  t3 := Tryd.underlying3
  a3 := Tryd.isAgg3
  z3 := Tryd.sizeOf3
  v3 := Tryd.zeroValue3
  t4 := Tryd.underlying4
  a4 := Tryd.isAgg4
  z4 := Tryd.sizeOf4
  v4 := Tryd.zeroValue4
  t5 := Tryd.underlying5
  a5 := Tryd.isAgg5
  z5 := Tryd.sizeOf5
  v5 := Tryd.zeroValue5
  t9 := Tryd.underlying9
  a9 := Tryd.isAgg9
  z9 := Tryd.sizeOf9
  v9 := Tryd.zeroValue9
  t46 := Tryd.underlying132
  a46 := Tryd.isAgg132
  z46 := Tryd.sizeOf132
  v46 := Tryd.zeroValue132
  t51 := Tryd.underlying129
  a51 := Tryd.isAgg129
  z51 := Tryd.sizeOf129
  v51 := Tryd.zeroValue129
  t146 := Tryd.underlying140
  a146 := Tryd.isAgg140
  z146 := Tryd.sizeOf140
  v146 := Tryd.zeroValue140
  g1 := by kernel_rfl }
end Go.Proofs
namespace Go.Proofs.YtgnmdhnlcibbiaaDoor.P
open Go.RowKit Go.Shelf Go.Proofs.PrintWords Go.Proofs.PrintLast Go.Proofs.PrintMore
attribute [local go_sem] Oper.semAt_some
set_option linter.unusedVariables false
set_option linter.unusedSimpArgs false
def cutsAt (c : UInt8) : Nat → ByteArray → Option (List ByteArray)
 | 0,_ => none
 | k + 1,r => if Lib.indexByte r.data.toList c < 0 then some [r] else if Lib.indexByte r.data.toList c + 1 ≤ r.size ∧ r.size ≤ 9223372036854775807 then (cutsAt c k (r.extract (Lib.indexByte r.data.toList c + 1).toNat r.size)).bind fun l => some (r.extract 0 (Lib.indexByte r.data.toList c).toNat :: l) else none
theorem split_rounds (m l Bp Bs Bv : Nat) (hm : 1 ≤ m) (r0 : ByteArray) (c : UInt8) (k : Nat) (parts : List ByteArray) (hparts : cutsAt c k r0 = some parts) (J Jx : List ByteArray → World → Prop)
  (hJ : ∀ pre A,J pre A → A.cell? ⟨Bp,0,none⟩ = some (.string ⟨#[c]⟩) ∧ A.cell? ⟨Bv,0,none⟩ = some (.int .i64 0) ∧ A.frozen? ⟨Bs,0,none⟩ = false)
  (hJs : ∀ pre A v,J pre A → J pre (A.setCell ⟨Bs,0,none⟩ v))
  (hY : ∀ pre x W1,pre ++ [x] <+: parts → J pre W1 → YieldAt Fence.wide (m - 1) Tryd.prog l #[.string x] W1 fun e W' => (e = .returned (.bool true) ∧ J (pre ++ [x]) W' ∧ W'.cell? ⟨Bs,0,none⟩ = W1.cell? ⟨Bs,0,none⟩) ∨ (e = .returned (.bool false) ∧ Jx (pre ++ [x]) W'))
  (W : World) (h0 : J [] W) (hs : W.cell? ⟨Bs,0,none⟩ = some (.string r0)) :
  CallsIn Fence.wide m Tryd.prog 96 #[.func (.yield l) #[] #[],.pointer (some ⟨Bp,0,none⟩),.pointer (some ⟨Bs,0,none⟩),.pointer (some ⟨Bv,0,none⟩)] W fun e W' => (∃ v,e = .returned v) ∧ (J parts W' ∨ ∃ pre,pre <+: parts ∧ Jx pre W') := by
 refine callsIn_of_wp Tryd.func96 rfl trivial ?_ rfl
 simp only [Tryd.ntmps96,List.size_toArray,List.length_cons,List.length_nil,Nat.reduceAdd,Nat.reduceSub,Array.replicate_succ,Array.replicate_zero,List.push_toArray,List.append_toArray,List.nil_append,List.cons_append]
 obtain ⟨hp,hv,hz⟩ := hJ _ _ h0
 have h00 := h0
 gi_wp2
 clear h0 hp hv hz
 gi_loopg [] k (fun kq wr => ∃ (pre rest : List ByteArray) (r : ByteArray),cutsAt c kq r = some rest ∧ pre ++ rest = parts ∧ J pre wr ∧ wr.cell? ⟨Bs,0,none⟩ = some (.string r))
 case atStart => exact ⟨[],parts,r0,hparts,rfl,h00,hs⟩
 case round =>
  obtain ⟨pre,rest,r,hcut,hcat,hj,hr⟩ := hrel
  obtain ⟨hp,hv,hz⟩ := hJ _ _ hj
  cases gk with
  | zero => cases hcut
  | succ kq =>
  have hcut' := hcut
  unfold cutsAt at hcut
  by_cases hi : Lib.indexByte r.data.toList c < 0
  ·rw [if_pos hi] at hcut
   obtain rfl := Option.some.inj hcut
   obtain ⟨fn,tmps,assign,body,hy,hR⟩ := hY pre r wr (hcat ▸ List.prefix_refl _) hj
   gi_wp2_with (refine ⟨trivial,?_⟩;gi_at_call 98;refine (callsIn_wide.2 (Any.strings_Index_one Tryd.lays143 r c _)).mono ?_;rintro e w' ⟨rfl,rfl⟩)
   refine hR.mono ?_
   rintro e W2 (⟨rfl,hJ2,hk2⟩ | ⟨rfl,hJx2⟩)
   ·gi_wp2
    go_end0
    exact ⟨⟨_,rfl⟩,.inl (hcat ▸ hJ2)⟩
   ·gi_wp2
    go_end0
    exact ⟨⟨_,rfl⟩,.inr ⟨_,hcat ▸ List.prefix_refl _,hJx2⟩⟩
  ·rw [if_neg hi] at hcut
   by_cases h1 : Lib.indexByte r.data.toList c + 1 ≤ r.size ∧ r.size ≤ 9223372036854775807
   ·rw [if_pos h1] at hcut
    obtain ⟨rest',hc2,he⟩ := Option.bind_eq_some_iff.mp hcut
    have he := Option.some.inj he
    subst he
    generalize hix : Lib.indexByte r.data.toList c = i at *
    obtain ⟨h1,h2⟩ := h1
    have hi0 : 0 ≤ i := by omega
    have hi1 : i ≤ r.size := by omega
    have hi2 : 0 ≤ i + 1 := by omega
    have hw0 : wrap64 i = i := by unfold wrap64;omega
    have hw1 : wrap64 (i + 1) = i + 1 := by unfold wrap64;omega
    obtain ⟨fn,tmps,assign,body,hy,hR⟩ := hY pre (r.extract 0 i.toNat) wr ⟨rest',by rw [← hcat,List.append_assoc];rfl⟩ hj
    gi_wp2_with (refine ⟨trivial,?_⟩;gi_at_call 98;refine (callsIn_wide.2 (Any.strings_Index_one Tryd.lays143 r c _)).mono ?_;rintro e w' ⟨rfl,rfl⟩;rw [hix])
    refine hR.mono ?_
    rintro e W2 (⟨rfl,hJ2,hk2⟩ | ⟨rfl,hJx2⟩)
    ·obtain ⟨hp2,hv2,hz2⟩ := hJ _ _ hJ2
     have hr2 := hk2.trans hr
     gi_wp2
     gi_roundg kq
     case measure => omega
     case rel => exact ⟨pre ++ [r.extract 0 i.toNat],rest',r.extract (i + 1).toNat r.size,hc2,by rw [← hcat,List.append_assoc];rfl,hJs _ _ _ hJ2,World.cell?_setCell_same' _ _ _ (by rw [hr2];rfl)⟩
    ·gi_wp2
     refine bodyPost_ret (results_none rfl _ _ _) rfl ?_
     exact ⟨⟨_,rfl⟩,.inr ⟨_,⟨rest',by rw [← hcat,List.append_assoc];rfl⟩,hJx2⟩⟩
   ·rw [if_neg h1] at hcut
    cases hcut
theorem split_begins (s sep : ByteArray) (v : Int) (w : World) : Calls Tryd.prog 91 #[.string s,.string sep,.int .i64 v] w fun e w' =>
  e = .returned (.func (.func 96) #[] #[.pointer (some ⟨w.heap.size + 1,0,none⟩),.pointer (some ⟨w.heap.size,0,none⟩),.pointer (some ⟨w.heap.size + 2,0,none⟩)]) ∧ w' = ((w.alloc (.cells #[.string s] 9)).alloc (.cells #[.string sep] 9)).alloc (.cells #[.int .i64 v] 3) := by
 go_enter Tryd.func91,Tryd.ntmps91
 go_wp2
 go_ret
 exact ⟨by simp,rfl⟩
theorem split_seq (s sep : ByteArray) (w : World) : Calls Tryd.prog 76 #[.string s,.string sep] w fun e w' =>
  e = .returned (.func (.func 96) #[] #[.pointer (some ⟨w.heap.size + 1,0,none⟩),.pointer (some ⟨w.heap.size,0,none⟩),.pointer (some ⟨w.heap.size + 2,0,none⟩)]) ∧ w' = ((w.alloc (.cells #[.string s] 9)).alloc (.cells #[.string sep] 9)).alloc (.cells #[.int .i64 0] 3) := by
 go_enter Tryd.func76,Tryd.ntmps76
 go_wp2_with ((with_reducible refine (split_begins s sep 0 _).mono ?_);rintro e w' ⟨rfl,rfl⟩)
 go_ret
 exact ⟨rfl,rfl⟩
def lexSigns : List ByteArray := [⟨#[60,61]⟩,⟨#[62,61]⟩,⟨#[60,62]⟩,⟨#[43]⟩,⟨#[45]⟩,⟨#[42]⟩,⟨#[47]⟩,⟨#[37]⟩,⟨#[61]⟩,⟨#[60]⟩,⟨#[62]⟩,⟨#[40]⟩,⟨#[41]⟩,⟨#[44]⟩,⟨#[58]⟩,⟨#[59]⟩,⟨#[123]⟩,⟨#[125]⟩,⟨#[91]⟩,⟨#[93]⟩]
def lexSignText : ByteArray := ⟨#[60,61,32,62,61,32,60,62,32,43,32,45,32,42,32,47,32,37,32,61,32,60,32,62,32,40,32,41,32,44,32,58,32,59,32,123,32,125,32,91,32,93]⟩
theorem lexSigns_cut : cutsAt 32 21 lexSignText = some lexSigns := by decide +kernel
def lex_sign.go : List ByteArray → ByteArray → Option ByteArray
 | [],_ => some ⟨#[]⟩
 | x :: xs,a0 => (strings_HasPrefix.f a0 x).bind fun t => if t = true then some x else lex_sign.go xs a0
def lex_sign.f (a0 : ByteArray) : Option ByteArray := lex_sign.go lexSigns a0
structure SF (w0 : World) (a0 res : ByteArray) (sv : Value) (rec : Loop) (W : World) : Prop where
 h0 : W.heap[w0.heap.size]? = some (.cells #[.string a0] 9)
 h1 : W.heap[w0.heap.size + 1]? = some (.cells #[.string res] 9)
 h2 : W.heap[w0.heap.size + 2]? = some (.cells #[sv] 9)
 h3 : W.heap[w0.heap.size + 3]? = some (.cells #[.string ⟨#[32]⟩] 9)
 h4 : W.heap[w0.heap.size + 4]? = some (.cells #[.int .i64 0] 3)
 h5 : W.heap[w0.heap.size + 5]? = some (.deferred (some []))
 h6 : W.heap[w0.heap.size + 6]? = some (.loop rec)
 hb : Below w0.heap.size w0 W
theorem cell_of_one {W : World} {g t : Nat} {v : Value} (h : W.heap[g]? = some (.cells #[v] t)) : W.cell? ⟨g,0,none⟩ = some v := by simp [World.cell?,h]
theorem frozen_of_one {W : World} {g t : Nat} {v : Value} (h : W.heap[g]? = some (.cells #[v] t)) : W.frozen? ⟨g,0,none⟩ = false := by simp [World.frozen?,h]
theorem one_set {W : World} {g t : Nat} {u : Value} (h : W.heap[g]? = some (.cells #[u] t)) (v : Value) : (W.setCell ⟨g,0,none⟩ v).heap[g]? = some (.cells #[v] t) := by
 have hl := (Array.getElem?_eq_some_iff.1 h).1
 have he := (Array.getElem?_eq_some_iff.1 h).2
 simp only [World.setCell,Array.getElem?_modify,h,if_true,Option.map_some,he]
 rfl
section
variable {w0 W : World} {a0 res : ByteArray} {sv : Value} {rec : Loop}
theorem SF.setS (h : SF w0 a0 res sv rec W) (v : Value) : SF w0 a0 res v rec (W.setCell ⟨w0.heap.size + 2,0,none⟩ v) := by
 have o : ∀ k,k ≠ w0.heap.size + 2 → (W.setCell ⟨w0.heap.size + 2,0,none⟩ v).heap[k]? = W.heap[k]? := fun k hk => Go.Deep.blk_setCell_other _ _ _ _ hk
 exact ⟨(o _ (by omega)).trans h.h0,(o _ (by omega)).trans h.h1,one_set h.h2 v,(o _ (by omega)).trans h.h3,(o _ (by omega)).trans h.h4,(o _ (by omega)).trans h.h5,(o _ (by omega)).trans h.h6,h.hb.setCell (p := ⟨_,0,none⟩) (by simp) _⟩
theorem SF.setR (h : SF w0 a0 res sv rec W) (r : ByteArray) : SF w0 a0 r sv rec (W.setCell ⟨w0.heap.size + 1,0,none⟩ (.string r)) := by
 have o : ∀ k,k ≠ w0.heap.size + 1 → (W.setCell ⟨w0.heap.size + 1,0,none⟩ (.string r)).heap[k]? = W.heap[k]? := fun k hk => Go.Deep.blk_setCell_other _ _ _ _ hk
 exact ⟨(o _ (by omega)).trans h.h0,one_set h.h1 _,(o _ (by omega)).trans h.h2,(o _ (by omega)).trans h.h3,(o _ (by omega)).trans h.h4,(o _ (by omega)).trans h.h5,(o _ (by omega)).trans h.h6,h.hb.setCell (p := ⟨_,0,none⟩) (by simp) _⟩
theorem SF.put (h : SF w0 a0 res sv rec W) (rec' : Loop) : SF w0 a0 res sv rec' (W.putObj (w0.heap.size + 6) (.loop rec')) := by
 have hl := (Array.getElem?_eq_some_iff.1 h.h6).1
 have o : ∀ k,k ≠ w0.heap.size + 6 → (W.putObj (w0.heap.size + 6) (.loop rec')).heap[k]? = W.heap[k]? := fun k hk => World.putObj_heap_other hk
 exact ⟨(o _ (by omega)).trans h.h0,(o _ (by omega)).trans h.h1,(o _ (by omega)).trans h.h2,(o _ (by omega)).trans h.h3,(o _ (by omega)).trans h.h4,(o _ (by omega)).trans h.h5,World.putObj_heap_same hl,h.hb.trans (belowK_b (w := w0) (Nat.le_refl _) W _ _ _ (by omega) h.h6 rfl rfl)⟩
theorem SF.drewN (h : SF w0 a0 res sv rec W) (n : Nat) : SF w0 a0 res sv rec (W.drewN n) := by
 have e : (W.drewN n).heap = W.heap := by
  induction n with
  | zero => rfl
  | succ n ih => exact ih
 exact ⟨e ▸ h.h0,e ▸ h.h1,e ▸ h.h2,e ▸ h.h3,e ▸ h.h4,e ▸ h.h5,e ▸ h.h6,pw_below_drewN h.hb n⟩
end
theorem range_signs {n : Nat} (hn : 3 ≤ n) {g : Operand} {p : Tmp} {assign body : Code} {Q : Exit → Act → World → Prop} {a : Act} {w0 X : World} {a0 r : ByteArray}
  (hg : a.eval g = .func (.func 96) #[] #[.pointer (some ⟨w0.heap.size + 3,0,none⟩),.pointer (some ⟨w0.heap.size + 2,0,none⟩),.pointer (some ⟨w0.heap.size + 4,0,none⟩)])
  (hX : X = ((((w0.alloc (.cells #[.string a0] 9)).alloc (.cells #[.string ⟨#[]⟩] 9)).alloc (.cells #[.string lexSignText] 9)).alloc (.cells #[.string ⟨#[32]⟩] 9)).alloc (.cells #[.int .i64 0] 3))
  (h : lex_sign.f a0 = some r) (a₁ : ByteArray → Act)
  (hassign : ∀ (l : Nat) (x : ByteArray) (W : World) (K : Act → World → Prop),K (a₁ x) W → assign.wpIn (Fence.wide.inRound l) (n - 1 - 1) Tryd.prog (Exit.then K (fun _ _ _ => False)) { tmps := a.tmps.setIfInBounds p (.string x),defers := [] } W)
  (hbody : ∀ (l : Nat) (sv : Value) (rec : Loop) (x : ByteArray) (t : Bool) (W : World),SF w0 a0 ⟨#[]⟩ sv rec W → strings_HasPrefix.f a0 x = some t → body.wpIn (Fence.wide.inRound l) (n - 1 - 1) Tryd.prog (fun e _ W' => (t = false ∧ e = .normal ∧ SF w0 a0 ⟨#[]⟩ sv rec W') ∨ (t = true ∧ e = .ret ∧ SF w0 a0 x sv rec W')) (a₁ x) W)
  (hdone : ∀ (sv : Value) (rec : Loop) (W : World),SF w0 a0 ⟨#[]⟩ sv rec W → r = ⟨#[]⟩ → Q .normal { a with defers := { target := .collected (w0.heap.size + 5),args := #[] } :: a.defers } W)
  (hstop : ∀ (sv : Value) (rec : Loop) (W : World),SF w0 a0 r sv rec W → Code.ret.wpIn Fence.wide n Tryd.prog Q { a with defers := { target := .collected (w0.heap.size + 5),args := #[] } :: a.defers } W) :
  (Code.rangeFunc g #[p] assign body).wpIn Fence.wide n Tryd.prog Q a X := by
 have hs : X.heap.size = w0.heap.size + 5 := by rw [hX];simp
 refine wpIn_rangeFunc ?_
 intro fn hfn
 obtain ⟨rec,hrec⟩ : ∃ rec : LoopState → Option Code → Loop,rec = fun st pe => { state := st,pending := pe,fn,tmps := a.tmps,params := #[p],assign,body,defers := w0.heap.size + 5 } := ⟨_,rfl⟩
 obtain ⟨W1,hW1⟩ : ∃ W1,(X.alloc (.deferred (some []))).alloc (.loop (rec .ready none)) = W1 := ⟨_,rfl⟩
 have hS : SF w0 a0 ⟨#[]⟩ (.string lexSignText) (rec .ready none) W1 := by
  have e : W1.heap = (((((((w0.heap.push (.cells #[.string a0] 9)).push (.cells #[.string ⟨#[]⟩] 9)).push (.cells #[.string lexSignText] 9)).push (.cells #[.string ⟨#[32]⟩] 9)).push (.cells #[.int .i64 0] 3)).push (.deferred (some []))).push (.loop (rec .ready none))) := by rw [← hW1,hX];rfl
  refine ⟨?_,?_,?_,?_,?_,?_,?_,?_⟩
  ·rw [e];simp only [Array.getElem?_push,Array.size_push];repeat (first | rw [if_neg (by omega)] | rw [if_pos rfl] | rw [if_pos trivial])
  ·rw [e];simp only [Array.getElem?_push,Array.size_push];repeat (first | rw [if_neg (by omega)] | rw [if_pos rfl] | rw [if_pos trivial])
  ·rw [e];simp only [Array.getElem?_push,Array.size_push];repeat (first | rw [if_neg (by omega)] | rw [if_pos rfl] | rw [if_pos trivial])
  ·rw [e];simp only [Array.getElem?_push,Array.size_push];repeat (first | rw [if_neg (by omega)] | rw [if_pos rfl] | rw [if_pos trivial])
  ·rw [e];simp only [Array.getElem?_push,Array.size_push];repeat (first | rw [if_neg (by omega)] | rw [if_pos rfl] | rw [if_pos trivial])
  ·rw [e];simp only [Array.getElem?_push,Array.size_push];repeat (first | rw [if_neg (by omega)] | rw [if_pos rfl] | rw [if_pos trivial])
  ·rw [e];simp only [Array.getElem?_push,Array.size_push];repeat (first | rw [if_neg (by omega)] | rw [if_pos rfl] | rw [if_pos trivial])
  ·rw [← hW1,hX]
   exact (((((((Below.refl w0.heap.size w0).alloc (by simp) _).alloc (by simp) _).alloc (by simp;omega) _).alloc (by simp;omega) _).alloc (by simp;omega) _).alloc (by simp;omega) _).alloc (by simp;omega) _
 refine ⟨w0.heap.size + 6,[{ target := .collected (w0.heap.size + 5),args := #[] }],W1,{ target := .fn (.func 96) #[.pointer (some ⟨w0.heap.size + 3,0,none⟩),.pointer (some ⟨w0.heap.size + 2,0,none⟩),.pointer (some ⟨w0.heap.size + 4,0,none⟩)],args := #[.func (.yield (w0.heap.size + 6)) #[] #[]] },W1,96,#[.func (.yield (w0.heap.size + 6)) #[] #[]] ++ #[.pointer (some ⟨w0.heap.size + 3,0,none⟩),.pointer (some ⟨w0.heap.size + 2,0,none⟩),.pointer (some ⟨w0.heap.size + 4,0,none⟩)],W1,?_,?_,?_,?_,?_,?_⟩
 ·have := run_enterLoop_outer (P := Tryd.prog) (w := X) fn a.tmps #[p] assign body
  rw [hs] at this
  rw [← hW1,hrec]
  exact this
 ·simp only [resolve,hg]
  simp [go_sem]
 ·intro f' hf'
  trivial
 ·have e96 : ∀ args w,(callFunc 96 args).run Tryd.prog w = .ok (.enter 96 args) w := enters_of Tryd.func96 (by kernel_rfl) rfl
  simp [invoke,go_sem,e96]
 ·intro hd
  omega
 ·refine (split_rounds (n - 1) (w0.heap.size + 6) (w0.heap.size + 3) (w0.heap.size + 2) (w0.heap.size + 4) (by omega) lexSignText 32 21 lexSigns lexSigns_cut
   (fun pre W => (∃ rest,pre ++ rest = lexSigns ∧ lex_sign.go rest a0 = some r) ∧ ∃ sv,SF w0 a0 ⟨#[]⟩ sv (rec .ready none) W)
   (fun pre W => ∃ sv,SF w0 a0 r sv (rec .done (some .ret)) W)
   (fun pre A ⟨_,_,hA⟩ => ⟨cell_of_one hA.h3,cell_of_one hA.h4,frozen_of_one hA.h2⟩)
   (fun pre A v ⟨h1,_,hA⟩ => ⟨h1,_,hA.setS v⟩) ?_ W1 ⟨⟨lexSigns,rfl,h⟩,_,hS⟩ (cell_of_one hS.h2)).mono ?_
  ·rintro pre x W ⟨tl,htl⟩ ⟨⟨rest,hrest,hgo⟩,sv,hW⟩
   have hr : rest = x :: tl := by
    have := hrest.trans htl.symm
    rw [List.append_assoc] at this
    exact List.append_cancel_left this
   subst hr
   obtain ⟨t,ht,hgo⟩ := Option.bind_eq_some_iff.mp hgo
   have hy := run_yield (P := Tryd.prog) (args := (#[.string x] : Array Value)) hW.h6 (by rw [hrec];rfl)
   rw [hrec] at hy
   refine ⟨fn,a.tmps.setIfInBounds p (.string x),assign,body,by simpa using hy,roundIn_of_wpIn trivial (hassign _ x W _ ?_)⟩
   refine ⟨_,run_beginRound hW.h6 (by rw [hrec]),?_⟩
   refine wpIn_mono (hbody _ _ _ x t _ (hW.put _) ht) ?_
   rintro e a3 W3 (⟨rfl,rfl,h3⟩ | ⟨rfl,rfl,h3⟩)
   ·have he := run_endRound (P := Tryd.prog) none h3.h6
    refine ⟨_,_,he,.inl ⟨rfl,⟨⟨tl,by rw [← hrest,List.append_assoc];rfl,hgo⟩,sv,?_⟩,(cell_of_one (h3.put _).h2).trans (cell_of_one hW.h2).symm⟩⟩
    ·have := h3.put (rec .ready none)
     rw [hrec] at this ⊢
     exact this
   ·have he := run_endRound (P := Tryd.prog) (some .ret) h3.h6
    obtain rfl := Option.some.inj hgo
    refine ⟨_,_,he,.inr ⟨rfl,sv,?_⟩⟩
    have := h3.put (rec .done (some .ret))
    rw [hrec] at this ⊢
    exact this
  ·rintro e W2 ⟨⟨v,rfl⟩,⟨⟨rest,hrest,hgo⟩,sv,hW⟩ | ⟨pre,_,sv,hW⟩⟩
   ·have hr : rest = [] := by
     have := congrArg List.length hrest
     rw [List.length_append] at this
     exact List.eq_nil_of_length_eq_zero (by omega)
    subst hr
    have he := run_endLoop (P := Tryd.prog) hW.h6 (by rw [hrec];simp)
    rw [hrec] at he
    exact ⟨none,_,he,hdone _ _ _ (hW.put _) (Option.some.inj hgo).symm⟩
   ·have he := run_endLoop (P := Tryd.prog) hW.h6 (by rw [hrec];simp)
    rw [hrec] at he
    exact ⟨some .ret,_,he,hstop _ _ _ (hW.put _)⟩
theorem lex_sign.calls (a0 r : ByteArray) (w : World) (h : lex_sign.f a0 = some r) :
  Calls Tryd.prog 49 #[.string a0] w fun e w' => e = .returned (.string r) ∧ Below w.heap.size w w' := by
 refine (callsIn_wide (n := 4)).1 ?_
 refine callsIn_of_wp_marks Tryd.func49 rfl trivial ?_ rfl
 simp only [Tryd.ntmps49,List.size_toArray,List.length_cons,List.length_nil,Nat.reduceAdd,Nat.reduceSub,Array.replicate_succ,Array.replicate_zero,List.push_toArray,List.append_toArray,List.nil_append,List.cons_append]
 gi_wp2_with (refine ⟨trivial,?_⟩;gi_at_call 76;refine (callsIn_wide.2 (split_seq _ _ _)).mono ?_;rintro e w' ⟨rfl,rfl⟩)
 refine range_signs (w0 := w) (a0 := a0) (r := r) (by omega) rfl rfl h
  (fun x => { tmps := #[.string a0,.pointer (some ⟨w.heap.size,0,none⟩),.pointer (some ⟨w.heap.size + 1,0,none⟩),.string x,.func (.func 96) #[] #[.pointer (some ⟨w.heap.size + 1 + 1 + 1,0,none⟩),.pointer (some ⟨w.heap.size + 1 + 1,0,none⟩),.pointer (some ⟨w.heap.size + 1 + 1 + 2,0,none⟩)],.string x,undef,undef,undef,undef],defers := [] }) ?assign ?body ?done ?stop
 case assign =>
  intro l x W K hK
  gi_wp2
  exact hK
 case body =>
  intro l sv rec x t W hW ht
  have hc0 := cell_of_one hW.h0
  have hc1 := cell_of_one hW.h1
  have hf1 := frozen_of_one hW.h1
  gi_wp2_with (refine ⟨trivial,?_⟩;gi_at_call 77;refine (CallsIn.inRound l (callsIn_wide.2 (strings_HasPrefix.calls a0 x t _ ht))).mono ?_;rintro e w' ⟨rfl,⟨nq,rfl⟩⟩)
  ·exact (hW.drewN nq).setR x
  ·exact hW.drewN nq
 case done =>
  intro sv rec W hW hr
  have hc1 := cell_of_one hW.h1
  have hf1 := frozen_of_one hW.h1
  gi_wp2
  have hW2 := hW.setR ⟨#[]⟩
  refine ⟨by simp,.inl ⟨_,_,rfl,run_takeDeferred hW2.h5,?_⟩⟩
  have hc5 : ((W.setCell ⟨w.heap.size + 1,0,none⟩ (.string ⟨#[]⟩)).putObj (w.heap.size + 5) (.deferred none)).cell? ⟨w.heap.size + 1,0,none⟩ = some (.string ⟨#[]⟩) := cell_of_one ((World.putObj_heap_other (by omega)).trans hW2.h1)
  refine ⟨.string ⟨#[]⟩,?_,by rw [hr],hW2.hb.trans (belowK_b (w := w) (Nat.le_refl _) _ _ _ _ (by omega) hW2.h5 rfl rfl)⟩
  simp [results,Tryd.f49,go_sem,hc5]
 case stop =>
  intro sv rec W hW
  gi_wp2
  refine ⟨by simp,.inl ⟨_,_,rfl,run_takeDeferred hW.h5,?_⟩⟩
  have hc5 : (W.putObj (w.heap.size + 5) (.deferred none)).cell? ⟨w.heap.size + 1,0,none⟩ = some (.string r) := cell_of_one ((World.putObj_heap_other (by omega)).trans hW.h1)
  refine ⟨.string r,?_,rfl,hW.hb.trans (belowK_b (w := w) (Nat.le_refl _) _ _ _ _ (by omega) hW.h5 rfl rfl)⟩
  simp [results,Tryd.f49,go_sem,hc5]
end Go.Proofs.YtgnmdhnlcibbiaaDoor.P
end
section
namespace Go.Proofs.YtgnmdhnlcibbiaaDoor.P
open Go.RowKit Go.Proofs.PrintWords Go.Proofs.PrintLast Go.Proofs.PrintMore
attribute [local go_sem] max2_int min2_int max_two min_two max_three min_three max_four min_four
set_option linter.unusedVariables false
set_option linter.unusedSimpArgs false
theorem info63 : (Tryd.prog.info? 63).map (fun i => (i.zero,i.size,i.bytes)) = some (some (.agg #[(.int .i64 0),(.int .i64 0),(.string ⟨#[]⟩),(.int .i64 0)]),4,40) := by kernel_rfl
def lex_Cut.l0 : Nat → ByteArray → List (S63) → Int → Option ((List (S63)) × Int × Int)
 | 0,_,_,_ => none
 | k + 1,x0,x5,x6 => if x6 < (x0.size : Int) then (if 0 ≤ x6 then (if x6 ≤ (x0.size : Int) then (if 0 < ((x0.extract (x6 : Int).toNat x0.size).size : Int) then ((lex_space.f (bt (x0.extract (x6 : Int).toNat x0.size) 0)).bind fun t204 => (if t204 = true then ((lex_span42.f (x0.extract (x6 : Int).toNat x0.size)).bind fun t205 => (lex_Cut.l0 k x0 x5 (wrap64 (x6 + t205)))) else (if (bt (x0.extract (x6 : Int).toNat x0.size) 0) = 35 then ((lex_span44.f (x0.extract (x6 : Int).toNat x0.size)).bind fun t206 => (lex_Cut.l0 k x0 x5 (wrap64 (x6 + t206)))) else ((lex_digit.f (bt (x0.extract (x6 : Int).toNat x0.size) 0)).bind fun t207 => (if t207 = true then ((lex_span45.f (x0.extract (x6 : Int).toNat x0.size)).bind fun t208 => (if 0 ≤ t208 then (if t208 ≤ ((x0.extract (x6 : Int).toNat x0.size).size : Int) then ((lex_number.f ((x0.extract (x6 : Int).toNat x0.size).extract 0 (t208 : Int).toNat)).bind fun bt209 => (if bt209.2 = true then (if 1 = 1 then (if x5.length < 3518437208883 then (lex_Cut.l0 k x0 (x5 ++ [(⟨1,bt209.1,(⟨#[]⟩ : ByteArray),x6⟩ : S63)]) (wrap64 (x6 + (((x0.extract (x6 : Int).toNat x0.size).extract 0 (t208 : Int).toNat).size : Int)))) else (none)) else (if x5.length < 3518437208883 then (lex_Cut.l0 k x0 (x5 ++ [(⟨1,bt209.1,(x0.extract (x6 : Int).toNat x0.size).extract 0 (t208 : Int).toNat,x6⟩ : S63)]) (wrap64 (x6 + (((x0.extract (x6 : Int).toNat x0.size).extract 0 (t208 : Int).toNat).size : Int)))) else (none))) else (some (([] : List (S63)),x6,6)))) else (none)) else (none))) else ((lex_letter.f (bt (x0.extract (x6 : Int).toNat x0.size) 0)).bind fun t217 => (if t217 = true then ((lex_span48.f (x0.extract (x6 : Int).toNat x0.size)).bind fun t218 => (if 0 ≤ t218 then (if t218 ≤ ((x0.extract (x6 : Int).toNat x0.size).size : Int) then (if 2 = 1 then (if x5.length < 3518437208883 then (lex_Cut.l0 k x0 (x5 ++ [(⟨2,0,(⟨#[]⟩ : ByteArray),x6⟩ : S63)]) (wrap64 (x6 + (((x0.extract (x6 : Int).toNat x0.size).extract 0 (t218 : Int).toNat).size : Int)))) else (none)) else (if x5.length < 3518437208883 then (lex_Cut.l0 k x0 (x5 ++ [(⟨2,0,(x0.extract (x6 : Int).toNat x0.size).extract 0 (t218 : Int).toNat,x6⟩ : S63)]) (wrap64 (x6 + (((x0.extract (x6 : Int).toNat x0.size).extract 0 (t218 : Int).toNat).size : Int)))) else (none))) else (none)) else (none))) else ((lex_sign.f (x0.extract (x6 : Int).toNat x0.size)).bind fun t225 => (if t225.toList = ([] : List UInt8) then (some (([] : List (S63)),x6,2)) else (if 3 = 1 then (if x5.length < 3518437208883 then (lex_Cut.l0 k x0 (x5 ++ [(⟨3,0,(⟨#[]⟩ : ByteArray),x6⟩ : S63)]) (wrap64 (x6 + (t225.size : Int)))) else (none)) else (if x5.length < 3518437208883 then (lex_Cut.l0 k x0 (x5 ++ [(⟨3,0,t225,x6⟩ : S63)]) (wrap64 (x6 + (t225.size : Int)))) else (none)))))))))))) else (none)) else (none)) else (none)) else (some (x5,0,0))
def lex_Cut.f (k : Nat) (a0 : ByteArray) : Option ((List (S63)) × Int × Int) := if (a0.size : Int) > 4096 then (some (([] : List (S63)),0,1)) else (lex_Cut.l0 k a0 ([] : List (S63)) 0)
def lex_Cut.T17 : Bool × List (List Nat × List Nat) := (true,[([],[]),([],[]),([1],[1]),([0,2],[0,2]),([],[]),([4,2],[4]),([0,1,2,3,4,5],[]),([6,3,5,0,1,2,3,4,5],[3,6])])
def lex_Cut.B17 : List Nat := [0,0,2,7,0,22,63,127]
theorem lex_Cut.tab17 : rtab .any (opsOf Tryd.f22 17) = lex_Cut.T17 := by kernel_rfl
theorem lex_Cut.bits17 : waitsOk lex_Cut.T17.2 lex_Cut.B17 = true := by kernel_rfl
def lex_Cut.T23 : Bool × List (List Nat × List Nat) := (true,[([],[]),([],[]),([1],[1]),([0,2],[0,2]),([],[]),([4,2],[4]),([0,1,2,3,4,5],[]),([6,3,5,0,1,2,3,4,5],[3,6])])
def lex_Cut.B23 : List Nat := [0,0,2,7,0,22,63,127]
theorem lex_Cut.tab23 : rtab .any (opsOf Tryd.f22 23) = lex_Cut.T23 := by kernel_rfl
theorem lex_Cut.bits23 : waitsOk lex_Cut.T23.2 lex_Cut.B23 = true := by kernel_rfl
theorem lex_Cut.calls (k : Nat) (a0 : ByteArray) (r1 : List (S63)) (r2 : Int) (r3 : Int) (w : World) (h : lex_Cut.f k a0 = some (r1,r2,r3)) :
  Calls Tryd.prog 22 #[.string a0] w fun e w' => ∃ v0_ : Value,e = .returned (.tuple #[v0_,.int .i64 r2,.int .i64 r3]) ∧ Kd.R k63 63 w' w.heap.size (fun _ => True) v0_ r1 ∧ Below w.heap.size w w' := by
 have zfF := Tryd.underlying63
 have HB := am (Below.refl w.heap.size w)
 have H : (if (a0.size : Int) > 4096 then (some (([] : List (S63)),0,1)) else (lex_Cut.l0 k a0 ([] : List (S63)) 0)) = some (r1,r2,r3) := h
 clear h
 by_cases c2 : (a0.size : Int) > 4096
 ·rw [if_pos c2] at H
  have zfb : decide (4096 < (a0.size : Int)) = true := decide_eq_true c2
  have c2b1 : decide (4096 < a0.size) = true := decide_eq_true (by omega)
  clear c2
  simp only [Option.some.injEq,Prod.mk.injEq] at H
  obtain ⟨rfl,rfl,rfl⟩ := H
  go_enter Tryd.func22,Tryd.ntmps22
  go_wp2
  go_ret3
  exact ⟨_,by first | rfl | (simp [errW_none,errW_some] <;> rfl) | (simp [*,errW_none,errW_some] <;> rfl),by first | exact Kd.R_nil _ _ _ _ _ | exact Kd.N_nil _ _ _ _ _ | exact Kd.V_nil _ _ _ _ _ | exact Kd.Q_nil _ _ _ _ _ | exact Kd.S_nil _ _ _ _ _,by repeat (first | (with_reducible first | exact HB.out | apply below_alloc | apply pw_below_drewN | apply below_drew1) | exact HB.out)⟩
 ·rw [if_neg c2] at H
  have zfb : decide (4096 < (a0.size : Int)) = false := decide_eq_false c2
  have c2b1 : decide (4096 < a0.size) = false := decide_eq_false (by omega)
  clear c2
  have H' := am H
  clear H
  go_enter Tryd.func22,Tryd.ntmps22
  go_wp2
  go_loopg [5,6] k (fun kq v5 v6 w' => ∃ (x5_1 : List (S63)) (x6_1 : Int),v6 = .int .i64 x6_1 ∧ Aside0 (lex_Cut.l0 kq a0 x5_1 x6_1 = some (r1,r2,r3)) ∧ Aside0 (kq ≤ k) ∧ Aside0 (Kd.R k63 63 w' w.heap.size (fun _ => True) v5 x5_1) ∧ Aside0 (Below w.heap.size w w'))
  case atStart => exact ⟨(([] : List (S63))),(0),(by first | rfl | (simp;done) | (simp [*];done)),H',⟨Nat.le_refl _⟩,⟨by first | exact Kd.R_nil _ _ _ _ _ | exact Kd.N_nil _ _ _ _ _ | exact Kd.V_nil _ _ _ _ _ | exact Kd.Q_nil _ _ _ _ _ | exact Kd.S_nil _ _ _ _ _⟩,⟨by repeat (first | (with_reducible first | exact HB.out | apply below_alloc | apply pw_below_drewN | apply below_drew1) | exact HB.out)⟩⟩
  case round =>
   clear H'
   try clear c2
   try clear zfb
   try clear c2b1
   try clear p2
   obtain ⟨x5_1,x6_1,rfl,HA,HK1,zbF,HB⟩ := hrel
   cases gk with
   | zero => exact absurd HA.out (by simp [lex_Cut.l0])
   | succ k1 =>
    have H := HA.out
    clear HA
    simp only [lex_Cut.l0] at H
    obtain ⟨rs,hrs⟩ : ∃ rs,a0.extract (x6_1 : Int).toNat a0.size = rs := ⟨_,rfl⟩
    simp only [hrs] at H
    by_cases c3 : x6_1 < (a0.size : Int)
    ·rw [if_pos c3] at H
     have zes : decide (x6_1 < (a0.size : Int)) = true := decide_eq_true c3
     clear c3
     by_cases c4 : 0 ≤ x6_1
     ·rw [if_pos c4] at H
      have c4b0 := eq_true c4
      have c4b1 : decide (0 ≤ x6_1) = true := decide_eq_true c4
      clear c4
      by_cases c5 : x6_1 ≤ (a0.size : Int)
      ·rw [if_pos c5] at H
       have zgH := eq_true c5
       have c5b1 : decide (x6_1 ≤ (a0.size : Int)) = true := decide_eq_true c5
       clear c5
       by_cases c6 : 0 < (rs.size : Int)
       ·rw [if_pos c6] at H
        have c6b0 : decide (0 < (rs.size : Int)) = true := decide_eq_true c6
        have c6b1 : decide (0 < rs.size) = true := decide_eq_true (by omega)
        clear c6
        replace H := Option.bind_eq_some_iff.mp H
        obtain ⟨t204,A80,H⟩ := H
        replace H : (if t204 = true then ((lex_span42.f rs).bind fun t205 => (lex_Cut.l0 k1 a0 x5_1 (wrap64 (x6_1 + t205)))) else (if (bt rs 0) = 35 then ((lex_span44.f rs).bind fun t206 => (lex_Cut.l0 k1 a0 x5_1 (wrap64 (x6_1 + t206)))) else ((lex_digit.f (bt rs 0)).bind fun t207 => (if t207 = true then ((lex_span45.f rs).bind fun t208 => (if 0 ≤ t208 then (if t208 ≤ (rs.size : Int) then ((lex_number.f (rs.extract 0 (t208 : Int).toNat)).bind fun bt209 => (if bt209.2 = true then (if 1 = 1 then (if x5_1.length < 3518437208883 then (lex_Cut.l0 k1 a0 (x5_1 ++ [(⟨1,bt209.1,(⟨#[]⟩ : ByteArray),x6_1⟩ : S63)]) (wrap64 (x6_1 + ((rs.extract 0 (t208 : Int).toNat).size : Int)))) else (none)) else (if x5_1.length < 3518437208883 then (lex_Cut.l0 k1 a0 (x5_1 ++ [(⟨1,bt209.1,rs.extract 0 (t208 : Int).toNat,x6_1⟩ : S63)]) (wrap64 (x6_1 + ((rs.extract 0 (t208 : Int).toNat).size : Int)))) else (none))) else (some (([] : List (S63)),x6_1,6)))) else (none)) else (none))) else ((lex_letter.f (bt rs 0)).bind fun t217 => (if t217 = true then ((lex_span48.f rs).bind fun t218 => (if 0 ≤ t218 then (if t218 ≤ (rs.size : Int) then (if 2 = 1 then (if x5_1.length < 3518437208883 then (lex_Cut.l0 k1 a0 (x5_1 ++ [(⟨2,0,(⟨#[]⟩ : ByteArray),x6_1⟩ : S63)]) (wrap64 (x6_1 + ((rs.extract 0 (t218 : Int).toNat).size : Int)))) else (none)) else (if x5_1.length < 3518437208883 then (lex_Cut.l0 k1 a0 (x5_1 ++ [(⟨2,0,rs.extract 0 (t218 : Int).toNat,x6_1⟩ : S63)]) (wrap64 (x6_1 + ((rs.extract 0 (t218 : Int).toNat).size : Int)))) else (none))) else (none)) else (none))) else ((lex_sign.f rs).bind fun t225 => (if t225.toList = ([] : List UInt8) then (some (([] : List (S63)),x6_1,2)) else (if 3 = 1 then (if x5_1.length < 3518437208883 then (lex_Cut.l0 k1 a0 (x5_1 ++ [(⟨3,0,(⟨#[]⟩ : ByteArray),x6_1⟩ : S63)]) (wrap64 (x6_1 + (t225.size : Int)))) else (none)) else (if x5_1.length < 3518437208883 then (lex_Cut.l0 k1 a0 (x5_1 ++ [(⟨3,0,t225,x6_1⟩ : S63)]) (wrap64 (x6_1 + (t225.size : Int)))) else (none))))))))))) = some (r1,r2,r3) := H
        have A8 := am A80
        clear A80
        by_cases c9 : t204 = true
        ·subst c9
         have H1 : ((lex_span42.f rs).bind fun t205 => (lex_Cut.l0 k1 a0 x5_1 (wrap64 (x6_1 + t205)))) = some (r1,r2,r3) := by rw [if_pos rfl] at H;exact H
         clear H
         have H := H1
         clear H1
         replace H := Option.bind_eq_some_iff.mp H
         obtain ⟨t205,A100,H⟩ := H
         replace H : (lex_Cut.l0 k1 a0 x5_1 (wrap64 (x6_1 + t205))) = some (r1,r2,r3) := H
         have A10 := am A100
         clear A100
         have H' := am H
         clear H
         go_wp2_with (first | ((with_reducible refine gate_dst (N := 8) rfl ?_);refine box_event ?hg (N := 8) ?hd (cs := #[.int .i64 0,.int .i64 0,.string (⟨#[]⟩ : ByteArray),.int .i64 0]) (t := 63) ?hr ?_;(case hd => rfl);(case hg => rfl);(case hr => first | (go_simp;done) | (go_simp;rfl));intro gb203 hg w11 zan hb;have n0_ := am (Kd.R_below (Kd.R_elderB (by (with_reducible repeat (first | apply Kd.R_alloc | apply Kd.R_drewN | apply Kd.R_drew));exact zbF.out) gb203 (Nat.le_of_eq hg.symm)) hb);have n1_ := am (below_step (by repeat (first | (with_reducible first | exact HB.out | apply below_alloc | apply pw_below_drewN | apply below_drew1) | exact HB.out)) hb);have n2_ := am (zan);have n3_ := am ((by rw [hg];exact (below_size (by repeat (first | (with_reducible first | exact HB.out | apply below_alloc | apply pw_below_drewN | apply below_drew1) | exact HB.out))) : w.heap.size ≤ gb203));have n4_ := am ((by rw [hg];exact (below_size (by repeat (first | (with_reducible first | exact HB.out | apply below_alloc | apply pw_below_drewN | apply below_drew1) | exact HB.out))) : w.heap.size ≤ gb203));clear zbF;clear HB;have zbF := n0_;have HB := n1_;have zar := n2_;have zgv := n3_;have zbV := n4_;clear n0_ n1_ n2_ n3_ n4_;clear hb zan hg;have zfg : w11.cell? ⟨gb203,0,none⟩ = some (.int .i64 0) := (blk_cell zar.out 0).trans rfl;have zfh : w11.cell? ⟨gb203,1,none⟩ = some (.int .i64 0) := (blk_cell zar.out 1).trans rfl;have zfi : w11.cell? ⟨gb203,2,none⟩ = some (.string (⟨#[]⟩ : ByteArray)) := (blk_cell zar.out 2).trans rfl;have hcz12_3 : w11.cell? ⟨gb203,3,none⟩ = some (.int .i64 0) := (blk_cell zar.out 3).trans rfl;have zfj := blk_frozen zar.out 0;have zfk := blk_frozen zar.out 1;have zfl := blk_frozen zar.out 2;have hfz12_3 := blk_frozen zar.out 3;have p7 : 0 ≤ (0 : Int) := (by omega);have q7 : 0 < rs.size := (by have : (0 : Int) < (rs.size : Int) := of_decide_eq_true (by first | (with_reducible assumption) | assumption);omega);have hx7 : ∀ h : 0 < rs.size,((rs[0]'h).toNat : Int) = bt rs 0 := bt_at rs 0;clear p7;have qi7 : (0 < (rs.size : Int)) = True := eq_true (of_decide_eq_true (by first | (with_reducible assumption) | assumption));replace q7 := eq_true q7) | ((with_reducible refine gate_callee (f := 42) rfl ?_);refine goesL_ (some 36) rfl rfl Tryd.func42 (by kernel_rfl) rfl #[.int .u8 (bt rs 0)] rfl (by (try simp only [List.map_toArray,List.map_cons,List.map_nil]);first | done | rfl | (simp only [List.length_drop,List.length_take];rfl)) ?_;(with_reducible refine (lex_space.calls (bt rs 0) true _ A8.out).mono ?_);rintro e w' ⟨rfl,⟨nd,rfl⟩⟩;refine ⟨_,rfl,?_⟩) | ((with_reducible refine gate_callee (f := 43) rfl ?_);refine goesL_ (some 39) rfl rfl Tryd.func43 (by kernel_rfl) rfl #[.string rs,.func (.func 42) #[] #[]] rfl (by (try simp only [List.map_toArray,List.map_cons,List.map_nil]);first | done | rfl | (simp only [List.length_drop,List.length_take];rfl)) ?_;(with_reducible refine (lex_span42.calls rs  t205 _ A10.out).mono ?_);rintro e w13 ⟨rfl,hb⟩;refine ⟨_,rfl,?_⟩;have n0_ := am (Kd.R_below (by (with_reducible repeat (first | apply Kd.R_alloc | apply Kd.R_drewN | apply Kd.R_drew));exact (Kd.R_mono (Kd.R_far (p := ⟨gb203,3,none⟩) (Kd.R_far (p := ⟨gb203,2,none⟩) (Kd.R_far (p := ⟨gb203,1,none⟩) (Kd.R_far (p := ⟨gb203,0,none⟩) (Kd.R_mono zbF.out (fun k_ hk => (⟨hk,hk.2⟩ : _ ∧ k_ ≠ gb203))) (fun _ hk => hk.2) (.int .i64 0)) (fun _ hk => hk.2) (.int .i64 0)) (fun _ hk => hk.2) (.string (⟨#[]⟩ : ByteArray))) (fun _ hk => hk.2) (.int .i64 x6_1)) (fun _ h_ => h_.1))) hb);have n1_ := am (blk_below (g := gb203) (o := .cells #[.int .i64 0,.int .i64 0,.string (⟨#[]⟩ : ByteArray),.int .i64 x6_1] 63 (0,0)) (by (with_reducible repeat (first | refine blk_drewN ?_ _ | refine blk_drew ?_ | refine blk_alloc ?_ _));refine blk_put (cs := #[.int .i64 0,.int .i64 0,.string (⟨#[]⟩ : ByteArray),.int .i64 0]) ?_ 3 _ rfl;(with_reducible repeat (first | refine blk_drewN ?_ _ | refine blk_drew ?_ | refine blk_alloc ?_ _));refine blk_put (cs := #[.int .i64 0,.int .i64 0,.string (⟨#[]⟩ : ByteArray),.int .i64 0]) ?_ 2 _ rfl;(with_reducible repeat (first | refine blk_drewN ?_ _ | refine blk_drew ?_ | refine blk_alloc ?_ _));refine blk_put (cs := #[.int .i64 0,.int .i64 0,.string (⟨#[]⟩ : ByteArray),.int .i64 0]) ?_ 1 _ rfl;(with_reducible repeat (first | refine blk_drewN ?_ _ | refine blk_drew ?_ | refine blk_alloc ?_ _));refine blk_put (cs := #[.int .i64 0,.int .i64 0,.string (⟨#[]⟩ : ByteArray),.int .i64 0]) ?_ 0 _ rfl;(with_reducible repeat (first | refine blk_drewN ?_ _ | refine blk_drew ?_ | refine blk_alloc ?_ _));exact zar.out) hb);have n2_ := am (below_step (by repeat (first | (with_reducible first | exact HB.out | apply below_alloc | apply pw_below_drewN | apply below_drew1 | refine below_set ?_ zbV.out) | exact HB.out)) hb);clear zbF;clear zar;clear HB;have zbF := n0_;have zar := n1_;have HB := n2_;clear n0_ n1_ n2_;(try clear hb);(try clear hb2);(try clear hk);(try clear hi)))
         go_roundg k1
         case measure => have := HK1.out;omega
         case rel => exact ⟨(x5_1),(wrap64 (x6_1 + t205)),(by first | rfl | (simp;done) | (simp [*];done)),H',⟨by have := HK1.out;omega⟩,⟨by (with_reducible repeat (first | apply Kd.R_alloc | apply Kd.R_drewN | apply Kd.R_drew));exact Kd.R_mono zbF.out (fun _ hk => trivial)⟩,⟨by repeat (first | (with_reducible first | exact HB.out | apply below_alloc | apply pw_below_drewN | apply below_drew1 | refine below_set ?_ zbV.out) | exact HB.out)⟩⟩
        ·replace c9 := Bool.eq_false_iff.mpr c9
         subst c9
         have H1 : (if (bt rs 0) = 35 then ((lex_span44.f rs).bind fun t206 => (lex_Cut.l0 k1 a0 x5_1 (wrap64 (x6_1 + t206)))) else ((lex_digit.f (bt rs 0)).bind fun t207 => (if t207 = true then ((lex_span45.f rs).bind fun t208 => (if 0 ≤ t208 then (if t208 ≤ (rs.size : Int) then ((lex_number.f (rs.extract 0 (t208 : Int).toNat)).bind fun bt209 => (if bt209.2 = true then (if 1 = 1 then (if x5_1.length < 3518437208883 then (lex_Cut.l0 k1 a0 (x5_1 ++ [(⟨1,bt209.1,(⟨#[]⟩ : ByteArray),x6_1⟩ : S63)]) (wrap64 (x6_1 + ((rs.extract 0 (t208 : Int).toNat).size : Int)))) else (none)) else (if x5_1.length < 3518437208883 then (lex_Cut.l0 k1 a0 (x5_1 ++ [(⟨1,bt209.1,rs.extract 0 (t208 : Int).toNat,x6_1⟩ : S63)]) (wrap64 (x6_1 + ((rs.extract 0 (t208 : Int).toNat).size : Int)))) else (none))) else (some (([] : List (S63)),x6_1,6)))) else (none)) else (none))) else ((lex_letter.f (bt rs 0)).bind fun t217 => (if t217 = true then ((lex_span48.f rs).bind fun t218 => (if 0 ≤ t218 then (if t218 ≤ (rs.size : Int) then (if 2 = 1 then (if x5_1.length < 3518437208883 then (lex_Cut.l0 k1 a0 (x5_1 ++ [(⟨2,0,(⟨#[]⟩ : ByteArray),x6_1⟩ : S63)]) (wrap64 (x6_1 + ((rs.extract 0 (t218 : Int).toNat).size : Int)))) else (none)) else (if x5_1.length < 3518437208883 then (lex_Cut.l0 k1 a0 (x5_1 ++ [(⟨2,0,rs.extract 0 (t218 : Int).toNat,x6_1⟩ : S63)]) (wrap64 (x6_1 + ((rs.extract 0 (t218 : Int).toNat).size : Int)))) else (none))) else (none)) else (none))) else ((lex_sign.f rs).bind fun t225 => (if t225.toList = ([] : List UInt8) then (some (([] : List (S63)),x6_1,2)) else (if 3 = 1 then (if x5_1.length < 3518437208883 then (lex_Cut.l0 k1 a0 (x5_1 ++ [(⟨3,0,(⟨#[]⟩ : ByteArray),x6_1⟩ : S63)]) (wrap64 (x6_1 + (t225.size : Int)))) else (none)) else (if x5_1.length < 3518437208883 then (lex_Cut.l0 k1 a0 (x5_1 ++ [(⟨3,0,t225,x6_1⟩ : S63)]) (wrap64 (x6_1 + (t225.size : Int)))) else (none)))))))))) = some (r1,r2,r3) := by rw [if_neg (show ¬ (false = true) by decide)] at H;exact H
         clear H
         have H := H1
         clear H1
         by_cases c14 : (bt rs 0) = 35
         ·rw [if_pos c14] at H
          have c14b0 : ((bt rs 0) == 35) = true := beq_iff_eq.mpr c14
          have c14b1 : ((bt rs 0) != 35) = false := bne_eq_false_iff_eq.mpr c14
          clear c14
          replace H := Option.bind_eq_some_iff.mp H
          obtain ⟨t206,A150,H⟩ := H
          replace H : (lex_Cut.l0 k1 a0 x5_1 (wrap64 (x6_1 + t206))) = some (r1,r2,r3) := H
          have A15 := am A150
          clear A150
          have H' := am H
          clear H
          go_wp2_with (first | ((with_reducible refine gate_dst (N := 8) rfl ?_);refine box_event ?hg (N := 8) ?hd (cs := #[.int .i64 0,.int .i64 0,.string (⟨#[]⟩ : ByteArray),.int .i64 0]) (t := 63) ?hr ?_;(case hd => rfl);(case hg => rfl);(case hr => first | (go_simp;done) | (go_simp;rfl));intro gb203 hg w16 zan hb;have n0_ := am (Kd.R_below (Kd.R_elderB (by (with_reducible repeat (first | apply Kd.R_alloc | apply Kd.R_drewN | apply Kd.R_drew));exact zbF.out) gb203 (Nat.le_of_eq hg.symm)) hb);have n1_ := am (below_step (by repeat (first | (with_reducible first | exact HB.out | apply below_alloc | apply pw_below_drewN | apply below_drew1) | exact HB.out)) hb);have n2_ := am (zan);have n3_ := am ((by rw [hg];exact (below_size (by repeat (first | (with_reducible first | exact HB.out | apply below_alloc | apply pw_below_drewN | apply below_drew1) | exact HB.out))) : w.heap.size ≤ gb203));have n4_ := am ((by rw [hg];exact (below_size (by repeat (first | (with_reducible first | exact HB.out | apply below_alloc | apply pw_below_drewN | apply below_drew1) | exact HB.out))) : w.heap.size ≤ gb203));clear zbF;clear HB;have zbF := n0_;have HB := n1_;have zar := n2_;have zgv := n3_;have zbV := n4_;clear n0_ n1_ n2_ n3_ n4_;clear hb zan hg;have zgR : w16.cell? ⟨gb203,0,none⟩ = some (.int .i64 0) := (blk_cell zar.out 0).trans rfl;have zgS : w16.cell? ⟨gb203,1,none⟩ = some (.int .i64 0) := (blk_cell zar.out 1).trans rfl;have zgT : w16.cell? ⟨gb203,2,none⟩ = some (.string (⟨#[]⟩ : ByteArray)) := (blk_cell zar.out 2).trans rfl;have hcz17_3 : w16.cell? ⟨gb203,3,none⟩ = some (.int .i64 0) := (blk_cell zar.out 3).trans rfl;have zgU := blk_frozen zar.out 0;have zgV := blk_frozen zar.out 1;have zgW := blk_frozen zar.out 2;have hfz17_3 := blk_frozen zar.out 3;have p7 : 0 ≤ (0 : Int) := (by omega);have q7 : 0 < rs.size := (by have : (0 : Int) < (rs.size : Int) := of_decide_eq_true (by first | (with_reducible assumption) | assumption);omega);have hx7 : ∀ h : 0 < rs.size,((rs[0]'h).toNat : Int) = bt rs 0 := bt_at rs 0;clear p7;have qi7 : (0 < (rs.size : Int)) = True := eq_true (of_decide_eq_true (by first | (with_reducible assumption) | assumption));replace q7 := eq_true q7) | ((with_reducible refine gate_callee (f := 42) rfl ?_);refine goesL_ (some 36) rfl rfl Tryd.func42 (by kernel_rfl) rfl #[.int .u8 (bt rs 0)] rfl (by (try simp only [List.map_toArray,List.map_cons,List.map_nil]);first | done | rfl | (simp only [List.length_drop,List.length_take];rfl)) ?_;(with_reducible refine (lex_space.calls (bt rs 0) false _ A8.out).mono ?_);rintro e w' ⟨rfl,⟨nd,rfl⟩⟩;refine ⟨_,rfl,?_⟩) | ((with_reducible refine gate_callee (f := 43) rfl ?_);refine goesL_ (some 46) rfl rfl Tryd.func43 (by kernel_rfl) rfl #[.string rs,.func (.func 44) #[] #[]] rfl (by (try simp only [List.map_toArray,List.map_cons,List.map_nil]);first | done | rfl | (simp only [List.length_drop,List.length_take];rfl)) ?_;(with_reducible refine (lex_span44.calls rs  t206 _ A15.out).mono ?_);rintro e w18 ⟨rfl,hb⟩;refine ⟨_,rfl,?_⟩;have n0_ := am (Kd.R_below (by (with_reducible repeat (first | apply Kd.R_alloc | apply Kd.R_drewN | apply Kd.R_drew));exact (Kd.R_mono (Kd.R_far (p := ⟨gb203,3,none⟩) (Kd.R_far (p := ⟨gb203,2,none⟩) (Kd.R_far (p := ⟨gb203,1,none⟩) (Kd.R_far (p := ⟨gb203,0,none⟩) (Kd.R_mono zbF.out (fun k_ hk => (⟨hk,hk.2⟩ : _ ∧ k_ ≠ gb203))) (fun _ hk => hk.2) (.int .i64 0)) (fun _ hk => hk.2) (.int .i64 0)) (fun _ hk => hk.2) (.string (⟨#[]⟩ : ByteArray))) (fun _ hk => hk.2) (.int .i64 x6_1)) (fun _ h_ => h_.1))) hb);have n1_ := am (blk_below (g := gb203) (o := .cells #[.int .i64 0,.int .i64 0,.string (⟨#[]⟩ : ByteArray),.int .i64 x6_1] 63 (0,0)) (by (with_reducible repeat (first | refine blk_drewN ?_ _ | refine blk_drew ?_ | refine blk_alloc ?_ _));refine blk_put (cs := #[.int .i64 0,.int .i64 0,.string (⟨#[]⟩ : ByteArray),.int .i64 0]) ?_ 3 _ rfl;(with_reducible repeat (first | refine blk_drewN ?_ _ | refine blk_drew ?_ | refine blk_alloc ?_ _));refine blk_put (cs := #[.int .i64 0,.int .i64 0,.string (⟨#[]⟩ : ByteArray),.int .i64 0]) ?_ 2 _ rfl;(with_reducible repeat (first | refine blk_drewN ?_ _ | refine blk_drew ?_ | refine blk_alloc ?_ _));refine blk_put (cs := #[.int .i64 0,.int .i64 0,.string (⟨#[]⟩ : ByteArray),.int .i64 0]) ?_ 1 _ rfl;(with_reducible repeat (first | refine blk_drewN ?_ _ | refine blk_drew ?_ | refine blk_alloc ?_ _));refine blk_put (cs := #[.int .i64 0,.int .i64 0,.string (⟨#[]⟩ : ByteArray),.int .i64 0]) ?_ 0 _ rfl;(with_reducible repeat (first | refine blk_drewN ?_ _ | refine blk_drew ?_ | refine blk_alloc ?_ _));exact zar.out) hb);have n2_ := am (below_step (by repeat (first | (with_reducible first | exact HB.out | apply below_alloc | apply pw_below_drewN | apply below_drew1 | refine below_set ?_ zbV.out) | exact HB.out)) hb);clear zbF;clear zar;clear HB;have zbF := n0_;have zar := n1_;have HB := n2_;clear n0_ n1_ n2_;(try clear hb);(try clear hb2);(try clear hk);(try clear hi)))
          go_roundg k1
          case measure => have := HK1.out;omega
          case rel => exact ⟨(x5_1),(wrap64 (x6_1 + t206)),(by first | rfl | (simp;done) | (simp [*];done)),H',⟨by have := HK1.out;omega⟩,⟨by (with_reducible repeat (first | apply Kd.R_alloc | apply Kd.R_drewN | apply Kd.R_drew));exact Kd.R_mono zbF.out (fun _ hk => trivial)⟩,⟨by repeat (first | (with_reducible first | exact HB.out | apply below_alloc | apply pw_below_drewN | apply below_drew1 | refine below_set ?_ zbV.out) | exact HB.out)⟩⟩
         ·rw [if_neg c14] at H
          have c14b0 : ((bt rs 0) == 35) = false := beq_eq_false_iff_ne.mpr c14
          have c14b1 : ((bt rs 0) != 35) = true := bne_iff_ne.mpr c14
          replace H := Option.bind_eq_some_iff.mp H
          obtain ⟨t207,A190,H⟩ := H
          replace H : (if t207 = true then ((lex_span45.f rs).bind fun t208 => (if 0 ≤ t208 then (if t208 ≤ (rs.size : Int) then ((lex_number.f (rs.extract 0 (t208 : Int).toNat)).bind fun bt209 => (if bt209.2 = true then (if 1 = 1 then (if x5_1.length < 3518437208883 then (lex_Cut.l0 k1 a0 (x5_1 ++ [(⟨1,bt209.1,(⟨#[]⟩ : ByteArray),x6_1⟩ : S63)]) (wrap64 (x6_1 + ((rs.extract 0 (t208 : Int).toNat).size : Int)))) else (none)) else (if x5_1.length < 3518437208883 then (lex_Cut.l0 k1 a0 (x5_1 ++ [(⟨1,bt209.1,rs.extract 0 (t208 : Int).toNat,x6_1⟩ : S63)]) (wrap64 (x6_1 + ((rs.extract 0 (t208 : Int).toNat).size : Int)))) else (none))) else (some (([] : List (S63)),x6_1,6)))) else (none)) else (none))) else ((lex_letter.f (bt rs 0)).bind fun t217 => (if t217 = true then ((lex_span48.f rs).bind fun t218 => (if 0 ≤ t218 then (if t218 ≤ (rs.size : Int) then (if 2 = 1 then (if x5_1.length < 3518437208883 then (lex_Cut.l0 k1 a0 (x5_1 ++ [(⟨2,0,(⟨#[]⟩ : ByteArray),x6_1⟩ : S63)]) (wrap64 (x6_1 + ((rs.extract 0 (t218 : Int).toNat).size : Int)))) else (none)) else (if x5_1.length < 3518437208883 then (lex_Cut.l0 k1 a0 (x5_1 ++ [(⟨2,0,rs.extract 0 (t218 : Int).toNat,x6_1⟩ : S63)]) (wrap64 (x6_1 + ((rs.extract 0 (t218 : Int).toNat).size : Int)))) else (none))) else (none)) else (none))) else ((lex_sign.f rs).bind fun t225 => (if t225.toList = ([] : List UInt8) then (some (([] : List (S63)),x6_1,2)) else (if 3 = 1 then (if x5_1.length < 3518437208883 then (lex_Cut.l0 k1 a0 (x5_1 ++ [(⟨3,0,(⟨#[]⟩ : ByteArray),x6_1⟩ : S63)]) (wrap64 (x6_1 + (t225.size : Int)))) else (none)) else (if x5_1.length < 3518437208883 then (lex_Cut.l0 k1 a0 (x5_1 ++ [(⟨3,0,t225,x6_1⟩ : S63)]) (wrap64 (x6_1 + (t225.size : Int)))) else (none)))))))) = some (r1,r2,r3) := H
          have A19 := am A190
          clear A190
          by_cases c20 : t207 = true
          ·subst c20
           have H1 : ((lex_span45.f rs).bind fun t208 => (if 0 ≤ t208 then (if t208 ≤ (rs.size : Int) then ((lex_number.f (rs.extract 0 (t208 : Int).toNat)).bind fun bt209 => (if bt209.2 = true then (if 1 = 1 then (if x5_1.length < 3518437208883 then (lex_Cut.l0 k1 a0 (x5_1 ++ [(⟨1,bt209.1,(⟨#[]⟩ : ByteArray),x6_1⟩ : S63)]) (wrap64 (x6_1 + ((rs.extract 0 (t208 : Int).toNat).size : Int)))) else (none)) else (if x5_1.length < 3518437208883 then (lex_Cut.l0 k1 a0 (x5_1 ++ [(⟨1,bt209.1,rs.extract 0 (t208 : Int).toNat,x6_1⟩ : S63)]) (wrap64 (x6_1 + ((rs.extract 0 (t208 : Int).toNat).size : Int)))) else (none))) else (some (([] : List (S63)),x6_1,6)))) else (none)) else (none))) = some (r1,r2,r3) := by rw [if_pos rfl] at H;exact H
           clear H
           have H := H1
           clear H1
           replace H := Option.bind_eq_some_iff.mp H
           obtain ⟨t208,A210,H⟩ := H
           replace H : (if 0 ≤ t208 then (if t208 ≤ (rs.size : Int) then ((lex_number.f (rs.extract 0 (t208 : Int).toNat)).bind fun bt209 => (if bt209.2 = true then (if 1 = 1 then (if x5_1.length < 3518437208883 then (lex_Cut.l0 k1 a0 (x5_1 ++ [(⟨1,bt209.1,(⟨#[]⟩ : ByteArray),x6_1⟩ : S63)]) (wrap64 (x6_1 + ((rs.extract 0 (t208 : Int).toNat).size : Int)))) else (none)) else (if x5_1.length < 3518437208883 then (lex_Cut.l0 k1 a0 (x5_1 ++ [(⟨1,bt209.1,rs.extract 0 (t208 : Int).toNat,x6_1⟩ : S63)]) (wrap64 (x6_1 + ((rs.extract 0 (t208 : Int).toNat).size : Int)))) else (none))) else (some (([] : List (S63)),x6_1,6)))) else (none)) else (none)) = some (r1,r2,r3) := H
           have A21 := am A210
           clear A210
           by_cases c22 : 0 ≤ t208
           ·rw [if_pos c22] at H
            have c22b0 := eq_true c22
            have c22b1 : decide (0 ≤ t208) = true := decide_eq_true c22
            clear c22
            by_cases c23 : t208 ≤ (rs.size : Int)
            ·rw [if_pos c23] at H
             have c23b0 := eq_true c23
             have c23b1 : decide (t208 ≤ (rs.size : Int)) = true := decide_eq_true c23
             clear c23
             replace H := Option.bind_eq_some_iff.mp H
             obtain ⟨⟨t209,t210⟩,A240,H⟩ := H
             replace H : (if t210 = true then (if 1 = 1 then (if x5_1.length < 3518437208883 then (lex_Cut.l0 k1 a0 (x5_1 ++ [(⟨1,t209,(⟨#[]⟩ : ByteArray),x6_1⟩ : S63)]) (wrap64 (x6_1 + ((rs.extract 0 (t208 : Int).toNat).size : Int)))) else (none)) else (if x5_1.length < 3518437208883 then (lex_Cut.l0 k1 a0 (x5_1 ++ [(⟨1,t209,rs.extract 0 (t208 : Int).toNat,x6_1⟩ : S63)]) (wrap64 (x6_1 + ((rs.extract 0 (t208 : Int).toNat).size : Int)))) else (none))) else (some (([] : List (S63)),x6_1,6))) = some (r1,r2,r3) := H
             have A24 := am A240
             clear A240
             by_cases c25 : t210 = true
             ·subst c25
              have H1 : (if 1 = 1 then (if x5_1.length < 3518437208883 then (lex_Cut.l0 k1 a0 (x5_1 ++ [(⟨1,t209,(⟨#[]⟩ : ByteArray),x6_1⟩ : S63)]) (wrap64 (x6_1 + ((rs.extract 0 (t208 : Int).toNat).size : Int)))) else (none)) else (if x5_1.length < 3518437208883 then (lex_Cut.l0 k1 a0 (x5_1 ++ [(⟨1,t209,rs.extract 0 (t208 : Int).toNat,x6_1⟩ : S63)]) (wrap64 (x6_1 + ((rs.extract 0 (t208 : Int).toNat).size : Int)))) else (none))) = some (r1,r2,r3) := by rw [if_pos rfl] at H;exact H
              clear H
              have H := H1
              clear H1
              by_cases c26 : 1 = 1
              ·rw [if_pos c26] at H
               have c26b0 : (1 == 1) = true := beq_iff_eq.mpr c26
               have c26b1 : (1 != 1) = false := bne_eq_false_iff_eq.mpr c26
               clear c26
               by_cases c27 : x5_1.length < 3518437208883
               ·rw [if_pos c27] at H
                have LMc27 := am c27
                clear c27
                obtain ⟨y211,zhq⟩ : ∃ y_ : List (S63),y_ = (x5_1 ++ [(⟨1,t209,(⟨#[]⟩ : ByteArray),x6_1⟩ : S63)]) := ⟨_,rfl⟩
                replace H : (lex_Cut.l0 k1 a0 y211 (wrap64 (x6_1 + ((rs.extract 0 (t208 : Int).toNat).size : Int)))) = some (r1,r2,r3) := by first | (rw [zhq];with_reducible exact H) | (have H2_ := (Option.bind_some _ _).symm.trans H;rw [zhq];with_reducible exact H2_) | (have H2_ := (Option.bind_some _ _).symm.trans H;with_reducible exact H2_) | with_reducible exact H | (rw [zhq];exact H) | exact H
                have Ny211 := am zhq
                clear zhq
                have H' := am H
                clear H
                try go_wp2_with (first | ((with_reducible refine gate_dst (N := 8) rfl ?_);refine box_event ?hg (N := 8) ?hd (cs := #[.int .i64 0,.int .i64 0,.string (⟨#[]⟩ : ByteArray),.int .i64 0]) (t := 63) ?hr ?_;(case hd => rfl);(case hg => rfl);(case hr => first | (go_simp;done) | (go_simp;rfl));intro gb203 hg w28 zan hb;have n0_ := am (Kd.R_below (Kd.R_elderB (by (with_reducible repeat (first | apply Kd.R_alloc | apply Kd.R_drewN | apply Kd.R_drew));exact zbF.out) gb203 (Nat.le_of_eq hg.symm)) hb);have n1_ := am (below_step (by repeat (first | (with_reducible first | exact HB.out | apply below_alloc | apply pw_below_drewN | apply below_drew1) | exact HB.out)) hb);have n2_ := am (zan);have n3_ := am ((by rw [hg];exact (below_size (by repeat (first | (with_reducible first | exact HB.out | apply below_alloc | apply pw_below_drewN | apply below_drew1) | exact HB.out))) : w.heap.size ≤ gb203));have n4_ := am ((by rw [hg];exact (below_size (by repeat (first | (with_reducible first | exact HB.out | apply below_alloc | apply pw_below_drewN | apply below_drew1) | exact HB.out))) : w.heap.size ≤ gb203));clear zbF;clear HB;have zbF := n0_;have HB := n1_;have zar := n2_;have zgv := n3_;have zbV := n4_;clear n0_ n1_ n2_ n3_ n4_;clear hb zan hg;have hcz29_0 : w28.cell? ⟨gb203,0,none⟩ = some (.int .i64 0) := (blk_cell zar.out 0).trans rfl;have hcz29_1 : w28.cell? ⟨gb203,1,none⟩ = some (.int .i64 0) := (blk_cell zar.out 1).trans rfl;have hcz29_2 : w28.cell? ⟨gb203,2,none⟩ = some (.string (⟨#[]⟩ : ByteArray)) := (blk_cell zar.out 2).trans rfl;have hcz29_3 : w28.cell? ⟨gb203,3,none⟩ = some (.int .i64 0) := (blk_cell zar.out 3).trans rfl;have hfz29_0 := blk_frozen zar.out 0;have hfz29_1 := blk_frozen zar.out 1;have hfz29_2 := blk_frozen zar.out 2;have hfz29_3 := blk_frozen zar.out 3;have p7 : 0 ≤ (0 : Int) := (by omega);have q7 : 0 < rs.size := (by have : (0 : Int) < (rs.size : Int) := of_decide_eq_true (by first | (with_reducible assumption) | assumption);omega);have hx7 : ∀ h : 0 < rs.size,((rs[0]'h).toNat : Int) = bt rs 0 := bt_at rs 0;clear p7;have qi7 : (0 < (rs.size : Int)) = True := eq_true (of_decide_eq_true (by first | (with_reducible assumption) | assumption));replace q7 := eq_true q7) | ((with_reducible refine gate_callee (f := 42) rfl ?_);refine goesL_ (some 36) rfl rfl Tryd.func42 (by kernel_rfl) rfl #[.int .u8 (bt rs 0)] rfl (by (try simp only [List.map_toArray,List.map_cons,List.map_nil]);first | done | rfl | (simp only [List.length_drop,List.length_take];rfl)) ?_;(with_reducible refine (lex_space.calls (bt rs 0) false _ A8.out).mono ?_);rintro e w' ⟨rfl,⟨nd,rfl⟩⟩;refine ⟨_,rfl,?_⟩) | ((with_reducible refine gate_callee (f := 45) rfl ?_);refine goesL_ (some 50) rfl rfl Tryd.func45 (by kernel_rfl) rfl #[.int .u8 (bt rs 0)] rfl (by (try simp only [List.map_toArray,List.map_cons,List.map_nil]);first | done | rfl | (simp only [List.length_drop,List.length_take];rfl)) ?_;(with_reducible refine (lex_digit.calls (bt rs 0) true _ A19.out).mono ?_);rintro e w' ⟨rfl,⟨nd,rfl⟩⟩;refine ⟨_,rfl,?_⟩))
                have n0_ : Aside0 (Kd.R k63 63 ((((w28.setCell ⟨gb203,0,none⟩ (.int .i64 0)).setCell ⟨gb203,1,none⟩ (.int .i64 0)).setCell ⟨gb203,2,none⟩ (.string (⟨#[]⟩ : ByteArray))).setCell ⟨gb203,3,none⟩ (.int .i64 x6_1)) w.heap.size (fun k_ => k_ ≠ gb203) u5 x5_1) := ⟨by (with_reducible repeat (first | apply Kd.R_alloc | apply Kd.R_drewN | apply Kd.R_drew));exact Kd.R_mono (Kd.R_far (p := ⟨gb203,3,none⟩) (Kd.R_far (p := ⟨gb203,2,none⟩) (Kd.R_far (p := ⟨gb203,1,none⟩) (Kd.R_far (p := ⟨gb203,0,none⟩) (Kd.R_mono zbF.out (fun k_ hk => (⟨hk,hk.2⟩ : _ ∧ k_ ≠ gb203))) (fun _ hk => hk.2) (.int .i64 0)) (fun _ hk => hk.2) (.int .i64 0)) (fun _ hk => hk.2) (.string (⟨#[]⟩ : ByteArray))) (fun _ hk => hk.2) (.int .i64 x6_1)) (fun _ hk => hk.1.2)⟩
                have n1_ : Aside0 (((((w28.setCell ⟨gb203,0,none⟩ (.int .i64 0)).setCell ⟨gb203,1,none⟩ (.int .i64 0)).setCell ⟨gb203,2,none⟩ (.string (⟨#[]⟩ : ByteArray))).setCell ⟨gb203,3,none⟩ (.int .i64 x6_1)).heap[gb203]? = some (.cells #[.int .i64 0,.int .i64 0,.string (⟨#[]⟩ : ByteArray),.int .i64 x6_1] 63 (0,0))) := ⟨by (with_reducible repeat (first | refine blk_drewN ?_ _ | refine blk_drew ?_ | refine blk_alloc ?_ _));refine blk_put (cs := #[.int .i64 0,.int .i64 0,.string (⟨#[]⟩ : ByteArray),.int .i64 0]) ?_ 3 _ rfl;(with_reducible repeat (first | refine blk_drewN ?_ _ | refine blk_drew ?_ | refine blk_alloc ?_ _));refine blk_put (cs := #[.int .i64 0,.int .i64 0,.string (⟨#[]⟩ : ByteArray),.int .i64 0]) ?_ 2 _ rfl;(with_reducible repeat (first | refine blk_drewN ?_ _ | refine blk_drew ?_ | refine blk_alloc ?_ _));refine blk_put (cs := #[.int .i64 0,.int .i64 0,.string (⟨#[]⟩ : ByteArray),.int .i64 0]) ?_ 1 _ rfl;(with_reducible repeat (first | refine blk_drewN ?_ _ | refine blk_drew ?_ | refine blk_alloc ?_ _));refine blk_put (cs := #[.int .i64 0,.int .i64 0,.string (⟨#[]⟩ : ByteArray),.int .i64 0]) ?_ 0 _ rfl;(with_reducible repeat (first | refine blk_drewN ?_ _ | refine blk_drew ?_ | refine blk_alloc ?_ _));exact zar.out⟩
                have n2_ : Aside0 (Below w.heap.size w ((((w28.setCell ⟨gb203,0,none⟩ (.int .i64 0)).setCell ⟨gb203,1,none⟩ (.int .i64 0)).setCell ⟨gb203,2,none⟩ (.string (⟨#[]⟩ : ByteArray))).setCell ⟨gb203,3,none⟩ (.int .i64 x6_1))) := ⟨by repeat (first | (with_reducible first | exact HB.out | apply below_alloc | apply pw_below_drewN | apply below_drew1 | refine below_set ?_ zbV.out) | exact HB.out)⟩
                (try clear zbF)
                (try clear zar)
                (try clear HB)
                generalize ((((w28.setCell ⟨gb203,0,none⟩ (.int .i64 0)).setCell ⟨gb203,1,none⟩ (.int .i64 0)).setCell ⟨gb203,2,none⟩ (.string (⟨#[]⟩ : ByteArray))).setCell ⟨gb203,3,none⟩ (.int .i64 x6_1)) = w30 at n0_ n1_ n2_ ⊢
                have zbF := n0_
                have zar := n1_
                have HB := n2_
                clear n0_ n1_ n2_
                (try (rw [drewN_self w30];generalize hq_ : World.drewN w30 _ = w30;have n0_ : Aside0 (Kd.R k63 63 w30 w.heap.size (fun k_ => k_ ≠ gb203) u5 x5_1) := ⟨by rw [← hq_];exact (by (with_reducible repeat (first | apply Kd.R_alloc | apply Kd.R_drewN | apply Kd.R_drew));exact zbF.out)⟩;have n1_ : Aside0 (w30.heap[gb203]? = some (.cells #[.int .i64 0,.int .i64 0,.string (⟨#[]⟩ : ByteArray),.int .i64 x6_1] 63 (0,0))) := ⟨by rw [← hq_];exact zar.out⟩;have n2_ : Aside0 (Below w.heap.size w w30) := ⟨by rw [← hq_];exact (by repeat (first | (with_reducible first | exact HB.out | apply below_alloc | apply pw_below_drewN | apply below_drew1 | refine below_set ?_ zbV.out) | exact HB.out))⟩;clear zbF zar HB hq_;have zbF := n0_;have zar := n1_;have HB := n2_;clear n0_ n1_ n2_))
                have n0_ := am (Kd.R_drew zbF.out)
                have n1_ := am (blk_drew zar.out)
                have n2_ := am (below_drew1 HB.out)
                clear zbF
                clear zar
                clear HB
                have zbF := n0_
                have zar := n1_
                have HB := n2_
                clear n0_ n1_ n2_
                refine start_ (n := 8) (S := fun w' => True) (ds := []) #[false,false,false,false,false,false,false,false] (by kernel_rfl) rfl rfl trivial (fun hHeld => ?_);refine with_tabW lex_Cut.tab17 lex_Cut.bits17 (fun HT_ HW_ => ?_)
                generalize w30.drew = w31 at zbF zar HB hHeld ⊢
                refine pure_ (i := 0) (N := some 51) (v := ?_) (a' := ?_) #[true,false,false,false,false,false,false,false] rfl rfl (any_of HT_.out (by kernel_rfl)) (fun _ _ _ h => h) (Or.inl ⟨by rfl,?_⟩) ?_ ?_
                rotate_left
                ·intro w'
                 go_simp
                 with_reducible rfl
                rotate_left
                ·simp only [Act.put,List.setIfInBounds_toArray,List.set_cons_zero,List.set_cons_succ,i64_w,i32_w]
                 rfl
                refine pure_ (i := 1) (N := some 52) (v := ?_) (a' := ?_) #[true,true,false,false,false,false,false,false] rfl rfl (any_of HT_.out (by kernel_rfl)) (fun _ _ _ h => h) (Or.inl ⟨by rfl,?_⟩) ?_ ?_
                rotate_left
                ·intro w'
                 go_simp
                 with_reducible rfl
                rotate_left
                ·simp only [Act.put,List.setIfInBounds_toArray,List.set_cons_zero,List.set_cons_succ,i64_w,i32_w]
                 rfl
                refine pure_ (i := 4) (N := some 55) (v := ?_) (a' := ?_) #[true,true,false,false,true,false,false,false] rfl rfl (any_of HT_.out (by kernel_rfl)) (fun _ _ _ h => h) (Or.inl ⟨by rfl,?_⟩) ?_ ?_
                rotate_left
                ·intro w'
                 go_simp
                 with_reducible rfl
                rotate_left
                ·simp only [Act.put,List.setIfInBounds_toArray,List.set_cons_zero,List.set_cons_succ,i64_w,i32_w]
                 rfl
                refine one_ (i := 2) (N := some 53) #[true,true,true,false,true,false,false,false] rfl rfl (one_of HT_.out (by kernel_rfl)) (by decide) (fun K hK => ?_)
                refine goes_ Tryd.func43 (by kernel_rfl) rfl #[.string rs,.func (.func 45) #[] #[]] (by rfl) rfl rfl (by (try simp only [List.map_toArray,List.map_cons,List.map_nil]);first | done | rfl | (simp only [List.length_drop,List.length_take];rfl)) ?_
                with_reducible refine (lex_span45.calls rs  t208 _ A21.out).mono ?_
                rintro e w32 ⟨rfl,hb⟩
                refine ⟨_,rfl,?_⟩
                have n0_ := am (Kd.R_below (by (with_reducible repeat (first | apply Kd.R_alloc | apply Kd.R_drewN | apply Kd.R_drew));exact zbF.out) hb)
                have n1_ := am (blk_below (g := gb203) (o := .cells #[.int .i64 0,.int .i64 0,.string (⟨#[]⟩ : ByteArray),.int .i64 x6_1] 63 (0,0)) zar.out hb)
                have n2_ := am (below_step (by repeat (first | (with_reducible first | exact HB.out | apply below_alloc | apply pw_below_drewN | apply below_drew1 | refine below_set ?_ zbV.out) | exact HB.out)) hb)
                clear zbF
                clear zar
                clear HB
                have zbF := n0_
                have zar := n1_
                have HB := n2_
                clear n0_ n1_ n2_
                (try clear hb)
                (try clear hb2)
                (try clear hk)
                (try clear hi)
                refine hK.out _ _ trivial (fun hHeld => ?_)
                clear hK K
                refine norm_ (a' := ?_) ?_ ?_
                rotate_left
                ·show Act.put _ (some 53) _ = _
                 simp only [Act.put,List.setIfInBounds_toArray,List.set_cons_zero,List.set_cons_succ,i64_w,i32_w]
                 rfl
                refine pure_ (i := 3) (N := some 54) (v := ?_) (a' := ?_) #[true,true,true,true,true,false,false,false] rfl rfl (any_of HT_.out (by kernel_rfl)) (fun _ _ _ h => h) (Or.inl ⟨by rfl,?_⟩) ?_ ?_
                rotate_left
                ·intro w'
                 go_simp
                 with_reducible rfl
                rotate_left
                ·simp only [Act.put,List.setIfInBounds_toArray,List.set_cons_zero,List.set_cons_succ,i64_w,i32_w]
                 rfl
                refine one_ (i := 5) (N := none) #[true,true,true,true,true,true,false,false] rfl rfl (one_of HT_.out (by kernel_rfl)) (by decide) (fun K hK => ?_)
                have hs33 : w32.cell? ⟨gb203,0,none⟩ = some (.int .i64 0) := (blk_cell zar.out 0).trans rfl
                have hfs33 := blk_frozen zar.out 0
                refine skip_ (w1 := ?_) (by rfl) rfl ?_ ?_
                rotate_left
                ·go_simp
                 rfl
                refine hK.out _ _ trivial (fun hHeld => ?_)
                clear hK K
                refine pure_ (i := 6) (N := some 56) (v := ?_) (a' := ?_) #[true,true,true,true,true,true,true,false] rfl rfl (any_of HT_.out (by kernel_rfl)) (fun _ _ _ h => h) (Or.inl ⟨by rfl,?_⟩) ?_ ?_
                rotate_left
                ·intro w'
                 go_simp
                 with_reducible rfl
                rotate_left
                ·simp only [Act.put,List.setIfInBounds_toArray,List.set_cons_zero,List.set_cons_succ,i64_w,i32_w]
                 rfl
                refine one_ (i := 7) (N := none) #[true,true,true,true,true,true,true,true] rfl rfl (one_of HT_.out (by kernel_rfl)) (by decide) (fun K hK => ?_)
                have hs34 : w32.cell? ⟨gb203,2,none⟩ = some (.string (⟨#[]⟩ : ByteArray)) := (blk_cell zar.out 2).trans rfl
                have hfs34 := blk_frozen zar.out 2
                refine skip_ (w1 := ?_) (by rfl) rfl ?_ ?_
                rotate_left
                ·go_simp
                 rfl
                refine hK.out _ _ trivial (fun hHeld => ?_)
                clear hK K
                refine done_ (done_of HT_.out (by kernel_rfl)) ?_
                have zfG : w32.cell? ⟨gb203,0,none⟩ = some (.int .i64 0) := (blk_cell zar.out 0).trans rfl
                have zfH : w32.cell? ⟨gb203,1,none⟩ = some (.int .i64 0) := (blk_cell zar.out 1).trans rfl
                have zfI : w32.cell? ⟨gb203,2,none⟩ = some (.string (⟨#[]⟩ : ByteArray)) := (blk_cell zar.out 2).trans rfl
                have hcz35_3 : w32.cell? ⟨gb203,3,none⟩ = some (.int .i64 x6_1) := (blk_cell zar.out 3).trans rfl
                have zfJ := blk_frozen zar.out 0
                have zfK := blk_frozen zar.out 1
                have zfL := blk_frozen zar.out 2
                have hfz35_3 := blk_frozen zar.out 3
                try go_wp2_with (first | ((with_reducible refine gate_callee (f := 46) rfl ?_);refine goesL_ (some 60) rfl rfl Tryd.func46 (by kernel_rfl) rfl #[.string (rs.extract 0 (t208 : Int).toNat)] rfl (by (try simp only [List.map_toArray,List.map_cons,List.map_nil]);first | done | rfl | (simp only [List.length_drop,List.length_take];rfl)) ?_;(with_reducible refine (lex_number.calls (rs.extract 0 (t208 : Int).toNat) t209 true _ A24.out).mono ?_);rintro e w36 ⟨rfl,hb⟩;refine ⟨_,rfl,?_⟩;have n0_ := am (Kd.R_below (by (with_reducible repeat (first | apply Kd.R_alloc | apply Kd.R_drewN | apply Kd.R_drew));exact (Kd.R_mono (Kd.R_far (p := ⟨gb203,2,none⟩) (Kd.R_far (p := ⟨gb203,0,none⟩) (Kd.R_mono zbF.out (fun k_ hk => (⟨hk,hk⟩ : _ ∧ k_ ≠ gb203))) (fun _ hk => hk.2) (.int .i64 1)) (fun _ hk => hk.2) (.string (rs.extract 0 (t208 : Int).toNat))) (fun _ h_ => h_.1))) hb);have n1_ := am (blk_below (g := gb203) (o := .cells #[.int .i64 1,.int .i64 0,.string (rs.extract 0 (t208 : Int).toNat),.int .i64 x6_1] 63 (0,0)) (by (with_reducible repeat (first | refine blk_drewN ?_ _ | refine blk_drew ?_ | refine blk_alloc ?_ _));refine blk_put (cs := #[.int .i64 1,.int .i64 0,.string (⟨#[]⟩ : ByteArray),.int .i64 x6_1]) ?_ 2 _ rfl;(with_reducible repeat (first | refine blk_drewN ?_ _ | refine blk_drew ?_ | refine blk_alloc ?_ _));refine blk_put (cs := #[.int .i64 0,.int .i64 0,.string (⟨#[]⟩ : ByteArray),.int .i64 x6_1]) ?_ 0 _ rfl;(with_reducible repeat (first | refine blk_drewN ?_ _ | refine blk_drew ?_ | refine blk_alloc ?_ _));exact zar.out) hb);have n2_ := am (below_step (by repeat (first | (with_reducible first | exact HB.out | apply below_alloc | apply pw_below_drewN | apply below_drew1 | refine below_set ?_ zbV.out) | exact HB.out)) hb);clear zbF;clear zar;clear HB;have zbF := n0_;have zar := n1_;have HB := n2_;clear n0_ n1_ n2_;(try clear hb);(try clear hb2);(try clear hk);(try clear hi);have zfM : w36.cell? ⟨gb203,0,none⟩ = some (.int .i64 1) := (blk_cell zar.out 0).trans rfl;have zfN : w36.cell? ⟨gb203,1,none⟩ = some (.int .i64 0) := (blk_cell zar.out 1).trans rfl;have zfO : w36.cell? ⟨gb203,2,none⟩ = some (.string (rs.extract 0 (t208 : Int).toNat)) := (blk_cell zar.out 2).trans rfl;have hcz37_3 : w36.cell? ⟨gb203,3,none⟩ = some (.int .i64 x6_1) := (blk_cell zar.out 3).trans rfl;have zfP := blk_frozen zar.out 0;have zfQ := blk_frozen zar.out 1;have zfR := blk_frozen zar.out 2;have hfz37_3 := blk_frozen zar.out 3) | ((with_reducible refine gate_builtin (b := .append) (xs := #[.tmp 86,.tmp 88]) rfl ?_);at_builtin;refine Kd.R_append k63 (w0 := w) w.heap.size rfl (.tmp 86) (.tmp 88) 22 63 (.agg #[(.int .i64 0),(.int .i64 0),(.string ⟨#[]⟩),(.int .i64 0)]) 40 rfl Tryd.underlying22 info63 rfl (by decide) (by omega) u5 x5_1 (⟨1,t209,(⟨#[]⟩ : ByteArray),x6_1⟩ : S63) [.int .i64 1,.int .i64 t209,.string (⟨#[]⟩ : ByteArray),.int .i64 x6_1] (fun k_ => k_ ≠ gb203) (fun _ => False) rfl (by first | (go_simp;done) | (go_simp;rfl)) ?aP (fun _ hk => hk.elim) ?aF ?aO ?aB ?aS ?aL ?_;(case aP => exact k63_mkM _ _ _ (⟨1,t209,(⟨#[]⟩ : ByteArray),x6_1⟩ : S63));(case aB => exact (by repeat (first | (with_reducible first | exact HB.out | apply below_alloc | apply pw_below_drewN | apply below_drew1 | refine below_set ?_ zbV.out) | exact HB.out)));(case aF => exact (fun k_ hk => Kd.freshB (g := gb203) (o := .cells #[.int .i64 1,.int .i64 t209,.string (⟨#[]⟩ : ByteArray),.int .i64 x6_1] 63 (0,0)) (by (with_reducible repeat (first | refine blk_drewN ?_ _ | refine blk_drew ?_ | refine blk_alloc ?_ _));refine blk_put (cs := #[.int .i64 1,.int .i64 t209,.string (rs.extract 0 (t208 : Int).toNat),.int .i64 x6_1]) ?_ 2 _ rfl;(with_reducible repeat (first | refine blk_drewN ?_ _ | refine blk_drew ?_ | refine blk_alloc ?_ _));refine blk_put (cs := #[.int .i64 1,.int .i64 0,.string (rs.extract 0 (t208 : Int).toNat),.int .i64 x6_1]) ?_ 1 _ rfl;(with_reducible repeat (first | refine blk_drewN ?_ _ | refine blk_drew ?_ | refine blk_alloc ?_ _));exact zar.out) k_ hk));(case aO => exact (by (with_reducible repeat (first | apply Kd.R_alloc | apply Kd.R_drewN | apply Kd.R_drew));exact Kd.R_mono (Kd.R_far (p := ⟨gb203,2,none⟩) (Kd.R_far (p := ⟨gb203,1,none⟩) (Kd.R_mono zbF.out (fun k_ hk => (⟨hk,hk⟩ : _ ∧ k_ ≠ gb203))) (fun _ hk => hk.2) (.int .i64 t209)) (fun _ hk => hk.2) (.string (⟨#[]⟩ : ByteArray))) (fun _ hk => hk.1)));(case aS => exact (below_size (by repeat (first | (with_reducible first | exact HB.out | apply below_alloc | apply pw_below_drewN | apply below_drew1 | refine below_set ?_ zbV.out) | exact HB.out))));(case aL => have := LMc27.out;omega);intro v212 w38 ho hb hg hat;rw [← Ny211.out] at ho;have n0_ := am (blk_grown (g := gb203) (o := .cells #[.int .i64 1,.int .i64 t209,.string (⟨#[]⟩ : ByteArray),.int .i64 x6_1] 63 (0,0)) (by (with_reducible repeat (first | refine blk_drewN ?_ _ | refine blk_drew ?_ | refine blk_alloc ?_ _));refine blk_put (cs := #[.int .i64 1,.int .i64 t209,.string (rs.extract 0 (t208 : Int).toNat),.int .i64 x6_1]) ?_ 2 _ rfl;(with_reducible repeat (first | refine blk_drewN ?_ _ | refine blk_drew ?_ | refine blk_alloc ?_ _));refine blk_put (cs := #[.int .i64 1,.int .i64 0,.string (rs.extract 0 (t208 : Int).toNat),.int .i64 x6_1]) ?_ 1 _ rfl;(with_reducible repeat (first | refine blk_drewN ?_ _ | refine blk_drew ?_ | refine blk_alloc ?_ _));exact zar.out) hg (Kd.R_away zbF.out (fun _ hk => hk)));have n1_ := am (hb);have n2_ := am (ho);clear zar;clear HB;clear zbF;have zar := n0_;have HB := n1_;have HO213 := n2_;clear n0_ n1_ n2_;clear ho hb hg hat))
                go_roundg k1
                case measure => have := HK1.out;omega
                case rel => exact ⟨(y211),(wrap64 (x6_1 + ((rs.extract 0 (t208 : Int).toNat).size : Int))),(by first | rfl | (simp;done) | (simp [*];done)),H',⟨by have := HK1.out;omega⟩,⟨by (with_reducible repeat (first | apply Kd.R_alloc | apply Kd.R_drewN | apply Kd.R_drew));exact Kd.R_mono HO213.out (fun _ hk => trivial)⟩,⟨by repeat (first | (with_reducible first | exact HB.out | apply below_alloc | apply pw_below_drewN | apply below_drew1 | refine below_set ?_ zbV.out) | exact HB.out)⟩⟩
               ·rw [if_neg c27] at H
                exact absurd H (by simp)
              ·exact absurd rfl c26
             ·replace c25 := Bool.eq_false_iff.mpr c25
              subst c25
              have H1 : (some (([] : List (S63)),x6_1,6)) = some (r1,r2,r3) := by rw [if_neg (show ¬ (false = true) by decide)] at H;exact H
              clear H
              have H := H1
              clear H1
              simp only [Option.some.injEq,Prod.mk.injEq] at H
              obtain ⟨rfl,rfl,rfl⟩ := H
              try go_wp2_with (first | ((with_reducible refine gate_dst (N := 8) rfl ?_);refine box_event ?hg (N := 8) ?hd (cs := #[.int .i64 0,.int .i64 0,.string (⟨#[]⟩ : ByteArray),.int .i64 0]) (t := 63) ?hr ?_;(case hd => rfl);(case hg => rfl);(case hr => first | (go_simp;done) | (go_simp;rfl));intro gb203 hg w51 zan hb;have n0_ := am (Kd.R_below (Kd.R_elderB (by (with_reducible repeat (first | apply Kd.R_alloc | apply Kd.R_drewN | apply Kd.R_drew));exact zbF.out) gb203 (Nat.le_of_eq hg.symm)) hb);have n1_ := am (below_step (by repeat (first | (with_reducible first | exact HB.out | apply below_alloc | apply pw_below_drewN | apply below_drew1) | exact HB.out)) hb);have n2_ := am (zan);have n3_ := am ((by rw [hg];exact (below_size (by repeat (first | (with_reducible first | exact HB.out | apply below_alloc | apply pw_below_drewN | apply below_drew1) | exact HB.out))) : w.heap.size ≤ gb203));have n4_ := am ((by rw [hg];exact (below_size (by repeat (first | (with_reducible first | exact HB.out | apply below_alloc | apply pw_below_drewN | apply below_drew1) | exact HB.out))) : w.heap.size ≤ gb203));clear zbF;clear HB;have zbF := n0_;have HB := n1_;have zar := n2_;have zgv := n3_;have zbV := n4_;clear n0_ n1_ n2_ n3_ n4_;clear hb zan hg;have zfS : w51.cell? ⟨gb203,0,none⟩ = some (.int .i64 0) := (blk_cell zar.out 0).trans rfl;have zfT : w51.cell? ⟨gb203,1,none⟩ = some (.int .i64 0) := (blk_cell zar.out 1).trans rfl;have zfU : w51.cell? ⟨gb203,2,none⟩ = some (.string (⟨#[]⟩ : ByteArray)) := (blk_cell zar.out 2).trans rfl;have hcz52_3 : w51.cell? ⟨gb203,3,none⟩ = some (.int .i64 0) := (blk_cell zar.out 3).trans rfl;have zfV := blk_frozen zar.out 0;have zfW := blk_frozen zar.out 1;have zfX := blk_frozen zar.out 2;have hfz52_3 := blk_frozen zar.out 3;have p7 : 0 ≤ (0 : Int) := (by omega);have q7 : 0 < rs.size := (by have : (0 : Int) < (rs.size : Int) := of_decide_eq_true (by first | (with_reducible assumption) | assumption);omega);have hx7 : ∀ h : 0 < rs.size,((rs[0]'h).toNat : Int) = bt rs 0 := bt_at rs 0;clear p7;have qi7 : (0 < (rs.size : Int)) = True := eq_true (of_decide_eq_true (by first | (with_reducible assumption) | assumption));replace q7 := eq_true q7) | ((with_reducible refine gate_callee (f := 42) rfl ?_);refine goesL_ (some 36) rfl rfl Tryd.func42 (by kernel_rfl) rfl #[.int .u8 (bt rs 0)] rfl (by (try simp only [List.map_toArray,List.map_cons,List.map_nil]);first | done | rfl | (simp only [List.length_drop,List.length_take];rfl)) ?_;(with_reducible refine (lex_space.calls (bt rs 0) false _ A8.out).mono ?_);rintro e w' ⟨rfl,⟨nd,rfl⟩⟩;refine ⟨_,rfl,?_⟩) | ((with_reducible refine gate_callee (f := 45) rfl ?_);refine goesL_ (some 50) rfl rfl Tryd.func45 (by kernel_rfl) rfl #[.int .u8 (bt rs 0)] rfl (by (try simp only [List.map_toArray,List.map_cons,List.map_nil]);first | done | rfl | (simp only [List.length_drop,List.length_take];rfl)) ?_;(with_reducible refine (lex_digit.calls (bt rs 0) true _ A19.out).mono ?_);rintro e w' ⟨rfl,⟨nd,rfl⟩⟩;refine ⟨_,rfl,?_⟩))
              have n0_ : Aside0 (Kd.R k63 63 ((((w51.setCell ⟨gb203,0,none⟩ (.int .i64 0)).setCell ⟨gb203,1,none⟩ (.int .i64 0)).setCell ⟨gb203,2,none⟩ (.string (⟨#[]⟩ : ByteArray))).setCell ⟨gb203,3,none⟩ (.int .i64 x6_1)) w.heap.size (fun k_ => k_ ≠ gb203) u5 x5_1) := ⟨by (with_reducible repeat (first | apply Kd.R_alloc | apply Kd.R_drewN | apply Kd.R_drew));exact Kd.R_mono (Kd.R_far (p := ⟨gb203,3,none⟩) (Kd.R_far (p := ⟨gb203,2,none⟩) (Kd.R_far (p := ⟨gb203,1,none⟩) (Kd.R_far (p := ⟨gb203,0,none⟩) (Kd.R_mono zbF.out (fun k_ hk => (⟨hk,hk.2⟩ : _ ∧ k_ ≠ gb203))) (fun _ hk => hk.2) (.int .i64 0)) (fun _ hk => hk.2) (.int .i64 0)) (fun _ hk => hk.2) (.string (⟨#[]⟩ : ByteArray))) (fun _ hk => hk.2) (.int .i64 x6_1)) (fun _ hk => hk.1.2)⟩
              have n1_ : Aside0 (((((w51.setCell ⟨gb203,0,none⟩ (.int .i64 0)).setCell ⟨gb203,1,none⟩ (.int .i64 0)).setCell ⟨gb203,2,none⟩ (.string (⟨#[]⟩ : ByteArray))).setCell ⟨gb203,3,none⟩ (.int .i64 x6_1)).heap[gb203]? = some (.cells #[.int .i64 0,.int .i64 0,.string (⟨#[]⟩ : ByteArray),.int .i64 x6_1] 63 (0,0))) := ⟨by (with_reducible repeat (first | refine blk_drewN ?_ _ | refine blk_drew ?_ | refine blk_alloc ?_ _));refine blk_put (cs := #[.int .i64 0,.int .i64 0,.string (⟨#[]⟩ : ByteArray),.int .i64 0]) ?_ 3 _ rfl;(with_reducible repeat (first | refine blk_drewN ?_ _ | refine blk_drew ?_ | refine blk_alloc ?_ _));refine blk_put (cs := #[.int .i64 0,.int .i64 0,.string (⟨#[]⟩ : ByteArray),.int .i64 0]) ?_ 2 _ rfl;(with_reducible repeat (first | refine blk_drewN ?_ _ | refine blk_drew ?_ | refine blk_alloc ?_ _));refine blk_put (cs := #[.int .i64 0,.int .i64 0,.string (⟨#[]⟩ : ByteArray),.int .i64 0]) ?_ 1 _ rfl;(with_reducible repeat (first | refine blk_drewN ?_ _ | refine blk_drew ?_ | refine blk_alloc ?_ _));refine blk_put (cs := #[.int .i64 0,.int .i64 0,.string (⟨#[]⟩ : ByteArray),.int .i64 0]) ?_ 0 _ rfl;(with_reducible repeat (first | refine blk_drewN ?_ _ | refine blk_drew ?_ | refine blk_alloc ?_ _));exact zar.out⟩
              have n2_ : Aside0 (Below w.heap.size w ((((w51.setCell ⟨gb203,0,none⟩ (.int .i64 0)).setCell ⟨gb203,1,none⟩ (.int .i64 0)).setCell ⟨gb203,2,none⟩ (.string (⟨#[]⟩ : ByteArray))).setCell ⟨gb203,3,none⟩ (.int .i64 x6_1))) := ⟨by repeat (first | (with_reducible first | exact HB.out | apply below_alloc | apply pw_below_drewN | apply below_drew1 | refine below_set ?_ zbV.out) | exact HB.out)⟩
              (try clear zbF)
              (try clear zar)
              (try clear HB)
              generalize ((((w51.setCell ⟨gb203,0,none⟩ (.int .i64 0)).setCell ⟨gb203,1,none⟩ (.int .i64 0)).setCell ⟨gb203,2,none⟩ (.string (⟨#[]⟩ : ByteArray))).setCell ⟨gb203,3,none⟩ (.int .i64 x6_1)) = w53 at n0_ n1_ n2_ ⊢
              have zbF := n0_
              have zar := n1_
              have HB := n2_
              clear n0_ n1_ n2_
              (try (rw [drewN_self w53];generalize hq_ : World.drewN w53 _ = w53;have n0_ : Aside0 (Kd.R k63 63 w53 w.heap.size (fun k_ => k_ ≠ gb203) u5 x5_1) := ⟨by rw [← hq_];exact (by (with_reducible repeat (first | apply Kd.R_alloc | apply Kd.R_drewN | apply Kd.R_drew));exact zbF.out)⟩;have n1_ : Aside0 (w53.heap[gb203]? = some (.cells #[.int .i64 0,.int .i64 0,.string (⟨#[]⟩ : ByteArray),.int .i64 x6_1] 63 (0,0))) := ⟨by rw [← hq_];exact zar.out⟩;have n2_ : Aside0 (Below w.heap.size w w53) := ⟨by rw [← hq_];exact (by repeat (first | (with_reducible first | exact HB.out | apply below_alloc | apply pw_below_drewN | apply below_drew1 | refine below_set ?_ zbV.out) | exact HB.out))⟩;clear zbF zar HB hq_;have zbF := n0_;have zar := n1_;have HB := n2_;clear n0_ n1_ n2_))
              have n0_ := am (Kd.R_drew zbF.out)
              have n1_ := am (blk_drew zar.out)
              have n2_ := am (below_drew1 HB.out)
              clear zbF
              clear zar
              clear HB
              have zbF := n0_
              have zar := n1_
              have HB := n2_
              clear n0_ n1_ n2_
              refine start_ (n := 8) (S := fun w' => True) (ds := []) #[false,false,false,false,false,false,false,false] (by kernel_rfl) rfl rfl trivial (fun hHeld => ?_);refine with_tabW lex_Cut.tab17 lex_Cut.bits17 (fun HT_ HW_ => ?_)
              generalize w53.drew = w54 at zbF zar HB hHeld ⊢
              refine pure_ (i := 0) (N := some 51) (v := ?_) (a' := ?_) #[true,false,false,false,false,false,false,false] rfl rfl (any_of HT_.out (by kernel_rfl)) (fun _ _ _ h => h) (Or.inl ⟨by rfl,?_⟩) ?_ ?_
              rotate_left
              ·intro w'
               go_simp
               with_reducible rfl
              rotate_left
              ·simp only [Act.put,List.setIfInBounds_toArray,List.set_cons_zero,List.set_cons_succ,i64_w,i32_w]
               rfl
              refine pure_ (i := 1) (N := some 52) (v := ?_) (a' := ?_) #[true,true,false,false,false,false,false,false] rfl rfl (any_of HT_.out (by kernel_rfl)) (fun _ _ _ h => h) (Or.inl ⟨by rfl,?_⟩) ?_ ?_
              rotate_left
              ·intro w'
               go_simp
               with_reducible rfl
              rotate_left
              ·simp only [Act.put,List.setIfInBounds_toArray,List.set_cons_zero,List.set_cons_succ,i64_w,i32_w]
               rfl
              refine pure_ (i := 4) (N := some 55) (v := ?_) (a' := ?_) #[true,true,false,false,true,false,false,false] rfl rfl (any_of HT_.out (by kernel_rfl)) (fun _ _ _ h => h) (Or.inl ⟨by rfl,?_⟩) ?_ ?_
              rotate_left
              ·intro w'
               go_simp
               with_reducible rfl
              rotate_left
              ·simp only [Act.put,List.setIfInBounds_toArray,List.set_cons_zero,List.set_cons_succ,i64_w,i32_w]
               rfl
              refine one_ (i := 2) (N := some 53) #[true,true,true,false,true,false,false,false] rfl rfl (one_of HT_.out (by kernel_rfl)) (by decide) (fun K hK => ?_)
              refine goes_ Tryd.func43 (by kernel_rfl) rfl #[.string rs,.func (.func 45) #[] #[]] (by rfl) rfl rfl (by (try simp only [List.map_toArray,List.map_cons,List.map_nil]);first | done | rfl | (simp only [List.length_drop,List.length_take];rfl)) ?_
              with_reducible refine (lex_span45.calls rs  t208 _ A21.out).mono ?_
              rintro e w55 ⟨rfl,hb⟩
              refine ⟨_,rfl,?_⟩
              have n0_ := am (Kd.R_below (by (with_reducible repeat (first | apply Kd.R_alloc | apply Kd.R_drewN | apply Kd.R_drew));exact zbF.out) hb)
              have n1_ := am (blk_below (g := gb203) (o := .cells #[.int .i64 0,.int .i64 0,.string (⟨#[]⟩ : ByteArray),.int .i64 x6_1] 63 (0,0)) zar.out hb)
              have n2_ := am (below_step (by repeat (first | (with_reducible first | exact HB.out | apply below_alloc | apply pw_below_drewN | apply below_drew1 | refine below_set ?_ zbV.out) | exact HB.out)) hb)
              clear zbF
              clear zar
              clear HB
              have zbF := n0_
              have zar := n1_
              have HB := n2_
              clear n0_ n1_ n2_
              (try clear hb)
              (try clear hb2)
              (try clear hk)
              (try clear hi)
              refine hK.out _ _ trivial (fun hHeld => ?_)
              clear hK K
              refine norm_ (a' := ?_) ?_ ?_
              rotate_left
              ·show Act.put _ (some 53) _ = _
               simp only [Act.put,List.setIfInBounds_toArray,List.set_cons_zero,List.set_cons_succ,i64_w,i32_w]
               rfl
              refine pure_ (i := 3) (N := some 54) (v := ?_) (a' := ?_) #[true,true,true,true,true,false,false,false] rfl rfl (any_of HT_.out (by kernel_rfl)) (fun _ _ _ h => h) (Or.inl ⟨by rfl,?_⟩) ?_ ?_
              rotate_left
              ·intro w'
               go_simp
               with_reducible rfl
              rotate_left
              ·simp only [Act.put,List.setIfInBounds_toArray,List.set_cons_zero,List.set_cons_succ,i64_w,i32_w]
               rfl
              refine one_ (i := 5) (N := none) #[true,true,true,true,true,true,false,false] rfl rfl (one_of HT_.out (by kernel_rfl)) (by decide) (fun K hK => ?_)
              have hs56 : w55.cell? ⟨gb203,0,none⟩ = some (.int .i64 0) := (blk_cell zar.out 0).trans rfl
              have hfs56 := blk_frozen zar.out 0
              refine skip_ (w1 := ?_) (by rfl) rfl ?_ ?_
              rotate_left
              ·go_simp
               rfl
              refine hK.out _ _ trivial (fun hHeld => ?_)
              clear hK K
              refine pure_ (i := 6) (N := some 56) (v := ?_) (a' := ?_) #[true,true,true,true,true,true,true,false] rfl rfl (any_of HT_.out (by kernel_rfl)) (fun _ _ _ h => h) (Or.inl ⟨by rfl,?_⟩) ?_ ?_
              rotate_left
              ·intro w'
               go_simp
               with_reducible rfl
              rotate_left
              ·simp only [Act.put,List.setIfInBounds_toArray,List.set_cons_zero,List.set_cons_succ,i64_w,i32_w]
               rfl
              refine one_ (i := 7) (N := none) #[true,true,true,true,true,true,true,true] rfl rfl (one_of HT_.out (by kernel_rfl)) (by decide) (fun K hK => ?_)
              have hs57 : w55.cell? ⟨gb203,2,none⟩ = some (.string (⟨#[]⟩ : ByteArray)) := (blk_cell zar.out 2).trans rfl
              have hfs57 := blk_frozen zar.out 2
              refine skip_ (w1 := ?_) (by rfl) rfl ?_ ?_
              rotate_left
              ·go_simp
               rfl
              refine hK.out _ _ trivial (fun hHeld => ?_)
              clear hK K
              refine done_ (done_of HT_.out (by kernel_rfl)) ?_
              have hcz58_0 : w55.cell? ⟨gb203,0,none⟩ = some (.int .i64 0) := (blk_cell zar.out 0).trans rfl
              have hcz58_1 : w55.cell? ⟨gb203,1,none⟩ = some (.int .i64 0) := (blk_cell zar.out 1).trans rfl
              have hcz58_2 : w55.cell? ⟨gb203,2,none⟩ = some (.string (⟨#[]⟩ : ByteArray)) := (blk_cell zar.out 2).trans rfl
              have hcz58_3 : w55.cell? ⟨gb203,3,none⟩ = some (.int .i64 x6_1) := (blk_cell zar.out 3).trans rfl
              have hfz58_0 := blk_frozen zar.out 0
              have hfz58_1 := blk_frozen zar.out 1
              have hfz58_2 := blk_frozen zar.out 2
              have hfz58_3 := blk_frozen zar.out 3
              try go_wp2_with (first | ((with_reducible refine gate_callee (f := 46) rfl ?_);refine goesL_ (some 60) rfl rfl Tryd.func46 (by kernel_rfl) rfl #[.string (rs.extract 0 (t208 : Int).toNat)] rfl (by (try simp only [List.map_toArray,List.map_cons,List.map_nil]);first | done | rfl | (simp only [List.length_drop,List.length_take];rfl)) ?_;(with_reducible refine (lex_number.calls (rs.extract 0 (t208 : Int).toNat) t209 false _ A24.out).mono ?_);rintro e w59 ⟨rfl,hb⟩;refine ⟨_,rfl,?_⟩;have n0_ := am (Kd.R_below (by (with_reducible repeat (first | apply Kd.R_alloc | apply Kd.R_drewN | apply Kd.R_drew));exact (Kd.R_mono (Kd.R_far (p := ⟨gb203,2,none⟩) (Kd.R_far (p := ⟨gb203,0,none⟩) (Kd.R_mono zbF.out (fun k_ hk => (⟨hk,hk⟩ : _ ∧ k_ ≠ gb203))) (fun _ hk => hk.2) (.int .i64 1)) (fun _ hk => hk.2) (.string (rs.extract 0 (t208 : Int).toNat))) (fun _ h_ => h_.1))) hb);have n1_ := am (blk_below (g := gb203) (o := .cells #[.int .i64 1,.int .i64 0,.string (rs.extract 0 (t208 : Int).toNat),.int .i64 x6_1] 63 (0,0)) (by (with_reducible repeat (first | refine blk_drewN ?_ _ | refine blk_drew ?_ | refine blk_alloc ?_ _));refine blk_put (cs := #[.int .i64 1,.int .i64 0,.string (⟨#[]⟩ : ByteArray),.int .i64 x6_1]) ?_ 2 _ rfl;(with_reducible repeat (first | refine blk_drewN ?_ _ | refine blk_drew ?_ | refine blk_alloc ?_ _));refine blk_put (cs := #[.int .i64 0,.int .i64 0,.string (⟨#[]⟩ : ByteArray),.int .i64 x6_1]) ?_ 0 _ rfl;(with_reducible repeat (first | refine blk_drewN ?_ _ | refine blk_drew ?_ | refine blk_alloc ?_ _));exact zar.out) hb);have n2_ := am (below_step (by repeat (first | (with_reducible first | exact HB.out | apply below_alloc | apply pw_below_drewN | apply below_drew1 | refine below_set ?_ zbV.out) | exact HB.out)) hb);clear zbF;clear zar;clear HB;have zbF := n0_;have zar := n1_;have HB := n2_;clear n0_ n1_ n2_;(try clear hb);(try clear hb2);(try clear hk);(try clear hi)))
              go_ret3
              exact ⟨_,by first | rfl | (simp [errW_none,errW_some] <;> rfl) | (simp [*,errW_none,errW_some] <;> rfl),by first | exact Kd.R_nil _ _ _ _ _ | exact Kd.N_nil _ _ _ _ _ | exact Kd.V_nil _ _ _ _ _ | exact Kd.Q_nil _ _ _ _ _ | exact Kd.S_nil _ _ _ _ _,by repeat (first | (with_reducible first | exact HB.out | apply below_alloc | apply pw_below_drewN | apply below_drew1 | refine below_set ?_ zbV.out) | exact HB.out)⟩
            ·rw [if_neg c23] at H
             exact absurd H (by simp)
           ·rw [if_neg c22] at H
            exact absurd H (by simp)
          ·replace c20 := Bool.eq_false_iff.mpr c20
           subst c20
           have H1 : ((lex_letter.f (bt rs 0)).bind fun t217 => (if t217 = true then ((lex_span48.f rs).bind fun t218 => (if 0 ≤ t218 then (if t218 ≤ (rs.size : Int) then (if 2 = 1 then (if x5_1.length < 3518437208883 then (lex_Cut.l0 k1 a0 (x5_1 ++ [(⟨2,0,(⟨#[]⟩ : ByteArray),x6_1⟩ : S63)]) (wrap64 (x6_1 + ((rs.extract 0 (t218 : Int).toNat).size : Int)))) else (none)) else (if x5_1.length < 3518437208883 then (lex_Cut.l0 k1 a0 (x5_1 ++ [(⟨2,0,rs.extract 0 (t218 : Int).toNat,x6_1⟩ : S63)]) (wrap64 (x6_1 + ((rs.extract 0 (t218 : Int).toNat).size : Int)))) else (none))) else (none)) else (none))) else ((lex_sign.f rs).bind fun t225 => (if t225.toList = ([] : List UInt8) then (some (([] : List (S63)),x6_1,2)) else (if 3 = 1 then (if x5_1.length < 3518437208883 then (lex_Cut.l0 k1 a0 (x5_1 ++ [(⟨3,0,(⟨#[]⟩ : ByteArray),x6_1⟩ : S63)]) (wrap64 (x6_1 + (t225.size : Int)))) else (none)) else (if x5_1.length < 3518437208883 then (lex_Cut.l0 k1 a0 (x5_1 ++ [(⟨3,0,t225,x6_1⟩ : S63)]) (wrap64 (x6_1 + (t225.size : Int)))) else (none))))))) = some (r1,r2,r3) := by rw [if_neg (show ¬ (false = true) by decide)] at H;exact H
           clear H
           have H := H1
           clear H1
           replace H := Option.bind_eq_some_iff.mp H
           obtain ⟨t217,A600,H⟩ := H
           replace H : (if t217 = true then ((lex_span48.f rs).bind fun t218 => (if 0 ≤ t218 then (if t218 ≤ (rs.size : Int) then (if 2 = 1 then (if x5_1.length < 3518437208883 then (lex_Cut.l0 k1 a0 (x5_1 ++ [(⟨2,0,(⟨#[]⟩ : ByteArray),x6_1⟩ : S63)]) (wrap64 (x6_1 + ((rs.extract 0 (t218 : Int).toNat).size : Int)))) else (none)) else (if x5_1.length < 3518437208883 then (lex_Cut.l0 k1 a0 (x5_1 ++ [(⟨2,0,rs.extract 0 (t218 : Int).toNat,x6_1⟩ : S63)]) (wrap64 (x6_1 + ((rs.extract 0 (t218 : Int).toNat).size : Int)))) else (none))) else (none)) else (none))) else ((lex_sign.f rs).bind fun t225 => (if t225.toList = ([] : List UInt8) then (some (([] : List (S63)),x6_1,2)) else (if 3 = 1 then (if x5_1.length < 3518437208883 then (lex_Cut.l0 k1 a0 (x5_1 ++ [(⟨3,0,(⟨#[]⟩ : ByteArray),x6_1⟩ : S63)]) (wrap64 (x6_1 + (t225.size : Int)))) else (none)) else (if x5_1.length < 3518437208883 then (lex_Cut.l0 k1 a0 (x5_1 ++ [(⟨3,0,t225,x6_1⟩ : S63)]) (wrap64 (x6_1 + (t225.size : Int)))) else (none)))))) = some (r1,r2,r3) := H
           have A60 := am A600
           clear A600
           by_cases c61 : t217 = true
           ·subst c61
            have H1 : ((lex_span48.f rs).bind fun t218 => (if 0 ≤ t218 then (if t218 ≤ (rs.size : Int) then (if 2 = 1 then (if x5_1.length < 3518437208883 then (lex_Cut.l0 k1 a0 (x5_1 ++ [(⟨2,0,(⟨#[]⟩ : ByteArray),x6_1⟩ : S63)]) (wrap64 (x6_1 + ((rs.extract 0 (t218 : Int).toNat).size : Int)))) else (none)) else (if x5_1.length < 3518437208883 then (lex_Cut.l0 k1 a0 (x5_1 ++ [(⟨2,0,rs.extract 0 (t218 : Int).toNat,x6_1⟩ : S63)]) (wrap64 (x6_1 + ((rs.extract 0 (t218 : Int).toNat).size : Int)))) else (none))) else (none)) else (none))) = some (r1,r2,r3) := by rw [if_pos rfl] at H;exact H
            clear H
            have H := H1
            clear H1
            replace H := Option.bind_eq_some_iff.mp H
            obtain ⟨t218,A620,H⟩ := H
            replace H : (if 0 ≤ t218 then (if t218 ≤ (rs.size : Int) then (if 2 = 1 then (if x5_1.length < 3518437208883 then (lex_Cut.l0 k1 a0 (x5_1 ++ [(⟨2,0,(⟨#[]⟩ : ByteArray),x6_1⟩ : S63)]) (wrap64 (x6_1 + ((rs.extract 0 (t218 : Int).toNat).size : Int)))) else (none)) else (if x5_1.length < 3518437208883 then (lex_Cut.l0 k1 a0 (x5_1 ++ [(⟨2,0,rs.extract 0 (t218 : Int).toNat,x6_1⟩ : S63)]) (wrap64 (x6_1 + ((rs.extract 0 (t218 : Int).toNat).size : Int)))) else (none))) else (none)) else (none)) = some (r1,r2,r3) := H
            have A62 := am A620
            clear A620
            by_cases c63 : 0 ≤ t218
            ·rw [if_pos c63] at H
             have c63b0 := eq_true c63
             have c63b1 : decide (0 ≤ t218) = true := decide_eq_true c63
             clear c63
             by_cases c64 : t218 ≤ (rs.size : Int)
             ·rw [if_pos c64] at H
              have c64b0 := eq_true c64
              have c64b1 : decide (t218 ≤ (rs.size : Int)) = true := decide_eq_true c64
              clear c64
              by_cases c65 : 2 = 1
              ·exact absurd c65 (by decide)
              ·rw [if_neg c65] at H
               have c65b0 : (2 == 1) = false := beq_eq_false_iff_ne.mpr c65
               have c65b1 : (2 != 1) = true := bne_iff_ne.mpr c65
               by_cases c76 : x5_1.length < 3518437208883
               ·rw [if_pos c76] at H
                have LMc76 := am c76
                clear c76
                obtain ⟨y222,zhr⟩ : ∃ y_ : List (S63),y_ = (x5_1 ++ [(⟨2,0,rs.extract 0 (t218 : Int).toNat,x6_1⟩ : S63)]) := ⟨_,rfl⟩
                replace H : (lex_Cut.l0 k1 a0 y222 (wrap64 (x6_1 + ((rs.extract 0 (t218 : Int).toNat).size : Int)))) = some (r1,r2,r3) := by first | (rw [zhr];with_reducible exact H) | (have H2_ := (Option.bind_some _ _).symm.trans H;rw [zhr];with_reducible exact H2_) | (have H2_ := (Option.bind_some _ _).symm.trans H;with_reducible exact H2_) | with_reducible exact H | (rw [zhr];exact H) | exact H
                have Ny222 := am zhr
                clear zhr
                have H' := am H
                clear H
                try go_wp2_with (first | ((with_reducible refine gate_dst (N := 8) rfl ?_);refine box_event ?hg (N := 8) ?hd (cs := #[.int .i64 0,.int .i64 0,.string (⟨#[]⟩ : ByteArray),.int .i64 0]) (t := 63) ?hr ?_;(case hd => rfl);(case hg => rfl);(case hr => first | (go_simp;done) | (go_simp;rfl));intro gb203 hg w77 zan hb;have n0_ := am (Kd.R_below (Kd.R_elderB (by (with_reducible repeat (first | apply Kd.R_alloc | apply Kd.R_drewN | apply Kd.R_drew));exact zbF.out) gb203 (Nat.le_of_eq hg.symm)) hb);have n1_ := am (below_step (by repeat (first | (with_reducible first | exact HB.out | apply below_alloc | apply pw_below_drewN | apply below_drew1) | exact HB.out)) hb);have n2_ := am (zan);have n3_ := am ((by rw [hg];exact (below_size (by repeat (first | (with_reducible first | exact HB.out | apply below_alloc | apply pw_below_drewN | apply below_drew1) | exact HB.out))) : w.heap.size ≤ gb203));have n4_ := am ((by rw [hg];exact (below_size (by repeat (first | (with_reducible first | exact HB.out | apply below_alloc | apply pw_below_drewN | apply below_drew1) | exact HB.out))) : w.heap.size ≤ gb203));clear zbF;clear HB;have zbF := n0_;have HB := n1_;have zar := n2_;have zgv := n3_;have zbV := n4_;clear n0_ n1_ n2_ n3_ n4_;clear hb zan hg;have hcz78_0 : w77.cell? ⟨gb203,0,none⟩ = some (.int .i64 0) := (blk_cell zar.out 0).trans rfl;have hcz78_1 : w77.cell? ⟨gb203,1,none⟩ = some (.int .i64 0) := (blk_cell zar.out 1).trans rfl;have hcz78_2 : w77.cell? ⟨gb203,2,none⟩ = some (.string (⟨#[]⟩ : ByteArray)) := (blk_cell zar.out 2).trans rfl;have hcz78_3 : w77.cell? ⟨gb203,3,none⟩ = some (.int .i64 0) := (blk_cell zar.out 3).trans rfl;have hfz78_0 := blk_frozen zar.out 0;have hfz78_1 := blk_frozen zar.out 1;have hfz78_2 := blk_frozen zar.out 2;have hfz78_3 := blk_frozen zar.out 3;have p7 : 0 ≤ (0 : Int) := (by omega);have q7 : 0 < rs.size := (by have : (0 : Int) < (rs.size : Int) := of_decide_eq_true (by first | (with_reducible assumption) | assumption);omega);have hx7 : ∀ h : 0 < rs.size,((rs[0]'h).toNat : Int) = bt rs 0 := bt_at rs 0;clear p7;have qi7 : (0 < (rs.size : Int)) = True := eq_true (of_decide_eq_true (by first | (with_reducible assumption) | assumption));replace q7 := eq_true q7) | ((with_reducible refine gate_callee (f := 42) rfl ?_);refine goesL_ (some 36) rfl rfl Tryd.func42 (by kernel_rfl) rfl #[.int .u8 (bt rs 0)] rfl (by (try simp only [List.map_toArray,List.map_cons,List.map_nil]);first | done | rfl | (simp only [List.length_drop,List.length_take];rfl)) ?_;(with_reducible refine (lex_space.calls (bt rs 0) false _ A8.out).mono ?_);rintro e w' ⟨rfl,⟨nd,rfl⟩⟩;refine ⟨_,rfl,?_⟩) | ((with_reducible refine gate_callee (f := 45) rfl ?_);refine goesL_ (some 50) rfl rfl Tryd.func45 (by kernel_rfl) rfl #[.int .u8 (bt rs 0)] rfl (by (try simp only [List.map_toArray,List.map_cons,List.map_nil]);first | done | rfl | (simp only [List.length_drop,List.length_take];rfl)) ?_;(with_reducible refine (lex_digit.calls (bt rs 0) false _ A19.out).mono ?_);rintro e w' ⟨rfl,⟨nd,rfl⟩⟩;refine ⟨_,rfl,?_⟩) | ((with_reducible refine gate_callee (f := 47) rfl ?_);refine goesL_ (some 70) rfl rfl Tryd.func47 (by kernel_rfl) rfl #[.int .u8 (bt rs 0)] rfl (by (try simp only [List.map_toArray,List.map_cons,List.map_nil]);first | done | rfl | (simp only [List.length_drop,List.length_take];rfl)) ?_;(with_reducible refine (lex_letter.calls (bt rs 0) true _ A60.out).mono ?_);rintro e w' ⟨rfl,⟨nd,rfl⟩⟩;refine ⟨_,rfl,?_⟩))
                have n0_ : Aside0 (Kd.R k63 63 ((((w77.setCell ⟨gb203,0,none⟩ (.int .i64 0)).setCell ⟨gb203,1,none⟩ (.int .i64 0)).setCell ⟨gb203,2,none⟩ (.string (⟨#[]⟩ : ByteArray))).setCell ⟨gb203,3,none⟩ (.int .i64 x6_1)) w.heap.size (fun k_ => k_ ≠ gb203) u5 x5_1) := ⟨by (with_reducible repeat (first | apply Kd.R_alloc | apply Kd.R_drewN | apply Kd.R_drew));exact Kd.R_mono (Kd.R_far (p := ⟨gb203,3,none⟩) (Kd.R_far (p := ⟨gb203,2,none⟩) (Kd.R_far (p := ⟨gb203,1,none⟩) (Kd.R_far (p := ⟨gb203,0,none⟩) (Kd.R_mono zbF.out (fun k_ hk => (⟨hk,hk.2⟩ : _ ∧ k_ ≠ gb203))) (fun _ hk => hk.2) (.int .i64 0)) (fun _ hk => hk.2) (.int .i64 0)) (fun _ hk => hk.2) (.string (⟨#[]⟩ : ByteArray))) (fun _ hk => hk.2) (.int .i64 x6_1)) (fun _ hk => hk.1.2)⟩
                have n1_ : Aside0 (((((w77.setCell ⟨gb203,0,none⟩ (.int .i64 0)).setCell ⟨gb203,1,none⟩ (.int .i64 0)).setCell ⟨gb203,2,none⟩ (.string (⟨#[]⟩ : ByteArray))).setCell ⟨gb203,3,none⟩ (.int .i64 x6_1)).heap[gb203]? = some (.cells #[.int .i64 0,.int .i64 0,.string (⟨#[]⟩ : ByteArray),.int .i64 x6_1] 63 (0,0))) := ⟨by (with_reducible repeat (first | refine blk_drewN ?_ _ | refine blk_drew ?_ | refine blk_alloc ?_ _));refine blk_put (cs := #[.int .i64 0,.int .i64 0,.string (⟨#[]⟩ : ByteArray),.int .i64 0]) ?_ 3 _ rfl;(with_reducible repeat (first | refine blk_drewN ?_ _ | refine blk_drew ?_ | refine blk_alloc ?_ _));refine blk_put (cs := #[.int .i64 0,.int .i64 0,.string (⟨#[]⟩ : ByteArray),.int .i64 0]) ?_ 2 _ rfl;(with_reducible repeat (first | refine blk_drewN ?_ _ | refine blk_drew ?_ | refine blk_alloc ?_ _));refine blk_put (cs := #[.int .i64 0,.int .i64 0,.string (⟨#[]⟩ : ByteArray),.int .i64 0]) ?_ 1 _ rfl;(with_reducible repeat (first | refine blk_drewN ?_ _ | refine blk_drew ?_ | refine blk_alloc ?_ _));refine blk_put (cs := #[.int .i64 0,.int .i64 0,.string (⟨#[]⟩ : ByteArray),.int .i64 0]) ?_ 0 _ rfl;(with_reducible repeat (first | refine blk_drewN ?_ _ | refine blk_drew ?_ | refine blk_alloc ?_ _));exact zar.out⟩
                have n2_ : Aside0 (Below w.heap.size w ((((w77.setCell ⟨gb203,0,none⟩ (.int .i64 0)).setCell ⟨gb203,1,none⟩ (.int .i64 0)).setCell ⟨gb203,2,none⟩ (.string (⟨#[]⟩ : ByteArray))).setCell ⟨gb203,3,none⟩ (.int .i64 x6_1))) := ⟨by repeat (first | (with_reducible first | exact HB.out | apply below_alloc | apply pw_below_drewN | apply below_drew1 | refine below_set ?_ zbV.out) | exact HB.out)⟩
                (try clear zbF)
                (try clear zar)
                (try clear HB)
                generalize ((((w77.setCell ⟨gb203,0,none⟩ (.int .i64 0)).setCell ⟨gb203,1,none⟩ (.int .i64 0)).setCell ⟨gb203,2,none⟩ (.string (⟨#[]⟩ : ByteArray))).setCell ⟨gb203,3,none⟩ (.int .i64 x6_1)) = w79 at n0_ n1_ n2_ ⊢
                have zbF := n0_
                have zar := n1_
                have HB := n2_
                clear n0_ n1_ n2_
                (try (rw [drewN_self w79];generalize hq_ : World.drewN w79 _ = w79;have n0_ : Aside0 (Kd.R k63 63 w79 w.heap.size (fun k_ => k_ ≠ gb203) u5 x5_1) := ⟨by rw [← hq_];exact (by (with_reducible repeat (first | apply Kd.R_alloc | apply Kd.R_drewN | apply Kd.R_drew));exact zbF.out)⟩;have n1_ : Aside0 (w79.heap[gb203]? = some (.cells #[.int .i64 0,.int .i64 0,.string (⟨#[]⟩ : ByteArray),.int .i64 x6_1] 63 (0,0))) := ⟨by rw [← hq_];exact zar.out⟩;have n2_ : Aside0 (Below w.heap.size w w79) := ⟨by rw [← hq_];exact (by repeat (first | (with_reducible first | exact HB.out | apply below_alloc | apply pw_below_drewN | apply below_drew1 | refine below_set ?_ zbV.out) | exact HB.out))⟩;clear zbF zar HB hq_;have zbF := n0_;have zar := n1_;have HB := n2_;clear n0_ n1_ n2_))
                have n0_ := am (Kd.R_drew zbF.out)
                have n1_ := am (blk_drew zar.out)
                have n2_ := am (below_drew1 HB.out)
                clear zbF
                clear zar
                clear HB
                have zbF := n0_
                have zar := n1_
                have HB := n2_
                clear n0_ n1_ n2_
                refine start_ (n := 8) (S := fun w' => True) (ds := []) #[false,false,false,false,false,false,false,false] (by kernel_rfl) rfl rfl trivial (fun hHeld => ?_);refine with_tabW lex_Cut.tab23 lex_Cut.bits23 (fun HT_ HW_ => ?_)
                generalize w79.drew = w80 at zbF zar HB hHeld ⊢
                refine pure_ (i := 0) (N := some 71) (v := ?_) (a' := ?_) #[true,false,false,false,false,false,false,false] rfl rfl (any_of HT_.out (by kernel_rfl)) (fun _ _ _ h => h) (Or.inl ⟨by rfl,?_⟩) ?_ ?_
                rotate_left
                ·intro w'
                 go_simp
                 with_reducible rfl
                rotate_left
                ·simp only [Act.put,List.setIfInBounds_toArray,List.set_cons_zero,List.set_cons_succ,i64_w,i32_w]
                 rfl
                refine pure_ (i := 1) (N := some 72) (v := ?_) (a' := ?_) #[true,true,false,false,false,false,false,false] rfl rfl (any_of HT_.out (by kernel_rfl)) (fun _ _ _ h => h) (Or.inl ⟨by rfl,?_⟩) ?_ ?_
                rotate_left
                ·intro w'
                 go_simp
                 with_reducible rfl
                rotate_left
                ·simp only [Act.put,List.setIfInBounds_toArray,List.set_cons_zero,List.set_cons_succ,i64_w,i32_w]
                 rfl
                refine pure_ (i := 4) (N := some 75) (v := ?_) (a' := ?_) #[true,true,false,false,true,false,false,false] rfl rfl (any_of HT_.out (by kernel_rfl)) (fun _ _ _ h => h) (Or.inl ⟨by rfl,?_⟩) ?_ ?_
                rotate_left
                ·intro w'
                 go_simp
                 with_reducible rfl
                rotate_left
                ·simp only [Act.put,List.setIfInBounds_toArray,List.set_cons_zero,List.set_cons_succ,i64_w,i32_w]
                 rfl
                refine one_ (i := 2) (N := some 73) #[true,true,true,false,true,false,false,false] rfl rfl (one_of HT_.out (by kernel_rfl)) (by decide) (fun K hK => ?_)
                refine goes_ Tryd.func43 (by kernel_rfl) rfl #[.string rs,.func (.func 48) #[] #[]] (by rfl) rfl rfl (by (try simp only [List.map_toArray,List.map_cons,List.map_nil]);first | done | rfl | (simp only [List.length_drop,List.length_take];rfl)) ?_
                with_reducible refine (lex_span48.calls rs  t218 _ A62.out).mono ?_
                rintro e w81 ⟨rfl,hb⟩
                refine ⟨_,rfl,?_⟩
                have n0_ := am (Kd.R_below (by (with_reducible repeat (first | apply Kd.R_alloc | apply Kd.R_drewN | apply Kd.R_drew));exact zbF.out) hb)
                have n1_ := am (blk_below (g := gb203) (o := .cells #[.int .i64 0,.int .i64 0,.string (⟨#[]⟩ : ByteArray),.int .i64 x6_1] 63 (0,0)) zar.out hb)
                have n2_ := am (below_step (by repeat (first | (with_reducible first | exact HB.out | apply below_alloc | apply pw_below_drewN | apply below_drew1 | refine below_set ?_ zbV.out) | exact HB.out)) hb)
                clear zbF
                clear zar
                clear HB
                have zbF := n0_
                have zar := n1_
                have HB := n2_
                clear n0_ n1_ n2_
                (try clear hb)
                (try clear hb2)
                (try clear hk)
                (try clear hi)
                refine hK.out _ _ trivial (fun hHeld => ?_)
                clear hK K
                refine norm_ (a' := ?_) ?_ ?_
                rotate_left
                ·show Act.put _ (some 73) _ = _
                 simp only [Act.put,List.setIfInBounds_toArray,List.set_cons_zero,List.set_cons_succ,i64_w,i32_w]
                 rfl
                refine pure_ (i := 3) (N := some 74) (v := ?_) (a' := ?_) #[true,true,true,true,true,false,false,false] rfl rfl (any_of HT_.out (by kernel_rfl)) (fun _ _ _ h => h) (Or.inl ⟨by rfl,?_⟩) ?_ ?_
                rotate_left
                ·intro w'
                 go_simp
                 with_reducible rfl
                rotate_left
                ·simp only [Act.put,List.setIfInBounds_toArray,List.set_cons_zero,List.set_cons_succ,i64_w,i32_w]
                 rfl
                refine one_ (i := 5) (N := none) #[true,true,true,true,true,true,false,false] rfl rfl (one_of HT_.out (by kernel_rfl)) (by decide) (fun K hK => ?_)
                have hs82 : w81.cell? ⟨gb203,0,none⟩ = some (.int .i64 0) := (blk_cell zar.out 0).trans rfl
                have hfs82 := blk_frozen zar.out 0
                refine skip_ (w1 := ?_) (by rfl) rfl ?_ ?_
                rotate_left
                ·go_simp
                 rfl
                refine hK.out _ _ trivial (fun hHeld => ?_)
                clear hK K
                refine pure_ (i := 6) (N := some 76) (v := ?_) (a' := ?_) #[true,true,true,true,true,true,true,false] rfl rfl (any_of HT_.out (by kernel_rfl)) (fun _ _ _ h => h) (Or.inl ⟨by rfl,?_⟩) ?_ ?_
                rotate_left
                ·intro w'
                 go_simp
                 with_reducible rfl
                rotate_left
                ·simp only [Act.put,List.setIfInBounds_toArray,List.set_cons_zero,List.set_cons_succ,i64_w,i32_w]
                 rfl
                refine one_ (i := 7) (N := none) #[true,true,true,true,true,true,true,true] rfl rfl (one_of HT_.out (by kernel_rfl)) (by decide) (fun K hK => ?_)
                have hs83 : w81.cell? ⟨gb203,2,none⟩ = some (.string (⟨#[]⟩ : ByteArray)) := (blk_cell zar.out 2).trans rfl
                have hfs83 := blk_frozen zar.out 2
                refine skip_ (w1 := ?_) (by rfl) rfl ?_ ?_
                rotate_left
                ·go_simp
                 rfl
                refine hK.out _ _ trivial (fun hHeld => ?_)
                clear hK K
                refine done_ (done_of HT_.out (by kernel_rfl)) ?_
                have hcz84_0 : w81.cell? ⟨gb203,0,none⟩ = some (.int .i64 0) := (blk_cell zar.out 0).trans rfl
                have hcz84_1 : w81.cell? ⟨gb203,1,none⟩ = some (.int .i64 0) := (blk_cell zar.out 1).trans rfl
                have hcz84_2 : w81.cell? ⟨gb203,2,none⟩ = some (.string (⟨#[]⟩ : ByteArray)) := (blk_cell zar.out 2).trans rfl
                have hcz84_3 : w81.cell? ⟨gb203,3,none⟩ = some (.int .i64 x6_1) := (blk_cell zar.out 3).trans rfl
                have hfz84_0 := blk_frozen zar.out 0
                have hfz84_1 := blk_frozen zar.out 1
                have hfz84_2 := blk_frozen zar.out 2
                have hfz84_3 := blk_frozen zar.out 3
                try go_wp2_with (first | ((with_reducible refine gate_builtin (b := .append) (xs := #[.tmp 86,.tmp 88]) rfl ?_);at_builtin;refine Kd.R_append k63 (w0 := w) w.heap.size rfl (.tmp 86) (.tmp 88) 22 63 (.agg #[(.int .i64 0),(.int .i64 0),(.string ⟨#[]⟩),(.int .i64 0)]) 40 rfl Tryd.underlying22 info63 rfl (by decide) (by omega) u5 x5_1 (⟨2,0,rs.extract 0 (t218 : Int).toNat,x6_1⟩ : S63) [.int .i64 2,.int .i64 0,.string (rs.extract 0 (t218 : Int).toNat),.int .i64 x6_1] (fun k_ => k_ ≠ gb203) (fun _ => False) rfl (by first | (go_simp;done) | (go_simp;rfl)) ?aP (fun _ hk => hk.elim) ?aF ?aO ?aB ?aS ?aL ?_;(case aP => exact k63_mkM _ _ _ (⟨2,0,rs.extract 0 (t218 : Int).toNat,x6_1⟩ : S63));(case aB => exact (by repeat (first | (with_reducible first | exact HB.out | apply below_alloc | apply pw_below_drewN | apply below_drew1 | refine below_set ?_ zbV.out) | exact HB.out)));(case aF => exact (fun k_ hk => Kd.freshB (g := gb203) (o := .cells #[.int .i64 2,.int .i64 0,.string (rs.extract 0 (t218 : Int).toNat),.int .i64 x6_1] 63 (0,0)) (by (with_reducible repeat (first | refine blk_drewN ?_ _ | refine blk_drew ?_ | refine blk_alloc ?_ _));refine blk_put (cs := #[.int .i64 2,.int .i64 0,.string (⟨#[]⟩ : ByteArray),.int .i64 x6_1]) ?_ 2 _ rfl;(with_reducible repeat (first | refine blk_drewN ?_ _ | refine blk_drew ?_ | refine blk_alloc ?_ _));refine blk_put (cs := #[.int .i64 0,.int .i64 0,.string (⟨#[]⟩ : ByteArray),.int .i64 x6_1]) ?_ 0 _ rfl;(with_reducible repeat (first | refine blk_drewN ?_ _ | refine blk_drew ?_ | refine blk_alloc ?_ _));exact zar.out) k_ hk));(case aO => exact (by (with_reducible repeat (first | apply Kd.R_alloc | apply Kd.R_drewN | apply Kd.R_drew));exact Kd.R_mono (Kd.R_far (p := ⟨gb203,2,none⟩) (Kd.R_far (p := ⟨gb203,0,none⟩) (Kd.R_mono zbF.out (fun k_ hk => (⟨hk,hk⟩ : _ ∧ k_ ≠ gb203))) (fun _ hk => hk.2) (.int .i64 2)) (fun _ hk => hk.2) (.string (rs.extract 0 (t218 : Int).toNat))) (fun _ hk => hk.1)));(case aS => exact (below_size (by repeat (first | (with_reducible first | exact HB.out | apply below_alloc | apply pw_below_drewN | apply below_drew1 | refine below_set ?_ zbV.out) | exact HB.out))));(case aL => have := LMc76.out;omega);intro v223 w85 ho hb hg hat;rw [← Ny222.out] at ho;have n0_ := am (blk_grown (g := gb203) (o := .cells #[.int .i64 2,.int .i64 0,.string (rs.extract 0 (t218 : Int).toNat),.int .i64 x6_1] 63 (0,0)) (by (with_reducible repeat (first | refine blk_drewN ?_ _ | refine blk_drew ?_ | refine blk_alloc ?_ _));refine blk_put (cs := #[.int .i64 2,.int .i64 0,.string (⟨#[]⟩ : ByteArray),.int .i64 x6_1]) ?_ 2 _ rfl;(with_reducible repeat (first | refine blk_drewN ?_ _ | refine blk_drew ?_ | refine blk_alloc ?_ _));refine blk_put (cs := #[.int .i64 0,.int .i64 0,.string (⟨#[]⟩ : ByteArray),.int .i64 x6_1]) ?_ 0 _ rfl;(with_reducible repeat (first | refine blk_drewN ?_ _ | refine blk_drew ?_ | refine blk_alloc ?_ _));exact zar.out) hg (Kd.R_away zbF.out (fun _ hk => hk)));have n1_ := am (hb);have n2_ := am (ho);clear zar;clear HB;clear zbF;have zar := n0_;have HB := n1_;have HO224 := n2_;clear n0_ n1_ n2_;clear ho hb hg hat))
                go_roundg k1
                case measure => have := HK1.out;omega
                case rel => exact ⟨(y222),(wrap64 (x6_1 + ((rs.extract 0 (t218 : Int).toNat).size : Int))),(by first | rfl | (simp;done) | (simp [*];done)),H',⟨by have := HK1.out;omega⟩,⟨by (with_reducible repeat (first | apply Kd.R_alloc | apply Kd.R_drewN | apply Kd.R_drew));exact Kd.R_mono HO224.out (fun _ hk => trivial)⟩,⟨by repeat (first | (with_reducible first | exact HB.out | apply below_alloc | apply pw_below_drewN | apply below_drew1 | refine below_set ?_ zbV.out) | exact HB.out)⟩⟩
               ·rw [if_neg c76] at H
                exact absurd H (by simp)
             ·rw [if_neg c64] at H
              exact absurd H (by simp)
            ·rw [if_neg c63] at H
             exact absurd H (by simp)
           ·replace c61 := Bool.eq_false_iff.mpr c61
            subst c61
            have H1 : ((lex_sign.f rs).bind fun t225 => (if t225.toList = ([] : List UInt8) then (some (([] : List (S63)),x6_1,2)) else (if 3 = 1 then (if x5_1.length < 3518437208883 then (lex_Cut.l0 k1 a0 (x5_1 ++ [(⟨3,0,(⟨#[]⟩ : ByteArray),x6_1⟩ : S63)]) (wrap64 (x6_1 + (t225.size : Int)))) else (none)) else (if x5_1.length < 3518437208883 then (lex_Cut.l0 k1 a0 (x5_1 ++ [(⟨3,0,t225,x6_1⟩ : S63)]) (wrap64 (x6_1 + (t225.size : Int)))) else (none))))) = some (r1,r2,r3) := by rw [if_neg (show ¬ (false = true) by decide)] at H;exact H
            clear H
            have H := H1
            clear H1
            replace H := Option.bind_eq_some_iff.mp H
            obtain ⟨t225,A860,H⟩ := H
            replace H : (if t225.toList = ([] : List UInt8) then (some (([] : List (S63)),x6_1,2)) else (if 3 = 1 then (if x5_1.length < 3518437208883 then (lex_Cut.l0 k1 a0 (x5_1 ++ [(⟨3,0,(⟨#[]⟩ : ByteArray),x6_1⟩ : S63)]) (wrap64 (x6_1 + (t225.size : Int)))) else (none)) else (if x5_1.length < 3518437208883 then (lex_Cut.l0 k1 a0 (x5_1 ++ [(⟨3,0,t225,x6_1⟩ : S63)]) (wrap64 (x6_1 + (t225.size : Int)))) else (none)))) = some (r1,r2,r3) := H
            have A86 := am A860
            clear A860
            by_cases c87 : t225.toList = ([] : List UInt8)
            ·rw [if_pos c87] at H
             have c87b0 : (t225.toList == ([] : List UInt8)) = true := beq_iff_eq.mpr c87
             have c87b1 : (t225.toList != ([] : List UInt8)) = false := bne_eq_false_iff_eq.mpr c87
             clear c87
             simp only [Option.some.injEq,Prod.mk.injEq] at H
             obtain ⟨rfl,rfl,rfl⟩ := H
             go_wp2_with (first | ((with_reducible refine gate_dst (N := 8) rfl ?_);refine box_event ?hg (N := 8) ?hd (cs := #[.int .i64 0,.int .i64 0,.string (⟨#[]⟩ : ByteArray),.int .i64 0]) (t := 63) ?hr ?_;(case hd => rfl);(case hg => rfl);(case hr => first | (go_simp;done) | (go_simp;rfl));intro gb203 hg w88 zan hb;have n0_ := am (Kd.R_below (Kd.R_elderB (by (with_reducible repeat (first | apply Kd.R_alloc | apply Kd.R_drewN | apply Kd.R_drew));exact zbF.out) gb203 (Nat.le_of_eq hg.symm)) hb);have n1_ := am (below_step (by repeat (first | (with_reducible first | exact HB.out | apply below_alloc | apply pw_below_drewN | apply below_drew1) | exact HB.out)) hb);have n2_ := am (zan);have n3_ := am ((by rw [hg];exact (below_size (by repeat (first | (with_reducible first | exact HB.out | apply below_alloc | apply pw_below_drewN | apply below_drew1) | exact HB.out))) : w.heap.size ≤ gb203));have n4_ := am ((by rw [hg];exact (below_size (by repeat (first | (with_reducible first | exact HB.out | apply below_alloc | apply pw_below_drewN | apply below_drew1) | exact HB.out))) : w.heap.size ≤ gb203));clear zbF;clear HB;have zbF := n0_;have HB := n1_;have zar := n2_;have zgv := n3_;have zbV := n4_;clear n0_ n1_ n2_ n3_ n4_;clear hb zan hg;have hcz89_0 : w88.cell? ⟨gb203,0,none⟩ = some (.int .i64 0) := (blk_cell zar.out 0).trans rfl;have hcz89_1 : w88.cell? ⟨gb203,1,none⟩ = some (.int .i64 0) := (blk_cell zar.out 1).trans rfl;have hcz89_2 : w88.cell? ⟨gb203,2,none⟩ = some (.string (⟨#[]⟩ : ByteArray)) := (blk_cell zar.out 2).trans rfl;have hcz89_3 : w88.cell? ⟨gb203,3,none⟩ = some (.int .i64 0) := (blk_cell zar.out 3).trans rfl;have hfz89_0 := blk_frozen zar.out 0;have hfz89_1 := blk_frozen zar.out 1;have hfz89_2 := blk_frozen zar.out 2;have hfz89_3 := blk_frozen zar.out 3;have p7 : 0 ≤ (0 : Int) := (by omega);have q7 : 0 < rs.size := (by have : (0 : Int) < (rs.size : Int) := of_decide_eq_true (by first | (with_reducible assumption) | assumption);omega);have hx7 : ∀ h : 0 < rs.size,((rs[0]'h).toNat : Int) = bt rs 0 := bt_at rs 0;clear p7;have qi7 : (0 < (rs.size : Int)) = True := eq_true (of_decide_eq_true (by first | (with_reducible assumption) | assumption));replace q7 := eq_true q7) | ((with_reducible refine gate_callee (f := 42) rfl ?_);refine goesL_ (some 36) rfl rfl Tryd.func42 (by kernel_rfl) rfl #[.int .u8 (bt rs 0)] rfl (by (try simp only [List.map_toArray,List.map_cons,List.map_nil]);first | done | rfl | (simp only [List.length_drop,List.length_take];rfl)) ?_;(with_reducible refine (lex_space.calls (bt rs 0) false _ A8.out).mono ?_);rintro e w' ⟨rfl,⟨nd,rfl⟩⟩;refine ⟨_,rfl,?_⟩) | ((with_reducible refine gate_callee (f := 45) rfl ?_);refine goesL_ (some 50) rfl rfl Tryd.func45 (by kernel_rfl) rfl #[.int .u8 (bt rs 0)] rfl (by (try simp only [List.map_toArray,List.map_cons,List.map_nil]);first | done | rfl | (simp only [List.length_drop,List.length_take];rfl)) ?_;(with_reducible refine (lex_digit.calls (bt rs 0) false _ A19.out).mono ?_);rintro e w' ⟨rfl,⟨nd,rfl⟩⟩;refine ⟨_,rfl,?_⟩) | ((with_reducible refine gate_callee (f := 47) rfl ?_);refine goesL_ (some 70) rfl rfl Tryd.func47 (by kernel_rfl) rfl #[.int .u8 (bt rs 0)] rfl (by (try simp only [List.map_toArray,List.map_cons,List.map_nil]);first | done | rfl | (simp only [List.length_drop,List.length_take];rfl)) ?_;(with_reducible refine (lex_letter.calls (bt rs 0) false _ A60.out).mono ?_);rintro e w' ⟨rfl,⟨nd,rfl⟩⟩;refine ⟨_,rfl,?_⟩) | ((with_reducible refine gate_callee (f := 49) rfl ?_);refine goesL_ (some 27) rfl rfl Tryd.func49 (by kernel_rfl) rfl #[.string rs] rfl (by (try simp only [List.map_toArray,List.map_cons,List.map_nil]);first | done | rfl | (simp only [List.length_drop,List.length_take];rfl)) ?_;(with_reducible refine (lex_sign.calls rs t225 _ A86.out).mono ?_);rintro e w90 ⟨rfl,hb⟩;refine ⟨_,rfl,?_⟩;have n0_ := am (Kd.R_below (by (with_reducible repeat (first | apply Kd.R_alloc | apply Kd.R_drewN | apply Kd.R_drew));exact (Kd.R_mono (Kd.R_far (p := ⟨gb203,3,none⟩) (Kd.R_far (p := ⟨gb203,2,none⟩) (Kd.R_far (p := ⟨gb203,1,none⟩) (Kd.R_far (p := ⟨gb203,0,none⟩) (Kd.R_mono zbF.out (fun k_ hk => (⟨hk,hk.2⟩ : _ ∧ k_ ≠ gb203))) (fun _ hk => hk.2) (.int .i64 0)) (fun _ hk => hk.2) (.int .i64 0)) (fun _ hk => hk.2) (.string (⟨#[]⟩ : ByteArray))) (fun _ hk => hk.2) (.int .i64 x6_1)) (fun _ h_ => h_.1))) hb);have n1_ := am (blk_below (g := gb203) (o := .cells #[.int .i64 0,.int .i64 0,.string (⟨#[]⟩ : ByteArray),.int .i64 x6_1] 63 (0,0)) (by (with_reducible repeat (first | refine blk_drewN ?_ _ | refine blk_drew ?_ | refine blk_alloc ?_ _));refine blk_put (cs := #[.int .i64 0,.int .i64 0,.string (⟨#[]⟩ : ByteArray),.int .i64 0]) ?_ 3 _ rfl;(with_reducible repeat (first | refine blk_drewN ?_ _ | refine blk_drew ?_ | refine blk_alloc ?_ _));refine blk_put (cs := #[.int .i64 0,.int .i64 0,.string (⟨#[]⟩ : ByteArray),.int .i64 0]) ?_ 2 _ rfl;(with_reducible repeat (first | refine blk_drewN ?_ _ | refine blk_drew ?_ | refine blk_alloc ?_ _));refine blk_put (cs := #[.int .i64 0,.int .i64 0,.string (⟨#[]⟩ : ByteArray),.int .i64 0]) ?_ 1 _ rfl;(with_reducible repeat (first | refine blk_drewN ?_ _ | refine blk_drew ?_ | refine blk_alloc ?_ _));refine blk_put (cs := #[.int .i64 0,.int .i64 0,.string (⟨#[]⟩ : ByteArray),.int .i64 0]) ?_ 0 _ rfl;(with_reducible repeat (first | refine blk_drewN ?_ _ | refine blk_drew ?_ | refine blk_alloc ?_ _));exact zar.out) hb);have n2_ := am (below_step (by repeat (first | (with_reducible first | exact HB.out | apply below_alloc | apply pw_below_drewN | apply below_drew1 | refine below_set ?_ zbV.out) | exact HB.out)) hb);clear zbF;clear zar;clear HB;have zbF := n0_;have zar := n1_;have HB := n2_;clear n0_ n1_ n2_;(try clear hb);(try clear hb2);(try clear hk);(try clear hi);have hcz91_0 : w90.cell? ⟨gb203,0,none⟩ = some (.int .i64 0) := (blk_cell zar.out 0).trans rfl;have hcz91_1 : w90.cell? ⟨gb203,1,none⟩ = some (.int .i64 0) := (blk_cell zar.out 1).trans rfl;have hcz91_2 : w90.cell? ⟨gb203,2,none⟩ = some (.string (⟨#[]⟩ : ByteArray)) := (blk_cell zar.out 2).trans rfl;have hcz91_3 : w90.cell? ⟨gb203,3,none⟩ = some (.int .i64 x6_1) := (blk_cell zar.out 3).trans rfl;have hfz91_0 := blk_frozen zar.out 0;have hfz91_1 := blk_frozen zar.out 1;have hfz91_2 := blk_frozen zar.out 2;have hfz91_3 := blk_frozen zar.out 3))
             go_ret3
             exact ⟨_,by first | rfl | (simp [errW_none,errW_some] <;> rfl) | (simp [*,errW_none,errW_some] <;> rfl),by first | exact Kd.R_nil _ _ _ _ _ | exact Kd.N_nil _ _ _ _ _ | exact Kd.V_nil _ _ _ _ _ | exact Kd.Q_nil _ _ _ _ _ | exact Kd.S_nil _ _ _ _ _,by repeat (first | (with_reducible first | exact HB.out | apply below_alloc | apply pw_below_drewN | apply below_drew1 | refine below_set ?_ zbV.out) | exact HB.out)⟩
            ·rw [if_neg c87] at H
             have c87b0 : (t225.toList == ([] : List UInt8)) = false := beq_eq_false_iff_ne.mpr c87
             have c87b1 : (t225.toList != ([] : List UInt8)) = true := bne_iff_ne.mpr c87
             by_cases c92 : 3 = 1
             ·exact absurd c92 (by decide)
             ·rw [if_neg c92] at H
              have c92b0 : (3 == 1) = false := beq_eq_false_iff_ne.mpr c92
              have c92b1 : (3 != 1) = true := bne_iff_ne.mpr c92
              by_cases c99 : x5_1.length < 3518437208883
              ·rw [if_pos c99] at H
               have LMc99 := am c99
               clear c99
               obtain ⟨y229,zhs⟩ : ∃ y_ : List (S63),y_ = (x5_1 ++ [(⟨3,0,t225,x6_1⟩ : S63)]) := ⟨_,rfl⟩
               replace H : (lex_Cut.l0 k1 a0 y229 (wrap64 (x6_1 + (t225.size : Int)))) = some (r1,r2,r3) := by first | (rw [zhs];with_reducible exact H) | (have H2_ := (Option.bind_some _ _).symm.trans H;rw [zhs];with_reducible exact H2_) | (have H2_ := (Option.bind_some _ _).symm.trans H;with_reducible exact H2_) | with_reducible exact H | (rw [zhs];exact H) | exact H
               have Ny229 := am zhs
               clear zhs
               have H' := am H
               clear H
               go_wp2_with (first | ((with_reducible refine gate_dst (N := 8) rfl ?_);refine box_event ?hg (N := 8) ?hd (cs := #[.int .i64 0,.int .i64 0,.string (⟨#[]⟩ : ByteArray),.int .i64 0]) (t := 63) ?hr ?_;(case hd => rfl);(case hg => rfl);(case hr => first | (go_simp;done) | (go_simp;rfl));intro gb203 hg w100 zan hb;have n0_ := am (Kd.R_below (Kd.R_elderB (by (with_reducible repeat (first | apply Kd.R_alloc | apply Kd.R_drewN | apply Kd.R_drew));exact zbF.out) gb203 (Nat.le_of_eq hg.symm)) hb);have n1_ := am (below_step (by repeat (first | (with_reducible first | exact HB.out | apply below_alloc | apply pw_below_drewN | apply below_drew1) | exact HB.out)) hb);have n2_ := am (zan);have n3_ := am ((by rw [hg];exact (below_size (by repeat (first | (with_reducible first | exact HB.out | apply below_alloc | apply pw_below_drewN | apply below_drew1) | exact HB.out))) : w.heap.size ≤ gb203));have n4_ := am ((by rw [hg];exact (below_size (by repeat (first | (with_reducible first | exact HB.out | apply below_alloc | apply pw_below_drewN | apply below_drew1) | exact HB.out))) : w.heap.size ≤ gb203));clear zbF;clear HB;have zbF := n0_;have HB := n1_;have zar := n2_;have zgv := n3_;have zbV := n4_;clear n0_ n1_ n2_ n3_ n4_;clear hb zan hg;have hcz101_0 : w100.cell? ⟨gb203,0,none⟩ = some (.int .i64 0) := (blk_cell zar.out 0).trans rfl;have hcz101_1 : w100.cell? ⟨gb203,1,none⟩ = some (.int .i64 0) := (blk_cell zar.out 1).trans rfl;have hcz101_2 : w100.cell? ⟨gb203,2,none⟩ = some (.string (⟨#[]⟩ : ByteArray)) := (blk_cell zar.out 2).trans rfl;have hcz101_3 : w100.cell? ⟨gb203,3,none⟩ = some (.int .i64 0) := (blk_cell zar.out 3).trans rfl;have hfz101_0 := blk_frozen zar.out 0;have hfz101_1 := blk_frozen zar.out 1;have hfz101_2 := blk_frozen zar.out 2;have hfz101_3 := blk_frozen zar.out 3;have p7 : 0 ≤ (0 : Int) := (by omega);have q7 : 0 < rs.size := (by have : (0 : Int) < (rs.size : Int) := of_decide_eq_true (by first | (with_reducible assumption) | assumption);omega);have hx7 : ∀ h : 0 < rs.size,((rs[0]'h).toNat : Int) = bt rs 0 := bt_at rs 0;clear p7;have qi7 : (0 < (rs.size : Int)) = True := eq_true (of_decide_eq_true (by first | (with_reducible assumption) | assumption));replace q7 := eq_true q7) | ((with_reducible refine gate_callee (f := 42) rfl ?_);refine goesL_ (some 36) rfl rfl Tryd.func42 (by kernel_rfl) rfl #[.int .u8 (bt rs 0)] rfl (by (try simp only [List.map_toArray,List.map_cons,List.map_nil]);first | done | rfl | (simp only [List.length_drop,List.length_take];rfl)) ?_;(with_reducible refine (lex_space.calls (bt rs 0) false _ A8.out).mono ?_);rintro e w' ⟨rfl,⟨nd,rfl⟩⟩;refine ⟨_,rfl,?_⟩) | ((with_reducible refine gate_callee (f := 45) rfl ?_);refine goesL_ (some 50) rfl rfl Tryd.func45 (by kernel_rfl) rfl #[.int .u8 (bt rs 0)] rfl (by (try simp only [List.map_toArray,List.map_cons,List.map_nil]);first | done | rfl | (simp only [List.length_drop,List.length_take];rfl)) ?_;(with_reducible refine (lex_digit.calls (bt rs 0) false _ A19.out).mono ?_);rintro e w' ⟨rfl,⟨nd,rfl⟩⟩;refine ⟨_,rfl,?_⟩) | ((with_reducible refine gate_callee (f := 47) rfl ?_);refine goesL_ (some 70) rfl rfl Tryd.func47 (by kernel_rfl) rfl #[.int .u8 (bt rs 0)] rfl (by (try simp only [List.map_toArray,List.map_cons,List.map_nil]);first | done | rfl | (simp only [List.length_drop,List.length_take];rfl)) ?_;(with_reducible refine (lex_letter.calls (bt rs 0) false _ A60.out).mono ?_);rintro e w' ⟨rfl,⟨nd,rfl⟩⟩;refine ⟨_,rfl,?_⟩) | ((with_reducible refine gate_callee (f := 49) rfl ?_);refine goesL_ (some 27) rfl rfl Tryd.func49 (by kernel_rfl) rfl #[.string rs] rfl (by (try simp only [List.map_toArray,List.map_cons,List.map_nil]);first | done | rfl | (simp only [List.length_drop,List.length_take];rfl)) ?_;(with_reducible refine (lex_sign.calls rs t225 _ A86.out).mono ?_);rintro e w102 ⟨rfl,hb⟩;refine ⟨_,rfl,?_⟩;have n0_ := am (Kd.R_below (by (with_reducible repeat (first | apply Kd.R_alloc | apply Kd.R_drewN | apply Kd.R_drew));exact (Kd.R_mono (Kd.R_far (p := ⟨gb203,3,none⟩) (Kd.R_far (p := ⟨gb203,2,none⟩) (Kd.R_far (p := ⟨gb203,1,none⟩) (Kd.R_far (p := ⟨gb203,0,none⟩) (Kd.R_mono zbF.out (fun k_ hk => (⟨hk,hk.2⟩ : _ ∧ k_ ≠ gb203))) (fun _ hk => hk.2) (.int .i64 0)) (fun _ hk => hk.2) (.int .i64 0)) (fun _ hk => hk.2) (.string (⟨#[]⟩ : ByteArray))) (fun _ hk => hk.2) (.int .i64 x6_1)) (fun _ h_ => h_.1))) hb);have n1_ := am (blk_below (g := gb203) (o := .cells #[.int .i64 0,.int .i64 0,.string (⟨#[]⟩ : ByteArray),.int .i64 x6_1] 63 (0,0)) (by (with_reducible repeat (first | refine blk_drewN ?_ _ | refine blk_drew ?_ | refine blk_alloc ?_ _));refine blk_put (cs := #[.int .i64 0,.int .i64 0,.string (⟨#[]⟩ : ByteArray),.int .i64 0]) ?_ 3 _ rfl;(with_reducible repeat (first | refine blk_drewN ?_ _ | refine blk_drew ?_ | refine blk_alloc ?_ _));refine blk_put (cs := #[.int .i64 0,.int .i64 0,.string (⟨#[]⟩ : ByteArray),.int .i64 0]) ?_ 2 _ rfl;(with_reducible repeat (first | refine blk_drewN ?_ _ | refine blk_drew ?_ | refine blk_alloc ?_ _));refine blk_put (cs := #[.int .i64 0,.int .i64 0,.string (⟨#[]⟩ : ByteArray),.int .i64 0]) ?_ 1 _ rfl;(with_reducible repeat (first | refine blk_drewN ?_ _ | refine blk_drew ?_ | refine blk_alloc ?_ _));refine blk_put (cs := #[.int .i64 0,.int .i64 0,.string (⟨#[]⟩ : ByteArray),.int .i64 0]) ?_ 0 _ rfl;(with_reducible repeat (first | refine blk_drewN ?_ _ | refine blk_drew ?_ | refine blk_alloc ?_ _));exact zar.out) hb);have n2_ := am (below_step (by repeat (first | (with_reducible first | exact HB.out | apply below_alloc | apply pw_below_drewN | apply below_drew1 | refine below_set ?_ zbV.out) | exact HB.out)) hb);clear zbF;clear zar;clear HB;have zbF := n0_;have zar := n1_;have HB := n2_;clear n0_ n1_ n2_;(try clear hb);(try clear hb2);(try clear hk);(try clear hi);have hcz103_0 : w102.cell? ⟨gb203,0,none⟩ = some (.int .i64 0) := (blk_cell zar.out 0).trans rfl;have hcz103_1 : w102.cell? ⟨gb203,1,none⟩ = some (.int .i64 0) := (blk_cell zar.out 1).trans rfl;have hcz103_2 : w102.cell? ⟨gb203,2,none⟩ = some (.string (⟨#[]⟩ : ByteArray)) := (blk_cell zar.out 2).trans rfl;have hcz103_3 : w102.cell? ⟨gb203,3,none⟩ = some (.int .i64 x6_1) := (blk_cell zar.out 3).trans rfl;have hfz103_0 := blk_frozen zar.out 0;have hfz103_1 := blk_frozen zar.out 1;have hfz103_2 := blk_frozen zar.out 2;have hfz103_3 := blk_frozen zar.out 3) | ((with_reducible refine gate_builtin (b := .append) (xs := #[.tmp 86,.tmp 88]) rfl ?_);at_builtin;refine Kd.R_append k63 (w0 := w) w.heap.size rfl (.tmp 86) (.tmp 88) 22 63 (.agg #[(.int .i64 0),(.int .i64 0),(.string ⟨#[]⟩),(.int .i64 0)]) 40 rfl Tryd.underlying22 info63 rfl (by decide) (by omega) u5 x5_1 (⟨3,0,t225,x6_1⟩ : S63) [.int .i64 3,.int .i64 0,.string t225,.int .i64 x6_1] (fun k_ => k_ ≠ gb203) (fun _ => False) rfl (by first | (go_simp;done) | (go_simp;rfl)) ?aP (fun _ hk => hk.elim) ?aF ?aO ?aB ?aS ?aL ?_;(case aP => exact k63_mkM _ _ _ (⟨3,0,t225,x6_1⟩ : S63));(case aB => exact (by repeat (first | (with_reducible first | exact HB.out | apply below_alloc | apply pw_below_drewN | apply below_drew1 | refine below_set ?_ zbV.out) | exact HB.out)));(case aF => exact (fun k_ hk => Kd.freshB (g := gb203) (o := .cells #[.int .i64 3,.int .i64 0,.string t225,.int .i64 x6_1] 63 (0,0)) (by (with_reducible repeat (first | refine blk_drewN ?_ _ | refine blk_drew ?_ | refine blk_alloc ?_ _));refine blk_put (cs := #[.int .i64 3,.int .i64 0,.string (⟨#[]⟩ : ByteArray),.int .i64 x6_1]) ?_ 2 _ rfl;(with_reducible repeat (first | refine blk_drewN ?_ _ | refine blk_drew ?_ | refine blk_alloc ?_ _));refine blk_put (cs := #[.int .i64 0,.int .i64 0,.string (⟨#[]⟩ : ByteArray),.int .i64 x6_1]) ?_ 0 _ rfl;(with_reducible repeat (first | refine blk_drewN ?_ _ | refine blk_drew ?_ | refine blk_alloc ?_ _));exact zar.out) k_ hk));(case aO => exact (by (with_reducible repeat (first | apply Kd.R_alloc | apply Kd.R_drewN | apply Kd.R_drew));exact Kd.R_mono (Kd.R_far (p := ⟨gb203,2,none⟩) (Kd.R_far (p := ⟨gb203,0,none⟩) (Kd.R_mono zbF.out (fun k_ hk => (⟨hk,hk.2⟩ : _ ∧ k_ ≠ gb203))) (fun _ hk => hk.2) (.int .i64 3)) (fun _ hk => hk.2) (.string t225)) (fun _ hk => hk.1.2)));(case aS => exact (below_size (by repeat (first | (with_reducible first | exact HB.out | apply below_alloc | apply pw_below_drewN | apply below_drew1 | refine below_set ?_ zbV.out) | exact HB.out))));(case aL => have := LMc99.out;omega);intro v230 w104 ho hb hg hat;rw [← Ny229.out] at ho;have n0_ := am (blk_grown (g := gb203) (o := .cells #[.int .i64 3,.int .i64 0,.string t225,.int .i64 x6_1] 63 (0,0)) (by (with_reducible repeat (first | refine blk_drewN ?_ _ | refine blk_drew ?_ | refine blk_alloc ?_ _));refine blk_put (cs := #[.int .i64 3,.int .i64 0,.string (⟨#[]⟩ : ByteArray),.int .i64 x6_1]) ?_ 2 _ rfl;(with_reducible repeat (first | refine blk_drewN ?_ _ | refine blk_drew ?_ | refine blk_alloc ?_ _));refine blk_put (cs := #[.int .i64 0,.int .i64 0,.string (⟨#[]⟩ : ByteArray),.int .i64 x6_1]) ?_ 0 _ rfl;(with_reducible repeat (first | refine blk_drewN ?_ _ | refine blk_drew ?_ | refine blk_alloc ?_ _));exact zar.out) hg (Kd.R_away zbF.out (fun _ hk => hk.2)));have n1_ := am (hb);have n2_ := am (ho);clear zar;clear HB;clear zbF;have zar := n0_;have HB := n1_;have HO231 := n2_;clear n0_ n1_ n2_;clear ho hb hg hat))
               go_roundg k1
               case measure => have := HK1.out;omega
               case rel => exact ⟨(y229),(wrap64 (x6_1 + (t225.size : Int))),(by first | rfl | (simp;done) | (simp [*];done)),H',⟨by have := HK1.out;omega⟩,⟨by (with_reducible repeat (first | apply Kd.R_alloc | apply Kd.R_drewN | apply Kd.R_drew));exact Kd.R_mono HO231.out (fun _ hk => trivial)⟩,⟨by repeat (first | (with_reducible first | exact HB.out | apply below_alloc | apply pw_below_drewN | apply below_drew1 | refine below_set ?_ zbV.out) | exact HB.out)⟩⟩
              ·rw [if_neg c99] at H
               exact absurd H (by simp)
       ·rw [if_neg c6] at H
        exact absurd H (by simp)
      ·rw [if_neg c5] at H
       exact absurd H (by simp)
     ·rw [if_neg c4] at H
      exact absurd H (by simp)
    ·rw [if_neg c3] at H
     have zes : decide (x6_1 < (a0.size : Int)) = false := decide_eq_false c3
     clear c3
     simp only [Option.some.injEq,Prod.mk.injEq] at H
     obtain ⟨rfl,rfl,rfl⟩ := H
     go_wp2
     go_ret3
     exact ⟨_,by first | rfl | (simp [errW_none,errW_some] <;> rfl) | (simp [*,errW_none,errW_some] <;> rfl),by (with_reducible repeat (first | apply Kd.R_alloc | apply Kd.R_drewN | apply Kd.R_drew));exact zbF.out,by repeat (first | (with_reducible first | exact HB.out | apply below_alloc | apply pw_below_drewN | apply below_drew1) | exact HB.out)⟩
end Go.Proofs.YtgnmdhnlcibbiaaDoor.P
end
