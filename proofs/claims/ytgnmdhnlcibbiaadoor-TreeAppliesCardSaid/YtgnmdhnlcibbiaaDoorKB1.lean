import Derived.Test.YtgnmdhnlcibbiaaDoorKX0
import Derived.Test.YtgnmdhnlcibbiaaDoorKB0
set_option maxHeartbeats 8000000
set_option maxRecDepth 100000
section
namespace Go.Proofs.YtgnmdhnlcibbiaaDoor.P
open Go.RowKit Go.Proofs.PrintWords Go.Proofs.PrintLast Go.Proofs.PrintMore
set_option linter.unusedVariables false
set_option linter.unusedSimpArgs false
def AtomC (l : List Tk) (k : Nat) : Prop := ∀ (s s' : PSt) (t : Nd) (g : Nat) (w0 w : World),St w0 w g l s → Below w0.heap.size w0 w → run l k .atom s = some (t,s') →
 Calls Tryd.prog 64 #[.pointer (some ⟨g,0,none⟩)] w (NodePost w w0 g (fun w' => St w0 w' g l s') t)
theorem ba_eq {a b : ByteArray} (h : a.toList = b.toList) : a = b := by
 rw [Go.ByteArray.toList_eq,Go.ByteArray.toList_eq] at h
 cases a;cases b
 simp only [ByteArray.mk.injEq]
 exact Array.toList_inj.mp h
theorem node_nil {we w0 w : World} {g : Nat} {l : List Tk} {s s' : PSt} {t : Nd} {L : List Nat} {op n : Int} (hn : nodeW s op n [] = (t,s')) (hI : St w0 w g l s) (hl : Loc we w0 g L w) :
  Calls Tryd.prog 62 #[.pointer (some ⟨g,0,none⟩),.int .i64 op,.int .i64 n,.slice none 0 0] w fun e w' => ∃ A c,e = .returned (.agg (ncells t A c)) ∧ VV we L w' (.slice A t.f2.length c) t.f2 ∧ St w0 w' g l s' ∧ Below w0.heap.size w0 w' ∧ KeepBut w w' g none := node_go (xs := []) hn hI hl (VV.nil _ _ _)
theorem atom_end {l : List Tk} {k : Nat} (hT : TreeC l k) (i n d e0 : Int) (s' : PSt) (t : Nd) (g : Nat) (w0 w : World) (hI : St w0 w g l ⟨i,n,d,e0⟩) (hB : Below w0.heap.size w0 w) (c1 : i = (l.length : Int)) (hn : failW ⟨i,n,d,e0⟩ 2 = s') (ht : z25 = t) :
  Calls Tryd.prog 64 #[.pointer (some ⟨g,0,none⟩)] w (NodePost w w0 g (fun w' => St w0 w' g l s') t) := by
 have zcz := Tryd.underlying25
 have zfF := Tryd.underlying63
 have c1b : (i == (l.length : Int)) = true := beq_iff_eq.mpr c1
 clear c1
 subst ht
 have HF := am hn
 clear hn
 have LC := am (Loc.init hB hI.lt hI.ge)
 have HI := am hI
 obtain ⟨AT_,cT_,zaq,zai,zaj,zak,zal,zac,zad,zae,zaf⟩ := HI.out.cells_
 (try dsimp only at zai zaj zak zal)
 clear hB hI
 go_enter Tryd.func64,Tryd.ntmps64
 try go_wp2_with (first | ((with_reducible refine gate_dst (N := 1) rfl ?_);refine box_event ?hg (N := 1) ?hd (cs := #[.pointer (some ⟨g,0,none⟩)]) (t := 70) ?hr ?_;(case hd => rfl);(case hg => rfl);(case hr => (go_simp;try rfl));intro b_p hg w1 zan hb;clear zaq zai zaj zak zal zac zad zae zaf;have zaL := am ((by rw [hg];exact Nat.ne_of_lt (LC.out.lt _ LC.out.me) : g ≠ b_p));have zag := am (zan);replace HI := am (St.made HI.out hb);replace LC := am (Loc.alloc LC.out hb hg (blk_lt zan));obtain ⟨AT_,cT_,zaq,zai,zaj,zak,zal,zac,zad,zae,zaf⟩ := HI.out.cells_;(try dsimp only at zai zaj zak zal);obtain ⟨zaa,zab⟩ := cells1 zag.out;clear hg hb zan) | ((with_reducible refine gate_dst (N := 2) rfl ?_);refine box_event ?hg (N := 2) ?hd (cs := #[.int .i64 0,.int .i64 0,.slice none 0 0]) (t := 25) ?hr ?_;(case hd => rfl);(case hg => rfl);(case hr => (go_simp;try rfl));intro b_r hg w2 zan hb;clear zaq zai zaj zak zal zac zad zae zaf zaa zab;have za9 := am ((by rw [hg];exact Nat.ne_of_lt (blk_lt zag.out) : b_p ≠ b_r));have zao := am ((by rw [hg];exact Nat.ne_of_lt (LC.out.lt _ LC.out.me) : g ≠ b_r));replace zag := am (blk_below zag.out hb);have zah := am (zan);replace HI := am (St.made HI.out hb);replace LC := am (Loc.alloc LC.out hb hg (blk_lt zan));obtain ⟨AT_,cT_,zaq,zai,zaj,zak,zal,zac,zad,zae,zaf⟩ := HI.out.cells_;(try dsimp only at zai zaj zak zal);obtain ⟨zaa,zab⟩ := cells1 zag.out;clear hg hb zan))
 go_quiet (fail)
 clear zaq zai zaj zak zal zac zad zae zaf zaa zab
 replace zag := am (blk_drewN zag.out nq)
 replace zah := am (blk_drewN zah.out nq)
 replace HI := am ((show St w0 (w2.drewN nq) g l _ from HI.out))
 replace LC := am (Loc.drewN LC.out nq)
 generalize w2.drewN nq = w3 at LC HI zag zah ⊢
 obtain ⟨AT_,cT_,zaq,zai,zaj,zak,zal,zac,zad,zae,zaf⟩ := HI.out.cells_
 (try dsimp only at zai zaj zak zal)
 obtain ⟨zaa,zab⟩ := cells1 zag.out
 go_wp2_with (first | ((with_reducible refine gate_callee (f := 83) rfl ?_);refine goesL_ (some 15) rfl rfl Tryd.func83 (by kernel_rfl) rfl #[.pointer (some ⟨g,0,none⟩),.int .i64 2] rfl (by (try simp only [List.map_toArray,List.map_cons,List.map_nil]);first | done | rfl) ?_;(with_reducible refine (fail_calls 2 HI.out LC.out.below).mono ?_);rintro e w4 ⟨A1,c1,rfl,hv,hi,hb,hk⟩;refine ⟨_,rfl,?_⟩;clear zaq zai zaj zak zal zac zad zae zaf zaa zab;have zdx := am (VV.of_call hv LC.out);replace zag := am (KeepBut.blk hk zag.out (fun e_ => zaL.out e_.symm) (by simp));replace zah := am (KeepBut.blk hk zah.out (fun e_ => zao.out e_.symm) (by simp));replace HI := am (hi);replace LC := am (Loc.call LC.out hk hb);obtain ⟨AT_,cT_,zaq,zai,zaj,zak,zal,zac,zad,zae,zaf⟩ := HI.out.cells_;obtain ⟨zaa,zab⟩ := cells1 zag.out;clear hb hk hi hv) | ((with_reducible refine gate_store (t := 25) (p := 2) rfl ?_);refine store3_event (b := b_r) (y0 := .int .i64 z25.f0) (y1 := .int .i64 z25.f1) (y2 := .slice A1 z25.f2.length c1) ?hgd ?hN ?hr zah.out ?_;(case hgd => rfl);(case hN => rfl);(case hr => (obtain ⟨q0_,f0_,q1_,f1_,q2_,f2_⟩ := cells3 zah.out;go_simp;try rfl));intro w5 hx hk zax;clear zaq zai zaj zak zal zac zad zae zaf zaa zab;replace zdx := am (VV.store zdx.out hk (by simp));replace zag := am (blk_kept zag.out hk (by first | exact za9.out | exact (fun e_ => NE_r_p.out e_.symm)));replace zah := am (hx);replace HI := am (St.store HI.out hk zao.out);replace LC := am (Loc.store LC.out (b := b_r) (by simp) hk (zax _));obtain ⟨AT_,cT_,zaq,zai,zaj,zak,zal,zac,zad,zae,zaf⟩ := HI.out.cells_;obtain ⟨zaa,zab⟩ := cells1 zag.out;clear hx hk zax))
 rw [HF.out] at HI
 refine bodyPost_ret (results_cell_row rfl _ _ b_r 25 (ncells z25 A1 c1) (0,0) _ rfl zah.out Tryd.underlying25 rfl (by kernel_rfl)) rfl ?_
 exact ⟨A1,c1,rfl,zdx.out.out,HI.out,LC.out.out.1,LC.out.out.2⟩
theorem atom_num {l : List Tk} {k : Nat} (hT : TreeC l k) (i n d e0 : Int) (s' : PSt) (t : Nd) (g : Nat) (w0 w : World) (hI : St w0 w g l ⟨i,n,d,e0⟩) (hB : Below w0.heap.size w0 w) (c1 : i ≠ (l.length : Int)) (p1 : 0 ≤ i) (q1 : i < (l.length : Int)) (c2 : (rd_T63 l i).f0 = 1) (hn : nodeW ⟨wrap64 (i + 1),n,d,e0⟩ 1 (rd_T63 l i).f1 [] = (t,s')) :
  Calls Tryd.prog 64 #[.pointer (some ⟨g,0,none⟩)] w (NodePost w w0 g (fun w' => St w0 w' g l s') t) := by
 have zcz := Tryd.underlying25
 have zfF := Tryd.underlying63
 have c1b : (i == (l.length : Int)) = false := beq_eq_false_iff_ne.mpr c1
 have pI := am p1
 have qI := am q1
 replace p1 := eq_true p1
 replace q1 := eq_true q1
 have c2b : ((rd_T63 l i).f0 == 1) = true := beq_iff_eq.mpr c2
 clear c1 c2
 have HF := am hn
 clear hn
 have LC := am (Loc.init hB hI.lt hI.ge)
 have HI := am hI
 obtain ⟨AT_,cT_,zaq,zai,zaj,zak,zal,zac,zad,zae,zaf⟩ := HI.out.cells_
 (try dsimp only at zai zaj zak zal)
 clear hB hI
 go_enter Tryd.func64,Tryd.ntmps64
 try go_wp2_with (first | ((with_reducible refine gate_dst (N := 1) rfl ?_);refine box_event ?hg (N := 1) ?hd (cs := #[.pointer (some ⟨g,0,none⟩)]) (t := 70) ?hr ?_;(case hd => rfl);(case hg => rfl);(case hr => (go_simp;try rfl));intro b_p hg w1 zan hb;clear zaq zai zaj zak zal zac zad zae zaf;have zaL := am ((by rw [hg];exact Nat.ne_of_lt (LC.out.lt _ LC.out.me) : g ≠ b_p));have zag := am (zan);replace HI := am (St.made HI.out hb);replace LC := am (Loc.alloc LC.out hb hg (blk_lt zan));obtain ⟨AT_,cT_,zaq,zai,zaj,zak,zal,zac,zad,zae,zaf⟩ := HI.out.cells_;(try dsimp only at zai zaj zak zal);obtain ⟨zaa,zab⟩ := cells1 zag.out;clear hg hb zan) | ((with_reducible refine gate_dst (N := 2) rfl ?_);refine box_event ?hg (N := 2) ?hd (cs := #[.int .i64 0,.int .i64 0,.slice none 0 0]) (t := 25) ?hr ?_;(case hd => rfl);(case hg => rfl);(case hr => (go_simp;try rfl));intro b_r hg w2 zan hb;clear zaq zai zaj zak zal zac zad zae zaf zaa zab;have za9 := am ((by rw [hg];exact Nat.ne_of_lt (blk_lt zag.out) : b_p ≠ b_r));have zao := am ((by rw [hg];exact Nat.ne_of_lt (LC.out.lt _ LC.out.me) : g ≠ b_r));replace zag := am (blk_below zag.out hb);have zah := am (zan);replace HI := am (St.made HI.out hb);replace LC := am (Loc.alloc LC.out hb hg (blk_lt zan));obtain ⟨AT_,cT_,zaq,zai,zaj,zak,zal,zac,zad,zae,zaf⟩ := HI.out.cells_;(try dsimp only at zai zaj zak zal);obtain ⟨zaa,zab⟩ := cells1 zag.out;clear hg hb zan))
 go_quiet (fail)
 clear zaq zai zaj zak zal zac zad zae zaf zaa zab
 replace zag := am (blk_drewN zag.out nq)
 replace zah := am (blk_drewN zah.out nq)
 replace HI := am ((show St w0 (w2.drewN nq) g l _ from HI.out))
 replace LC := am (Loc.drewN LC.out nq)
 generalize w2.drewN nq = w3 at LC HI zag zah ⊢
 obtain ⟨AT_,cT_,zaq,zai,zaj,zak,zal,zac,zad,zae,zaf⟩ := HI.out.cells_
 (try dsimp only at zai zaj zak zal)
 obtain ⟨zaa,zab⟩ := cells1 zag.out
 try go_wp2_with (fail)
 clear zaq zai zaj zak zal zac zad zae zaf zaa zab
 replace zag := am (blk_drew zag.out)
 replace zah := am (blk_drew zah.out)
 replace HI := am ((show St w0 w3.drew g l _ from HI.out))
 replace LC := am (Loc.drew LC.out)
 obtain ⟨AT_,cT_,HG_,HT_⟩ := HI.out.open_
 obtain ⟨ad_,e_,za2,za3,za4,za5⟩ := at_T63 HT_ (i) pI.out qI.out
 cases e_
 have zbn := am za2
 have zbo := am za3
 have zbp := am za4
 have zbq := am za5
 clear za2 za3 za4 za5
 have zba := am HG_
 clear HG_ HT_
 have zcQ := zaL
 have zcu := zao
 have za2 := pcb LC.out.below zbn.out
 have za3 := pcb LC.out.below zbo.out
 have za4 := pcb LC.out.below zbp.out
 have za5 := pcb LC.out.below zbq.out
 obtain ⟨zaa,zab⟩ := cells1 zag.out
 obtain ⟨zas,zaM,zat,zaN,zau,zaO,zav,zaP,zaw,zaQ⟩ := cells5 zba.out
 refine start_ (n := 12) (S := fun w' => w'.cell? ⟨b_p,0,none⟩ = some (.pointer (some ⟨g,0,none⟩)) ∧ w'.cell? ⟨g,0,none⟩ = some (.slice (some ad_) l.length cT_) ∧ w'.cell? ⟨g,1,none⟩ = some (.int .i64 (i)) ∧ w'.cell? ⟨g,2,none⟩ = some (.int .i64 (n)) ∧ w'.cell? ⟨g,3,none⟩ = some (.int .i64 (d)) ∧ w'.cell? ⟨g,4,none⟩ = some (.int .i64 (e0)) ∧ w'.cell? (ad_.add ((i).toNat * 4)) = some (.int .i64 (rd_T63 l (i)).f0) ∧ w'.cell? ⟨(ad_.add ((i).toNat * 4)).block,(ad_.add ((i).toNat * 4)).off + 1,none⟩ = some (.int .i64 (rd_T63 l (i)).f1) ∧ w'.cell? ⟨(ad_.add ((i).toNat * 4)).block,(ad_.add ((i).toNat * 4)).off + 2,none⟩ = some (.string (rd_T63 l (i)).f2) ∧ w'.cell? ⟨(ad_.add ((i).toNat * 4)).block,(ad_.add ((i).toNat * 4)).off + 3,none⟩ = some (.int .i64 (rd_T63 l (i)).f3)) (ds := []) #[false,false,false,false,false,false,false,false,false,false,false,false] (by kernel_rfl) rfl rfl ⟨zaa,zas,zat,zau,zav,zaw,za2,za3,za4,za5⟩ (fun hHeld => ?_)
 generalize w3.drew = w4 at LC HI zag zah zba zaa zas zat zau zav zaw za2 za3 za4 za5 zab zaM zaN zaO zaP zaQ hHeld ⊢
 refine take_ (i := 0) (N := some 16) (v := ?_) (a' := ?_) #[true,false,false,false,false,false,false,false,false,false,false,false] rfl rfl (by kernel_rfl) (fun _ _ _ h => h) (Or.inl ⟨by rfl,?_⟩) hHeld ?_ ?_
 rotate_left
 ·rintro w' ⟨s0,s1,s2,s3,s4,s5,s6,s7,s8,s9⟩
  go_simp
  with_reducible rfl
 rotate_left
 ·simp only [Act.put,List.setIfInBounds_toArray,List.set_cons_zero,List.set_cons_succ,i64_w,i32_w]
  rfl
 refine pure_ (i := 1) (N := some 17) (v := ?_) (a' := ?_) #[true,true,false,false,false,false,false,false,false,false,false,false] rfl rfl (by kernel_rfl) (fun _ _ _ h => h) (Or.inl ⟨by rfl,?_⟩) ?_ ?_
 rotate_left
 ·intro w'
  go_simp
  with_reducible rfl
 rotate_left
 ·simp only [Act.put,List.setIfInBounds_toArray,List.set_cons_zero,List.set_cons_succ,i64_w,i32_w]
  rfl
 refine pure_ (i := 2) (N := some 18) (v := ?_) (a' := ?_) #[true,true,true,false,false,false,false,false,false,false,false,false] rfl rfl (by kernel_rfl) (fun _ _ _ h => h) (Or.inl ⟨by rfl,?_⟩) ?_ ?_
 rotate_left
 ·intro w'
  go_simp
  with_reducible rfl
 rotate_left
 ·simp only [Act.put,List.setIfInBounds_toArray,List.set_cons_zero,List.set_cons_succ,i64_w,i32_w]
  rfl
 refine take_ (i := 3) (N := some 19) (v := ?_) (a' := ?_) #[true,true,true,true,false,false,false,false,false,false,false,false] rfl rfl (by kernel_rfl) (fun _ _ _ h => h) (Or.inl ⟨by rfl,?_⟩) hHeld ?_ ?_
 rotate_left
 ·rintro w' ⟨s0,s1,s2,s3,s4,s5,s6,s7,s8,s9⟩
  go_simp
  with_reducible rfl
 rotate_left
 ·simp only [Act.put,List.setIfInBounds_toArray,List.set_cons_zero,List.set_cons_succ,i64_w,i32_w]
  rfl
 refine take_ (i := 4) (N := some 20) (v := ?_) (a' := ?_) #[true,true,true,true,true,false,false,false,false,false,false,false] rfl rfl (by kernel_rfl) (fun _ _ _ h => h) (Or.inl ⟨by rfl,?_⟩) hHeld ?_ ?_
 rotate_left
 ·rintro w' ⟨s0,s1,s2,s3,s4,s5,s6,s7,s8,s9⟩
  go_simp
  with_reducible rfl
 rotate_left
 ·simp only [Act.put,List.setIfInBounds_toArray,List.set_cons_zero,List.set_cons_succ,i64_w,i32_w]
  rfl
 refine pure_ (i := 5) (N := some 21) (v := ?_) (a' := ?_) #[true,true,true,true,true,true,false,false,false,false,false,false] rfl rfl (by kernel_rfl) (fun _ _ _ h => h) (Or.inl ⟨by rfl,?_⟩) ?_ ?_
 rotate_left
 ·intro w'
  go_simp
  with_reducible rfl
 rotate_left
 ·simp only [Act.put,List.setIfInBounds_toArray,List.set_cons_zero,List.set_cons_succ,i64_w,i32_w]
  rfl
 refine pure_ (i := 6) (N := some 22) (v := ?_) (a' := ?_) #[true,true,true,true,true,true,true,false,false,false,false,false] rfl rfl (by kernel_rfl) (fun _ _ _ h => h) (Or.inl ⟨by rfl,?_⟩) ?_ ?_
 rotate_left
 ·intro w'
  go_simp
  with_reducible rfl
 rotate_left
 ·simp only [Act.put,List.setIfInBounds_toArray,List.set_cons_zero,List.set_cons_succ,i64_w,i32_w]
  rfl
 refine take_ (i := 7) (N := some 23) (v := ?_) (a' := ?_) #[true,true,true,true,true,true,true,true,false,false,false,false] rfl rfl (by kernel_rfl) (fun _ _ _ h => h) (Or.inl ⟨by rfl,?_⟩) hHeld ?_ ?_
 rotate_left
 ·rintro w' ⟨s0,s1,s2,s3,s4,s5,s6,s7,s8,s9⟩
  go_simp
  with_reducible rfl
 rotate_left
 ·simp only [Act.put,List.setIfInBounds_toArray,List.set_cons_zero,List.set_cons_succ,i64_w,i32_w]
  rfl
 refine pure_ (i := 8) (N := some 24) (v := ?_) (a' := ?_) #[true,true,true,true,true,true,true,true,true,false,false,false] rfl rfl (by kernel_rfl) (fun _ _ _ h => h) (Or.inl ⟨by rfl,?_⟩) ?_ ?_
 rotate_left
 ·intro w'
  go_simp
  with_reducible rfl
 rotate_left
 ·simp only [Act.put,List.setIfInBounds_toArray,List.set_cons_zero,List.set_cons_succ,i64_w,i32_w]
  rfl
 refine take_ (i := 9) (N := some 25) (v := ?_) (a' := ?_) #[true,true,true,true,true,true,true,true,true,true,false,false] rfl rfl (by kernel_rfl) (fun _ _ _ h => h) (Or.inl ⟨by rfl,?_⟩) hHeld ?_ ?_
 rotate_left
 ·rintro w' ⟨s0,s1,s2,s3,s4,s5,s6,s7,s8,s9⟩
  go_simp
  with_reducible rfl
 rotate_left
 ·simp only [Act.put,List.setIfInBounds_toArray,List.set_cons_zero,List.set_cons_succ,i64_w,i32_w]
  rfl
 refine one_ (i := 10) (N := some 3) #[true,true,true,true,true,true,true,true,true,true,true,false] rfl rfl (by kernel_rfl) (by decide) (fun K hK => ?_)
 refine box_step (by rfl) (N := 3) rfl (cs := #[.int .i64 0,.int .i64 0,.string ⟨#[]⟩,.int .i64 0]) (t := 63) ?hr ?_
 case hr => first | (go_simp;done) | (go_simp;rfl)
 intro b_t w5 hg zan hb
 clear za2 za3 za4 za5 zaa zab zas zaM zat zaN zau zaO zav zaP zaw zaQ
 have zcf := am ((by rw [hg];exact Nat.ne_of_lt (blk_lt zag.out) : b_p ≠ b_t))
 have zbL := am ((by rw [hg];exact Nat.ne_of_lt (blk_lt zah.out) : b_r ≠ b_t))
 have zcg := am ((by rw [hg];exact Nat.ne_of_lt (blk_lt zba.out) : g ≠ b_t))
 have za7 := am ((by rw [hg];exact Nat.ne_of_lt (LC.out.lt _ LC.out.me) : g ≠ b_t))
 replace zag := am (blk_below zag.out hb)
 replace zah := am (blk_below zah.out hb)
 replace zba := am (blk_below zba.out hb)
 have zaU := am (zan)
 replace HI := am (St.made HI.out hb)
 replace LC := am (Loc.alloc LC.out hb hg (blk_lt zan))
 have za2 := pcb LC.out.below zbn.out
 have za3 := pcb LC.out.below zbo.out
 have za4 := pcb LC.out.below zbp.out
 have za5 := pcb LC.out.below zbq.out
 obtain ⟨zaa,zab⟩ := cells1 zag.out
 obtain ⟨zas,zaM,zat,zaN,zau,zaO,zav,zaP,zaw,zaQ⟩ := cells5 zba.out
 clear hg hb zan
 refine hK.out _ _ ⟨zaa,zas,zat,zau,zav,zaw,za2,za3,za4,za5⟩ (fun hHeld => ?_)
 clear hK K
 refine norm_ (a' := ?_) ?_ ?_
 rotate_left
 ·show Act.put _ (some 3) _ = _
  simp only [Act.put,List.setIfInBounds_toArray,List.set_cons_zero,List.set_cons_succ,i64_w,i32_w]
  rfl
 refine one_ (i := 11) (N := none) #[true,true,true,true,true,true,true,true,true,true,true,true] rfl rfl (by kernel_rfl) (by decide) (fun K hK => ?_)
 refine store4_step (by rfl) rfl (b := b_t) (y0 := .int .i64 (rd_T63 l i).f0) (y1 := .int .i64 (rd_T63 l i).f1) (y2 := .string (rd_T63 l i).f2) (y3 := .int .i64 (rd_T63 l i).f3) ?hr zaU.out ?_
 case hr => (obtain ⟨q0_,f0_,q1_,f1_,q2_,f2_,q3_,f3_⟩ := cells4 zaU.out;go_simp;try rfl)
 intro w6 hx hk zax
 clear za2 za3 za4 za5 zaa zab zas zaM zat zaN zau zaO zav zaP zaw zaQ
 replace zag := am (blk_kept zag.out hk (by first | exact zcf.out | exact (fun e_ => NE_t_p.out e_.symm)))
 replace zah := am (blk_kept zah.out hk (by first | exact zbL.out | exact (fun e_ => zbZ.out e_.symm)))
 replace zba := am (blk_kept zba.out hk (by first | exact zcg.out | exact (fun e_ => NE_t_G.out e_.symm)))
 replace zaU := am (hx)
 replace HI := am (St.store HI.out hk za7.out)
 replace LC := am (Loc.store LC.out (b := b_t) (by simp) hk (zax _))
 have za2 := pcb LC.out.below zbn.out
 have za3 := pcb LC.out.below zbo.out
 have za4 := pcb LC.out.below zbp.out
 have za5 := pcb LC.out.below zbq.out
 obtain ⟨zaa,zab⟩ := cells1 zag.out
 obtain ⟨zas,zaM,zat,zaN,zau,zaO,zav,zaP,zaw,zaQ⟩ := cells5 zba.out
 obtain ⟨zaC,zaD,zaE,zaF,zaG,zaH,zaI,zaJ⟩ := cells4 zaU.out
 clear hx hk zax
 refine hK.out _ _ ⟨zaa,zas,zat,zau,zav,zaw,za2,za3,za4,za5⟩ (fun hHeld => ?_)
 clear hK K
 refine done_ (by kernel_rfl) ?_
 clear za2 za3 za4 za5 zaa zab zas zaM zat zaN zau zaO zav zaP zaw zaQ zaC zaD zaE zaF zaG zaH zaI zaJ
 clear zba
 clear zbn zbo zbp zbq
 obtain ⟨AT_,cT_,zaq,zai,zaj,zak,zal,zac,zad,zae,zaf⟩ := HI.out.cells_
 (try dsimp only at zai zaj zak zal)
 obtain ⟨zaa,zab⟩ := cells1 zag.out
 obtain ⟨zaC,zaD,zaE,zaF,zaG,zaH,zaI,zaJ⟩ := cells4 zaU.out
 go_wp2_with (first | ((with_reducible refine gate_store (t := 3) (p := 35) rfl ?_);refine stI_event (g := g) (x := wrap64 (i + 1)) ?hgd ?hN ?hr HI.out ?_;(case hgd => rfl);(case hN => rfl);(case hr => (go_simp;try rfl));intro w7 hx hk zax;clear zaq zai zaj zak zal zac zad zae zaf zaa zab zaC zaD zaE zaF zaG zaH zaI zaJ;replace zag := am (blk_kept zag.out hk (fun e_ => zaL.out e_.symm));replace zah := am (blk_kept zah.out hk (fun e_ => zao.out e_.symm));replace zaU := am (blk_kept zaU.out hk (fun e_ => za7.out e_.symm));replace HI := am (hx);replace LC := am (Loc.store LC.out (b := g) (by simp) hk (zax _));obtain ⟨AT_,cT_,zaq,zai,zaj,zak,zal,zac,zad,zae,zaf⟩ := HI.out.cells_;(try dsimp only at zai zaj zak zal);obtain ⟨zaa,zab⟩ := cells1 zag.out;obtain ⟨zaC,zaD,zaE,zaF,zaG,zaH,zaI,zaJ⟩ := cells4 zaU.out;clear hx hk zax) | ((with_reducible refine gate_callee (f := 62) rfl ?_);refine goesL_ (some 39) rfl rfl Tryd.func62 (by kernel_rfl) rfl #[.pointer (some ⟨g,0,none⟩),.int .i64 1,.int .i64 (rd_T63 l i).f1,.slice none 0 0] rfl (by (try simp only [List.map_toArray,List.map_cons,List.map_nil]);first | done | rfl) ?_;(with_reducible refine (node_nil HF.out HI.out LC.out).mono ?_);rintro e w8 ⟨A1,c1,rfl,hv,hi,hb,hk⟩;refine ⟨_,rfl,?_⟩;clear zaq zai zaj zak zal zac zad zae zaf zaa zab zaC zaD zaE zaF zaG zaH zaI zaJ;have zbN := am (hv);replace zag := am (KeepBut.blk hk zag.out (fun e_ => zaL.out e_.symm) (by simp));replace zah := am (KeepBut.blk hk zah.out (fun e_ => zao.out e_.symm) (by simp));replace zaU := am (KeepBut.blk hk zaU.out (fun e_ => za7.out e_.symm) (by simp));replace HI := am (hi);replace LC := am (Loc.call LC.out hk hb);obtain ⟨AT_,cT_,zaq,zai,zaj,zak,zal,zac,zad,zae,zaf⟩ := HI.out.cells_;obtain ⟨zaa,zab⟩ := cells1 zag.out;obtain ⟨zaC,zaD,zaE,zaF,zaG,zaH,zaI,zaJ⟩ := cells4 zaU.out;clear hb hk hi hv) | ((with_reducible refine gate_store (t := 25) (p := 2) rfl ?_);refine store3_event (b := b_r) (y0 := .int .i64 t.f0) (y1 := .int .i64 t.f1) (y2 := .slice A1 t.f2.length c1) ?hgd ?hN ?hr zah.out ?_;(case hgd => rfl);(case hN => rfl);(case hr => (obtain ⟨q0_,f0_,q1_,f1_,q2_,f2_⟩ := cells3 zah.out;go_simp;try rfl));intro w9 hx hk zax;clear zaq zai zaj zak zal zac zad zae zaf zaa zab zaC zaD zaE zaF zaG zaH zaI zaJ;replace zbN := am (VV.store zbN.out hk (by simp));replace zag := am (blk_kept zag.out hk (by first | exact za9.out | exact (fun e_ => NE_r_p.out e_.symm)));replace zah := am (hx);replace zaU := am (blk_kept zaU.out hk (by first | exact zbZ.out | exact (fun e_ => zbL.out e_.symm)));replace HI := am (St.store HI.out hk zao.out);replace LC := am (Loc.store LC.out (b := b_r) (by simp) hk (zax _));obtain ⟨AT_,cT_,zaq,zai,zaj,zak,zal,zac,zad,zae,zaf⟩ := HI.out.cells_;obtain ⟨zaa,zab⟩ := cells1 zag.out;obtain ⟨zaC,zaD,zaE,zaF,zaG,zaH,zaI,zaJ⟩ := cells4 zaU.out;clear hx hk zax))
 refine bodyPost_ret (results_cell_row rfl _ _ b_r 25 (ncells t A1 c1) (0,0) _ rfl zah.out Tryd.underlying25 rfl (by kernel_rfl)) rfl ?_
 exact ⟨A1,c1,rfl,zbN.out.out,HI.out,LC.out.out.1,LC.out.out.2⟩
theorem atom_key {l : List Tk} {k : Nat} (hT : TreeC l k) (i n d e0 : Int) (s' : PSt) (t : Nd) (g : Nat) (w0 w : World) (hI : St w0 w g l ⟨i,n,d,e0⟩) (hB : Below w0.heap.size w0 w) (c1 : i ≠ (l.length : Int)) (p1 : 0 ≤ i) (q1 : i < (l.length : Int)) (c2 : ¬ (rd_T63 l i).f0 = 1) (k0 : (rd_T63 l i).f2.toList = bKey.toList) (hn : nodeW ⟨wrap64 (i + 1),n,d,e0⟩ 2 0 [] = (t,s')) :
  Calls Tryd.prog 64 #[.pointer (some ⟨g,0,none⟩)] w (NodePost w w0 g (fun w' => St w0 w' g l s') t) := by
 have zcz := Tryd.underlying25
 have zfF := Tryd.underlying63
 have c1b : (i == (l.length : Int)) = false := beq_eq_false_iff_ne.mpr c1
 have pI := am p1
 have qI := am q1
 replace p1 := eq_true p1
 replace q1 := eq_true q1
 have c2b : ((rd_T63 l i).f0 == 1) = false := beq_eq_false_iff_ne.mpr c2
 have hb0 : bKey.toList = [107,101,121] := by simp
 have k0b : ((rd_T63 l i).f2.toList == [107,101,121]) = true := by rw [← hb0];exact beq_iff_eq.mpr k0
 have HWD := am (ba_eq k0)
 clear k0 hb0
 clear c1 c2
 have HF := am hn
 clear hn
 have LC := am (Loc.init hB hI.lt hI.ge)
 have HI := am hI
 obtain ⟨AT_,cT_,zaq,zai,zaj,zak,zal,zac,zad,zae,zaf⟩ := HI.out.cells_
 (try dsimp only at zai zaj zak zal)
 clear hB hI
 go_enter Tryd.func64,Tryd.ntmps64
 try go_wp2_with (first | ((with_reducible refine gate_dst (N := 1) rfl ?_);refine box_event ?hg (N := 1) ?hd (cs := #[.pointer (some ⟨g,0,none⟩)]) (t := 70) ?hr ?_;(case hd => rfl);(case hg => rfl);(case hr => (go_simp;try rfl));intro b_p hg w1 zan hb;clear zaq zai zaj zak zal zac zad zae zaf;have zaL := am ((by rw [hg];exact Nat.ne_of_lt (LC.out.lt _ LC.out.me) : g ≠ b_p));have zag := am (zan);replace HI := am (St.made HI.out hb);replace LC := am (Loc.alloc LC.out hb hg (blk_lt zan));obtain ⟨AT_,cT_,zaq,zai,zaj,zak,zal,zac,zad,zae,zaf⟩ := HI.out.cells_;(try dsimp only at zai zaj zak zal);obtain ⟨zaa,zab⟩ := cells1 zag.out;clear hg hb zan) | ((with_reducible refine gate_dst (N := 2) rfl ?_);refine box_event ?hg (N := 2) ?hd (cs := #[.int .i64 0,.int .i64 0,.slice none 0 0]) (t := 25) ?hr ?_;(case hd => rfl);(case hg => rfl);(case hr => (go_simp;try rfl));intro b_r hg w2 zan hb;clear zaq zai zaj zak zal zac zad zae zaf zaa zab;have za9 := am ((by rw [hg];exact Nat.ne_of_lt (blk_lt zag.out) : b_p ≠ b_r));have zao := am ((by rw [hg];exact Nat.ne_of_lt (LC.out.lt _ LC.out.me) : g ≠ b_r));replace zag := am (blk_below zag.out hb);have zah := am (zan);replace HI := am (St.made HI.out hb);replace LC := am (Loc.alloc LC.out hb hg (blk_lt zan));obtain ⟨AT_,cT_,zaq,zai,zaj,zak,zal,zac,zad,zae,zaf⟩ := HI.out.cells_;(try dsimp only at zai zaj zak zal);obtain ⟨zaa,zab⟩ := cells1 zag.out;clear hg hb zan))
 go_quiet (fail)
 clear zaq zai zaj zak zal zac zad zae zaf zaa zab
 replace zag := am (blk_drewN zag.out nq)
 replace zah := am (blk_drewN zah.out nq)
 replace HI := am ((show St w0 (w2.drewN nq) g l _ from HI.out))
 replace LC := am (Loc.drewN LC.out nq)
 generalize w2.drewN nq = w3 at LC HI zag zah ⊢
 obtain ⟨AT_,cT_,zaq,zai,zaj,zak,zal,zac,zad,zae,zaf⟩ := HI.out.cells_
 (try dsimp only at zai zaj zak zal)
 obtain ⟨zaa,zab⟩ := cells1 zag.out
 try go_wp2_with (fail)
 clear zaq zai zaj zak zal zac zad zae zaf zaa zab
 replace zag := am (blk_drew zag.out)
 replace zah := am (blk_drew zah.out)
 replace HI := am ((show St w0 w3.drew g l _ from HI.out))
 replace LC := am (Loc.drew LC.out)
 obtain ⟨AT_,cT_,HG_,HT_⟩ := HI.out.open_
 obtain ⟨ad_,e_,za2,za3,za4,za5⟩ := at_T63 HT_ (i) pI.out qI.out
 cases e_
 have zbn := am za2
 have zbo := am za3
 have zbp := am za4
 have zbq := am za5
 clear za2 za3 za4 za5
 have zba := am HG_
 clear HG_ HT_
 have zcQ := zaL
 have zcu := zao
 have za2 := pcb LC.out.below zbn.out
 have za3 := pcb LC.out.below zbo.out
 have za4 := pcb LC.out.below zbp.out
 have za5 := pcb LC.out.below zbq.out
 obtain ⟨zaa,zab⟩ := cells1 zag.out
 obtain ⟨zas,zaM,zat,zaN,zau,zaO,zav,zaP,zaw,zaQ⟩ := cells5 zba.out
 refine start_ (n := 12) (S := fun w' => w'.cell? ⟨b_p,0,none⟩ = some (.pointer (some ⟨g,0,none⟩)) ∧ w'.cell? ⟨g,0,none⟩ = some (.slice (some ad_) l.length cT_) ∧ w'.cell? ⟨g,1,none⟩ = some (.int .i64 (i)) ∧ w'.cell? ⟨g,2,none⟩ = some (.int .i64 (n)) ∧ w'.cell? ⟨g,3,none⟩ = some (.int .i64 (d)) ∧ w'.cell? ⟨g,4,none⟩ = some (.int .i64 (e0)) ∧ w'.cell? (ad_.add ((i).toNat * 4)) = some (.int .i64 (rd_T63 l (i)).f0) ∧ w'.cell? ⟨(ad_.add ((i).toNat * 4)).block,(ad_.add ((i).toNat * 4)).off + 1,none⟩ = some (.int .i64 (rd_T63 l (i)).f1) ∧ w'.cell? ⟨(ad_.add ((i).toNat * 4)).block,(ad_.add ((i).toNat * 4)).off + 2,none⟩ = some (.string (rd_T63 l (i)).f2) ∧ w'.cell? ⟨(ad_.add ((i).toNat * 4)).block,(ad_.add ((i).toNat * 4)).off + 3,none⟩ = some (.int .i64 (rd_T63 l (i)).f3)) (ds := []) #[false,false,false,false,false,false,false,false,false,false,false,false] (by kernel_rfl) rfl rfl ⟨zaa,zas,zat,zau,zav,zaw,za2,za3,za4,za5⟩ (fun hHeld => ?_)
 generalize w3.drew = w4 at LC HI zag zah zba zaa zas zat zau zav zaw za2 za3 za4 za5 zab zaM zaN zaO zaP zaQ hHeld ⊢
 refine take_ (i := 0) (N := some 16) (v := ?_) (a' := ?_) #[true,false,false,false,false,false,false,false,false,false,false,false] rfl rfl (by kernel_rfl) (fun _ _ _ h => h) (Or.inl ⟨by rfl,?_⟩) hHeld ?_ ?_
 rotate_left
 ·rintro w' ⟨s0,s1,s2,s3,s4,s5,s6,s7,s8,s9⟩
  go_simp
  with_reducible rfl
 rotate_left
 ·simp only [Act.put,List.setIfInBounds_toArray,List.set_cons_zero,List.set_cons_succ,i64_w,i32_w]
  rfl
 refine pure_ (i := 1) (N := some 17) (v := ?_) (a' := ?_) #[true,true,false,false,false,false,false,false,false,false,false,false] rfl rfl (by kernel_rfl) (fun _ _ _ h => h) (Or.inl ⟨by rfl,?_⟩) ?_ ?_
 rotate_left
 ·intro w'
  go_simp
  with_reducible rfl
 rotate_left
 ·simp only [Act.put,List.setIfInBounds_toArray,List.set_cons_zero,List.set_cons_succ,i64_w,i32_w]
  rfl
 refine pure_ (i := 2) (N := some 18) (v := ?_) (a' := ?_) #[true,true,true,false,false,false,false,false,false,false,false,false] rfl rfl (by kernel_rfl) (fun _ _ _ h => h) (Or.inl ⟨by rfl,?_⟩) ?_ ?_
 rotate_left
 ·intro w'
  go_simp
  with_reducible rfl
 rotate_left
 ·simp only [Act.put,List.setIfInBounds_toArray,List.set_cons_zero,List.set_cons_succ,i64_w,i32_w]
  rfl
 refine take_ (i := 3) (N := some 19) (v := ?_) (a' := ?_) #[true,true,true,true,false,false,false,false,false,false,false,false] rfl rfl (by kernel_rfl) (fun _ _ _ h => h) (Or.inl ⟨by rfl,?_⟩) hHeld ?_ ?_
 rotate_left
 ·rintro w' ⟨s0,s1,s2,s3,s4,s5,s6,s7,s8,s9⟩
  go_simp
  with_reducible rfl
 rotate_left
 ·simp only [Act.put,List.setIfInBounds_toArray,List.set_cons_zero,List.set_cons_succ,i64_w,i32_w]
  rfl
 refine take_ (i := 4) (N := some 20) (v := ?_) (a' := ?_) #[true,true,true,true,true,false,false,false,false,false,false,false] rfl rfl (by kernel_rfl) (fun _ _ _ h => h) (Or.inl ⟨by rfl,?_⟩) hHeld ?_ ?_
 rotate_left
 ·rintro w' ⟨s0,s1,s2,s3,s4,s5,s6,s7,s8,s9⟩
  go_simp
  with_reducible rfl
 rotate_left
 ·simp only [Act.put,List.setIfInBounds_toArray,List.set_cons_zero,List.set_cons_succ,i64_w,i32_w]
  rfl
 refine pure_ (i := 5) (N := some 21) (v := ?_) (a' := ?_) #[true,true,true,true,true,true,false,false,false,false,false,false] rfl rfl (by kernel_rfl) (fun _ _ _ h => h) (Or.inl ⟨by rfl,?_⟩) ?_ ?_
 rotate_left
 ·intro w'
  go_simp
  with_reducible rfl
 rotate_left
 ·simp only [Act.put,List.setIfInBounds_toArray,List.set_cons_zero,List.set_cons_succ,i64_w,i32_w]
  rfl
 refine pure_ (i := 6) (N := some 22) (v := ?_) (a' := ?_) #[true,true,true,true,true,true,true,false,false,false,false,false] rfl rfl (by kernel_rfl) (fun _ _ _ h => h) (Or.inl ⟨by rfl,?_⟩) ?_ ?_
 rotate_left
 ·intro w'
  go_simp
  with_reducible rfl
 rotate_left
 ·simp only [Act.put,List.setIfInBounds_toArray,List.set_cons_zero,List.set_cons_succ,i64_w,i32_w]
  rfl
 refine take_ (i := 7) (N := some 23) (v := ?_) (a' := ?_) #[true,true,true,true,true,true,true,true,false,false,false,false] rfl rfl (by kernel_rfl) (fun _ _ _ h => h) (Or.inl ⟨by rfl,?_⟩) hHeld ?_ ?_
 rotate_left
 ·rintro w' ⟨s0,s1,s2,s3,s4,s5,s6,s7,s8,s9⟩
  go_simp
  with_reducible rfl
 rotate_left
 ·simp only [Act.put,List.setIfInBounds_toArray,List.set_cons_zero,List.set_cons_succ,i64_w,i32_w]
  rfl
 refine pure_ (i := 8) (N := some 24) (v := ?_) (a' := ?_) #[true,true,true,true,true,true,true,true,true,false,false,false] rfl rfl (by kernel_rfl) (fun _ _ _ h => h) (Or.inl ⟨by rfl,?_⟩) ?_ ?_
 rotate_left
 ·intro w'
  go_simp
  with_reducible rfl
 rotate_left
 ·simp only [Act.put,List.setIfInBounds_toArray,List.set_cons_zero,List.set_cons_succ,i64_w,i32_w]
  rfl
 refine take_ (i := 9) (N := some 25) (v := ?_) (a' := ?_) #[true,true,true,true,true,true,true,true,true,true,false,false] rfl rfl (by kernel_rfl) (fun _ _ _ h => h) (Or.inl ⟨by rfl,?_⟩) hHeld ?_ ?_
 rotate_left
 ·rintro w' ⟨s0,s1,s2,s3,s4,s5,s6,s7,s8,s9⟩
  go_simp
  with_reducible rfl
 rotate_left
 ·simp only [Act.put,List.setIfInBounds_toArray,List.set_cons_zero,List.set_cons_succ,i64_w,i32_w]
  rfl
 refine one_ (i := 10) (N := some 3) #[true,true,true,true,true,true,true,true,true,true,true,false] rfl rfl (by kernel_rfl) (by decide) (fun K hK => ?_)
 refine box_step (by rfl) (N := 3) rfl (cs := #[.int .i64 0,.int .i64 0,.string ⟨#[]⟩,.int .i64 0]) (t := 63) ?hr ?_
 case hr => first | (go_simp;done) | (go_simp;rfl)
 intro b_t w5 hg zan hb
 clear za2 za3 za4 za5 zaa zab zas zaM zat zaN zau zaO zav zaP zaw zaQ
 have zcf := am ((by rw [hg];exact Nat.ne_of_lt (blk_lt zag.out) : b_p ≠ b_t))
 have zbL := am ((by rw [hg];exact Nat.ne_of_lt (blk_lt zah.out) : b_r ≠ b_t))
 have zcg := am ((by rw [hg];exact Nat.ne_of_lt (blk_lt zba.out) : g ≠ b_t))
 have za7 := am ((by rw [hg];exact Nat.ne_of_lt (LC.out.lt _ LC.out.me) : g ≠ b_t))
 replace zag := am (blk_below zag.out hb)
 replace zah := am (blk_below zah.out hb)
 replace zba := am (blk_below zba.out hb)
 have zaU := am (zan)
 replace HI := am (St.made HI.out hb)
 replace LC := am (Loc.alloc LC.out hb hg (blk_lt zan))
 have za2 := pcb LC.out.below zbn.out
 have za3 := pcb LC.out.below zbo.out
 have za4 := pcb LC.out.below zbp.out
 have za5 := pcb LC.out.below zbq.out
 obtain ⟨zaa,zab⟩ := cells1 zag.out
 obtain ⟨zas,zaM,zat,zaN,zau,zaO,zav,zaP,zaw,zaQ⟩ := cells5 zba.out
 clear hg hb zan
 refine hK.out _ _ ⟨zaa,zas,zat,zau,zav,zaw,za2,za3,za4,za5⟩ (fun hHeld => ?_)
 clear hK K
 refine norm_ (a' := ?_) ?_ ?_
 rotate_left
 ·show Act.put _ (some 3) _ = _
  simp only [Act.put,List.setIfInBounds_toArray,List.set_cons_zero,List.set_cons_succ,i64_w,i32_w]
  rfl
 refine one_ (i := 11) (N := none) #[true,true,true,true,true,true,true,true,true,true,true,true] rfl rfl (by kernel_rfl) (by decide) (fun K hK => ?_)
 refine store4_step (by rfl) rfl (b := b_t) (y0 := .int .i64 (rd_T63 l i).f0) (y1 := .int .i64 (rd_T63 l i).f1) (y2 := .string (rd_T63 l i).f2) (y3 := .int .i64 (rd_T63 l i).f3) ?hr zaU.out ?_
 case hr => (obtain ⟨q0_,f0_,q1_,f1_,q2_,f2_,q3_,f3_⟩ := cells4 zaU.out;go_simp;try rfl)
 intro w6 hx hk zax
 clear za2 za3 za4 za5 zaa zab zas zaM zat zaN zau zaO zav zaP zaw zaQ
 replace zag := am (blk_kept zag.out hk (by first | exact zcf.out | exact (fun e_ => NE_t_p.out e_.symm)))
 replace zah := am (blk_kept zah.out hk (by first | exact zbL.out | exact (fun e_ => zbZ.out e_.symm)))
 replace zba := am (blk_kept zba.out hk (by first | exact zcg.out | exact (fun e_ => NE_t_G.out e_.symm)))
 replace zaU := am (hx)
 replace HI := am (St.store HI.out hk za7.out)
 replace LC := am (Loc.store LC.out (b := b_t) (by simp) hk (zax _))
 have za2 := pcb LC.out.below zbn.out
 have za3 := pcb LC.out.below zbo.out
 have za4 := pcb LC.out.below zbp.out
 have za5 := pcb LC.out.below zbq.out
 obtain ⟨zaa,zab⟩ := cells1 zag.out
 obtain ⟨zas,zaM,zat,zaN,zau,zaO,zav,zaP,zaw,zaQ⟩ := cells5 zba.out
 obtain ⟨zaC,zaD,zaE,zaF,zaG,zaH,zaI,zaJ⟩ := cells4 zaU.out
 clear hx hk zax
 refine hK.out _ _ ⟨zaa,zas,zat,zau,zav,zaw,za2,za3,za4,za5⟩ (fun hHeld => ?_)
 clear hK K
 refine done_ (by kernel_rfl) ?_
 clear za2 za3 za4 za5 zaa zab zas zaM zat zaN zau zaO zav zaP zaw zaQ zaC zaD zaE zaF zaG zaH zaI zaJ
 clear zba
 clear zbn zbo zbp zbq
 obtain ⟨AT_,cT_,zaq,zai,zaj,zak,zal,zac,zad,zae,zaf⟩ := HI.out.cells_
 (try dsimp only at zai zaj zak zal)
 obtain ⟨zaa,zab⟩ := cells1 zag.out
 obtain ⟨zaC,zaD,zaE,zaF,zaG,zaH,zaI,zaJ⟩ := cells4 zaU.out
 go_wp2_with (first | ((with_reducible refine gate_store (t := 3) (p := 52) rfl ?_);refine stI_event (g := g) (x := wrap64 (i + 1)) ?hgd ?hN ?hr HI.out ?_;(case hgd => rfl);(case hN => rfl);(case hr => (go_simp;try rfl));intro w7 hx hk zax;clear zaq zai zaj zak zal zac zad zae zaf zaa zab zaC zaD zaE zaF zaG zaH zaI zaJ;replace zag := am (blk_kept zag.out hk (fun e_ => zaL.out e_.symm));replace zah := am (blk_kept zah.out hk (fun e_ => zao.out e_.symm));replace zaU := am (blk_kept zaU.out hk (fun e_ => za7.out e_.symm));replace HI := am (hx);replace LC := am (Loc.store LC.out (b := g) (by simp) hk (zax _));obtain ⟨AT_,cT_,zaq,zai,zaj,zak,zal,zac,zad,zae,zaf⟩ := HI.out.cells_;(try dsimp only at zai zaj zak zal);obtain ⟨zaa,zab⟩ := cells1 zag.out;obtain ⟨zaC,zaD,zaE,zaF,zaG,zaH,zaI,zaJ⟩ := cells4 zaU.out;clear hx hk zax) | ((with_reducible refine gate_dst (N := 54) rfl ?_);refine map_event (N := 54) ?hg ?hd ?hr ?_;(case hd => rfl);(case hg => rfl);(case hr => first | (go_simp;done) | (go_simp;rfl) | rfl);intro b_m w8 hg hlt zcR hb;clear zaq zai zaj zak zal zac zad zae zaf zaa zab zaC zaD zaE zaF zaG zaH zaI zaJ;have zcS := am ((by rw [hg];exact Nat.ne_of_lt (blk_lt zag.out) : b_p ≠ b_m));have zcT := am ((by rw [hg];exact Nat.ne_of_lt (blk_lt zah.out) : b_r ≠ b_m));have zcU := am ((by rw [hg];exact Nat.ne_of_lt (blk_lt zaU.out) : b_t ≠ b_m));have zcV := am ((by rw [hg];exact Nat.ne_of_lt (LC.out.lt _ LC.out.me) : g ≠ b_m));replace zag := am (blk_below zag.out hb);replace zah := am (blk_below zah.out hb);replace zaU := am (blk_below zaU.out hb);have zd4 := am (zcR);replace HI := am (St.made HI.out hb);replace LC := am (Loc.alloc LC.out hb hg hlt);obtain ⟨AT_,cT_,zaq,zai,zaj,zak,zal,zac,zad,zae,zaf⟩ := HI.out.cells_;(try dsimp only at zai zaj zak zal);obtain ⟨zaa,zab⟩ := cells1 zag.out;obtain ⟨zaC,zaD,zaE,zaF,zaG,zaH,zaI,zaJ⟩ := cells4 zaU.out;clear hg hlt zcR hb) | ((with_reducible refine gate_insert bKey rfl ?_);refine mapput_event (b := b_m) (n := 0) (key := bKey) (y := 2) rfl rfl _ _ _ 113 rfl Tryd.underlying9 Tryd.underlying3 Tryd.underlying113 zd4.out (by unfold maxLen;omega) rfl rfl (by decide) rfl (by decide) ?_;intro w9 zcR hk zax;clear zaq zai zaj zak zal zac zad zae zaf zaa zab zaC zaD zaE zaF zaG zaH zaI zaJ;replace zag := am (blk_kept zag.out hk (by first | exact zcS.out | exact (fun e_ => NE_m_p.out e_.symm)));replace zah := am (blk_kept zah.out hk (by first | exact zcT.out | exact (fun e_ => NE_m_r.out e_.symm)));replace zaU := am (blk_kept zaU.out hk (by first | exact zcU.out | exact (fun e_ => NE_m_t.out e_.symm)));replace zd4 := am (zcR);replace HI := am (St.store HI.out hk zcV.out);replace LC := am (Loc.store LC.out (b := b_m) (by simp) hk (zax _));obtain ⟨AT_,cT_,zaq,zai,zaj,zak,zal,zac,zad,zae,zaf⟩ := HI.out.cells_;(try dsimp only at zai zaj zak zal);obtain ⟨zaa,zab⟩ := cells1 zag.out;obtain ⟨zaC,zaD,zaE,zaF,zaG,zaH,zaI,zaJ⟩ := cells4 zaU.out;clear zcR hk zax) | ((with_reducible refine gate_insert bTime rfl ?_);refine mapput_event (b := b_m) (n := 1) (key := bTime) (y := 3) rfl rfl _ _ _ 113 rfl Tryd.underlying9 Tryd.underlying3 Tryd.underlying113 zd4.out (by unfold maxLen;omega) rfl rfl (by decide) rfl (by decide) ?_;intro w10 zcR hk zax;clear zaq zai zaj zak zal zac zad zae zaf zaa zab zaC zaD zaE zaF zaG zaH zaI zaJ;replace zag := am (blk_kept zag.out hk (by first | exact zcS.out | exact (fun e_ => NE_m_p.out e_.symm)));replace zah := am (blk_kept zah.out hk (by first | exact zcT.out | exact (fun e_ => NE_m_r.out e_.symm)));replace zaU := am (blk_kept zaU.out hk (by first | exact zcU.out | exact (fun e_ => NE_m_t.out e_.symm)));replace zd4 := am (zcR);replace HI := am (St.store HI.out hk zcV.out);replace LC := am (Loc.store LC.out (b := b_m) (by simp) hk (zax _));obtain ⟨AT_,cT_,zaq,zai,zaj,zak,zal,zac,zad,zae,zaf⟩ := HI.out.cells_;(try dsimp only at zai zaj zak zal);obtain ⟨zaa,zab⟩ := cells1 zag.out;obtain ⟨zaC,zaD,zaE,zaF,zaG,zaH,zaI,zaJ⟩ := cells4 zaU.out;clear zcR hk zax) | ((with_reducible refine gate_insert bValue rfl ?_);refine mapput_event (b := b_m) (n := 2) (key := bValue) (y := 4) rfl rfl _ _ _ 113 rfl Tryd.underlying9 Tryd.underlying3 Tryd.underlying113 zd4.out (by unfold maxLen;omega) rfl rfl (by decide) rfl (by decide) ?_;intro w11 zcR hk zax;clear zaq zai zaj zak zal zac zad zae zaf zaa zab zaC zaD zaE zaF zaG zaH zaI zaJ;replace zag := am (blk_kept zag.out hk (by first | exact zcS.out | exact (fun e_ => NE_m_p.out e_.symm)));replace zah := am (blk_kept zah.out hk (by first | exact zcT.out | exact (fun e_ => NE_m_r.out e_.symm)));replace zaU := am (blk_kept zaU.out hk (by first | exact zcU.out | exact (fun e_ => NE_m_t.out e_.symm)));replace zd4 := am (zcR);replace HI := am (St.store HI.out hk zcV.out);replace LC := am (Loc.store LC.out (b := b_m) (by simp) hk (zax _));obtain ⟨AT_,cT_,zaq,zai,zaj,zak,zal,zac,zad,zae,zaf⟩ := HI.out.cells_;(try dsimp only at zai zaj zak zal);obtain ⟨zaa,zab⟩ := cells1 zag.out;obtain ⟨zaC,zaD,zaE,zaF,zaG,zaH,zaI,zaJ⟩ := cells4 zaU.out;clear zcR hk zax) | (at_lookup;refine mapget_event (b := b_m) (n := 3) (key := bKey) (y := 2) rfl _ _ 113 rfl Tryd.underlying9 Tryd.underlying3 Tryd.underlying113 (by kernel_rfl) zd4.out rfl (congrArg Value.string HWD.out) (by decide) (by rfl) ?_) | ((with_reducible refine gate_callee (f := 62) rfl ?_);refine goesL_ (some 59) rfl rfl Tryd.func62 (by kernel_rfl) rfl #[.pointer (some ⟨g,0,none⟩),.int .i64 2,.int .i64 0,.slice none 0 0] rfl (by (try simp only [List.map_toArray,List.map_cons,List.map_nil]);first | done | rfl) ?_;(with_reducible refine (node_nil HF.out HI.out LC.out).mono ?_);rintro e w12 ⟨A1,c1,rfl,hv,hi,hb,hk⟩;refine ⟨_,rfl,?_⟩;clear zaq zai zaj zak zal zac zad zae zaf zaa zab zaC zaD zaE zaF zaG zaH zaI zaJ;have zbN := am (hv);replace zag := am (KeepBut.blk hk zag.out (fun e_ => zaL.out e_.symm) (by simp));replace zah := am (KeepBut.blk hk zah.out (fun e_ => zao.out e_.symm) (by simp));replace zaU := am (KeepBut.blk hk zaU.out (fun e_ => za7.out e_.symm) (by simp));replace HI := am (hi);replace LC := am (Loc.call LC.out hk hb);obtain ⟨AT_,cT_,zaq,zai,zaj,zak,zal,zac,zad,zae,zaf⟩ := HI.out.cells_;obtain ⟨zaa,zab⟩ := cells1 zag.out;obtain ⟨zaC,zaD,zaE,zaF,zaG,zaH,zaI,zaJ⟩ := cells4 zaU.out;clear hb hk hi hv) | ((with_reducible refine gate_store (t := 25) (p := 2) rfl ?_);refine store3_event (b := b_r) (y0 := .int .i64 t.f0) (y1 := .int .i64 t.f1) (y2 := .slice A1 t.f2.length c1) ?hgd ?hN ?hr zah.out ?_;(case hgd => rfl);(case hN => rfl);(case hr => (obtain ⟨q0_,f0_,q1_,f1_,q2_,f2_⟩ := cells3 zah.out;go_simp;try rfl));intro w13 hx hk zax;clear zaq zai zaj zak zal zac zad zae zaf zaa zab zaC zaD zaE zaF zaG zaH zaI zaJ;replace zbN := am (VV.store zbN.out hk (by simp));replace zag := am (blk_kept zag.out hk (by first | exact za9.out | exact (fun e_ => NE_r_p.out e_.symm)));replace zah := am (hx);replace zaU := am (blk_kept zaU.out hk (by first | exact zbZ.out | exact (fun e_ => zbL.out e_.symm)));replace HI := am (St.store HI.out hk zao.out);replace LC := am (Loc.store LC.out (b := b_r) (by simp) hk (zax _));obtain ⟨AT_,cT_,zaq,zai,zaj,zak,zal,zac,zad,zae,zaf⟩ := HI.out.cells_;obtain ⟨zaa,zab⟩ := cells1 zag.out;obtain ⟨zaC,zaD,zaE,zaF,zaG,zaH,zaI,zaJ⟩ := cells4 zaU.out;clear hx hk zax))
 refine bodyPost_ret (results_cell_row rfl _ _ b_r 25 (ncells t A1 c1) (0,0) _ rfl zah.out Tryd.underlying25 rfl (by kernel_rfl)) rfl ?_
 exact ⟨A1,c1,rfl,zbN.out.out,HI.out,LC.out.out.1,LC.out.out.2⟩
theorem atom_time {l : List Tk} {k : Nat} (hT : TreeC l k) (i n d e0 : Int) (s' : PSt) (t : Nd) (g : Nat) (w0 w : World) (hI : St w0 w g l ⟨i,n,d,e0⟩) (hB : Below w0.heap.size w0 w) (c1 : i ≠ (l.length : Int)) (p1 : 0 ≤ i) (q1 : i < (l.length : Int)) (c2 : ¬ (rd_T63 l i).f0 = 1) (k0 : ¬ (rd_T63 l i).f2.toList = bKey.toList) (k1 : (rd_T63 l i).f2.toList = bTime.toList) (hn : nodeW ⟨wrap64 (i + 1),n,d,e0⟩ 3 0 [] = (t,s')) :
  Calls Tryd.prog 64 #[.pointer (some ⟨g,0,none⟩)] w (NodePost w w0 g (fun w' => St w0 w' g l s') t) := by
 have zcz := Tryd.underlying25
 have zfF := Tryd.underlying63
 have c1b : (i == (l.length : Int)) = false := beq_eq_false_iff_ne.mpr c1
 have pI := am p1
 have qI := am q1
 replace p1 := eq_true p1
 replace q1 := eq_true q1
 have c2b : ((rd_T63 l i).f0 == 1) = false := beq_eq_false_iff_ne.mpr c2
 have hb0 : bKey.toList = [107,101,121] := by simp
 have k0b : ((rd_T63 l i).f2.toList == [107,101,121]) = false := by rw [← hb0];exact beq_eq_false_iff_ne.mpr k0
 have hb1 : bTime.toList = [116,105,109,101] := by simp
 have k1b : ((rd_T63 l i).f2.toList == [116,105,109,101]) = true := by rw [← hb1];exact beq_iff_eq.mpr k1
 have HWD := am (ba_eq k1)
 clear k0 hb0
 clear k1 hb1
 clear c1 c2
 have HF := am hn
 clear hn
 have LC := am (Loc.init hB hI.lt hI.ge)
 have HI := am hI
 obtain ⟨AT_,cT_,zaq,zai,zaj,zak,zal,zac,zad,zae,zaf⟩ := HI.out.cells_
 (try dsimp only at zai zaj zak zal)
 clear hB hI
 go_enter Tryd.func64,Tryd.ntmps64
 try go_wp2_with (first | ((with_reducible refine gate_dst (N := 1) rfl ?_);refine box_event ?hg (N := 1) ?hd (cs := #[.pointer (some ⟨g,0,none⟩)]) (t := 70) ?hr ?_;(case hd => rfl);(case hg => rfl);(case hr => (go_simp;try rfl));intro b_p hg w1 zan hb;clear zaq zai zaj zak zal zac zad zae zaf;have zaL := am ((by rw [hg];exact Nat.ne_of_lt (LC.out.lt _ LC.out.me) : g ≠ b_p));have zag := am (zan);replace HI := am (St.made HI.out hb);replace LC := am (Loc.alloc LC.out hb hg (blk_lt zan));obtain ⟨AT_,cT_,zaq,zai,zaj,zak,zal,zac,zad,zae,zaf⟩ := HI.out.cells_;(try dsimp only at zai zaj zak zal);obtain ⟨zaa,zab⟩ := cells1 zag.out;clear hg hb zan) | ((with_reducible refine gate_dst (N := 2) rfl ?_);refine box_event ?hg (N := 2) ?hd (cs := #[.int .i64 0,.int .i64 0,.slice none 0 0]) (t := 25) ?hr ?_;(case hd => rfl);(case hg => rfl);(case hr => (go_simp;try rfl));intro b_r hg w2 zan hb;clear zaq zai zaj zak zal zac zad zae zaf zaa zab;have za9 := am ((by rw [hg];exact Nat.ne_of_lt (blk_lt zag.out) : b_p ≠ b_r));have zao := am ((by rw [hg];exact Nat.ne_of_lt (LC.out.lt _ LC.out.me) : g ≠ b_r));replace zag := am (blk_below zag.out hb);have zah := am (zan);replace HI := am (St.made HI.out hb);replace LC := am (Loc.alloc LC.out hb hg (blk_lt zan));obtain ⟨AT_,cT_,zaq,zai,zaj,zak,zal,zac,zad,zae,zaf⟩ := HI.out.cells_;(try dsimp only at zai zaj zak zal);obtain ⟨zaa,zab⟩ := cells1 zag.out;clear hg hb zan))
 go_quiet (fail)
 clear zaq zai zaj zak zal zac zad zae zaf zaa zab
 replace zag := am (blk_drewN zag.out nq)
 replace zah := am (blk_drewN zah.out nq)
 replace HI := am ((show St w0 (w2.drewN nq) g l _ from HI.out))
 replace LC := am (Loc.drewN LC.out nq)
 generalize w2.drewN nq = w3 at LC HI zag zah ⊢
 obtain ⟨AT_,cT_,zaq,zai,zaj,zak,zal,zac,zad,zae,zaf⟩ := HI.out.cells_
 (try dsimp only at zai zaj zak zal)
 obtain ⟨zaa,zab⟩ := cells1 zag.out
 try go_wp2_with (fail)
 clear zaq zai zaj zak zal zac zad zae zaf zaa zab
 replace zag := am (blk_drew zag.out)
 replace zah := am (blk_drew zah.out)
 replace HI := am ((show St w0 w3.drew g l _ from HI.out))
 replace LC := am (Loc.drew LC.out)
 obtain ⟨AT_,cT_,HG_,HT_⟩ := HI.out.open_
 obtain ⟨ad_,e_,za2,za3,za4,za5⟩ := at_T63 HT_ (i) pI.out qI.out
 cases e_
 have zbn := am za2
 have zbo := am za3
 have zbp := am za4
 have zbq := am za5
 clear za2 za3 za4 za5
 have zba := am HG_
 clear HG_ HT_
 have zcQ := zaL
 have zcu := zao
 have za2 := pcb LC.out.below zbn.out
 have za3 := pcb LC.out.below zbo.out
 have za4 := pcb LC.out.below zbp.out
 have za5 := pcb LC.out.below zbq.out
 obtain ⟨zaa,zab⟩ := cells1 zag.out
 obtain ⟨zas,zaM,zat,zaN,zau,zaO,zav,zaP,zaw,zaQ⟩ := cells5 zba.out
 refine start_ (n := 12) (S := fun w' => w'.cell? ⟨b_p,0,none⟩ = some (.pointer (some ⟨g,0,none⟩)) ∧ w'.cell? ⟨g,0,none⟩ = some (.slice (some ad_) l.length cT_) ∧ w'.cell? ⟨g,1,none⟩ = some (.int .i64 (i)) ∧ w'.cell? ⟨g,2,none⟩ = some (.int .i64 (n)) ∧ w'.cell? ⟨g,3,none⟩ = some (.int .i64 (d)) ∧ w'.cell? ⟨g,4,none⟩ = some (.int .i64 (e0)) ∧ w'.cell? (ad_.add ((i).toNat * 4)) = some (.int .i64 (rd_T63 l (i)).f0) ∧ w'.cell? ⟨(ad_.add ((i).toNat * 4)).block,(ad_.add ((i).toNat * 4)).off + 1,none⟩ = some (.int .i64 (rd_T63 l (i)).f1) ∧ w'.cell? ⟨(ad_.add ((i).toNat * 4)).block,(ad_.add ((i).toNat * 4)).off + 2,none⟩ = some (.string (rd_T63 l (i)).f2) ∧ w'.cell? ⟨(ad_.add ((i).toNat * 4)).block,(ad_.add ((i).toNat * 4)).off + 3,none⟩ = some (.int .i64 (rd_T63 l (i)).f3)) (ds := []) #[false,false,false,false,false,false,false,false,false,false,false,false] (by kernel_rfl) rfl rfl ⟨zaa,zas,zat,zau,zav,zaw,za2,za3,za4,za5⟩ (fun hHeld => ?_)
 generalize w3.drew = w4 at LC HI zag zah zba zaa zas zat zau zav zaw za2 za3 za4 za5 zab zaM zaN zaO zaP zaQ hHeld ⊢
 refine take_ (i := 0) (N := some 16) (v := ?_) (a' := ?_) #[true,false,false,false,false,false,false,false,false,false,false,false] rfl rfl (by kernel_rfl) (fun _ _ _ h => h) (Or.inl ⟨by rfl,?_⟩) hHeld ?_ ?_
 rotate_left
 ·rintro w' ⟨s0,s1,s2,s3,s4,s5,s6,s7,s8,s9⟩
  go_simp
  with_reducible rfl
 rotate_left
 ·simp only [Act.put,List.setIfInBounds_toArray,List.set_cons_zero,List.set_cons_succ,i64_w,i32_w]
  rfl
 refine pure_ (i := 1) (N := some 17) (v := ?_) (a' := ?_) #[true,true,false,false,false,false,false,false,false,false,false,false] rfl rfl (by kernel_rfl) (fun _ _ _ h => h) (Or.inl ⟨by rfl,?_⟩) ?_ ?_
 rotate_left
 ·intro w'
  go_simp
  with_reducible rfl
 rotate_left
 ·simp only [Act.put,List.setIfInBounds_toArray,List.set_cons_zero,List.set_cons_succ,i64_w,i32_w]
  rfl
 refine pure_ (i := 2) (N := some 18) (v := ?_) (a' := ?_) #[true,true,true,false,false,false,false,false,false,false,false,false] rfl rfl (by kernel_rfl) (fun _ _ _ h => h) (Or.inl ⟨by rfl,?_⟩) ?_ ?_
 rotate_left
 ·intro w'
  go_simp
  with_reducible rfl
 rotate_left
 ·simp only [Act.put,List.setIfInBounds_toArray,List.set_cons_zero,List.set_cons_succ,i64_w,i32_w]
  rfl
 refine take_ (i := 3) (N := some 19) (v := ?_) (a' := ?_) #[true,true,true,true,false,false,false,false,false,false,false,false] rfl rfl (by kernel_rfl) (fun _ _ _ h => h) (Or.inl ⟨by rfl,?_⟩) hHeld ?_ ?_
 rotate_left
 ·rintro w' ⟨s0,s1,s2,s3,s4,s5,s6,s7,s8,s9⟩
  go_simp
  with_reducible rfl
 rotate_left
 ·simp only [Act.put,List.setIfInBounds_toArray,List.set_cons_zero,List.set_cons_succ,i64_w,i32_w]
  rfl
 refine take_ (i := 4) (N := some 20) (v := ?_) (a' := ?_) #[true,true,true,true,true,false,false,false,false,false,false,false] rfl rfl (by kernel_rfl) (fun _ _ _ h => h) (Or.inl ⟨by rfl,?_⟩) hHeld ?_ ?_
 rotate_left
 ·rintro w' ⟨s0,s1,s2,s3,s4,s5,s6,s7,s8,s9⟩
  go_simp
  with_reducible rfl
 rotate_left
 ·simp only [Act.put,List.setIfInBounds_toArray,List.set_cons_zero,List.set_cons_succ,i64_w,i32_w]
  rfl
 refine pure_ (i := 5) (N := some 21) (v := ?_) (a' := ?_) #[true,true,true,true,true,true,false,false,false,false,false,false] rfl rfl (by kernel_rfl) (fun _ _ _ h => h) (Or.inl ⟨by rfl,?_⟩) ?_ ?_
 rotate_left
 ·intro w'
  go_simp
  with_reducible rfl
 rotate_left
 ·simp only [Act.put,List.setIfInBounds_toArray,List.set_cons_zero,List.set_cons_succ,i64_w,i32_w]
  rfl
 refine pure_ (i := 6) (N := some 22) (v := ?_) (a' := ?_) #[true,true,true,true,true,true,true,false,false,false,false,false] rfl rfl (by kernel_rfl) (fun _ _ _ h => h) (Or.inl ⟨by rfl,?_⟩) ?_ ?_
 rotate_left
 ·intro w'
  go_simp
  with_reducible rfl
 rotate_left
 ·simp only [Act.put,List.setIfInBounds_toArray,List.set_cons_zero,List.set_cons_succ,i64_w,i32_w]
  rfl
 refine take_ (i := 7) (N := some 23) (v := ?_) (a' := ?_) #[true,true,true,true,true,true,true,true,false,false,false,false] rfl rfl (by kernel_rfl) (fun _ _ _ h => h) (Or.inl ⟨by rfl,?_⟩) hHeld ?_ ?_
 rotate_left
 ·rintro w' ⟨s0,s1,s2,s3,s4,s5,s6,s7,s8,s9⟩
  go_simp
  with_reducible rfl
 rotate_left
 ·simp only [Act.put,List.setIfInBounds_toArray,List.set_cons_zero,List.set_cons_succ,i64_w,i32_w]
  rfl
 refine pure_ (i := 8) (N := some 24) (v := ?_) (a' := ?_) #[true,true,true,true,true,true,true,true,true,false,false,false] rfl rfl (by kernel_rfl) (fun _ _ _ h => h) (Or.inl ⟨by rfl,?_⟩) ?_ ?_
 rotate_left
 ·intro w'
  go_simp
  with_reducible rfl
 rotate_left
 ·simp only [Act.put,List.setIfInBounds_toArray,List.set_cons_zero,List.set_cons_succ,i64_w,i32_w]
  rfl
 refine take_ (i := 9) (N := some 25) (v := ?_) (a' := ?_) #[true,true,true,true,true,true,true,true,true,true,false,false] rfl rfl (by kernel_rfl) (fun _ _ _ h => h) (Or.inl ⟨by rfl,?_⟩) hHeld ?_ ?_
 rotate_left
 ·rintro w' ⟨s0,s1,s2,s3,s4,s5,s6,s7,s8,s9⟩
  go_simp
  with_reducible rfl
 rotate_left
 ·simp only [Act.put,List.setIfInBounds_toArray,List.set_cons_zero,List.set_cons_succ,i64_w,i32_w]
  rfl
 refine one_ (i := 10) (N := some 3) #[true,true,true,true,true,true,true,true,true,true,true,false] rfl rfl (by kernel_rfl) (by decide) (fun K hK => ?_)
 refine box_step (by rfl) (N := 3) rfl (cs := #[.int .i64 0,.int .i64 0,.string ⟨#[]⟩,.int .i64 0]) (t := 63) ?hr ?_
 case hr => first | (go_simp;done) | (go_simp;rfl)
 intro b_t w5 hg zan hb
 clear za2 za3 za4 za5 zaa zab zas zaM zat zaN zau zaO zav zaP zaw zaQ
 have zcf := am ((by rw [hg];exact Nat.ne_of_lt (blk_lt zag.out) : b_p ≠ b_t))
 have zbL := am ((by rw [hg];exact Nat.ne_of_lt (blk_lt zah.out) : b_r ≠ b_t))
 have zcg := am ((by rw [hg];exact Nat.ne_of_lt (blk_lt zba.out) : g ≠ b_t))
 have za7 := am ((by rw [hg];exact Nat.ne_of_lt (LC.out.lt _ LC.out.me) : g ≠ b_t))
 replace zag := am (blk_below zag.out hb)
 replace zah := am (blk_below zah.out hb)
 replace zba := am (blk_below zba.out hb)
 have zaU := am (zan)
 replace HI := am (St.made HI.out hb)
 replace LC := am (Loc.alloc LC.out hb hg (blk_lt zan))
 have za2 := pcb LC.out.below zbn.out
 have za3 := pcb LC.out.below zbo.out
 have za4 := pcb LC.out.below zbp.out
 have za5 := pcb LC.out.below zbq.out
 obtain ⟨zaa,zab⟩ := cells1 zag.out
 obtain ⟨zas,zaM,zat,zaN,zau,zaO,zav,zaP,zaw,zaQ⟩ := cells5 zba.out
 clear hg hb zan
 refine hK.out _ _ ⟨zaa,zas,zat,zau,zav,zaw,za2,za3,za4,za5⟩ (fun hHeld => ?_)
 clear hK K
 refine norm_ (a' := ?_) ?_ ?_
 rotate_left
 ·show Act.put _ (some 3) _ = _
  simp only [Act.put,List.setIfInBounds_toArray,List.set_cons_zero,List.set_cons_succ,i64_w,i32_w]
  rfl
 refine one_ (i := 11) (N := none) #[true,true,true,true,true,true,true,true,true,true,true,true] rfl rfl (by kernel_rfl) (by decide) (fun K hK => ?_)
 refine store4_step (by rfl) rfl (b := b_t) (y0 := .int .i64 (rd_T63 l i).f0) (y1 := .int .i64 (rd_T63 l i).f1) (y2 := .string (rd_T63 l i).f2) (y3 := .int .i64 (rd_T63 l i).f3) ?hr zaU.out ?_
 case hr => (obtain ⟨q0_,f0_,q1_,f1_,q2_,f2_,q3_,f3_⟩ := cells4 zaU.out;go_simp;try rfl)
 intro w6 hx hk zax
 clear za2 za3 za4 za5 zaa zab zas zaM zat zaN zau zaO zav zaP zaw zaQ
 replace zag := am (blk_kept zag.out hk (by first | exact zcf.out | exact (fun e_ => NE_t_p.out e_.symm)))
 replace zah := am (blk_kept zah.out hk (by first | exact zbL.out | exact (fun e_ => zbZ.out e_.symm)))
 replace zba := am (blk_kept zba.out hk (by first | exact zcg.out | exact (fun e_ => NE_t_G.out e_.symm)))
 replace zaU := am (hx)
 replace HI := am (St.store HI.out hk za7.out)
 replace LC := am (Loc.store LC.out (b := b_t) (by simp) hk (zax _))
 have za2 := pcb LC.out.below zbn.out
 have za3 := pcb LC.out.below zbo.out
 have za4 := pcb LC.out.below zbp.out
 have za5 := pcb LC.out.below zbq.out
 obtain ⟨zaa,zab⟩ := cells1 zag.out
 obtain ⟨zas,zaM,zat,zaN,zau,zaO,zav,zaP,zaw,zaQ⟩ := cells5 zba.out
 obtain ⟨zaC,zaD,zaE,zaF,zaG,zaH,zaI,zaJ⟩ := cells4 zaU.out
 clear hx hk zax
 refine hK.out _ _ ⟨zaa,zas,zat,zau,zav,zaw,za2,za3,za4,za5⟩ (fun hHeld => ?_)
 clear hK K
 refine done_ (by kernel_rfl) ?_
 clear za2 za3 za4 za5 zaa zab zas zaM zat zaN zau zaO zav zaP zaw zaQ zaC zaD zaE zaF zaG zaH zaI zaJ
 clear zba
 clear zbn zbo zbp zbq
 obtain ⟨AT_,cT_,zaq,zai,zaj,zak,zal,zac,zad,zae,zaf⟩ := HI.out.cells_
 (try dsimp only at zai zaj zak zal)
 obtain ⟨zaa,zab⟩ := cells1 zag.out
 obtain ⟨zaC,zaD,zaE,zaF,zaG,zaH,zaI,zaJ⟩ := cells4 zaU.out
 go_wp2_with (first | ((with_reducible refine gate_store (t := 3) (p := 52) rfl ?_);refine stI_event (g := g) (x := wrap64 (i + 1)) ?hgd ?hN ?hr HI.out ?_;(case hgd => rfl);(case hN => rfl);(case hr => (go_simp;try rfl));intro w7 hx hk zax;clear zaq zai zaj zak zal zac zad zae zaf zaa zab zaC zaD zaE zaF zaG zaH zaI zaJ;replace zag := am (blk_kept zag.out hk (fun e_ => zaL.out e_.symm));replace zah := am (blk_kept zah.out hk (fun e_ => zao.out e_.symm));replace zaU := am (blk_kept zaU.out hk (fun e_ => za7.out e_.symm));replace HI := am (hx);replace LC := am (Loc.store LC.out (b := g) (by simp) hk (zax _));obtain ⟨AT_,cT_,zaq,zai,zaj,zak,zal,zac,zad,zae,zaf⟩ := HI.out.cells_;(try dsimp only at zai zaj zak zal);obtain ⟨zaa,zab⟩ := cells1 zag.out;obtain ⟨zaC,zaD,zaE,zaF,zaG,zaH,zaI,zaJ⟩ := cells4 zaU.out;clear hx hk zax) | ((with_reducible refine gate_dst (N := 54) rfl ?_);refine map_event (N := 54) ?hg ?hd ?hr ?_;(case hd => rfl);(case hg => rfl);(case hr => first | (go_simp;done) | (go_simp;rfl) | rfl);intro b_m w8 hg hlt zcR hb;clear zaq zai zaj zak zal zac zad zae zaf zaa zab zaC zaD zaE zaF zaG zaH zaI zaJ;have zcS := am ((by rw [hg];exact Nat.ne_of_lt (blk_lt zag.out) : b_p ≠ b_m));have zcT := am ((by rw [hg];exact Nat.ne_of_lt (blk_lt zah.out) : b_r ≠ b_m));have zcU := am ((by rw [hg];exact Nat.ne_of_lt (blk_lt zaU.out) : b_t ≠ b_m));have zcV := am ((by rw [hg];exact Nat.ne_of_lt (LC.out.lt _ LC.out.me) : g ≠ b_m));replace zag := am (blk_below zag.out hb);replace zah := am (blk_below zah.out hb);replace zaU := am (blk_below zaU.out hb);have zd4 := am (zcR);replace HI := am (St.made HI.out hb);replace LC := am (Loc.alloc LC.out hb hg hlt);obtain ⟨AT_,cT_,zaq,zai,zaj,zak,zal,zac,zad,zae,zaf⟩ := HI.out.cells_;(try dsimp only at zai zaj zak zal);obtain ⟨zaa,zab⟩ := cells1 zag.out;obtain ⟨zaC,zaD,zaE,zaF,zaG,zaH,zaI,zaJ⟩ := cells4 zaU.out;clear hg hlt zcR hb) | ((with_reducible refine gate_insert bKey rfl ?_);refine mapput_event (b := b_m) (n := 0) (key := bKey) (y := 2) rfl rfl _ _ _ 113 rfl Tryd.underlying9 Tryd.underlying3 Tryd.underlying113 zd4.out (by unfold maxLen;omega) rfl rfl (by decide) rfl (by decide) ?_;intro w9 zcR hk zax;clear zaq zai zaj zak zal zac zad zae zaf zaa zab zaC zaD zaE zaF zaG zaH zaI zaJ;replace zag := am (blk_kept zag.out hk (by first | exact zcS.out | exact (fun e_ => NE_m_p.out e_.symm)));replace zah := am (blk_kept zah.out hk (by first | exact zcT.out | exact (fun e_ => NE_m_r.out e_.symm)));replace zaU := am (blk_kept zaU.out hk (by first | exact zcU.out | exact (fun e_ => NE_m_t.out e_.symm)));replace zd4 := am (zcR);replace HI := am (St.store HI.out hk zcV.out);replace LC := am (Loc.store LC.out (b := b_m) (by simp) hk (zax _));obtain ⟨AT_,cT_,zaq,zai,zaj,zak,zal,zac,zad,zae,zaf⟩ := HI.out.cells_;(try dsimp only at zai zaj zak zal);obtain ⟨zaa,zab⟩ := cells1 zag.out;obtain ⟨zaC,zaD,zaE,zaF,zaG,zaH,zaI,zaJ⟩ := cells4 zaU.out;clear zcR hk zax) | ((with_reducible refine gate_insert bTime rfl ?_);refine mapput_event (b := b_m) (n := 1) (key := bTime) (y := 3) rfl rfl _ _ _ 113 rfl Tryd.underlying9 Tryd.underlying3 Tryd.underlying113 zd4.out (by unfold maxLen;omega) rfl rfl (by decide) rfl (by decide) ?_;intro w10 zcR hk zax;clear zaq zai zaj zak zal zac zad zae zaf zaa zab zaC zaD zaE zaF zaG zaH zaI zaJ;replace zag := am (blk_kept zag.out hk (by first | exact zcS.out | exact (fun e_ => NE_m_p.out e_.symm)));replace zah := am (blk_kept zah.out hk (by first | exact zcT.out | exact (fun e_ => NE_m_r.out e_.symm)));replace zaU := am (blk_kept zaU.out hk (by first | exact zcU.out | exact (fun e_ => NE_m_t.out e_.symm)));replace zd4 := am (zcR);replace HI := am (St.store HI.out hk zcV.out);replace LC := am (Loc.store LC.out (b := b_m) (by simp) hk (zax _));obtain ⟨AT_,cT_,zaq,zai,zaj,zak,zal,zac,zad,zae,zaf⟩ := HI.out.cells_;(try dsimp only at zai zaj zak zal);obtain ⟨zaa,zab⟩ := cells1 zag.out;obtain ⟨zaC,zaD,zaE,zaF,zaG,zaH,zaI,zaJ⟩ := cells4 zaU.out;clear zcR hk zax) | ((with_reducible refine gate_insert bValue rfl ?_);refine mapput_event (b := b_m) (n := 2) (key := bValue) (y := 4) rfl rfl _ _ _ 113 rfl Tryd.underlying9 Tryd.underlying3 Tryd.underlying113 zd4.out (by unfold maxLen;omega) rfl rfl (by decide) rfl (by decide) ?_;intro w11 zcR hk zax;clear zaq zai zaj zak zal zac zad zae zaf zaa zab zaC zaD zaE zaF zaG zaH zaI zaJ;replace zag := am (blk_kept zag.out hk (by first | exact zcS.out | exact (fun e_ => NE_m_p.out e_.symm)));replace zah := am (blk_kept zah.out hk (by first | exact zcT.out | exact (fun e_ => NE_m_r.out e_.symm)));replace zaU := am (blk_kept zaU.out hk (by first | exact zcU.out | exact (fun e_ => NE_m_t.out e_.symm)));replace zd4 := am (zcR);replace HI := am (St.store HI.out hk zcV.out);replace LC := am (Loc.store LC.out (b := b_m) (by simp) hk (zax _));obtain ⟨AT_,cT_,zaq,zai,zaj,zak,zal,zac,zad,zae,zaf⟩ := HI.out.cells_;(try dsimp only at zai zaj zak zal);obtain ⟨zaa,zab⟩ := cells1 zag.out;obtain ⟨zaC,zaD,zaE,zaF,zaG,zaH,zaI,zaJ⟩ := cells4 zaU.out;clear zcR hk zax) | (at_lookup;refine mapget_event (b := b_m) (n := 3) (key := bTime) (y := 3) rfl _ _ 113 rfl Tryd.underlying9 Tryd.underlying3 Tryd.underlying113 (by kernel_rfl) zd4.out rfl (congrArg Value.string HWD.out) (by decide) (by rfl) ?_) | ((with_reducible refine gate_callee (f := 62) rfl ?_);refine goesL_ (some 59) rfl rfl Tryd.func62 (by kernel_rfl) rfl #[.pointer (some ⟨g,0,none⟩),.int .i64 3,.int .i64 0,.slice none 0 0] rfl (by (try simp only [List.map_toArray,List.map_cons,List.map_nil]);first | done | rfl) ?_;(with_reducible refine (node_nil HF.out HI.out LC.out).mono ?_);rintro e w12 ⟨A1,c1,rfl,hv,hi,hb,hk⟩;refine ⟨_,rfl,?_⟩;clear zaq zai zaj zak zal zac zad zae zaf zaa zab zaC zaD zaE zaF zaG zaH zaI zaJ;have zbN := am (hv);replace zag := am (KeepBut.blk hk zag.out (fun e_ => zaL.out e_.symm) (by simp));replace zah := am (KeepBut.blk hk zah.out (fun e_ => zao.out e_.symm) (by simp));replace zaU := am (KeepBut.blk hk zaU.out (fun e_ => za7.out e_.symm) (by simp));replace HI := am (hi);replace LC := am (Loc.call LC.out hk hb);obtain ⟨AT_,cT_,zaq,zai,zaj,zak,zal,zac,zad,zae,zaf⟩ := HI.out.cells_;obtain ⟨zaa,zab⟩ := cells1 zag.out;obtain ⟨zaC,zaD,zaE,zaF,zaG,zaH,zaI,zaJ⟩ := cells4 zaU.out;clear hb hk hi hv) | ((with_reducible refine gate_store (t := 25) (p := 2) rfl ?_);refine store3_event (b := b_r) (y0 := .int .i64 t.f0) (y1 := .int .i64 t.f1) (y2 := .slice A1 t.f2.length c1) ?hgd ?hN ?hr zah.out ?_;(case hgd => rfl);(case hN => rfl);(case hr => (obtain ⟨q0_,f0_,q1_,f1_,q2_,f2_⟩ := cells3 zah.out;go_simp;try rfl));intro w13 hx hk zax;clear zaq zai zaj zak zal zac zad zae zaf zaa zab zaC zaD zaE zaF zaG zaH zaI zaJ;replace zbN := am (VV.store zbN.out hk (by simp));replace zag := am (blk_kept zag.out hk (by first | exact za9.out | exact (fun e_ => NE_r_p.out e_.symm)));replace zah := am (hx);replace zaU := am (blk_kept zaU.out hk (by first | exact zbZ.out | exact (fun e_ => zbL.out e_.symm)));replace HI := am (St.store HI.out hk zao.out);replace LC := am (Loc.store LC.out (b := b_r) (by simp) hk (zax _));obtain ⟨AT_,cT_,zaq,zai,zaj,zak,zal,zac,zad,zae,zaf⟩ := HI.out.cells_;obtain ⟨zaa,zab⟩ := cells1 zag.out;obtain ⟨zaC,zaD,zaE,zaF,zaG,zaH,zaI,zaJ⟩ := cells4 zaU.out;clear hx hk zax))
 refine bodyPost_ret (results_cell_row rfl _ _ b_r 25 (ncells t A1 c1) (0,0) _ rfl zah.out Tryd.underlying25 rfl (by kernel_rfl)) rfl ?_
 exact ⟨A1,c1,rfl,zbN.out.out,HI.out,LC.out.out.1,LC.out.out.2⟩
theorem atom_value {l : List Tk} {k : Nat} (hT : TreeC l k) (i n d e0 : Int) (s' : PSt) (t : Nd) (g : Nat) (w0 w : World) (hI : St w0 w g l ⟨i,n,d,e0⟩) (hB : Below w0.heap.size w0 w) (c1 : i ≠ (l.length : Int)) (p1 : 0 ≤ i) (q1 : i < (l.length : Int)) (c2 : ¬ (rd_T63 l i).f0 = 1) (k0 : ¬ (rd_T63 l i).f2.toList = bKey.toList) (k1 : ¬ (rd_T63 l i).f2.toList = bTime.toList) (k2 : (rd_T63 l i).f2.toList = bValue.toList) (hn : nodeW ⟨wrap64 (i + 1),n,d,e0⟩ 4 0 [] = (t,s')) :
  Calls Tryd.prog 64 #[.pointer (some ⟨g,0,none⟩)] w (NodePost w w0 g (fun w' => St w0 w' g l s') t) := by
 have zcz := Tryd.underlying25
 have zfF := Tryd.underlying63
 have c1b : (i == (l.length : Int)) = false := beq_eq_false_iff_ne.mpr c1
 have pI := am p1
 have qI := am q1
 replace p1 := eq_true p1
 replace q1 := eq_true q1
 have c2b : ((rd_T63 l i).f0 == 1) = false := beq_eq_false_iff_ne.mpr c2
 have hb0 : bKey.toList = [107,101,121] := by simp
 have k0b : ((rd_T63 l i).f2.toList == [107,101,121]) = false := by rw [← hb0];exact beq_eq_false_iff_ne.mpr k0
 have hb1 : bTime.toList = [116,105,109,101] := by simp
 have k1b : ((rd_T63 l i).f2.toList == [116,105,109,101]) = false := by rw [← hb1];exact beq_eq_false_iff_ne.mpr k1
 have hb2 : bValue.toList = [118,97,108,117,101] := by simp
 have k2b : ((rd_T63 l i).f2.toList == [118,97,108,117,101]) = true := by rw [← hb2];exact beq_iff_eq.mpr k2
 have HWD := am (ba_eq k2)
 clear k0 hb0
 clear k1 hb1
 clear k2 hb2
 clear c1 c2
 have HF := am hn
 clear hn
 have LC := am (Loc.init hB hI.lt hI.ge)
 have HI := am hI
 obtain ⟨AT_,cT_,zaq,zai,zaj,zak,zal,zac,zad,zae,zaf⟩ := HI.out.cells_
 (try dsimp only at zai zaj zak zal)
 clear hB hI
 go_enter Tryd.func64,Tryd.ntmps64
 try go_wp2_with (first | ((with_reducible refine gate_dst (N := 1) rfl ?_);refine box_event ?hg (N := 1) ?hd (cs := #[.pointer (some ⟨g,0,none⟩)]) (t := 70) ?hr ?_;(case hd => rfl);(case hg => rfl);(case hr => (go_simp;try rfl));intro b_p hg w1 zan hb;clear zaq zai zaj zak zal zac zad zae zaf;have zaL := am ((by rw [hg];exact Nat.ne_of_lt (LC.out.lt _ LC.out.me) : g ≠ b_p));have zag := am (zan);replace HI := am (St.made HI.out hb);replace LC := am (Loc.alloc LC.out hb hg (blk_lt zan));obtain ⟨AT_,cT_,zaq,zai,zaj,zak,zal,zac,zad,zae,zaf⟩ := HI.out.cells_;(try dsimp only at zai zaj zak zal);obtain ⟨zaa,zab⟩ := cells1 zag.out;clear hg hb zan) | ((with_reducible refine gate_dst (N := 2) rfl ?_);refine box_event ?hg (N := 2) ?hd (cs := #[.int .i64 0,.int .i64 0,.slice none 0 0]) (t := 25) ?hr ?_;(case hd => rfl);(case hg => rfl);(case hr => (go_simp;try rfl));intro b_r hg w2 zan hb;clear zaq zai zaj zak zal zac zad zae zaf zaa zab;have za9 := am ((by rw [hg];exact Nat.ne_of_lt (blk_lt zag.out) : b_p ≠ b_r));have zao := am ((by rw [hg];exact Nat.ne_of_lt (LC.out.lt _ LC.out.me) : g ≠ b_r));replace zag := am (blk_below zag.out hb);have zah := am (zan);replace HI := am (St.made HI.out hb);replace LC := am (Loc.alloc LC.out hb hg (blk_lt zan));obtain ⟨AT_,cT_,zaq,zai,zaj,zak,zal,zac,zad,zae,zaf⟩ := HI.out.cells_;(try dsimp only at zai zaj zak zal);obtain ⟨zaa,zab⟩ := cells1 zag.out;clear hg hb zan))
 go_quiet (fail)
 clear zaq zai zaj zak zal zac zad zae zaf zaa zab
 replace zag := am (blk_drewN zag.out nq)
 replace zah := am (blk_drewN zah.out nq)
 replace HI := am ((show St w0 (w2.drewN nq) g l _ from HI.out))
 replace LC := am (Loc.drewN LC.out nq)
 generalize w2.drewN nq = w3 at LC HI zag zah ⊢
 obtain ⟨AT_,cT_,zaq,zai,zaj,zak,zal,zac,zad,zae,zaf⟩ := HI.out.cells_
 (try dsimp only at zai zaj zak zal)
 obtain ⟨zaa,zab⟩ := cells1 zag.out
 try go_wp2_with (fail)
 clear zaq zai zaj zak zal zac zad zae zaf zaa zab
 replace zag := am (blk_drew zag.out)
 replace zah := am (blk_drew zah.out)
 replace HI := am ((show St w0 w3.drew g l _ from HI.out))
 replace LC := am (Loc.drew LC.out)
 obtain ⟨AT_,cT_,HG_,HT_⟩ := HI.out.open_
 obtain ⟨ad_,e_,za2,za3,za4,za5⟩ := at_T63 HT_ (i) pI.out qI.out
 cases e_
 have zbn := am za2
 have zbo := am za3
 have zbp := am za4
 have zbq := am za5
 clear za2 za3 za4 za5
 have zba := am HG_
 clear HG_ HT_
 have zcQ := zaL
 have zcu := zao
 have za2 := pcb LC.out.below zbn.out
 have za3 := pcb LC.out.below zbo.out
 have za4 := pcb LC.out.below zbp.out
 have za5 := pcb LC.out.below zbq.out
 obtain ⟨zaa,zab⟩ := cells1 zag.out
 obtain ⟨zas,zaM,zat,zaN,zau,zaO,zav,zaP,zaw,zaQ⟩ := cells5 zba.out
 refine start_ (n := 12) (S := fun w' => w'.cell? ⟨b_p,0,none⟩ = some (.pointer (some ⟨g,0,none⟩)) ∧ w'.cell? ⟨g,0,none⟩ = some (.slice (some ad_) l.length cT_) ∧ w'.cell? ⟨g,1,none⟩ = some (.int .i64 (i)) ∧ w'.cell? ⟨g,2,none⟩ = some (.int .i64 (n)) ∧ w'.cell? ⟨g,3,none⟩ = some (.int .i64 (d)) ∧ w'.cell? ⟨g,4,none⟩ = some (.int .i64 (e0)) ∧ w'.cell? (ad_.add ((i).toNat * 4)) = some (.int .i64 (rd_T63 l (i)).f0) ∧ w'.cell? ⟨(ad_.add ((i).toNat * 4)).block,(ad_.add ((i).toNat * 4)).off + 1,none⟩ = some (.int .i64 (rd_T63 l (i)).f1) ∧ w'.cell? ⟨(ad_.add ((i).toNat * 4)).block,(ad_.add ((i).toNat * 4)).off + 2,none⟩ = some (.string (rd_T63 l (i)).f2) ∧ w'.cell? ⟨(ad_.add ((i).toNat * 4)).block,(ad_.add ((i).toNat * 4)).off + 3,none⟩ = some (.int .i64 (rd_T63 l (i)).f3)) (ds := []) #[false,false,false,false,false,false,false,false,false,false,false,false] (by kernel_rfl) rfl rfl ⟨zaa,zas,zat,zau,zav,zaw,za2,za3,za4,za5⟩ (fun hHeld => ?_)
 generalize w3.drew = w4 at LC HI zag zah zba zaa zas zat zau zav zaw za2 za3 za4 za5 zab zaM zaN zaO zaP zaQ hHeld ⊢
 refine take_ (i := 0) (N := some 16) (v := ?_) (a' := ?_) #[true,false,false,false,false,false,false,false,false,false,false,false] rfl rfl (by kernel_rfl) (fun _ _ _ h => h) (Or.inl ⟨by rfl,?_⟩) hHeld ?_ ?_
 rotate_left
 ·rintro w' ⟨s0,s1,s2,s3,s4,s5,s6,s7,s8,s9⟩
  go_simp
  with_reducible rfl
 rotate_left
 ·simp only [Act.put,List.setIfInBounds_toArray,List.set_cons_zero,List.set_cons_succ,i64_w,i32_w]
  rfl
 refine pure_ (i := 1) (N := some 17) (v := ?_) (a' := ?_) #[true,true,false,false,false,false,false,false,false,false,false,false] rfl rfl (by kernel_rfl) (fun _ _ _ h => h) (Or.inl ⟨by rfl,?_⟩) ?_ ?_
 rotate_left
 ·intro w'
  go_simp
  with_reducible rfl
 rotate_left
 ·simp only [Act.put,List.setIfInBounds_toArray,List.set_cons_zero,List.set_cons_succ,i64_w,i32_w]
  rfl
 refine pure_ (i := 2) (N := some 18) (v := ?_) (a' := ?_) #[true,true,true,false,false,false,false,false,false,false,false,false] rfl rfl (by kernel_rfl) (fun _ _ _ h => h) (Or.inl ⟨by rfl,?_⟩) ?_ ?_
 rotate_left
 ·intro w'
  go_simp
  with_reducible rfl
 rotate_left
 ·simp only [Act.put,List.setIfInBounds_toArray,List.set_cons_zero,List.set_cons_succ,i64_w,i32_w]
  rfl
 refine take_ (i := 3) (N := some 19) (v := ?_) (a' := ?_) #[true,true,true,true,false,false,false,false,false,false,false,false] rfl rfl (by kernel_rfl) (fun _ _ _ h => h) (Or.inl ⟨by rfl,?_⟩) hHeld ?_ ?_
 rotate_left
 ·rintro w' ⟨s0,s1,s2,s3,s4,s5,s6,s7,s8,s9⟩
  go_simp
  with_reducible rfl
 rotate_left
 ·simp only [Act.put,List.setIfInBounds_toArray,List.set_cons_zero,List.set_cons_succ,i64_w,i32_w]
  rfl
 refine take_ (i := 4) (N := some 20) (v := ?_) (a' := ?_) #[true,true,true,true,true,false,false,false,false,false,false,false] rfl rfl (by kernel_rfl) (fun _ _ _ h => h) (Or.inl ⟨by rfl,?_⟩) hHeld ?_ ?_
 rotate_left
 ·rintro w' ⟨s0,s1,s2,s3,s4,s5,s6,s7,s8,s9⟩
  go_simp
  with_reducible rfl
 rotate_left
 ·simp only [Act.put,List.setIfInBounds_toArray,List.set_cons_zero,List.set_cons_succ,i64_w,i32_w]
  rfl
 refine pure_ (i := 5) (N := some 21) (v := ?_) (a' := ?_) #[true,true,true,true,true,true,false,false,false,false,false,false] rfl rfl (by kernel_rfl) (fun _ _ _ h => h) (Or.inl ⟨by rfl,?_⟩) ?_ ?_
 rotate_left
 ·intro w'
  go_simp
  with_reducible rfl
 rotate_left
 ·simp only [Act.put,List.setIfInBounds_toArray,List.set_cons_zero,List.set_cons_succ,i64_w,i32_w]
  rfl
 refine pure_ (i := 6) (N := some 22) (v := ?_) (a' := ?_) #[true,true,true,true,true,true,true,false,false,false,false,false] rfl rfl (by kernel_rfl) (fun _ _ _ h => h) (Or.inl ⟨by rfl,?_⟩) ?_ ?_
 rotate_left
 ·intro w'
  go_simp
  with_reducible rfl
 rotate_left
 ·simp only [Act.put,List.setIfInBounds_toArray,List.set_cons_zero,List.set_cons_succ,i64_w,i32_w]
  rfl
 refine take_ (i := 7) (N := some 23) (v := ?_) (a' := ?_) #[true,true,true,true,true,true,true,true,false,false,false,false] rfl rfl (by kernel_rfl) (fun _ _ _ h => h) (Or.inl ⟨by rfl,?_⟩) hHeld ?_ ?_
 rotate_left
 ·rintro w' ⟨s0,s1,s2,s3,s4,s5,s6,s7,s8,s9⟩
  go_simp
  with_reducible rfl
 rotate_left
 ·simp only [Act.put,List.setIfInBounds_toArray,List.set_cons_zero,List.set_cons_succ,i64_w,i32_w]
  rfl
 refine pure_ (i := 8) (N := some 24) (v := ?_) (a' := ?_) #[true,true,true,true,true,true,true,true,true,false,false,false] rfl rfl (by kernel_rfl) (fun _ _ _ h => h) (Or.inl ⟨by rfl,?_⟩) ?_ ?_
 rotate_left
 ·intro w'
  go_simp
  with_reducible rfl
 rotate_left
 ·simp only [Act.put,List.setIfInBounds_toArray,List.set_cons_zero,List.set_cons_succ,i64_w,i32_w]
  rfl
 refine take_ (i := 9) (N := some 25) (v := ?_) (a' := ?_) #[true,true,true,true,true,true,true,true,true,true,false,false] rfl rfl (by kernel_rfl) (fun _ _ _ h => h) (Or.inl ⟨by rfl,?_⟩) hHeld ?_ ?_
 rotate_left
 ·rintro w' ⟨s0,s1,s2,s3,s4,s5,s6,s7,s8,s9⟩
  go_simp
  with_reducible rfl
 rotate_left
 ·simp only [Act.put,List.setIfInBounds_toArray,List.set_cons_zero,List.set_cons_succ,i64_w,i32_w]
  rfl
 refine one_ (i := 10) (N := some 3) #[true,true,true,true,true,true,true,true,true,true,true,false] rfl rfl (by kernel_rfl) (by decide) (fun K hK => ?_)
 refine box_step (by rfl) (N := 3) rfl (cs := #[.int .i64 0,.int .i64 0,.string ⟨#[]⟩,.int .i64 0]) (t := 63) ?hr ?_
 case hr => first | (go_simp;done) | (go_simp;rfl)
 intro b_t w5 hg zan hb
 clear za2 za3 za4 za5 zaa zab zas zaM zat zaN zau zaO zav zaP zaw zaQ
 have zcf := am ((by rw [hg];exact Nat.ne_of_lt (blk_lt zag.out) : b_p ≠ b_t))
 have zbL := am ((by rw [hg];exact Nat.ne_of_lt (blk_lt zah.out) : b_r ≠ b_t))
 have zcg := am ((by rw [hg];exact Nat.ne_of_lt (blk_lt zba.out) : g ≠ b_t))
 have za7 := am ((by rw [hg];exact Nat.ne_of_lt (LC.out.lt _ LC.out.me) : g ≠ b_t))
 replace zag := am (blk_below zag.out hb)
 replace zah := am (blk_below zah.out hb)
 replace zba := am (blk_below zba.out hb)
 have zaU := am (zan)
 replace HI := am (St.made HI.out hb)
 replace LC := am (Loc.alloc LC.out hb hg (blk_lt zan))
 have za2 := pcb LC.out.below zbn.out
 have za3 := pcb LC.out.below zbo.out
 have za4 := pcb LC.out.below zbp.out
 have za5 := pcb LC.out.below zbq.out
 obtain ⟨zaa,zab⟩ := cells1 zag.out
 obtain ⟨zas,zaM,zat,zaN,zau,zaO,zav,zaP,zaw,zaQ⟩ := cells5 zba.out
 clear hg hb zan
 refine hK.out _ _ ⟨zaa,zas,zat,zau,zav,zaw,za2,za3,za4,za5⟩ (fun hHeld => ?_)
 clear hK K
 refine norm_ (a' := ?_) ?_ ?_
 rotate_left
 ·show Act.put _ (some 3) _ = _
  simp only [Act.put,List.setIfInBounds_toArray,List.set_cons_zero,List.set_cons_succ,i64_w,i32_w]
  rfl
 refine one_ (i := 11) (N := none) #[true,true,true,true,true,true,true,true,true,true,true,true] rfl rfl (by kernel_rfl) (by decide) (fun K hK => ?_)
 refine store4_step (by rfl) rfl (b := b_t) (y0 := .int .i64 (rd_T63 l i).f0) (y1 := .int .i64 (rd_T63 l i).f1) (y2 := .string (rd_T63 l i).f2) (y3 := .int .i64 (rd_T63 l i).f3) ?hr zaU.out ?_
 case hr => (obtain ⟨q0_,f0_,q1_,f1_,q2_,f2_,q3_,f3_⟩ := cells4 zaU.out;go_simp;try rfl)
 intro w6 hx hk zax
 clear za2 za3 za4 za5 zaa zab zas zaM zat zaN zau zaO zav zaP zaw zaQ
 replace zag := am (blk_kept zag.out hk (by first | exact zcf.out | exact (fun e_ => NE_t_p.out e_.symm)))
 replace zah := am (blk_kept zah.out hk (by first | exact zbL.out | exact (fun e_ => zbZ.out e_.symm)))
 replace zba := am (blk_kept zba.out hk (by first | exact zcg.out | exact (fun e_ => NE_t_G.out e_.symm)))
 replace zaU := am (hx)
 replace HI := am (St.store HI.out hk za7.out)
 replace LC := am (Loc.store LC.out (b := b_t) (by simp) hk (zax _))
 have za2 := pcb LC.out.below zbn.out
 have za3 := pcb LC.out.below zbo.out
 have za4 := pcb LC.out.below zbp.out
 have za5 := pcb LC.out.below zbq.out
 obtain ⟨zaa,zab⟩ := cells1 zag.out
 obtain ⟨zas,zaM,zat,zaN,zau,zaO,zav,zaP,zaw,zaQ⟩ := cells5 zba.out
 obtain ⟨zaC,zaD,zaE,zaF,zaG,zaH,zaI,zaJ⟩ := cells4 zaU.out
 clear hx hk zax
 refine hK.out _ _ ⟨zaa,zas,zat,zau,zav,zaw,za2,za3,za4,za5⟩ (fun hHeld => ?_)
 clear hK K
 refine done_ (by kernel_rfl) ?_
 clear za2 za3 za4 za5 zaa zab zas zaM zat zaN zau zaO zav zaP zaw zaQ zaC zaD zaE zaF zaG zaH zaI zaJ
 clear zba
 clear zbn zbo zbp zbq
 obtain ⟨AT_,cT_,zaq,zai,zaj,zak,zal,zac,zad,zae,zaf⟩ := HI.out.cells_
 (try dsimp only at zai zaj zak zal)
 obtain ⟨zaa,zab⟩ := cells1 zag.out
 obtain ⟨zaC,zaD,zaE,zaF,zaG,zaH,zaI,zaJ⟩ := cells4 zaU.out
 go_wp2_with (first | ((with_reducible refine gate_store (t := 3) (p := 52) rfl ?_);refine stI_event (g := g) (x := wrap64 (i + 1)) ?hgd ?hN ?hr HI.out ?_;(case hgd => rfl);(case hN => rfl);(case hr => (go_simp;try rfl));intro w7 hx hk zax;clear zaq zai zaj zak zal zac zad zae zaf zaa zab zaC zaD zaE zaF zaG zaH zaI zaJ;replace zag := am (blk_kept zag.out hk (fun e_ => zaL.out e_.symm));replace zah := am (blk_kept zah.out hk (fun e_ => zao.out e_.symm));replace zaU := am (blk_kept zaU.out hk (fun e_ => za7.out e_.symm));replace HI := am (hx);replace LC := am (Loc.store LC.out (b := g) (by simp) hk (zax _));obtain ⟨AT_,cT_,zaq,zai,zaj,zak,zal,zac,zad,zae,zaf⟩ := HI.out.cells_;(try dsimp only at zai zaj zak zal);obtain ⟨zaa,zab⟩ := cells1 zag.out;obtain ⟨zaC,zaD,zaE,zaF,zaG,zaH,zaI,zaJ⟩ := cells4 zaU.out;clear hx hk zax) | ((with_reducible refine gate_dst (N := 54) rfl ?_);refine map_event (N := 54) ?hg ?hd ?hr ?_;(case hd => rfl);(case hg => rfl);(case hr => first | (go_simp;done) | (go_simp;rfl) | rfl);intro b_m w8 hg hlt zcR hb;clear zaq zai zaj zak zal zac zad zae zaf zaa zab zaC zaD zaE zaF zaG zaH zaI zaJ;have zcS := am ((by rw [hg];exact Nat.ne_of_lt (blk_lt zag.out) : b_p ≠ b_m));have zcT := am ((by rw [hg];exact Nat.ne_of_lt (blk_lt zah.out) : b_r ≠ b_m));have zcU := am ((by rw [hg];exact Nat.ne_of_lt (blk_lt zaU.out) : b_t ≠ b_m));have zcV := am ((by rw [hg];exact Nat.ne_of_lt (LC.out.lt _ LC.out.me) : g ≠ b_m));replace zag := am (blk_below zag.out hb);replace zah := am (blk_below zah.out hb);replace zaU := am (blk_below zaU.out hb);have zd4 := am (zcR);replace HI := am (St.made HI.out hb);replace LC := am (Loc.alloc LC.out hb hg hlt);obtain ⟨AT_,cT_,zaq,zai,zaj,zak,zal,zac,zad,zae,zaf⟩ := HI.out.cells_;(try dsimp only at zai zaj zak zal);obtain ⟨zaa,zab⟩ := cells1 zag.out;obtain ⟨zaC,zaD,zaE,zaF,zaG,zaH,zaI,zaJ⟩ := cells4 zaU.out;clear hg hlt zcR hb) | ((with_reducible refine gate_insert bKey rfl ?_);refine mapput_event (b := b_m) (n := 0) (key := bKey) (y := 2) rfl rfl _ _ _ 113 rfl Tryd.underlying9 Tryd.underlying3 Tryd.underlying113 zd4.out (by unfold maxLen;omega) rfl rfl (by decide) rfl (by decide) ?_;intro w9 zcR hk zax;clear zaq zai zaj zak zal zac zad zae zaf zaa zab zaC zaD zaE zaF zaG zaH zaI zaJ;replace zag := am (blk_kept zag.out hk (by first | exact zcS.out | exact (fun e_ => NE_m_p.out e_.symm)));replace zah := am (blk_kept zah.out hk (by first | exact zcT.out | exact (fun e_ => NE_m_r.out e_.symm)));replace zaU := am (blk_kept zaU.out hk (by first | exact zcU.out | exact (fun e_ => NE_m_t.out e_.symm)));replace zd4 := am (zcR);replace HI := am (St.store HI.out hk zcV.out);replace LC := am (Loc.store LC.out (b := b_m) (by simp) hk (zax _));obtain ⟨AT_,cT_,zaq,zai,zaj,zak,zal,zac,zad,zae,zaf⟩ := HI.out.cells_;(try dsimp only at zai zaj zak zal);obtain ⟨zaa,zab⟩ := cells1 zag.out;obtain ⟨zaC,zaD,zaE,zaF,zaG,zaH,zaI,zaJ⟩ := cells4 zaU.out;clear zcR hk zax) | ((with_reducible refine gate_insert bTime rfl ?_);refine mapput_event (b := b_m) (n := 1) (key := bTime) (y := 3) rfl rfl _ _ _ 113 rfl Tryd.underlying9 Tryd.underlying3 Tryd.underlying113 zd4.out (by unfold maxLen;omega) rfl rfl (by decide) rfl (by decide) ?_;intro w10 zcR hk zax;clear zaq zai zaj zak zal zac zad zae zaf zaa zab zaC zaD zaE zaF zaG zaH zaI zaJ;replace zag := am (blk_kept zag.out hk (by first | exact zcS.out | exact (fun e_ => NE_m_p.out e_.symm)));replace zah := am (blk_kept zah.out hk (by first | exact zcT.out | exact (fun e_ => NE_m_r.out e_.symm)));replace zaU := am (blk_kept zaU.out hk (by first | exact zcU.out | exact (fun e_ => NE_m_t.out e_.symm)));replace zd4 := am (zcR);replace HI := am (St.store HI.out hk zcV.out);replace LC := am (Loc.store LC.out (b := b_m) (by simp) hk (zax _));obtain ⟨AT_,cT_,zaq,zai,zaj,zak,zal,zac,zad,zae,zaf⟩ := HI.out.cells_;(try dsimp only at zai zaj zak zal);obtain ⟨zaa,zab⟩ := cells1 zag.out;obtain ⟨zaC,zaD,zaE,zaF,zaG,zaH,zaI,zaJ⟩ := cells4 zaU.out;clear zcR hk zax) | ((with_reducible refine gate_insert bValue rfl ?_);refine mapput_event (b := b_m) (n := 2) (key := bValue) (y := 4) rfl rfl _ _ _ 113 rfl Tryd.underlying9 Tryd.underlying3 Tryd.underlying113 zd4.out (by unfold maxLen;omega) rfl rfl (by decide) rfl (by decide) ?_;intro w11 zcR hk zax;clear zaq zai zaj zak zal zac zad zae zaf zaa zab zaC zaD zaE zaF zaG zaH zaI zaJ;replace zag := am (blk_kept zag.out hk (by first | exact zcS.out | exact (fun e_ => NE_m_p.out e_.symm)));replace zah := am (blk_kept zah.out hk (by first | exact zcT.out | exact (fun e_ => NE_m_r.out e_.symm)));replace zaU := am (blk_kept zaU.out hk (by first | exact zcU.out | exact (fun e_ => NE_m_t.out e_.symm)));replace zd4 := am (zcR);replace HI := am (St.store HI.out hk zcV.out);replace LC := am (Loc.store LC.out (b := b_m) (by simp) hk (zax _));obtain ⟨AT_,cT_,zaq,zai,zaj,zak,zal,zac,zad,zae,zaf⟩ := HI.out.cells_;(try dsimp only at zai zaj zak zal);obtain ⟨zaa,zab⟩ := cells1 zag.out;obtain ⟨zaC,zaD,zaE,zaF,zaG,zaH,zaI,zaJ⟩ := cells4 zaU.out;clear zcR hk zax) | (at_lookup;refine mapget_event (b := b_m) (n := 3) (key := bValue) (y := 4) rfl _ _ 113 rfl Tryd.underlying9 Tryd.underlying3 Tryd.underlying113 (by kernel_rfl) zd4.out rfl (congrArg Value.string HWD.out) (by decide) (by rfl) ?_) | ((with_reducible refine gate_callee (f := 62) rfl ?_);refine goesL_ (some 59) rfl rfl Tryd.func62 (by kernel_rfl) rfl #[.pointer (some ⟨g,0,none⟩),.int .i64 4,.int .i64 0,.slice none 0 0] rfl (by (try simp only [List.map_toArray,List.map_cons,List.map_nil]);first | done | rfl) ?_;(with_reducible refine (node_nil HF.out HI.out LC.out).mono ?_);rintro e w12 ⟨A1,c1,rfl,hv,hi,hb,hk⟩;refine ⟨_,rfl,?_⟩;clear zaq zai zaj zak zal zac zad zae zaf zaa zab zaC zaD zaE zaF zaG zaH zaI zaJ;have zbN := am (hv);replace zag := am (KeepBut.blk hk zag.out (fun e_ => zaL.out e_.symm) (by simp));replace zah := am (KeepBut.blk hk zah.out (fun e_ => zao.out e_.symm) (by simp));replace zaU := am (KeepBut.blk hk zaU.out (fun e_ => za7.out e_.symm) (by simp));replace HI := am (hi);replace LC := am (Loc.call LC.out hk hb);obtain ⟨AT_,cT_,zaq,zai,zaj,zak,zal,zac,zad,zae,zaf⟩ := HI.out.cells_;obtain ⟨zaa,zab⟩ := cells1 zag.out;obtain ⟨zaC,zaD,zaE,zaF,zaG,zaH,zaI,zaJ⟩ := cells4 zaU.out;clear hb hk hi hv) | ((with_reducible refine gate_store (t := 25) (p := 2) rfl ?_);refine store3_event (b := b_r) (y0 := .int .i64 t.f0) (y1 := .int .i64 t.f1) (y2 := .slice A1 t.f2.length c1) ?hgd ?hN ?hr zah.out ?_;(case hgd => rfl);(case hN => rfl);(case hr => (obtain ⟨q0_,f0_,q1_,f1_,q2_,f2_⟩ := cells3 zah.out;go_simp;try rfl));intro w13 hx hk zax;clear zaq zai zaj zak zal zac zad zae zaf zaa zab zaC zaD zaE zaF zaG zaH zaI zaJ;replace zbN := am (VV.store zbN.out hk (by simp));replace zag := am (blk_kept zag.out hk (by first | exact za9.out | exact (fun e_ => NE_r_p.out e_.symm)));replace zah := am (hx);replace zaU := am (blk_kept zaU.out hk (by first | exact zbZ.out | exact (fun e_ => zbL.out e_.symm)));replace HI := am (St.store HI.out hk zao.out);replace LC := am (Loc.store LC.out (b := b_r) (by simp) hk (zax _));obtain ⟨AT_,cT_,zaq,zai,zaj,zak,zal,zac,zad,zae,zaf⟩ := HI.out.cells_;obtain ⟨zaa,zab⟩ := cells1 zag.out;obtain ⟨zaC,zaD,zaE,zaF,zaG,zaH,zaI,zaJ⟩ := cells4 zaU.out;clear hx hk zax))
 refine bodyPost_ret (results_cell_row rfl _ _ b_r 25 (ncells t A1 c1) (0,0) _ rfl zah.out Tryd.underlying25 rfl (by kernel_rfl)) rfl ?_
 exact ⟨A1,c1,rfl,zbN.out.out,HI.out,LC.out.out.1,LC.out.out.2⟩
theorem atom_par {l : List Tk} {k : Nat} (hT : TreeC l k) (i n d e0 : Int) (s' : PSt) (t : Nd) (g : Nat) (w0 w : World) (hI : St w0 w g l ⟨i,n,d,e0⟩) (hB : Below w0.heap.size w0 w) (c1 : i ≠ (l.length : Int)) (p1 : 0 ≤ i) (q1 : i < (l.length : Int)) (c2 : ¬ (rd_T63 l i).f0 = 1) (k0 : ¬ (rd_T63 l i).f2.toList = bKey.toList) (k1 : ¬ (rd_T63 l i).f2.toList = bTime.toList) (k2 : ¬ (rd_T63 l i).f2.toList = bValue.toList) (k3 : (rd_T63 l i).f2.toList = bOpen.toList) (hn : deepW ⟨i,n,d,e0⟩ (parB l (fun lv s => run l k (.tree lv) s)) = some (t,s')) :
  Calls Tryd.prog 64 #[.pointer (some ⟨g,0,none⟩)] w (NodePost w w0 g (fun w' => St w0 w' g l s') t) := by
 have zcz := Tryd.underlying25
 have zfF := Tryd.underlying63
 have c1b : (i == (l.length : Int)) = false := beq_eq_false_iff_ne.mpr c1
 have pI := am p1
 have qI := am q1
 replace p1 := eq_true p1
 replace q1 := eq_true q1
 have c2b : ((rd_T63 l i).f0 == 1) = false := beq_eq_false_iff_ne.mpr c2
 have hb0 : bKey.toList = [107,101,121] := by simp
 have k0b : ((rd_T63 l i).f2.toList == [107,101,121]) = false := by rw [← hb0];exact beq_eq_false_iff_ne.mpr k0
 have hb1 : bTime.toList = [116,105,109,101] := by simp
 have k1b : ((rd_T63 l i).f2.toList == [116,105,109,101]) = false := by rw [← hb1];exact beq_eq_false_iff_ne.mpr k1
 have hb2 : bValue.toList = [118,97,108,117,101] := by simp
 have k2b : ((rd_T63 l i).f2.toList == [118,97,108,117,101]) = false := by rw [← hb2];exact beq_eq_false_iff_ne.mpr k2
 have hb3 : bOpen.toList = [40] := by simp
 have k3b : ((rd_T63 l i).f2.toList == [40]) = true := by rw [← hb3];exact beq_iff_eq.mpr k3
 have HWD := am (ba_eq k3)
 clear k0 hb0
 clear k1 hb1
 clear k2 hb2
 clear k3 hb3
 clear c1 c2
 have HF := am hn
 clear hn
 have LC := am (Loc.init hB hI.lt hI.ge)
 have HI := am hI
 obtain ⟨AT_,cT_,zaq,zai,zaj,zak,zal,zac,zad,zae,zaf⟩ := HI.out.cells_
 (try dsimp only at zai zaj zak zal)
 clear hB hI
 go_enter Tryd.func64,Tryd.ntmps64
 try go_wp2_with (first | ((with_reducible refine gate_dst (N := 1) rfl ?_);refine box_event ?hg (N := 1) ?hd (cs := #[.pointer (some ⟨g,0,none⟩)]) (t := 70) ?hr ?_;(case hd => rfl);(case hg => rfl);(case hr => (go_simp;try rfl));intro b_p hg w1 zan hb;clear zaq zai zaj zak zal zac zad zae zaf;have zaL := am ((by rw [hg];exact Nat.ne_of_lt (LC.out.lt _ LC.out.me) : g ≠ b_p));have zag := am (zan);replace HI := am (St.made HI.out hb);replace LC := am (Loc.alloc LC.out hb hg (blk_lt zan));obtain ⟨AT_,cT_,zaq,zai,zaj,zak,zal,zac,zad,zae,zaf⟩ := HI.out.cells_;(try dsimp only at zai zaj zak zal);obtain ⟨zaa,zab⟩ := cells1 zag.out;clear hg hb zan) | ((with_reducible refine gate_dst (N := 2) rfl ?_);refine box_event ?hg (N := 2) ?hd (cs := #[.int .i64 0,.int .i64 0,.slice none 0 0]) (t := 25) ?hr ?_;(case hd => rfl);(case hg => rfl);(case hr => (go_simp;try rfl));intro b_r hg w2 zan hb;clear zaq zai zaj zak zal zac zad zae zaf zaa zab;have za9 := am ((by rw [hg];exact Nat.ne_of_lt (blk_lt zag.out) : b_p ≠ b_r));have zao := am ((by rw [hg];exact Nat.ne_of_lt (LC.out.lt _ LC.out.me) : g ≠ b_r));replace zag := am (blk_below zag.out hb);have zah := am (zan);replace HI := am (St.made HI.out hb);replace LC := am (Loc.alloc LC.out hb hg (blk_lt zan));obtain ⟨AT_,cT_,zaq,zai,zaj,zak,zal,zac,zad,zae,zaf⟩ := HI.out.cells_;(try dsimp only at zai zaj zak zal);obtain ⟨zaa,zab⟩ := cells1 zag.out;clear hg hb zan))
 go_quiet (fail)
 clear zaq zai zaj zak zal zac zad zae zaf zaa zab
 replace zag := am (blk_drewN zag.out nq)
 replace zah := am (blk_drewN zah.out nq)
 replace HI := am ((show St w0 (w2.drewN nq) g l _ from HI.out))
 replace LC := am (Loc.drewN LC.out nq)
 generalize w2.drewN nq = w3 at LC HI zag zah ⊢
 obtain ⟨AT_,cT_,zaq,zai,zaj,zak,zal,zac,zad,zae,zaf⟩ := HI.out.cells_
 (try dsimp only at zai zaj zak zal)
 obtain ⟨zaa,zab⟩ := cells1 zag.out
 try go_wp2_with (fail)
 clear zaq zai zaj zak zal zac zad zae zaf zaa zab
 replace zag := am (blk_drew zag.out)
 replace zah := am (blk_drew zah.out)
 replace HI := am ((show St w0 w3.drew g l _ from HI.out))
 replace LC := am (Loc.drew LC.out)
 obtain ⟨AT_,cT_,HG_,HT_⟩ := HI.out.open_
 obtain ⟨ad_,e_,za2,za3,za4,za5⟩ := at_T63 HT_ (i) pI.out qI.out
 cases e_
 have zbn := am za2
 have zbo := am za3
 have zbp := am za4
 have zbq := am za5
 clear za2 za3 za4 za5
 have zba := am HG_
 clear HG_ HT_
 have zcQ := zaL
 have zcu := zao
 have za2 := pcb LC.out.below zbn.out
 have za3 := pcb LC.out.below zbo.out
 have za4 := pcb LC.out.below zbp.out
 have za5 := pcb LC.out.below zbq.out
 obtain ⟨zaa,zab⟩ := cells1 zag.out
 obtain ⟨zas,zaM,zat,zaN,zau,zaO,zav,zaP,zaw,zaQ⟩ := cells5 zba.out
 refine start_ (n := 12) (S := fun w' => w'.cell? ⟨b_p,0,none⟩ = some (.pointer (some ⟨g,0,none⟩)) ∧ w'.cell? ⟨g,0,none⟩ = some (.slice (some ad_) l.length cT_) ∧ w'.cell? ⟨g,1,none⟩ = some (.int .i64 (i)) ∧ w'.cell? ⟨g,2,none⟩ = some (.int .i64 (n)) ∧ w'.cell? ⟨g,3,none⟩ = some (.int .i64 (d)) ∧ w'.cell? ⟨g,4,none⟩ = some (.int .i64 (e0)) ∧ w'.cell? (ad_.add ((i).toNat * 4)) = some (.int .i64 (rd_T63 l (i)).f0) ∧ w'.cell? ⟨(ad_.add ((i).toNat * 4)).block,(ad_.add ((i).toNat * 4)).off + 1,none⟩ = some (.int .i64 (rd_T63 l (i)).f1) ∧ w'.cell? ⟨(ad_.add ((i).toNat * 4)).block,(ad_.add ((i).toNat * 4)).off + 2,none⟩ = some (.string (rd_T63 l (i)).f2) ∧ w'.cell? ⟨(ad_.add ((i).toNat * 4)).block,(ad_.add ((i).toNat * 4)).off + 3,none⟩ = some (.int .i64 (rd_T63 l (i)).f3)) (ds := []) #[false,false,false,false,false,false,false,false,false,false,false,false] (by kernel_rfl) rfl rfl ⟨zaa,zas,zat,zau,zav,zaw,za2,za3,za4,za5⟩ (fun hHeld => ?_)
 generalize w3.drew = w4 at LC HI zag zah zba zaa zas zat zau zav zaw za2 za3 za4 za5 zab zaM zaN zaO zaP zaQ hHeld ⊢
 refine take_ (i := 0) (N := some 16) (v := ?_) (a' := ?_) #[true,false,false,false,false,false,false,false,false,false,false,false] rfl rfl (by kernel_rfl) (fun _ _ _ h => h) (Or.inl ⟨by rfl,?_⟩) hHeld ?_ ?_
 rotate_left
 ·rintro w' ⟨s0,s1,s2,s3,s4,s5,s6,s7,s8,s9⟩
  go_simp
  with_reducible rfl
 rotate_left
 ·simp only [Act.put,List.setIfInBounds_toArray,List.set_cons_zero,List.set_cons_succ,i64_w,i32_w]
  rfl
 refine pure_ (i := 1) (N := some 17) (v := ?_) (a' := ?_) #[true,true,false,false,false,false,false,false,false,false,false,false] rfl rfl (by kernel_rfl) (fun _ _ _ h => h) (Or.inl ⟨by rfl,?_⟩) ?_ ?_
 rotate_left
 ·intro w'
  go_simp
  with_reducible rfl
 rotate_left
 ·simp only [Act.put,List.setIfInBounds_toArray,List.set_cons_zero,List.set_cons_succ,i64_w,i32_w]
  rfl
 refine pure_ (i := 2) (N := some 18) (v := ?_) (a' := ?_) #[true,true,true,false,false,false,false,false,false,false,false,false] rfl rfl (by kernel_rfl) (fun _ _ _ h => h) (Or.inl ⟨by rfl,?_⟩) ?_ ?_
 rotate_left
 ·intro w'
  go_simp
  with_reducible rfl
 rotate_left
 ·simp only [Act.put,List.setIfInBounds_toArray,List.set_cons_zero,List.set_cons_succ,i64_w,i32_w]
  rfl
 refine take_ (i := 3) (N := some 19) (v := ?_) (a' := ?_) #[true,true,true,true,false,false,false,false,false,false,false,false] rfl rfl (by kernel_rfl) (fun _ _ _ h => h) (Or.inl ⟨by rfl,?_⟩) hHeld ?_ ?_
 rotate_left
 ·rintro w' ⟨s0,s1,s2,s3,s4,s5,s6,s7,s8,s9⟩
  go_simp
  with_reducible rfl
 rotate_left
 ·simp only [Act.put,List.setIfInBounds_toArray,List.set_cons_zero,List.set_cons_succ,i64_w,i32_w]
  rfl
 refine take_ (i := 4) (N := some 20) (v := ?_) (a' := ?_) #[true,true,true,true,true,false,false,false,false,false,false,false] rfl rfl (by kernel_rfl) (fun _ _ _ h => h) (Or.inl ⟨by rfl,?_⟩) hHeld ?_ ?_
 rotate_left
 ·rintro w' ⟨s0,s1,s2,s3,s4,s5,s6,s7,s8,s9⟩
  go_simp
  with_reducible rfl
 rotate_left
 ·simp only [Act.put,List.setIfInBounds_toArray,List.set_cons_zero,List.set_cons_succ,i64_w,i32_w]
  rfl
 refine pure_ (i := 5) (N := some 21) (v := ?_) (a' := ?_) #[true,true,true,true,true,true,false,false,false,false,false,false] rfl rfl (by kernel_rfl) (fun _ _ _ h => h) (Or.inl ⟨by rfl,?_⟩) ?_ ?_
 rotate_left
 ·intro w'
  go_simp
  with_reducible rfl
 rotate_left
 ·simp only [Act.put,List.setIfInBounds_toArray,List.set_cons_zero,List.set_cons_succ,i64_w,i32_w]
  rfl
 refine pure_ (i := 6) (N := some 22) (v := ?_) (a' := ?_) #[true,true,true,true,true,true,true,false,false,false,false,false] rfl rfl (by kernel_rfl) (fun _ _ _ h => h) (Or.inl ⟨by rfl,?_⟩) ?_ ?_
 rotate_left
 ·intro w'
  go_simp
  with_reducible rfl
 rotate_left
 ·simp only [Act.put,List.setIfInBounds_toArray,List.set_cons_zero,List.set_cons_succ,i64_w,i32_w]
  rfl
 refine take_ (i := 7) (N := some 23) (v := ?_) (a' := ?_) #[true,true,true,true,true,true,true,true,false,false,false,false] rfl rfl (by kernel_rfl) (fun _ _ _ h => h) (Or.inl ⟨by rfl,?_⟩) hHeld ?_ ?_
 rotate_left
 ·rintro w' ⟨s0,s1,s2,s3,s4,s5,s6,s7,s8,s9⟩
  go_simp
  with_reducible rfl
 rotate_left
 ·simp only [Act.put,List.setIfInBounds_toArray,List.set_cons_zero,List.set_cons_succ,i64_w,i32_w]
  rfl
 refine pure_ (i := 8) (N := some 24) (v := ?_) (a' := ?_) #[true,true,true,true,true,true,true,true,true,false,false,false] rfl rfl (by kernel_rfl) (fun _ _ _ h => h) (Or.inl ⟨by rfl,?_⟩) ?_ ?_
 rotate_left
 ·intro w'
  go_simp
  with_reducible rfl
 rotate_left
 ·simp only [Act.put,List.setIfInBounds_toArray,List.set_cons_zero,List.set_cons_succ,i64_w,i32_w]
  rfl
 refine take_ (i := 9) (N := some 25) (v := ?_) (a' := ?_) #[true,true,true,true,true,true,true,true,true,true,false,false] rfl rfl (by kernel_rfl) (fun _ _ _ h => h) (Or.inl ⟨by rfl,?_⟩) hHeld ?_ ?_
 rotate_left
 ·rintro w' ⟨s0,s1,s2,s3,s4,s5,s6,s7,s8,s9⟩
  go_simp
  with_reducible rfl
 rotate_left
 ·simp only [Act.put,List.setIfInBounds_toArray,List.set_cons_zero,List.set_cons_succ,i64_w,i32_w]
  rfl
 refine one_ (i := 10) (N := some 3) #[true,true,true,true,true,true,true,true,true,true,true,false] rfl rfl (by kernel_rfl) (by decide) (fun K hK => ?_)
 refine box_step (by rfl) (N := 3) rfl (cs := #[.int .i64 0,.int .i64 0,.string ⟨#[]⟩,.int .i64 0]) (t := 63) ?hr ?_
 case hr => first | (go_simp;done) | (go_simp;rfl)
 intro b_t w5 hg zan hb
 clear za2 za3 za4 za5 zaa zab zas zaM zat zaN zau zaO zav zaP zaw zaQ
 have zcf := am ((by rw [hg];exact Nat.ne_of_lt (blk_lt zag.out) : b_p ≠ b_t))
 have zbL := am ((by rw [hg];exact Nat.ne_of_lt (blk_lt zah.out) : b_r ≠ b_t))
 have zcg := am ((by rw [hg];exact Nat.ne_of_lt (blk_lt zba.out) : g ≠ b_t))
 have za7 := am ((by rw [hg];exact Nat.ne_of_lt (LC.out.lt _ LC.out.me) : g ≠ b_t))
 replace zag := am (blk_below zag.out hb)
 replace zah := am (blk_below zah.out hb)
 replace zba := am (blk_below zba.out hb)
 have zaU := am (zan)
 replace HI := am (St.made HI.out hb)
 replace LC := am (Loc.alloc LC.out hb hg (blk_lt zan))
 have za2 := pcb LC.out.below zbn.out
 have za3 := pcb LC.out.below zbo.out
 have za4 := pcb LC.out.below zbp.out
 have za5 := pcb LC.out.below zbq.out
 obtain ⟨zaa,zab⟩ := cells1 zag.out
 obtain ⟨zas,zaM,zat,zaN,zau,zaO,zav,zaP,zaw,zaQ⟩ := cells5 zba.out
 clear hg hb zan
 refine hK.out _ _ ⟨zaa,zas,zat,zau,zav,zaw,za2,za3,za4,za5⟩ (fun hHeld => ?_)
 clear hK K
 refine norm_ (a' := ?_) ?_ ?_
 rotate_left
 ·show Act.put _ (some 3) _ = _
  simp only [Act.put,List.setIfInBounds_toArray,List.set_cons_zero,List.set_cons_succ,i64_w,i32_w]
  rfl
 refine one_ (i := 11) (N := none) #[true,true,true,true,true,true,true,true,true,true,true,true] rfl rfl (by kernel_rfl) (by decide) (fun K hK => ?_)
 refine store4_step (by rfl) rfl (b := b_t) (y0 := .int .i64 (rd_T63 l i).f0) (y1 := .int .i64 (rd_T63 l i).f1) (y2 := .string (rd_T63 l i).f2) (y3 := .int .i64 (rd_T63 l i).f3) ?hr zaU.out ?_
 case hr => (obtain ⟨q0_,f0_,q1_,f1_,q2_,f2_,q3_,f3_⟩ := cells4 zaU.out;go_simp;try rfl)
 intro w6 hx hk zax
 clear za2 za3 za4 za5 zaa zab zas zaM zat zaN zau zaO zav zaP zaw zaQ
 replace zag := am (blk_kept zag.out hk (by first | exact zcf.out | exact (fun e_ => NE_t_p.out e_.symm)))
 replace zah := am (blk_kept zah.out hk (by first | exact zbL.out | exact (fun e_ => zbZ.out e_.symm)))
 replace zba := am (blk_kept zba.out hk (by first | exact zcg.out | exact (fun e_ => NE_t_G.out e_.symm)))
 replace zaU := am (hx)
 replace HI := am (St.store HI.out hk za7.out)
 replace LC := am (Loc.store LC.out (b := b_t) (by simp) hk (zax _))
 have za2 := pcb LC.out.below zbn.out
 have za3 := pcb LC.out.below zbo.out
 have za4 := pcb LC.out.below zbp.out
 have za5 := pcb LC.out.below zbq.out
 obtain ⟨zaa,zab⟩ := cells1 zag.out
 obtain ⟨zas,zaM,zat,zaN,zau,zaO,zav,zaP,zaw,zaQ⟩ := cells5 zba.out
 obtain ⟨zaC,zaD,zaE,zaF,zaG,zaH,zaI,zaJ⟩ := cells4 zaU.out
 clear hx hk zax
 refine hK.out _ _ ⟨zaa,zas,zat,zau,zav,zaw,za2,za3,za4,za5⟩ (fun hHeld => ?_)
 clear hK K
 refine done_ (by kernel_rfl) ?_
 clear za2 za3 za4 za5 zaa zab zas zaM zat zaN zau zaO zav zaP zaw zaQ zaC zaD zaE zaF zaG zaH zaI zaJ
 clear zba
 clear zbn zbo zbp zbq
 obtain ⟨AT_,cT_,zaq,zai,zaj,zak,zal,zac,zad,zae,zaf⟩ := HI.out.cells_
 (try dsimp only at zai zaj zak zal)
 obtain ⟨zaa,zab⟩ := cells1 zag.out
 obtain ⟨zaC,zaD,zaE,zaF,zaG,zaH,zaI,zaJ⟩ := cells4 zaU.out
 go_wp2_with (first | ((with_reducible refine gate_callee (f := 60) rfl ?_);refine goesL_ (some 64) rfl rfl Tryd.func60 (by kernel_rfl) rfl #[.pointer (some ⟨g,0,none⟩),.func (.func 84) #[] #[.pointer (some ⟨b_p,0,none⟩)]] rfl (by (try simp only [List.map_toArray,List.map_cons,List.map_nil]);first | done | rfl) ?_;(with_reducible refine (inner84_calls _ _ _ g b_p w0 _ HI.out LC.out.below (BodyC.mk (fun s1 s2 t w1 hr hk hI hB => par_calls hT s1 s2 t g b_p w0 w1 hI hB (KeepBut.blk hk zag.out (Ne.symm zaL.out) (by simp)) hr)) HF.out).mono ?_);rintro e w7 ⟨A1,c1,rfl,hv,hi,hb,hk⟩;refine ⟨_,rfl,?_⟩;clear zaq zai zaj zak zal zac zad zae zaf zaa zab zaC zaD zaE zaF zaG zaH zaI zaJ;have zbN := am (VV.of_call hv LC.out);replace zag := am (KeepBut.blk hk zag.out (fun e_ => zaL.out e_.symm) (by simp));replace zah := am (KeepBut.blk hk zah.out (fun e_ => zao.out e_.symm) (by simp));replace zaU := am (KeepBut.blk hk zaU.out (fun e_ => za7.out e_.symm) (by simp));replace HI := am (hi);replace LC := am (Loc.call LC.out hk hb);obtain ⟨AT_,cT_,zaq,zai,zaj,zak,zal,zac,zad,zae,zaf⟩ := HI.out.cells_;obtain ⟨zaa,zab⟩ := cells1 zag.out;obtain ⟨zaC,zaD,zaE,zaF,zaG,zaH,zaI,zaJ⟩ := cells4 zaU.out;clear hb hk hi hv) | ((with_reducible refine gate_store (t := 25) (p := 2) rfl ?_);refine store3_event (b := b_r) (y0 := .int .i64 t.f0) (y1 := .int .i64 t.f1) (y2 := .slice A1 t.f2.length c1) ?hgd ?hN ?hr zah.out ?_;(case hgd => rfl);(case hN => rfl);(case hr => (obtain ⟨q0_,f0_,q1_,f1_,q2_,f2_⟩ := cells3 zah.out;go_simp;try rfl));intro w8 hx hk zax;clear zaq zai zaj zak zal zac zad zae zaf zaa zab zaC zaD zaE zaF zaG zaH zaI zaJ;replace zbN := am (VV.store zbN.out hk (by simp));replace zag := am (blk_kept zag.out hk (by first | exact za9.out | exact (fun e_ => NE_r_p.out e_.symm)));replace zah := am (hx);replace zaU := am (blk_kept zaU.out hk (by first | exact zbZ.out | exact (fun e_ => zbL.out e_.symm)));replace HI := am (St.store HI.out hk zao.out);replace LC := am (Loc.store LC.out (b := b_r) (by simp) hk (zax _));obtain ⟨AT_,cT_,zaq,zai,zaj,zak,zal,zac,zad,zae,zaf⟩ := HI.out.cells_;obtain ⟨zaa,zab⟩ := cells1 zag.out;obtain ⟨zaC,zaD,zaE,zaF,zaG,zaH,zaI,zaJ⟩ := cells4 zaU.out;clear hx hk zax))
 refine bodyPost_ret (results_cell_row rfl _ _ b_r 25 (ncells t A1 c1) (0,0) _ rfl zah.out Tryd.underlying25 rfl (by kernel_rfl)) rfl ?_
 exact ⟨A1,c1,rfl,zbN.out.out,HI.out,LC.out.out.1,LC.out.out.2⟩
theorem atom_min {l : List Tk} {k : Nat} (hT : TreeC l k) (i n d e0 : Int) (s' : PSt) (t : Nd) (g : Nat) (w0 w : World) (hI : St w0 w g l ⟨i,n,d,e0⟩) (hB : Below w0.heap.size w0 w) (c1 : i ≠ (l.length : Int)) (p1 : 0 ≤ i) (q1 : i < (l.length : Int)) (c2 : ¬ (rd_T63 l i).f0 = 1) (k0 : ¬ (rd_T63 l i).f2.toList = bKey.toList) (k1 : ¬ (rd_T63 l i).f2.toList = bTime.toList) (k2 : ¬ (rd_T63 l i).f2.toList = bValue.toList) (k3 : ¬ (rd_T63 l i).f2.toList = bOpen.toList) (k4 : (rd_T63 l i).f2.toList = bMin.toList) (hn : deepW ⟨i,n,d,e0⟩ (minB l (fun lv s => run l k (.tree lv) s) 20) = some (t,s')) :
  Calls Tryd.prog 64 #[.pointer (some ⟨g,0,none⟩)] w (NodePost w w0 g (fun w' => St w0 w' g l s') t) := by
 have zcz := Tryd.underlying25
 have zfF := Tryd.underlying63
 have c1b : (i == (l.length : Int)) = false := beq_eq_false_iff_ne.mpr c1
 have pI := am p1
 have qI := am q1
 replace p1 := eq_true p1
 replace q1 := eq_true q1
 have c2b : ((rd_T63 l i).f0 == 1) = false := beq_eq_false_iff_ne.mpr c2
 have hb0 : bKey.toList = [107,101,121] := by simp
 have k0b : ((rd_T63 l i).f2.toList == [107,101,121]) = false := by rw [← hb0];exact beq_eq_false_iff_ne.mpr k0
 have hb1 : bTime.toList = [116,105,109,101] := by simp
 have k1b : ((rd_T63 l i).f2.toList == [116,105,109,101]) = false := by rw [← hb1];exact beq_eq_false_iff_ne.mpr k1
 have hb2 : bValue.toList = [118,97,108,117,101] := by simp
 have k2b : ((rd_T63 l i).f2.toList == [118,97,108,117,101]) = false := by rw [← hb2];exact beq_eq_false_iff_ne.mpr k2
 have hb3 : bOpen.toList = [40] := by simp
 have k3b : ((rd_T63 l i).f2.toList == [40]) = false := by rw [← hb3];exact beq_eq_false_iff_ne.mpr k3
 have hb4 : bMin.toList = [109,105,110] := by simp
 have k4b : ((rd_T63 l i).f2.toList == [109,105,110]) = true := by rw [← hb4];exact beq_iff_eq.mpr k4
 have HWD := am (ba_eq k4)
 clear k0 hb0
 clear k1 hb1
 clear k2 hb2
 clear k3 hb3
 clear k4 hb4
 clear c1 c2
 have HF := am hn
 clear hn
 have KW := am k4b
 have LC := am (Loc.init hB hI.lt hI.ge)
 have HI := am hI
 obtain ⟨AT_,cT_,zaq,zai,zaj,zak,zal,zac,zad,zae,zaf⟩ := HI.out.cells_
 (try dsimp only at zai zaj zak zal)
 clear hB hI
 go_enter Tryd.func64,Tryd.ntmps64
 try go_wp2_with (first | ((with_reducible refine gate_dst (N := 1) rfl ?_);refine box_event ?hg (N := 1) ?hd (cs := #[.pointer (some ⟨g,0,none⟩)]) (t := 70) ?hr ?_;(case hd => rfl);(case hg => rfl);(case hr => (go_simp;try rfl));intro b_p hg w1 zan hb;clear zaq zai zaj zak zal zac zad zae zaf;have zaL := am ((by rw [hg];exact Nat.ne_of_lt (LC.out.lt _ LC.out.me) : g ≠ b_p));have zag := am (zan);replace HI := am (St.made HI.out hb);replace LC := am (Loc.alloc LC.out hb hg (blk_lt zan));obtain ⟨AT_,cT_,zaq,zai,zaj,zak,zal,zac,zad,zae,zaf⟩ := HI.out.cells_;(try dsimp only at zai zaj zak zal);obtain ⟨zaa,zab⟩ := cells1 zag.out;clear hg hb zan) | ((with_reducible refine gate_dst (N := 2) rfl ?_);refine box_event ?hg (N := 2) ?hd (cs := #[.int .i64 0,.int .i64 0,.slice none 0 0]) (t := 25) ?hr ?_;(case hd => rfl);(case hg => rfl);(case hr => (go_simp;try rfl));intro b_r hg w2 zan hb;clear zaq zai zaj zak zal zac zad zae zaf zaa zab;have za9 := am ((by rw [hg];exact Nat.ne_of_lt (blk_lt zag.out) : b_p ≠ b_r));have zao := am ((by rw [hg];exact Nat.ne_of_lt (LC.out.lt _ LC.out.me) : g ≠ b_r));replace zag := am (blk_below zag.out hb);have zah := am (zan);replace HI := am (St.made HI.out hb);replace LC := am (Loc.alloc LC.out hb hg (blk_lt zan));obtain ⟨AT_,cT_,zaq,zai,zaj,zak,zal,zac,zad,zae,zaf⟩ := HI.out.cells_;(try dsimp only at zai zaj zak zal);obtain ⟨zaa,zab⟩ := cells1 zag.out;clear hg hb zan))
 go_quiet (fail)
 clear zaq zai zaj zak zal zac zad zae zaf zaa zab
 replace zag := am (blk_drewN zag.out nq)
 replace zah := am (blk_drewN zah.out nq)
 replace HI := am ((show St w0 (w2.drewN nq) g l _ from HI.out))
 replace LC := am (Loc.drewN LC.out nq)
 generalize w2.drewN nq = w3 at LC HI zag zah ⊢
 obtain ⟨AT_,cT_,zaq,zai,zaj,zak,zal,zac,zad,zae,zaf⟩ := HI.out.cells_
 (try dsimp only at zai zaj zak zal)
 obtain ⟨zaa,zab⟩ := cells1 zag.out
 try go_wp2_with (fail)
 clear zaq zai zaj zak zal zac zad zae zaf zaa zab
 replace zag := am (blk_drew zag.out)
 replace zah := am (blk_drew zah.out)
 replace HI := am ((show St w0 w3.drew g l _ from HI.out))
 replace LC := am (Loc.drew LC.out)
 obtain ⟨AT_,cT_,HG_,HT_⟩ := HI.out.open_
 obtain ⟨ad_,e_,za2,za3,za4,za5⟩ := at_T63 HT_ (i) pI.out qI.out
 cases e_
 have zbn := am za2
 have zbo := am za3
 have zbp := am za4
 have zbq := am za5
 clear za2 za3 za4 za5
 have zba := am HG_
 clear HG_ HT_
 have zcQ := zaL
 have zcu := zao
 have za2 := pcb LC.out.below zbn.out
 have za3 := pcb LC.out.below zbo.out
 have za4 := pcb LC.out.below zbp.out
 have za5 := pcb LC.out.below zbq.out
 obtain ⟨zaa,zab⟩ := cells1 zag.out
 obtain ⟨zas,zaM,zat,zaN,zau,zaO,zav,zaP,zaw,zaQ⟩ := cells5 zba.out
 refine start_ (n := 12) (S := fun w' => w'.cell? ⟨b_p,0,none⟩ = some (.pointer (some ⟨g,0,none⟩)) ∧ w'.cell? ⟨g,0,none⟩ = some (.slice (some ad_) l.length cT_) ∧ w'.cell? ⟨g,1,none⟩ = some (.int .i64 (i)) ∧ w'.cell? ⟨g,2,none⟩ = some (.int .i64 (n)) ∧ w'.cell? ⟨g,3,none⟩ = some (.int .i64 (d)) ∧ w'.cell? ⟨g,4,none⟩ = some (.int .i64 (e0)) ∧ w'.cell? (ad_.add ((i).toNat * 4)) = some (.int .i64 (rd_T63 l (i)).f0) ∧ w'.cell? ⟨(ad_.add ((i).toNat * 4)).block,(ad_.add ((i).toNat * 4)).off + 1,none⟩ = some (.int .i64 (rd_T63 l (i)).f1) ∧ w'.cell? ⟨(ad_.add ((i).toNat * 4)).block,(ad_.add ((i).toNat * 4)).off + 2,none⟩ = some (.string (rd_T63 l (i)).f2) ∧ w'.cell? ⟨(ad_.add ((i).toNat * 4)).block,(ad_.add ((i).toNat * 4)).off + 3,none⟩ = some (.int .i64 (rd_T63 l (i)).f3)) (ds := []) #[false,false,false,false,false,false,false,false,false,false,false,false] (by kernel_rfl) rfl rfl ⟨zaa,zas,zat,zau,zav,zaw,za2,za3,za4,za5⟩ (fun hHeld => ?_)
 generalize w3.drew = w4 at LC HI zag zah zba zaa zas zat zau zav zaw za2 za3 za4 za5 zab zaM zaN zaO zaP zaQ hHeld ⊢
 refine take_ (i := 0) (N := some 16) (v := ?_) (a' := ?_) #[true,false,false,false,false,false,false,false,false,false,false,false] rfl rfl (by kernel_rfl) (fun _ _ _ h => h) (Or.inl ⟨by rfl,?_⟩) hHeld ?_ ?_
 rotate_left
 ·rintro w' ⟨s0,s1,s2,s3,s4,s5,s6,s7,s8,s9⟩
  go_simp
  with_reducible rfl
 rotate_left
 ·simp only [Act.put,List.setIfInBounds_toArray,List.set_cons_zero,List.set_cons_succ,i64_w,i32_w]
  rfl
 refine pure_ (i := 1) (N := some 17) (v := ?_) (a' := ?_) #[true,true,false,false,false,false,false,false,false,false,false,false] rfl rfl (by kernel_rfl) (fun _ _ _ h => h) (Or.inl ⟨by rfl,?_⟩) ?_ ?_
 rotate_left
 ·intro w'
  go_simp
  with_reducible rfl
 rotate_left
 ·simp only [Act.put,List.setIfInBounds_toArray,List.set_cons_zero,List.set_cons_succ,i64_w,i32_w]
  rfl
 refine pure_ (i := 2) (N := some 18) (v := ?_) (a' := ?_) #[true,true,true,false,false,false,false,false,false,false,false,false] rfl rfl (by kernel_rfl) (fun _ _ _ h => h) (Or.inl ⟨by rfl,?_⟩) ?_ ?_
 rotate_left
 ·intro w'
  go_simp
  with_reducible rfl
 rotate_left
 ·simp only [Act.put,List.setIfInBounds_toArray,List.set_cons_zero,List.set_cons_succ,i64_w,i32_w]
  rfl
 refine take_ (i := 3) (N := some 19) (v := ?_) (a' := ?_) #[true,true,true,true,false,false,false,false,false,false,false,false] rfl rfl (by kernel_rfl) (fun _ _ _ h => h) (Or.inl ⟨by rfl,?_⟩) hHeld ?_ ?_
 rotate_left
 ·rintro w' ⟨s0,s1,s2,s3,s4,s5,s6,s7,s8,s9⟩
  go_simp
  with_reducible rfl
 rotate_left
 ·simp only [Act.put,List.setIfInBounds_toArray,List.set_cons_zero,List.set_cons_succ,i64_w,i32_w]
  rfl
 refine take_ (i := 4) (N := some 20) (v := ?_) (a' := ?_) #[true,true,true,true,true,false,false,false,false,false,false,false] rfl rfl (by kernel_rfl) (fun _ _ _ h => h) (Or.inl ⟨by rfl,?_⟩) hHeld ?_ ?_
 rotate_left
 ·rintro w' ⟨s0,s1,s2,s3,s4,s5,s6,s7,s8,s9⟩
  go_simp
  with_reducible rfl
 rotate_left
 ·simp only [Act.put,List.setIfInBounds_toArray,List.set_cons_zero,List.set_cons_succ,i64_w,i32_w]
  rfl
 refine pure_ (i := 5) (N := some 21) (v := ?_) (a' := ?_) #[true,true,true,true,true,true,false,false,false,false,false,false] rfl rfl (by kernel_rfl) (fun _ _ _ h => h) (Or.inl ⟨by rfl,?_⟩) ?_ ?_
 rotate_left
 ·intro w'
  go_simp
  with_reducible rfl
 rotate_left
 ·simp only [Act.put,List.setIfInBounds_toArray,List.set_cons_zero,List.set_cons_succ,i64_w,i32_w]
  rfl
 refine pure_ (i := 6) (N := some 22) (v := ?_) (a' := ?_) #[true,true,true,true,true,true,true,false,false,false,false,false] rfl rfl (by kernel_rfl) (fun _ _ _ h => h) (Or.inl ⟨by rfl,?_⟩) ?_ ?_
 rotate_left
 ·intro w'
  go_simp
  with_reducible rfl
 rotate_left
 ·simp only [Act.put,List.setIfInBounds_toArray,List.set_cons_zero,List.set_cons_succ,i64_w,i32_w]
  rfl
 refine take_ (i := 7) (N := some 23) (v := ?_) (a' := ?_) #[true,true,true,true,true,true,true,true,false,false,false,false] rfl rfl (by kernel_rfl) (fun _ _ _ h => h) (Or.inl ⟨by rfl,?_⟩) hHeld ?_ ?_
 rotate_left
 ·rintro w' ⟨s0,s1,s2,s3,s4,s5,s6,s7,s8,s9⟩
  go_simp
  with_reducible rfl
 rotate_left
 ·simp only [Act.put,List.setIfInBounds_toArray,List.set_cons_zero,List.set_cons_succ,i64_w,i32_w]
  rfl
 refine pure_ (i := 8) (N := some 24) (v := ?_) (a' := ?_) #[true,true,true,true,true,true,true,true,true,false,false,false] rfl rfl (by kernel_rfl) (fun _ _ _ h => h) (Or.inl ⟨by rfl,?_⟩) ?_ ?_
 rotate_left
 ·intro w'
  go_simp
  with_reducible rfl
 rotate_left
 ·simp only [Act.put,List.setIfInBounds_toArray,List.set_cons_zero,List.set_cons_succ,i64_w,i32_w]
  rfl
 refine take_ (i := 9) (N := some 25) (v := ?_) (a' := ?_) #[true,true,true,true,true,true,true,true,true,true,false,false] rfl rfl (by kernel_rfl) (fun _ _ _ h => h) (Or.inl ⟨by rfl,?_⟩) hHeld ?_ ?_
 rotate_left
 ·rintro w' ⟨s0,s1,s2,s3,s4,s5,s6,s7,s8,s9⟩
  go_simp
  with_reducible rfl
 rotate_left
 ·simp only [Act.put,List.setIfInBounds_toArray,List.set_cons_zero,List.set_cons_succ,i64_w,i32_w]
  rfl
 refine one_ (i := 10) (N := some 3) #[true,true,true,true,true,true,true,true,true,true,true,false] rfl rfl (by kernel_rfl) (by decide) (fun K hK => ?_)
 refine box_step (by rfl) (N := 3) rfl (cs := #[.int .i64 0,.int .i64 0,.string ⟨#[]⟩,.int .i64 0]) (t := 63) ?hr ?_
 case hr => first | (go_simp;done) | (go_simp;rfl)
 intro b_t w5 hg zan hb
 clear za2 za3 za4 za5 zaa zab zas zaM zat zaN zau zaO zav zaP zaw zaQ
 have zcf := am ((by rw [hg];exact Nat.ne_of_lt (blk_lt zag.out) : b_p ≠ b_t))
 have zbL := am ((by rw [hg];exact Nat.ne_of_lt (blk_lt zah.out) : b_r ≠ b_t))
 have zcg := am ((by rw [hg];exact Nat.ne_of_lt (blk_lt zba.out) : g ≠ b_t))
 have za7 := am ((by rw [hg];exact Nat.ne_of_lt (LC.out.lt _ LC.out.me) : g ≠ b_t))
 replace zag := am (blk_below zag.out hb)
 replace zah := am (blk_below zah.out hb)
 replace zba := am (blk_below zba.out hb)
 have zaU := am (zan)
 replace HI := am (St.made HI.out hb)
 replace LC := am (Loc.alloc LC.out hb hg (blk_lt zan))
 have za2 := pcb LC.out.below zbn.out
 have za3 := pcb LC.out.below zbo.out
 have za4 := pcb LC.out.below zbp.out
 have za5 := pcb LC.out.below zbq.out
 obtain ⟨zaa,zab⟩ := cells1 zag.out
 obtain ⟨zas,zaM,zat,zaN,zau,zaO,zav,zaP,zaw,zaQ⟩ := cells5 zba.out
 clear hg hb zan
 refine hK.out _ _ ⟨zaa,zas,zat,zau,zav,zaw,za2,za3,za4,za5⟩ (fun hHeld => ?_)
 clear hK K
 refine norm_ (a' := ?_) ?_ ?_
 rotate_left
 ·show Act.put _ (some 3) _ = _
  simp only [Act.put,List.setIfInBounds_toArray,List.set_cons_zero,List.set_cons_succ,i64_w,i32_w]
  rfl
 refine one_ (i := 11) (N := none) #[true,true,true,true,true,true,true,true,true,true,true,true] rfl rfl (by kernel_rfl) (by decide) (fun K hK => ?_)
 refine store4_step (by rfl) rfl (b := b_t) (y0 := .int .i64 (rd_T63 l i).f0) (y1 := .int .i64 (rd_T63 l i).f1) (y2 := .string (rd_T63 l i).f2) (y3 := .int .i64 (rd_T63 l i).f3) ?hr zaU.out ?_
 case hr => (obtain ⟨q0_,f0_,q1_,f1_,q2_,f2_,q3_,f3_⟩ := cells4 zaU.out;go_simp;try rfl)
 intro w6 hx hk zax
 clear za2 za3 za4 za5 zaa zab zas zaM zat zaN zau zaO zav zaP zaw zaQ
 replace zag := am (blk_kept zag.out hk (by first | exact zcf.out | exact (fun e_ => NE_t_p.out e_.symm)))
 replace zah := am (blk_kept zah.out hk (by first | exact zbL.out | exact (fun e_ => zbZ.out e_.symm)))
 replace zba := am (blk_kept zba.out hk (by first | exact zcg.out | exact (fun e_ => NE_t_G.out e_.symm)))
 replace zaU := am (hx)
 replace HI := am (St.store HI.out hk za7.out)
 replace LC := am (Loc.store LC.out (b := b_t) (by simp) hk (zax _))
 have za2 := pcb LC.out.below zbn.out
 have za3 := pcb LC.out.below zbo.out
 have za4 := pcb LC.out.below zbp.out
 have za5 := pcb LC.out.below zbq.out
 obtain ⟨zaa,zab⟩ := cells1 zag.out
 obtain ⟨zas,zaM,zat,zaN,zau,zaO,zav,zaP,zaw,zaQ⟩ := cells5 zba.out
 obtain ⟨zaC,zaD,zaE,zaF,zaG,zaH,zaI,zaJ⟩ := cells4 zaU.out
 clear hx hk zax
 refine hK.out _ _ ⟨zaa,zas,zat,zau,zav,zaw,za2,za3,za4,za5⟩ (fun hHeld => ?_)
 clear hK K
 refine done_ (by kernel_rfl) ?_
 clear za2 za3 za4 za5 zaa zab zas zaM zat zaN zau zaO zav zaP zaw zaQ zaC zaD zaE zaF zaG zaH zaI zaJ
 clear zba
 clear zbn zbo zbp zbq
 obtain ⟨AT_,cT_,zaq,zai,zaj,zak,zal,zac,zad,zae,zaf⟩ := HI.out.cells_
 (try dsimp only at zai zaj zak zal)
 obtain ⟨zaa,zab⟩ := cells1 zag.out
 obtain ⟨zaC,zaD,zaE,zaF,zaG,zaH,zaI,zaJ⟩ := cells4 zaU.out
 go_wp2_with (first | ((with_reducible refine gate_callee (f := 60) rfl ?_);refine goesL_ (some 70) rfl rfl Tryd.func60 (by kernel_rfl) rfl #[.pointer (some ⟨g,0,none⟩),.func (.func 86) #[] #[.pointer (some ⟨b_p,0,none⟩),.pointer (some ⟨b_t,0,none⟩)]] rfl (by (try simp only [List.map_toArray,List.map_cons,List.map_nil]);first | done | rfl) ?_;(with_reducible refine (inner86_calls _ _ _ g b_p b_t w0 _ HI.out LC.out.below (BodyC.mk (fun s1 s2 t w1 hr hk hI hB => min_calls hT s1 s2 t g b_p b_t _ w0 w1 hI hB (KeepBut.blk hk zag.out (Ne.symm zaL.out) (by simp)) (KeepBut.blk hk zaU.out (Ne.symm za7.out) (by simp)) KW.out hr)) HF.out).mono ?_);rintro e w7 ⟨A1,c1,rfl,hv,hi,hb,hk⟩;refine ⟨_,rfl,?_⟩;clear zaq zai zaj zak zal zac zad zae zaf zaa zab zaC zaD zaE zaF zaG zaH zaI zaJ;have zbN := am (VV.of_call hv LC.out);replace zag := am (KeepBut.blk hk zag.out (fun e_ => zaL.out e_.symm) (by simp));replace zah := am (KeepBut.blk hk zah.out (fun e_ => zao.out e_.symm) (by simp));replace zaU := am (KeepBut.blk hk zaU.out (fun e_ => za7.out e_.symm) (by simp));replace HI := am (hi);replace LC := am (Loc.call LC.out hk hb);obtain ⟨AT_,cT_,zaq,zai,zaj,zak,zal,zac,zad,zae,zaf⟩ := HI.out.cells_;obtain ⟨zaa,zab⟩ := cells1 zag.out;obtain ⟨zaC,zaD,zaE,zaF,zaG,zaH,zaI,zaJ⟩ := cells4 zaU.out;clear hb hk hi hv) | ((with_reducible refine gate_store (t := 25) (p := 2) rfl ?_);refine store3_event (b := b_r) (y0 := .int .i64 t.f0) (y1 := .int .i64 t.f1) (y2 := .slice A1 t.f2.length c1) ?hgd ?hN ?hr zah.out ?_;(case hgd => rfl);(case hN => rfl);(case hr => (obtain ⟨q0_,f0_,q1_,f1_,q2_,f2_⟩ := cells3 zah.out;go_simp;try rfl));intro w8 hx hk zax;clear zaq zai zaj zak zal zac zad zae zaf zaa zab zaC zaD zaE zaF zaG zaH zaI zaJ;replace zbN := am (VV.store zbN.out hk (by simp));replace zag := am (blk_kept zag.out hk (by first | exact za9.out | exact (fun e_ => NE_r_p.out e_.symm)));replace zah := am (hx);replace zaU := am (blk_kept zaU.out hk (by first | exact zbZ.out | exact (fun e_ => zbL.out e_.symm)));replace HI := am (St.store HI.out hk zao.out);replace LC := am (Loc.store LC.out (b := b_r) (by simp) hk (zax _));obtain ⟨AT_,cT_,zaq,zai,zaj,zak,zal,zac,zad,zae,zaf⟩ := HI.out.cells_;obtain ⟨zaa,zab⟩ := cells1 zag.out;obtain ⟨zaC,zaD,zaE,zaF,zaG,zaH,zaI,zaJ⟩ := cells4 zaU.out;clear hx hk zax))
 refine bodyPost_ret (results_cell_row rfl _ _ b_r 25 (ncells t A1 c1) (0,0) _ rfl zah.out Tryd.underlying25 rfl (by kernel_rfl)) rfl ?_
 exact ⟨A1,c1,rfl,zbN.out.out,HI.out,LC.out.out.1,LC.out.out.2⟩
theorem atom_max {l : List Tk} {k : Nat} (hT : TreeC l k) (i n d e0 : Int) (s' : PSt) (t : Nd) (g : Nat) (w0 w : World) (hI : St w0 w g l ⟨i,n,d,e0⟩) (hB : Below w0.heap.size w0 w) (c1 : i ≠ (l.length : Int)) (p1 : 0 ≤ i) (q1 : i < (l.length : Int)) (c2 : ¬ (rd_T63 l i).f0 = 1) (k0 : ¬ (rd_T63 l i).f2.toList = bKey.toList) (k1 : ¬ (rd_T63 l i).f2.toList = bTime.toList) (k2 : ¬ (rd_T63 l i).f2.toList = bValue.toList) (k3 : ¬ (rd_T63 l i).f2.toList = bOpen.toList) (k4 : ¬ (rd_T63 l i).f2.toList = bMin.toList) (k5 : (rd_T63 l i).f2.toList = bMax.toList) (hn : deepW ⟨i,n,d,e0⟩ (minB l (fun lv s => run l k (.tree lv) s) 21) = some (t,s')) :
  Calls Tryd.prog 64 #[.pointer (some ⟨g,0,none⟩)] w (NodePost w w0 g (fun w' => St w0 w' g l s') t) := by
 have zcz := Tryd.underlying25
 have zfF := Tryd.underlying63
 have c1b : (i == (l.length : Int)) = false := beq_eq_false_iff_ne.mpr c1
 have pI := am p1
 have qI := am q1
 replace p1 := eq_true p1
 replace q1 := eq_true q1
 have c2b : ((rd_T63 l i).f0 == 1) = false := beq_eq_false_iff_ne.mpr c2
 have hb0 : bKey.toList = [107,101,121] := by simp
 have k0b : ((rd_T63 l i).f2.toList == [107,101,121]) = false := by rw [← hb0];exact beq_eq_false_iff_ne.mpr k0
 have hb1 : bTime.toList = [116,105,109,101] := by simp
 have k1b : ((rd_T63 l i).f2.toList == [116,105,109,101]) = false := by rw [← hb1];exact beq_eq_false_iff_ne.mpr k1
 have hb2 : bValue.toList = [118,97,108,117,101] := by simp
 have k2b : ((rd_T63 l i).f2.toList == [118,97,108,117,101]) = false := by rw [← hb2];exact beq_eq_false_iff_ne.mpr k2
 have hb3 : bOpen.toList = [40] := by simp
 have k3b : ((rd_T63 l i).f2.toList == [40]) = false := by rw [← hb3];exact beq_eq_false_iff_ne.mpr k3
 have hb4 : bMin.toList = [109,105,110] := by simp
 have k4b : ((rd_T63 l i).f2.toList == [109,105,110]) = false := by rw [← hb4];exact beq_eq_false_iff_ne.mpr k4
 have hb5 : bMax.toList = [109,97,120] := by simp
 have k5b : ((rd_T63 l i).f2.toList == [109,97,120]) = true := by rw [← hb5];exact beq_iff_eq.mpr k5
 have HWD := am (ba_eq k5)
 clear k0 hb0
 clear k1 hb1
 clear k2 hb2
 clear k3 hb3
 clear k4 hb4
 clear k5 hb5
 clear c1 c2
 have HF := am hn
 clear hn
 have KW := am k4b
 have LC := am (Loc.init hB hI.lt hI.ge)
 have HI := am hI
 obtain ⟨AT_,cT_,zaq,zai,zaj,zak,zal,zac,zad,zae,zaf⟩ := HI.out.cells_
 (try dsimp only at zai zaj zak zal)
 clear hB hI
 go_enter Tryd.func64,Tryd.ntmps64
 try go_wp2_with (first | ((with_reducible refine gate_dst (N := 1) rfl ?_);refine box_event ?hg (N := 1) ?hd (cs := #[.pointer (some ⟨g,0,none⟩)]) (t := 70) ?hr ?_;(case hd => rfl);(case hg => rfl);(case hr => (go_simp;try rfl));intro b_p hg w1 zan hb;clear zaq zai zaj zak zal zac zad zae zaf;have zaL := am ((by rw [hg];exact Nat.ne_of_lt (LC.out.lt _ LC.out.me) : g ≠ b_p));have zag := am (zan);replace HI := am (St.made HI.out hb);replace LC := am (Loc.alloc LC.out hb hg (blk_lt zan));obtain ⟨AT_,cT_,zaq,zai,zaj,zak,zal,zac,zad,zae,zaf⟩ := HI.out.cells_;(try dsimp only at zai zaj zak zal);obtain ⟨zaa,zab⟩ := cells1 zag.out;clear hg hb zan) | ((with_reducible refine gate_dst (N := 2) rfl ?_);refine box_event ?hg (N := 2) ?hd (cs := #[.int .i64 0,.int .i64 0,.slice none 0 0]) (t := 25) ?hr ?_;(case hd => rfl);(case hg => rfl);(case hr => (go_simp;try rfl));intro b_r hg w2 zan hb;clear zaq zai zaj zak zal zac zad zae zaf zaa zab;have za9 := am ((by rw [hg];exact Nat.ne_of_lt (blk_lt zag.out) : b_p ≠ b_r));have zao := am ((by rw [hg];exact Nat.ne_of_lt (LC.out.lt _ LC.out.me) : g ≠ b_r));replace zag := am (blk_below zag.out hb);have zah := am (zan);replace HI := am (St.made HI.out hb);replace LC := am (Loc.alloc LC.out hb hg (blk_lt zan));obtain ⟨AT_,cT_,zaq,zai,zaj,zak,zal,zac,zad,zae,zaf⟩ := HI.out.cells_;(try dsimp only at zai zaj zak zal);obtain ⟨zaa,zab⟩ := cells1 zag.out;clear hg hb zan))
 go_quiet (fail)
 clear zaq zai zaj zak zal zac zad zae zaf zaa zab
 replace zag := am (blk_drewN zag.out nq)
 replace zah := am (blk_drewN zah.out nq)
 replace HI := am ((show St w0 (w2.drewN nq) g l _ from HI.out))
 replace LC := am (Loc.drewN LC.out nq)
 generalize w2.drewN nq = w3 at LC HI zag zah ⊢
 obtain ⟨AT_,cT_,zaq,zai,zaj,zak,zal,zac,zad,zae,zaf⟩ := HI.out.cells_
 (try dsimp only at zai zaj zak zal)
 obtain ⟨zaa,zab⟩ := cells1 zag.out
 try go_wp2_with (fail)
 clear zaq zai zaj zak zal zac zad zae zaf zaa zab
 replace zag := am (blk_drew zag.out)
 replace zah := am (blk_drew zah.out)
 replace HI := am ((show St w0 w3.drew g l _ from HI.out))
 replace LC := am (Loc.drew LC.out)
 obtain ⟨AT_,cT_,HG_,HT_⟩ := HI.out.open_
 obtain ⟨ad_,e_,za2,za3,za4,za5⟩ := at_T63 HT_ (i) pI.out qI.out
 cases e_
 have zbn := am za2
 have zbo := am za3
 have zbp := am za4
 have zbq := am za5
 clear za2 za3 za4 za5
 have zba := am HG_
 clear HG_ HT_
 have zcQ := zaL
 have zcu := zao
 have za2 := pcb LC.out.below zbn.out
 have za3 := pcb LC.out.below zbo.out
 have za4 := pcb LC.out.below zbp.out
 have za5 := pcb LC.out.below zbq.out
 obtain ⟨zaa,zab⟩ := cells1 zag.out
 obtain ⟨zas,zaM,zat,zaN,zau,zaO,zav,zaP,zaw,zaQ⟩ := cells5 zba.out
 refine start_ (n := 12) (S := fun w' => w'.cell? ⟨b_p,0,none⟩ = some (.pointer (some ⟨g,0,none⟩)) ∧ w'.cell? ⟨g,0,none⟩ = some (.slice (some ad_) l.length cT_) ∧ w'.cell? ⟨g,1,none⟩ = some (.int .i64 (i)) ∧ w'.cell? ⟨g,2,none⟩ = some (.int .i64 (n)) ∧ w'.cell? ⟨g,3,none⟩ = some (.int .i64 (d)) ∧ w'.cell? ⟨g,4,none⟩ = some (.int .i64 (e0)) ∧ w'.cell? (ad_.add ((i).toNat * 4)) = some (.int .i64 (rd_T63 l (i)).f0) ∧ w'.cell? ⟨(ad_.add ((i).toNat * 4)).block,(ad_.add ((i).toNat * 4)).off + 1,none⟩ = some (.int .i64 (rd_T63 l (i)).f1) ∧ w'.cell? ⟨(ad_.add ((i).toNat * 4)).block,(ad_.add ((i).toNat * 4)).off + 2,none⟩ = some (.string (rd_T63 l (i)).f2) ∧ w'.cell? ⟨(ad_.add ((i).toNat * 4)).block,(ad_.add ((i).toNat * 4)).off + 3,none⟩ = some (.int .i64 (rd_T63 l (i)).f3)) (ds := []) #[false,false,false,false,false,false,false,false,false,false,false,false] (by kernel_rfl) rfl rfl ⟨zaa,zas,zat,zau,zav,zaw,za2,za3,za4,za5⟩ (fun hHeld => ?_)
 generalize w3.drew = w4 at LC HI zag zah zba zaa zas zat zau zav zaw za2 za3 za4 za5 zab zaM zaN zaO zaP zaQ hHeld ⊢
 refine take_ (i := 0) (N := some 16) (v := ?_) (a' := ?_) #[true,false,false,false,false,false,false,false,false,false,false,false] rfl rfl (by kernel_rfl) (fun _ _ _ h => h) (Or.inl ⟨by rfl,?_⟩) hHeld ?_ ?_
 rotate_left
 ·rintro w' ⟨s0,s1,s2,s3,s4,s5,s6,s7,s8,s9⟩
  go_simp
  with_reducible rfl
 rotate_left
 ·simp only [Act.put,List.setIfInBounds_toArray,List.set_cons_zero,List.set_cons_succ,i64_w,i32_w]
  rfl
 refine pure_ (i := 1) (N := some 17) (v := ?_) (a' := ?_) #[true,true,false,false,false,false,false,false,false,false,false,false] rfl rfl (by kernel_rfl) (fun _ _ _ h => h) (Or.inl ⟨by rfl,?_⟩) ?_ ?_
 rotate_left
 ·intro w'
  go_simp
  with_reducible rfl
 rotate_left
 ·simp only [Act.put,List.setIfInBounds_toArray,List.set_cons_zero,List.set_cons_succ,i64_w,i32_w]
  rfl
 refine pure_ (i := 2) (N := some 18) (v := ?_) (a' := ?_) #[true,true,true,false,false,false,false,false,false,false,false,false] rfl rfl (by kernel_rfl) (fun _ _ _ h => h) (Or.inl ⟨by rfl,?_⟩) ?_ ?_
 rotate_left
 ·intro w'
  go_simp
  with_reducible rfl
 rotate_left
 ·simp only [Act.put,List.setIfInBounds_toArray,List.set_cons_zero,List.set_cons_succ,i64_w,i32_w]
  rfl
 refine take_ (i := 3) (N := some 19) (v := ?_) (a' := ?_) #[true,true,true,true,false,false,false,false,false,false,false,false] rfl rfl (by kernel_rfl) (fun _ _ _ h => h) (Or.inl ⟨by rfl,?_⟩) hHeld ?_ ?_
 rotate_left
 ·rintro w' ⟨s0,s1,s2,s3,s4,s5,s6,s7,s8,s9⟩
  go_simp
  with_reducible rfl
 rotate_left
 ·simp only [Act.put,List.setIfInBounds_toArray,List.set_cons_zero,List.set_cons_succ,i64_w,i32_w]
  rfl
 refine take_ (i := 4) (N := some 20) (v := ?_) (a' := ?_) #[true,true,true,true,true,false,false,false,false,false,false,false] rfl rfl (by kernel_rfl) (fun _ _ _ h => h) (Or.inl ⟨by rfl,?_⟩) hHeld ?_ ?_
 rotate_left
 ·rintro w' ⟨s0,s1,s2,s3,s4,s5,s6,s7,s8,s9⟩
  go_simp
  with_reducible rfl
 rotate_left
 ·simp only [Act.put,List.setIfInBounds_toArray,List.set_cons_zero,List.set_cons_succ,i64_w,i32_w]
  rfl
 refine pure_ (i := 5) (N := some 21) (v := ?_) (a' := ?_) #[true,true,true,true,true,true,false,false,false,false,false,false] rfl rfl (by kernel_rfl) (fun _ _ _ h => h) (Or.inl ⟨by rfl,?_⟩) ?_ ?_
 rotate_left
 ·intro w'
  go_simp
  with_reducible rfl
 rotate_left
 ·simp only [Act.put,List.setIfInBounds_toArray,List.set_cons_zero,List.set_cons_succ,i64_w,i32_w]
  rfl
 refine pure_ (i := 6) (N := some 22) (v := ?_) (a' := ?_) #[true,true,true,true,true,true,true,false,false,false,false,false] rfl rfl (by kernel_rfl) (fun _ _ _ h => h) (Or.inl ⟨by rfl,?_⟩) ?_ ?_
 rotate_left
 ·intro w'
  go_simp
  with_reducible rfl
 rotate_left
 ·simp only [Act.put,List.setIfInBounds_toArray,List.set_cons_zero,List.set_cons_succ,i64_w,i32_w]
  rfl
 refine take_ (i := 7) (N := some 23) (v := ?_) (a' := ?_) #[true,true,true,true,true,true,true,true,false,false,false,false] rfl rfl (by kernel_rfl) (fun _ _ _ h => h) (Or.inl ⟨by rfl,?_⟩) hHeld ?_ ?_
 rotate_left
 ·rintro w' ⟨s0,s1,s2,s3,s4,s5,s6,s7,s8,s9⟩
  go_simp
  with_reducible rfl
 rotate_left
 ·simp only [Act.put,List.setIfInBounds_toArray,List.set_cons_zero,List.set_cons_succ,i64_w,i32_w]
  rfl
 refine pure_ (i := 8) (N := some 24) (v := ?_) (a' := ?_) #[true,true,true,true,true,true,true,true,true,false,false,false] rfl rfl (by kernel_rfl) (fun _ _ _ h => h) (Or.inl ⟨by rfl,?_⟩) ?_ ?_
 rotate_left
 ·intro w'
  go_simp
  with_reducible rfl
 rotate_left
 ·simp only [Act.put,List.setIfInBounds_toArray,List.set_cons_zero,List.set_cons_succ,i64_w,i32_w]
  rfl
 refine take_ (i := 9) (N := some 25) (v := ?_) (a' := ?_) #[true,true,true,true,true,true,true,true,true,true,false,false] rfl rfl (by kernel_rfl) (fun _ _ _ h => h) (Or.inl ⟨by rfl,?_⟩) hHeld ?_ ?_
 rotate_left
 ·rintro w' ⟨s0,s1,s2,s3,s4,s5,s6,s7,s8,s9⟩
  go_simp
  with_reducible rfl
 rotate_left
 ·simp only [Act.put,List.setIfInBounds_toArray,List.set_cons_zero,List.set_cons_succ,i64_w,i32_w]
  rfl
 refine one_ (i := 10) (N := some 3) #[true,true,true,true,true,true,true,true,true,true,true,false] rfl rfl (by kernel_rfl) (by decide) (fun K hK => ?_)
 refine box_step (by rfl) (N := 3) rfl (cs := #[.int .i64 0,.int .i64 0,.string ⟨#[]⟩,.int .i64 0]) (t := 63) ?hr ?_
 case hr => first | (go_simp;done) | (go_simp;rfl)
 intro b_t w5 hg zan hb
 clear za2 za3 za4 za5 zaa zab zas zaM zat zaN zau zaO zav zaP zaw zaQ
 have zcf := am ((by rw [hg];exact Nat.ne_of_lt (blk_lt zag.out) : b_p ≠ b_t))
 have zbL := am ((by rw [hg];exact Nat.ne_of_lt (blk_lt zah.out) : b_r ≠ b_t))
 have zcg := am ((by rw [hg];exact Nat.ne_of_lt (blk_lt zba.out) : g ≠ b_t))
 have za7 := am ((by rw [hg];exact Nat.ne_of_lt (LC.out.lt _ LC.out.me) : g ≠ b_t))
 replace zag := am (blk_below zag.out hb)
 replace zah := am (blk_below zah.out hb)
 replace zba := am (blk_below zba.out hb)
 have zaU := am (zan)
 replace HI := am (St.made HI.out hb)
 replace LC := am (Loc.alloc LC.out hb hg (blk_lt zan))
 have za2 := pcb LC.out.below zbn.out
 have za3 := pcb LC.out.below zbo.out
 have za4 := pcb LC.out.below zbp.out
 have za5 := pcb LC.out.below zbq.out
 obtain ⟨zaa,zab⟩ := cells1 zag.out
 obtain ⟨zas,zaM,zat,zaN,zau,zaO,zav,zaP,zaw,zaQ⟩ := cells5 zba.out
 clear hg hb zan
 refine hK.out _ _ ⟨zaa,zas,zat,zau,zav,zaw,za2,za3,za4,za5⟩ (fun hHeld => ?_)
 clear hK K
 refine norm_ (a' := ?_) ?_ ?_
 rotate_left
 ·show Act.put _ (some 3) _ = _
  simp only [Act.put,List.setIfInBounds_toArray,List.set_cons_zero,List.set_cons_succ,i64_w,i32_w]
  rfl
 refine one_ (i := 11) (N := none) #[true,true,true,true,true,true,true,true,true,true,true,true] rfl rfl (by kernel_rfl) (by decide) (fun K hK => ?_)
 refine store4_step (by rfl) rfl (b := b_t) (y0 := .int .i64 (rd_T63 l i).f0) (y1 := .int .i64 (rd_T63 l i).f1) (y2 := .string (rd_T63 l i).f2) (y3 := .int .i64 (rd_T63 l i).f3) ?hr zaU.out ?_
 case hr => (obtain ⟨q0_,f0_,q1_,f1_,q2_,f2_,q3_,f3_⟩ := cells4 zaU.out;go_simp;try rfl)
 intro w6 hx hk zax
 clear za2 za3 za4 za5 zaa zab zas zaM zat zaN zau zaO zav zaP zaw zaQ
 replace zag := am (blk_kept zag.out hk (by first | exact zcf.out | exact (fun e_ => NE_t_p.out e_.symm)))
 replace zah := am (blk_kept zah.out hk (by first | exact zbL.out | exact (fun e_ => zbZ.out e_.symm)))
 replace zba := am (blk_kept zba.out hk (by first | exact zcg.out | exact (fun e_ => NE_t_G.out e_.symm)))
 replace zaU := am (hx)
 replace HI := am (St.store HI.out hk za7.out)
 replace LC := am (Loc.store LC.out (b := b_t) (by simp) hk (zax _))
 have za2 := pcb LC.out.below zbn.out
 have za3 := pcb LC.out.below zbo.out
 have za4 := pcb LC.out.below zbp.out
 have za5 := pcb LC.out.below zbq.out
 obtain ⟨zaa,zab⟩ := cells1 zag.out
 obtain ⟨zas,zaM,zat,zaN,zau,zaO,zav,zaP,zaw,zaQ⟩ := cells5 zba.out
 obtain ⟨zaC,zaD,zaE,zaF,zaG,zaH,zaI,zaJ⟩ := cells4 zaU.out
 clear hx hk zax
 refine hK.out _ _ ⟨zaa,zas,zat,zau,zav,zaw,za2,za3,za4,za5⟩ (fun hHeld => ?_)
 clear hK K
 refine done_ (by kernel_rfl) ?_
 clear za2 za3 za4 za5 zaa zab zas zaM zat zaN zau zaO zav zaP zaw zaQ zaC zaD zaE zaF zaG zaH zaI zaJ
 clear zba
 clear zbn zbo zbp zbq
 obtain ⟨AT_,cT_,zaq,zai,zaj,zak,zal,zac,zad,zae,zaf⟩ := HI.out.cells_
 (try dsimp only at zai zaj zak zal)
 obtain ⟨zaa,zab⟩ := cells1 zag.out
 obtain ⟨zaC,zaD,zaE,zaF,zaG,zaH,zaI,zaJ⟩ := cells4 zaU.out
 go_wp2_with (first | ((with_reducible refine gate_callee (f := 60) rfl ?_);refine goesL_ (some 70) rfl rfl Tryd.func60 (by kernel_rfl) rfl #[.pointer (some ⟨g,0,none⟩),.func (.func 86) #[] #[.pointer (some ⟨b_p,0,none⟩),.pointer (some ⟨b_t,0,none⟩)]] rfl (by (try simp only [List.map_toArray,List.map_cons,List.map_nil]);first | done | rfl) ?_;(with_reducible refine (inner86_calls _ _ _ g b_p b_t w0 _ HI.out LC.out.below (BodyC.mk (fun s1 s2 t w1 hr hk hI hB => max_calls hT s1 s2 t g b_p b_t _ w0 w1 hI hB (KeepBut.blk hk zag.out (Ne.symm zaL.out) (by simp)) (KeepBut.blk hk zaU.out (Ne.symm za7.out) (by simp)) KW.out hr)) HF.out).mono ?_);rintro e w7 ⟨A1,c1,rfl,hv,hi,hb,hk⟩;refine ⟨_,rfl,?_⟩;clear zaq zai zaj zak zal zac zad zae zaf zaa zab zaC zaD zaE zaF zaG zaH zaI zaJ;have zbN := am (VV.of_call hv LC.out);replace zag := am (KeepBut.blk hk zag.out (fun e_ => zaL.out e_.symm) (by simp));replace zah := am (KeepBut.blk hk zah.out (fun e_ => zao.out e_.symm) (by simp));replace zaU := am (KeepBut.blk hk zaU.out (fun e_ => za7.out e_.symm) (by simp));replace HI := am (hi);replace LC := am (Loc.call LC.out hk hb);obtain ⟨AT_,cT_,zaq,zai,zaj,zak,zal,zac,zad,zae,zaf⟩ := HI.out.cells_;obtain ⟨zaa,zab⟩ := cells1 zag.out;obtain ⟨zaC,zaD,zaE,zaF,zaG,zaH,zaI,zaJ⟩ := cells4 zaU.out;clear hb hk hi hv) | ((with_reducible refine gate_store (t := 25) (p := 2) rfl ?_);refine store3_event (b := b_r) (y0 := .int .i64 t.f0) (y1 := .int .i64 t.f1) (y2 := .slice A1 t.f2.length c1) ?hgd ?hN ?hr zah.out ?_;(case hgd => rfl);(case hN => rfl);(case hr => (obtain ⟨q0_,f0_,q1_,f1_,q2_,f2_⟩ := cells3 zah.out;go_simp;try rfl));intro w8 hx hk zax;clear zaq zai zaj zak zal zac zad zae zaf zaa zab zaC zaD zaE zaF zaG zaH zaI zaJ;replace zbN := am (VV.store zbN.out hk (by simp));replace zag := am (blk_kept zag.out hk (by first | exact za9.out | exact (fun e_ => NE_r_p.out e_.symm)));replace zah := am (hx);replace zaU := am (blk_kept zaU.out hk (by first | exact zbZ.out | exact (fun e_ => zbL.out e_.symm)));replace HI := am (St.store HI.out hk zao.out);replace LC := am (Loc.store LC.out (b := b_r) (by simp) hk (zax _));obtain ⟨AT_,cT_,zaq,zai,zaj,zak,zal,zac,zad,zae,zaf⟩ := HI.out.cells_;obtain ⟨zaa,zab⟩ := cells1 zag.out;obtain ⟨zaC,zaD,zaE,zaF,zaG,zaH,zaI,zaJ⟩ := cells4 zaU.out;clear hx hk zax))
 refine bodyPost_ret (results_cell_row rfl _ _ b_r 25 (ncells t A1 c1) (0,0) _ rfl zah.out Tryd.underlying25 rfl (by kernel_rfl)) rfl ?_
 exact ⟨A1,c1,rfl,zbN.out.out,HI.out,LC.out.out.1,LC.out.out.2⟩
theorem atom_if {l : List Tk} {k : Nat} (hT : TreeC l k) (i n d e0 : Int) (s' : PSt) (t : Nd) (g : Nat) (w0 w : World) (hI : St w0 w g l ⟨i,n,d,e0⟩) (hB : Below w0.heap.size w0 w) (c1 : i ≠ (l.length : Int)) (p1 : 0 ≤ i) (q1 : i < (l.length : Int)) (c2 : ¬ (rd_T63 l i).f0 = 1) (k0 : ¬ (rd_T63 l i).f2.toList = bKey.toList) (k1 : ¬ (rd_T63 l i).f2.toList = bTime.toList) (k2 : ¬ (rd_T63 l i).f2.toList = bValue.toList) (k3 : ¬ (rd_T63 l i).f2.toList = bOpen.toList) (k4 : ¬ (rd_T63 l i).f2.toList = bMin.toList) (k5 : ¬ (rd_T63 l i).f2.toList = bMax.toList) (k6 : (rd_T63 l i).f2.toList = bIf.toList) (hn : deepW ⟨i,n,d,e0⟩ (ifB l (fun lv s => run l k (.tree lv) s)) = some (t,s')) :
  Calls Tryd.prog 64 #[.pointer (some ⟨g,0,none⟩)] w (NodePost w w0 g (fun w' => St w0 w' g l s') t) := by
 have zcz := Tryd.underlying25
 have zfF := Tryd.underlying63
 have c1b : (i == (l.length : Int)) = false := beq_eq_false_iff_ne.mpr c1
 have pI := am p1
 have qI := am q1
 replace p1 := eq_true p1
 replace q1 := eq_true q1
 have c2b : ((rd_T63 l i).f0 == 1) = false := beq_eq_false_iff_ne.mpr c2
 have hb0 : bKey.toList = [107,101,121] := by simp
 have k0b : ((rd_T63 l i).f2.toList == [107,101,121]) = false := by rw [← hb0];exact beq_eq_false_iff_ne.mpr k0
 have hb1 : bTime.toList = [116,105,109,101] := by simp
 have k1b : ((rd_T63 l i).f2.toList == [116,105,109,101]) = false := by rw [← hb1];exact beq_eq_false_iff_ne.mpr k1
 have hb2 : bValue.toList = [118,97,108,117,101] := by simp
 have k2b : ((rd_T63 l i).f2.toList == [118,97,108,117,101]) = false := by rw [← hb2];exact beq_eq_false_iff_ne.mpr k2
 have hb3 : bOpen.toList = [40] := by simp
 have k3b : ((rd_T63 l i).f2.toList == [40]) = false := by rw [← hb3];exact beq_eq_false_iff_ne.mpr k3
 have hb4 : bMin.toList = [109,105,110] := by simp
 have k4b : ((rd_T63 l i).f2.toList == [109,105,110]) = false := by rw [← hb4];exact beq_eq_false_iff_ne.mpr k4
 have hb5 : bMax.toList = [109,97,120] := by simp
 have k5b : ((rd_T63 l i).f2.toList == [109,97,120]) = false := by rw [← hb5];exact beq_eq_false_iff_ne.mpr k5
 have hb6 : bIf.toList = [105,102] := by simp
 have k6b : ((rd_T63 l i).f2.toList == [105,102]) = true := by rw [← hb6];exact beq_iff_eq.mpr k6
 have HWD := am (ba_eq k6)
 clear k0 hb0
 clear k1 hb1
 clear k2 hb2
 clear k3 hb3
 clear k4 hb4
 clear k5 hb5
 clear k6 hb6
 clear c1 c2
 have HF := am hn
 clear hn
 have LC := am (Loc.init hB hI.lt hI.ge)
 have HI := am hI
 obtain ⟨AT_,cT_,zaq,zai,zaj,zak,zal,zac,zad,zae,zaf⟩ := HI.out.cells_
 (try dsimp only at zai zaj zak zal)
 clear hB hI
 go_enter Tryd.func64,Tryd.ntmps64
 try go_wp2_with (first | ((with_reducible refine gate_dst (N := 1) rfl ?_);refine box_event ?hg (N := 1) ?hd (cs := #[.pointer (some ⟨g,0,none⟩)]) (t := 70) ?hr ?_;(case hd => rfl);(case hg => rfl);(case hr => (go_simp;try rfl));intro b_p hg w1 zan hb;clear zaq zai zaj zak zal zac zad zae zaf;have zaL := am ((by rw [hg];exact Nat.ne_of_lt (LC.out.lt _ LC.out.me) : g ≠ b_p));have zag := am (zan);replace HI := am (St.made HI.out hb);replace LC := am (Loc.alloc LC.out hb hg (blk_lt zan));obtain ⟨AT_,cT_,zaq,zai,zaj,zak,zal,zac,zad,zae,zaf⟩ := HI.out.cells_;(try dsimp only at zai zaj zak zal);obtain ⟨zaa,zab⟩ := cells1 zag.out;clear hg hb zan) | ((with_reducible refine gate_dst (N := 2) rfl ?_);refine box_event ?hg (N := 2) ?hd (cs := #[.int .i64 0,.int .i64 0,.slice none 0 0]) (t := 25) ?hr ?_;(case hd => rfl);(case hg => rfl);(case hr => (go_simp;try rfl));intro b_r hg w2 zan hb;clear zaq zai zaj zak zal zac zad zae zaf zaa zab;have za9 := am ((by rw [hg];exact Nat.ne_of_lt (blk_lt zag.out) : b_p ≠ b_r));have zao := am ((by rw [hg];exact Nat.ne_of_lt (LC.out.lt _ LC.out.me) : g ≠ b_r));replace zag := am (blk_below zag.out hb);have zah := am (zan);replace HI := am (St.made HI.out hb);replace LC := am (Loc.alloc LC.out hb hg (blk_lt zan));obtain ⟨AT_,cT_,zaq,zai,zaj,zak,zal,zac,zad,zae,zaf⟩ := HI.out.cells_;(try dsimp only at zai zaj zak zal);obtain ⟨zaa,zab⟩ := cells1 zag.out;clear hg hb zan))
 go_quiet (fail)
 clear zaq zai zaj zak zal zac zad zae zaf zaa zab
 replace zag := am (blk_drewN zag.out nq)
 replace zah := am (blk_drewN zah.out nq)
 replace HI := am ((show St w0 (w2.drewN nq) g l _ from HI.out))
 replace LC := am (Loc.drewN LC.out nq)
 generalize w2.drewN nq = w3 at LC HI zag zah ⊢
 obtain ⟨AT_,cT_,zaq,zai,zaj,zak,zal,zac,zad,zae,zaf⟩ := HI.out.cells_
 (try dsimp only at zai zaj zak zal)
 obtain ⟨zaa,zab⟩ := cells1 zag.out
 try go_wp2_with (fail)
 clear zaq zai zaj zak zal zac zad zae zaf zaa zab
 replace zag := am (blk_drew zag.out)
 replace zah := am (blk_drew zah.out)
 replace HI := am ((show St w0 w3.drew g l _ from HI.out))
 replace LC := am (Loc.drew LC.out)
 obtain ⟨AT_,cT_,HG_,HT_⟩ := HI.out.open_
 obtain ⟨ad_,e_,za2,za3,za4,za5⟩ := at_T63 HT_ (i) pI.out qI.out
 cases e_
 have zbn := am za2
 have zbo := am za3
 have zbp := am za4
 have zbq := am za5
 clear za2 za3 za4 za5
 have zba := am HG_
 clear HG_ HT_
 have zcQ := zaL
 have zcu := zao
 have za2 := pcb LC.out.below zbn.out
 have za3 := pcb LC.out.below zbo.out
 have za4 := pcb LC.out.below zbp.out
 have za5 := pcb LC.out.below zbq.out
 obtain ⟨zaa,zab⟩ := cells1 zag.out
 obtain ⟨zas,zaM,zat,zaN,zau,zaO,zav,zaP,zaw,zaQ⟩ := cells5 zba.out
 refine start_ (n := 12) (S := fun w' => w'.cell? ⟨b_p,0,none⟩ = some (.pointer (some ⟨g,0,none⟩)) ∧ w'.cell? ⟨g,0,none⟩ = some (.slice (some ad_) l.length cT_) ∧ w'.cell? ⟨g,1,none⟩ = some (.int .i64 (i)) ∧ w'.cell? ⟨g,2,none⟩ = some (.int .i64 (n)) ∧ w'.cell? ⟨g,3,none⟩ = some (.int .i64 (d)) ∧ w'.cell? ⟨g,4,none⟩ = some (.int .i64 (e0)) ∧ w'.cell? (ad_.add ((i).toNat * 4)) = some (.int .i64 (rd_T63 l (i)).f0) ∧ w'.cell? ⟨(ad_.add ((i).toNat * 4)).block,(ad_.add ((i).toNat * 4)).off + 1,none⟩ = some (.int .i64 (rd_T63 l (i)).f1) ∧ w'.cell? ⟨(ad_.add ((i).toNat * 4)).block,(ad_.add ((i).toNat * 4)).off + 2,none⟩ = some (.string (rd_T63 l (i)).f2) ∧ w'.cell? ⟨(ad_.add ((i).toNat * 4)).block,(ad_.add ((i).toNat * 4)).off + 3,none⟩ = some (.int .i64 (rd_T63 l (i)).f3)) (ds := []) #[false,false,false,false,false,false,false,false,false,false,false,false] (by kernel_rfl) rfl rfl ⟨zaa,zas,zat,zau,zav,zaw,za2,za3,za4,za5⟩ (fun hHeld => ?_)
 generalize w3.drew = w4 at LC HI zag zah zba zaa zas zat zau zav zaw za2 za3 za4 za5 zab zaM zaN zaO zaP zaQ hHeld ⊢
 refine take_ (i := 0) (N := some 16) (v := ?_) (a' := ?_) #[true,false,false,false,false,false,false,false,false,false,false,false] rfl rfl (by kernel_rfl) (fun _ _ _ h => h) (Or.inl ⟨by rfl,?_⟩) hHeld ?_ ?_
 rotate_left
 ·rintro w' ⟨s0,s1,s2,s3,s4,s5,s6,s7,s8,s9⟩
  go_simp
  with_reducible rfl
 rotate_left
 ·simp only [Act.put,List.setIfInBounds_toArray,List.set_cons_zero,List.set_cons_succ,i64_w,i32_w]
  rfl
 refine pure_ (i := 1) (N := some 17) (v := ?_) (a' := ?_) #[true,true,false,false,false,false,false,false,false,false,false,false] rfl rfl (by kernel_rfl) (fun _ _ _ h => h) (Or.inl ⟨by rfl,?_⟩) ?_ ?_
 rotate_left
 ·intro w'
  go_simp
  with_reducible rfl
 rotate_left
 ·simp only [Act.put,List.setIfInBounds_toArray,List.set_cons_zero,List.set_cons_succ,i64_w,i32_w]
  rfl
 refine pure_ (i := 2) (N := some 18) (v := ?_) (a' := ?_) #[true,true,true,false,false,false,false,false,false,false,false,false] rfl rfl (by kernel_rfl) (fun _ _ _ h => h) (Or.inl ⟨by rfl,?_⟩) ?_ ?_
 rotate_left
 ·intro w'
  go_simp
  with_reducible rfl
 rotate_left
 ·simp only [Act.put,List.setIfInBounds_toArray,List.set_cons_zero,List.set_cons_succ,i64_w,i32_w]
  rfl
 refine take_ (i := 3) (N := some 19) (v := ?_) (a' := ?_) #[true,true,true,true,false,false,false,false,false,false,false,false] rfl rfl (by kernel_rfl) (fun _ _ _ h => h) (Or.inl ⟨by rfl,?_⟩) hHeld ?_ ?_
 rotate_left
 ·rintro w' ⟨s0,s1,s2,s3,s4,s5,s6,s7,s8,s9⟩
  go_simp
  with_reducible rfl
 rotate_left
 ·simp only [Act.put,List.setIfInBounds_toArray,List.set_cons_zero,List.set_cons_succ,i64_w,i32_w]
  rfl
 refine take_ (i := 4) (N := some 20) (v := ?_) (a' := ?_) #[true,true,true,true,true,false,false,false,false,false,false,false] rfl rfl (by kernel_rfl) (fun _ _ _ h => h) (Or.inl ⟨by rfl,?_⟩) hHeld ?_ ?_
 rotate_left
 ·rintro w' ⟨s0,s1,s2,s3,s4,s5,s6,s7,s8,s9⟩
  go_simp
  with_reducible rfl
 rotate_left
 ·simp only [Act.put,List.setIfInBounds_toArray,List.set_cons_zero,List.set_cons_succ,i64_w,i32_w]
  rfl
 refine pure_ (i := 5) (N := some 21) (v := ?_) (a' := ?_) #[true,true,true,true,true,true,false,false,false,false,false,false] rfl rfl (by kernel_rfl) (fun _ _ _ h => h) (Or.inl ⟨by rfl,?_⟩) ?_ ?_
 rotate_left
 ·intro w'
  go_simp
  with_reducible rfl
 rotate_left
 ·simp only [Act.put,List.setIfInBounds_toArray,List.set_cons_zero,List.set_cons_succ,i64_w,i32_w]
  rfl
 refine pure_ (i := 6) (N := some 22) (v := ?_) (a' := ?_) #[true,true,true,true,true,true,true,false,false,false,false,false] rfl rfl (by kernel_rfl) (fun _ _ _ h => h) (Or.inl ⟨by rfl,?_⟩) ?_ ?_
 rotate_left
 ·intro w'
  go_simp
  with_reducible rfl
 rotate_left
 ·simp only [Act.put,List.setIfInBounds_toArray,List.set_cons_zero,List.set_cons_succ,i64_w,i32_w]
  rfl
 refine take_ (i := 7) (N := some 23) (v := ?_) (a' := ?_) #[true,true,true,true,true,true,true,true,false,false,false,false] rfl rfl (by kernel_rfl) (fun _ _ _ h => h) (Or.inl ⟨by rfl,?_⟩) hHeld ?_ ?_
 rotate_left
 ·rintro w' ⟨s0,s1,s2,s3,s4,s5,s6,s7,s8,s9⟩
  go_simp
  with_reducible rfl
 rotate_left
 ·simp only [Act.put,List.setIfInBounds_toArray,List.set_cons_zero,List.set_cons_succ,i64_w,i32_w]
  rfl
 refine pure_ (i := 8) (N := some 24) (v := ?_) (a' := ?_) #[true,true,true,true,true,true,true,true,true,false,false,false] rfl rfl (by kernel_rfl) (fun _ _ _ h => h) (Or.inl ⟨by rfl,?_⟩) ?_ ?_
 rotate_left
 ·intro w'
  go_simp
  with_reducible rfl
 rotate_left
 ·simp only [Act.put,List.setIfInBounds_toArray,List.set_cons_zero,List.set_cons_succ,i64_w,i32_w]
  rfl
 refine take_ (i := 9) (N := some 25) (v := ?_) (a' := ?_) #[true,true,true,true,true,true,true,true,true,true,false,false] rfl rfl (by kernel_rfl) (fun _ _ _ h => h) (Or.inl ⟨by rfl,?_⟩) hHeld ?_ ?_
 rotate_left
 ·rintro w' ⟨s0,s1,s2,s3,s4,s5,s6,s7,s8,s9⟩
  go_simp
  with_reducible rfl
 rotate_left
 ·simp only [Act.put,List.setIfInBounds_toArray,List.set_cons_zero,List.set_cons_succ,i64_w,i32_w]
  rfl
 refine one_ (i := 10) (N := some 3) #[true,true,true,true,true,true,true,true,true,true,true,false] rfl rfl (by kernel_rfl) (by decide) (fun K hK => ?_)
 refine box_step (by rfl) (N := 3) rfl (cs := #[.int .i64 0,.int .i64 0,.string ⟨#[]⟩,.int .i64 0]) (t := 63) ?hr ?_
 case hr => first | (go_simp;done) | (go_simp;rfl)
 intro b_t w5 hg zan hb
 clear za2 za3 za4 za5 zaa zab zas zaM zat zaN zau zaO zav zaP zaw zaQ
 have zcf := am ((by rw [hg];exact Nat.ne_of_lt (blk_lt zag.out) : b_p ≠ b_t))
 have zbL := am ((by rw [hg];exact Nat.ne_of_lt (blk_lt zah.out) : b_r ≠ b_t))
 have zcg := am ((by rw [hg];exact Nat.ne_of_lt (blk_lt zba.out) : g ≠ b_t))
 have za7 := am ((by rw [hg];exact Nat.ne_of_lt (LC.out.lt _ LC.out.me) : g ≠ b_t))
 replace zag := am (blk_below zag.out hb)
 replace zah := am (blk_below zah.out hb)
 replace zba := am (blk_below zba.out hb)
 have zaU := am (zan)
 replace HI := am (St.made HI.out hb)
 replace LC := am (Loc.alloc LC.out hb hg (blk_lt zan))
 have za2 := pcb LC.out.below zbn.out
 have za3 := pcb LC.out.below zbo.out
 have za4 := pcb LC.out.below zbp.out
 have za5 := pcb LC.out.below zbq.out
 obtain ⟨zaa,zab⟩ := cells1 zag.out
 obtain ⟨zas,zaM,zat,zaN,zau,zaO,zav,zaP,zaw,zaQ⟩ := cells5 zba.out
 clear hg hb zan
 refine hK.out _ _ ⟨zaa,zas,zat,zau,zav,zaw,za2,za3,za4,za5⟩ (fun hHeld => ?_)
 clear hK K
 refine norm_ (a' := ?_) ?_ ?_
 rotate_left
 ·show Act.put _ (some 3) _ = _
  simp only [Act.put,List.setIfInBounds_toArray,List.set_cons_zero,List.set_cons_succ,i64_w,i32_w]
  rfl
 refine one_ (i := 11) (N := none) #[true,true,true,true,true,true,true,true,true,true,true,true] rfl rfl (by kernel_rfl) (by decide) (fun K hK => ?_)
 refine store4_step (by rfl) rfl (b := b_t) (y0 := .int .i64 (rd_T63 l i).f0) (y1 := .int .i64 (rd_T63 l i).f1) (y2 := .string (rd_T63 l i).f2) (y3 := .int .i64 (rd_T63 l i).f3) ?hr zaU.out ?_
 case hr => (obtain ⟨q0_,f0_,q1_,f1_,q2_,f2_,q3_,f3_⟩ := cells4 zaU.out;go_simp;try rfl)
 intro w6 hx hk zax
 clear za2 za3 za4 za5 zaa zab zas zaM zat zaN zau zaO zav zaP zaw zaQ
 replace zag := am (blk_kept zag.out hk (by first | exact zcf.out | exact (fun e_ => NE_t_p.out e_.symm)))
 replace zah := am (blk_kept zah.out hk (by first | exact zbL.out | exact (fun e_ => zbZ.out e_.symm)))
 replace zba := am (blk_kept zba.out hk (by first | exact zcg.out | exact (fun e_ => NE_t_G.out e_.symm)))
 replace zaU := am (hx)
 replace HI := am (St.store HI.out hk za7.out)
 replace LC := am (Loc.store LC.out (b := b_t) (by simp) hk (zax _))
 have za2 := pcb LC.out.below zbn.out
 have za3 := pcb LC.out.below zbo.out
 have za4 := pcb LC.out.below zbp.out
 have za5 := pcb LC.out.below zbq.out
 obtain ⟨zaa,zab⟩ := cells1 zag.out
 obtain ⟨zas,zaM,zat,zaN,zau,zaO,zav,zaP,zaw,zaQ⟩ := cells5 zba.out
 obtain ⟨zaC,zaD,zaE,zaF,zaG,zaH,zaI,zaJ⟩ := cells4 zaU.out
 clear hx hk zax
 refine hK.out _ _ ⟨zaa,zas,zat,zau,zav,zaw,za2,za3,za4,za5⟩ (fun hHeld => ?_)
 clear hK K
 refine done_ (by kernel_rfl) ?_
 clear za2 za3 za4 za5 zaa zab zas zaM zat zaN zau zaO zav zaP zaw zaQ zaC zaD zaE zaF zaG zaH zaI zaJ
 clear zba
 clear zbn zbo zbp zbq
 obtain ⟨AT_,cT_,zaq,zai,zaj,zak,zal,zac,zad,zae,zaf⟩ := HI.out.cells_
 (try dsimp only at zai zaj zak zal)
 obtain ⟨zaa,zab⟩ := cells1 zag.out
 obtain ⟨zaC,zaD,zaE,zaF,zaG,zaH,zaI,zaJ⟩ := cells4 zaU.out
 go_wp2_with (first | ((with_reducible refine gate_callee (f := 60) rfl ?_);refine goesL_ (some 75) rfl rfl Tryd.func60 (by kernel_rfl) rfl #[.pointer (some ⟨g,0,none⟩),.func (.func 87) #[] #[.pointer (some ⟨b_p,0,none⟩)]] rfl (by (try simp only [List.map_toArray,List.map_cons,List.map_nil]);first | done | rfl) ?_;(with_reducible refine (inner87_calls _ _ _ g b_p w0 _ HI.out LC.out.below (BodyC.mk (fun s1 s2 t w1 hr hk hI hB => if_calls hT s1 s2 t g b_p w0 w1 hI hB (KeepBut.blk hk zag.out (Ne.symm zaL.out) (by simp)) hr)) HF.out).mono ?_);rintro e w7 ⟨A1,c1,rfl,hv,hi,hb,hk⟩;refine ⟨_,rfl,?_⟩;clear zaq zai zaj zak zal zac zad zae zaf zaa zab zaC zaD zaE zaF zaG zaH zaI zaJ;have zbN := am (VV.of_call hv LC.out);replace zag := am (KeepBut.blk hk zag.out (fun e_ => zaL.out e_.symm) (by simp));replace zah := am (KeepBut.blk hk zah.out (fun e_ => zao.out e_.symm) (by simp));replace zaU := am (KeepBut.blk hk zaU.out (fun e_ => za7.out e_.symm) (by simp));replace HI := am (hi);replace LC := am (Loc.call LC.out hk hb);obtain ⟨AT_,cT_,zaq,zai,zaj,zak,zal,zac,zad,zae,zaf⟩ := HI.out.cells_;obtain ⟨zaa,zab⟩ := cells1 zag.out;obtain ⟨zaC,zaD,zaE,zaF,zaG,zaH,zaI,zaJ⟩ := cells4 zaU.out;clear hb hk hi hv) | ((with_reducible refine gate_store (t := 25) (p := 2) rfl ?_);refine store3_event (b := b_r) (y0 := .int .i64 t.f0) (y1 := .int .i64 t.f1) (y2 := .slice A1 t.f2.length c1) ?hgd ?hN ?hr zah.out ?_;(case hgd => rfl);(case hN => rfl);(case hr => (obtain ⟨q0_,f0_,q1_,f1_,q2_,f2_⟩ := cells3 zah.out;go_simp;try rfl));intro w8 hx hk zax;clear zaq zai zaj zak zal zac zad zae zaf zaa zab zaC zaD zaE zaF zaG zaH zaI zaJ;replace zbN := am (VV.store zbN.out hk (by simp));replace zag := am (blk_kept zag.out hk (by first | exact za9.out | exact (fun e_ => NE_r_p.out e_.symm)));replace zah := am (hx);replace zaU := am (blk_kept zaU.out hk (by first | exact zbZ.out | exact (fun e_ => zbL.out e_.symm)));replace HI := am (St.store HI.out hk zao.out);replace LC := am (Loc.store LC.out (b := b_r) (by simp) hk (zax _));obtain ⟨AT_,cT_,zaq,zai,zaj,zak,zal,zac,zad,zae,zaf⟩ := HI.out.cells_;obtain ⟨zaa,zab⟩ := cells1 zag.out;obtain ⟨zaC,zaD,zaE,zaF,zaG,zaH,zaI,zaJ⟩ := cells4 zaU.out;clear hx hk zax))
 refine bodyPost_ret (results_cell_row rfl _ _ b_r 25 (ncells t A1 c1) (0,0) _ rfl zah.out Tryd.underlying25 rfl (by kernel_rfl)) rfl ?_
 exact ⟨A1,c1,rfl,zbN.out.out,HI.out,LC.out.out.1,LC.out.out.2⟩
theorem atom_none {l : List Tk} {k : Nat} (hT : TreeC l k) (i n d e0 : Int) (s' : PSt) (t : Nd) (g : Nat) (w0 w : World) (hI : St w0 w g l ⟨i,n,d,e0⟩) (hB : Below w0.heap.size w0 w) (c1 : i ≠ (l.length : Int)) (p1 : 0 ≤ i) (q1 : i < (l.length : Int)) (c2 : ¬ (rd_T63 l i).f0 = 1) (k0 : ¬ (rd_T63 l i).f2.toList = bKey.toList) (k1 : ¬ (rd_T63 l i).f2.toList = bTime.toList) (k2 : ¬ (rd_T63 l i).f2.toList = bValue.toList) (k3 : ¬ (rd_T63 l i).f2.toList = bOpen.toList) (k4 : ¬ (rd_T63 l i).f2.toList = bMin.toList) (k5 : ¬ (rd_T63 l i).f2.toList = bMax.toList) (k6 : ¬ (rd_T63 l i).f2.toList = bIf.toList) (hn : failW ⟨i,n,d,e0⟩ 2 = s') (ht : z25 = t) :
  Calls Tryd.prog 64 #[.pointer (some ⟨g,0,none⟩)] w (NodePost w w0 g (fun w' => St w0 w' g l s') t) := by
 have zcz := Tryd.underlying25
 have zfF := Tryd.underlying63
 have c1b : (i == (l.length : Int)) = false := beq_eq_false_iff_ne.mpr c1
 have pI := am p1
 have qI := am q1
 replace p1 := eq_true p1
 replace q1 := eq_true q1
 have c2b : ((rd_T63 l i).f0 == 1) = false := beq_eq_false_iff_ne.mpr c2
 have hb0 : bKey.toList = [107,101,121] := by simp
 have k0b : ((rd_T63 l i).f2.toList == [107,101,121]) = false := by rw [← hb0];exact beq_eq_false_iff_ne.mpr k0
 have hb1 : bTime.toList = [116,105,109,101] := by simp
 have k1b : ((rd_T63 l i).f2.toList == [116,105,109,101]) = false := by rw [← hb1];exact beq_eq_false_iff_ne.mpr k1
 have hb2 : bValue.toList = [118,97,108,117,101] := by simp
 have k2b : ((rd_T63 l i).f2.toList == [118,97,108,117,101]) = false := by rw [← hb2];exact beq_eq_false_iff_ne.mpr k2
 have hb3 : bOpen.toList = [40] := by simp
 have k3b : ((rd_T63 l i).f2.toList == [40]) = false := by rw [← hb3];exact beq_eq_false_iff_ne.mpr k3
 have hb4 : bMin.toList = [109,105,110] := by simp
 have k4b : ((rd_T63 l i).f2.toList == [109,105,110]) = false := by rw [← hb4];exact beq_eq_false_iff_ne.mpr k4
 have hb5 : bMax.toList = [109,97,120] := by simp
 have k5b : ((rd_T63 l i).f2.toList == [109,97,120]) = false := by rw [← hb5];exact beq_eq_false_iff_ne.mpr k5
 have hb6 : bIf.toList = [105,102] := by simp
 have k6b : ((rd_T63 l i).f2.toList == [105,102]) = false := by rw [← hb6];exact beq_eq_false_iff_ne.mpr k6
 clear k0 hb0
 clear k1 hb1
 clear k2 hb2
 clear k3 hb3
 clear k4 hb4
 clear k5 hb5
 clear k6 hb6
 clear c1 c2
 subst ht
 have HF := am hn
 clear hn
 have LC := am (Loc.init hB hI.lt hI.ge)
 have HI := am hI
 obtain ⟨AT_,cT_,zaq,zai,zaj,zak,zal,zac,zad,zae,zaf⟩ := HI.out.cells_
 (try dsimp only at zai zaj zak zal)
 clear hB hI
 go_enter Tryd.func64,Tryd.ntmps64
 try go_wp2_with (first | ((with_reducible refine gate_dst (N := 1) rfl ?_);refine box_event ?hg (N := 1) ?hd (cs := #[.pointer (some ⟨g,0,none⟩)]) (t := 70) ?hr ?_;(case hd => rfl);(case hg => rfl);(case hr => (go_simp;try rfl));intro b_p hg w1 zan hb;clear zaq zai zaj zak zal zac zad zae zaf;have zaL := am ((by rw [hg];exact Nat.ne_of_lt (LC.out.lt _ LC.out.me) : g ≠ b_p));have zag := am (zan);replace HI := am (St.made HI.out hb);replace LC := am (Loc.alloc LC.out hb hg (blk_lt zan));obtain ⟨AT_,cT_,zaq,zai,zaj,zak,zal,zac,zad,zae,zaf⟩ := HI.out.cells_;(try dsimp only at zai zaj zak zal);obtain ⟨zaa,zab⟩ := cells1 zag.out;clear hg hb zan) | ((with_reducible refine gate_dst (N := 2) rfl ?_);refine box_event ?hg (N := 2) ?hd (cs := #[.int .i64 0,.int .i64 0,.slice none 0 0]) (t := 25) ?hr ?_;(case hd => rfl);(case hg => rfl);(case hr => (go_simp;try rfl));intro b_r hg w2 zan hb;clear zaq zai zaj zak zal zac zad zae zaf zaa zab;have za9 := am ((by rw [hg];exact Nat.ne_of_lt (blk_lt zag.out) : b_p ≠ b_r));have zao := am ((by rw [hg];exact Nat.ne_of_lt (LC.out.lt _ LC.out.me) : g ≠ b_r));replace zag := am (blk_below zag.out hb);have zah := am (zan);replace HI := am (St.made HI.out hb);replace LC := am (Loc.alloc LC.out hb hg (blk_lt zan));obtain ⟨AT_,cT_,zaq,zai,zaj,zak,zal,zac,zad,zae,zaf⟩ := HI.out.cells_;(try dsimp only at zai zaj zak zal);obtain ⟨zaa,zab⟩ := cells1 zag.out;clear hg hb zan))
 go_quiet (fail)
 clear zaq zai zaj zak zal zac zad zae zaf zaa zab
 replace zag := am (blk_drewN zag.out nq)
 replace zah := am (blk_drewN zah.out nq)
 replace HI := am ((show St w0 (w2.drewN nq) g l _ from HI.out))
 replace LC := am (Loc.drewN LC.out nq)
 generalize w2.drewN nq = w3 at LC HI zag zah ⊢
 obtain ⟨AT_,cT_,zaq,zai,zaj,zak,zal,zac,zad,zae,zaf⟩ := HI.out.cells_
 (try dsimp only at zai zaj zak zal)
 obtain ⟨zaa,zab⟩ := cells1 zag.out
 try go_wp2_with (fail)
 clear zaq zai zaj zak zal zac zad zae zaf zaa zab
 replace zag := am (blk_drew zag.out)
 replace zah := am (blk_drew zah.out)
 replace HI := am ((show St w0 w3.drew g l _ from HI.out))
 replace LC := am (Loc.drew LC.out)
 obtain ⟨AT_,cT_,HG_,HT_⟩ := HI.out.open_
 obtain ⟨ad_,e_,za2,za3,za4,za5⟩ := at_T63 HT_ (i) pI.out qI.out
 cases e_
 have zbn := am za2
 have zbo := am za3
 have zbp := am za4
 have zbq := am za5
 clear za2 za3 za4 za5
 have zba := am HG_
 clear HG_ HT_
 have zcQ := zaL
 have zcu := zao
 have za2 := pcb LC.out.below zbn.out
 have za3 := pcb LC.out.below zbo.out
 have za4 := pcb LC.out.below zbp.out
 have za5 := pcb LC.out.below zbq.out
 obtain ⟨zaa,zab⟩ := cells1 zag.out
 obtain ⟨zas,zaM,zat,zaN,zau,zaO,zav,zaP,zaw,zaQ⟩ := cells5 zba.out
 refine start_ (n := 12) (S := fun w' => w'.cell? ⟨b_p,0,none⟩ = some (.pointer (some ⟨g,0,none⟩)) ∧ w'.cell? ⟨g,0,none⟩ = some (.slice (some ad_) l.length cT_) ∧ w'.cell? ⟨g,1,none⟩ = some (.int .i64 (i)) ∧ w'.cell? ⟨g,2,none⟩ = some (.int .i64 (n)) ∧ w'.cell? ⟨g,3,none⟩ = some (.int .i64 (d)) ∧ w'.cell? ⟨g,4,none⟩ = some (.int .i64 (e0)) ∧ w'.cell? (ad_.add ((i).toNat * 4)) = some (.int .i64 (rd_T63 l (i)).f0) ∧ w'.cell? ⟨(ad_.add ((i).toNat * 4)).block,(ad_.add ((i).toNat * 4)).off + 1,none⟩ = some (.int .i64 (rd_T63 l (i)).f1) ∧ w'.cell? ⟨(ad_.add ((i).toNat * 4)).block,(ad_.add ((i).toNat * 4)).off + 2,none⟩ = some (.string (rd_T63 l (i)).f2) ∧ w'.cell? ⟨(ad_.add ((i).toNat * 4)).block,(ad_.add ((i).toNat * 4)).off + 3,none⟩ = some (.int .i64 (rd_T63 l (i)).f3)) (ds := []) #[false,false,false,false,false,false,false,false,false,false,false,false] (by kernel_rfl) rfl rfl ⟨zaa,zas,zat,zau,zav,zaw,za2,za3,za4,za5⟩ (fun hHeld => ?_)
 generalize w3.drew = w4 at LC HI zag zah zba zaa zas zat zau zav zaw za2 za3 za4 za5 zab zaM zaN zaO zaP zaQ hHeld ⊢
 refine take_ (i := 0) (N := some 16) (v := ?_) (a' := ?_) #[true,false,false,false,false,false,false,false,false,false,false,false] rfl rfl (by kernel_rfl) (fun _ _ _ h => h) (Or.inl ⟨by rfl,?_⟩) hHeld ?_ ?_
 rotate_left
 ·rintro w' ⟨s0,s1,s2,s3,s4,s5,s6,s7,s8,s9⟩
  go_simp
  with_reducible rfl
 rotate_left
 ·simp only [Act.put,List.setIfInBounds_toArray,List.set_cons_zero,List.set_cons_succ,i64_w,i32_w]
  rfl
 refine pure_ (i := 1) (N := some 17) (v := ?_) (a' := ?_) #[true,true,false,false,false,false,false,false,false,false,false,false] rfl rfl (by kernel_rfl) (fun _ _ _ h => h) (Or.inl ⟨by rfl,?_⟩) ?_ ?_
 rotate_left
 ·intro w'
  go_simp
  with_reducible rfl
 rotate_left
 ·simp only [Act.put,List.setIfInBounds_toArray,List.set_cons_zero,List.set_cons_succ,i64_w,i32_w]
  rfl
 refine pure_ (i := 2) (N := some 18) (v := ?_) (a' := ?_) #[true,true,true,false,false,false,false,false,false,false,false,false] rfl rfl (by kernel_rfl) (fun _ _ _ h => h) (Or.inl ⟨by rfl,?_⟩) ?_ ?_
 rotate_left
 ·intro w'
  go_simp
  with_reducible rfl
 rotate_left
 ·simp only [Act.put,List.setIfInBounds_toArray,List.set_cons_zero,List.set_cons_succ,i64_w,i32_w]
  rfl
 refine take_ (i := 3) (N := some 19) (v := ?_) (a' := ?_) #[true,true,true,true,false,false,false,false,false,false,false,false] rfl rfl (by kernel_rfl) (fun _ _ _ h => h) (Or.inl ⟨by rfl,?_⟩) hHeld ?_ ?_
 rotate_left
 ·rintro w' ⟨s0,s1,s2,s3,s4,s5,s6,s7,s8,s9⟩
  go_simp
  with_reducible rfl
 rotate_left
 ·simp only [Act.put,List.setIfInBounds_toArray,List.set_cons_zero,List.set_cons_succ,i64_w,i32_w]
  rfl
 refine take_ (i := 4) (N := some 20) (v := ?_) (a' := ?_) #[true,true,true,true,true,false,false,false,false,false,false,false] rfl rfl (by kernel_rfl) (fun _ _ _ h => h) (Or.inl ⟨by rfl,?_⟩) hHeld ?_ ?_
 rotate_left
 ·rintro w' ⟨s0,s1,s2,s3,s4,s5,s6,s7,s8,s9⟩
  go_simp
  with_reducible rfl
 rotate_left
 ·simp only [Act.put,List.setIfInBounds_toArray,List.set_cons_zero,List.set_cons_succ,i64_w,i32_w]
  rfl
 refine pure_ (i := 5) (N := some 21) (v := ?_) (a' := ?_) #[true,true,true,true,true,true,false,false,false,false,false,false] rfl rfl (by kernel_rfl) (fun _ _ _ h => h) (Or.inl ⟨by rfl,?_⟩) ?_ ?_
 rotate_left
 ·intro w'
  go_simp
  with_reducible rfl
 rotate_left
 ·simp only [Act.put,List.setIfInBounds_toArray,List.set_cons_zero,List.set_cons_succ,i64_w,i32_w]
  rfl
 refine pure_ (i := 6) (N := some 22) (v := ?_) (a' := ?_) #[true,true,true,true,true,true,true,false,false,false,false,false] rfl rfl (by kernel_rfl) (fun _ _ _ h => h) (Or.inl ⟨by rfl,?_⟩) ?_ ?_
 rotate_left
 ·intro w'
  go_simp
  with_reducible rfl
 rotate_left
 ·simp only [Act.put,List.setIfInBounds_toArray,List.set_cons_zero,List.set_cons_succ,i64_w,i32_w]
  rfl
 refine take_ (i := 7) (N := some 23) (v := ?_) (a' := ?_) #[true,true,true,true,true,true,true,true,false,false,false,false] rfl rfl (by kernel_rfl) (fun _ _ _ h => h) (Or.inl ⟨by rfl,?_⟩) hHeld ?_ ?_
 rotate_left
 ·rintro w' ⟨s0,s1,s2,s3,s4,s5,s6,s7,s8,s9⟩
  go_simp
  with_reducible rfl
 rotate_left
 ·simp only [Act.put,List.setIfInBounds_toArray,List.set_cons_zero,List.set_cons_succ,i64_w,i32_w]
  rfl
 refine pure_ (i := 8) (N := some 24) (v := ?_) (a' := ?_) #[true,true,true,true,true,true,true,true,true,false,false,false] rfl rfl (by kernel_rfl) (fun _ _ _ h => h) (Or.inl ⟨by rfl,?_⟩) ?_ ?_
 rotate_left
 ·intro w'
  go_simp
  with_reducible rfl
 rotate_left
 ·simp only [Act.put,List.setIfInBounds_toArray,List.set_cons_zero,List.set_cons_succ,i64_w,i32_w]
  rfl
 refine take_ (i := 9) (N := some 25) (v := ?_) (a' := ?_) #[true,true,true,true,true,true,true,true,true,true,false,false] rfl rfl (by kernel_rfl) (fun _ _ _ h => h) (Or.inl ⟨by rfl,?_⟩) hHeld ?_ ?_
 rotate_left
 ·rintro w' ⟨s0,s1,s2,s3,s4,s5,s6,s7,s8,s9⟩
  go_simp
  with_reducible rfl
 rotate_left
 ·simp only [Act.put,List.setIfInBounds_toArray,List.set_cons_zero,List.set_cons_succ,i64_w,i32_w]
  rfl
 refine one_ (i := 10) (N := some 3) #[true,true,true,true,true,true,true,true,true,true,true,false] rfl rfl (by kernel_rfl) (by decide) (fun K hK => ?_)
 refine box_step (by rfl) (N := 3) rfl (cs := #[.int .i64 0,.int .i64 0,.string ⟨#[]⟩,.int .i64 0]) (t := 63) ?hr ?_
 case hr => first | (go_simp;done) | (go_simp;rfl)
 intro b_t w5 hg zan hb
 clear za2 za3 za4 za5 zaa zab zas zaM zat zaN zau zaO zav zaP zaw zaQ
 have zcf := am ((by rw [hg];exact Nat.ne_of_lt (blk_lt zag.out) : b_p ≠ b_t))
 have zbL := am ((by rw [hg];exact Nat.ne_of_lt (blk_lt zah.out) : b_r ≠ b_t))
 have zcg := am ((by rw [hg];exact Nat.ne_of_lt (blk_lt zba.out) : g ≠ b_t))
 have za7 := am ((by rw [hg];exact Nat.ne_of_lt (LC.out.lt _ LC.out.me) : g ≠ b_t))
 replace zag := am (blk_below zag.out hb)
 replace zah := am (blk_below zah.out hb)
 replace zba := am (blk_below zba.out hb)
 have zaU := am (zan)
 replace HI := am (St.made HI.out hb)
 replace LC := am (Loc.alloc LC.out hb hg (blk_lt zan))
 have za2 := pcb LC.out.below zbn.out
 have za3 := pcb LC.out.below zbo.out
 have za4 := pcb LC.out.below zbp.out
 have za5 := pcb LC.out.below zbq.out
 obtain ⟨zaa,zab⟩ := cells1 zag.out
 obtain ⟨zas,zaM,zat,zaN,zau,zaO,zav,zaP,zaw,zaQ⟩ := cells5 zba.out
 clear hg hb zan
 refine hK.out _ _ ⟨zaa,zas,zat,zau,zav,zaw,za2,za3,za4,za5⟩ (fun hHeld => ?_)
 clear hK K
 refine norm_ (a' := ?_) ?_ ?_
 rotate_left
 ·show Act.put _ (some 3) _ = _
  simp only [Act.put,List.setIfInBounds_toArray,List.set_cons_zero,List.set_cons_succ,i64_w,i32_w]
  rfl
 refine one_ (i := 11) (N := none) #[true,true,true,true,true,true,true,true,true,true,true,true] rfl rfl (by kernel_rfl) (by decide) (fun K hK => ?_)
 refine store4_step (by rfl) rfl (b := b_t) (y0 := .int .i64 (rd_T63 l i).f0) (y1 := .int .i64 (rd_T63 l i).f1) (y2 := .string (rd_T63 l i).f2) (y3 := .int .i64 (rd_T63 l i).f3) ?hr zaU.out ?_
 case hr => (obtain ⟨q0_,f0_,q1_,f1_,q2_,f2_,q3_,f3_⟩ := cells4 zaU.out;go_simp;try rfl)
 intro w6 hx hk zax
 clear za2 za3 za4 za5 zaa zab zas zaM zat zaN zau zaO zav zaP zaw zaQ
 replace zag := am (blk_kept zag.out hk (by first | exact zcf.out | exact (fun e_ => NE_t_p.out e_.symm)))
 replace zah := am (blk_kept zah.out hk (by first | exact zbL.out | exact (fun e_ => zbZ.out e_.symm)))
 replace zba := am (blk_kept zba.out hk (by first | exact zcg.out | exact (fun e_ => NE_t_G.out e_.symm)))
 replace zaU := am (hx)
 replace HI := am (St.store HI.out hk za7.out)
 replace LC := am (Loc.store LC.out (b := b_t) (by simp) hk (zax _))
 have za2 := pcb LC.out.below zbn.out
 have za3 := pcb LC.out.below zbo.out
 have za4 := pcb LC.out.below zbp.out
 have za5 := pcb LC.out.below zbq.out
 obtain ⟨zaa,zab⟩ := cells1 zag.out
 obtain ⟨zas,zaM,zat,zaN,zau,zaO,zav,zaP,zaw,zaQ⟩ := cells5 zba.out
 obtain ⟨zaC,zaD,zaE,zaF,zaG,zaH,zaI,zaJ⟩ := cells4 zaU.out
 clear hx hk zax
 refine hK.out _ _ ⟨zaa,zas,zat,zau,zav,zaw,za2,za3,za4,za5⟩ (fun hHeld => ?_)
 clear hK K
 refine done_ (by kernel_rfl) ?_
 clear za2 za3 za4 za5 zaa zab zas zaM zat zaN zau zaO zav zaP zaw zaQ zaC zaD zaE zaF zaG zaH zaI zaJ
 clear zba
 clear zbn zbo zbp zbq
 obtain ⟨AT_,cT_,zaq,zai,zaj,zak,zal,zac,zad,zae,zaf⟩ := HI.out.cells_
 (try dsimp only at zai zaj zak zal)
 obtain ⟨zaa,zab⟩ := cells1 zag.out
 obtain ⟨zaC,zaD,zaE,zaF,zaG,zaH,zaI,zaJ⟩ := cells4 zaU.out
 go_wp2_with (first | ((with_reducible refine gate_callee (f := 83) rfl ?_);refine goesL_ (some 77) rfl rfl Tryd.func83 (by kernel_rfl) rfl #[.pointer (some ⟨g,0,none⟩),.int .i64 2] rfl (by (try simp only [List.map_toArray,List.map_cons,List.map_nil]);first | done | rfl) ?_;(with_reducible refine (fail_calls 2 HI.out LC.out.below).mono ?_);rintro e w7 ⟨A1,c1,rfl,hv,hi,hb,hk⟩;refine ⟨_,rfl,?_⟩;clear zaq zai zaj zak zal zac zad zae zaf zaa zab zaC zaD zaE zaF zaG zaH zaI zaJ;have zdx := am (VV.of_call hv LC.out);replace zag := am (KeepBut.blk hk zag.out (fun e_ => zaL.out e_.symm) (by simp));replace zah := am (KeepBut.blk hk zah.out (fun e_ => zao.out e_.symm) (by simp));replace zaU := am (KeepBut.blk hk zaU.out (fun e_ => za7.out e_.symm) (by simp));replace HI := am (hi);replace LC := am (Loc.call LC.out hk hb);obtain ⟨AT_,cT_,zaq,zai,zaj,zak,zal,zac,zad,zae,zaf⟩ := HI.out.cells_;obtain ⟨zaa,zab⟩ := cells1 zag.out;obtain ⟨zaC,zaD,zaE,zaF,zaG,zaH,zaI,zaJ⟩ := cells4 zaU.out;clear hb hk hi hv) | ((with_reducible refine gate_store (t := 25) (p := 2) rfl ?_);refine store3_event (b := b_r) (y0 := .int .i64 z25.f0) (y1 := .int .i64 z25.f1) (y2 := .slice A1 z25.f2.length c1) ?hgd ?hN ?hr zah.out ?_;(case hgd => rfl);(case hN => rfl);(case hr => (obtain ⟨q0_,f0_,q1_,f1_,q2_,f2_⟩ := cells3 zah.out;go_simp;try rfl));intro w8 hx hk zax;clear zaq zai zaj zak zal zac zad zae zaf zaa zab zaC zaD zaE zaF zaG zaH zaI zaJ;replace zdx := am (VV.store zdx.out hk (by simp));replace zag := am (blk_kept zag.out hk (by first | exact za9.out | exact (fun e_ => NE_r_p.out e_.symm)));replace zah := am (hx);replace zaU := am (blk_kept zaU.out hk (by first | exact zbZ.out | exact (fun e_ => zbL.out e_.symm)));replace HI := am (St.store HI.out hk zao.out);replace LC := am (Loc.store LC.out (b := b_r) (by simp) hk (zax _));obtain ⟨AT_,cT_,zaq,zai,zaj,zak,zal,zac,zad,zae,zaf⟩ := HI.out.cells_;obtain ⟨zaa,zab⟩ := cells1 zag.out;obtain ⟨zaC,zaD,zaE,zaF,zaG,zaH,zaI,zaJ⟩ := cells4 zaU.out;clear hx hk zax))
 rw [HF.out] at HI
 refine bodyPost_ret (results_cell_row rfl _ _ b_r 25 (ncells z25 A1 c1) (0,0) _ rfl zah.out Tryd.underlying25 rfl (by kernel_rfl)) rfl ?_
 exact ⟨A1,c1,rfl,zdx.out.out,HI.out,LC.out.out.1,LC.out.out.2⟩
theorem atom_calls {l : List Tk} {k : Nat} (hT : TreeC l k) : AtomC l (k + 1) := by
 rintro ⟨i,n,d,e0⟩ s' t g w0 w hI hB h
 unfold run at h
 dsimp only at h
 by_cases c1 : i = (l.length : Int)
 ·rw [if_pos c1] at h
  simp only [Option.some.injEq,Prod.mk.injEq] at h
  exact atom_end hT i n d e0 s' t g w0 w hI hB c1 h.2 h.1
 ·rw [if_neg c1] at h
  by_cases p1 : 0 ≤ i
  ·rw [if_pos p1] at h
   by_cases q1 : i < (l.length : Int)
   ·rw [if_pos q1] at h
    by_cases c2 : (rd_T63 l i).f0 = 1
    ·rw [if_pos c2] at h
     exact atom_num hT i n d e0 s' t g w0 w hI hB c1 p1 q1 c2 (Option.some.inj h)
    ·rw [if_neg c2] at h
     by_cases k0 : (rd_T63 l i).f2.toList = bKey.toList
     ·rw [if_pos k0] at h
      exact atom_key hT i n d e0 s' t g w0 w hI hB c1 p1 q1 c2 k0 (Option.some.inj h)
     ·rw [if_neg k0] at h
      by_cases k1 : (rd_T63 l i).f2.toList = bTime.toList
      ·rw [if_pos k1] at h
       exact atom_time hT i n d e0 s' t g w0 w hI hB c1 p1 q1 c2 k0 k1 (Option.some.inj h)
      ·rw [if_neg k1] at h
       by_cases k2 : (rd_T63 l i).f2.toList = bValue.toList
       ·rw [if_pos k2] at h
        exact atom_value hT i n d e0 s' t g w0 w hI hB c1 p1 q1 c2 k0 k1 k2 (Option.some.inj h)
       ·rw [if_neg k2] at h
        by_cases k3 : (rd_T63 l i).f2.toList = bOpen.toList
        ·rw [if_pos k3] at h
         exact atom_par hT i n d e0 s' t g w0 w hI hB c1 p1 q1 c2 k0 k1 k2 k3 h
        ·rw [if_neg k3] at h
         by_cases k4 : (rd_T63 l i).f2.toList = bMin.toList
         ·rw [if_pos k4] at h
          exact atom_min hT i n d e0 s' t g w0 w hI hB c1 p1 q1 c2 k0 k1 k2 k3 k4 h
         ·rw [if_neg k4] at h
          by_cases k5 : (rd_T63 l i).f2.toList = bMax.toList
          ·rw [if_pos k5] at h
           exact atom_max hT i n d e0 s' t g w0 w hI hB c1 p1 q1 c2 k0 k1 k2 k3 k4 k5 h
          ·rw [if_neg k5] at h
           by_cases k6 : (rd_T63 l i).f2.toList = bIf.toList
           ·rw [if_pos k6] at h
            exact atom_if hT i n d e0 s' t g w0 w hI hB c1 p1 q1 c2 k0 k1 k2 k3 k4 k5 k6 h
           ·rw [if_neg k6] at h
            simp only [Option.some.injEq,Prod.mk.injEq] at h
            exact atom_none hT i n d e0 s' t g w0 w hI hB c1 p1 q1 c2 k0 k1 k2 k3 k4 k5 k6 h.2 h.1
   ·rw [if_neg q1] at h
    cases h
  ·rw [if_neg p1] at h
   cases h
end Go.Proofs.YtgnmdhnlcibbiaaDoor.P
end
section
namespace Go.Proofs.YtgnmdhnlcibbiaaDoor.P
open Go.RowKit Go.Proofs.PrintWords Go.Proofs.PrintLast Go.Proofs.PrintMore
set_option linter.unusedVariables false
set_option linter.unusedSimpArgs false
theorem AtomC.go {l : List Tk} {k : Nat} (h : AtomC l k) {s s' : PSt} {t : Nd} {g : Nat} {w0 w : World} (hI : St w0 w g l s) (hB : Below w0.heap.size w0 w) (hr : run l k .atom s = some (t,s')) :
  Calls Tryd.prog 64 #[.pointer (some ⟨g,0,none⟩)] w (NodePost w w0 g (fun w' => St w0 w' g l s') t) := h s s' t g w0 w hI hB hr
theorem Loc.drop {we w0 w : World} {g b : Nat} {L : List Nat} (h : Loc we w0 g (b :: L) w) (hne : g ≠ b) : Loc we w0 g L w := by
 have hb : we.heap.size ≤ b := (h.own b (by simp)).resolve_left (fun e => hne e.symm)
 refine ⟨h.below,⟨h.keep.1,fun i hi hm => h.keep.2 i hi (fun hm2 => ?_)⟩,fun x hx => h.lt x (List.mem_cons_of_mem _ hx),fun x hx => h.ge x (List.mem_cons_of_mem _ hx),fun x hx => h.own x (List.mem_cons_of_mem _ hx),?_⟩
 ·rcases List.mem_cons.1 hm2 with e | e
  ·omega
  ·exact hm e
 ·exact (List.mem_cons.1 h.me).resolve_left hne
theorem VV.drop {we w : World} {L : List Nat} {b : Nat} {v : Value} {xs : List Nd} (h : VV we (b :: L) w v xs) : VV we L w v xs := Kd.V_mono h (fun k hk => ⟨hk.1,fun hm => hk.2 (List.mem_cons_of_mem _ hm)⟩)
theorem tree_err {l : List Tk} {k : Nat} (hT : ∀ j,j ≤ k → TreeC l j) (hA : AtomC l k) (lv : Int) (i n d e0 : Int) (s' : PSt) (t : Nd) (g : Nat) (w0 w : World) (hI : St w0 w g l ⟨i,n,d,e0⟩) (hB : Below w0.heap.size w0 w) (c1 : ¬ e0 = 0) (hs : (⟨i,n,d,e0⟩ : PSt) = s') (ht : z25 = t) :
  Calls Tryd.prog 35 #[.pointer (some ⟨g,0,none⟩),.int .i64 lv] w (NodePost w w0 g (fun w' => St w0 w' g l s') t) := by
 have zcz := Tryd.underlying25
 have zfF := Tryd.underlying63
 have c1b : (e0 != 0) = true := bne_iff_ne.mpr c1
 clear c1
 subst ht
 have HF := am hs
 clear hs
 have LC := am (Loc.init hB hI.lt hI.ge)
 have HI := am hI
 obtain ⟨AT_,cT_,zaq,zai,zaj,zak,zal,zac,zad,zae,zaf⟩ := HI.out.cells_
 (try dsimp only at zai zaj zak zal)
 clear hB hI
 go_enter Tryd.func35,Tryd.ntmps35
 go_wp2_with (first | ((with_reducible refine gate_dst (N := 2) rfl ?_);refine box_event ?hg (N := 2) ?hd (cs := #[.pointer (some ⟨g,0,none⟩)]) (t := 70) ?hr ?_;(case hd => rfl);(case hg => rfl);(case hr => (go_simp;try rfl));intro b_p hg w1 zan hb;clear zaq zai zaj zak zal zac zad zae zaf;have zaL := am ((by rw [hg];exact Nat.ne_of_lt (LC.out.lt _ LC.out.me) : g ≠ b_p));have zag := am (zan);replace HI := am (St.made HI.out hb);replace LC := am (Loc.alloc LC.out hb hg (blk_lt zan));obtain ⟨AT_,cT_,zaq,zai,zaj,zak,zal,zac,zad,zae,zaf⟩ := HI.out.cells_;(try dsimp only at zai zaj zak zal);obtain ⟨zaa,zab⟩ := cells1 zag.out;clear hg hb zan) | ((with_reducible refine gate_dst (N := 4) rfl ?_);refine box_event ?hg (N := 4) ?hd (cs := #[.int .i64 0,.int .i64 0,.slice none 0 0]) (t := 25) ?hr ?_;(case hd => rfl);(case hg => rfl);(case hr => (go_simp;try rfl));intro b_r hg w2 zan hb;clear zaq zai zaj zak zal zac zad zae zaf zaa zab;have za9 := am ((by rw [hg];exact Nat.ne_of_lt (blk_lt zag.out) : b_p ≠ b_r));have zao := am ((by rw [hg];exact Nat.ne_of_lt (LC.out.lt _ LC.out.me) : g ≠ b_r));replace zag := am (blk_below zag.out hb);have zah := am (zan);replace HI := am (St.made HI.out hb);replace LC := am (Loc.alloc LC.out hb hg (blk_lt zan));obtain ⟨AT_,cT_,zaq,zai,zaj,zak,zal,zac,zad,zae,zaf⟩ := HI.out.cells_;(try dsimp only at zai zaj zak zal);obtain ⟨zaa,zab⟩ := cells1 zag.out;clear hg hb zan) | ((with_reducible refine gate_store (t := 25) (p := 4) rfl ?_);refine store3_event (b := b_r) (y0 := .int .i64 0) (y1 := .int .i64 0) (y2 := .slice none 0 0) ?hgd ?hN ?hr zah.out ?_;(case hgd => rfl);(case hN => rfl);(case hr => (obtain ⟨q0_,f0_,q1_,f1_,q2_,f2_⟩ := cells3 zah.out;go_simp;try rfl));intro w3 hx hk zax;clear zaq zai zaj zak zal zac zad zae zaf zaa zab;replace zag := am (blk_kept zag.out hk (by first | exact za9.out | exact (fun e_ => NE_r_p.out e_.symm)));replace zah := am (hx);replace HI := am (St.store HI.out hk zao.out);replace LC := am (Loc.store LC.out (b := b_r) (by simp) hk (zax _));obtain ⟨AT_,cT_,zaq,zai,zaj,zak,zal,zac,zad,zae,zaf⟩ := HI.out.cells_;(try dsimp only at zai zaj zak zal);obtain ⟨zaa,zab⟩ := cells1 zag.out;clear hx hk zax))
 rw [HF.out] at HI
 refine bodyPost_ret (results_cell_row rfl _ _ b_r 25 #[.int .i64 0,.int .i64 0,.slice none 0 0] (0,0) _ rfl zah.out Tryd.underlying25 rfl (by kernel_rfl)) rfl ?_
 exact ⟨none,0,rfl,Kd.V_nil _ _ _ _ _,HI.out,LC.out.out.1,LC.out.out.2⟩
theorem tree_not {l : List Tk} {k : Nat} (hT : ∀ j,j ≤ k → TreeC l j) (hA : AtomC l k) (lv : Int) (i n d e0 : Int) (s' : PSt) (t : Nd) (g : Nat) (w0 w : World) (hI : St w0 w g l ⟨i,n,d,e0⟩) (hB : Below w0.heap.size w0 w) (c1 : e0 = 0) (c2 : lv = 3) (hb : isW l ⟨i,n,d,e0⟩ bNot = some true) (hn : deepW ⟨i,n,d,e0⟩ (negB (fun lv s => run l k (.tree lv) s) 3 6) = some (t,s')) :
  Calls Tryd.prog 35 #[.pointer (some ⟨g,0,none⟩),.int .i64 lv] w (NodePost w w0 g (fun w' => St w0 w' g l s') t) := by
 have zcz := Tryd.underlying25
 have zfF := Tryd.underlying63
 have c1b : (e0 != 0) = false := bne_eq_false_iff_eq.mpr c1
 have c2b : (lv == 3) = true := beq_iff_eq.mpr c2
 clear c1 c2
 have HF := am hn
 have HW := am hb
 clear hn hb
 have LC := am (Loc.init hB hI.lt hI.ge)
 have HI := am hI
 obtain ⟨AT_,cT_,zaq,zai,zaj,zak,zal,zac,zad,zae,zaf⟩ := HI.out.cells_
 (try dsimp only at zai zaj zak zal)
 clear hB hI
 go_enter Tryd.func35,Tryd.ntmps35
 go_wp2_with (first | ((with_reducible refine gate_dst (N := 2) rfl ?_);refine box_event ?hg (N := 2) ?hd (cs := #[.pointer (some ⟨g,0,none⟩)]) (t := 70) ?hr ?_;(case hd => rfl);(case hg => rfl);(case hr => (go_simp;try rfl));intro b_p hg w1 zan hb;clear zaq zai zaj zak zal zac zad zae zaf;have zaL := am ((by rw [hg];exact Nat.ne_of_lt (LC.out.lt _ LC.out.me) : g ≠ b_p));have zag := am (zan);replace HI := am (St.made HI.out hb);replace LC := am (Loc.alloc LC.out hb hg (blk_lt zan));obtain ⟨AT_,cT_,zaq,zai,zaj,zak,zal,zac,zad,zae,zaf⟩ := HI.out.cells_;(try dsimp only at zai zaj zak zal);obtain ⟨zaa,zab⟩ := cells1 zag.out;clear hg hb zan) | ((with_reducible refine gate_dst (N := 4) rfl ?_);refine box_event ?hg (N := 4) ?hd (cs := #[.int .i64 0,.int .i64 0,.slice none 0 0]) (t := 25) ?hr ?_;(case hd => rfl);(case hg => rfl);(case hr => (go_simp;try rfl));intro b_r hg w2 zan hb;clear zaq zai zaj zak zal zac zad zae zaf zaa zab;have za9 := am ((by rw [hg];exact Nat.ne_of_lt (blk_lt zag.out) : b_p ≠ b_r));have zao := am ((by rw [hg];exact Nat.ne_of_lt (LC.out.lt _ LC.out.me) : g ≠ b_r));replace zag := am (blk_below zag.out hb);have zah := am (zan);replace HI := am (St.made HI.out hb);replace LC := am (Loc.alloc LC.out hb hg (blk_lt zan));obtain ⟨AT_,cT_,zaq,zai,zaj,zak,zal,zac,zad,zae,zaf⟩ := HI.out.cells_;(try dsimp only at zai zaj zak zal);obtain ⟨zaa,zab⟩ := cells1 zag.out;clear hg hb zan) | ((with_reducible refine gate_callee (f := 59) rfl ?_);(refine gate_guard (by rfl) ?_;dsimp only);refine goesL_ (some 20) rfl rfl Tryd.func59 (by kernel_rfl) rfl #[.pointer (some ⟨g,0,none⟩),.string bNot] rfl (by (try simp only [List.map_toArray,List.map_cons,List.map_nil]);first | done | rfl) ?_;(with_reducible refine (is_calls HW.out HI.out LC.out.below).mono ?_);rintro e w3 ⟨rfl,hi,hb,hk⟩;refine ⟨_,rfl,?_⟩;clear zaq zai zaj zak zal zac zad zae zaf zaa zab;replace zag := am (KeepBut.blk hk zag.out (fun e_ => zaL.out e_.symm) (by simp));replace zah := am (KeepBut.blk hk zah.out (fun e_ => zao.out e_.symm) (by simp));replace HI := am (hi);replace LC := am (Loc.call LC.out hk hb);obtain ⟨AT_,cT_,zaq,zai,zaj,zak,zal,zac,zad,zae,zaf⟩ := HI.out.cells_;(try dsimp only at zai zaj zak zal);obtain ⟨zaa,zab⟩ := cells1 zag.out;clear hb hk hi) | ((with_reducible refine gate_callee (f := 60) rfl ?_);refine goesL_ (some 24) rfl rfl Tryd.func60 (by kernel_rfl) rfl #[.pointer (some ⟨g,0,none⟩),.func (.func 61) #[] #[.pointer (some ⟨b_p,0,none⟩)]] rfl (by (try simp only [List.map_toArray,List.map_cons,List.map_nil]);first | done | rfl) ?_;(with_reducible refine (inner61_calls _ _ _ g b_p w0 _ HI.out LC.out.below (BodyC.mk (fun s1 s2 t w1 hr hk hI hB => neg61_calls (hT k (Nat.le_refl k)) s1 s2 t g b_p w0 w1 hI hB (KeepBut.blk hk zag.out (Ne.symm zaL.out) (by simp)) hr)) HF.out).mono ?_);rintro e w4 ⟨A1,c1,rfl,hv,hi,hb,hk⟩;refine ⟨_,rfl,?_⟩;clear zaq zai zaj zak zal zac zad zae zaf zaa zab;have zbN := am (VV.of_call hv LC.out);replace zag := am (KeepBut.blk hk zag.out (fun e_ => zaL.out e_.symm) (by simp));replace zah := am (KeepBut.blk hk zah.out (fun e_ => zao.out e_.symm) (by simp));replace HI := am (hi);replace LC := am (Loc.call LC.out hk hb);obtain ⟨AT_,cT_,zaq,zai,zaj,zak,zal,zac,zad,zae,zaf⟩ := HI.out.cells_;obtain ⟨zaa,zab⟩ := cells1 zag.out;clear hb hk hi hv) | ((with_reducible refine gate_store (t := 25) (p := 4) rfl ?_);refine store3_event (b := b_r) (y0 := .int .i64 t.f0) (y1 := .int .i64 t.f1) (y2 := .slice A1 t.f2.length c1) ?hgd ?hN ?hr zah.out ?_;(case hgd => rfl);(case hN => rfl);(case hr => (obtain ⟨q0_,f0_,q1_,f1_,q2_,f2_⟩ := cells3 zah.out;go_simp;try rfl));intro w5 hx hk zax;clear zaq zai zaj zak zal zac zad zae zaf zaa zab;replace zbN := am (VV.store zbN.out hk (by simp));replace zag := am (blk_kept zag.out hk (by first | exact za9.out | exact (fun e_ => NE_r_p.out e_.symm)));replace zah := am (hx);replace HI := am (St.store HI.out hk zao.out);replace LC := am (Loc.store LC.out (b := b_r) (by simp) hk (zax _));obtain ⟨AT_,cT_,zaq,zai,zaj,zak,zal,zac,zad,zae,zaf⟩ := HI.out.cells_;obtain ⟨zaa,zab⟩ := cells1 zag.out;clear hx hk zax))
 refine bodyPost_ret (results_cell_row rfl _ _ b_r 25 (ncells t A1 c1) (0,0) _ rfl zah.out Tryd.underlying25 rfl (by kernel_rfl)) rfl ?_
 exact ⟨A1,c1,rfl,zbN.out.out,HI.out,LC.out.out.1,LC.out.out.2⟩
theorem tree_neg {l : List Tk} {k : Nat} (hT : ∀ j,j ≤ k → TreeC l j) (hA : AtomC l k) (lv : Int) (i n d e0 : Int) (s' : PSt) (t : Nd) (g : Nat) (w0 w : World) (hI : St w0 w g l ⟨i,n,d,e0⟩) (hB : Below w0.heap.size w0 w) (c1 : e0 = 0) (c2 : lv = 7) (hb : isW l ⟨i,n,d,e0⟩ bNeg = some true) (hn : deepW ⟨i,n,d,e0⟩ (negB (fun lv s => run l k (.tree lv) s) 7 5) = some (t,s')) :
  Calls Tryd.prog 35 #[.pointer (some ⟨g,0,none⟩),.int .i64 lv] w (NodePost w w0 g (fun w' => St w0 w' g l s') t) := by
 have zcz := Tryd.underlying25
 have zfF := Tryd.underlying63
 have c1b : (e0 != 0) = false := bne_eq_false_iff_eq.mpr c1
 have c2b : (lv == 3) = false := beq_eq_false_iff_ne.mpr (by omega)
 have c3b : (lv == 7) = true := beq_iff_eq.mpr c2
 clear c1 c2
 have HF := am hn
 have HW := am hb
 clear hn hb
 have LC := am (Loc.init hB hI.lt hI.ge)
 have HI := am hI
 obtain ⟨AT_,cT_,zaq,zai,zaj,zak,zal,zac,zad,zae,zaf⟩ := HI.out.cells_
 (try dsimp only at zai zaj zak zal)
 clear hB hI
 go_enter Tryd.func35,Tryd.ntmps35
 go_wp2_with (first | ((with_reducible refine gate_dst (N := 2) rfl ?_);refine box_event ?hg (N := 2) ?hd (cs := #[.pointer (some ⟨g,0,none⟩)]) (t := 70) ?hr ?_;(case hd => rfl);(case hg => rfl);(case hr => (go_simp;try rfl));intro b_p hg w1 zan hb;clear zaq zai zaj zak zal zac zad zae zaf;have zaL := am ((by rw [hg];exact Nat.ne_of_lt (LC.out.lt _ LC.out.me) : g ≠ b_p));have zag := am (zan);replace HI := am (St.made HI.out hb);replace LC := am (Loc.alloc LC.out hb hg (blk_lt zan));obtain ⟨AT_,cT_,zaq,zai,zaj,zak,zal,zac,zad,zae,zaf⟩ := HI.out.cells_;(try dsimp only at zai zaj zak zal);obtain ⟨zaa,zab⟩ := cells1 zag.out;clear hg hb zan) | ((with_reducible refine gate_dst (N := 4) rfl ?_);refine box_event ?hg (N := 4) ?hd (cs := #[.int .i64 0,.int .i64 0,.slice none 0 0]) (t := 25) ?hr ?_;(case hd => rfl);(case hg => rfl);(case hr => (go_simp;try rfl));intro b_r hg w2 zan hb;clear zaq zai zaj zak zal zac zad zae zaf zaa zab;have za9 := am ((by rw [hg];exact Nat.ne_of_lt (blk_lt zag.out) : b_p ≠ b_r));have zao := am ((by rw [hg];exact Nat.ne_of_lt (LC.out.lt _ LC.out.me) : g ≠ b_r));replace zag := am (blk_below zag.out hb);have zah := am (zan);replace HI := am (St.made HI.out hb);replace LC := am (Loc.alloc LC.out hb hg (blk_lt zan));obtain ⟨AT_,cT_,zaq,zai,zaj,zak,zal,zac,zad,zae,zaf⟩ := HI.out.cells_;(try dsimp only at zai zaj zak zal);obtain ⟨zaa,zab⟩ := cells1 zag.out;clear hg hb zan) | ((with_reducible refine gate_callee (f := 59) rfl ?_);(refine gate_guard (by rfl) ?_;dsimp only);refine goesL_ (some 30) rfl rfl Tryd.func59 (by kernel_rfl) rfl #[.pointer (some ⟨g,0,none⟩),.string bNeg] rfl (by (try simp only [List.map_toArray,List.map_cons,List.map_nil]);first | done | rfl) ?_;(with_reducible refine (is_calls HW.out HI.out LC.out.below).mono ?_);rintro e w3 ⟨rfl,hi,hb,hk⟩;refine ⟨_,rfl,?_⟩;clear zaq zai zaj zak zal zac zad zae zaf zaa zab;replace zag := am (KeepBut.blk hk zag.out (fun e_ => zaL.out e_.symm) (by simp));replace zah := am (KeepBut.blk hk zah.out (fun e_ => zao.out e_.symm) (by simp));replace HI := am (hi);replace LC := am (Loc.call LC.out hk hb);obtain ⟨AT_,cT_,zaq,zai,zaj,zak,zal,zac,zad,zae,zaf⟩ := HI.out.cells_;(try dsimp only at zai zaj zak zal);obtain ⟨zaa,zab⟩ := cells1 zag.out;clear hb hk hi) | ((with_reducible refine gate_callee (f := 60) rfl ?_);refine goesL_ (some 34) rfl rfl Tryd.func60 (by kernel_rfl) rfl #[.pointer (some ⟨g,0,none⟩),.func (.func 63) #[] #[.pointer (some ⟨b_p,0,none⟩)]] rfl (by (try simp only [List.map_toArray,List.map_cons,List.map_nil]);first | done | rfl) ?_;(with_reducible refine (inner63_calls _ _ _ g b_p w0 _ HI.out LC.out.below (BodyC.mk (fun s1 s2 t w1 hr hk hI hB => neg63_calls (hT k (Nat.le_refl k)) s1 s2 t g b_p w0 w1 hI hB (KeepBut.blk hk zag.out (Ne.symm zaL.out) (by simp)) hr)) HF.out).mono ?_);rintro e w4 ⟨A1,c1,rfl,hv,hi,hb,hk⟩;refine ⟨_,rfl,?_⟩;clear zaq zai zaj zak zal zac zad zae zaf zaa zab;have zbN := am (VV.of_call hv LC.out);replace zag := am (KeepBut.blk hk zag.out (fun e_ => zaL.out e_.symm) (by simp));replace zah := am (KeepBut.blk hk zah.out (fun e_ => zao.out e_.symm) (by simp));replace HI := am (hi);replace LC := am (Loc.call LC.out hk hb);obtain ⟨AT_,cT_,zaq,zai,zaj,zak,zal,zac,zad,zae,zaf⟩ := HI.out.cells_;obtain ⟨zaa,zab⟩ := cells1 zag.out;clear hb hk hi hv) | ((with_reducible refine gate_store (t := 25) (p := 4) rfl ?_);refine store3_event (b := b_r) (y0 := .int .i64 t.f0) (y1 := .int .i64 t.f1) (y2 := .slice A1 t.f2.length c1) ?hgd ?hN ?hr zah.out ?_;(case hgd => rfl);(case hN => rfl);(case hr => (obtain ⟨q0_,f0_,q1_,f1_,q2_,f2_⟩ := cells3 zah.out;go_simp;try rfl));intro w5 hx hk zax;clear zaq zai zaj zak zal zac zad zae zaf zaa zab;replace zbN := am (VV.store zbN.out hk (by simp));replace zag := am (blk_kept zag.out hk (by first | exact za9.out | exact (fun e_ => NE_r_p.out e_.symm)));replace zah := am (hx);replace HI := am (St.store HI.out hk zao.out);replace LC := am (Loc.store LC.out (b := b_r) (by simp) hk (zax _));obtain ⟨AT_,cT_,zaq,zai,zaj,zak,zal,zac,zad,zae,zaf⟩ := HI.out.cells_;obtain ⟨zaa,zab⟩ := cells1 zag.out;clear hx hk zax))
 refine bodyPost_ret (results_cell_row rfl _ _ b_r 25 (ncells t A1 c1) (0,0) _ rfl zah.out Tryd.underlying25 rfl (by kernel_rfl)) rfl ?_
 exact ⟨A1,c1,rfl,zbN.out.out,HI.out,LC.out.out.1,LC.out.out.2⟩
theorem tree_atom {l : List Tk} {k : Nat} (hT : ∀ j,j ≤ k → TreeC l j) (hA : AtomC l k) (lv : Int) (i n d e0 : Int) (s' : PSt) (t : Nd) (g : Nat) (w0 w : World) (hI : St w0 w g l ⟨i,n,d,e0⟩) (hB : Below w0.heap.size w0 w) (c1 : e0 = 0) (c2 : lv = 8) (hn : run l k .atom ⟨i,n,d,e0⟩ = some (t,s')) :
  Calls Tryd.prog 35 #[.pointer (some ⟨g,0,none⟩),.int .i64 lv] w (NodePost w w0 g (fun w' => St w0 w' g l s') t) := by
 have zcz := Tryd.underlying25
 have zfF := Tryd.underlying63
 have c1b : (e0 != 0) = false := bne_eq_false_iff_eq.mpr c1
 have c2b : (lv == 3) = false := beq_eq_false_iff_ne.mpr (by omega)
 have c3b : (lv == 7) = false := beq_eq_false_iff_ne.mpr (by omega)
 have c4b : (lv == 8) = true := beq_iff_eq.mpr c2
 clear c1 c2
 have HF := am hn
 clear hn
 have LC := am (Loc.init hB hI.lt hI.ge)
 have HI := am hI
 obtain ⟨AT_,cT_,zaq,zai,zaj,zak,zal,zac,zad,zae,zaf⟩ := HI.out.cells_
 (try dsimp only at zai zaj zak zal)
 clear hB hI
 go_enter Tryd.func35,Tryd.ntmps35
 go_wp2_with (first | ((with_reducible refine gate_dst (N := 2) rfl ?_);refine box_event ?hg (N := 2) ?hd (cs := #[.pointer (some ⟨g,0,none⟩)]) (t := 70) ?hr ?_;(case hd => rfl);(case hg => rfl);(case hr => (go_simp;try rfl));intro b_p hg w1 zan hb;clear zaq zai zaj zak zal zac zad zae zaf;have zaL := am ((by rw [hg];exact Nat.ne_of_lt (LC.out.lt _ LC.out.me) : g ≠ b_p));have zag := am (zan);replace HI := am (St.made HI.out hb);replace LC := am (Loc.alloc LC.out hb hg (blk_lt zan));obtain ⟨AT_,cT_,zaq,zai,zaj,zak,zal,zac,zad,zae,zaf⟩ := HI.out.cells_;(try dsimp only at zai zaj zak zal);obtain ⟨zaa,zab⟩ := cells1 zag.out;clear hg hb zan) | ((with_reducible refine gate_dst (N := 4) rfl ?_);refine box_event ?hg (N := 4) ?hd (cs := #[.int .i64 0,.int .i64 0,.slice none 0 0]) (t := 25) ?hr ?_;(case hd => rfl);(case hg => rfl);(case hr => (go_simp;try rfl));intro b_r hg w2 zan hb;clear zaq zai zaj zak zal zac zad zae zaf zaa zab;have za9 := am ((by rw [hg];exact Nat.ne_of_lt (blk_lt zag.out) : b_p ≠ b_r));have zao := am ((by rw [hg];exact Nat.ne_of_lt (LC.out.lt _ LC.out.me) : g ≠ b_r));replace zag := am (blk_below zag.out hb);have zah := am (zan);replace HI := am (St.made HI.out hb);replace LC := am (Loc.alloc LC.out hb hg (blk_lt zan));obtain ⟨AT_,cT_,zaq,zai,zaj,zak,zal,zac,zad,zae,zaf⟩ := HI.out.cells_;(try dsimp only at zai zaj zak zal);obtain ⟨zaa,zab⟩ := cells1 zag.out;clear hg hb zan) | ((with_reducible refine gate_callee (f := 64) rfl ?_);refine goesL_ (some 39) rfl rfl Tryd.func64 (by kernel_rfl) rfl #[.pointer (some ⟨g,0,none⟩)] rfl (by (try simp only [List.map_toArray,List.map_cons,List.map_nil]);first | done | rfl) ?_;(with_reducible refine (hA.go HI.out LC.out.below HF.out).mono ?_);rintro e w3 ⟨A1,c1,rfl,hv,hi,hb,hk⟩;refine ⟨_,rfl,?_⟩;clear zaq zai zaj zak zal zac zad zae zaf zaa zab;have zbN := am (VV.of_call hv LC.out);replace zag := am (KeepBut.blk hk zag.out (fun e_ => zaL.out e_.symm) (by simp));replace zah := am (KeepBut.blk hk zah.out (fun e_ => zao.out e_.symm) (by simp));replace HI := am (hi);replace LC := am (Loc.call LC.out hk hb);obtain ⟨AT_,cT_,zaq,zai,zaj,zak,zal,zac,zad,zae,zaf⟩ := HI.out.cells_;obtain ⟨zaa,zab⟩ := cells1 zag.out;clear hb hk hi hv) | ((with_reducible refine gate_store (t := 25) (p := 4) rfl ?_);refine store3_event (b := b_r) (y0 := .int .i64 t.f0) (y1 := .int .i64 t.f1) (y2 := .slice A1 t.f2.length c1) ?hgd ?hN ?hr zah.out ?_;(case hgd => rfl);(case hN => rfl);(case hr => (obtain ⟨q0_,f0_,q1_,f1_,q2_,f2_⟩ := cells3 zah.out;go_simp;try rfl));intro w4 hx hk zax;clear zaq zai zaj zak zal zac zad zae zaf zaa zab;replace zbN := am (VV.store zbN.out hk (by simp));replace zag := am (blk_kept zag.out hk (by first | exact za9.out | exact (fun e_ => NE_r_p.out e_.symm)));replace zah := am (hx);replace HI := am (St.store HI.out hk zao.out);replace LC := am (Loc.store LC.out (b := b_r) (by simp) hk (zax _));obtain ⟨AT_,cT_,zaq,zai,zaj,zak,zal,zac,zad,zae,zaf⟩ := HI.out.cells_;obtain ⟨zaa,zab⟩ := cells1 zag.out;clear hx hk zax))
 refine bodyPost_ret (results_cell_row rfl _ _ b_r 25 (ncells t A1 c1) (0,0) _ rfl zah.out Tryd.underlying25 rfl (by kernel_rfl)) rfl ?_
 exact ⟨A1,c1,rfl,zbN.out.out,HI.out,LC.out.out.1,LC.out.out.2⟩
theorem tree_g {l : List Tk} {k : Nat} (hT : ∀ j,j ≤ k → TreeC l j) (hA : AtomC l k) (lv : Int) (i n d e0 : Int) (s' : PSt) (t : Nd) (g : Nat) (w0 w : World) (hI : St w0 w g l ⟨i,n,d,e0⟩) (hB : Below w0.heap.size w0 w) (c1 : e0 = 0) (hc : (lv = 3 ∧ isW l ⟨i,n,d,e0⟩ bNot = some false) ∨ (lv = 7 ∧ isW l ⟨i,n,d,e0⟩ bNeg = some false) ∨ (¬ lv = 3 ∧ ¬ lv = 7 ∧ ¬ lv = 8)) (ta : Nd) (sa : PSt) (hn : run l k (.tree (wrap64 (lv + 1))) ⟨i,n,d,e0⟩ = some (ta,sa)) (hl : run l k (.loop lv ta) sa = some (t,s')) :
  Calls Tryd.prog 35 #[.pointer (some ⟨g,0,none⟩),.int .i64 lv] w (NodePost w w0 g (fun w' => St w0 w' g l s') t) := by
 have zcz := Tryd.underlying25
 have zfF := Tryd.underlying63
 have c1b : (e0 != 0) = false := bne_eq_false_iff_eq.mpr c1
 clear c1
 have HF := am hn
 have HL := am hl
 have HC := am hc
 clear hn hl hc
 have LC := am (Loc.init hB hI.lt hI.ge)
 have HI := am hI
 obtain ⟨AT_,cT_,zaq,zai,zaj,zak,zal,zac,zad,zae,zaf⟩ := HI.out.cells_
 (try dsimp only at zai zaj zak zal)
 clear hB hI
 go_enter Tryd.func35,Tryd.ntmps35
 go_upto_block 0 with (first | ((with_reducible refine gate_dst (N := 2) rfl ?_);refine box_event ?hg (N := 2) ?hd (cs := #[.pointer (some ⟨g,0,none⟩)]) (t := 70) ?hr ?_;(case hd => rfl);(case hg => rfl);(case hr => (go_simp;try rfl));intro b_p hg w1 zan hb;clear zaq zai zaj zak zal zac zad zae zaf;have zaL := am ((by rw [hg];exact Nat.ne_of_lt (LC.out.lt _ LC.out.me) : g ≠ b_p));have zag := am (zan);replace HI := am (St.made HI.out hb);replace LC := am (Loc.alloc LC.out hb hg (blk_lt zan));obtain ⟨AT_,cT_,zaq,zai,zaj,zak,zal,zac,zad,zae,zaf⟩ := HI.out.cells_;(try dsimp only at zai zaj zak zal);obtain ⟨zaa,zab⟩ := cells1 zag.out;clear hg hb zan) | ((with_reducible refine gate_dst (N := 4) rfl ?_);refine box_event ?hg (N := 4) ?hd (cs := #[.int .i64 0,.int .i64 0,.slice none 0 0]) (t := 25) ?hr ?_;(case hd => rfl);(case hg => rfl);(case hr => (go_simp;try rfl));intro b_r hg w2 zan hb;clear zaq zai zaj zak zal zac zad zae zaf zaa zab;have za9 := am ((by rw [hg];exact Nat.ne_of_lt (blk_lt zag.out) : b_p ≠ b_r));have zao := am ((by rw [hg];exact Nat.ne_of_lt (LC.out.lt _ LC.out.me) : g ≠ b_r));replace zag := am (blk_below zag.out hb);have zah := am (zan);replace HI := am (St.made HI.out hb);replace LC := am (Loc.alloc LC.out hb hg (blk_lt zan));obtain ⟨AT_,cT_,zaq,zai,zaj,zak,zal,zac,zad,zae,zaf⟩ := HI.out.cells_;(try dsimp only at zai zaj zak zal);obtain ⟨zaa,zab⟩ := cells1 zag.out;clear hg hb zan))
 clear zaq zai zaj zak zal zac zad zae zaf zaa zab
 refine wp_act (a' := ?_) ?_ ?_
 rotate_left
 ·simp only [Act.put,List.setIfInBounds_toArray,List.set_cons_zero,List.set_cons_succ]
  rfl
 go_cut [] from 8 to 39 (fun w' => Aside0 (Loc w w0 g [b_r,b_p,g] w') ∧ Aside0 (St w0 w' g l ⟨i,n,d,e0⟩) ∧ Aside0 (w'.heap[b_p]? = some (.cells #[.pointer (some ⟨g,0,none⟩)] 70 (0,0))) ∧ Aside0 (w'.heap[b_r]? = some (.cells #[.int .i64 0,.int .i64 0,.slice none 0 0] 25 (0,0))))
 case first =>
  rcases HC.out with ⟨c2,hb⟩ | ⟨c2,hb⟩ | ⟨c2,c3,c4⟩
  ·skip
   have c2b : (lv == 3) = true := beq_iff_eq.mpr c2
   have c3b : (lv == 7) = false := beq_eq_false_iff_ne.mpr (by omega)
   have c4b : (lv == 8) = false := beq_eq_false_iff_ne.mpr (by omega)
   clear HF HL HC c2
   have HW := am hb
   clear hb
   obtain ⟨AT_,cT_,zaq,zai,zaj,zak,zal,zac,zad,zae,zaf⟩ := HI.out.cells_
   (try dsimp only at zai zaj zak zal)
   obtain ⟨zaa,zab⟩ := cells1 zag.out
   go_wp2_with (first | ((with_reducible refine gate_callee (f := 59) rfl ?_);(refine gate_guard (by rfl) ?_;dsimp only);refine goesL_ (some 20) rfl rfl Tryd.func59 (by kernel_rfl) rfl #[.pointer (some ⟨g,0,none⟩),.string bNot] rfl (by (try simp only [List.map_toArray,List.map_cons,List.map_nil]);first | done | rfl) ?_;(with_reducible refine (is_calls HW.out HI.out LC.out.below).mono ?_);rintro e w11 ⟨rfl,hi,hb,hk⟩;refine ⟨_,rfl,?_⟩;clear zaq zai zaj zak zal zac zad zae zaf zaa zab;replace zag := am (KeepBut.blk hk zag.out (fun e_ => zaL.out e_.symm) (by simp));replace zah := am (KeepBut.blk hk zah.out (fun e_ => zao.out e_.symm) (by simp));replace HI := am (hi);replace LC := am (Loc.call LC.out hk hb);obtain ⟨AT_,cT_,zaq,zai,zaj,zak,zal,zac,zad,zae,zaf⟩ := HI.out.cells_;(try dsimp only at zai zaj zak zal);obtain ⟨zaa,zab⟩ := cells1 zag.out;clear hb hk hi))
   go_meet
   case rel => exact ⟨LC,HI,zag,zah⟩
  ·skip
   have c2b : (lv == 3) = false := beq_eq_false_iff_ne.mpr (by omega)
   have c3b : (lv == 7) = true := beq_iff_eq.mpr c2
   have c4b : (lv == 8) = false := beq_eq_false_iff_ne.mpr (by omega)
   clear HF HL HC c2
   have HW := am hb
   clear hb
   obtain ⟨AT_,cT_,zaq,zai,zaj,zak,zal,zac,zad,zae,zaf⟩ := HI.out.cells_
   (try dsimp only at zai zaj zak zal)
   obtain ⟨zaa,zab⟩ := cells1 zag.out
   go_wp2_with (first | ((with_reducible refine gate_callee (f := 59) rfl ?_);(refine gate_guard (by rfl) ?_;dsimp only);refine goesL_ (some 30) rfl rfl Tryd.func59 (by kernel_rfl) rfl #[.pointer (some ⟨g,0,none⟩),.string bNeg] rfl (by (try simp only [List.map_toArray,List.map_cons,List.map_nil]);first | done | rfl) ?_;(with_reducible refine (is_calls HW.out HI.out LC.out.below).mono ?_);rintro e w11 ⟨rfl,hi,hb,hk⟩;refine ⟨_,rfl,?_⟩;clear zaq zai zaj zak zal zac zad zae zaf zaa zab;replace zag := am (KeepBut.blk hk zag.out (fun e_ => zaL.out e_.symm) (by simp));replace zah := am (KeepBut.blk hk zah.out (fun e_ => zao.out e_.symm) (by simp));replace HI := am (hi);replace LC := am (Loc.call LC.out hk hb);obtain ⟨AT_,cT_,zaq,zai,zaj,zak,zal,zac,zad,zae,zaf⟩ := HI.out.cells_;(try dsimp only at zai zaj zak zal);obtain ⟨zaa,zab⟩ := cells1 zag.out;clear hb hk hi))
   go_meet
   case rel => exact ⟨LC,HI,zag,zah⟩
  ·skip
   have c2b : (lv == 3) = false := beq_eq_false_iff_ne.mpr c2
   have c3b : (lv == 7) = false := beq_eq_false_iff_ne.mpr c3
   have c4b : (lv == 8) = false := beq_eq_false_iff_ne.mpr c4
   clear HF HL HC c2 c3 c4
   obtain ⟨AT_,cT_,zaq,zai,zaj,zak,zal,zac,zad,zae,zaf⟩ := HI.out.cells_
   (try dsimp only at zai zaj zak zal)
   obtain ⟨zaa,zab⟩ := cells1 zag.out
   go_wp2_with (fail)
   go_meet
   case rel => exact ⟨LC,HI,zag,zah⟩
 case rest =>
  clear LC HI zag zah HC
  obtain ⟨LC,HI,zag,zah⟩ := hcut
  obtain ⟨AT_,cT_,zaq,zai,zaj,zak,zal,zac,zad,zae,zaf⟩ := HI.out.cells_
  (try dsimp only at zai zaj zak zal)
  obtain ⟨zaa,zab⟩ := cells1 zag.out
  go_wp2_with (first | ((with_reducible refine gate_callee (f := 35) rfl ?_);refine goesL_ (some 43) rfl rfl Tryd.func35 (by kernel_rfl) rfl #[.pointer (some ⟨g,0,none⟩),.int .i64 (wrap64 (lv + 1))] rfl (by (try simp only [List.map_toArray,List.map_cons,List.map_nil]);first | done | rfl) ?_;(with_reducible refine ((hT k (Nat.le_refl k)).go HI.out LC.out.below HF.out).mono ?_);rintro e w11 ⟨A1,c1,rfl,hv,hi,hb,hk⟩;refine ⟨_,rfl,?_⟩;clear zaq zai zaj zak zal zac zad zae zaf zaa zab;have zgw := am (VV.of_call hv LC.out);replace zag := am (KeepBut.blk hk zag.out (fun e_ => zaL.out e_.symm) (by simp));replace zah := am (KeepBut.blk hk zah.out (fun e_ => zao.out e_.symm) (by simp));replace HI := am (hi);replace LC := am (Loc.call LC.out hk hb);obtain ⟨AT_,cT_,zaq,zai,zaj,zak,zal,zac,zad,zae,zaf⟩ := HI.out.cells_;obtain ⟨zaa,zab⟩ := cells1 zag.out;clear hb hk hi hv) | ((with_reducible refine gate_dst (N := 5) rfl ?_);refine box_event ?hg (N := 5) ?hd (cs := #[.int .i64 0,.int .i64 0,.slice none 0 0]) (t := 25) ?hr ?_;(case hd => rfl);(case hg => rfl);(case hr => (go_simp;try rfl));intro b_a hg w12 zan hb;clear zaq zai zaj zak zal zac zad zae zaf zaa zab;have zdj := am ((by rw [hg];exact Nat.ne_of_lt (blk_lt zag.out) : b_p ≠ b_a));have zce := am ((by rw [hg];exact Nat.ne_of_lt (blk_lt zah.out) : b_r ≠ b_a));have zbC := am ((by rw [hg];exact Nat.ne_of_lt (LC.out.lt _ LC.out.me) : g ≠ b_a));replace zgw := am (VV.alloc zgw.out hb hg);replace zag := am (blk_below zag.out hb);replace zah := am (blk_below zah.out hb);have zaZ := am (zan);replace HI := am (St.made HI.out hb);replace LC := am (Loc.alloc LC.out hb hg (blk_lt zan));obtain ⟨AT_,cT_,zaq,zai,zaj,zak,zal,zac,zad,zae,zaf⟩ := HI.out.cells_;obtain ⟨zaa,zab⟩ := cells1 zag.out;clear hg hb zan) | ((with_reducible refine gate_store (t := 25) (p := 5) rfl ?_);refine store3_event (b := b_a) (y0 := .int .i64 ta.f0) (y1 := .int .i64 ta.f1) (y2 := .slice A1 ta.f2.length c1) ?hgd ?hN ?hr zaZ.out ?_;(case hgd => rfl);(case hN => rfl);(case hr => (obtain ⟨q0_,f0_,q1_,f1_,q2_,f2_⟩ := cells3 zaZ.out;go_simp;try rfl));intro w13 hx hk zax;clear zaq zai zaj zak zal zac zad zae zaf zaa zab;replace zgw := am (VV.store zgw.out hk (by simp));replace zag := am (blk_kept zag.out hk (by first | exact zdj.out | exact (fun e_ => NE_a_p.out e_.symm)));replace zah := am (blk_kept zah.out hk (by first | exact zce.out | exact (fun e_ => NE_a_r.out e_.symm)));replace zaZ := am (hx);replace HI := am (St.store HI.out hk zbC.out);replace LC := am (Loc.store LC.out (b := b_a) (by simp) hk (zax _));obtain ⟨AT_,cT_,zaq,zai,zaj,zak,zal,zac,zad,zae,zaf⟩ := HI.out.cells_;obtain ⟨zaa,zab⟩ := cells1 zag.out;clear hx hk zax))
  clear zaq zai zaj zak zal zac zad zae zaf zaa zab
  refine wp_act (a' := ?_) ?_ ?_
  rotate_left
  ·simp only [Act.put,List.setIfInBounds_toArray,List.set_cons_zero,List.set_cons_succ]
   rfl
  go_loopg [] k (fun kq w' => ∃ (a : Nd) (Aa : Option Addr) (ca : Nat) (sc : PSt),Aside0 (run l kq (.loop lv a) sc = some (t,s')) ∧ Aside0 (kq ≤ k) ∧ Aside0 (Loc w w0 g [b_a,b_r,b_p,g] w') ∧ Aside0 (St w0 w' g l sc) ∧ Aside0 (w'.heap[b_p]? = some (.cells #[.pointer (some ⟨g,0,none⟩)] 70 (0,0))) ∧ Aside0 (w'.heap[b_r]? = some (.cells #[.int .i64 0,.int .i64 0,.slice none 0 0] 25 (0,0))) ∧ Aside0 (w'.heap[b_a]? = some (.cells #[.int .i64 a.f0,.int .i64 a.f1,.slice Aa a.f2.length ca] 25 (0,0))) ∧ Aside0 (VV w [b_a,b_r,b_p,g] w' (.slice Aa a.f2.length ca) a.f2))
  case atStart => exact ⟨ta,A1,c1,sa,HL,⟨Nat.le_refl _⟩,LC,HI,zag,zah,zaZ,zgw⟩
  case round =>
   clear LC HI zag zah zaZ zgw HF HL
   obtain ⟨a,Aa,ca,⟨i,n,d,e0⟩,HR,HK,LC,HI,zag,zah,zaZ,zbP⟩ := hrel
   clear c1b
   cases gk with
   | zero => exact absurd HR.out (by simp [run])
   | succ k1 =>
    have h := HR.out
    clear HR
    unfold run at h
    dsimp only [stepW] at h
    by_cases c5 : e0 = 0
    ·skip
     have c5b : (e0 == 0) = true := beq_iff_eq.mpr c5
     rw [if_pos c5] at h
     clear c5
     by_cases c6 : i < (l.length : Int)
     ·skip
      have c6b : decide (i < (l.length : Int)) = true := decide_eq_true c6
      rw [if_pos c6] at h
      by_cases p1 : 0 ≤ i
      ·skip
       rw [if_pos p1] at h
       have pI := am p1
       have qI := am c6
       replace p1 := eq_true p1
       replace c6 := eq_true c6
       by_cases c7 : (rd_T63 l i).f0 = 1
       ·skip
        have c7b : ((rd_T63 l i).f0 != 1) = false := bne_eq_false_iff_eq.mpr c7
        rw [if_pos c7] at h
        clear c7
        simp only [Option.some.injEq,Prod.mk.injEq] at h
        obtain ⟨rfl,rfl⟩ := h
        obtain ⟨AT_,cT_,HG_,HT_⟩ := HI.out.open_
        obtain ⟨ad_,e_,za2,za3,za4,za5⟩ := at_T63 HT_ (i) pI.out qI.out
        cases e_
        clear HT_
        obtain ⟨zaq,zai,zaj,zak,zal,zac,zad,zae,zaf⟩ := stcells HG_
        clear HG_
        replace za2 := pcb LC.out.below za2
        replace za3 := pcb LC.out.below za3
        replace za4 := pcb LC.out.below za4
        replace za5 := pcb LC.out.below za5
        (try dsimp only at zai zaj zak zal)
        obtain ⟨zaa,zab⟩ := cells1 zag.out
        try go_wp2_with (fail)
        go_quiet (fail)
        clear za2 za3 za4 za5 zaq zai zaj zak zal zac zad zae zaf zaa zab
        replace zbP := am (Kd.V_drewN zbP.out nq)
        replace zag := am (blk_drewN zag.out nq)
        replace zah := am (blk_drewN zah.out nq)
        replace zaZ := am (blk_drewN zaZ.out nq)
        replace HI := am ((show St w0 (wr.drewN nq) g l _ from HI.out))
        replace LC := am (Loc.drewN LC.out nq)
        generalize wr.drewN nq = w21 at LC HI zag zah zaZ zbP ⊢
        obtain ⟨AT_,cT_,zaq,zai,zaj,zak,zal,zac,zad,zae,zaf⟩ := HI.out.cells_
        (try dsimp only at zai zaj zak zal)
        obtain ⟨zaa,zab⟩ := cells1 zag.out
        obtain ⟨zbt,zbu,zbv,zbw,zbx,zby⟩ := cells3 zaZ.out
        go_wp2_with (first | ((with_reducible refine gate_store (t := 25) (p := 4) rfl ?_);refine store3_event (b := b_r) (y0 := .int .i64 a.f0) (y1 := .int .i64 a.f1) (y2 := .slice Aa a.f2.length ca) ?hgd ?hN ?hr zah.out ?_;(case hgd => rfl);(case hN => rfl);(case hr => (obtain ⟨q0_,f0_,q1_,f1_,q2_,f2_⟩ := cells3 zah.out;go_simp;try rfl));intro w22 hx hk zax;clear zaq zai zaj zak zal zac zad zae zaf zaa zab zbt zbu zbv zbw zbx zby;replace zbP := am (VV.store zbP.out hk (by simp));replace zag := am (blk_kept zag.out hk (by first | exact za9.out | exact (fun e_ => NE_r_p.out e_.symm)));replace zah := am (hx);replace zaZ := am (blk_kept zaZ.out hk (by first | exact NE_a_r.out | exact (fun e_ => zce.out e_.symm)));replace HI := am (St.store HI.out hk zao.out);replace LC := am (Loc.store LC.out (b := b_r) (by simp) hk (zax _));obtain ⟨AT_,cT_,zaq,zai,zaj,zak,zal,zac,zad,zae,zaf⟩ := HI.out.cells_;(try dsimp only at zai zaj zak zal);obtain ⟨zaa,zab⟩ := cells1 zag.out;obtain ⟨zbt,zbu,zbv,zbw,zbx,zby⟩ := cells3 zaZ.out;clear hx hk zax))
        refine bodyPost_ret (results_cell_row rfl _ _ b_r 25 (ncells a Aa ca) (0,0) _ rfl zah.out Tryd.underlying25 rfl (by kernel_rfl)) rfl ?_
        exact ⟨Aa,ca,rfl,zbP.out.out,HI.out,LC.out.out.1,LC.out.out.2⟩
       ·skip
        have c7b : ((rd_T63 l i).f0 != 1) = true := bne_iff_ne.mpr c7
        rw [if_neg c7] at h
        clear c7
        by_cases c8 : bop (rd_T63 l i).f2 lv = 0
        ·skip
         have c8b : (bop (rd_T63 l i).f2 lv == 0) = true := beq_iff_eq.mpr c8
         rw [if_pos c8] at h
         clear c8
         simp only [Option.some.injEq,Prod.mk.injEq] at h
         obtain ⟨rfl,rfl⟩ := h
         obtain ⟨AT_,cT_,HG_,HT_⟩ := HI.out.open_
         obtain ⟨ad_,e_,za2,za3,za4,za5⟩ := at_T63 HT_ (i) pI.out qI.out
         cases e_
         clear HT_
         obtain ⟨zaq,zai,zaj,zak,zal,zac,zad,zae,zaf⟩ := stcells HG_
         clear HG_
         replace za2 := pcb LC.out.below za2
         replace za3 := pcb LC.out.below za3
         replace za4 := pcb LC.out.below za4
         replace za5 := pcb LC.out.below za5
         (try dsimp only at zai zaj zak zal)
         obtain ⟨zaa,zab⟩ := cells1 zag.out
         try go_wp2_with (fail)
         go_quiet (fail)
         clear za2 za3 za4 za5 zaq zai zaj zak zal zac zad zae zaf zaa zab
         replace zbP := am (Kd.V_drewN zbP.out nq)
         replace zag := am (blk_drewN zag.out nq)
         replace zah := am (blk_drewN zah.out nq)
         replace zaZ := am (blk_drewN zaZ.out nq)
         replace HI := am ((show St w0 (wr.drewN nq) g l _ from HI.out))
         replace LC := am (Loc.drewN LC.out nq)
         generalize wr.drewN nq = w21 at LC HI zag zah zaZ zbP ⊢
         obtain ⟨AT_,cT_,zaq,zai,zaj,zak,zal,zac,zad,zae,zaf⟩ := HI.out.cells_
         (try dsimp only at zai zaj zak zal)
         obtain ⟨zaa,zab⟩ := cells1 zag.out
         try go_wp2_with (fail)
         clear zaq zai zaj zak zal zac zad zae zaf zaa zab
         replace zbP := am (VV.drew zbP.out)
         replace zag := am (blk_drew zag.out)
         replace zah := am (blk_drew zah.out)
         replace zaZ := am (blk_drew zaZ.out)
         replace HI := am ((show St w0 w21.drew g l _ from HI.out))
         replace LC := am (Loc.drew LC.out)
         obtain ⟨AT_,cT_,HG_,HT_⟩ := HI.out.open_
         obtain ⟨ad_,e_,za2,za3,za4,za5⟩ := at_T63 HT_ (i) pI.out qI.out
         cases e_
         have zbn := am za2
         have zbo := am za3
         have zbp := am za4
         have zbq := am za5
         clear za2 za3 za4 za5
         have zba := am HG_
         clear HG_ HT_
         have zcQ := zaL
         have zcu := zao
         have NE_G_a := zbC
         have za2 := pcb LC.out.below zbn.out
         have za3 := pcb LC.out.below zbo.out
         have za4 := pcb LC.out.below zbp.out
         have za5 := pcb LC.out.below zbq.out
         obtain ⟨zaa,zab⟩ := cells1 zag.out
         obtain ⟨zas,zaM,zat,zaN,zau,zaO,zav,zaP,zaw,zaQ⟩ := cells5 zba.out
         refine start_ (n := 14) (S := fun w' => w'.cell? ⟨b_p,0,none⟩ = some (.pointer (some ⟨g,0,none⟩)) ∧ w'.cell? ⟨g,0,none⟩ = some (.slice (some ad_) l.length cT_) ∧ w'.cell? ⟨g,1,none⟩ = some (.int .i64 (i)) ∧ w'.cell? ⟨g,2,none⟩ = some (.int .i64 (n)) ∧ w'.cell? ⟨g,3,none⟩ = some (.int .i64 (d)) ∧ w'.cell? ⟨g,4,none⟩ = some (.int .i64 (e0)) ∧ w'.cell? (ad_.add ((i).toNat * 4)) = some (.int .i64 (rd_T63 l (i)).f0) ∧ w'.cell? ⟨(ad_.add ((i).toNat * 4)).block,(ad_.add ((i).toNat * 4)).off + 1,none⟩ = some (.int .i64 (rd_T63 l (i)).f1) ∧ w'.cell? ⟨(ad_.add ((i).toNat * 4)).block,(ad_.add ((i).toNat * 4)).off + 2,none⟩ = some (.string (rd_T63 l (i)).f2) ∧ w'.cell? ⟨(ad_.add ((i).toNat * 4)).block,(ad_.add ((i).toNat * 4)).off + 3,none⟩ = some (.int .i64 (rd_T63 l (i)).f3)) (ds := []) #[false,false,false,false,false,false,false,false,false,false,false,false,false,false] (by kernel_rfl) rfl rfl ⟨zaa,zas,zat,zau,zav,zaw,za2,za3,za4,za5⟩ (fun hHeld => ?_)
         generalize w21.drew = w22 at LC HI zag zah zaZ zba zbP zaa zas zat zau zav zaw za2 za3 za4 za5 zab zaM zaN zaO zaP zaQ hHeld ⊢
         refine pure_ (i := 11) (N := some 86) (v := ?_) (a' := ?_) #[false,false,false,false,false,false,false,false,false,false,false,true,false,false] rfl rfl (by kernel_rfl) (fun _ _ _ h => h) (Or.inl ⟨by rfl,?_⟩) ?_ ?_
         rotate_left
         ·intro w'
          go_simp
          with_reducible rfl
         rotate_left
         ·simp only [Act.put,List.setIfInBounds_toArray,List.set_cons_zero,List.set_cons_succ,i64_w,i32_w]
          rfl
         refine take_ (i := 0) (N := some 75) (v := ?_) (a' := ?_) #[true,false,false,false,false,false,false,false,false,false,false,true,false,false] rfl rfl (by kernel_rfl) (fun _ _ _ h => h) (Or.inl ⟨by rfl,?_⟩) hHeld ?_ ?_
         rotate_left
         ·rintro w' ⟨s0,s1,s2,s3,s4,s5,s6,s7,s8,s9⟩
          go_simp
          with_reducible rfl
         rotate_left
         ·simp only [Act.put,List.setIfInBounds_toArray,List.set_cons_zero,List.set_cons_succ,i64_w,i32_w]
          rfl
         refine pure_ (i := 1) (N := some 76) (v := ?_) (a' := ?_) #[true,true,false,false,false,false,false,false,false,false,false,true,false,false] rfl rfl (by kernel_rfl) (fun _ _ _ h => h) (Or.inl ⟨by rfl,?_⟩) ?_ ?_
         rotate_left
         ·intro w'
          go_simp
          with_reducible rfl
         rotate_left
         ·simp only [Act.put,List.setIfInBounds_toArray,List.set_cons_zero,List.set_cons_succ,i64_w,i32_w]
          rfl
         refine pure_ (i := 2) (N := some 77) (v := ?_) (a' := ?_) #[true,true,true,false,false,false,false,false,false,false,false,true,false,false] rfl rfl (by kernel_rfl) (fun _ _ _ h => h) (Or.inl ⟨by rfl,?_⟩) ?_ ?_
         rotate_left
         ·intro w'
          go_simp
          with_reducible rfl
         rotate_left
         ·simp only [Act.put,List.setIfInBounds_toArray,List.set_cons_zero,List.set_cons_succ,i64_w,i32_w]
          rfl
         refine take_ (i := 3) (N := some 78) (v := ?_) (a' := ?_) #[true,true,true,true,false,false,false,false,false,false,false,true,false,false] rfl rfl (by kernel_rfl) (fun _ _ _ h => h) (Or.inl ⟨by rfl,?_⟩) hHeld ?_ ?_
         rotate_left
         ·rintro w' ⟨s0,s1,s2,s3,s4,s5,s6,s7,s8,s9⟩
          go_simp
          with_reducible rfl
         rotate_left
         ·simp only [Act.put,List.setIfInBounds_toArray,List.set_cons_zero,List.set_cons_succ,i64_w,i32_w]
          rfl
         refine take_ (i := 4) (N := some 79) (v := ?_) (a' := ?_) #[true,true,true,true,true,false,false,false,false,false,false,true,false,false] rfl rfl (by kernel_rfl) (fun _ _ _ h => h) (Or.inl ⟨by rfl,?_⟩) hHeld ?_ ?_
         rotate_left
         ·rintro w' ⟨s0,s1,s2,s3,s4,s5,s6,s7,s8,s9⟩
          go_simp
          with_reducible rfl
         rotate_left
         ·simp only [Act.put,List.setIfInBounds_toArray,List.set_cons_zero,List.set_cons_succ,i64_w,i32_w]
          rfl
         refine pure_ (i := 5) (N := some 80) (v := ?_) (a' := ?_) #[true,true,true,true,true,true,false,false,false,false,false,true,false,false] rfl rfl (by kernel_rfl) (fun _ _ _ h => h) (Or.inl ⟨by rfl,?_⟩) ?_ ?_
         rotate_left
         ·intro w'
          go_simp
          with_reducible rfl
         rotate_left
         ·simp only [Act.put,List.setIfInBounds_toArray,List.set_cons_zero,List.set_cons_succ,i64_w,i32_w]
          rfl
         refine pure_ (i := 6) (N := some 81) (v := ?_) (a' := ?_) #[true,true,true,true,true,true,true,false,false,false,false,true,false,false] rfl rfl (by kernel_rfl) (fun _ _ _ h => h) (Or.inl ⟨by rfl,?_⟩) ?_ ?_
         rotate_left
         ·intro w'
          go_simp
          with_reducible rfl
         rotate_left
         ·simp only [Act.put,List.setIfInBounds_toArray,List.set_cons_zero,List.set_cons_succ,i64_w,i32_w]
          rfl
         refine take_ (i := 7) (N := some 82) (v := ?_) (a' := ?_) #[true,true,true,true,true,true,true,true,false,false,false,true,false,false] rfl rfl (by kernel_rfl) (fun _ _ _ h => h) (Or.inl ⟨by rfl,?_⟩) hHeld ?_ ?_
         rotate_left
         ·rintro w' ⟨s0,s1,s2,s3,s4,s5,s6,s7,s8,s9⟩
          go_simp
          with_reducible rfl
         rotate_left
         ·simp only [Act.put,List.setIfInBounds_toArray,List.set_cons_zero,List.set_cons_succ,i64_w,i32_w]
          rfl
         refine pure_ (i := 8) (N := some 83) (v := ?_) (a' := ?_) #[true,true,true,true,true,true,true,true,true,false,false,true,false,false] rfl rfl (by kernel_rfl) (fun _ _ _ h => h) (Or.inl ⟨by rfl,?_⟩) ?_ ?_
         rotate_left
         ·intro w'
          go_simp
          with_reducible rfl
         rotate_left
         ·simp only [Act.put,List.setIfInBounds_toArray,List.set_cons_zero,List.set_cons_succ,i64_w,i32_w]
          rfl
         refine pure_ (i := 9) (N := some 84) (v := ?_) (a' := ?_) #[true,true,true,true,true,true,true,true,true,true,false,true,false,false] rfl rfl (by kernel_rfl) (fun _ _ _ h => h) (Or.inl ⟨by rfl,?_⟩) ?_ ?_
         rotate_left
         ·intro w'
          go_simp
          with_reducible rfl
         rotate_left
         ·simp only [Act.put,List.setIfInBounds_toArray,List.set_cons_zero,List.set_cons_succ,i64_w,i32_w]
          rfl
         refine take_ (i := 10) (N := some 85) (v := ?_) (a' := ?_) #[true,true,true,true,true,true,true,true,true,true,true,true,false,false] rfl rfl (by kernel_rfl) (fun _ _ _ h => h) (Or.inl ⟨by rfl,?_⟩) hHeld ?_ ?_
         rotate_left
         ·rintro w' ⟨s0,s1,s2,s3,s4,s5,s6,s7,s8,s9⟩
          go_simp
          with_reducible rfl
         rotate_left
         ·simp only [Act.put,List.setIfInBounds_toArray,List.set_cons_zero,List.set_cons_succ,i64_w,i32_w]
          rfl
         refine one_ (i := 12) (N := some 87) #[true,true,true,true,true,true,true,true,true,true,true,true,true,false] rfl rfl (by kernel_rfl) (by decide) (fun K hK => ?_)
         refine goes_ Tryd.func65 (by kernel_rfl) rfl #[.string (rd_T63 l i).f2,.int .i64 lv] (by rfl) rfl rfl (by simp only [List.map_toArray,List.map_cons,List.map_nil];rfl) ?_
         with_reducible refine (binary_calls (rd_T63 l i).f2 lv _).mono ?_
         rintro e w23 ⟨rfl,hb⟩
         refine ⟨_,rfl,?_⟩
         clear za2 za3 za4 za5 zaa zab zas zaM zat zaN zau zaO zav zaP zaw zaQ
         replace zbP := am (VV.made zbP.out hb)
         replace zag := am (blk_below zag.out hb)
         replace zah := am (blk_below zah.out hb)
         replace zaZ := am (blk_below zaZ.out hb)
         replace zba := am (blk_below zba.out hb)
         replace HI := am (St.made HI.out hb)
         replace LC := am (Loc.made LC.out hb)
         have za2 := pcb LC.out.below zbn.out
         have za3 := pcb LC.out.below zbo.out
         have za4 := pcb LC.out.below zbp.out
         have za5 := pcb LC.out.below zbq.out
         obtain ⟨zaa,zab⟩ := cells1 zag.out
         obtain ⟨zas,zaM,zat,zaN,zau,zaO,zav,zaP,zaw,zaQ⟩ := cells5 zba.out
         clear hb
         refine hK.out _ _ ⟨zaa,zas,zat,zau,zav,zaw,za2,za3,za4,za5⟩ (fun hHeld => ?_)
         clear hK K
         refine norm_ (a' := ?_) ?_ ?_
         rotate_left
         ·show Act.put _ (some 87) _ = _
          simp only [Act.put,List.setIfInBounds_toArray,List.set_cons_zero,List.set_cons_succ,i64_w,i32_w]
          rfl
         refine pure_ (i := 13) (N := some 6) (v := ?_) (a' := ?_) #[true,true,true,true,true,true,true,true,true,true,true,true,true,true] rfl rfl (by kernel_rfl) (fun _ _ _ h => h) (Or.inl ⟨by rfl,?_⟩) ?_ ?_
         rotate_left
         ·intro w'
          go_simp
          with_reducible rfl
         rotate_left
         ·simp only [Act.put,List.setIfInBounds_toArray,List.set_cons_zero,List.set_cons_succ,i64_w,i32_w]
          rfl
         refine done_ (by kernel_rfl) ?_
         clear za2 za3 za4 za5 zaa zab zas zaM zat zaN zau zaO zav zaP zaw zaQ
         clear zba
         clear zbn zbo zbp zbq
         obtain ⟨AT_,cT_,zaq,zai,zaj,zak,zal,zac,zad,zae,zaf⟩ := HI.out.cells_
         (try dsimp only at zai zaj zak zal)
         obtain ⟨zaa,zab⟩ := cells1 zag.out
         obtain ⟨zbt,zbu,zbv,zbw,zbx,zby⟩ := cells3 zaZ.out
         go_wp2_with (first | ((with_reducible refine gate_store (t := 25) (p := 4) rfl ?_);refine store3_event (b := b_r) (y0 := .int .i64 a.f0) (y1 := .int .i64 a.f1) (y2 := .slice Aa a.f2.length ca) ?hgd ?hN ?hr zah.out ?_;(case hgd => rfl);(case hN => rfl);(case hr => (obtain ⟨q0_,f0_,q1_,f1_,q2_,f2_⟩ := cells3 zah.out;go_simp;try rfl));intro w24 hx hk zax;clear zaq zai zaj zak zal zac zad zae zaf zaa zab zbt zbu zbv zbw zbx zby;replace zbP := am (VV.store zbP.out hk (by simp));replace zag := am (blk_kept zag.out hk (by first | exact za9.out | exact (fun e_ => NE_r_p.out e_.symm)));replace zah := am (hx);replace zaZ := am (blk_kept zaZ.out hk (by first | exact NE_a_r.out | exact (fun e_ => zce.out e_.symm)));replace HI := am (St.store HI.out hk zao.out);replace LC := am (Loc.store LC.out (b := b_r) (by simp) hk (zax _));obtain ⟨AT_,cT_,zaq,zai,zaj,zak,zal,zac,zad,zae,zaf⟩ := HI.out.cells_;(try dsimp only at zai zaj zak zal);obtain ⟨zaa,zab⟩ := cells1 zag.out;obtain ⟨zbt,zbu,zbv,zbw,zbx,zby⟩ := cells3 zaZ.out;clear hx hk zax))
         refine bodyPost_ret (results_cell_row rfl _ _ b_r 25 (ncells a Aa ca) (0,0) _ rfl zah.out Tryd.underlying25 rfl (by kernel_rfl)) rfl ?_
         exact ⟨Aa,ca,rfl,zbP.out.out,HI.out,LC.out.out.1,LC.out.out.2⟩
        ·skip
         have c8b : (bop (rd_T63 l i).f2 lv == 0) = false := beq_eq_false_iff_ne.mpr c8
         rw [if_neg c8] at h
         clear c8
         obtain ⟨⟨tb,sb⟩,h1,h⟩ := Option.bind_eq_some_iff.mp h
         have H1 := am h1
         clear h1
         obtain ⟨⟨tn,sn⟩,hn⟩ : ∃ q,q = nodeW sb (bop (rd_T63 l i).f2 lv) 0 [a,tb] := ⟨_,rfl⟩
         rw [← hn] at h
         have HN := am hn.symm
         clear hn
         by_cases c9 : lv = 4
         ·skip
          have c9b : (lv == 4) = true := beq_iff_eq.mpr c9
          rw [if_pos c9] at h
          clear c9
          simp only [Option.some.injEq,Prod.mk.injEq] at h
          obtain ⟨rfl,rfl⟩ := h
          obtain ⟨AT_,cT_,HG_,HT_⟩ := HI.out.open_
          obtain ⟨ad_,e_,za2,za3,za4,za5⟩ := at_T63 HT_ (i) pI.out qI.out
          cases e_
          clear HT_
          obtain ⟨zaq,zai,zaj,zak,zal,zac,zad,zae,zaf⟩ := stcells HG_
          clear HG_
          replace za2 := pcb LC.out.below za2
          replace za3 := pcb LC.out.below za3
          replace za4 := pcb LC.out.below za4
          replace za5 := pcb LC.out.below za5
          (try dsimp only at zai zaj zak zal)
          obtain ⟨zaa,zab⟩ := cells1 zag.out
          try go_wp2_with (fail)
          go_quiet (fail)
          clear za2 za3 za4 za5 zaq zai zaj zak zal zac zad zae zaf zaa zab
          replace zbP := am (Kd.V_drewN zbP.out nq)
          replace zag := am (blk_drewN zag.out nq)
          replace zah := am (blk_drewN zah.out nq)
          replace zaZ := am (blk_drewN zaZ.out nq)
          replace HI := am ((show St w0 (wr.drewN nq) g l _ from HI.out))
          replace LC := am (Loc.drewN LC.out nq)
          generalize wr.drewN nq = w21 at LC HI zag zah zaZ zbP ⊢
          obtain ⟨AT_,cT_,zaq,zai,zaj,zak,zal,zac,zad,zae,zaf⟩ := HI.out.cells_
          (try dsimp only at zai zaj zak zal)
          obtain ⟨zaa,zab⟩ := cells1 zag.out
          try go_wp2_with (fail)
          clear zaq zai zaj zak zal zac zad zae zaf zaa zab
          replace zbP := am (VV.drew zbP.out)
          replace zag := am (blk_drew zag.out)
          replace zah := am (blk_drew zah.out)
          replace zaZ := am (blk_drew zaZ.out)
          replace HI := am ((show St w0 w21.drew g l _ from HI.out))
          replace LC := am (Loc.drew LC.out)
          obtain ⟨AT_,cT_,HG_,HT_⟩ := HI.out.open_
          obtain ⟨ad_,e_,za2,za3,za4,za5⟩ := at_T63 HT_ (i) pI.out qI.out
          cases e_
          have zbn := am za2
          have zbo := am za3
          have zbp := am za4
          have zbq := am za5
          clear za2 za3 za4 za5
          have zba := am HG_
          clear HG_ HT_
          have zcQ := zaL
          have zcu := zao
          have NE_G_a := zbC
          have za2 := pcb LC.out.below zbn.out
          have za3 := pcb LC.out.below zbo.out
          have za4 := pcb LC.out.below zbp.out
          have za5 := pcb LC.out.below zbq.out
          obtain ⟨zaa,zab⟩ := cells1 zag.out
          obtain ⟨zas,zaM,zat,zaN,zau,zaO,zav,zaP,zaw,zaQ⟩ := cells5 zba.out
          refine start_ (n := 14) (S := fun w' => w'.cell? ⟨b_p,0,none⟩ = some (.pointer (some ⟨g,0,none⟩)) ∧ w'.cell? ⟨g,0,none⟩ = some (.slice (some ad_) l.length cT_) ∧ w'.cell? ⟨g,1,none⟩ = some (.int .i64 (i)) ∧ w'.cell? ⟨g,2,none⟩ = some (.int .i64 (n)) ∧ w'.cell? ⟨g,3,none⟩ = some (.int .i64 (d)) ∧ w'.cell? ⟨g,4,none⟩ = some (.int .i64 (e0)) ∧ w'.cell? (ad_.add ((i).toNat * 4)) = some (.int .i64 (rd_T63 l (i)).f0) ∧ w'.cell? ⟨(ad_.add ((i).toNat * 4)).block,(ad_.add ((i).toNat * 4)).off + 1,none⟩ = some (.int .i64 (rd_T63 l (i)).f1) ∧ w'.cell? ⟨(ad_.add ((i).toNat * 4)).block,(ad_.add ((i).toNat * 4)).off + 2,none⟩ = some (.string (rd_T63 l (i)).f2) ∧ w'.cell? ⟨(ad_.add ((i).toNat * 4)).block,(ad_.add ((i).toNat * 4)).off + 3,none⟩ = some (.int .i64 (rd_T63 l (i)).f3)) (ds := []) #[false,false,false,false,false,false,false,false,false,false,false,false,false,false] (by kernel_rfl) rfl rfl ⟨zaa,zas,zat,zau,zav,zaw,za2,za3,za4,za5⟩ (fun hHeld => ?_)
          generalize w21.drew = w22 at LC HI zag zah zaZ zba zbP zaa zas zat zau zav zaw za2 za3 za4 za5 zab zaM zaN zaO zaP zaQ hHeld ⊢
          refine pure_ (i := 11) (N := some 86) (v := ?_) (a' := ?_) #[false,false,false,false,false,false,false,false,false,false,false,true,false,false] rfl rfl (by kernel_rfl) (fun _ _ _ h => h) (Or.inl ⟨by rfl,?_⟩) ?_ ?_
          rotate_left
          ·intro w'
           go_simp
           with_reducible rfl
          rotate_left
          ·simp only [Act.put,List.setIfInBounds_toArray,List.set_cons_zero,List.set_cons_succ,i64_w,i32_w]
           rfl
          refine take_ (i := 0) (N := some 75) (v := ?_) (a' := ?_) #[true,false,false,false,false,false,false,false,false,false,false,true,false,false] rfl rfl (by kernel_rfl) (fun _ _ _ h => h) (Or.inl ⟨by rfl,?_⟩) hHeld ?_ ?_
          rotate_left
          ·rintro w' ⟨s0,s1,s2,s3,s4,s5,s6,s7,s8,s9⟩
           go_simp
           with_reducible rfl
          rotate_left
          ·simp only [Act.put,List.setIfInBounds_toArray,List.set_cons_zero,List.set_cons_succ,i64_w,i32_w]
           rfl
          refine pure_ (i := 1) (N := some 76) (v := ?_) (a' := ?_) #[true,true,false,false,false,false,false,false,false,false,false,true,false,false] rfl rfl (by kernel_rfl) (fun _ _ _ h => h) (Or.inl ⟨by rfl,?_⟩) ?_ ?_
          rotate_left
          ·intro w'
           go_simp
           with_reducible rfl
          rotate_left
          ·simp only [Act.put,List.setIfInBounds_toArray,List.set_cons_zero,List.set_cons_succ,i64_w,i32_w]
           rfl
          refine pure_ (i := 2) (N := some 77) (v := ?_) (a' := ?_) #[true,true,true,false,false,false,false,false,false,false,false,true,false,false] rfl rfl (by kernel_rfl) (fun _ _ _ h => h) (Or.inl ⟨by rfl,?_⟩) ?_ ?_
          rotate_left
          ·intro w'
           go_simp
           with_reducible rfl
          rotate_left
          ·simp only [Act.put,List.setIfInBounds_toArray,List.set_cons_zero,List.set_cons_succ,i64_w,i32_w]
           rfl
          refine take_ (i := 3) (N := some 78) (v := ?_) (a' := ?_) #[true,true,true,true,false,false,false,false,false,false,false,true,false,false] rfl rfl (by kernel_rfl) (fun _ _ _ h => h) (Or.inl ⟨by rfl,?_⟩) hHeld ?_ ?_
          rotate_left
          ·rintro w' ⟨s0,s1,s2,s3,s4,s5,s6,s7,s8,s9⟩
           go_simp
           with_reducible rfl
          rotate_left
          ·simp only [Act.put,List.setIfInBounds_toArray,List.set_cons_zero,List.set_cons_succ,i64_w,i32_w]
           rfl
          refine take_ (i := 4) (N := some 79) (v := ?_) (a' := ?_) #[true,true,true,true,true,false,false,false,false,false,false,true,false,false] rfl rfl (by kernel_rfl) (fun _ _ _ h => h) (Or.inl ⟨by rfl,?_⟩) hHeld ?_ ?_
          rotate_left
          ·rintro w' ⟨s0,s1,s2,s3,s4,s5,s6,s7,s8,s9⟩
           go_simp
           with_reducible rfl
          rotate_left
          ·simp only [Act.put,List.setIfInBounds_toArray,List.set_cons_zero,List.set_cons_succ,i64_w,i32_w]
           rfl
          refine pure_ (i := 5) (N := some 80) (v := ?_) (a' := ?_) #[true,true,true,true,true,true,false,false,false,false,false,true,false,false] rfl rfl (by kernel_rfl) (fun _ _ _ h => h) (Or.inl ⟨by rfl,?_⟩) ?_ ?_
          rotate_left
          ·intro w'
           go_simp
           with_reducible rfl
          rotate_left
          ·simp only [Act.put,List.setIfInBounds_toArray,List.set_cons_zero,List.set_cons_succ,i64_w,i32_w]
           rfl
          refine pure_ (i := 6) (N := some 81) (v := ?_) (a' := ?_) #[true,true,true,true,true,true,true,false,false,false,false,true,false,false] rfl rfl (by kernel_rfl) (fun _ _ _ h => h) (Or.inl ⟨by rfl,?_⟩) ?_ ?_
          rotate_left
          ·intro w'
           go_simp
           with_reducible rfl
          rotate_left
          ·simp only [Act.put,List.setIfInBounds_toArray,List.set_cons_zero,List.set_cons_succ,i64_w,i32_w]
           rfl
          refine take_ (i := 7) (N := some 82) (v := ?_) (a' := ?_) #[true,true,true,true,true,true,true,true,false,false,false,true,false,false] rfl rfl (by kernel_rfl) (fun _ _ _ h => h) (Or.inl ⟨by rfl,?_⟩) hHeld ?_ ?_
          rotate_left
          ·rintro w' ⟨s0,s1,s2,s3,s4,s5,s6,s7,s8,s9⟩
           go_simp
           with_reducible rfl
          rotate_left
          ·simp only [Act.put,List.setIfInBounds_toArray,List.set_cons_zero,List.set_cons_succ,i64_w,i32_w]
           rfl
          refine pure_ (i := 8) (N := some 83) (v := ?_) (a' := ?_) #[true,true,true,true,true,true,true,true,true,false,false,true,false,false] rfl rfl (by kernel_rfl) (fun _ _ _ h => h) (Or.inl ⟨by rfl,?_⟩) ?_ ?_
          rotate_left
          ·intro w'
           go_simp
           with_reducible rfl
          rotate_left
          ·simp only [Act.put,List.setIfInBounds_toArray,List.set_cons_zero,List.set_cons_succ,i64_w,i32_w]
           rfl
          refine pure_ (i := 9) (N := some 84) (v := ?_) (a' := ?_) #[true,true,true,true,true,true,true,true,true,true,false,true,false,false] rfl rfl (by kernel_rfl) (fun _ _ _ h => h) (Or.inl ⟨by rfl,?_⟩) ?_ ?_
          rotate_left
          ·intro w'
           go_simp
           with_reducible rfl
          rotate_left
          ·simp only [Act.put,List.setIfInBounds_toArray,List.set_cons_zero,List.set_cons_succ,i64_w,i32_w]
           rfl
          refine take_ (i := 10) (N := some 85) (v := ?_) (a' := ?_) #[true,true,true,true,true,true,true,true,true,true,true,true,false,false] rfl rfl (by kernel_rfl) (fun _ _ _ h => h) (Or.inl ⟨by rfl,?_⟩) hHeld ?_ ?_
          rotate_left
          ·rintro w' ⟨s0,s1,s2,s3,s4,s5,s6,s7,s8,s9⟩
           go_simp
           with_reducible rfl
          rotate_left
          ·simp only [Act.put,List.setIfInBounds_toArray,List.set_cons_zero,List.set_cons_succ,i64_w,i32_w]
           rfl
          refine one_ (i := 12) (N := some 87) #[true,true,true,true,true,true,true,true,true,true,true,true,true,false] rfl rfl (by kernel_rfl) (by decide) (fun K hK => ?_)
          refine goes_ Tryd.func65 (by kernel_rfl) rfl #[.string (rd_T63 l i).f2,.int .i64 lv] (by rfl) rfl rfl (by simp only [List.map_toArray,List.map_cons,List.map_nil];rfl) ?_
          with_reducible refine (binary_calls (rd_T63 l i).f2 lv _).mono ?_
          rintro e w23 ⟨rfl,hb⟩
          refine ⟨_,rfl,?_⟩
          clear za2 za3 za4 za5 zaa zab zas zaM zat zaN zau zaO zav zaP zaw zaQ
          replace zbP := am (VV.made zbP.out hb)
          replace zag := am (blk_below zag.out hb)
          replace zah := am (blk_below zah.out hb)
          replace zaZ := am (blk_below zaZ.out hb)
          replace zba := am (blk_below zba.out hb)
          replace HI := am (St.made HI.out hb)
          replace LC := am (Loc.made LC.out hb)
          have za2 := pcb LC.out.below zbn.out
          have za3 := pcb LC.out.below zbo.out
          have za4 := pcb LC.out.below zbp.out
          have za5 := pcb LC.out.below zbq.out
          obtain ⟨zaa,zab⟩ := cells1 zag.out
          obtain ⟨zas,zaM,zat,zaN,zau,zaO,zav,zaP,zaw,zaQ⟩ := cells5 zba.out
          clear hb
          refine hK.out _ _ ⟨zaa,zas,zat,zau,zav,zaw,za2,za3,za4,za5⟩ (fun hHeld => ?_)
          clear hK K
          refine norm_ (a' := ?_) ?_ ?_
          rotate_left
          ·show Act.put _ (some 87) _ = _
           simp only [Act.put,List.setIfInBounds_toArray,List.set_cons_zero,List.set_cons_succ,i64_w,i32_w]
           rfl
          refine pure_ (i := 13) (N := some 6) (v := ?_) (a' := ?_) #[true,true,true,true,true,true,true,true,true,true,true,true,true,true] rfl rfl (by kernel_rfl) (fun _ _ _ h => h) (Or.inl ⟨by rfl,?_⟩) ?_ ?_
          rotate_left
          ·intro w'
           go_simp
           with_reducible rfl
          rotate_left
          ·simp only [Act.put,List.setIfInBounds_toArray,List.set_cons_zero,List.set_cons_succ,i64_w,i32_w]
           rfl
          refine done_ (by kernel_rfl) ?_
          clear za2 za3 za4 za5 zaa zab zas zaM zat zaN zau zaO zav zaP zaw zaQ
          clear zba
          clear zbn zbo zbp zbq
          obtain ⟨AT_,cT_,zaq,zai,zaj,zak,zal,zac,zad,zae,zaf⟩ := HI.out.cells_
          (try dsimp only at zai zaj zak zal)
          obtain ⟨zaa,zab⟩ := cells1 zag.out
          go_wp2_with (first | ((with_reducible refine gate_store (t := 3) (p := 96) rfl ?_);refine stI_event (g := g) (x := wrap64 (i + 1)) ?hgd ?hN ?hr HI.out ?_;(case hgd => rfl);(case hN => rfl);(case hr => (go_simp;try rfl));intro w24 hx hk zax;clear zaq zai zaj zak zal zac zad zae zaf zaa zab;replace zbP := am (VV.store zbP.out hk (by simp));replace zag := am (blk_kept zag.out hk (fun e_ => zaL.out e_.symm));replace zah := am (blk_kept zah.out hk (fun e_ => zao.out e_.symm));replace zaZ := am (blk_kept zaZ.out hk (fun e_ => zbC.out e_.symm));replace HI := am (hx);replace LC := am (Loc.store LC.out (b := g) (by simp) hk (zax _));obtain ⟨AT_,cT_,zaq,zai,zaj,zak,zal,zac,zad,zae,zaf⟩ := HI.out.cells_;(try dsimp only at zai zaj zak zal);obtain ⟨zaa,zab⟩ := cells1 zag.out;clear hx hk zax) | ((with_reducible refine gate_callee (f := 35) rfl ?_);refine goesL_ (some 100) rfl rfl Tryd.func35 (by kernel_rfl) rfl #[.pointer (some ⟨g,0,none⟩),.int .i64 (wrap64 (lv + 1))] rfl (by (try simp only [List.map_toArray,List.map_cons,List.map_nil]);first | done | rfl) ?_;(with_reducible refine ((hT k1 (by have := HK.out;omega)).go HI.out LC.out.below H1.out).mono ?_);rintro e w25 ⟨A2,c2,rfl,hv,hi,hb,hk⟩;refine ⟨_,rfl,?_⟩;clear zaq zai zaj zak zal zac zad zae zaf zaa zab;replace zbP := am (VV.call zbP.out hk LC.out.me);have zci := am (VV.of_call hv LC.out);replace zag := am (KeepBut.blk hk zag.out (fun e_ => zaL.out e_.symm) (by simp));replace zah := am (KeepBut.blk hk zah.out (fun e_ => zao.out e_.symm) (by simp));replace zaZ := am (KeepBut.blk hk zaZ.out (fun e_ => zbC.out e_.symm) (by simp));replace HI := am (hi);replace LC := am (Loc.call LC.out hk hb);obtain ⟨AT_,cT_,zaq,zai,zaj,zak,zal,zac,zad,zae,zaf⟩ := HI.out.cells_;obtain ⟨zaa,zab⟩ := cells1 zag.out;clear hb hk hi hv) | ((with_reducible refine gate_dst (N := 7) rfl ?_);refine box_event ?hg (N := 7) ?hd (cs := #[.int .i64 0,.int .i64 0,.slice none 0 0]) (t := 25) ?hr ?_;(case hd => rfl);(case hg => rfl);(case hr => (go_simp;try rfl));intro b_b hg w26 zan hb;clear zaq zai zaj zak zal zac zad zae zaf zaa zab;have zdk := am ((by rw [hg];exact Nat.ne_of_lt (blk_lt zag.out) : b_p ≠ b_b));have zcD := am ((by rw [hg];exact Nat.ne_of_lt (blk_lt zah.out) : b_r ≠ b_b));have zcP := am ((by rw [hg];exact Nat.ne_of_lt (blk_lt zaZ.out) : b_a ≠ b_b));have zb0 := am ((by rw [hg];exact Nat.ne_of_lt (LC.out.lt _ LC.out.me) : g ≠ b_b));replace zbP := am (VV.alloc zbP.out hb hg);replace zci := am (VV.alloc zci.out hb hg);replace zag := am (blk_below zag.out hb);replace zah := am (blk_below zah.out hb);replace zaZ := am (blk_below zaZ.out hb);have zbS := am (zan);replace HI := am (St.made HI.out hb);replace LC := am (Loc.alloc LC.out hb hg (blk_lt zan));obtain ⟨AT_,cT_,zaq,zai,zaj,zak,zal,zac,zad,zae,zaf⟩ := HI.out.cells_;obtain ⟨zaa,zab⟩ := cells1 zag.out;clear hg hb zan) | ((with_reducible refine gate_store (t := 25) (p := 7) rfl ?_);refine store3_event (b := b_b) (y0 := .int .i64 tb.f0) (y1 := .int .i64 tb.f1) (y2 := .slice A2 tb.f2.length c2) ?hgd ?hN ?hr zbS.out ?_;(case hgd => rfl);(case hN => rfl);(case hr => (obtain ⟨q0_,f0_,q1_,f1_,q2_,f2_⟩ := cells3 zbS.out;go_simp;try rfl));intro w27 hx hk zax;clear zaq zai zaj zak zal zac zad zae zaf zaa zab;replace zbP := am (VV.store zbP.out hk (by simp));replace zci := am (VV.store zci.out hk (by simp));replace zag := am (blk_kept zag.out hk (by first | exact zdk.out | exact (fun e_ => NE_b_p.out e_.symm)));replace zah := am (blk_kept zah.out hk (by first | exact zcD.out | exact (fun e_ => NE_b_r.out e_.symm)));replace zaZ := am (blk_kept zaZ.out hk (by first | exact zcP.out | exact (fun e_ => NE_b_a.out e_.symm)));replace zbS := am (hx);replace HI := am (St.store HI.out hk zb0.out);replace LC := am (Loc.store LC.out (b := b_b) (by simp) hk (zax _));obtain ⟨AT_,cT_,zaq,zai,zaj,zak,zal,zac,zad,zae,zaf⟩ := HI.out.cells_;obtain ⟨zaa,zab⟩ := cells1 zag.out;obtain ⟨zbt,zbu,zbv,zbw,zbx,zby⟩ := cells3 zaZ.out;obtain ⟨zdl,zdm,zdn,zdo,zdp,zdq⟩ := cells3 zbS.out;clear hx hk zax) | ((with_reducible refine gate_dst (N := 105) rfl ?_);refine lit_event (N := 105) (xs := [a,tb]) (inner := [.int .i64 a.f0,.int .i64 a.f1,.slice Aa a.f2.length ca,.int .i64 tb.f0,.int .i64 tb.f1,.slice A2 tb.f2.length c2]) ?hgd ?hd ?hr (NodeReps.cons zbP.out (NodeReps.cons zci.out (NodeReps.nil))) LC.out (by simp) ?_;(case hgd => rfl);(case hd => rfl);(case hr => (go_simp;try rfl));intro A_q c_q w28 hv hb;clear zaq zai zaj zak zal zac zad zae zaf zaa zab zbt zbu zbv zbw zbx zby zdl zdm zdn zdo zdp zdq;replace zbP := am (VV.made zbP.out hb);replace zci := am (VV.made zci.out hb);have zcw := am (hv);replace zag := am (blk_below zag.out hb);replace zah := am (blk_below zah.out hb);replace zaZ := am (blk_below zaZ.out hb);replace zbS := am (blk_below zbS.out hb);replace HI := am (St.made HI.out hb);replace LC := am (Loc.made LC.out hb);obtain ⟨AT_,cT_,zaq,zai,zaj,zak,zal,zac,zad,zae,zaf⟩ := HI.out.cells_;obtain ⟨zaa,zab⟩ := cells1 zag.out;obtain ⟨zbt,zbu,zbv,zbw,zbx,zby⟩ := cells3 zaZ.out;clear hv hb) | ((with_reducible refine gate_callee (f := 62) rfl ?_);refine goesL_ (some 106) rfl rfl Tryd.func62 (by kernel_rfl) rfl #[.pointer (some ⟨g,0,none⟩),.int .i64 (bop (rd_T63 l i).f2 lv),.int .i64 0,.slice A_q [a,tb].length c_q] rfl (by (try simp only [List.map_toArray,List.map_cons,List.map_nil]);first | done | rfl) ?_;(with_reducible refine (node_go HN.out HI.out LC.out zcw.out).mono ?_);rintro e w29 ⟨A3,c3,rfl,hv,hi,hb,hk⟩;refine ⟨_,rfl,?_⟩;clear zaq zai zaj zak zal zac zad zae zaf zaa zab zbt zbu zbv zbw zbx zby;replace zbP := am (VV.call zbP.out hk LC.out.me);replace zci := am (VV.call zci.out hk LC.out.me);replace zcw := am (VV.call zcw.out hk LC.out.me);have zeK := am (hv);replace zag := am (KeepBut.blk hk zag.out (fun e_ => zaL.out e_.symm) (by simp));replace zah := am (KeepBut.blk hk zah.out (fun e_ => zao.out e_.symm) (by simp));replace zaZ := am (KeepBut.blk hk zaZ.out (fun e_ => zbC.out e_.symm) (by simp));replace zbS := am (KeepBut.blk hk zbS.out (fun e_ => zb0.out e_.symm) (by simp));replace HI := am (hi);replace LC := am (Loc.call LC.out hk hb);obtain ⟨AT_,cT_,zaq,zai,zaj,zak,zal,zac,zad,zae,zaf⟩ := HI.out.cells_;obtain ⟨zaa,zab⟩ := cells1 zag.out;obtain ⟨zbt,zbu,zbv,zbw,zbx,zby⟩ := cells3 zaZ.out;clear hb hk hi hv) | ((with_reducible refine gate_store (t := 25) (p := 5) rfl ?_);refine store3_event (b := b_a) (y0 := .int .i64 tn.f0) (y1 := .int .i64 tn.f1) (y2 := .slice A3 tn.f2.length c3) ?hgd ?hN ?hr zaZ.out ?_;(case hgd => rfl);(case hN => rfl);(case hr => (obtain ⟨q0_,f0_,q1_,f1_,q2_,f2_⟩ := cells3 zaZ.out;go_simp;try rfl));intro w30 hx hk zax;clear zaq zai zaj zak zal zac zad zae zaf zaa zab zbt zbu zbv zbw zbx zby;replace zbP := am (VV.store zbP.out hk (by simp));replace zci := am (VV.store zci.out hk (by simp));replace zcw := am (VV.store zcw.out hk (by simp));replace zeK := am (VV.store zeK.out hk (by simp));replace zag := am (blk_kept zag.out hk (by first | exact zdj.out | exact (fun e_ => NE_a_p.out e_.symm)));replace zah := am (blk_kept zah.out hk (by first | exact zce.out | exact (fun e_ => NE_a_r.out e_.symm)));replace zaZ := am (hx);replace zbS := am (blk_kept zbS.out hk (by first | exact NE_b_a.out | exact (fun e_ => zcP.out e_.symm)));replace HI := am (St.store HI.out hk zbC.out);replace LC := am (Loc.store LC.out (b := b_a) (by simp) hk (zax _));obtain ⟨AT_,cT_,zaq,zai,zaj,zak,zal,zac,zad,zae,zaf⟩ := HI.out.cells_;obtain ⟨zaa,zab⟩ := cells1 zag.out;obtain ⟨zbt,zbu,zbv,zbw,zbx,zby⟩ := cells3 zaZ.out;clear hx hk zax) | ((with_reducible refine gate_store (t := 25) (p := 4) rfl ?_);refine store3_event (b := b_r) (y0 := .int .i64 tn.f0) (y1 := .int .i64 tn.f1) (y2 := .slice A3 tn.f2.length c3) ?hgd ?hN ?hr zah.out ?_;(case hgd => rfl);(case hN => rfl);(case hr => (obtain ⟨q0_,f0_,q1_,f1_,q2_,f2_⟩ := cells3 zah.out;go_simp;try rfl));intro w31 hx hk zax;clear zaq zai zaj zak zal zac zad zae zaf zaa zab zbt zbu zbv zbw zbx zby;replace zbP := am (VV.store zbP.out hk (by simp));replace zci := am (VV.store zci.out hk (by simp));replace zcw := am (VV.store zcw.out hk (by simp));replace zeK := am (VV.store zeK.out hk (by simp));replace zag := am (blk_kept zag.out hk (by first | exact za9.out | exact (fun e_ => NE_r_p.out e_.symm)));replace zah := am (hx);replace zaZ := am (blk_kept zaZ.out hk (by first | exact NE_a_r.out | exact (fun e_ => zce.out e_.symm)));replace zbS := am (blk_kept zbS.out hk (by first | exact NE_b_r.out | exact (fun e_ => zcD.out e_.symm)));replace HI := am (St.store HI.out hk zao.out);replace LC := am (Loc.store LC.out (b := b_r) (by simp) hk (zax _));obtain ⟨AT_,cT_,zaq,zai,zaj,zak,zal,zac,zad,zae,zaf⟩ := HI.out.cells_;obtain ⟨zaa,zab⟩ := cells1 zag.out;obtain ⟨zbt,zbu,zbv,zbw,zbx,zby⟩ := cells3 zaZ.out;clear hx hk zax))
          refine bodyPost_ret (results_cell_row rfl _ _ b_r 25 (ncells tn A3 c3) (0,0) _ rfl zah.out Tryd.underlying25 rfl (by kernel_rfl)) rfl ?_
          exact ⟨A3,c3,rfl,zeK.out.out,HI.out,LC.out.out.1,LC.out.out.2⟩
         ·skip
          have c9b : (lv == 4) = false := beq_eq_false_iff_ne.mpr c9
          rw [if_neg c9] at h
          clear c9
          have HR1 := am h
          clear h
          obtain ⟨AT_,cT_,HG_,HT_⟩ := HI.out.open_
          obtain ⟨ad_,e_,za2,za3,za4,za5⟩ := at_T63 HT_ (i) pI.out qI.out
          cases e_
          clear HT_
          obtain ⟨zaq,zai,zaj,zak,zal,zac,zad,zae,zaf⟩ := stcells HG_
          clear HG_
          replace za2 := pcb LC.out.below za2
          replace za3 := pcb LC.out.below za3
          replace za4 := pcb LC.out.below za4
          replace za5 := pcb LC.out.below za5
          (try dsimp only at zai zaj zak zal)
          obtain ⟨zaa,zab⟩ := cells1 zag.out
          try go_wp2_with (fail)
          go_quiet (fail)
          clear za2 za3 za4 za5 zaq zai zaj zak zal zac zad zae zaf zaa zab
          replace zbP := am (Kd.V_drewN zbP.out nq)
          replace zag := am (blk_drewN zag.out nq)
          replace zah := am (blk_drewN zah.out nq)
          replace zaZ := am (blk_drewN zaZ.out nq)
          replace HI := am ((show St w0 (wr.drewN nq) g l _ from HI.out))
          replace LC := am (Loc.drewN LC.out nq)
          generalize wr.drewN nq = w21 at LC HI zag zah zaZ zbP ⊢
          obtain ⟨AT_,cT_,zaq,zai,zaj,zak,zal,zac,zad,zae,zaf⟩ := HI.out.cells_
          (try dsimp only at zai zaj zak zal)
          obtain ⟨zaa,zab⟩ := cells1 zag.out
          try go_wp2_with (fail)
          clear zaq zai zaj zak zal zac zad zae zaf zaa zab
          replace zbP := am (VV.drew zbP.out)
          replace zag := am (blk_drew zag.out)
          replace zah := am (blk_drew zah.out)
          replace zaZ := am (blk_drew zaZ.out)
          replace HI := am ((show St w0 w21.drew g l _ from HI.out))
          replace LC := am (Loc.drew LC.out)
          obtain ⟨AT_,cT_,HG_,HT_⟩ := HI.out.open_
          obtain ⟨ad_,e_,za2,za3,za4,za5⟩ := at_T63 HT_ (i) pI.out qI.out
          cases e_
          have zbn := am za2
          have zbo := am za3
          have zbp := am za4
          have zbq := am za5
          clear za2 za3 za4 za5
          have zba := am HG_
          clear HG_ HT_
          have zcQ := zaL
          have zcu := zao
          have NE_G_a := zbC
          have za2 := pcb LC.out.below zbn.out
          have za3 := pcb LC.out.below zbo.out
          have za4 := pcb LC.out.below zbp.out
          have za5 := pcb LC.out.below zbq.out
          obtain ⟨zaa,zab⟩ := cells1 zag.out
          obtain ⟨zas,zaM,zat,zaN,zau,zaO,zav,zaP,zaw,zaQ⟩ := cells5 zba.out
          refine start_ (n := 14) (S := fun w' => w'.cell? ⟨b_p,0,none⟩ = some (.pointer (some ⟨g,0,none⟩)) ∧ w'.cell? ⟨g,0,none⟩ = some (.slice (some ad_) l.length cT_) ∧ w'.cell? ⟨g,1,none⟩ = some (.int .i64 (i)) ∧ w'.cell? ⟨g,2,none⟩ = some (.int .i64 (n)) ∧ w'.cell? ⟨g,3,none⟩ = some (.int .i64 (d)) ∧ w'.cell? ⟨g,4,none⟩ = some (.int .i64 (e0)) ∧ w'.cell? (ad_.add ((i).toNat * 4)) = some (.int .i64 (rd_T63 l (i)).f0) ∧ w'.cell? ⟨(ad_.add ((i).toNat * 4)).block,(ad_.add ((i).toNat * 4)).off + 1,none⟩ = some (.int .i64 (rd_T63 l (i)).f1) ∧ w'.cell? ⟨(ad_.add ((i).toNat * 4)).block,(ad_.add ((i).toNat * 4)).off + 2,none⟩ = some (.string (rd_T63 l (i)).f2) ∧ w'.cell? ⟨(ad_.add ((i).toNat * 4)).block,(ad_.add ((i).toNat * 4)).off + 3,none⟩ = some (.int .i64 (rd_T63 l (i)).f3)) (ds := []) #[false,false,false,false,false,false,false,false,false,false,false,false,false,false] (by kernel_rfl) rfl rfl ⟨zaa,zas,zat,zau,zav,zaw,za2,za3,za4,za5⟩ (fun hHeld => ?_)
          generalize w21.drew = w22 at LC HI zag zah zaZ zba zbP zaa zas zat zau zav zaw za2 za3 za4 za5 zab zaM zaN zaO zaP zaQ hHeld ⊢
          refine pure_ (i := 11) (N := some 86) (v := ?_) (a' := ?_) #[false,false,false,false,false,false,false,false,false,false,false,true,false,false] rfl rfl (by kernel_rfl) (fun _ _ _ h => h) (Or.inl ⟨by rfl,?_⟩) ?_ ?_
          rotate_left
          ·intro w'
           go_simp
           with_reducible rfl
          rotate_left
          ·simp only [Act.put,List.setIfInBounds_toArray,List.set_cons_zero,List.set_cons_succ,i64_w,i32_w]
           rfl
          refine take_ (i := 0) (N := some 75) (v := ?_) (a' := ?_) #[true,false,false,false,false,false,false,false,false,false,false,true,false,false] rfl rfl (by kernel_rfl) (fun _ _ _ h => h) (Or.inl ⟨by rfl,?_⟩) hHeld ?_ ?_
          rotate_left
          ·rintro w' ⟨s0,s1,s2,s3,s4,s5,s6,s7,s8,s9⟩
           go_simp
           with_reducible rfl
          rotate_left
          ·simp only [Act.put,List.setIfInBounds_toArray,List.set_cons_zero,List.set_cons_succ,i64_w,i32_w]
           rfl
          refine pure_ (i := 1) (N := some 76) (v := ?_) (a' := ?_) #[true,true,false,false,false,false,false,false,false,false,false,true,false,false] rfl rfl (by kernel_rfl) (fun _ _ _ h => h) (Or.inl ⟨by rfl,?_⟩) ?_ ?_
          rotate_left
          ·intro w'
           go_simp
           with_reducible rfl
          rotate_left
          ·simp only [Act.put,List.setIfInBounds_toArray,List.set_cons_zero,List.set_cons_succ,i64_w,i32_w]
           rfl
          refine pure_ (i := 2) (N := some 77) (v := ?_) (a' := ?_) #[true,true,true,false,false,false,false,false,false,false,false,true,false,false] rfl rfl (by kernel_rfl) (fun _ _ _ h => h) (Or.inl ⟨by rfl,?_⟩) ?_ ?_
          rotate_left
          ·intro w'
           go_simp
           with_reducible rfl
          rotate_left
          ·simp only [Act.put,List.setIfInBounds_toArray,List.set_cons_zero,List.set_cons_succ,i64_w,i32_w]
           rfl
          refine take_ (i := 3) (N := some 78) (v := ?_) (a' := ?_) #[true,true,true,true,false,false,false,false,false,false,false,true,false,false] rfl rfl (by kernel_rfl) (fun _ _ _ h => h) (Or.inl ⟨by rfl,?_⟩) hHeld ?_ ?_
          rotate_left
          ·rintro w' ⟨s0,s1,s2,s3,s4,s5,s6,s7,s8,s9⟩
           go_simp
           with_reducible rfl
          rotate_left
          ·simp only [Act.put,List.setIfInBounds_toArray,List.set_cons_zero,List.set_cons_succ,i64_w,i32_w]
           rfl
          refine take_ (i := 4) (N := some 79) (v := ?_) (a' := ?_) #[true,true,true,true,true,false,false,false,false,false,false,true,false,false] rfl rfl (by kernel_rfl) (fun _ _ _ h => h) (Or.inl ⟨by rfl,?_⟩) hHeld ?_ ?_
          rotate_left
          ·rintro w' ⟨s0,s1,s2,s3,s4,s5,s6,s7,s8,s9⟩
           go_simp
           with_reducible rfl
          rotate_left
          ·simp only [Act.put,List.setIfInBounds_toArray,List.set_cons_zero,List.set_cons_succ,i64_w,i32_w]
           rfl
          refine pure_ (i := 5) (N := some 80) (v := ?_) (a' := ?_) #[true,true,true,true,true,true,false,false,false,false,false,true,false,false] rfl rfl (by kernel_rfl) (fun _ _ _ h => h) (Or.inl ⟨by rfl,?_⟩) ?_ ?_
          rotate_left
          ·intro w'
           go_simp
           with_reducible rfl
          rotate_left
          ·simp only [Act.put,List.setIfInBounds_toArray,List.set_cons_zero,List.set_cons_succ,i64_w,i32_w]
           rfl
          refine pure_ (i := 6) (N := some 81) (v := ?_) (a' := ?_) #[true,true,true,true,true,true,true,false,false,false,false,true,false,false] rfl rfl (by kernel_rfl) (fun _ _ _ h => h) (Or.inl ⟨by rfl,?_⟩) ?_ ?_
          rotate_left
          ·intro w'
           go_simp
           with_reducible rfl
          rotate_left
          ·simp only [Act.put,List.setIfInBounds_toArray,List.set_cons_zero,List.set_cons_succ,i64_w,i32_w]
           rfl
          refine take_ (i := 7) (N := some 82) (v := ?_) (a' := ?_) #[true,true,true,true,true,true,true,true,false,false,false,true,false,false] rfl rfl (by kernel_rfl) (fun _ _ _ h => h) (Or.inl ⟨by rfl,?_⟩) hHeld ?_ ?_
          rotate_left
          ·rintro w' ⟨s0,s1,s2,s3,s4,s5,s6,s7,s8,s9⟩
           go_simp
           with_reducible rfl
          rotate_left
          ·simp only [Act.put,List.setIfInBounds_toArray,List.set_cons_zero,List.set_cons_succ,i64_w,i32_w]
           rfl
          refine pure_ (i := 8) (N := some 83) (v := ?_) (a' := ?_) #[true,true,true,true,true,true,true,true,true,false,false,true,false,false] rfl rfl (by kernel_rfl) (fun _ _ _ h => h) (Or.inl ⟨by rfl,?_⟩) ?_ ?_
          rotate_left
          ·intro w'
           go_simp
           with_reducible rfl
          rotate_left
          ·simp only [Act.put,List.setIfInBounds_toArray,List.set_cons_zero,List.set_cons_succ,i64_w,i32_w]
           rfl
          refine pure_ (i := 9) (N := some 84) (v := ?_) (a' := ?_) #[true,true,true,true,true,true,true,true,true,true,false,true,false,false] rfl rfl (by kernel_rfl) (fun _ _ _ h => h) (Or.inl ⟨by rfl,?_⟩) ?_ ?_
          rotate_left
          ·intro w'
           go_simp
           with_reducible rfl
          rotate_left
          ·simp only [Act.put,List.setIfInBounds_toArray,List.set_cons_zero,List.set_cons_succ,i64_w,i32_w]
           rfl
          refine take_ (i := 10) (N := some 85) (v := ?_) (a' := ?_) #[true,true,true,true,true,true,true,true,true,true,true,true,false,false] rfl rfl (by kernel_rfl) (fun _ _ _ h => h) (Or.inl ⟨by rfl,?_⟩) hHeld ?_ ?_
          rotate_left
          ·rintro w' ⟨s0,s1,s2,s3,s4,s5,s6,s7,s8,s9⟩
           go_simp
           with_reducible rfl
          rotate_left
          ·simp only [Act.put,List.setIfInBounds_toArray,List.set_cons_zero,List.set_cons_succ,i64_w,i32_w]
           rfl
          refine one_ (i := 12) (N := some 87) #[true,true,true,true,true,true,true,true,true,true,true,true,true,false] rfl rfl (by kernel_rfl) (by decide) (fun K hK => ?_)
          refine goes_ Tryd.func65 (by kernel_rfl) rfl #[.string (rd_T63 l i).f2,.int .i64 lv] (by rfl) rfl rfl (by simp only [List.map_toArray,List.map_cons,List.map_nil];rfl) ?_
          with_reducible refine (binary_calls (rd_T63 l i).f2 lv _).mono ?_
          rintro e w23 ⟨rfl,hb⟩
          refine ⟨_,rfl,?_⟩
          clear za2 za3 za4 za5 zaa zab zas zaM zat zaN zau zaO zav zaP zaw zaQ
          replace zbP := am (VV.made zbP.out hb)
          replace zag := am (blk_below zag.out hb)
          replace zah := am (blk_below zah.out hb)
          replace zaZ := am (blk_below zaZ.out hb)
          replace zba := am (blk_below zba.out hb)
          replace HI := am (St.made HI.out hb)
          replace LC := am (Loc.made LC.out hb)
          have za2 := pcb LC.out.below zbn.out
          have za3 := pcb LC.out.below zbo.out
          have za4 := pcb LC.out.below zbp.out
          have za5 := pcb LC.out.below zbq.out
          obtain ⟨zaa,zab⟩ := cells1 zag.out
          obtain ⟨zas,zaM,zat,zaN,zau,zaO,zav,zaP,zaw,zaQ⟩ := cells5 zba.out
          clear hb
          refine hK.out _ _ ⟨zaa,zas,zat,zau,zav,zaw,za2,za3,za4,za5⟩ (fun hHeld => ?_)
          clear hK K
          refine norm_ (a' := ?_) ?_ ?_
          rotate_left
          ·show Act.put _ (some 87) _ = _
           simp only [Act.put,List.setIfInBounds_toArray,List.set_cons_zero,List.set_cons_succ,i64_w,i32_w]
           rfl
          refine pure_ (i := 13) (N := some 6) (v := ?_) (a' := ?_) #[true,true,true,true,true,true,true,true,true,true,true,true,true,true] rfl rfl (by kernel_rfl) (fun _ _ _ h => h) (Or.inl ⟨by rfl,?_⟩) ?_ ?_
          rotate_left
          ·intro w'
           go_simp
           with_reducible rfl
          rotate_left
          ·simp only [Act.put,List.setIfInBounds_toArray,List.set_cons_zero,List.set_cons_succ,i64_w,i32_w]
           rfl
          refine done_ (by kernel_rfl) ?_
          clear za2 za3 za4 za5 zaa zab zas zaM zat zaN zau zaO zav zaP zaw zaQ
          clear zba
          clear zbn zbo zbp zbq
          obtain ⟨AT_,cT_,zaq,zai,zaj,zak,zal,zac,zad,zae,zaf⟩ := HI.out.cells_
          (try dsimp only at zai zaj zak zal)
          obtain ⟨zaa,zab⟩ := cells1 zag.out
          go_wp2_with (first | ((with_reducible refine gate_store (t := 3) (p := 96) rfl ?_);refine stI_event (g := g) (x := wrap64 (i + 1)) ?hgd ?hN ?hr HI.out ?_;(case hgd => rfl);(case hN => rfl);(case hr => (go_simp;try rfl));intro w24 hx hk zax;clear zaq zai zaj zak zal zac zad zae zaf zaa zab;replace zbP := am (VV.store zbP.out hk (by simp));replace zag := am (blk_kept zag.out hk (fun e_ => zaL.out e_.symm));replace zah := am (blk_kept zah.out hk (fun e_ => zao.out e_.symm));replace zaZ := am (blk_kept zaZ.out hk (fun e_ => zbC.out e_.symm));replace HI := am (hx);replace LC := am (Loc.store LC.out (b := g) (by simp) hk (zax _));obtain ⟨AT_,cT_,zaq,zai,zaj,zak,zal,zac,zad,zae,zaf⟩ := HI.out.cells_;(try dsimp only at zai zaj zak zal);obtain ⟨zaa,zab⟩ := cells1 zag.out;clear hx hk zax) | ((with_reducible refine gate_callee (f := 35) rfl ?_);refine goesL_ (some 100) rfl rfl Tryd.func35 (by kernel_rfl) rfl #[.pointer (some ⟨g,0,none⟩),.int .i64 (wrap64 (lv + 1))] rfl (by (try simp only [List.map_toArray,List.map_cons,List.map_nil]);first | done | rfl) ?_;(with_reducible refine ((hT k1 (by have := HK.out;omega)).go HI.out LC.out.below H1.out).mono ?_);rintro e w25 ⟨A2,c2,rfl,hv,hi,hb,hk⟩;refine ⟨_,rfl,?_⟩;clear zaq zai zaj zak zal zac zad zae zaf zaa zab;replace zbP := am (VV.call zbP.out hk LC.out.me);have zci := am (VV.of_call hv LC.out);replace zag := am (KeepBut.blk hk zag.out (fun e_ => zaL.out e_.symm) (by simp));replace zah := am (KeepBut.blk hk zah.out (fun e_ => zao.out e_.symm) (by simp));replace zaZ := am (KeepBut.blk hk zaZ.out (fun e_ => zbC.out e_.symm) (by simp));replace HI := am (hi);replace LC := am (Loc.call LC.out hk hb);obtain ⟨AT_,cT_,zaq,zai,zaj,zak,zal,zac,zad,zae,zaf⟩ := HI.out.cells_;obtain ⟨zaa,zab⟩ := cells1 zag.out;clear hb hk hi hv) | ((with_reducible refine gate_dst (N := 7) rfl ?_);refine box_event ?hg (N := 7) ?hd (cs := #[.int .i64 0,.int .i64 0,.slice none 0 0]) (t := 25) ?hr ?_;(case hd => rfl);(case hg => rfl);(case hr => (go_simp;try rfl));intro b_b hg w26 zan hb;clear zaq zai zaj zak zal zac zad zae zaf zaa zab;have zdk := am ((by rw [hg];exact Nat.ne_of_lt (blk_lt zag.out) : b_p ≠ b_b));have zcD := am ((by rw [hg];exact Nat.ne_of_lt (blk_lt zah.out) : b_r ≠ b_b));have zcP := am ((by rw [hg];exact Nat.ne_of_lt (blk_lt zaZ.out) : b_a ≠ b_b));have zb0 := am ((by rw [hg];exact Nat.ne_of_lt (LC.out.lt _ LC.out.me) : g ≠ b_b));replace zbP := am (VV.alloc zbP.out hb hg);replace zci := am (VV.alloc zci.out hb hg);replace zag := am (blk_below zag.out hb);replace zah := am (blk_below zah.out hb);replace zaZ := am (blk_below zaZ.out hb);have zbS := am (zan);replace HI := am (St.made HI.out hb);replace LC := am (Loc.alloc LC.out hb hg (blk_lt zan));obtain ⟨AT_,cT_,zaq,zai,zaj,zak,zal,zac,zad,zae,zaf⟩ := HI.out.cells_;obtain ⟨zaa,zab⟩ := cells1 zag.out;clear hg hb zan) | ((with_reducible refine gate_store (t := 25) (p := 7) rfl ?_);refine store3_event (b := b_b) (y0 := .int .i64 tb.f0) (y1 := .int .i64 tb.f1) (y2 := .slice A2 tb.f2.length c2) ?hgd ?hN ?hr zbS.out ?_;(case hgd => rfl);(case hN => rfl);(case hr => (obtain ⟨q0_,f0_,q1_,f1_,q2_,f2_⟩ := cells3 zbS.out;go_simp;try rfl));intro w27 hx hk zax;clear zaq zai zaj zak zal zac zad zae zaf zaa zab;replace zbP := am (VV.store zbP.out hk (by simp));replace zci := am (VV.store zci.out hk (by simp));replace zag := am (blk_kept zag.out hk (by first | exact zdk.out | exact (fun e_ => NE_b_p.out e_.symm)));replace zah := am (blk_kept zah.out hk (by first | exact zcD.out | exact (fun e_ => NE_b_r.out e_.symm)));replace zaZ := am (blk_kept zaZ.out hk (by first | exact zcP.out | exact (fun e_ => NE_b_a.out e_.symm)));replace zbS := am (hx);replace HI := am (St.store HI.out hk zb0.out);replace LC := am (Loc.store LC.out (b := b_b) (by simp) hk (zax _));obtain ⟨AT_,cT_,zaq,zai,zaj,zak,zal,zac,zad,zae,zaf⟩ := HI.out.cells_;obtain ⟨zaa,zab⟩ := cells1 zag.out;obtain ⟨zbt,zbu,zbv,zbw,zbx,zby⟩ := cells3 zaZ.out;obtain ⟨zdl,zdm,zdn,zdo,zdp,zdq⟩ := cells3 zbS.out;clear hx hk zax) | ((with_reducible refine gate_dst (N := 105) rfl ?_);refine lit_event (N := 105) (xs := [a,tb]) (inner := [.int .i64 a.f0,.int .i64 a.f1,.slice Aa a.f2.length ca,.int .i64 tb.f0,.int .i64 tb.f1,.slice A2 tb.f2.length c2]) ?hgd ?hd ?hr (NodeReps.cons zbP.out (NodeReps.cons zci.out (NodeReps.nil))) LC.out (by simp) ?_;(case hgd => rfl);(case hd => rfl);(case hr => (go_simp;try rfl));intro A_q c_q w28 hv hb;clear zaq zai zaj zak zal zac zad zae zaf zaa zab zbt zbu zbv zbw zbx zby zdl zdm zdn zdo zdp zdq;replace zbP := am (VV.made zbP.out hb);replace zci := am (VV.made zci.out hb);have zcw := am (hv);replace zag := am (blk_below zag.out hb);replace zah := am (blk_below zah.out hb);replace zaZ := am (blk_below zaZ.out hb);replace zbS := am (blk_below zbS.out hb);replace HI := am (St.made HI.out hb);replace LC := am (Loc.made LC.out hb);obtain ⟨AT_,cT_,zaq,zai,zaj,zak,zal,zac,zad,zae,zaf⟩ := HI.out.cells_;obtain ⟨zaa,zab⟩ := cells1 zag.out;obtain ⟨zbt,zbu,zbv,zbw,zbx,zby⟩ := cells3 zaZ.out;clear hv hb) | ((with_reducible refine gate_callee (f := 62) rfl ?_);refine goesL_ (some 106) rfl rfl Tryd.func62 (by kernel_rfl) rfl #[.pointer (some ⟨g,0,none⟩),.int .i64 (bop (rd_T63 l i).f2 lv),.int .i64 0,.slice A_q [a,tb].length c_q] rfl (by (try simp only [List.map_toArray,List.map_cons,List.map_nil]);first | done | rfl) ?_;(with_reducible refine (node_go HN.out HI.out LC.out zcw.out).mono ?_);rintro e w29 ⟨A3,c3,rfl,hv,hi,hb,hk⟩;refine ⟨_,rfl,?_⟩;clear zaq zai zaj zak zal zac zad zae zaf zaa zab zbt zbu zbv zbw zbx zby;replace zbP := am (VV.call zbP.out hk LC.out.me);replace zci := am (VV.call zci.out hk LC.out.me);replace zcw := am (VV.call zcw.out hk LC.out.me);have zeK := am (hv);replace zag := am (KeepBut.blk hk zag.out (fun e_ => zaL.out e_.symm) (by simp));replace zah := am (KeepBut.blk hk zah.out (fun e_ => zao.out e_.symm) (by simp));replace zaZ := am (KeepBut.blk hk zaZ.out (fun e_ => zbC.out e_.symm) (by simp));replace zbS := am (KeepBut.blk hk zbS.out (fun e_ => zb0.out e_.symm) (by simp));replace HI := am (hi);replace LC := am (Loc.call LC.out hk hb);obtain ⟨AT_,cT_,zaq,zai,zaj,zak,zal,zac,zad,zae,zaf⟩ := HI.out.cells_;obtain ⟨zaa,zab⟩ := cells1 zag.out;obtain ⟨zbt,zbu,zbv,zbw,zbx,zby⟩ := cells3 zaZ.out;clear hb hk hi hv) | ((with_reducible refine gate_store (t := 25) (p := 5) rfl ?_);refine store3_event (b := b_a) (y0 := .int .i64 tn.f0) (y1 := .int .i64 tn.f1) (y2 := .slice A3 tn.f2.length c3) ?hgd ?hN ?hr zaZ.out ?_;(case hgd => rfl);(case hN => rfl);(case hr => (obtain ⟨q0_,f0_,q1_,f1_,q2_,f2_⟩ := cells3 zaZ.out;go_simp;try rfl));intro w30 hx hk zax;clear zaq zai zaj zak zal zac zad zae zaf zaa zab zbt zbu zbv zbw zbx zby;replace zbP := am (VV.store zbP.out hk (by simp));replace zci := am (VV.store zci.out hk (by simp));replace zcw := am (VV.store zcw.out hk (by simp));replace zeK := am (VV.store zeK.out hk (by simp));replace zag := am (blk_kept zag.out hk (by first | exact zdj.out | exact (fun e_ => NE_a_p.out e_.symm)));replace zah := am (blk_kept zah.out hk (by first | exact zce.out | exact (fun e_ => NE_a_r.out e_.symm)));replace zaZ := am (hx);replace zbS := am (blk_kept zbS.out hk (by first | exact NE_b_a.out | exact (fun e_ => zcP.out e_.symm)));replace HI := am (St.store HI.out hk zbC.out);replace LC := am (Loc.store LC.out (b := b_a) (by simp) hk (zax _));obtain ⟨AT_,cT_,zaq,zai,zaj,zak,zal,zac,zad,zae,zaf⟩ := HI.out.cells_;obtain ⟨zaa,zab⟩ := cells1 zag.out;obtain ⟨zbt,zbu,zbv,zbw,zbx,zby⟩ := cells3 zaZ.out;clear hx hk zax))
          go_roundg k1
          case measure => have := HK.out;omega
          case rel => exact ⟨tn,A3,c3,sn,HR1,⟨by have := HK.out;omega⟩,⟨LC.out.drop zb0.out⟩,HI,zag,zah,zaZ,⟨zeK.out.drop⟩⟩
      ·rw [if_neg p1] at h
       cases h
     ·skip
      have c6b : decide (i < (l.length : Int)) = false := decide_eq_false c6
      rw [if_neg c6] at h
      clear c6
      simp only [Option.some.injEq,Prod.mk.injEq] at h
      obtain ⟨rfl,rfl⟩ := h
      obtain ⟨AT_,cT_,zaq,zai,zaj,zak,zal,zac,zad,zae,zaf⟩ := HI.out.cells_
      (try dsimp only at zai zaj zak zal)
      obtain ⟨zaa,zab⟩ := cells1 zag.out
      try go_wp2_with (fail)
      go_quiet (fail)
      clear zaq zai zaj zak zal zac zad zae zaf zaa zab
      replace zbP := am (Kd.V_drewN zbP.out nq)
      replace zag := am (blk_drewN zag.out nq)
      replace zah := am (blk_drewN zah.out nq)
      replace zaZ := am (blk_drewN zaZ.out nq)
      replace HI := am ((show St w0 (wr.drewN nq) g l _ from HI.out))
      replace LC := am (Loc.drewN LC.out nq)
      generalize wr.drewN nq = w21 at LC HI zag zah zaZ zbP ⊢
      obtain ⟨AT_,cT_,zaq,zai,zaj,zak,zal,zac,zad,zae,zaf⟩ := HI.out.cells_
      (try dsimp only at zai zaj zak zal)
      obtain ⟨zaa,zab⟩ := cells1 zag.out
      obtain ⟨zbt,zbu,zbv,zbw,zbx,zby⟩ := cells3 zaZ.out
      go_wp2_with (first | ((with_reducible refine gate_store (t := 25) (p := 4) rfl ?_);refine store3_event (b := b_r) (y0 := .int .i64 a.f0) (y1 := .int .i64 a.f1) (y2 := .slice Aa a.f2.length ca) ?hgd ?hN ?hr zah.out ?_;(case hgd => rfl);(case hN => rfl);(case hr => (obtain ⟨q0_,f0_,q1_,f1_,q2_,f2_⟩ := cells3 zah.out;go_simp;try rfl));intro w22 hx hk zax;clear zaq zai zaj zak zal zac zad zae zaf zaa zab zbt zbu zbv zbw zbx zby;replace zbP := am (VV.store zbP.out hk (by simp));replace zag := am (blk_kept zag.out hk (by first | exact za9.out | exact (fun e_ => NE_r_p.out e_.symm)));replace zah := am (hx);replace zaZ := am (blk_kept zaZ.out hk (by first | exact NE_a_r.out | exact (fun e_ => zce.out e_.symm)));replace HI := am (St.store HI.out hk zao.out);replace LC := am (Loc.store LC.out (b := b_r) (by simp) hk (zax _));obtain ⟨AT_,cT_,zaq,zai,zaj,zak,zal,zac,zad,zae,zaf⟩ := HI.out.cells_;(try dsimp only at zai zaj zak zal);obtain ⟨zaa,zab⟩ := cells1 zag.out;obtain ⟨zbt,zbu,zbv,zbw,zbx,zby⟩ := cells3 zaZ.out;clear hx hk zax))
      refine bodyPost_ret (results_cell_row rfl _ _ b_r 25 (ncells a Aa ca) (0,0) _ rfl zah.out Tryd.underlying25 rfl (by kernel_rfl)) rfl ?_
      exact ⟨Aa,ca,rfl,zbP.out.out,HI.out,LC.out.out.1,LC.out.out.2⟩
    ·skip
     have c5b : (e0 == 0) = false := beq_eq_false_iff_ne.mpr c5
     rw [if_neg c5] at h
     clear c5
     simp only [Option.some.injEq,Prod.mk.injEq] at h
     obtain ⟨rfl,rfl⟩ := h
     obtain ⟨AT_,cT_,zaq,zai,zaj,zak,zal,zac,zad,zae,zaf⟩ := HI.out.cells_
     (try dsimp only at zai zaj zak zal)
     obtain ⟨zaa,zab⟩ := cells1 zag.out
     try go_wp2_with (fail)
     go_quiet (fail)
     clear zaq zai zaj zak zal zac zad zae zaf zaa zab
     replace zbP := am (Kd.V_drewN zbP.out nq)
     replace zag := am (blk_drewN zag.out nq)
     replace zah := am (blk_drewN zah.out nq)
     replace zaZ := am (blk_drewN zaZ.out nq)
     replace HI := am ((show St w0 (wr.drewN nq) g l _ from HI.out))
     replace LC := am (Loc.drewN LC.out nq)
     generalize wr.drewN nq = w21 at LC HI zag zah zaZ zbP ⊢
     obtain ⟨AT_,cT_,zaq,zai,zaj,zak,zal,zac,zad,zae,zaf⟩ := HI.out.cells_
     (try dsimp only at zai zaj zak zal)
     obtain ⟨zaa,zab⟩ := cells1 zag.out
     obtain ⟨zbt,zbu,zbv,zbw,zbx,zby⟩ := cells3 zaZ.out
     go_wp2_with (first | ((with_reducible refine gate_store (t := 25) (p := 4) rfl ?_);refine store3_event (b := b_r) (y0 := .int .i64 a.f0) (y1 := .int .i64 a.f1) (y2 := .slice Aa a.f2.length ca) ?hgd ?hN ?hr zah.out ?_;(case hgd => rfl);(case hN => rfl);(case hr => (obtain ⟨q0_,f0_,q1_,f1_,q2_,f2_⟩ := cells3 zah.out;go_simp;try rfl));intro w22 hx hk zax;clear zaq zai zaj zak zal zac zad zae zaf zaa zab zbt zbu zbv zbw zbx zby;replace zbP := am (VV.store zbP.out hk (by simp));replace zag := am (blk_kept zag.out hk (by first | exact za9.out | exact (fun e_ => NE_r_p.out e_.symm)));replace zah := am (hx);replace zaZ := am (blk_kept zaZ.out hk (by first | exact NE_a_r.out | exact (fun e_ => zce.out e_.symm)));replace HI := am (St.store HI.out hk zao.out);replace LC := am (Loc.store LC.out (b := b_r) (by simp) hk (zax _));obtain ⟨AT_,cT_,zaq,zai,zaj,zak,zal,zac,zad,zae,zaf⟩ := HI.out.cells_;(try dsimp only at zai zaj zak zal);obtain ⟨zaa,zab⟩ := cells1 zag.out;obtain ⟨zbt,zbu,zbv,zbw,zbx,zby⟩ := cells3 zaZ.out;clear hx hk zax))
     refine bodyPost_ret (results_cell_row rfl _ _ b_r 25 (ncells a Aa ca) (0,0) _ rfl zah.out Tryd.underlying25 rfl (by kernel_rfl)) rfl ?_
     exact ⟨Aa,ca,rfl,zbP.out.out,HI.out,LC.out.out.1,LC.out.out.2⟩
theorem tree_step {l : List Tk} {k : Nat} (hT : ∀ j,j ≤ k → TreeC l j) (hA : AtomC l k) : TreeC l (k + 1) := by
 rintro lv ⟨i,n,d,e0⟩ s' t g w0 w hI hB h
 unfold run at h
 dsimp only at h
 by_cases c1 : e0 = 0
 ·rw [if_pos c1] at h
  obtain ⟨b1,hb1,h⟩ := Option.bind_eq_some_iff.mp h
  by_cases c2 : lv = 3
  ·rw [if_pos c2] at hb1
   cases b1 with
   | true => exact tree_not hT hA lv i n d e0 s' t g w0 w hI hB c1 c2 hb1 (by simpa using h)
   | false =>
    rw [if_neg (by decide)] at h
    obtain ⟨b2,hb2,h⟩ := Option.bind_eq_some_iff.mp h
    rw [if_neg (by omega)] at hb2
    obtain rfl := Option.some.inj hb2
    rw [if_neg (by decide),if_neg (by omega)] at h
    obtain ⟨⟨ta,sa⟩,h1,h2⟩ := Option.bind_eq_some_iff.mp h
    exact tree_g hT hA lv i n d e0 s' t g w0 w hI hB c1 (.inl ⟨c2,hb1⟩) ta sa h1 h2
  ·rw [if_neg c2] at hb1
   obtain rfl := Option.some.inj hb1
   rw [if_neg (by decide)] at h
   obtain ⟨b2,hb2,h⟩ := Option.bind_eq_some_iff.mp h
   by_cases c3 : lv = 7
   ·rw [if_pos c3] at hb2
    cases b2 with
    | true => exact tree_neg hT hA lv i n d e0 s' t g w0 w hI hB c1 c3 hb2 (by simpa using h)
    | false =>
     rw [if_neg (by decide),if_neg (by omega)] at h
     obtain ⟨⟨ta,sa⟩,h1,h2⟩ := Option.bind_eq_some_iff.mp h
     exact tree_g hT hA lv i n d e0 s' t g w0 w hI hB c1 (.inr (.inl ⟨c3,hb2⟩)) ta sa h1 h2
   ·rw [if_neg c3] at hb2
    obtain rfl := Option.some.inj hb2
    rw [if_neg (by decide)] at h
    by_cases c4 : lv = 8
    ·rw [if_pos c4] at h
     exact tree_atom hT hA lv i n d e0 s' t g w0 w hI hB c1 c4 h
    ·rw [if_neg c4] at h
     obtain ⟨⟨ta,sa⟩,h1,h2⟩ := Option.bind_eq_some_iff.mp h
     exact tree_g hT hA lv i n d e0 s' t g w0 w hI hB c1 (.inr (.inr ⟨c2,c3,c4⟩)) ta sa h1 h2
 ·rw [if_neg c1] at h
  simp only [Option.some.injEq,Prod.mk.injEq] at h
  exact tree_err hT hA lv i n d e0 s' t g w0 w hI hB c1 h.2 h.1
theorem tree_both (l : List Tk) : ∀ k,(∀ j,j ≤ k → TreeC l j) ∧ AtomC l k := by
 intro k
 induction k with
 | zero =>
  refine ⟨fun j hj => ?_,?_⟩
  ·obtain rfl : j = 0 := by omega
   intro lv s s' t g w0 w _ _ h
   exact absurd h (by simp [run])
  ·intro s s' t g w0 w _ _ h
   exact absurd h (by simp [run])
 | succ k ih =>
  refine ⟨fun j hj => ?_,atom_calls (ih.1 k (Nat.le_refl k))⟩
  by_cases e : j = k + 1
  ·subst e;exact tree_step ih.1 ih.2
  ·exact ih.1 j (by omega)
theorem tree_calls (l : List Tk) (k : Nat) : TreeC l k := (tree_both l k).1 k (Nat.le_refl k)
end Go.Proofs.YtgnmdhnlcibbiaaDoor.P
end
section
namespace Go.Proofs.YtgnmdhnlcibbiaaDoor.P
open Go.RowKit Go.Proofs.PrintWords Go.Proofs.PrintLast Go.Proofs.PrintMore
set_option linter.unusedVariables false
set_option linter.unusedSimpArgs false
def parsed (t : Nd) (s : PSt) : Nd × Int × Int := if s.e = 0 then (t,s.i,0) else (⟨0,0,[]⟩,s.i,s.e)
theorem parse_err {l : List Tk} {k : Nat} (A : Option Addr) (c : Nat) (w : World) (t : Nd) (s : PSt) (hC : Kd.C k63 w A l.length l) (hr : run l k (.tree 1) ⟨0,0,0,0⟩ = some (t,s)) (c1 : ¬ s.e = 0) :
  Calls Tryd.prog 13 #[.slice A l.length c] w fun e w' => ∃ v,e = .returned (.tuple #[.agg #[.int .i64 0,.int .i64 0,v],.int .i64 s.i,.int .i64 s.e]) ∧ Kd.V k25 25 w' w.heap.size (fun k => w.heap.size ≤ k) v [] ∧ Below w.heap.size w w' := by
 have zcz := Tryd.underlying25
 have hu72 := Tryd.underlying72
 have HR := am hr
 have HC := am hC
 clear hr hC
 have c1b : (s.e != 0) = true := bne_iff_ne.mpr c1
 clear c1
 go_enter Tryd.func13,Tryd.ntmps13
 try go_wp2_with (first | ((with_reducible refine gate_dst (N := 2) rfl ?_);refine box_event ?hg (N := 2) ?hd (cs := #[.int .i64 0,.int .i64 0,.slice none 0 0]) (t := 25) ?hr ?_;(case hd => rfl);(case hg => rfl);(case hr => (go_simp;try rfl));intro b_r hg w1 zan hb;have zah := am zan;have HB1 := am hb;have GR := am hg;clear hg hb zan) | ((with_reducible refine gate_dst (N := 9) rfl ?_);refine box_event ?hg (N := 9) ?hd (cs := #[.slice A l.length c,.int .i64 0,.int .i64 0,.int .i64 0,.int .i64 0]) (t := 72) ?hr ?_;(case hd => rfl);(case hg => rfl);(case hr => (go_simp;try rfl));intro g hg w2 zan hb;have HI := am (show St w w2 g l ⟨0,0,0,0⟩ from ⟨A,c,zan,by rw [hg];exact HB1.out.size,HC.out⟩);have zao := am (show g ≠ b_r from by rw [hg];exact (Nat.ne_of_lt (blk_lt zah.out)).symm);have LC := am (Loc.first (below_weaken HB1.out HB1.out.size hb) (blk_lt zan) (by rw [hg];exact HB1.out.size) (Nat.lt_of_lt_of_le (blk_lt zah.out) hb.size) (Nat.le_of_eq GR.out.symm));replace zah := am (blk_below zah.out hb);clear hg hb zan HB1 GR) | ((with_reducible refine gate_callee (f := 35) rfl ?_);refine goesL_ (some 11) rfl rfl Tryd.func35 (by kernel_rfl) rfl #[.pointer (some ⟨g,0,none⟩),.int .i64 1] rfl (by (try simp only [List.map_toArray,List.map_cons,List.map_nil]);first | done | rfl) ?_;(with_reducible refine ((tree_calls l k).go HI.out LC.out.below HR.out).mono ?_);rintro e w3 ⟨A1,c1,rfl,hv,hi,hb,hk⟩;refine ⟨_,rfl,?_⟩;have zbN := am (VV.of_call hv LC.out);replace zah := am (KeepBut.blk hk zah.out (fun e_ => zao.out e_.symm) (by simp));replace HI := am (hi);replace LC := am (Loc.call LC.out hk hb);obtain ⟨AT_,cT_,zaq,zai,zaj,zak,zal,zac,zad,zae,zaf⟩ := HI.out.cells_;clear hb hk hi hv) | ((with_reducible refine gate_dst (N := 6) rfl ?_);refine box_event ?hg (N := 6) ?hd (cs := #[.int .i64 0,.int .i64 0,.slice none 0 0]) (t := 25) ?hr ?_;(case hd => rfl);(case hg => rfl);(case hr => (go_simp;try rfl));intro b_n hg w4 zan hb;clear zaq zai zaj zak zal zac zad zae zaf;have zbI := am ((by rw [hg];exact Nat.ne_of_lt (blk_lt zah.out) : b_r ≠ b_n));have zbJ := am ((by rw [hg];exact Nat.ne_of_lt (LC.out.lt _ LC.out.me) : g ≠ b_n));replace zbN := am (VV.alloc zbN.out hb hg);replace zah := am (blk_below zah.out hb);have zbr := am (zan);replace HI := am (St.made HI.out hb);replace LC := am (Loc.alloc LC.out hb hg (blk_lt zan));obtain ⟨AT_,cT_,zaq,zai,zaj,zak,zal,zac,zad,zae,zaf⟩ := HI.out.cells_;clear hg hb zan) | ((with_reducible refine gate_store (t := 25) (p := 6) rfl ?_);refine store3_event (b := b_n) (y0 := .int .i64 t.f0) (y1 := .int .i64 t.f1) (y2 := .slice A1 t.f2.length c1) ?hgd ?hN ?hr zbr.out ?_;(case hgd => rfl);(case hN => rfl);(case hr => (obtain ⟨q0_,f0_,q1_,f1_,q2_,f2_⟩ := cells3 zbr.out;go_simp;try rfl));intro w5 hx hk zax;clear zaq zai zaj zak zal zac zad zae zaf;replace zbN := am (VV.store zbN.out hk (by simp));replace zah := am (blk_kept zah.out hk (by first | exact zbI.out | exact (fun e_ => NE_n_r.out e_.symm)));replace zbr := am (hx);replace HI := am (St.store HI.out hk zbJ.out);replace LC := am (Loc.store LC.out (b := b_n) (by simp) hk (zax _));obtain ⟨AT_,cT_,zaq,zai,zaj,zak,zal,zac,zad,zae,zaf⟩ := HI.out.cells_;clear hx hk zax))
 clear zaq zai zaj zak zal zac zad zae zaf
 replace zbN := am (VV.drew zbN.out)
 replace zah := am (blk_drew zah.out)
 replace zbr := am (blk_drew zbr.out)
 replace HI := am ((show St w w5.drew g l _ from HI.out))
 replace LC := am (Loc.drew LC.out)
 obtain ⟨AT_,cT_,HG_,HT_⟩ := HI.out.open_
 have zba := am HG_
 clear HG_ HT_
 have zcu := zao
 have NE_G_n := zbJ
 obtain ⟨zas,zaM,zat,zaN,zau,zaO,zav,zaP,zaw,zaQ⟩ := cells5 zba.out
 refine start_ (n := 12) (S := fun w' => w'.cell? ⟨g,0,none⟩ = some (.slice AT_ l.length cT_) ∧ w'.cell? ⟨g,1,none⟩ = some (.int .i64 (s.i)) ∧ w'.cell? ⟨g,2,none⟩ = some (.int .i64 (s.n)) ∧ w'.cell? ⟨g,3,none⟩ = some (.int .i64 (s.d)) ∧ w'.cell? ⟨g,4,none⟩ = some (.int .i64 (s.e))) (ds := []) #[false,false,false,false,false,false,false,false,false,false,false,false] (by kernel_rfl) rfl rfl ⟨zas,zat,zau,zav,zaw⟩ (fun hHeld => ?_)
 generalize w5.drew = w6 at LC HI zah zbr zba zbN zas zat zau zav zaw zaM zaN zaO zaP zaQ hHeld ⊢
 refine pure_ (i := 0) (N := some 17) (v := ?_) (a' := ?_) #[true,false,false,false,false,false,false,false,false,false,false,false] rfl rfl (by kernel_rfl) (fun _ _ _ h => h) (Or.inl ⟨by rfl,?_⟩) ?_ ?_
 rotate_left
 ·intro w'
  go_simp
  with_reducible rfl
 rotate_left
 ·simp only [Act.put,List.setIfInBounds_toArray,List.set_cons_zero,List.set_cons_succ,i64_w,i32_w]
  rfl
 refine pure_ (i := 1) (N := some 18) (v := ?_) (a' := ?_) #[true,true,false,false,false,false,false,false,false,false,false,false] rfl rfl (by kernel_rfl) (fun _ _ _ h => h) (Or.inl ⟨by rfl,?_⟩) ?_ ?_
 rotate_left
 ·intro w'
  go_simp
  with_reducible rfl
 rotate_left
 ·simp only [Act.put,List.setIfInBounds_toArray,List.set_cons_zero,List.set_cons_succ,i64_w,i32_w]
  rfl
 refine pure_ (i := 2) (N := some 19) (v := ?_) (a' := ?_) #[true,true,true,false,false,false,false,false,false,false,false,false] rfl rfl (by kernel_rfl) (fun _ _ _ h => h) (Or.inl ⟨by rfl,?_⟩) ?_ ?_
 rotate_left
 ·intro w'
  go_simp
  with_reducible rfl
 rotate_left
 ·simp only [Act.put,List.setIfInBounds_toArray,List.set_cons_zero,List.set_cons_succ,i64_w,i32_w]
  rfl
 refine pure_ (i := 3) (N := some 20) (v := ?_) (a' := ?_) #[true,true,true,true,false,false,false,false,false,false,false,false] rfl rfl (by kernel_rfl) (fun _ _ _ h => h) (Or.inl ⟨by rfl,?_⟩) ?_ ?_
 rotate_left
 ·intro w'
  go_simp
  with_reducible rfl
 rotate_left
 ·simp only [Act.put,List.setIfInBounds_toArray,List.set_cons_zero,List.set_cons_succ,i64_w,i32_w]
  rfl
 refine pure_ (i := 5) (N := some 22) (v := ?_) (a' := ?_) #[true,true,true,true,false,true,false,false,false,false,false,false] rfl rfl (by kernel_rfl) (fun _ _ _ h => h) (Or.inl ⟨by rfl,?_⟩) ?_ ?_
 rotate_left
 ·intro w'
  go_simp
  with_reducible rfl
 rotate_left
 ·simp only [Act.put,List.setIfInBounds_toArray,List.set_cons_zero,List.set_cons_succ,i64_w,i32_w]
  rfl
 refine pure_ (i := 6) (N := some 23) (v := ?_) (a' := ?_) #[true,true,true,true,false,true,true,false,false,false,false,false] rfl rfl (by kernel_rfl) (fun _ _ _ h => h) (Or.inl ⟨by rfl,?_⟩) ?_ ?_
 rotate_left
 ·intro w'
  go_simp
  with_reducible rfl
 rotate_left
 ·simp only [Act.put,List.setIfInBounds_toArray,List.set_cons_zero,List.set_cons_succ,i64_w,i32_w]
  rfl
 refine pure_ (i := 7) (N := some 24) (v := ?_) (a' := ?_) #[true,true,true,true,false,true,true,true,false,false,false,false] rfl rfl (by kernel_rfl) (fun _ _ _ h => h) (Or.inl ⟨by rfl,?_⟩) ?_ ?_
 rotate_left
 ·intro w'
  go_simp
  with_reducible rfl
 rotate_left
 ·simp only [Act.put,List.setIfInBounds_toArray,List.set_cons_zero,List.set_cons_succ,i64_w,i32_w]
  rfl
 refine take_ (i := 4) (N := some 21) (v := ?_) (a' := ?_) #[true,true,true,true,true,true,true,true,false,false,false,false] rfl rfl (by kernel_rfl) (fun _ _ _ h => h) (Or.inl ⟨by rfl,?_⟩) hHeld ?_ ?_
 rotate_left
 ·rintro w' ⟨s0,s1,s2,s3,s4⟩
  go_simp
  with_reducible rfl
 rotate_left
 ·simp only [Act.put,List.setIfInBounds_toArray,List.set_cons_zero,List.set_cons_succ,i64_w,i32_w]
  rfl
 refine take_ (i := 8) (N := some 25) (v := ?_) (a' := ?_) #[true,true,true,true,true,true,true,true,true,false,false,false] rfl rfl (by kernel_rfl) (fun _ _ _ h => h) (Or.inl ⟨by rfl,?_⟩) hHeld ?_ ?_
 rotate_left
 ·rintro w' ⟨s0,s1,s2,s3,s4⟩
  go_simp
  with_reducible rfl
 rotate_left
 ·simp only [Act.put,List.setIfInBounds_toArray,List.set_cons_zero,List.set_cons_succ,i64_w,i32_w]
  rfl
 refine one_ (i := 9) (N := none) #[true,true,true,true,true,true,true,true,true,true,false,false] rfl rfl (by kernel_rfl) (by decide) (fun K hK => ?_)
 refine store3_step (by rfl) rfl (b := b_r) (y0 := .int .i64 0) (y1 := .int .i64 0) (y2 := .slice none 0 0) ?hr zah.out ?_
 case hr => (obtain ⟨q0_,f0_,q1_,f1_,q2_,f2_⟩ := cells3 zah.out;go_simp;try rfl)
 intro w7 hx hk zax
 clear zas zaM zat zaN zau zaO zav zaP zaw zaQ
 replace zbN := am (VV.store zbN.out hk (by simp))
 replace zah := am (hx)
 replace zbr := am (blk_kept zbr.out hk (by first | exact NE_n_r.out | exact (fun e_ => zbI.out e_.symm)))
 replace zba := am (blk_kept zba.out hk (by first | exact zcu.out | exact (fun e_ => NE_r_G.out e_.symm)))
 replace HI := am (St.store HI.out hk zao.out)
 replace LC := am (Loc.store LC.out (b := b_r) (by simp) hk (zax _))
 obtain ⟨ze2,ze3,ze4,ze5,ze6,ze7⟩ := cells3 zah.out
 obtain ⟨zas,zaM,zat,zaN,zau,zaO,zav,zaP,zaw,zaQ⟩ := cells5 zba.out
 clear hx hk zax
 refine hK.out _ _ ⟨zas,zat,zau,zav,zaw⟩ (fun hHeld => ?_)
 clear hK K
 refine pure_ (i := 10) (N := some 3) (v := ?_) (a' := ?_) #[true,true,true,true,true,true,true,true,true,true,true,false] rfl rfl (by kernel_rfl) (fun _ _ _ h => h) (Or.inl ⟨by rfl,?_⟩) ?_ ?_
 rotate_left
 ·intro w'
  go_simp
  with_reducible rfl
 rotate_left
 ·simp only [Act.put,List.setIfInBounds_toArray,List.set_cons_zero,List.set_cons_succ,i64_w,i32_w]
  rfl
 refine pure_ (i := 11) (N := some 4) (v := ?_) (a' := ?_) #[true,true,true,true,true,true,true,true,true,true,true,true] rfl rfl (by kernel_rfl) (fun _ _ _ h => h) (Or.inl ⟨by rfl,?_⟩) ?_ ?_
 rotate_left
 ·intro w'
  go_simp
  with_reducible rfl
 rotate_left
 ·simp only [Act.put,List.setIfInBounds_toArray,List.set_cons_zero,List.set_cons_succ,i64_w,i32_w]
  rfl
 refine done_ (by kernel_rfl) ?_
 clear ze2 ze3 ze4 ze5 ze6 ze7 zas zaM zat zaN zau zaO zav zaP zaw zaQ
 clear zba
 obtain ⟨AT_,cT_,zaq,zai,zaj,zak,zal,zac,zad,zae,zaf⟩ := HI.out.cells_
 obtain ⟨ze2,ze3,ze4,ze5,ze6,ze7⟩ := cells3 zah.out
 go_wp2
 refine bodyPost_ret (results_ctt rfl _ _ b_r 25 #[.int .i64 0,.int .i64 0,.slice none 0 0] (0,0) _ rfl zah.out Tryd.underlying25 rfl (by kernel_rfl)) rfl ?_
 exact ⟨_,rfl,Kd.V_nil _ _ _ _ _,LC.out.out.1⟩
theorem parse_ok {l : List Tk} {k : Nat} (A : Option Addr) (c : Nat) (w : World) (t : Nd) (s : PSt) (hC : Kd.C k63 w A l.length l) (hr : run l k (.tree 1) ⟨0,0,0,0⟩ = some (t,s)) (c1 : s.e = 0) :
  Calls Tryd.prog 13 #[.slice A l.length c] w fun e w' => ∃ v,e = .returned (.tuple #[.agg #[.int .i64 t.f0,.int .i64 t.f1,v],.int .i64 s.i,.int .i64 0]) ∧ Kd.V k25 25 w' w.heap.size (fun k => w.heap.size ≤ k) v t.f2 ∧ Below w.heap.size w w' := by
 have zcz := Tryd.underlying25
 have hu72 := Tryd.underlying72
 have HR := am hr
 have HC := am hC
 clear hr hC
 have c1b : (s.e != 0) = false := bne_eq_false_iff_eq.mpr c1
 clear c1
 go_enter Tryd.func13,Tryd.ntmps13
 try go_wp2_with (first | ((with_reducible refine gate_dst (N := 2) rfl ?_);refine box_event ?hg (N := 2) ?hd (cs := #[.int .i64 0,.int .i64 0,.slice none 0 0]) (t := 25) ?hr ?_;(case hd => rfl);(case hg => rfl);(case hr => (go_simp;try rfl));intro b_r hg w1 zan hb;have zah := am zan;have HB1 := am hb;have GR := am hg;clear hg hb zan) | ((with_reducible refine gate_dst (N := 9) rfl ?_);refine box_event ?hg (N := 9) ?hd (cs := #[.slice A l.length c,.int .i64 0,.int .i64 0,.int .i64 0,.int .i64 0]) (t := 72) ?hr ?_;(case hd => rfl);(case hg => rfl);(case hr => (go_simp;try rfl));intro g hg w2 zan hb;have HI := am (show St w w2 g l ⟨0,0,0,0⟩ from ⟨A,c,zan,by rw [hg];exact HB1.out.size,HC.out⟩);have zao := am (show g ≠ b_r from by rw [hg];exact (Nat.ne_of_lt (blk_lt zah.out)).symm);have LC := am (Loc.first (below_weaken HB1.out HB1.out.size hb) (blk_lt zan) (by rw [hg];exact HB1.out.size) (Nat.lt_of_lt_of_le (blk_lt zah.out) hb.size) (Nat.le_of_eq GR.out.symm));replace zah := am (blk_below zah.out hb);clear hg hb zan HB1 GR) | ((with_reducible refine gate_callee (f := 35) rfl ?_);refine goesL_ (some 11) rfl rfl Tryd.func35 (by kernel_rfl) rfl #[.pointer (some ⟨g,0,none⟩),.int .i64 1] rfl (by (try simp only [List.map_toArray,List.map_cons,List.map_nil]);first | done | rfl) ?_;(with_reducible refine ((tree_calls l k).go HI.out LC.out.below HR.out).mono ?_);rintro e w3 ⟨A1,c1,rfl,hv,hi,hb,hk⟩;refine ⟨_,rfl,?_⟩;have zbN := am (VV.of_call hv LC.out);replace zah := am (KeepBut.blk hk zah.out (fun e_ => zao.out e_.symm) (by simp));replace HI := am (hi);replace LC := am (Loc.call LC.out hk hb);obtain ⟨AT_,cT_,zaq,zai,zaj,zak,zal,zac,zad,zae,zaf⟩ := HI.out.cells_;clear hb hk hi hv) | ((with_reducible refine gate_dst (N := 6) rfl ?_);refine box_event ?hg (N := 6) ?hd (cs := #[.int .i64 0,.int .i64 0,.slice none 0 0]) (t := 25) ?hr ?_;(case hd => rfl);(case hg => rfl);(case hr => (go_simp;try rfl));intro b_n hg w4 zan hb;clear zaq zai zaj zak zal zac zad zae zaf;have zbI := am ((by rw [hg];exact Nat.ne_of_lt (blk_lt zah.out) : b_r ≠ b_n));have zbJ := am ((by rw [hg];exact Nat.ne_of_lt (LC.out.lt _ LC.out.me) : g ≠ b_n));replace zbN := am (VV.alloc zbN.out hb hg);replace zah := am (blk_below zah.out hb);have zbr := am (zan);replace HI := am (St.made HI.out hb);replace LC := am (Loc.alloc LC.out hb hg (blk_lt zan));obtain ⟨AT_,cT_,zaq,zai,zaj,zak,zal,zac,zad,zae,zaf⟩ := HI.out.cells_;clear hg hb zan) | ((with_reducible refine gate_store (t := 25) (p := 6) rfl ?_);refine store3_event (b := b_n) (y0 := .int .i64 t.f0) (y1 := .int .i64 t.f1) (y2 := .slice A1 t.f2.length c1) ?hgd ?hN ?hr zbr.out ?_;(case hgd => rfl);(case hN => rfl);(case hr => (obtain ⟨q0_,f0_,q1_,f1_,q2_,f2_⟩ := cells3 zbr.out;go_simp;try rfl));intro w5 hx hk zax;clear zaq zai zaj zak zal zac zad zae zaf;replace zbN := am (VV.store zbN.out hk (by simp));replace zah := am (blk_kept zah.out hk (by first | exact zbI.out | exact (fun e_ => NE_n_r.out e_.symm)));replace zbr := am (hx);replace HI := am (St.store HI.out hk zbJ.out);replace LC := am (Loc.store LC.out (b := b_n) (by simp) hk (zax _));obtain ⟨AT_,cT_,zaq,zai,zaj,zak,zal,zac,zad,zae,zaf⟩ := HI.out.cells_;obtain ⟨zbe,zbj,zbf,zbk,zbg,zbl⟩ := cells3 zbr.out;clear hx hk zax))
 clear zaq zai zaj zak zal zac zad zae zaf zbe zbj zbf zbk zbg zbl
 replace zbN := am (VV.drew zbN.out)
 replace zah := am (blk_drew zah.out)
 replace zbr := am (blk_drew zbr.out)
 replace HI := am ((show St w w5.drew g l _ from HI.out))
 replace LC := am (Loc.drew LC.out)
 obtain ⟨AT_,cT_,HG_,HT_⟩ := HI.out.open_
 have zba := am HG_
 clear HG_ HT_
 have zcu := zao
 have NE_G_n := zbJ
 obtain ⟨zbe,zbj,zbf,zbk,zbg,zbl⟩ := cells3 zbr.out
 obtain ⟨zas,zaM,zat,zaN,zau,zaO,zav,zaP,zaw,zaQ⟩ := cells5 zba.out
 refine start_ (n := 8) (S := fun w' => w'.cell? ⟨b_n,0,none⟩ = some (.int .i64 t.f0) ∧ w'.cell? ⟨b_n,1,none⟩ = some (.int .i64 t.f1) ∧ w'.cell? ⟨b_n,2,none⟩ = some (.slice A1 t.f2.length c1) ∧ w'.cell? ⟨g,0,none⟩ = some (.slice AT_ l.length cT_) ∧ w'.cell? ⟨g,1,none⟩ = some (.int .i64 (s.i)) ∧ w'.cell? ⟨g,2,none⟩ = some (.int .i64 (s.n)) ∧ w'.cell? ⟨g,3,none⟩ = some (.int .i64 (s.d)) ∧ w'.cell? ⟨g,4,none⟩ = some (.int .i64 (s.e))) (ds := []) #[false,false,false,false,false,false,false,false] (by kernel_rfl) rfl rfl ⟨zbe,zbf,zbg,zas,zat,zau,zav,zaw⟩ (fun hHeld => ?_)
 generalize w5.drew = w6 at LC HI zah zbr zba zbN zbe zbf zbg zas zat zau zav zaw zbj zbk zbl zaM zaN zaO zaP zaQ hHeld ⊢
 refine pure_ (i := 1) (N := some 27) (v := ?_) (a' := ?_) #[false,true,false,false,false,false,false,false] rfl rfl (by kernel_rfl) (fun _ _ _ h => h) (Or.inl ⟨by rfl,?_⟩) ?_ ?_
 rotate_left
 ·intro w'
  go_simp
  with_reducible rfl
 rotate_left
 ·simp only [Act.put,List.setIfInBounds_toArray,List.set_cons_zero,List.set_cons_succ,i64_w,i32_w]
  rfl
 refine pure_ (i := 2) (N := some 28) (v := ?_) (a' := ?_) #[false,true,true,false,false,false,false,false] rfl rfl (by kernel_rfl) (fun _ _ _ h => h) (Or.inl ⟨by rfl,?_⟩) ?_ ?_
 rotate_left
 ·intro w'
  go_simp
  with_reducible rfl
 rotate_left
 ·simp only [Act.put,List.setIfInBounds_toArray,List.set_cons_zero,List.set_cons_succ,i64_w,i32_w]
  rfl
 refine pure_ (i := 3) (N := some 29) (v := ?_) (a' := ?_) #[false,true,true,true,false,false,false,false] rfl rfl (by kernel_rfl) (fun _ _ _ h => h) (Or.inl ⟨by rfl,?_⟩) ?_ ?_
 rotate_left
 ·intro w'
  go_simp
  with_reducible rfl
 rotate_left
 ·simp only [Act.put,List.setIfInBounds_toArray,List.set_cons_zero,List.set_cons_succ,i64_w,i32_w]
  rfl
 refine take_ (i := 0) (N := some 26) (v := ?_) (a' := ?_) #[true,true,true,true,false,false,false,false] rfl rfl (by kernel_rfl) (fun _ _ _ h => h) (Or.inl ⟨by rfl,?_⟩) hHeld ?_ ?_
 rotate_left
 ·rintro w' ⟨s0,s1,s2,s3,s4,s5,s6,s7⟩
  go_simp
  with_reducible rfl
 rotate_left
 ·simp only [Act.put,List.setIfInBounds_toArray,List.set_cons_zero,List.set_cons_succ,i64_w,i32_w]
  rfl
 refine take_ (i := 4) (N := some 30) (v := ?_) (a' := ?_) #[true,true,true,true,true,false,false,false] rfl rfl (by kernel_rfl) (fun _ _ _ h => h) (Or.inl ⟨by rfl,?_⟩) hHeld ?_ ?_
 rotate_left
 ·rintro w' ⟨s0,s1,s2,s3,s4,s5,s6,s7⟩
  go_simp
  with_reducible rfl
 rotate_left
 ·simp only [Act.put,List.setIfInBounds_toArray,List.set_cons_zero,List.set_cons_succ,i64_w,i32_w]
  rfl
 refine one_ (i := 5) (N := none) #[true,true,true,true,true,true,false,false] rfl rfl (by kernel_rfl) (by decide) (fun K hK => ?_)
 refine store3_step (by rfl) rfl (b := b_r) (y0 := .int .i64 t.f0) (y1 := .int .i64 t.f1) (y2 := .slice A1 t.f2.length c1) ?hr zah.out ?_
 case hr => (obtain ⟨q0_,f0_,q1_,f1_,q2_,f2_⟩ := cells3 zah.out;go_simp;try rfl)
 intro w7 hx hk zax
 clear zbe zbj zbf zbk zbg zbl zas zaM zat zaN zau zaO zav zaP zaw zaQ
 replace zbN := am (VV.store zbN.out hk (by simp))
 replace zah := am (hx)
 replace zbr := am (blk_kept zbr.out hk (by first | exact NE_n_r.out | exact (fun e_ => zbI.out e_.symm)))
 replace zba := am (blk_kept zba.out hk (by first | exact zcu.out | exact (fun e_ => NE_r_G.out e_.symm)))
 replace HI := am (St.store HI.out hk zao.out)
 replace LC := am (Loc.store LC.out (b := b_r) (by simp) hk (zax _))
 obtain ⟨ze2,ze3,ze4,ze5,ze6,ze7⟩ := cells3 zah.out
 obtain ⟨zbe,zbj,zbf,zbk,zbg,zbl⟩ := cells3 zbr.out
 obtain ⟨zas,zaM,zat,zaN,zau,zaO,zav,zaP,zaw,zaQ⟩ := cells5 zba.out
 clear hx hk zax
 refine hK.out _ _ ⟨zbe,zbf,zbg,zas,zat,zau,zav,zaw⟩ (fun hHeld => ?_)
 clear hK K
 refine pure_ (i := 6) (N := some 3) (v := ?_) (a' := ?_) #[true,true,true,true,true,true,true,false] rfl rfl (by kernel_rfl) (fun _ _ _ h => h) (Or.inl ⟨by rfl,?_⟩) ?_ ?_
 rotate_left
 ·intro w'
  go_simp
  with_reducible rfl
 rotate_left
 ·simp only [Act.put,List.setIfInBounds_toArray,List.set_cons_zero,List.set_cons_succ,i64_w,i32_w]
  rfl
 refine pure_ (i := 7) (N := some 4) (v := ?_) (a' := ?_) #[true,true,true,true,true,true,true,true] rfl rfl (by kernel_rfl) (fun _ _ _ h => h) (Or.inl ⟨by rfl,?_⟩) ?_ ?_
 rotate_left
 ·intro w'
  go_simp
  with_reducible rfl
 rotate_left
 ·simp only [Act.put,List.setIfInBounds_toArray,List.set_cons_zero,List.set_cons_succ,i64_w,i32_w]
  rfl
 refine done_ (by kernel_rfl) ?_
 clear ze2 ze3 ze4 ze5 ze6 ze7 zbe zbj zbf zbk zbg zbl zas zaM zat zaN zau zaO zav zaP zaw zaQ
 clear zba
 obtain ⟨AT_,cT_,zaq,zai,zaj,zak,zal,zac,zad,zae,zaf⟩ := HI.out.cells_
 obtain ⟨ze2,ze3,ze4,ze5,ze6,ze7⟩ := cells3 zah.out
 obtain ⟨zbe,zbj,zbf,zbk,zbg,zbl⟩ := cells3 zbr.out
 go_wp2
 refine bodyPost_ret (results_ctt rfl _ _ b_r 25 (ncells t A1 c1) (0,0) _ rfl zah.out Tryd.underlying25 rfl (by kernel_rfl)) rfl ?_
 exact ⟨_,rfl,zbN.out.out,LC.out.out.1⟩
theorem parse_calls {l : List Tk} {k : Nat} (A : Option Addr) (c : Nat) (w : World) (t : Nd) (s : PSt) (hC : Kd.C k63 w A l.length l) (hr : run l k (.tree 1) ⟨0,0,0,0⟩ = some (t,s)) :
  Calls Tryd.prog 13 #[.slice A l.length c] w fun e w' => ∃ v,e = .returned (.tuple #[.agg #[.int .i64 (parsed t s).1.f0,.int .i64 (parsed t s).1.f1,v],.int .i64 (parsed t s).2.1,.int .i64 (parsed t s).2.2]) ∧ Kd.V k25 25 w' w.heap.size (fun k => w.heap.size ≤ k) v (parsed t s).1.f2 ∧ Below w.heap.size w w' := by
 by_cases c1 : s.e = 0
 ·have := parse_ok A c w t s hC hr c1
  unfold parsed
  rw [if_pos c1]
  exact this
 ·have := parse_err A c w t s hC hr c1
  unfold parsed
  rw [if_neg c1]
  exact this
end Go.Proofs.YtgnmdhnlcibbiaaDoor.P
end
section
namespace Go.Proofs.YtgnmdhnlcibbiaaDoor.P
open Go.RowKit Go.Proofs.PrintWords Go.Proofs.PrintLast Go.Proofs.PrintMore
set_option linter.unusedVariables false
set_option linter.unusedSimpArgs false
def flatP (r : Nd × PSt) : Int × Int × List S25 × Int × Int := ((parsed r.1 r.2).1.f0,(parsed r.1 r.2).1.f1,(parsed r.1 r.2).1.f2,(parsed r.1 r.2).2.1,(parsed r.1 r.2).2.2)
def tree_Parse.f (k : Nat) (l0 : List S63) : Option (Int × Int × List S25 × Int × Int) := (run l0 k (.tree 1) ⟨0,0,0,0⟩).bind fun r => some (flatP r)
theorem tree_Parse.calls (k : Nat) (A0 : Option Addr) (c0 : Nat) (l0 : List S63) (r1 : Int) (r2 : Int) (r3 : List S25) (r4 : Int) (r5 : Int) (w : World) (hr0 : Kd.C k63 w A0 l0.length l0) (hc0 : l0.length ≤ c0) (h : tree_Parse.f k l0 = some (r1,r2,r3,r4,r5)) :
  Calls Tryd.prog 13 #[.slice A0 l0.length c0] w fun e w' => ∃ v2_ : Value,e = .returned (.tuple #[.agg #[.int .i64 r1,.int .i64 r2,v2_],.int .i64 r4,.int .i64 r5]) ∧ Kd.V k25 25 w' w.heap.size (fun k_ => w.heap.size ≤ k_) v2_ r3 ∧ Below w.heap.size w w' := by
 obtain ⟨⟨t,s⟩,h1,h2⟩ := Option.bind_eq_some_iff.mp h
 have h2 := Option.some.inj h2
 simp only [flatP,Prod.mk.injEq] at h2
 obtain ⟨rfl,rfl,rfl,rfl,rfl⟩ := h2
 exact parse_calls A0 c0 w t s hr0 h1
end Go.Proofs.YtgnmdhnlcibbiaaDoor.P
end
