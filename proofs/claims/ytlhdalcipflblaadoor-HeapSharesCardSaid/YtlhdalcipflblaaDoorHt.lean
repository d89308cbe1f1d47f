/- Walks of the laws of layer 10: awake; what comes in. -/
import Derived.Test.YtlhdalcipflblaaDoorHr
import Derived.Test.YtlhdalcipflblaaDoorHyE
import Derived.Test.YtlhdalcipflblaaDoorEngB
set_option linter.unusedSimpArgs false
set_option linter.unusedVariables false
namespace Go.Hp
open Go Go.Eng Go.Pw1
theorem calls_mono {P : Program} {f : FuncId} {args : Array Value} {w : World} {R R' : Ending → World → Prop} (h : Calls P f args w R) (hr : ∀ e w', R e w' → R' e w') : Calls P f args w R' :=
  fun cs => let ⟨e, w', fr, r, s⟩ := h cs; ⟨e, w', fr, hr _ _ r, s⟩
theorem own_oz {l : List Int} (hl : 0 < l.length) {x : Eng.Own} (h : OwnOk 1 x l.length (intsW l).flatten) : ∃ z : OZ, ownV x l.length = .slice (some ⟨z.1, 0, none⟩) l.length z.2.1 ∧ ownB 3 x (intsW l).flatten = ozB z (intsW l).flatten := by
  obtain ⟨b, c, r, rfl, _⟩ := h.has hl
  exact ⟨(b, c, r), rfl, rfl⟩
abbrev bxSh : Sh := .st [.int .i64, .sl .str]
abbrev tnSh : Sh := .st [.int .i64, .str, .str]
abbrev mxSh : Sh := .st [.sl bxSh, .sl tnSh]
theorem rd_tn {w : World} {cs : List Value} (h : Rd w tnSh cs) : ∃ t : Tn, cs = t.cells := by
  cases h with
  | recS h1 h2 =>
  cases h1
  cases h2 with
  | recS h1 h2 =>
  cases h1 with
  | @str s1 _ =>
  cases h2 with
  | recS h1 h2 =>
  cases h1 with
  | @str s2 _ =>
  cases h2
  exact ⟨⟨_, s1.data.toList, s2.data.toList⟩, rfl⟩
theorem rowsH_of {α : Type} {f : α → List Value} {p : α → Prop} : ∀ {xs : List (List Value)}, (∀ x ∈ xs, ∃ a, x = f a ∧ p a) → ∃ l : List α, xs = l.map f ∧ ∀ a ∈ l, p a
  | [], _ => ⟨[], rfl, fun a h => by cases h⟩
  | x :: xs, h => by
    obtain ⟨a, rfl, ha⟩ := h x (by simp)
    obtain ⟨l, rfl, hl⟩ := rowsH_of (xs := xs) (fun y hy => h y (List.mem_cons_of_mem _ hy))
    exact ⟨a :: l, rfl, fun b hb => by rcases List.mem_cons.1 hb with rfl | hb; exact ha; exact hl b hb⟩
theorem rd_str {w : World} {cs : List Value} (h : Rd w .str cs) : ∃ s : Str, cs = [.string (bs s)] ∧ True := by
  cases h with
  | @str s _ => exact ⟨s.data.toList, by simp [bs], trivial⟩
theorem rd_bx {w : World} {cs : List Value} (h : Rd w bxSh cs) : ∃ x : BxA, cs = x.cells ∧ TOk w x := by
  cases h with
  | recS h1 h2 =>
  cases h1
  cases h2 with
  | recS h1 h2 =>
  cases h2
  cases h1 with
  | slNil => exact ⟨⟨⟨_, []⟩, none, 0, 0, 0⟩, rfl, Sl.emp⟩
  | sl hs hl hc hx =>
    obtain ⟨ts, rfl, _⟩ := rowsH_of (f := fun s : Str => [Value.string (bs s)]) (fun x hx' => rd_str (hx x hx'))
    exact ⟨⟨⟨_, ts⟩, some _, _, _, _⟩, by rw [List.length_map]; rfl, hs⟩
theorem rd_bxs {w : World} {cs : List Value} (h : Rd w (.sl bxSh) cs) : ∃ (l : List BxA) (q : Option Addr) (b o cap : Nat), cs = [Value.slice q l.length cap] ∧ Sl w q b o 2 (l.map BxA.cells) ∧ ∀ x ∈ l, TOk w x := by
  cases h with
  | slNil => exact ⟨[], none, 0, 0, 0, rfl, Sl.emp, fun x h => by cases h⟩
  | sl hs hl hc hx =>
    obtain ⟨l, rfl, hl2⟩ := rowsH_of (f := BxA.cells) (fun x hx' => rd_bx (hx x hx'))
    exact ⟨l, some _, _, _, _, by rw [List.length_map], hs, hl2⟩
theorem rd_tns {w : World} {cs : List Value} (h : Rd w (.sl tnSh) cs) : ∃ (l : List Tn) (q : Option Addr) (b o cap : Nat), cs = [Value.slice q l.length cap] ∧ Sl w q b o 3 (l.map Tn.cells) := by
  cases h with
  | slNil => exact ⟨[], none, 0, 0, 0, rfl, Sl.emp⟩
  | sl hs hl hc hx =>
    obtain ⟨l, rfl, _⟩ := rowsH_of (f := Tn.cells) (p := fun _ => True) (fun x hx' => by obtain ⟨t, h⟩ := rd_tn (hx x hx'); exact ⟨t, h, trivial⟩)
    exact ⟨l, some _, _, _, _, by rw [List.length_map], hs⟩
theorem rd_mx {w : World} {cs : List Value} (h : Rd w mxSh cs) : ∃ m : MxA, cs = m.cells ∧ MOk w m := by
  cases h with
  | recS h1 h2 =>
  cases h2 with
  | recS h2 h3 =>
  cases h3
  obtain ⟨l, q, b, o, cap, rfl, hb, hT⟩ := rd_bxs h1
  obtain ⟨l2, q2, b2, o2, cap2, rfl, hc⟩ := rd_tns h2
  exact ⟨⟨l, q, b, o, cap, l2, q2, b2, o2, cap2⟩, rfl, ⟨hb, hT, hc⟩⟩
end Go.Hp
namespace Go.Proofs.YtlhdalcipflblaaDoor
open Go Go.Eng Go.Hp Go.Pw1

theorem smFits (z : SZ) (W : World) (h : SmAt W z []) : Calls Tryd.prog 14 #[(smA z []).v, .int .i64 0] W (Pure (.tuple #[.int .i64 10, .int .i64 0]) W) := by
  have h1 := fits_calls (smA z []) (sm_sm0 z) 0 W (sm_ok h)
  rwa [sm_pl, sm_fits] at h1
theorem smCount (z : SZ) (W : World) (h : SmAt W z []) : Calls Tryd.prog 19 #[(smA z []).v] W (Pure (.tuple #[.int .i64 2, .int .i64 0]) W) := by
  have h1 := counth_calls (smA z []) (sm_sm0 z) W (sm_ok h)
  rwa [sm_pl, sm_count] at h1
theorem smShare (z : SZ) (W : World) (h : SmAt W z []) : Calls Tryd.prog 21 #[(smA z []).v, .int .i64 0, .int .i64 3] W (Pure (.tuple #[.int .i64 1, .int .i64 0]) W) := by
  have h1 := shareh_calls (smA z []) (sm_sm0 z) 0 3 W (sm_ok h)
  rwa [sm_pl, sm_share] at h1
theorem smFirst (z : SZ) (W : World) (h : SmAt W z []) : Calls Tryd.prog 23 #[(smA z []).v] W (News (fun y : OZ => .tuple #[.slice (some ⟨y.1, 0, none⟩) 3 y.2.1, .int .i64 0]) (fun y => ozB y [.int .i64 1, .int .i64 3, .int .i64 4]) W) := by
  have h1 := first_calls (smA z []) (sm_sm0 z) W (sm_ok h) sm_ways
  rw [sm_pl, sm_first] at h1
  refine calls_mono h1 ?_
  rintro e w' ⟨⟨x, hx⟩, rfl, hm⟩
  obtain ⟨y, e1, e2⟩ := own_oz (l := [1, 3, 4]) (by decide) hx
  simp only [List.append_nil] at hm
  rw [e2] at hm
  exact ⟨y, congrArg (fun v => Ending.returned (Value.tuple #[v, .int .i64 0])) e1, hm⟩
theorem smSure (z : SZ) (W : World) (h : SmAt W z []) : Calls Tryd.prog 25 #[(smA z []).v] W (News (fun y : OZ => .tuple #[.slice (some ⟨y.1, 0, none⟩) 3 y.2.1, .int .i64 0]) (fun y => ozB y [.int .i64 (-1), .int .i64 (-1), .int .i64 4]) W) := by
  have h1 := sure_calls (smA z []) (sm_sm0 z) W (sm_ok h) sm_ways
  rw [sm_pl, sm_sure] at h1
  refine calls_mono h1 ?_
  rintro e w' ⟨⟨x, hx⟩, rfl, hm⟩
  obtain ⟨y, e1, e2⟩ := own_oz (l := [-1, -1, 4]) (by decide) hx
  simp only [List.append_nil] at hm
  rw [e2] at hm
  exact ⟨y, congrArg (fun v => Ending.returned (Value.tuple #[v, .int .i64 0])) e1, hm⟩
theorem smLost (z : SZ) (W : World) (h : SmAt W z []) : Calls Tryd.prog 27 #[(smA z []).v] W (Pure (.tuple #[.int .i64 5, .int .i64 5, .int .i64 0]) W) := by
  have h1 := lost_calls (smA z []) (sm_sm0 z) W (sm_ok h)
  rwa [sm_pl, sm_lost] at h1
theorem smWhy (z : SZ) (W : World) (h : SmAt W z [smMore]) : Calls Tryd.prog 16 #[(smA z [smMore]).v] W (Pure (.tuple #[.int .i64 11, .int .i64 11]) W) := by
  have h1 := why_calls (smA z [smMore]) (sm_sm1 z) W (sm_ok h)
  rwa [sm_pl, sm_why] at h1
theorem ozInts {y : OZ} {a b : List Int} {w : World} {bb : Nat} {cb : Nat} (h : w.heap[y.1]? = some (.cells ((intsW a).flatten ++ y.2.2).toArray 3 (0, 0))) (h2 : w.heap[bb]? = some (.cells (intsW b).flatten.toArray 3 (0, 0))) (ha : a.length ≤ 1000) (hb : b.length ≤ 1000) :
    Calls Tryd.prog 29 #[.slice (some ⟨y.1, 0, none⟩) a.length y.2.1, .slice (some ⟨bb, 0, none⟩) b.length cb] w (Pure (.bool (decide (a = b))) w) :=
  rInts_calls a b _ y.1 0 _ _ bb 0 _ ha hb w (Sl.rowsR (t := y.2.2) h (fun x hx => by obtain ⟨a, _, rfl⟩ := List.mem_map.1 hx; rfl)) (Sl.rows h2 (fun x hx => by obtain ⟨a, _, rfl⟩ := List.mem_map.1 hx; rfl))
set_option maxRecDepth 4000 in
theorem hawake_calls (W : World) : Calls Tryd.prog 13 #[] W (Pure (.bool true) W) := by
  refine calls_start Tryd.func13 rfl rfl ?_
  refine RunC.seq ?_
  refine RunC.region ?_
  refine RunL.val (Val.pure rfl) rfl rfl rfl ?_
  refine RunL.nil ?_
  refine RunE.next ?_
  refine RunC.seq ?_
  refine RunC.region ?_
  refine RunL.callN (isCall_func rfl ent_37) rfl rfl rfl (fun w hm => sample0_calls w) (fun b17 => ?_)
  refine RunL.callP (isCall_func rfl ent_14) rfl rfl rfl (fun w hm => smFits b17 w ⟨hm.at (.head _), hm.at (.tail _ (.head _)), hm.at (.tail _ (.tail _ (.head _))), hm.at (.tail _ (.tail _ (.tail _ (.head _))))⟩) ?_
  iterate 5 refine RunL.val (Val.pure rfl) rfl rfl rfl ?_
  refine RunL.nil ?_
  refine RunE.next ?_
  refine RunC.seq ?_
  refine RunC.region ?_
  refine RunL.callN (isCall_func rfl ent_37) rfl rfl rfl (fun w hm => sample0_calls w) (fun b22 => ?_)
  refine RunL.callP (isCall_func rfl ent_19) rfl rfl rfl (fun w hm => smCount b22 w ⟨hm.at (.head _), hm.at (.tail _ (.head _)), hm.at (.tail _ (.tail _ (.head _))), hm.at (.tail _ (.tail _ (.tail _ (.head _))))⟩) ?_
  iterate 5 refine RunL.val (Val.pure rfl) rfl rfl rfl ?_
  refine RunL.nil ?_
  refine RunE.next ?_
  refine RunC.seq ?_
  refine RunC.region ?_
  refine RunL.callN (isCall_func rfl ent_37) rfl rfl rfl (fun w hm => sample0_calls w) (fun b27 => ?_)
  refine RunL.callP (isCall_func rfl ent_21) rfl rfl rfl (fun w hm => smShare b27 w ⟨hm.at (.head _), hm.at (.tail _ (.head _)), hm.at (.tail _ (.tail _ (.head _))), hm.at (.tail _ (.tail _ (.tail _ (.head _))))⟩) ?_
  iterate 5 refine RunL.val (Val.pure rfl) rfl rfl rfl ?_
  refine RunL.nil ?_
  refine RunE.next ?_
  refine RunC.seq ?_
  refine RunC.region ?_
  refine RunL.callN (isCall_func rfl ent_37) rfl rfl rfl (fun w hm => sample0_calls w) (fun b32 => ?_)
  refine RunL.callN (isCall_func rfl ent_23) rfl rfl rfl (fun w hm => smFirst b32 w ⟨hm.at (.head _), hm.at (.tail _ (.head _)), hm.at (.tail _ (.tail _ (.head _))), hm.at (.tail _ (.tail _ (.tail _ (.head _))))⟩) (fun b33 => ?_)
  iterate 5 refine RunL.val (Val.pure rfl) rfl rfl rfl ?_
  refine RunL.nil ?_
  refine RunE.next ?_
  refine RunC.seq ?_
  refine RunC.region ?_
  refine RunL.callN (isCall_func rfl ent_37) rfl rfl rfl (fun w hm => sample0_calls w) (fun b37 => ?_)
  refine RunL.callN (isCall_func rfl ent_25) rfl rfl rfl (fun w hm => smSure b37 w ⟨hm.at (.head _), hm.at (.tail _ (.head _)), hm.at (.tail _ (.tail _ (.head _))), hm.at (.tail _ (.tail _ (.tail _ (.head _))))⟩) (fun b38 => ?_)
  iterate 5 refine RunL.val (Val.pure rfl) rfl rfl rfl ?_
  refine RunL.nil ?_
  refine RunE.next ?_
  refine RunC.seq ?_
  refine RunC.region ?_
  refine RunL.callN (isCall_func rfl ent_37) rfl rfl rfl (fun w hm => sample0_calls w) (fun b42 => ?_)
  refine RunL.callP (isCall_func rfl ent_27) rfl rfl rfl (fun w hm => smLost b42 w ⟨hm.at (.head _), hm.at (.tail _ (.head _)), hm.at (.tail _ (.tail _ (.head _))), hm.at (.tail _ (.tail _ (.tail _ (.head _))))⟩) ?_
  iterate 7 refine RunL.val (Val.pure rfl) rfl rfl rfl ?_
  refine RunL.nil ?_
  refine RunE.next ?_
  refine RunC.seq ?_
  refine RunC.region ?_
  refine RunL.callP (isCall_func rfl ent_38) rfl rfl rfl (fun w hm => torn_calls _ _ w) ?_
  refine RunL.new (New.buildSlice (parts := [(0, .tmp 48)]) rfl sl_23 zero_50 rfl rfl rfl rfl) rfl rfl rfl (fun b49 => ?_)
  refine RunL.callN (isCall_func rfl ent_37) rfl rfl rfl (fun w hm => sample1_calls b49 w (hm.at (.head _))) (fun b50 => ?_)
  refine RunL.callP (isCall_func rfl ent_16) rfl rfl rfl (fun w hm => smWhy b50 w ⟨hm.at (.head _), hm.at (.tail _ (.head _)), hm.at (.tail _ (.tail _ (.head _))), hm.at (.tail _ (.tail _ (.tail _ (.head _))))⟩) ?_
  iterate 5 refine RunL.val (Val.pure rfl) rfl rfl rfl ?_
  refine RunL.nil ?_
  refine RunE.next ?_
  refine RunC.seq ?_
  refine RunC.region ?_
  iterate 3 refine RunL.val (Val.pure rfl) rfl rfl rfl ?_
  refine RunL.sure (dj := 56) true rfl (by simp) ?_
  iterate 4 refine RunL.val (Val.pure rfl) rfl rfl rfl ?_
  refine RunL.sure (dj := 60) true rfl (by simp) ?_
  iterate 4 refine RunL.val (Val.pure rfl) rfl rfl rfl ?_
  refine RunL.sure (dj := 64) true rfl (by simp) ?_
  iterate 4 refine RunL.val (Val.pure rfl) rfl rfl rfl ?_
  refine RunL.sure (dj := 68) true rfl (by simp) ?_
  iterate 4 refine RunL.val (Val.pure rfl) rfl rfl rfl ?_
  refine RunL.sure (dj := 72) true rfl (by simp) ?_
  iterate 4 refine RunL.val (Val.pure rfl) rfl rfl rfl ?_
  refine RunL.sure (dj := 76) true rfl (by simp) ?_
  refine RunL.val (Val.pure rfl) rfl rfl rfl ?_
  refine RunL.new (New.buildSlice (parts := [(0, .const (.int .i64 1)), (1, .const (.int .i64 3)), (2, .const (.int .i64 4))]) rfl sl_34 zero_3 rfl rfl rfl rfl) rfl rfl rfl (fun b78 => ?_)
  refine RunL.callP (isCall_func rfl ent_29) rfl rfl rfl (fun w hm => ozInts (y := b33) (a := [1, 3, 4]) (b := [1, 3, 4]) (hm.at (.tail _ (.tail _ (.tail _ (.tail _ (.tail _ (.tail _ (.tail _ (.tail _ (.tail _ (.tail _ (.tail _ (.tail _ (.tail _ (.tail _ (.tail _ (.head _))))))))))))))))) (hm.at (.head _)) (by decide) (by decide)) ?_
  refine RunL.val (Val.pure rfl) rfl rfl rfl ?_
  refine RunL.val (Val.pure rfl) rfl rfl rfl ?_
  refine RunL.sure (dj := 81) true rfl (by simp) ?_
  iterate 4 refine RunL.val (Val.pure rfl) rfl rfl rfl ?_
  refine RunL.sure (dj := 85) true rfl (by simp) ?_
  refine RunL.val (Val.pure rfl) rfl rfl rfl ?_
  refine RunL.new (New.buildSlice (parts := [(0, .const (.int .i64 (-1))), (1, .const (.int .i64 (-1))), (2, .const (.int .i64 4))]) rfl sl_34 zero_3 rfl rfl rfl rfl) rfl rfl rfl (fun b87 => ?_)
  refine RunL.callP (isCall_func rfl ent_29) rfl rfl rfl (fun w hm => ozInts (y := b38) (a := [-1, -1, 4]) (b := [-1, -1, 4]) (hm.at (.tail _ (.tail _ (.tail _ (.tail _ (.tail _ (.tail _ (.tail _ (.tail _ (.tail _ (.tail _ (.tail _ (.head _))))))))))))) (hm.at (.head _)) (by decide) (by decide)) ?_
  refine RunL.val (Val.pure rfl) rfl rfl rfl ?_
  refine RunL.val (Val.pure rfl) rfl rfl rfl ?_
  refine RunL.sure (dj := 90) true rfl (by simp) ?_
  iterate 4 refine RunL.val (Val.pure rfl) rfl rfl rfl ?_
  refine RunL.sure (dj := 94) true rfl (by simp) ?_
  iterate 4 refine RunL.val (Val.pure rfl) rfl rfl rfl ?_
  refine RunL.sure (dj := 98) true rfl (by simp) ?_
  iterate 4 refine RunL.val (Val.pure rfl) rfl rfl rfl ?_
  refine RunL.sure (dj := 102) true rfl (by simp) ?_
  iterate 4 refine RunL.val (Val.pure rfl) rfl rfl rfl ?_
  refine RunL.sure (dj := 106) true rfl (by simp) ?_
  iterate 4 refine RunL.val (Val.pure rfl) rfl rfl rfl ?_
  refine RunL.sure (dj := 110) true rfl (by simp) ?_
  iterate 4 refine RunL.val (Val.pure rfl) rfl rfl rfl ?_
  refine RunL.nil ?_
  refine RunE.next ?_
  refine RunC.ret ?_
  exact RunE.retP (.r1 rfl (.tmp rfl)) (by first | rfl | simp)
end Go.Proofs.YtlhdalcipflblaaDoor
